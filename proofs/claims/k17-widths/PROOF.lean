import PyProof.Rows.All
import Wide.All
import OpenK.AllK
import Wide.FinOn
import HandS.ForMost
import HandS.ForExc
import HandS.Wide
import HandS.WideBits
import HandS.SortInts
import HandS.Conv
import HandS.Walk
import KE.GoesNew
import KE.GoesEnum
import KE.GoesMore
import HandS.Deep
import HandS.More
import HandS.NoneIn
import KE.KDictZip
import HandS.MapObj
import HandS.SortRule
import HandS.Keys
import KE.DataFind
import HandS.Head0
import HandS.Head1
import HandS.Head2
import HandS.HeadEnd
import HandS.HeadHook1
import HandS.HeadHook2
import HandS.HeadHook3
import HandS.HeadHook4
import PySem.Challenge.RW_markwords_k17_whole_widths_all
set_option Elab.async false
set_option linter.all false
set_option maxRecDepth 100000
set_option maxHeartbeats 4000000
/-! The D layer: values as plain trees, slots, cells; over the hand layer. -/
namespace MW
open PySem PySem.Spec PyProof.Rows L2

/-- a value as plain data; ref: a cell (or any other object) by its address -/
inductive D where
  | non | bl (b : Bool) | int (i : Int) | str (x : Str) | tup (xs : List D) | lst (xs : List D) | dic (kvs : List (Key × D)) | ref (a : Addr) | ty (n : String) | frl (xs : List D) | bad
/-- what stands in a mutable cell -/
inductive MO where
  | lst (xs : List D) | dic (kvs : List (Key × D)) | ins (C : Addr) (fs : List (Str × D))
abbrev MS := Addr → Option MO
/-- a slot: nothing known, a value, a list or a dict that this slot alone has -/
inductive SV where
  | no | d (x : D) | own (xs : List D) | ownD (kvs : List (Key × D))
abbrev DS := List SV
/-- a value on the way: a datum, or what the slot i has -/
inductive T where
  | v (x : D) | s (i : Nat)

mutual
inductive Rep (K : PySem.W.Frag) (F : Hp) : D → V → Prop
  | non : Rep K F .non .non
  | bl (b : Bool) : Rep K F (.bl b) (.bl b)
  | int (i : Int) : Rep K F (.int i) (.int i)
  | str (x : Str) : Rep K F (.str x) (.str x)
  | ty (n : String) : Rep K F (.ty n) (.ty n)
  | ref (a : Addr) : Rep K F (.ref a) (.ref a)
  | lst {a : Addr} {xs : List D} {vs : List V} : F a = some (.lst vs) → RepAll K F xs vs → Rep K F (.lst xs) (.ref a)
  | frl {a : Addr} {xs : List D} {vs : List V} : SqL K F a vs → RepAll K F xs vs → Rep K F (.frl xs) (.ref a)
  | tup {a : Addr} {xs : List D} {vs : List V} : SqT K F a vs → RepAll K F xs vs → Rep K F (.tup xs) (.ref a)
  | dic {a : Addr} {kvs : List (Key × D)} {ws : List (Key × V)} : F a = some (.dK ws) → RepKV K F kvs ws → Rep K F (.dic kvs) (.ref a)
inductive RepAll (K : PySem.W.Frag) (F : Hp) : List D → List V → Prop
  | nil : RepAll K F [] []
  | cons {x : D} {xs : List D} {v : V} {vs : List V} : Rep K F x v → RepAll K F xs vs → RepAll K F (x :: xs) (v :: vs)
inductive RepKV (K : PySem.W.Frag) (F : Hp) : List (Key × D) → List (Key × V) → Prop
  | nil : RepKV K F [] []
  | cons {k : Key} {x : D} {xs : List (Key × D)} {v : V} {vs : List (Key × V)} : Rep K F x v → RepKV K F xs vs → RepKV K F ((k, x) :: xs) ((k, v) :: vs)
end

theorem sqL_mono {K : PySem.W.Frag} {H H' : Hp} {a : Addr} {xs : List V} (e : Same H H') (h : SqL K H a xs) : SqL K H' a xs := e.seq h
theorem sqT_mono {K : PySem.W.Frag} {H H' : Hp} {a : Addr} {xs : List V} (e : Same H H') (h : SqT K H a xs) : SqT K H' a xs := by
  rcases h with (h | ⟨o, h⟩) | h
  · exact .inl (.inl (e _ _ h))
  · exact .inl (.inr ⟨o, e _ _ h⟩)
  · exact .inr h
mutual
theorem Rep.mono {K : PySem.W.Frag} {F F' : Hp} (e : Same F F') : ∀ {x : D} {v : V}, Rep K F x v → Rep K F' x v
  | _, _, .non => .non
  | _, _, .bl b => .bl b
  | _, _, .int i => .int i
  | _, _, .str x => .str x
  | _, _, .ty n => .ty n
  | _, _, .ref a => .ref a
  | _, _, .lst h r => .lst (e _ _ h) (RepAll.mono e r)
  | _, _, .frl h r => .frl (sqL_mono e h) (RepAll.mono e r)
  | _, _, .tup h r => .tup (sqT_mono e h) (RepAll.mono e r)
  | _, _, .dic h r => .dic (e _ _ h) (RepKV.mono e r)
theorem RepAll.mono {K : PySem.W.Frag} {F F' : Hp} (e : Same F F') : ∀ {xs : List D} {vs : List V}, RepAll K F xs vs → RepAll K F' xs vs
  | _, _, .nil => .nil
  | _, _, .cons h t => .cons (Rep.mono e h) (RepAll.mono e t)
theorem RepKV.mono {K : PySem.W.Frag} {F F' : Hp} (e : Same F F') : ∀ {xs : List (Key × D)} {vs : List (Key × V)}, RepKV K F xs vs → RepKV K F' xs vs
  | _, _, .nil => .nil
  | _, _, .cons h t => .cons (Rep.mono e h) (RepKV.mono e t)
end
section
variable {K : PySem.W.Frag} {F H : Hp} {xs ys : List D} {vs us : List V} {x : D} {v : V} {i : Nat}
theorem RepAll.length : ∀ {xs : List D} {vs : List V}, RepAll K F xs vs → xs.length = vs.length
  | _, _, .nil => rfl
  | _, _, .cons _ t => by rw [List.length_cons, List.length_cons, RepAll.length t]
theorem RepAll.get : ∀ {xs : List D} {vs : List V} {i : Nat} {x : D}, RepAll K F xs vs → xs[i]? = some x → ∃ v, vs[i]? = some v ∧ Rep K F x v
  | _, _, _, _, .nil, h => by simp at h
  | _, _, 0, _, .cons r _, h => by simp at h; subst h; exact ⟨_, rfl, r⟩
  | _, _, i + 1, _, .cons _ t, h => by
    obtain ⟨v, h1, h2⟩ := RepAll.get (i := i) t (by simpa using h)
    exact ⟨v, by simpa using h1, h2⟩
theorem RepAll.getV : ∀ {xs : List D} {vs : List V} {i : Nat} {v : V}, RepAll K F xs vs → vs[i]? = some v → ∃ x, xs[i]? = some x ∧ Rep K F x v
  | _, _, _, _, .nil, h => by simp at h
  | _, _, 0, _, .cons r _, h => by simp at h; subst h; exact ⟨_, rfl, r⟩
  | _, _, i + 1, _, .cons _ t, h => by
    obtain ⟨v, h1, h2⟩ := RepAll.getV (i := i) t (by simpa using h)
    exact ⟨v, by simpa using h1, h2⟩
theorem RepAll.append : ∀ {xs : List D} {vs : List V}, RepAll K F xs vs → RepAll K F ys us → RepAll K F (xs ++ ys) (vs ++ us)
  | _, _, .nil, s => s
  | _, _, .cons r t, s => .cons r (RepAll.append t s)
theorem RepAll.take : ∀ {xs : List D} {vs : List V} (n : Nat), RepAll K F xs vs → RepAll K F (xs.take n) (vs.take n)
  | _, _, 0, _ => .nil
  | _, _, _ + 1, .nil => .nil
  | _, _, n + 1, .cons r t => .cons r (RepAll.take n t)
theorem RepAll.drop : ∀ {xs : List D} {vs : List V} (n : Nat), RepAll K F xs vs → RepAll K F (xs.drop n) (vs.drop n)
  | _, _, 0, r => r
  | _, _, _ + 1, .nil => .nil
  | _, _, n + 1, .cons _ t => RepAll.drop n t
theorem RepAll.set (r : Rep K F x v) : ∀ {xs : List D} {vs : List V} (i : Nat), RepAll K F xs vs → RepAll K F (xs.set i x) (vs.set i v)
  | _, _, _, .nil => .nil
  | _, _, 0, .cons _ t => .cons r t
  | _, _, i + 1, .cons q t => .cons q (RepAll.set r i t)
theorem RepAll.eraseIdx : ∀ {xs : List D} {vs : List V} (i : Nat), RepAll K F xs vs → RepAll K F (xs.eraseIdx i) (vs.eraseIdx i)
  | _, _, _, .nil => .nil
  | _, _, 0, .cons _ t => t
  | _, _, i + 1, .cons q t => .cons q (RepAll.eraseIdx i t)
theorem RepAll.one (r : Rep K F x v) : RepAll K F [x] [v] := .cons r .nil
theorem RepAll.rep : ∀ (k : Nat), RepAll K F xs vs → RepAll K F (List.replicate k xs).flatten (List.replicate k vs).flatten
  | 0, _ => .nil
  | k + 1, r => by
    rw [List.replicate_succ, List.replicate_succ, List.flatten_cons, List.flatten_cons]
    exact RepAll.append r (RepAll.rep k r)
theorem RepAll.reverse : ∀ {xs : List D} {vs : List V}, RepAll K F xs vs → RepAll K F xs.reverse vs.reverse
  | _, _, .nil => .nil
  | _, _, .cons r t => by
    rw [List.reverse_cons, List.reverse_cons]
    exact RepAll.append (RepAll.reverse t) (.one r)
theorem RepAll.ints : ∀ {ns : List Int} {vs : List V}, RepAll K F (ns.map D.int) vs → vs = ns.map V.int
  | [], _, h => by cases h; rfl
  | n :: ns, _, h => by
    rw [List.map_cons] at h
    cases h with
    | cons r t => cases r; rw [RepAll.ints t, List.map_cons]
theorem repAll_ints : ∀ (ns : List Int), RepAll K F (ns.map D.int) (ns.map V.int)
  | [] => .nil
  | n :: ns => .cons (.int n) (repAll_ints ns)
end

/-! ### the state -/
/-- a body's entry: the heap, what was frozen, the cells -/
structure Bs where
  H0 : Hp
  F0 : Hp
  M0 : MS
def Cell (K : PySem.W.Frag) (F H : Hp) (a : Addr) : MO → Prop
  | .lst xs => ∃ vs, H a = some (.lst vs) ∧ RepAll K F xs vs
  | .dic kvs => ∃ ws, H a = some (.dK ws) ∧ RepKV K F kvs ws
  | .ins C fs => ∃ dx ws, H a = some (.ins C dx ws) ∧ Paired (fun (p : Str × D) (q : Str × V) => p.1 = q.1 ∧ Rep K F p.2 q.2) fs ws
structure Ok0 (K : PySem.W.Frag) (B : Bs) (F : Hp) (M : MS) (H : Hp) : Prop where
  ext : Same B.F0 F
  fr : Same F H
  frNew : ∀ a, F a ≠ none → B.F0 a ≠ none ∨ B.H0 a = none
  mNew : ∀ a, M a ≠ none → B.M0 a ≠ none ∨ B.H0 a = none
  cell : ∀ a m, M a = some m → F a = none ∧ Cell K F H a m
  frame : ∀ a o, B.H0 a = some o → B.M0 a = none → H a = some o
  there : ∀ a, B.H0 a ≠ none → H a ≠ none
/-- an address that is ours alone -/
structure Loc (B : Bs) (F : Hp) (M : MS) (p : Addr) : Prop where
  h : B.H0 p = none
  f : F p = none
  m : M p = none
def SlotOk (K : PySem.W.Frag) (B : Bs) (F : Hp) (M : MS) (H : Hp) (o : Option V) : SV → Prop
  | .no => True
  | .d x => ∃ v, o = some v ∧ Rep K F x v
  | .own xs => ∃ p vs, o = some (.ref p) ∧ H p = some (.lst vs) ∧ RepAll K F xs vs ∧ Loc B F M p
  | .ownD kvs => ∃ p ws, o = some (.ref p) ∧ H p = some (.dK ws) ∧ RepKV K F kvs ws ∧ Loc B F M p
def isOwn : SV → Bool
  | .own _ => true
  | .ownD _ => true
  | _ => false
/-- slot i is an own one and stands at a -/
def OwnAt (ds : DS) (σ : L2.St) (i : Nat) (a : Addr) : Prop := (∃ sv, ds[i]? = some sv ∧ isOwn sv = true) ∧ σ[i]? = some (some (.ref a))
structure Ok (K : PySem.W.Frag) (B : Bs) (F : Hp) (M : MS) (ds : DS) (σ : L2.St) (H : Hp) : Prop where
  z : Ok0 K B F M H
  len : ds.length = σ.length
  slot : ∀ (i : Nat) (sv : SV) (o : Option V), ds[i]? = some sv → σ[i]? = some o → SlotOk K B F M H o sv
  inj : ∀ i j a, OwnAt ds σ i a → OwnAt ds σ j a → i = j
def RepT (K : PySem.W.Frag) (F : Hp) (σ : L2.St) : T → V → Prop
  | .v x, v => Rep K F x v
  | .s i, v => σ[i]? = some (some v)

/-! ### what is seen of a value on the way; taking it -/
def look (ds : DS) (M : MS) : T → D
  | .v (.ref a) => match M a with
    | some (.lst xs) => .lst xs
    | some (.dic kvs) => .dic kvs
    | _ => .ref a
  | .v x => x
  | .s i => match ds[i]? with
    | some (.own xs) => .lst xs
    | some (.ownD kvs) => .dic kvs
    | some (.d (.ref a)) => (match M a with
      | some (.lst xs) => .lst xs
      | some (.dic kvs) => .dic kvs
      | _ => .ref a)
    | some (.d x) => x
    | _ => .bad
def use (ds : DS) : T → Option (D × DS)
  | .v x => some (x, ds)
  | .s i => match ds[i]? with
    | some (.own xs) => some (.lst xs, ds.set i (.d (.lst xs)))
    | some (.ownD kvs) => some (.dic kvs, ds.set i (.d (.dic kvs)))
    | some (.d x) => some (x, ds)
    | _ => none

/-! ### exceptions -/
/-- an exception: its class's address, its fields (none: made with a text) -/
structure Exc where
  cls : Addr
  fs : Option (List (Str × D))
def RepX (K : PySem.W.Frag) (F H : Hp) (e : Exc) (cls : Value) (d : Option Addr) : Prop :=
  cls = .ref e.cls ∧ match e.fs with
    | none => d = none
    | some fs => ∃ dx ws, d = some dx ∧ H dx = some (.xd ws) ∧ Paired (fun (p : Str × D) (q : Str × V) => p.1 = q.1 ∧ Rep K F p.2 q.2) fs ws
abbrev EX := Exc → DS → MS → Prop
def wX (K : PySem.W.Frag) (B : Bs) (ex : EX) : WX := fun cls d σ H => ∃ e F M ds, Ok K B F M ds σ H ∧ RepX K F H e cls d ∧ ex e ds M

/-! ### readings -/
abbrev DK := T → DS → MS → Prop
abbrev DE := EX → DS → MS → DK → Prop
abbrev DT := EX → DS → MS → (Bool → DS → MS → Prop) → Prop
abbrev DA := EX → DS → MS → (List D → DS → MS → Prop) → Prop
/-- a new list (dict) that nobody has yet -/
abbrev DL := EX → DS → MS → (List D → DS → MS → Prop) → Prop
abbrev DD := EX → DS → MS → (List (Key × D) → DS → MS → Prop) → Prop
structure DEnds where
  nx : DS → MS → Prop
  rt : D → MS → Prop
  bk : DS → MS → Prop
  ct : DS → MS → Prop
  ex : EX
abbrev DST := DEnds → DS → MS → Prop

def cE (K : PySem.W.Frag) (B : Bs) (t : DS → MS → DK → Prop) : TE := fun σ H Q => ∃ F M ds k, Ok K B F M ds σ H ∧ t ds M k ∧
  ∀ x ds' M' F' H' v, k x ds' M' → Ok K B F' M' ds' σ H' → Same F F' → RepT K F' σ x v → Q v H'
def cT (K : PySem.W.Frag) (B : Bs) (t : DS → MS → (Bool → DS → MS → Prop) → Prop) : TT := fun σ H Q => ∃ F M ds k, Ok K B F M ds σ H ∧ t ds M k ∧
  ∀ b ds' M' F' H', k b ds' M' → Ok K B F' M' ds' σ H' → Same F F' → Q b H'
def cA (K : PySem.W.Frag) (B : Bs) (t : DS → MS → (List D → DS → MS → Prop) → Prop) : TA := fun σ H Q => ∃ F M ds k, Ok K B F M ds σ H ∧ t ds M k ∧
  ∀ xs ds' M' F' H' vs, k xs ds' M' → Ok K B F' M' ds' σ H' → Same F F' → RepAll K F' xs vs → Q vs H'
def cL (K : PySem.W.Frag) (B : Bs) (t : DS → MS → (List D → DS → MS → Prop) → Prop) : TE := fun σ H Q => ∃ F M ds k, Ok K B F M ds σ H ∧ t ds M k ∧
  ∀ xs ds' M' F' H' p vs, k xs ds' M' → Ok K B F' M' ds' σ H' → Same F F' → Loc B F' M' p → (∀ i, ¬ OwnAt ds' σ i p) → H' p = some (.lst vs) → RepAll K F' xs vs → Q (.ref p) H'
def cD (K : PySem.W.Frag) (B : Bs) (t : DS → MS → (List (Key × D) → DS → MS → Prop) → Prop) : TE := fun σ H Q => ∃ F M ds k, Ok K B F M ds σ H ∧ t ds M k ∧
  ∀ xs ds' M' F' H' p vs, k xs ds' M' → Ok K B F' M' ds' σ H' → Same F F' → Loc B F' M' p → (∀ i, ¬ OwnAt ds' σ i p) → H' p = some (.dK vs) → RepKV K F' xs vs → Q (.ref p) H'
structure EndsOk (K : PySem.W.Frag) (B : Bs) (ex : EX) (F0 : Hp) (E : DEnds) (D : Ends) : Prop where
  nx : ∀ ds M F σ H, E.nx ds M → Ok K B F M ds σ H → Same F0 F → D.nx σ H
  bk : ∀ ds M F σ H, E.bk ds M → Ok K B F M ds σ H → Same F0 F → D.bk σ H
  ct : ∀ ds M F σ H, E.ct ds M → Ok K B F M ds σ H → Same F0 F → D.ct σ H
  rt : ∀ x M F H v, E.rt x M → Ok0 K B F M H → Rep K F x v → D.rt v H
  ex : E.ex = ex
theorem EndsOk.mono {K : PySem.W.Frag} {B : Bs} {ex : EX} {F0 F1 : Hp} {E : DEnds} {D : Ends} (h : EndsOk K B ex F0 E D) (e : Same F0 F1) : EndsOk K B ex F1 E D :=
  ⟨fun ds M F σ H q ok s => h.nx ds M F σ H q ok (e.trans s), fun ds M F σ H q ok s => h.bk ds M F σ H q ok (e.trans s), fun ds M F σ H q ok s => h.ct ds M F σ H q ok (e.trans s), h.rt, h.ex⟩
def cS (K : PySem.W.Frag) (B : Bs) (ex : EX) (t : DST) : TS := fun D σ H => ∃ F M ds E, Ok K B F M ds σ H ∧ EndsOk K B ex F E D ∧ t E ds M

/-- where one stands -/
structure Lk (X : Cx) (B : Bs) (ex : EX) : Prop where
  calm : X.calm = true
  nd : X.N.Nodup
  po : PassesOwn (model X.prog X.w) X.A X.env X.xe
  tk : Takes X (wX X.K B ex)

def PD (X : Cx) (e : Expr) (t : DE) : Prop := ∀ B ex, Lk X B ex → PE X e (cE X.K B (t ex))
def PDT (X : Cx) (e : Expr) (t : DT) : Prop := ∀ B ex, Lk X B ex → PT X e (cT X.K B (t ex))
def PDA (X : Cx) (es : List Expr) (t : DA) : Prop := ∀ B ex, Lk X B ex → PA X es (cA X.K B (t ex))
def PDL (X : Cx) (e : Expr) (t : DL) : Prop := ∀ B ex, Lk X B ex → PE X e (cL X.K B (t ex))
def PDD (X : Cx) (e : Expr) (t : DD) : Prop := ∀ B ex, Lk X B ex → PE X e (cD X.K B (t ex))
def PDS (X : Cx) (st : Stmt) (t : DST) : Prop := ∀ B ex, Lk X B ex → PS X st (cS X.K B ex t)
def PDB (X : Cx) (sts : List Stmt) (t : DST) : Prop := ∀ B ex, Lk X B ex → PSs X sts (cS X.K B ex t)
end MW
namespace MW
open PySem PySem.Spec PyProof.Rows L2
section
variable {K : PySem.W.Frag} {B : Bs} {F F' H H' : Hp} {M M' : MS} {ds ds' : DS} {σ σ' : L2.St} {p : Addr} {o : HO}
def mset (M : MS) (a : Addr) (m : MO) : MS := fun b => if b = a then some m else M b
theorem mset_same {a : Addr} {m : MO} : mset M a m a = some m := by unfold mset; rw [if_pos rfl]
theorem mset_ne {a b : Addr} {m : MO} (h : b ≠ a) : mset M a m b = M b := by unfold mset; rw [if_neg h]
theorem mset_mset {a : Addr} {m m' : MO} : mset (mset M a m) a m' = mset M a m' := by
  funext b; unfold mset; split <;> rfl

theorem same_upd {H : Hp} (h : H p = none) : Same H (upd H p o) := fun b x e => by
  rw [upd_ne (ne_of_none e h)]
  exact e
theorem same_both (e : Same F H) (h : H p = none) : Same (upd F p o) (upd H p o) := fun b x q => by
  by_cases z : b = p
  · subst z; rw [upd_same] at q ⊢; exact q
  · rw [upd_ne z] at q ⊢; exact e b x q
theorem same_updR (e : Same F H) (h : F p = none) : Same F (upd H p o) := fun b x q => by
  rw [upd_ne (ne_of_none q h)]
  exact e b x q
theorem none_of_same (e : Same F H) (h : H p = none) : F p = none := e.free h

theorem Cell.at_ {a : Addr} {m : MO} (h : Cell K F H a m) : ∃ u, H a = some u := by
  cases m with
  | lst xs => obtain ⟨_, e, _⟩ := h; exact ⟨_, e⟩
  | dic xs => obtain ⟨_, e, _⟩ := h; exact ⟨_, e⟩
  | ins C fs => obtain ⟨_, _, e, _⟩ := h; exact ⟨_, e⟩
theorem repFs_mono (e : Same F F') : ∀ {fs : List (Str × D)} {ws : List (Str × V)}, Paired (fun (p : Str × D) (q : Str × V) => p.1 = q.1 ∧ Rep K F p.2 q.2) fs ws → Paired (fun (p : Str × D) (q : Str × V) => p.1 = q.1 ∧ Rep K F' p.2 q.2) fs ws
  | _, _, .nil => .nil
  | _, _, .cons r t => .cons ⟨r.1, r.2.mono e⟩ (repFs_mono e t)
theorem Cell.mono {a : Addr} {m : MO} (h : Cell K F H a m) (e : Same F F') (q : H' a = H a) : Cell K F' H' a m := by
  cases m with
  | lst xs => obtain ⟨vs, h1, h2⟩ := h; exact ⟨vs, q.trans h1, h2.mono e⟩
  | dic xs => obtain ⟨vs, h1, h2⟩ := h; exact ⟨vs, q.trans h1, h2.mono e⟩
  | ins C fs => obtain ⟨dx, ws, h1, h2⟩ := h; exact ⟨dx, ws, q.trans h1, repFs_mono e h2⟩
theorem Ok0.cellAt (z : Ok0 K B F M H) {a : Addr} {m : MO} (h : M a = some m) : ∃ u, H a = some u := (z.cell a m h).2.at_
theorem Ok0.mnone (z : Ok0 K B F M H) (h : H p = none) : M p = none := by
  cases q : M p with
  | none => rfl
  | some m =>
    obtain ⟨u, e⟩ := z.cellAt q
    rw [h] at e; cases e
theorem Ok0.h0none (z : Ok0 K B F M H) (h : H p = none) : B.H0 p = none := by
  cases q : B.H0 p with
  | none => rfl
  | some u => exact absurd h (z.there p (by rw [q]; simp))
theorem Ok0.fnone (z : Ok0 K B F M H) (h : H p = none) : F p = none := none_of_same z.fr h
theorem Ok0.loc (z : Ok0 K B F M H) (h : H p = none) : Loc B F M p := ⟨z.h0none h, z.fnone h, z.mnone h⟩
theorem SlotOk.own_at {x : Option V} {sv : SV} (h : SlotOk K B F M H x sv) (w : isOwn sv = true) : ∃ a u, x = some (.ref a) ∧ H a = some u ∧ Loc B F M a := by
  cases sv with
  | no => cases w
  | d x => cases w
  | own xs => obtain ⟨a, vs, h1, h2, _, h4⟩ := h; exact ⟨a, _, h1, h2, h4⟩
  | ownD xs => obtain ⟨a, vs, h1, h2, _, h4⟩ := h; exact ⟨a, _, h1, h2, h4⟩
theorem Ok.ownAt (k : Ok K B F M ds σ H) {i : Nat} {a : Addr} (w : OwnAt ds σ i a) : ∃ u, H a = some u ∧ Loc B F M a := by
  obtain ⟨⟨sv, h1, h2⟩, h3⟩ := w
  obtain ⟨a', u, e, h4, h5⟩ := (k.slot i sv _ h1 h3).own_at h2
  cases e
  exact ⟨u, h4, h5⟩
theorem Ok.notOwn (k : Ok K B F M ds σ H) (h : H p = none) : ∀ i, ¬ OwnAt ds σ i p := fun i w => by
  obtain ⟨u, e, _⟩ := k.ownAt w
  rw [h] at e; cases e
/-- an object of our own changes, that no slot has -/
theorem Ok.heap (k : Ok K B F M ds σ H) (hl : Loc B F M p) (hw : ∀ i, ¬ OwnAt ds σ i p) : Ok K B F M ds σ (upd H p o) := by
  refine ⟨⟨k.z.ext, same_updR k.z.fr hl.f, k.z.frNew, k.z.mNew, fun a m e => ?_, fun a u e e2 => ?_, fun a e => ?_⟩, k.len, fun i sv x e e2 => ?_, k.inj⟩
  · have ne : a ≠ p := fun z => by rw [z, hl.m] at e; cases e
    exact ⟨(k.z.cell a m e).1, (k.z.cell a m e).2.mono (Same.refl F) (upd_ne ne)⟩
  · rw [upd_ne (ne_of_none e hl.h)]; exact k.z.frame a u e e2
  · by_cases z : a = p
    · rw [z, upd_same]; simp
    · rw [upd_ne z]; exact k.z.there a e
  · have q := k.slot i sv x e e2
    cases sv with
    | no => trivial
    | d x => exact q
    | own xs =>
      obtain ⟨a, vs, h1, h2, h3, h4⟩ := q
      have ne : a ≠ p := fun z => hw i ⟨⟨_, e, rfl⟩, by rw [e2, h1, z]⟩
      exact ⟨a, vs, h1, by rw [upd_ne ne]; exact h2, h3, h4⟩
    | ownD xs =>
      obtain ⟨a, vs, h1, h2, h3, h4⟩ := q
      have ne : a ≠ p := fun z => hw i ⟨⟨_, e, rfl⟩, by rw [e2, h1, z]⟩
      exact ⟨a, vs, h1, by rw [upd_ne ne]; exact h2, h3, h4⟩
theorem Loc.f_upd (hl : Loc B F M p) {a : Addr} (ne : a ≠ p) {o : HO} (h : Loc B F M a) : Loc B (upd F p o) M a := ⟨h.h, by rw [upd_ne ne]; exact h.f, h.m⟩
/-- an object of our own is frozen -/
theorem Ok.freeze (k : Ok K B F M ds σ H) (hl : Loc B F M p) (hw : ∀ i, ¬ OwnAt ds σ i p) (hp : H p = some o) : Ok K B (upd F p o) M ds σ H := by
  have sm : Same F (upd F p o) := same_upd hl.f
  refine ⟨⟨k.z.ext.trans sm, fun a u e => ?_, fun a e => ?_, k.z.mNew, fun a m e => ?_, k.z.frame, k.z.there⟩, k.len, fun i sv x e e2 => ?_, k.inj⟩
  · by_cases z : a = p
    · subst z; rw [upd_same] at e; cases e; exact hp
    · rw [upd_ne z] at e; exact k.z.fr a u e
  · by_cases z : a = p
    · subst z; exact .inr hl.h
    · rw [upd_ne z] at e; exact k.z.frNew a e
  · have ne : a ≠ p := fun z => by rw [z, hl.m] at e; cases e
    exact ⟨by rw [upd_ne ne]; exact (k.z.cell a m e).1, (k.z.cell a m e).2.mono sm rfl⟩
  · have q := k.slot i sv x e e2
    cases sv with
    | no => trivial
    | d x => obtain ⟨v, h1, h2⟩ := q; exact ⟨v, h1, h2.mono sm⟩
    | own xs =>
      obtain ⟨a, vs, h1, h2, h3, h4⟩ := q
      have ne : a ≠ p := fun z => hw i ⟨⟨_, e, rfl⟩, by rw [e2, h1, z]⟩
      exact ⟨a, vs, h1, h2, h3.mono sm, hl.f_upd ne h4⟩
    | ownD xs =>
      obtain ⟨a, vs, h1, h2, h3, h4⟩ := q
      have ne : a ≠ p := fun z => hw i ⟨⟨_, e, rfl⟩, by rw [e2, h1, z]⟩
      exact ⟨a, vs, h1, h2, h3.mono sm, hl.f_upd ne h4⟩
/-- a new object -/
theorem Ok.laid (k : Ok K B F M ds σ H) (hp : H p = none) : Ok K B F M ds σ (upd H p o) := k.heap (k.z.loc hp) (k.notOwn hp)
/-- a new frozen object -/
theorem Ok.new (k : Ok K B F M ds σ H) (hp : H p = none) : Ok K B (upd F p o) M ds σ (upd H p o) := (k.laid hp).freeze (k.z.loc hp) (k.notOwn hp) upd_same
/-- an object of our own becomes a cell -/
theorem Ok.toCell (k : Ok K B F M ds σ H) (hl : Loc B F M p) (hw : ∀ i, ¬ OwnAt ds σ i p) {m : MO} (c : Cell K F H p m) : Ok K B F (mset M p m) ds σ H := by
  refine ⟨⟨k.z.ext, k.z.fr, k.z.frNew, fun a e => ?_, fun a u e => ?_, k.z.frame, k.z.there⟩, k.len, fun i sv x e e2 => ?_, k.inj⟩
  · by_cases z : a = p
    · subst z; exact .inr hl.h
    · rw [mset_ne z] at e; exact k.z.mNew a e
  · by_cases z : a = p
    · subst z; rw [mset_same] at e; cases e; exact ⟨hl.f, c⟩
    · rw [mset_ne z] at e; exact k.z.cell a u e
  · have q := k.slot i sv x e e2
    have lo : ∀ a, OwnAt ds σ i a → Loc B F M a → Loc B F (mset M p m) a := fun a w l => ⟨l.h, l.f, by rw [mset_ne (fun z => by subst z; exact hw i w)]; exact l.m⟩
    cases sv with
    | no => trivial
    | d x => exact q
    | own xs =>
      obtain ⟨a, vs, h1, h2, h3, h4⟩ := q
      exact ⟨a, vs, h1, h2, h3, lo a ⟨⟨_, e, rfl⟩, by rw [e2, h1]⟩ h4⟩
    | ownD xs =>
      obtain ⟨a, vs, h1, h2, h3, h4⟩ := q
      exact ⟨a, vs, h1, h2, h3, lo a ⟨⟨_, e, rfl⟩, by rw [e2, h1]⟩ h4⟩
/-- a cell is written -/
theorem Ok.write (k : Ok K B F M ds σ H) {m m' : MO} (hm : M p = some m) (c : Cell K F (upd H p o) p m') : Ok K B F (mset M p m') ds σ (upd H p o) := by
  have hF := (k.z.cell p m hm).1
  have own : ∀ i a, OwnAt ds σ i a → a ≠ p := fun i a w z => by
    obtain ⟨_, _, l⟩ := k.ownAt w
    rw [z] at l
    rw [l.m] at hm; cases hm
  refine ⟨⟨k.z.ext, same_updR k.z.fr hF, k.z.frNew, fun a e => ?_, fun a u e => ?_, fun a u e e2 => ?_, fun a e => ?_⟩, k.len, fun i sv x e e2 => ?_, k.inj⟩
  · by_cases z : a = p
    · subst z; exact k.z.mNew a (by rw [hm]; simp)
    · rw [mset_ne z] at e; exact k.z.mNew a e
  · by_cases z : a = p
    · subst z; rw [mset_same] at e; cases e; exact ⟨hF, c⟩
    · rw [mset_ne z] at e
      exact ⟨(k.z.cell a u e).1, (k.z.cell a u e).2.mono (Same.refl F) (upd_ne z)⟩
  · have ne : a ≠ p := fun z => by
      subst z
      rcases k.z.mNew a (by rw [hm]; simp) with q | q
      · exact q e2
      · rw [q] at e; cases e
    rw [upd_ne ne]; exact k.z.frame a u e e2
  · by_cases z : a = p
    · rw [z, upd_same]; simp
    · rw [upd_ne z]; exact k.z.there a e
  · have q := k.slot i sv x e e2
    cases sv with
    | no => trivial
    | d x => exact q
    | own xs =>
      obtain ⟨a, vs, h1, h2, h3, h4⟩ := q
      have ne := own i a ⟨⟨_, e, rfl⟩, by rw [e2, h1]⟩
      exact ⟨a, vs, h1, by rw [upd_ne ne]; exact h2, h3, ⟨h4.h, h4.f, by rw [mset_ne ne]; exact h4.m⟩⟩
    | ownD xs =>
      obtain ⟨a, vs, h1, h2, h3, h4⟩ := q
      have ne := own i a ⟨⟨_, e, rfl⟩, by rw [e2, h1]⟩
      exact ⟨a, vs, h1, by rw [upd_ne ne]; exact h2, h3, ⟨h4.h, h4.f, by rw [mset_ne ne]; exact h4.m⟩⟩
/-- a slot gets something else -/
theorem Ok.slotSet (k : Ok K B F M ds σ H) {i : Nat} {sv : SV} {x : Option V} (hs : SlotOk K B F M H x sv) (hw : isOwn sv = true → ∀ j a, x = some (.ref a) → j ≠ i → ¬ OwnAt ds σ j a) : Ok K B F M (ds.set i sv) (σ.set i x) H := by
  refine ⟨k.z, by rw [List.length_set, List.length_set]; exact k.len, fun j sv' x' e e2 => ?_, fun j l a w1 w2 => ?_⟩
  · by_cases z : j = i
    · subst z
      obtain ⟨h1, h2⟩ := List.getElem?_eq_some_iff.mp e
      rw [List.length_set] at h1
      rw [List.getElem?_set_self h1] at e
      rw [List.getElem?_set_self (by rw [← k.len]; exact h1)] at e2
      cases e; cases e2
      exact hs
    · rw [List.getElem?_set_ne (Ne.symm z)] at e e2
      exact k.slot j sv' x' e e2
  · have red : ∀ j, j ≠ i → OwnAt (ds.set i sv) (σ.set i x) j a → OwnAt ds σ j a := fun j z w => by
      obtain ⟨⟨s, h1, h2⟩, h3⟩ := w
      rw [List.getElem?_set_ne (Ne.symm z)] at h1 h3
      exact ⟨⟨s, h1, h2⟩, h3⟩
    have self : OwnAt (ds.set i sv) (σ.set i x) i a → isOwn sv = true ∧ x = some (.ref a) := fun w => by
      obtain ⟨⟨s, h1, h2⟩, h3⟩ := w
      obtain ⟨g1, _⟩ := List.getElem?_eq_some_iff.mp h1
      rw [List.length_set] at g1
      rw [List.getElem?_set_self g1] at h1
      rw [List.getElem?_set_self (by rw [← k.len]; exact g1)] at h3
      cases h1; cases h3
      exact ⟨h2, rfl⟩
    by_cases z1 : j = i
    · by_cases z2 : l = i
      · rw [z1, z2]
      · subst z1
        obtain ⟨s1, s2⟩ := self w1
        exact absurd (red l z2 w2) (hw s1 l a s2 z2)
    · by_cases z2 : l = i
      · subst z2
        obtain ⟨s1, s2⟩ := self w2
        exact absurd (red j z1 w1) (hw s1 j a s2 z1)
      · exact k.inj j l a (red j z1 w1) (red l z2 w2)
/-- the view of a slot alone changes -/
theorem Ok.view (k : Ok K B F M ds σ H) {i : Nat} {sv : SV} (hs : ∀ x, σ[i]? = some x → SlotOk K B F M H x sv) (hw : isOwn sv = true → ∀ j a, σ[i]? = some (some (.ref a)) → j ≠ i → ¬ OwnAt ds σ j a) : Ok K B F M (ds.set i sv) σ H := by
  by_cases hi : i < σ.length
  · have e : σ.set i σ[i] = σ := List.set_getElem_self hi
    have := k.slotSet (i := i) (sv := sv) (x := σ[i]) (hs _ (List.getElem?_eq_getElem hi)) (fun w j a q => hw w j a (by rw [List.getElem?_eq_getElem hi, q]))
    rw [e] at this
    exact this
  · rw [List.set_eq_of_length_le (by rw [k.len]; omega)]
    exact k
/-- a slot is forgotten -/
theorem Ok.drop (k : Ok K B F M ds σ H) (i : Nat) (x : Option V) : Ok K B F M (ds.set i .no) (σ.set i x) H := k.slotSet trivial fun w => nomatch w
/-- an own slot's object -/
theorem Ok.own (k : Ok K B F M ds σ H) {i : Nat} {xs : List D} (h : ds[i]? = some (.own xs)) : ∃ p vs, σ[i]? = some (some (.ref p)) ∧ H p = some (.lst vs) ∧ RepAll K F xs vs ∧ Loc B F M p ∧ OwnAt ds σ i p := by
  obtain ⟨h1, _⟩ := List.getElem?_eq_some_iff.mp h
  have h2 : i < σ.length := by rw [← k.len]; exact h1
  obtain ⟨p, vs, e, q1, q2, q3⟩ := k.slot i _ _ h (List.getElem?_eq_getElem h2)
  have g : σ[i]? = some (some (.ref p)) := by rw [List.getElem?_eq_getElem h2, e]
  exact ⟨p, vs, g, q1, q2, q3, ⟨_, h, rfl⟩, g⟩
theorem Ok.ownD (k : Ok K B F M ds σ H) {i : Nat} {xs : List (Key × D)} (h : ds[i]? = some (.ownD xs)) : ∃ p vs, σ[i]? = some (some (.ref p)) ∧ H p = some (.dK vs) ∧ RepKV K F xs vs ∧ Loc B F M p ∧ OwnAt ds σ i p := by
  obtain ⟨h1, _⟩ := List.getElem?_eq_some_iff.mp h
  have h2 : i < σ.length := by rw [← k.len]; exact h1
  obtain ⟨p, vs, e, q1, q2, q3⟩ := k.slot i _ _ h (List.getElem?_eq_getElem h2)
  have g : σ[i]? = some (some (.ref p)) := by rw [List.getElem?_eq_getElem h2, e]
  exact ⟨p, vs, g, q1, q2, q3, ⟨_, h, rfl⟩, g⟩
/-- a slot's datum -/
theorem Ok.dat (k : Ok K B F M ds σ H) {i : Nat} {x : D} (h : ds[i]? = some (.d x)) : ∃ v, σ[i]? = some (some v) ∧ Rep K F x v := by
  obtain ⟨h1, _⟩ := List.getElem?_eq_some_iff.mp h
  have h2 : i < σ.length := by rw [← k.len]; exact h1
  obtain ⟨v, e, q⟩ := k.slot i _ _ h (List.getElem?_eq_getElem h2)
  exact ⟨v, by rw [List.getElem?_eq_getElem h2, e], q⟩
theorem OwnAt.set_no {i j : Nat} {sv : SV} {a : Addr} (hn : isOwn sv = false) (w : OwnAt (ds.set i sv) σ j a) : j ≠ i ∧ OwnAt ds σ j a := by
  obtain ⟨⟨s, h1, h2⟩, h3⟩ := w
  by_cases z : j = i
  · subst z
    obtain ⟨g1, _⟩ := List.getElem?_eq_some_iff.mp h1
    rw [List.length_set] at g1
    rw [List.getElem?_set_self g1] at h1
    cases h1
    rw [hn] at h2; cases h2
  · rw [List.getElem?_set_ne (Ne.symm z)] at h1
    exact ⟨z, ⟨s, h1, h2⟩, h3⟩
/-- taking a value -/
theorem Ok.use (k : Ok K B F M ds σ H) {t : T} {v : V} {x : D} (r : RepT K F σ t v) (u : use ds t = some (x, ds')) : ∃ F', Ok K B F' M ds' σ H ∧ Same F F' ∧ Rep K F' x v := by
  cases t with
  | v y => cases u; exact ⟨F, k, Same.refl F, r⟩
  | s i =>
    have rv : σ[i]? = some (some v) := r
    dsimp only [MW.use] at u
    cases e : ds[i]? with
    | none => rw [e] at u; cases u
    | some sv =>
      rw [e] at u
      cases sv with
      | no => cases u
      | d y =>
        cases u
        obtain ⟨v', e1, q⟩ := k.dat e
        rw [rv] at e1; cases e1
        exact ⟨F, k, Same.refl F, q⟩
      | own xs =>
        cases u
        obtain ⟨p, vs, g, hp, ra, lo, w⟩ := k.own e
        rw [rv] at g; cases g
        have k2 : Ok K B F M (ds.set i .no) σ H := k.view (fun _ _ => trivial) fun w => nomatch w
        have nw : ∀ j, ¬ OwnAt (ds.set i .no) σ j p := fun j z => by
          obtain ⟨ne, z⟩ := OwnAt.set_no rfl z
          exact ne (k.inj j i p z w)
        have k3 := k2.freeze lo nw hp
        have sm : Same F (upd F p (.lst vs)) := same_upd lo.f
        have rp : Rep K (upd F p (.lst vs)) (.lst xs) (.ref p) := .lst upd_same (ra.mono sm)
        have k4 := k3.view (i := i) (sv := .d (.lst xs)) (fun x hx => by rw [rv] at hx; cases hx; exact ⟨_, rfl, rp⟩) fun w => nomatch w
        rw [List.set_set] at k4
        exact ⟨_, k4, sm, rp⟩
      | ownD xs =>
        cases u
        obtain ⟨p, vs, g, hp, ra, lo, w⟩ := k.ownD e
        rw [rv] at g; cases g
        have k2 : Ok K B F M (ds.set i .no) σ H := k.view (fun _ _ => trivial) fun w => nomatch w
        have nw : ∀ j, ¬ OwnAt (ds.set i .no) σ j p := fun j z => by
          obtain ⟨ne, z⟩ := OwnAt.set_no rfl z
          exact ne (k.inj j i p z w)
        have k3 := k2.freeze lo nw hp
        have sm : Same F (upd F p (.dK vs)) := same_upd lo.f
        have rp : Rep K (upd F p (.dK vs)) (.dic xs) (.ref p) := .dic upd_same (ra.mono sm)
        have k4 := k3.view (i := i) (sv := .d (.dic xs)) (fun x hx => by rw [rv] at hx; cases hx; exact ⟨_, rfl, rp⟩) fun w => nomatch w
        rw [List.set_set] at k4
        exact ⟨_, k4, sm, rp⟩
/-- what an own slot's list becomes -/
theorem Ok.ownSet (k : Ok K B F M ds σ H) {i : Nat} {xs ys : List D} {us : List V} {p : Addr} (h : ds[i]? = some (.own xs)) (hp : σ[i]? = some (some (.ref p))) (r : RepAll K F ys us) : Ok K B F M (ds.set i (.own ys)) σ (upd H p (.lst us)) := by
  obtain ⟨p', vs, g, hh, ra, lo, w⟩ := k.own h
  rw [hp] at g; cases g
  have k2 : Ok K B F M (ds.set i .no) σ H := k.view (fun _ _ => trivial) fun w => nomatch w
  have nw : ∀ j, ¬ OwnAt (ds.set i .no) σ j p := fun j z => by
    obtain ⟨ne, z⟩ := OwnAt.set_no rfl z
    exact ne (k.inj j i p z w)
  have k3 := k2.heap (o := .lst us) lo nw
  have k4 := k3.view (i := i) (sv := .own ys) (fun x hx => by rw [hp] at hx; cases hx; exact ⟨p, us, rfl, upd_same, r, lo⟩) (fun _ j a q ne z => by
    rw [hp] at q; cases q
    exact nw j z)
  rw [List.set_set] at k4
  exact k4
theorem Ok.ownDSet (k : Ok K B F M ds σ H) {i : Nat} {xs ys : List (Key × D)} {us : List (Key × V)} {p : Addr} (h : ds[i]? = some (.ownD xs)) (hp : σ[i]? = some (some (.ref p))) (r : RepKV K F ys us) : Ok K B F M (ds.set i (.ownD ys)) σ (upd H p (.dK us)) := by
  obtain ⟨p', vs, g, hh, ra, lo, w⟩ := k.ownD h
  rw [hp] at g; cases g
  have k2 : Ok K B F M (ds.set i .no) σ H := k.view (fun _ _ => trivial) fun w => nomatch w
  have nw : ∀ j, ¬ OwnAt (ds.set i .no) σ j p := fun j z => by
    obtain ⟨ne, z⟩ := OwnAt.set_no rfl z
    exact ne (k.inj j i p z w)
  have k3 := k2.heap (o := .dK us) lo nw
  have k4 := k3.view (i := i) (sv := .ownD ys) (fun x hx => by rw [hp] at hx; cases hx; exact ⟨p, us, rfl, upd_same, r, lo⟩) (fun _ j a q ne z => by
    rw [hp] at q; cases q
    exact nw j z)
  rw [List.set_set] at k4
  exact k4
/-- behind a call: the callee's base is our state -/
theorem Ok.call (k : Ok K B F M ds σ H) (z : Ok0 K ⟨H, F, M⟩ F' M' H') : Ok K B F' M' ds σ H' := by
  refine ⟨⟨k.z.ext.trans z.ext, z.fr, fun a e => ?_, fun a e => ?_, z.cell, fun a u e e2 => ?_, fun a e => z.there a (k.z.there a e)⟩, k.len, fun i sv x e e2 => ?_, k.inj⟩
  · rcases z.frNew a e with q | q
    · exact k.z.frNew a q
    · exact .inr (k.z.h0none q)
  · rcases z.mNew a e with q | q
    · exact k.z.mNew a q
    · exact .inr (k.z.h0none q)
  · refine z.frame a u (k.z.frame a u e e2) ?_
    show M a = none
    cases q : M a with
    | none => rfl
    | some m =>
      rcases k.z.mNew a (by rw [q]; simp) with g | g
      · exact absurd e2 g
      · rw [e] at g; cases g
  · have lo : ∀ a u, H a = some u → Loc B F M a → H' a = some u ∧ Loc B F' M' a := fun a u ha l => by
      refine ⟨z.frame a u ha l.m, l.h, ?_, ?_⟩
      · cases q : F' a with
        | none => rfl
        | some m =>
          rcases z.frNew a (by rw [q]; simp) with g | g
          · exact absurd l.f g
          · rw [show H a = none from g] at ha; cases ha
      · cases q : M' a with
        | none => rfl
        | some m =>
          rcases z.mNew a (by rw [q]; simp) with g | g
          · exact absurd l.m g
          · rw [show H a = none from g] at ha; cases ha
    have q := k.slot i sv x e e2
    cases sv with
    | no => trivial
    | d x => obtain ⟨v, h1, h2⟩ := q; exact ⟨v, h1, h2.mono z.ext⟩
    | own xs =>
      obtain ⟨a, vs, h1, h2, h3, h4⟩ := q
      obtain ⟨g1, g2⟩ := lo a _ h2 h4
      exact ⟨a, vs, h1, g1, h3.mono z.ext, g2⟩
    | ownD xs =>
      obtain ⟨a, vs, h1, h2, h3, h4⟩ := q
      obtain ⟨g1, g2⟩ := lo a _ h2 h4
      exact ⟨a, vs, h1, g1, h3.mono z.ext, g2⟩
theorem Ok0.self (z : Ok0 K B F M H) : Ok0 K ⟨H, F, M⟩ F M H :=
  ⟨Same.refl F, z.fr, fun _ e => .inl e, fun _ e => .inl e, z.cell, fun _ _ e _ => e, fun _ e => e⟩
/-- cells forgotten -/
theorem Ok0.forget (z : Ok0 K B F M H) (h : ∀ a m, M' a = some m → M a = some m) : Ok0 K B F M' H :=
  ⟨z.ext, z.fr, z.frNew, fun a e => z.mNew a fun q => e (by
    cases g : M' a with
    | none => rfl
    | some m => rw [h a m g] at q; cases q), fun a m e => z.cell a m (h a m e), z.frame, z.there⟩
end
end MW
namespace MW
open PySem PySem.Spec PyProof.Rows L2
def RepTop (K : PySem.W.Frag) (F H : Hp) : D → V → Prop
  | .lst xs, v => ∃ a vs, v = .ref a ∧ H a = some (.lst vs) ∧ RepAll K F xs vs
  | .dic kvs, v => ∃ a ws, v = .ref a ∧ H a = some (.dK ws) ∧ RepKV K F kvs ws
  | .bad, _ => True
  | x, v => Rep K F x v
section
variable {X : Cx} {K : PySem.W.Frag} {B : Bs} {F F' H H' : Hp} {M M' : MS} {ds ds' : DS} {σ σ' : L2.St} {p : Addr} {o : HO} {ex : EX}
theorem pe_weaken {e : Expr} {t t' : TE} (h : PE X e t) (w : ∀ σ H Q, t' σ H Q → t σ H Q) : PE X e t' := ⟨fun pins s σ H Q I q => h.run pins s σ H Q I (w σ H Q q)⟩
theorem pt_weaken {e : Expr} {t t' : TT} (h : PT X e t) (w : ∀ σ H Q, t' σ H Q → t σ H Q) : PT X e t' := ⟨fun pins s σ H Q I q => h.run pins s σ H Q I (w σ H Q q)⟩
theorem pa_weaken {e : List Expr} {t t' : TA} (h : PA X e t) (w : ∀ σ H Q, t' σ H Q → t σ H Q) : PA X e t' := ⟨fun pos pins s σ H Q I q => h.run pos pins s σ H Q I (w σ H Q q)⟩
theorem ps_weaken {e : Stmt} {t t' : TS} (h : PS X e t) (w : ∀ D σ H, t' D σ H → t D σ H) : PS X e t' := ⟨fun pins s σ H D I q => h.run pins s σ H D I (w D σ H q)⟩
theorem pss_weaken {e : List Stmt} {t t' : TS} (h : PSs X e t) (w : ∀ D σ H, t' D σ H → t D σ H) : PSs X e t' := ⟨fun pins s σ H D I q => h.run pins s σ H D I (w D σ H q)⟩
theorem Rep.top {x : D} {v : V} (r : Rep K F x v) (e : Same F H) : RepTop K F H x v := by
  cases r with
  | non => exact .non
  | bl b => exact .bl b
  | int i => exact .int i
  | str x => exact .str x
  | ty n => exact .ty n
  | ref a => exact .ref a
  | lst h r => exact ⟨_, _, rfl, e _ _ h, r⟩
  | frl h r => exact .frl h r
  | tup h r => exact .tup h r
  | dic h r => exact ⟨_, _, rfl, e _ _ h, r⟩
theorem Ok.look (k : Ok K B F M ds σ H) {t : T} {v : V} (r : RepT K F σ t v) : RepTop K F H (look ds M t) v := by
  have ref : ∀ a, RepTop K F H (match M a with | some (.lst xs) => .lst xs | some (.dic kvs) => .dic kvs | _ => .ref a) (.ref a) := fun a => by
    cases e : M a with
    | none => exact Rep.ref a
    | some m =>
      cases m with
      | lst xs =>
        obtain ⟨vs, h1, h2⟩ := (k.z.cell a _ e).2
        exact ⟨_, _, rfl, h1, h2⟩
      | dic xs =>
        obtain ⟨vs, h1, h2⟩ := (k.z.cell a _ e).2
        exact ⟨_, _, rfl, h1, h2⟩
      | ins C fs => exact Rep.ref a
  have dat : ∀ x, Rep K F x v → RepTop K F H (match x with | .ref a => (match M a with | some (.lst xs) => .lst xs | some (.dic kvs) => .dic kvs | _ => .ref a) | x => x) v := fun x r => by
    cases x with
    | ref a => cases r; exact ref a
    | _ => exact r.top k.z.fr
  cases t with
  | v x =>
    cases x with
    | ref a => cases r; exact ref a
    | _ => exact Rep.top r k.z.fr
  | s i =>
    have rv : σ[i]? = some (some v) := r
    dsimp only [MW.look]
    cases e : ds[i]? with
    | none => trivial
    | some sv =>
      cases sv with
      | no => trivial
      | d x =>
        obtain ⟨v', e1, q⟩ := k.dat e
        rw [rv] at e1; cases e1
        cases x with
        | ref a => cases q; exact ref a
        | _ => exact Rep.top q k.z.fr
      | own xs =>
        obtain ⟨p, vs, g, h1, h2, _⟩ := k.own e
        rw [rv] at g; cases g
        exact ⟨_, _, rfl, h1, h2⟩
      | ownD xs =>
        obtain ⟨p, vs, g, h1, h2, _⟩ := k.ownD e
        rw [rv] at g; cases g
        exact ⟨_, _, rfl, h1, h2⟩
theorem RepT.mono {t : T} {v : V} (r : RepT K F σ t v) (e : Same F F') : RepT K F' σ t v := by
  cases t with
  | v x => exact Rep.mono e r
  | s i => exact r

/-! ### what an operation gives -/
def Out (K : PySem.W.Frag) (F H : Hp) (z : D) (v : V) (H' : Hp) : Prop := (H' = H ∧ Rep K F z v) ∨ ∃ p o, H p = none ∧ H' = upd H p o ∧ Rep K (upd F p o) z v
theorem Ok.out (k : Ok K B F M ds σ H) {z : D} {v : V} (h : Out K F H z v H') : ∃ F', Ok K B F' M ds σ H' ∧ Same F F' ∧ Rep K F' z v := by
  rcases h with ⟨rfl, r⟩ | ⟨p, o, h1, rfl, r⟩
  · exact ⟨F, k, Same.refl F, r⟩
  · exact ⟨_, k.new h1, same_upd (k.z.fnone h1), r⟩
abbrev R1 := D → (D → Prop) → Prop
abbrev RD2 := D → D → (D → Prop) → Prop
def rD (K : PySem.W.Frag) (r : RD2) : R2 := fun x y H Q => ∃ F dx dy, Same F H ∧ RepTop K F H dx x ∧ RepTop K F H dy y ∧ ∃ k, r dx dy k ∧ ∀ z v H', k z → Out K F H z v H' → Q v H'
def DOp (X : Cx) (f : Value → Value → Sem Value) (r : RD2) : Prop := OpR X f (rD X.K r)
def rU1 (K : PySem.W.Frag) (r : R1) : V → Hp → VK → Prop := fun x H Q => ∃ F dx, Same F H ∧ RepTop K F H dx x ∧ ∃ k, r dx k ∧ ∀ z v H', k z → Out K F H z v H' → Q v H'

/-! ### names, constants -/
def dVar (i : Nat) : DE := fun _ ds M k => match ds[i]? with
  | some (.d x) => k (.v x) ds M
  | some (.own _) => k (.s i) ds M
  | some (.ownD _) => k (.s i) ds M
  | _ => False
theorem pd_var {i : Nat} {x : Str} {pos : Pos} (h : PE X (.Name x pos) (tVar i)) : PD X (.Name x pos) (dVar i) := fun B ex lk => by
  refine pe_weaken h fun σ H Q q => ?_
  obtain ⟨F, M, ds, k, ok, q, g⟩ := q
  dsimp only [dVar] at q
  cases e : ds[i]? with
  | none => rw [e] at q; cases q
  | some sv =>
    rw [e] at q
    cases sv with
    | no => cases q
    | d x =>
      obtain ⟨v, h1, h2⟩ := ok.dat e
      exact ⟨v, h1, g _ _ _ F H v q ok (Same.refl F) h2⟩
    | own xs =>
      obtain ⟨p, vs, h1, _⟩ := ok.own e
      exact ⟨_, h1, g _ _ _ F H _ q ok (Same.refl F) h1⟩
    | ownD xs =>
      obtain ⟨p, vs, h1, _⟩ := ok.ownD e
      exact ⟨_, h1, g _ _ _ F H _ q ok (Same.refl F) h1⟩
def dC (x : D) : DE := fun _ ds M k => k (.v x) ds M
theorem pd_c {e : Expr} {v : V} {x : D} (h : PE X e (tC v)) (r : ∀ F, Rep X.K F x v) : PD X e (dC x) := fun B ex lk => by
  refine pe_weaken h fun σ H Q q => ?_
  obtain ⟨F, M, ds, k, ok, q, g⟩ := q
  exact g _ _ _ F H v q ok (Same.refl F) (r F)
theorem pd_int {i j pos} : PD X (.Constant (.int i) j pos) (dC (.int i)) := pd_c pe_int fun _ => .int i
theorem pd_bl {b j pos} : PD X (.Constant (.bool b) j pos) (dC (.bl b)) := pd_c pe_bl fun _ => .bl b
theorem pd_non {j pos} : PD X (.Constant .none j pos) (dC .non) := pd_c pe_non fun _ => .non
theorem pd_str {x j pos} : PD X (.Constant (.str x) j pos) (dC (.str x)) := pd_c pe_str fun _ => .str x

/-! ### operators -/
def dBin (r : RD2) (ta tb : DE) : DE := fun ex ds M k => ta ex ds M fun x ds1 M1 => tb ex ds1 M1 fun y ds2 M2 => r (look ds2 M2 x) (look ds2 M2 y) fun z => k (.v z) ds2 M2
theorem d_bin {r : RD2} {ta tb : DE} {σ : L2.St} {H : Hp} {Q : VK} (q : cE K B ((dBin r ta tb) ex) σ H Q) : tOp (rD K r) (cE K B (ta ex)) (cE K B (tb ex)) σ H Q := by
  obtain ⟨F, M, ds, k, ok, q, g⟩ := q
  refine ⟨F, M, ds, _, ok, q, fun x ds1 M1 F1 H1 v q1 ok1 s1 r1 => ?_⟩
  refine ⟨F1, M1, ds1, _, ok1, q1, fun y ds2 M2 F2 H2 u q2 ok2 s2 r2 => ?_⟩
  refine ⟨F2, _, _, ok2.z.fr, ok2.look (r1.mono s2), ok2.look r2, _, q2, fun z w H3 k3 out => ?_⟩
  obtain ⟨F3, ok3, s3, r3⟩ := ok2.out out
  exact g _ _ _ F3 H3 w k3 ok3 ((s1.trans s2).trans s3) r3
theorem pd_bin {op : Operator} {a b : Expr} {r : RD2} {ta tb : DE} {pos : Pos} (ho : DOp X (binaryOp op) r) (ha : PD X a ta) (hb : PD X b tb) : PD X (.BinOp a op b pos) (dBin r ta tb) := fun B ex lk =>
  pe_weaken (pe_op ho (ha B ex lk) (hb B ex lk)) fun _ _ _ q => d_bin q
theorem pd_cmp {op : CmpOp} {a b : Expr} {r : RD2} {ta tb : DE} {pos : Pos} (ho : DOp X (compareOp op) r) (ha : PD X a ta) (hb : PD X b tb) (hm : behindInMarks op b = false) : PD X (.Compare a [op] [b] pos) (dBin r ta tb) := fun B ex lk =>
  pe_weaken (pe_cmpR ho (ha B ex lk) (hb B ex lk) hm) fun _ _ _ q => d_bin q
/-- a op b op' c -/
def dChain (r r' : RD2) (ta tb tc : DE) : DE := fun ex ds M k => ta ex ds M fun x ds1 M1 => tb ex ds1 M1 fun y ds2 M2 => r (look ds2 M2 x) (look ds2 M2 y) fun z => match z with
  | .bl true => tc ex ds2 M2 fun w ds3 M3 => r' (look ds3 M3 y) (look ds3 M3 w) fun z => k (.v z) ds3 M3
  | .bl false => k (.v (.bl false)) ds2 M2
  | _ => False
theorem pd_chain {op op' : CmpOp} {a b c : Expr} {r r' : RD2} {ta tb tc : DE} {pos : Pos} (ho : DOp X (compareOp op) r) (ho' : DOp X (compareOp op') r') (ha : PD X a ta) (hb : PD X b tb) (hc : PD X c tc) (hm : lastMarks [op, op'] [b, c] = false := by with_unfolding_all rfl) :
    PD X (.Compare a [op, op'] [b, c] pos) (dChain r r' ta tb tc) := fun B ex lk => by
  refine pe_weaken (pe_chain ho ho' (ha B ex lk) (hb B ex lk) (hc B ex lk) hm) fun σ H Q q => ?_
  obtain ⟨F, M, ds, k, ok, q, g⟩ := q
  refine ⟨F, M, ds, _, ok, q, fun x ds1 M1 F1 H1 v q1 ok1 s1 r1 => ?_⟩
  refine ⟨F1, M1, ds1, _, ok1, q1, fun y ds2 M2 F2 H2 u q2 ok2 s2 r2 => ?_⟩
  refine ⟨F2, _, _, ok2.z.fr, ok2.look (r1.mono s2), ok2.look r2, _, q2, fun z w H3 k3 out => ?_⟩
  obtain ⟨F3, ok3, s3, r3⟩ := ok2.out out
  cases z with
  | bl b =>
    cases r3
    refine ⟨b, rfl, ?_⟩
    cases b with
    | true =>
      rw [if_pos rfl]
      refine ⟨F3, _, _, _, ok3, k3, fun y4 ds4 M4 F4 H4 u4 q4 ok4 s4 r4 => ?_⟩
      refine ⟨F4, _, _, ok4.z.fr, ok4.look ((r2.mono s3).mono s4), ok4.look r4, _, q4, fun z5 w5 H5 k5 out5 => ?_⟩
      obtain ⟨F5, ok5, s5, r5⟩ := ok4.out out5
      exact g _ _ _ F5 H5 w5 k5 ok5 ((((s1.trans s2).trans s3).trans s4).trans s5) r5
    | false =>
      rw [if_neg Bool.false_ne_true]
      exact g _ _ _ F3 H3 _ k3 ok3 ((s1.trans s2).trans s3) (.bl false)
  | _ => cases k3

/-! ### tests -/
/-- a value that is a truth -/
def dTst (te : DE) : DT := fun ex ds M k => te ex ds M fun x ds1 M1 => match x with
  | .v (.bl b) => k b ds1 M1
  | _ => False
theorem d_tst {te : DE} {σ : L2.St} {H : Hp} {Q : Bool → Hp → Prop} (q : cT K B ((dTst te) ex) σ H Q) : cE K B (te ex) σ H (fun x H' => ∃ b, x = .bl b ∧ Q b H') := by
  obtain ⟨F, M, ds, k, ok, q, g⟩ := q
  refine ⟨F, M, ds, _, ok, q, fun x ds1 M1 F1 H1 v q1 ok1 s1 r1 => ?_⟩
  cases x with
  | s i => cases q1
  | v x =>
    cases x with
    | bl b =>
      cases r1
      exact ⟨b, rfl, g _ _ _ F1 H1 q1 ok1 s1⟩
    | _ => cases q1
theorem pdt_cmp {op : CmpOp} {a b : Expr} {r : RD2} {ta tb : DE} {pos : Pos} (ho : DOp X (compareOp op) r) (ha : PD X a ta) (hb : PD X b tb) (hm : behindInMarks op b = false) : PDT X (.Compare a [op] [b] pos) (dTst (dBin r ta tb)) := fun B ex lk =>
  pt_weaken (pt_cmpR ho (ha B ex lk) (hb B ex lk) hm) fun σ H Q q => d_bin (d_tst q)
theorem pdt_val {e : Expr} {t : DE} (h : PD X e t) (he : ∀ whole, isTrue e X.env whole = (do let v ← whole; standAt e.pos; holding [v] (truthy v)) := by intro _; rfl) : PDT X e (dTst t) := fun B ex lk =>
  pt_weaken (pt_val (h B ex lk) he) fun σ H Q q => d_tst q
def dAnd (t u : DT) : DT := fun ex ds M k => t ex ds M fun b ds1 M1 => bif b then u ex ds1 M1 k else k false ds1 M1
def dOr (t u : DT) : DT := fun ex ds M k => t ex ds M fun b ds1 M1 => bif b then k true ds1 M1 else u ex ds1 M1 k
def dNot (t : DT) : DT := fun ex ds M k => t ex ds M fun b ds1 M1 => k (!b) ds1 M1
def PDW (X : Cx) (e : Expr) (t : DT) : Prop := ∀ B ex, Lk X B ex → PW X e (cT X.K B (t ex))
theorem pw_weaken {e : Expr} {t t' : TT} (h : PW X e t) (w : ∀ σ H Q, t' σ H Q → t σ H Q) : PW X e t' := ⟨fun wh pins s σ H Q I q => h.run wh pins s σ H Q I (w σ H Q q)⟩
theorem pdt_w {e : Expr} {t : DT} (h : PDW X e t) : PDT X e t := fun B ex lk => (h B ex lk).pt
theorem pdw_and1 {a : Expr} {t : DT} {pos : Pos} (h : PDT X a t) : PDW X (.BoolOp .And [a] pos) t := fun B ex lk => pw_and1 (h B ex lk)
theorem pdw_or1 {a : Expr} {t : DT} {pos : Pos} (h : PDT X a t) : PDW X (.BoolOp .Or [a] pos) t := fun B ex lk => pw_or1 (h B ex lk)
theorem pdw_and {a b : Expr} {rest : List Expr} {t u : DT} {pos : Pos} (h : PDT X a t) (h2 : PDW X (.BoolOp .And (b :: rest) pos) u) : PDW X (.BoolOp .And (a :: b :: rest) pos) (dAnd t u) := fun B ex lk =>
  pw_weaken (pw_and (h B ex lk) (h2 B ex lk)) fun σ H Q q => by
    obtain ⟨F, M, ds, k, ok, q, g⟩ := q
    refine ⟨F, M, ds, _, ok, q, fun b ds1 M1 F1 H1 q1 ok1 s1 => ?_⟩
    cases b with
    | true =>
      rw [if_pos rfl]
      exact ⟨F1, M1, ds1, _, ok1, q1, fun b ds2 M2 F2 H2 q2 ok2 s2 => g _ _ _ _ _ q2 ok2 (s1.trans s2)⟩
    | false =>
      rw [if_neg Bool.false_ne_true]
      exact g _ _ _ _ _ q1 ok1 s1
theorem pdw_or {a b : Expr} {rest : List Expr} {t u : DT} {pos : Pos} (h : PDT X a t) (h2 : PDW X (.BoolOp .Or (b :: rest) pos) u) : PDW X (.BoolOp .Or (a :: b :: rest) pos) (dOr t u) := fun B ex lk =>
  pw_weaken (pw_or (h B ex lk) (h2 B ex lk)) fun σ H Q q => by
    obtain ⟨F, M, ds, k, ok, q, g⟩ := q
    refine ⟨F, M, ds, _, ok, q, fun b ds1 M1 F1 H1 q1 ok1 s1 => ?_⟩
    cases b with
    | true =>
      rw [if_pos rfl]
      exact g _ _ _ _ _ q1 ok1 s1
    | false =>
      rw [if_neg Bool.false_ne_true]
      exact ⟨F1, M1, ds1, _, ok1, q1, fun b ds2 M2 F2 H2 q2 ok2 s2 => g _ _ _ _ _ q2 ok2 (s1.trans s2)⟩
theorem pdt_not {a : Expr} {t : DT} {pos : Pos} (h : PDT X a t) : PDT X (.UnaryOp .Not a pos) (dNot t) := fun B ex lk =>
  pt_weaken (pt_not (h B ex lk)) fun σ H Q q => by
    obtain ⟨F, M, ds, k, ok, q, g⟩ := q
    exact ⟨F, M, ds, _, ok, q, fun b ds1 M1 F1 H1 q1 ok1 s1 => g _ _ _ _ _ q1 ok1 s1⟩
/-- truths as values -/
def dAndV (ta tb : DE) : DE := fun ex ds M k => ta ex ds M fun x ds1 M1 => match x with
  | .v (.bl true) => tb ex ds1 M1 k
  | .v (.bl false) => k (.v (.bl false)) ds1 M1
  | _ => False
def dOrV (ta tb : DE) : DE := fun ex ds M k => ta ex ds M fun x ds1 M1 => match x with
  | .v (.bl true) => k (.v (.bl true)) ds1 M1
  | .v (.bl false) => tb ex ds1 M1 k
  | _ => False
def dNotV (ta : DE) : DE := fun ex ds M k => ta ex ds M fun x ds1 M1 => match x with
  | .v (.bl b) => k (.v (.bl (!b))) ds1 M1
  | _ => False
theorem pd_one {op} {a : Expr} {t : DE} {pos : Pos} (h : PD X a t) : PD X (.BoolOp op [a] pos) t := fun B ex lk => pe_one (h B ex lk)
theorem pd_and {a b : Expr} {rest : List Expr} {ta tb : DE} {pos : Pos} (ha : PD X a ta) (hb : PD X (.BoolOp .And (b :: rest) pos) tb) : PD X (.BoolOp .And (a :: b :: rest) pos) (dAndV ta tb) := fun B ex lk =>
  pe_weaken (pe_and (ha B ex lk) (hb B ex lk)) fun σ H Q q => by
    obtain ⟨F, M, ds, k, ok, q, g⟩ := q
    refine ⟨F, M, ds, _, ok, q, fun x ds1 M1 F1 H1 v q1 ok1 s1 r1 => ?_⟩
    cases x with
    | s i => cases q1
    | v x =>
      cases x with
      | bl b =>
        cases r1
        refine ⟨b, rfl, ?_⟩
        cases b with
        | true =>
          rw [if_pos rfl]
          exact ⟨F1, M1, ds1, _, ok1, q1, fun x ds2 M2 F2 H2 v q2 ok2 s2 r2 => g _ _ _ _ _ _ q2 ok2 (s1.trans s2) r2⟩
        | false =>
          rw [if_neg Bool.false_ne_true]
          exact g _ _ _ _ _ _ q1 ok1 s1 (Rep.bl false)
      | _ => cases q1
theorem pd_or {a b : Expr} {rest : List Expr} {ta tb : DE} {pos : Pos} (ha : PD X a ta) (hb : PD X (.BoolOp .Or (b :: rest) pos) tb) : PD X (.BoolOp .Or (a :: b :: rest) pos) (dOrV ta tb) := fun B ex lk =>
  pe_weaken (pe_or (ha B ex lk) (hb B ex lk)) fun σ H Q q => by
    obtain ⟨F, M, ds, k, ok, q, g⟩ := q
    refine ⟨F, M, ds, _, ok, q, fun x ds1 M1 F1 H1 v q1 ok1 s1 r1 => ?_⟩
    cases x with
    | s i => cases q1
    | v x =>
      cases x with
      | bl b =>
        cases r1
        refine ⟨b, rfl, ?_⟩
        cases b with
        | true =>
          rw [if_pos rfl]
          exact g _ _ _ _ _ _ q1 ok1 s1 (Rep.bl true)
        | false =>
          rw [if_neg Bool.false_ne_true]
          exact ⟨F1, M1, ds1, _, ok1, q1, fun x ds2 M2 F2 H2 v q2 ok2 s2 r2 => g _ _ _ _ _ _ q2 ok2 (s1.trans s2) r2⟩
      | _ => cases q1
theorem pd_not {a : Expr} {ta : DE} {pos : Pos} (ha : PD X a ta) : PD X (.UnaryOp .Not a pos) (dNotV ta) := fun B ex lk =>
  pe_weaken (pe_not (ha B ex lk)) fun σ H Q q => by
    obtain ⟨F, M, ds, k, ok, q, g⟩ := q
    refine ⟨F, M, ds, _, ok, q, fun x ds1 M1 F1 H1 v q1 ok1 s1 r1 => ?_⟩
    cases x with
    | s i => cases q1
    | v x =>
      cases x with
      | bl b =>
        cases r1
        exact ⟨b, rfl, g _ _ _ _ _ _ q1 ok1 s1 (Rep.bl _)⟩
      | _ => cases q1
/-- a if t else b -/
def dIf (t : DT) (ta tb : DE) : DE := fun ex ds M k => t ex ds M fun b ds1 M1 => bif b then ta ex ds1 M1 k else tb ex ds1 M1 k
theorem pd_if {a b c : Expr} {t : DT} {ta tb : DE} {pos : Pos} (hc : PDT X c t) (ha : PD X a ta) (hb : PD X b tb) : PD X (.IfExp c a b pos) (dIf t ta tb) := fun B ex lk =>
  pe_weaken (pe_ifExp (hc B ex lk) (ha B ex lk) (hb B ex lk)) fun σ H Q q => by
    obtain ⟨F, M, ds, k, ok, q, g⟩ := q
    refine ⟨F, M, ds, _, ok, q, fun b ds1 M1 F1 H1 q1 ok1 s1 => ?_⟩
    cases b with
    | true =>
      rw [if_pos rfl]
      exact ⟨F1, M1, ds1, _, ok1, q1, fun x ds2 M2 F2 H2 v q2 ok2 s2 r2 => g _ _ _ _ _ _ q2 ok2 (s1.trans s2) r2⟩
    | false =>
      rw [if_neg Bool.false_ne_true]
      exact ⟨F1, M1, ds1, _, ok1, q1, fun x ds2 M2 F2 H2 v q2 ok2 s2 r2 => g _ _ _ _ _ _ q2 ok2 (s1.trans s2) r2⟩

/-! ### taking values; argument lists; displays -/
def dUse (t : DE) (ex : EX) (ds : DS) (M : MS) (k : D → DS → MS → Prop) : Prop := t ex ds M fun x ds1 M1 => match use ds1 x with
  | some (y, ds2) => k y ds2 M1
  | none => False
theorem d_use {t : DE} (h : ∃ F M ds k, Ok K B F M ds σ H ∧ dUse t ex ds M k ∧ ∀ x ds' M' F' H' v, k x ds' M' → Ok K B F' M' ds' σ H' → Same F F' → Rep K F' x v → (Q : VK) v H') : cE K B (t ex) σ H Q := by
  obtain ⟨F, M, ds, k, ok, q, g⟩ := h
  refine ⟨F, M, ds, _, ok, q, fun x ds1 M1 F1 H1 v q1 ok1 s1 r1 => ?_⟩
  cases e : use ds1 x with
  | none =>
    rw [e] at q1; cases q1
  | some z =>
    obtain ⟨y, ds2⟩ := z
    rw [e] at q1
    obtain ⟨F2, ok2, s2, r2⟩ := ok1.use r1 e
    exact g _ _ _ _ _ _ q1 ok2 (s1.trans s2) r2
def dNil : DA := fun _ ds M k => k [] ds M
def dCons (t : DE) (r : DA) : DA := fun ex ds M k => dUse t ex ds M fun x ds1 M1 => r ex ds1 M1 fun xs ds2 M2 => k (x :: xs) ds2 M2
theorem pda_nil : PDA X [] dNil := fun B ex lk => pa_weaken pa_nil fun σ H Q q => by
  obtain ⟨F, M, ds, k, ok, q, g⟩ := q
  exact g _ _ _ _ _ _ q ok (Same.refl F) .nil
theorem pda_cons {e : Expr} {es : List Expr} {t : DE} {r : DA} (h : PD X e t) (hr : PDA X es r) (hs : starEach (e :: es) X.env = (false, eval e X.env) :: starEach es X.env := by rfl) : PDA X (e :: es) (dCons t r) := fun B ex lk =>
  pa_weaken (pa_cons (h B ex lk) (hr B ex lk) hs) fun σ H Q q => by
    obtain ⟨F, M, ds, k, ok, q, g⟩ := q
    refine d_use ⟨F, M, ds, _, ok, q, fun x ds1 M1 F1 H1 v q1 ok1 s1 r1 => ?_⟩
    exact ⟨F1, M1, ds1, _, ok1, q1, fun xs ds2 M2 F2 H2 vs q2 ok2 s2 r2 => g _ _ _ _ _ _ q2 ok2 (s1.trans s2) (.cons (r1.mono s2) r2)⟩
def dTup (t : DA) : DE := fun ex ds M k => t ex ds M fun xs ds1 M1 => xs.length ≤ sizeLine ∧ k (.v (.tup xs)) ds1 M1
theorem pd_tup {es : List Expr} {t : DA} {pos : Pos} {x1} (h : PDA X es t) : PD X (.Tuple es x1 pos) (dTup t) := fun B ex lk =>
  pe_weaken (pe_tup (h B ex lk)) fun σ H Q q => by
    obtain ⟨F, M, ds, k, ok, q, g⟩ := q
    refine ⟨F, M, ds, _, ok, q, fun xs ds1 M1 F1 H1 vs q1 ok1 s1 r1 => ?_⟩
    obtain ⟨q0, q1⟩ := q1
    refine ⟨by rw [← r1.length]; exact q0, fun p hp => ?_⟩
    have sm := same_upd (o := .tup vs) (ok1.z.fnone hp)
    exact g _ _ _ _ _ _ q1 (ok1.new hp) (s1.trans sm) (Rep.tup (SqT.of upd_same) (r1.mono sm))
/-- a new list written -/
def dLst (t : DA) : DL := fun ex ds M k => t ex ds M fun xs ds1 M1 => xs.length ≤ sizeLine ∧ k xs ds1 M1
theorem pdl_lst {es : List Expr} {t : DA} {pos : Pos} (h : PDA X es t) : PDL X (.List es pos) (dLst t) := fun B ex lk =>
  pe_weaken (pe_lst (h B ex lk)) fun σ H Q q => by
    obtain ⟨F, M, ds, k, ok, q, g⟩ := q
    refine ⟨F, M, ds, _, ok, q, fun xs ds1 M1 F1 H1 vs q1 ok1 s1 r1 => ?_⟩
    obtain ⟨q0, q1⟩ := q1
    refine ⟨by rw [← r1.length]; exact q0, fun p hp => ?_⟩
    exact g _ _ _ _ _ _ _ q1 (ok1.laid hp) s1 (ok1.z.loc hp) (ok1.notOwn hp) upd_same r1
/-- a new list frozen at once -/
def dFz (t : DL) : DE := fun ex ds M k => t ex ds M fun xs ds1 M1 => k (.v (.lst xs)) ds1 M1
theorem pd_fz {e : Expr} {t : DL} (h : PDL X e t) : PD X e (dFz t) := fun B ex lk =>
  pe_weaken (h B ex lk) fun σ H Q q => by
    obtain ⟨F, M, ds, k, ok, q, g⟩ := q
    refine ⟨F, M, ds, _, ok, q, fun xs ds1 M1 F1 H1 p vs q1 ok1 s1 lo nw hp r1 => ?_⟩
    have sm := same_upd (o := .lst vs) lo.f
    exact g _ _ _ _ _ _ q1 (ok1.freeze lo nw hp) (s1.trans sm) (Rep.lst upd_same (r1.mono sm))
/-- a new list as a cell -/
def dNew (t : DL) : DE := fun ex ds M k => t ex ds M fun xs ds1 M1 => ∀ p, M1 p = none → k (.v (.ref p)) ds1 (mset M1 p (.lst xs))
theorem pd_new {e : Expr} {t : DL} (h : PDL X e t) : PD X e (dNew t) := fun B ex lk =>
  pe_weaken (h B ex lk) fun σ H Q q => by
    obtain ⟨F, M, ds, k, ok, q, g⟩ := q
    refine ⟨F, M, ds, _, ok, q, fun xs ds1 M1 F1 H1 p vs q1 ok1 s1 lo nw hp r1 => ?_⟩
    exact g _ _ _ _ _ _ (q1 p lo.m) (ok1.toCell lo nw (m := .lst xs) ⟨vs, hp, r1⟩) s1 (Rep.ref p)
def dFzD (t : DD) : DE := fun ex ds M k => t ex ds M fun xs ds1 M1 => k (.v (.dic xs)) ds1 M1
theorem pd_fzD {e : Expr} {t : DD} (h : PDD X e t) : PD X e (dFzD t) := fun B ex lk =>
  pe_weaken (h B ex lk) fun σ H Q q => by
    obtain ⟨F, M, ds, k, ok, q, g⟩ := q
    refine ⟨F, M, ds, _, ok, q, fun xs ds1 M1 F1 H1 p vs q1 ok1 s1 lo nw hp r1 => ?_⟩
    have sm := same_upd (o := .dK vs) lo.f
    exact g _ _ _ _ _ _ q1 (ok1.freeze lo nw hp) (s1.trans sm) (Rep.dic upd_same (r1.mono sm))
def dNewD (t : DD) : DE := fun ex ds M k => t ex ds M fun xs ds1 M1 => ∀ p, M1 p = none → k (.v (.ref p)) ds1 (mset M1 p (.dic xs))
theorem pd_newD {e : Expr} {t : DD} (h : PDD X e t) : PD X e (dNewD t) := fun B ex lk =>
  pe_weaken (h B ex lk) fun σ H Q q => by
    obtain ⟨F, M, ds, k, ok, q, g⟩ := q
    refine ⟨F, M, ds, _, ok, q, fun xs ds1 M1 F1 H1 p vs q1 ok1 s1 lo nw hp r1 => ?_⟩
    exact g _ _ _ _ _ _ (q1 p lo.m) (ok1.toCell lo nw (m := .dic xs) ⟨vs, hp, r1⟩) s1 (Rep.ref p)
end
end MW
namespace MW
open PySem PySem.Spec PyProof.Rows L2
section
variable {X : Cx} {K : PySem.W.Frag} {B : Bs} {F F' H H' : Hp} {M M' : MS} {ds ds' : DS} {σ σ' : L2.St} {p : Addr} {o : HO} {ex : EX}

/-! ### targets -/
abbrev DG := EX → D → DS → MS → (DS → MS → Prop) → Prop
def cG (K : PySem.W.Frag) (B : Bs) (t : D → DS → MS → (DS → MS → Prop) → Prop) : TG := fun v σ H Q => ∃ F M ds d k, Ok K B F M ds σ H ∧ Rep K F d v ∧ t d ds M k ∧
  ∀ ds' M' F' H' σ', k ds' M' → Ok K B F' M' ds' σ' H' → Same F F' → Q σ' H'
def PDG (X : Cx) (tg : Expr) (t : DG) : Prop := ∀ B ex, Lk X B ex → PG X tg (cG X.K B (t ex))
theorem pg_weaken {e : Expr} {t t' : TG} (h : PG X e t) (w : ∀ v σ H Q, t' v σ H Q → t v σ H Q) : PG X e t' := ⟨fun pins s σ H v u Q I r q => h.run pins s σ H v u Q I r (w v σ H Q q)⟩
def dgName (i : Nat) : DG := fun _ x ds M k => k (ds.set i (.d x)) M
theorem pdg_name {i : Nat} {e : Expr} (h : PG X e (gName i)) : PDG X e (dgName i) := fun B ex lk => pg_weaken h fun v σ H Q q => by
  obtain ⟨F, M, ds, d, k, ok, r, q, g⟩ := q
  exact g _ _ F H _ q (ok.slotSet (sv := .d d) ⟨v, rfl, r⟩ fun w => nomatch w) (Same.refl F)
/-- the slots js get the values xs -/
def putAll : List Nat → List D → DS → DS
  | j :: js, x :: xs, ds => putAll js xs (ds.set j (.d x))
  | _, _, ds => ds
def dgTup (js : List Nat) : DG := fun _ x ds M k => match x with
  | .tup xs => xs.length = js.length ∧ k (putAll js xs ds) M
  | _ => False
inductive Names (X : Cx) : List Expr → List Nat → Prop
  | nil : Names X [] []
  | cons {e : Expr} {es : List Expr} {j : Nat} {js : List Nat} : PG X e (gName j) → Names X es js → ((assignEach (e :: es) X.env).map (·.2) = assign e X.env :: (assignEach es X.env).map (·.2)) → Names X (e :: es) (j :: js)
def gNames : List Nat → TGs
  | [] => gNil
  | j :: js => gCons (gName j) (gNames js)
theorem pgs_names : ∀ {es : List Expr} {js : List Nat}, Names X es js → PGs X es (gNames js)
  | _, _, .nil => pgs_nil
  | _, _, .cons h r e => pgs_cons h (pgs_names r) e
def putAllV : List Nat → List V → L2.St → L2.St
  | j :: js, x :: xs, σ => putAllV js xs (σ.set j (some x))
  | _, _, σ => σ
theorem gNames_ok : ∀ {js : List Nat} {vs : List V} {σ : L2.St} {H : Hp} {Q : L2.St → Hp → Prop}, vs.length = js.length → Q (putAllV js vs σ) H → gNames js vs σ H Q
  | [], [], _, _, _, _, q => ⟨rfl, q⟩
  | [], _ :: _, _, _, _, h, _ => by simp at h
  | _ :: _, [], _, _, _, h, _ => by simp at h
  | j :: js, v :: vs, σ, H, Q, h, q => ⟨v, vs, rfl, gNames_ok (js := js) (by simpa using h) q⟩
theorem Ok.putAll : ∀ {js : List Nat} {xs : List D} {vs : List V} {ds : DS} {σ : L2.St}, Ok K B F M ds σ H → RepAll K F xs vs → Ok K B F M (MW.putAll js xs ds) (putAllV js vs σ) H
  | [], _, _, _, _, k, _ => by
    unfold MW.putAll putAllV
    exact k
  | _ :: _, _, _, _, _, k, .nil => by
    unfold MW.putAll putAllV
    exact k
  | j :: js, _, _, ds, σ, k, .cons r t => Ok.putAll (js := js) (k.slotSet (sv := .d _) ⟨_, rfl, r⟩ fun w => nomatch w) t
theorem assignEach_len : ∀ {es : List Expr} {js : List Nat}, Names X es js → es.length = js.length
  | _, _, .nil => rfl
  | _, _, .cons _ r _ => by rw [List.length_cons, List.length_cons, assignEach_len r]
theorem pdg_tup {es : List Expr} {k : Nat} {pos : Pos} {js : List Nat} (h : Names X es js) (hn : (assignEach es X.env).length = js.length := by rfl) (hst : (assignEach es X.env).findIdx? (·.1) = none := by rfl) : PDG X (.Tuple es k pos) (dgTup js) := fun B ex lk =>
  pg_weaken (pg_tup lk.calm (pgs_names h) hn hst) fun v σ H Q q => by
    obtain ⟨F, M, ds, d, k, ok, r, q, g⟩ := q
    cases d with
    | tup xs =>
      obtain ⟨q0, q⟩ := q
      cases r with
      | tup hs ra =>
        refine ⟨_, _, rfl, sqT_mono ok.z.fr hs, by rw [← ra.length]; exact q0, gNames_ok (by rw [← ra.length]; exact q0) ?_⟩
        exact g _ _ F H _ q (ok.putAll ra) (Same.refl F)
    | _ => cases q

/-! ### blocks, statements -/
def dNext : DST := fun E ds M => E.nx ds M
def dSeq (a b : DST) : DST := fun E => a { E with nx := b E }
theorem pdb_nil : PDB X [] dNext := fun B ex lk => pss_weaken pss_nil fun D σ H q => by
  obtain ⟨F, M, ds, E, ok, eo, q⟩ := q
  exact eo.nx _ _ _ _ _ q ok (Same.refl F)
theorem pdb_one {st : Stmt} {t : DST} (h : PDS X st t) : PDB X [st] t := fun B ex lk => pss_one (h B ex lk)
theorem pdb_cons {st : Stmt} {rest : List Stmt} {t u : DST} (h : PDS X st t) (h2 : PDB X rest u) : PDB X (st :: rest) (dSeq t u) := fun B ex lk =>
  pss_weaken (pss_cons (h B ex lk) (h2 B ex lk)) fun D σ H q => by
    obtain ⟨F, M, ds, E, ok, eo, q⟩ := q
    exact ⟨F, M, ds, { E with nx := u E }, ok, ⟨fun ds M F σ H q ok s => ⟨F, M, ds, E, ok, eo.mono s, q⟩, eo.bk, eo.ct, eo.rt, eo.ex⟩, q⟩
theorem pds_pass {pos : Pos} : PDS X (.Pass pos) dNext := fun B ex lk => ps_weaken ps_pass fun D σ H q => by
  obtain ⟨F, M, ds, E, ok, eo, q⟩ := q
  exact eo.nx _ _ _ _ _ q ok (Same.refl F)
theorem pds_doc {x j pos pos'} : PDS X (.Expr (.Constant (.str x) j pos) pos') dNext := fun B ex lk => ps_weaken ps_doc fun D σ H q => by
  obtain ⟨F, M, ds, E, ok, eo, q⟩ := q
  exact eo.nx _ _ _ _ _ q ok (Same.refl F)
def dBreak : DST := fun E ds M => E.bk ds M
def dCont : DST := fun E ds M => E.ct ds M
def dExpr (t : DE) : DST := fun E ds M => t E.ex ds M fun _ ds1 M1 => E.nx ds1 M1
theorem pds_expr {e : Expr} {t : DE} {pos : Pos} (h : PD X e t) (hs : swapsWith e none pos.line X.env = pure false := by rfl) : PDS X (.Expr e pos) (dExpr t) := fun B ex lk =>
  ps_weaken (ps_expr (h B ex lk) hs) fun D σ H q => by
    obtain ⟨F, M, ds, E, ok, eo, q⟩ := q
    have ee := eo.ex; subst ee
    exact ⟨F, M, ds, _, ok, q, fun x ds1 M1 F1 H1 v q1 ok1 s1 r1 => eo.nx _ _ _ _ _ q1 ok1 s1⟩
def dRet (t : DE) : DST := fun E ds M => dUse t E.ex ds M fun x _ M1 => E.rt x M1
theorem pds_ret {e : Expr} {t : DE} {pos : Pos} (h : PD X e t) : PDS X (.Return (some e) pos) (dRet t) := fun B ex lk =>
  ps_weaken (ps_ret (h B ex lk)) fun D σ H q => by
    obtain ⟨F, M, ds, E, ok, eo, q⟩ := q
    have ee := eo.ex; subst ee
    exact d_use ⟨F, M, ds, _, ok, q, fun x ds1 M1 F1 H1 v q1 ok1 s1 r1 => eo.rt _ _ _ _ _ q1 ok1.z r1⟩
def dRetN : DST := fun E _ M => E.rt .non M
theorem pds_retN {pos : Pos} : PDS X (.Return none pos) dRetN := fun B ex lk =>
  ps_weaken ps_retN fun D σ H q => by
    obtain ⟨F, M, ds, E, ok, eo, q⟩ := q
    exact eo.rt _ _ _ _ _ q ok.z .non
def dIfS (t : DT) (a b : DST) : DST := fun E ds M => t E.ex ds M fun c ds1 M1 => bif c then a E ds1 M1 else b E ds1 M1
theorem pds_if {c : Expr} {a b : List Stmt} {t : DT} {ta tb : DST} {pos : Pos} (hc : PDT X c t) (ha : PDB X a ta) (hb : PDB X b tb) : PDS X (.If c a b pos) (dIfS t ta tb) := fun B ex lk =>
  ps_weaken (ps_if (hc B ex lk) (ha B ex lk) (hb B ex lk)) fun D σ H q => by
    obtain ⟨F, M, ds, E, ok, eo, q⟩ := q
    have ee := eo.ex; subst ee
    refine ⟨F, M, ds, _, ok, q, fun c ds1 M1 F1 H1 q1 ok1 s1 => ?_⟩
    cases c with
    | true => rw [if_pos rfl]; exact ⟨F1, M1, ds1, E, ok1, eo.mono s1, q1⟩
    | false => rw [if_neg Bool.false_ne_true]; exact ⟨F1, M1, ds1, E, ok1, eo.mono s1, q1⟩
/-- name = e -/
def dSet (i : Nat) (t : DE) : DST := fun E ds M => dUse t E.ex ds M fun x ds1 M1 => E.nx (ds1.set i (.d x)) M1
theorem pds_set {st : Stmt} {e : Expr} {i : Nat} {t : DE} (hp : ∀ te, PE X e te → PS X st (tAsg te (gName i))) (h : PD X e t) : PDS X st (dSet i t) := fun B ex lk =>
  ps_weaken (hp _ (h B ex lk)) fun D σ H q => by
    obtain ⟨F, M, ds, E, ok, eo, q⟩ := q
    have ee := eo.ex; subst ee
    exact d_use ⟨F, M, ds, _, ok, q, fun x ds1 M1 F1 H1 v q1 ok1 s1 r1 => eo.nx _ _ _ _ _ q1 (ok1.slotSet (sv := .d x) ⟨v, rfl, r1⟩ fun w => nomatch w) s1⟩
/-- name = a new list, for this name alone -/
def dSetL (i : Nat) (t : DL) : DST := fun E ds M => t E.ex ds M fun xs ds1 M1 => E.nx (ds1.set i (.own xs)) M1
theorem pds_setL {st : Stmt} {e : Expr} {i : Nat} {t : DL} (hp : ∀ te, PE X e te → PS X st (tAsg te (gName i))) (h : PDL X e t) : PDS X st (dSetL i t) := fun B ex lk =>
  ps_weaken (hp _ (h B ex lk)) fun D σ H q => by
    obtain ⟨F, M, ds, E, ok, eo, q⟩ := q
    have ee := eo.ex; subst ee
    exact ⟨F, M, ds, _, ok, q, fun xs ds1 M1 F1 H1 p vs q1 ok1 s1 lo nw hp r1 => eo.nx _ _ _ _ _ q1 (ok1.slotSet (sv := .own xs) ⟨p, vs, rfl, hp, r1, lo⟩ fun _ j a e _ w => by cases e; exact nw j w) s1⟩
def dSetD (i : Nat) (t : DD) : DST := fun E ds M => t E.ex ds M fun xs ds1 M1 => E.nx (ds1.set i (.ownD xs)) M1
theorem pds_setD {st : Stmt} {e : Expr} {i : Nat} {t : DD} (hp : ∀ te, PE X e te → PS X st (tAsg te (gName i))) (h : PDD X e t) : PDS X st (dSetD i t) := fun B ex lk =>
  ps_weaken (hp _ (h B ex lk)) fun D σ H q => by
    obtain ⟨F, M, ds, E, ok, eo, q⟩ := q
    have ee := eo.ex; subst ee
    exact ⟨F, M, ds, _, ok, q, fun xs ds1 M1 F1 H1 p vs q1 ok1 s1 lo nw hp r1 => eo.nx _ _ _ _ _ q1 (ok1.slotSet (sv := .ownD xs) ⟨p, vs, rfl, hp, r1, lo⟩ fun _ j a e _ w => by cases e; exact nw j w) s1⟩
/-- target = e -/
def dAsg (t : DE) (g : DG) : DST := fun E ds M => dUse t E.ex ds M fun x ds1 M1 => g E.ex x ds1 M1 fun ds2 M2 => E.nx ds2 M2
theorem pds_asg {tg e : Expr} {t : DE} {g : DG} {pos : Pos} (h : PD X e t) (hg : PDG X tg g) (hs : swapsWithSole [tg] e pos.line X.env = pure false := by rfl) (hw : swappedStores [tg] e X.env = pure none := by rfl) (h1 : (assignEach [tg] X.env).map (·.2) = [assign tg X.env] := by rfl) : PDS X (.Assign [tg] e pos) (dAsg t g) := fun B ex lk =>
  ps_weaken (ps_asg (h B ex lk) (hg B ex lk) hs hw h1) fun D σ H q => by
    obtain ⟨F, M, ds, E, ok, eo, q⟩ := q
    have ee := eo.ex; subst ee
    refine d_use ⟨F, M, ds, _, ok, q, fun x ds1 M1 F1 H1 v q1 ok1 s1 r1 => ?_⟩
    exact ⟨F1, M1, ds1, x, _, ok1, r1, q1, fun ds2 M2 F2 H2 σ2 q2 ok2 s2 => eo.nx _ _ _ _ _ q2 ok2 (s1.trans s2)⟩
/-- a, b = e1, e2 -/
def dPar (i j : Nat) (t : DA) : DST := fun E ds M => t E.ex ds M fun xs ds1 M1 => match xs with
  | [x, y] => E.nx ((ds1.set i (.d x)).set j (.d y)) M1
  | _ => False
theorem pds_par {st : Stmt} {es : List Expr} {i j : Nat} {t : DA} (hp : ∀ ta, PA X es ta → PS X st (tPar i j ta)) (h : PDA X es t) : PDS X st (dPar i j t) := fun B ex lk =>
  ps_weaken (hp _ (h B ex lk)) fun D σ H q => by
    obtain ⟨F, M, ds, E, ok, eo, q⟩ := q
    have ee := eo.ex; subst ee
    refine ⟨F, M, ds, _, ok, q, fun xs ds1 M1 F1 H1 vs q1 ok1 s1 r1 => ?_⟩
    match xs, r1, q1 with
    | [x, y], .cons rx (.cons ry .nil), q1 =>
      exact ⟨_, _, rfl, eo.nx _ _ _ _ _ q1 ((ok1.slotSet (sv := .d x) ⟨_, rfl, rx⟩ fun w => nomatch w).slotSet (sv := .d y) ⟨_, rfl, ry⟩ fun w => nomatch w) s1⟩
    | [], _, q1 => cases q1
    | [_], _, q1 => cases q1
    | _ :: _ :: _ :: _, _, q1 => cases q1

/-! ### calls of own defs -/
abbrev FSpec := List D → MS → (D → MS → Prop) → (Exc → MS → Prop) → Prop
def spF (K : PySem.W.Frag) (n : Nat) (f : FSpec) : Sp := fun vs H Q E => vs.length = n ∧ ∃ F M xs kQ kE, Ok0 K ⟨H, F, M⟩ F M H ∧ RepAll K F xs vs ∧ f xs M kQ kE ∧
  (∀ x M' F' H' v, kQ x M' → Ok0 K ⟨H, F, M⟩ F' M' H' → Rep K F' x v → Q v H') ∧
  (∀ e M' F' H' cls d, kE e M' → Ok0 K ⟨H, F, M⟩ F' M' H' → RepX K F' H' e cls d → E cls d H')
def dCall (n : Nat) (f : FSpec) (t : DA) : DE := fun ex ds M k => t ex ds M fun xs ds1 M1 => xs.length = n ∧ f xs M1 (fun x M2 => k (.v x) ds1 M2) (fun e M2 => ex e ds1 M2)
theorem d_call {n : Nat} {f : FSpec} {t : DA} {Q : VK} (q : cE K B ((dCall n f t) ex) σ H Q) : tCallS (spF K n f) (WE (wX K B ex)) (cA K B (t ex)) σ H Q := by
  obtain ⟨F, M, ds, k, ok, q, g⟩ := q
  refine ⟨F, M, ds, _, ok, q, fun xs ds1 M1 F1 H1 vs q1 ok1 s1 r1 => ?_⟩
  refine ⟨by rw [← r1.length]; exact q1.1, F1, M1, xs, _, _, ok1.z.self, r1, q1.2, fun x M2 F2 H2 v k2 ok2 r2 => ?_, fun e M2 F2 H2 cls d k2 ok2 r2 => ?_⟩
  · exact g _ _ _ _ _ _ k2 (ok1.call ok2) (s1.trans ok2.ext) r2
  · exact ⟨e, F2, M2, ds1, ok1.call ok2, r2, k2⟩
theorem pd_call {n : Nat} {f : FSpec} {t : DA} {e : Expr} {es : List Expr} {x : Str} {pp pos : Pos} {a : Addr} {fd : FuncData} {ps : List Str} {k : Nat} (Fn : FnOk X.prog X.w X.K X.mg X.base (L2.CX X.prog X.w) k a fd ps (spF X.K n f)) (hr : Room k X.A) (hg : Gl X x) (hm : X.mg x = some (.ref a))
    (hk : PySem.W.keepIn X.K (.ref a) = true) (hb : Binds X.K fd ps []) (ha : PDA X (e :: es) t) (hdb : (x == ("__debug__" : Str)) = false := by decide) (he : starEach (e :: es) X.env = (false, eval e X.env) :: starEach es X.env := by rfl)
    (hpl : (backTo pos (starEach es X.env)).any (·.1) = false := by rfl) : PD X (.Call (.Name x pp) (e :: es) [] pos) (dCall n f t) := fun B ex lk =>
  pe_weaken (pe_callS (E := WE (wX X.K B ex)) Fn hr hg hm hk hb (fun σ => passAt lk.tk σ) (ha B ex lk) hdb he hpl) fun σ H Q q => d_call q
/-- f() -/
def dCall0 (f : FSpec) : DE := fun ex ds M k => f [] M (fun x M2 => k (.v x) ds M2) (fun e M2 => False)
theorem pd_call0 {f : FSpec} {x : Str} {pp pos : Pos} {a : Addr} {fd : FuncData} {ps : List Str} {k : Nat} (Fn : FnOk X.prog X.w X.K X.mg X.base (L2.CX X.prog X.w) k a fd ps (spF X.K 0 f)) (hr : Room k X.A) (hg : Gl X x) (hm : X.mg x = some (.ref a))
    (hk : PySem.W.keepIn X.K (.ref a) = true) (hb : Binds X.K fd ps []) (hdb : (x == ("__debug__" : Str)) = false := by decide) : PD X (.Call (.Name x pp) [] [] pos) (dCall0 f) := fun B ex lk =>
  pe_weaken (pe_call0 (E := fun _ _ _ => False) (dvs := []) Fn hr hg hm hk hb .nil passL hdb) fun σ H Q q => by
    obtain ⟨F, M, ds, k, ok, q, g⟩ := q
    refine ⟨rfl, F, M, [], _, _, ok.z.self, .nil, q, fun x M2 F2 H2 v k2 ok2 r2 => ?_, fun e M2 F2 H2 cls d k2 ok2 r2 => k2⟩
    exact g _ _ _ _ _ _ k2 (ok.call ok2) ok2.ext r2

/-! ### a def by its body -/
def fnD (n : Nat) (body : DST) : FSpec := fun xs M Q E => body { nx := fun _ M => Q .non M, rt := Q, bk := fun _ _ => False, ct := fun _ _ => False, ex := fun e _ M => E e M } (xs.map SV.d ++ List.replicate (n - xs.length) .no) M
theorem start_get {N : List Str} {vs : List V} {i : Nat} {v : V} (h : vs[i]? = some v) : (L2.start N vs)[i]? = some (some v) := by
  have hi := (List.getElem?_eq_some_iff.mp h).1
  unfold L2.start
  rw [List.getElem?_append_left (by rw [List.length_map]; exact hi), List.getElem?_map, h]
  rfl
theorem ok_start {N : List Str} {xs : List D} {vs : List V} (z : Ok0 K B F M H) (r : RepAll K F xs vs) : Ok K B F M (xs.map SV.d ++ List.replicate (N.length - xs.length) .no) (L2.start N vs) H := by
  refine ⟨z, ?_, fun i sv o e e2 => ?_, fun i j a w1 w2 => ?_⟩
  · unfold L2.start
    rw [List.length_append, List.length_append, List.length_map, List.length_map, List.length_replicate, List.length_replicate, r.length]
  · by_cases hi : i < xs.length
    · rw [List.getElem?_append_left (by rw [List.length_map]; exact hi), List.getElem?_map, List.getElem?_eq_getElem hi] at e
      cases e
      obtain ⟨v, h1, h2⟩ := r.get (List.getElem?_eq_getElem hi)
      rw [start_get h1] at e2
      cases e2
      exact ⟨v, rfl, h2⟩
    · rw [List.getElem?_append_right (by rw [List.length_map]; omega)] at e
      rw [List.getElem?_replicate] at e
      split at e
      · cases e; trivial
      · cases e
  · exfalso
    obtain ⟨⟨sv, h1, h2⟩, _⟩ := w1
    by_cases hi : i < xs.length
    · rw [List.getElem?_append_left (by rw [List.length_map]; exact hi), List.getElem?_map, List.getElem?_eq_getElem hi] at h1
      cases h1; cases h2
    · rw [List.getElem?_append_right (by rw [List.length_map]; omega), List.getElem?_replicate] at h1
      split at h1
      · cases h1; cases h2
      · cases h1
variable {P : Program} {w : World} {mg : Str → Option Value} {base : Heap}
theorem fn_ok {x qual : Str} {st : Stmt} {f : Addr} {fd : FuncData} {N ps : List Str} {k : Nat} {body : DST} (Fu : Fun K x qual st f fd) (S : FnScope N ps (defScope st))
    (der : ∀ (cdv : Value) (A : Around) (outer : List Env) (s : Shared) (H : Hp) (E : XK), Room k (A.deeper (envOfC qual (defScope st) s.heap.objs.size f cdv)) → PDB (cxOf (L2.CX P w) P w K mg base N qual (defScope st) f cdv A outer s H E) (defBody st) body) :
    FnOk P w K mg base (L2.CX P w) (k + 1) f fd ps (spF K ps.length (fnD N.length body)) := by
  refine Fu.okX S (fun vs H Q E h => h.1) fun cdv A outer s H vs Q E hr h => ?_
  obtain ⟨hl, F, M, xs, kQ, kE, z, r, q, h1, h2⟩ := h
  have lk : Lk (cxOf (L2.CX P w) P w K mg base N qual (defScope st) f cdv A outer s H E) ⟨H, F, M⟩ (fun e _ M => kE e M) :=
    ⟨rfl, S.nd, passes_of rfl, (takes_of rfl rfl rfl rfl).imp fun cls d σ H' hw => by
      obtain ⟨e, F', M', ds, ok, rx, ke⟩ := hw
      exact h2 e M' F' H' cls d ke ok.z rx⟩
  refine ⟨_, der cdv A outer s H E hr ⟨H, F, M⟩ _ lk, F, M, _, { nx := fun _ M => kQ .non M, rt := kQ, bk := fun _ _ => False, ct := fun _ _ => False, ex := fun e _ M => kE e M }, ok_start z r, ⟨fun ds M' F' σ H' q ok s => ?_, fun _ _ _ _ _ q => q.elim, fun _ _ _ _ _ q => q.elim, fun x M' F' H' v q ok r => h1 x M' F' H' v q ok r, rfl⟩, q⟩
  exact h1 .non M' F' H' .non q ok.z .non
end
end MW
namespace MW
open PySem PySem.Spec PyProof.Rows L2
section
variable {X : Cx} {K : PySem.W.Frag} {B : Bs} {F F' H H' : Hp} {M M' : MS} {ds ds' : DS} {σ σ' : L2.St} {p : Addr} {o : HO} {ex : EX}

/-! ### what is walked -/
/-- the iterator J yields the items, while the heap keeps F -/
structure Walks (K : PySem.W.Frag) (J : It) (items : List D) (C : MS → Prop) (F : Hp) : Prop where
  go : ∀ i B F' M H, i < items.length → Ok0 K B F' M H → Same F F' → C M → J.go i H
  stop : ∀ B F' M H, Ok0 K B F' M H → Same F F' → C M → J.stop items.length H
  yld : ∀ i H x H' d B F' M, items[i]? = some d → Ok0 K B F' M H → Same F F' → C M → J.yld i H x H' → Out K F' H d x H'
/-- the items, and what must stay of the cells while they are walked -/
structure Walk where
  xs : List D
  C : MS → Prop
abbrev DI := EX → DS → MS → (Walk → DS → MS → Prop) → Prop
def cI (K : PySem.W.Frag) (B : Bs) (t : DS → MS → (Walk → DS → MS → Prop) → Prop) : TI := fun σ H R => ∃ F M ds k, Ok K B F M ds σ H ∧ t ds M k ∧
  ∀ items ds' M' F' H' J, k items ds' M' → Ok K B F' M' ds' σ H' → Same F F' → Walks K J items.xs items.C F' → R J H'
abbrev noC : MS → Prop := fun _ => True
def PDI (X : Cx) (tg iter : Expr) (t : DI) : Prop := ∀ B ex, Lk X B ex → PI X tg iter (cI X.K B (t ex))
theorem pi_weaken {tg e : Expr} {t t' : TI} (h : PI X tg e t) (w : ∀ σ H Q, t' σ H Q → t σ H Q) : PI X tg e t' := ⟨fun pins s σ H Q I q => h.run pins s σ H Q I (w σ H Q q)⟩
theorem walks_list {a : Addr} {xs : List D} {vs : List V} (h : SqL K F a vs) (r : RepAll K F xs vs) : Walks K (Itl K a) xs noC F := by
  refine ⟨fun i B F' M H hi z e0 _ => ?_, fun B F' M H z e0 _ => ?_, fun i H x H' d B F' M hd z e1 _ y => ?_⟩
  · have hv : i < vs.length := by rw [← r.length]; exact hi
    exact ⟨vs, _, sqL_mono (e0.trans z.fr) h, List.getElem?_eq_getElem hv⟩
  · exact ⟨vs, sqL_mono (e0.trans z.fr) h, by rw [r.length]; exact Nat.le_refl _⟩
  · obtain ⟨v, h1, h2⟩ := r.get hd
    obtain ⟨rfl, y⟩ := y
    have := y vs (sqL_mono (e1.trans z.fr) h)
    rw [h1] at this
    cases this
    exact .inl ⟨rfl, h2.mono e1⟩
theorem walks_tup {a : Addr} {xs : List D} {vs : List V} (h : SqT K F a vs) (r : RepAll K F xs vs) : Walks K (Itt K a) xs noC F := by
  refine ⟨fun i B F' M H hi z e0 _ => ?_, fun B F' M H z e0 _ => ?_, fun i H x H' d B F' M hd z e1 _ y => ?_⟩
  · have hv : i < vs.length := by rw [← r.length]; exact hi
    exact ⟨vs, _, sqT_mono (e0.trans z.fr) h, List.getElem?_eq_getElem hv⟩
  · exact ⟨vs, sqT_mono (e0.trans z.fr) h, by rw [r.length]; exact Nat.le_refl _⟩
  · obtain ⟨v, h1, h2⟩ := r.get hd
    obtain ⟨rfl, y⟩ := y
    have := y vs (sqT_mono (e1.trans z.fr) h)
    rw [h1] at this
    cases this
    exact .inl ⟨rfl, h2.mono e1⟩
/-- what a range yields -/
def rngL (lo : Int) : Nat → List D
  | 0 => []
  | n + 1 => .int lo :: rngL (lo + 1) n
theorem rngL_len : ∀ (n : Nat) (lo : Int), (rngL lo n).length = n
  | 0, _ => rfl
  | n + 1, lo => by unfold rngL; rw [List.length_cons, rngL_len n]
theorem rngL_get : ∀ (n : Nat) (lo : Int) (i : Nat), i < n → (rngL lo n)[i]? = some (.int (lo + i))
  | 0, _, _, h => absurd h (Nat.not_lt_zero _)
  | n + 1, lo, 0, _ => by unfold rngL; simp
  | n + 1, lo, i + 1, h => by
    unfold rngL
    rw [List.getElem?_cons_succ, rngL_get n (lo + 1) i (by omega)]
    congr 2
    omega
theorem walks_range {lo : Int} {n : Nat} : Walks K (Itr lo n) (rngL lo n) noC F := by
  refine ⟨fun i B F' M H hi z e0 _ => ?_, fun B F' M H z e0 _ => ?_, fun i H x H' d B F' M hd z e1 _ y => ?_⟩
  · rw [rngL_len] at hi; exact hi
  · rw [rngL_len]; exact Nat.le_refl n
  · obtain ⟨rfl, rfl⟩ := y
    have hi := (List.getElem?_eq_some_iff.mp hd).1
    rw [rngL_len] at hi
    rw [rngL_get n lo i hi] at hd
    cases hd
    exact .inl ⟨rfl, .int _⟩
def chrs (x : Str) : List D := x.cps.toList.map fun c => .str ⟨#[c]⟩
theorem walks_str {x : Str} : Walks K (Its x) (chrs x) noC F := by
  refine ⟨fun i B F' M H hi z e0 _ => ?_, fun B F' M H z e0 _ => ?_, fun i H y H' d B F' M hd z e1 _ q => ?_⟩
  · show i < x.cps.size
    simpa [chrs] using hi
  · show x.cps.size ≤ _
    simp [chrs]
  · obtain ⟨rfl, c, h1, rfl⟩ := q
    unfold chrs at hd
    rw [List.getElem?_map, Array.getElem?_toList, h1] at hd
    cases hd
    exact .inl ⟨rfl, .str _⟩
/-- a list, a tuple or a text; an own list is frozen -/
def dIt (t : DE) : DI := fun ex ds M k => dUse t ex ds M fun x ds1 M1 => match x with
  | .lst xs => k ⟨xs, noC⟩ ds1 M1
  | .frl xs => k ⟨xs, noC⟩ ds1 M1
  | .tup xs => k ⟨xs, noC⟩ ds1 M1
  | .str x => k ⟨chrs x, noC⟩ ds1 M1
  | .ref a => match M1 a with
    | some (.lst xs) => k ⟨xs, fun M => M a = some (.lst xs)⟩ ds1 M1
    | _ => False
  | _ => False
theorem walks_cell {a : Addr} {xs : List D} (hF : True) : Walks K (Itl K a) xs (fun M => M a = some (.lst xs)) F := by
  refine ⟨fun i B F' M H hi z e0 c => ?_, fun B F' M H z e0 c => ?_, fun i H x H' d B F' M hd z e1 c y => ?_⟩
  · obtain ⟨vs, h1, h2⟩ := (z.cell a _ c).2
    have hv : i < vs.length := by rw [← h2.length]; exact hi
    exact ⟨vs, _, SqL.of h1, List.getElem?_eq_getElem hv⟩
  · obtain ⟨vs, h1, h2⟩ := (z.cell a _ c).2
    exact ⟨vs, SqL.of h1, by rw [h2.length]; exact Nat.le_refl _⟩
  · obtain ⟨vs, h1, h2⟩ := (z.cell a _ c).2
    obtain ⟨v, g1, g2⟩ := h2.get hd
    obtain ⟨rfl, y⟩ := y
    have := y vs (SqL.of h1)
    rw [g1] at this
    cases this
    exact .inl ⟨rfl, g2⟩
theorem pi_or {tg e : Expr} {t t' : TI} (h : PI X tg e t) (h' : PI X tg e t') : PI X tg e (fun σ H R => t σ H R ∨ t' σ H R) := ⟨fun pins s σ H R I q => q.elim (h.run pins s σ H R I) (h'.run pins s σ H R I)⟩
/-- the three walks of a value -/
theorem pi_three {tg e : Expr} {te : TE} (he : PE X e te) : PI X tg e (fun σ H R => te σ H fun x H1 => (∃ a, x = .ref a ∧ (∃ xs, SqL X.K H1 a xs) ∧ R (Itl X.K a) H1) ∨ (∃ a, x = .ref a ∧ (∃ xs, SqT X.K H1 a xs) ∧ R (Itt X.K a) H1) ∨ (∃ x', x = .str x' ∧ R (Its x') H1)) := by
  constructor
  intro pins s σ H R I h
  refine thn (he.run pins s σ H _ I h) ?_
  rintro v s1 ⟨x, H1, I1, r1, ⟨a, rfl, ⟨xs, hq⟩, q⟩ | ⟨a, rfl, ⟨xs, hq⟩, q⟩ | ⟨x, rfl, q⟩⟩
  · cases r1
    obtain ⟨its, rv, pl, hz⟩ := I1.list hq
    exact wpAny_pyIter_list pl.isList (pi_one (tk := s1.toks) I1 _ (turn_list a _) ⟨_, Heap.get?_push_size _ rfl, rfl, rfl⟩ q)
  · cases r1
    obtain ⟨its, rv, pl, hz⟩ := I1.tuple hq
    exact wpAny_pyIter_tuple pl (pi_one (tk := s1.toks) I1 _ (turn_tuple a _) ⟨_, Heap.get?_push_size _ rfl, rfl, rfl⟩ q)
  · obtain ⟨t, rfl⟩ := r1
    by_cases ha : x.cps.all (· < 128) = true
    · exact wpAny_pyIter_ascii ha (pi_one (tk := s1.toks) I1 _ (turn_str _ x t "str_ascii_iterator" (.inl rfl)) ⟨_, Heap.get?_push_size _ rfl, rfl, rfl⟩ q)
    · exact wpAny_pyIter_wide (Bool.eq_false_iff.mpr ha) (pi_one (tk := s1.toks) I1 _ (turn_str _ x t "str_iterator" (.inr rfl)) ⟨_, Heap.get?_push_size _ rfl, rfl, rfl⟩ q)
/-- by the value: one expression, three walks -/
theorem pdi_it {tg e : Expr} {t : DE} (h : PD X e t) : PDI X tg e (dIt t) := fun B ex lk =>
  pi_weaken (pi_three (h B ex lk)) fun σ H R q => by
    obtain ⟨F, M, ds, k, ok, q, g⟩ := q
    refine d_use ⟨F, M, ds, _, ok, q, fun x ds1 M1 F1 H1 v q1 ok1 s1 r1 => ?_⟩
    cases x with
    | lst xs =>
      cases r1 with
      | lst hl ra => exact .inl ⟨_, rfl, ⟨_, SqL.of (ok1.z.fr _ _ hl)⟩, g _ _ _ _ _ _ q1 ok1 s1 (walks_list (SqL.of hl) ra)⟩
    | frl xs =>
      cases r1 with
      | frl hl ra => exact .inl ⟨_, rfl, ⟨_, sqL_mono ok1.z.fr hl⟩, g _ _ _ _ _ _ q1 ok1 s1 (walks_list hl ra)⟩
    | tup xs =>
      cases r1 with
      | tup hl ra => exact .inr (.inl ⟨_, rfl, ⟨_, sqT_mono ok1.z.fr hl⟩, g _ _ _ _ _ _ q1 ok1 s1 (walks_tup hl ra)⟩)
    | str x =>
      cases r1
      exact .inr (.inr ⟨_, rfl, g _ _ _ _ _ _ q1 ok1 s1 walks_str⟩)
    | ref a =>
      cases r1
      cases e : M1 a with
      | none => simp only [e] at q1
      | some m =>
        cases m with
        | lst xs =>
          simp only [e] at q1
          obtain ⟨vs, h1, h2⟩ := (ok1.z.cell a _ e).2
          exact .inl ⟨_, rfl, ⟨_, SqL.of h1⟩, g _ _ _ _ _ _ q1 ok1 s1 (walks_cell trivial)⟩
        | _ => simp only [e] at q1
    | _ => cases q1

/-! ### for -/
def dForL (C : MS → Prop) (g : DG) (body : DST) (E : DEnds) : List D → DS → MS → Prop
  | [], ds, M => C M ∧ E.nx ds M
  | x :: xs, ds, M => C M ∧ g E.ex x ds M fun ds1 M1 => body { E with nx := dForL C g body E xs, ct := dForL C g body E xs, bk := E.nx } ds1 M1
def dFor (it : DI) (g : DG) (body : DST) : DST := fun E ds M => it E.ex ds M fun w ds1 M1 => dForL w.C g body E w.xs ds1 M1
theorem pds_for {tg iter : Expr} {body : List Stmt} {it : DI} {g : DG} {tb : DST} {pos : Pos} (hi : PDI X tg iter it) (hg : PDG X tg g) (hb : PDB X body tb) (hs : ∀ x, foldedSetIterable iter X.env x = pure x := by intro _; rfl) : PDS X (.For tg iter body [] pos) (dFor it g tb) := fun B ex lk =>
  ps_weaken (ps_for lk.po lk.calm (hi B ex lk) (hg B ex lk) (hb B ex lk) hs) fun D σ H q => by
    obtain ⟨F, M, ds, E, ok, eo, q⟩ := q
    have ee := eo.ex; subst ee
    refine ⟨F, M, ds, _, ok, q, fun w ds1 M1 F1 H1 J q1 ok1 s1 wk => ?_⟩
    obtain ⟨items, C⟩ := w
    dsimp only at wk q1
    refine ⟨fun i m σ H => ∃ F2 M2 ds2, Ok X.K B F2 M2 ds2 σ H ∧ Same F1 F2 ∧ i + m = items.length ∧ dForL C g tb E (items.drop i) ds2 M2, ⟨items.length, F1, M1, ds1, ok1, Same.refl F1, by omega, q1⟩, fun i m σ' H' hw => ?_⟩
    obtain ⟨F2, M2, ds2, ok2, s2, em, q2⟩ := hw
    have sH := s2.trans ok2.z.fr
    by_cases hi : i < items.length
    · rw [List.drop_eq_getElem_cons hi] at q2
      obtain ⟨c2, q2⟩ := q2
      refine .inr ⟨wk.go i B F2 M2 H' hi ok2.z s2 c2, fun σ4 H4 => ∃ F4 M4 ds4, Ok X.K B F4 M4 ds4 σ4 H4 ∧ Same F1 F4 ∧ dForL C g tb E (items.drop (i + 1)) ds4 M4, fun σ4 H4 hN => ?_, fun x H3 hy => ?_⟩
      · obtain ⟨F4, M4, ds4, ok4, s4, q4⟩ := hN
        exact ⟨m - 1, by omega, F4, M4, ds4, ok4, s4, by omega, q4⟩
      · have out := wk.yld i H' x H3 _ B F2 M2 (List.getElem?_eq_getElem hi) ok2.z s2 c2 hy
        obtain ⟨F3, ok3, s3, r3⟩ := ok2.out out
        refine ⟨F3, M2, ds2, _, _, ok3, r3, q2, fun ds5 M5 F5 H5 σ5 q5 ok5 s5 => ?_⟩
        have s25 := (s2.trans s3).trans s5
        exact ⟨F5, M5, ds5, { E with nx := dForL C g tb E (items.drop (i + 1)), ct := dForL C g tb E (items.drop (i + 1)), bk := E.nx }, ok5,
          ⟨fun ds M F σ H q ok s => ⟨F, M, ds, ok, s25.trans s, q⟩, fun ds M F σ H q ok s => eo.nx _ _ _ _ _ q ok ((s1.trans s25).trans s), fun ds M F σ H q ok s => ⟨F, M, ds, ok, s25.trans s, q⟩, eo.rt, rfl⟩, q5⟩
    · have e : items.drop i = [] := List.drop_eq_nil_of_le (by omega)
      rw [e] at q2
      have ei : i = items.length := by omega
      subst ei
      exact .inl ⟨wk.stop B F2 M2 H' ok2.z s2 q2.1, eo.nx _ _ _ _ _ q2.2 ok2 (s1.trans s2)⟩

/-! ### while -/
def dWhileN (c : DT) (body : DST) (E : DEnds) : Nat → DS → MS → Prop
  | 0, _, _ => False
  | n + 1, ds, M => c E.ex ds M fun b ds1 M1 => bif b then body { E with nx := dWhileN c body E n, ct := dWhileN c body E n, bk := E.nx } ds1 M1 else E.nx ds1 M1
def dWhile (c : DT) (body : DST) : DST := fun E ds M => ∃ n, dWhileN c body E n ds M
theorem pds_while {c : Expr} {body : List Stmt} {tc : DT} {tb : DST} {pos : Pos} (hc : PDT X c tc) (hb : PDB X body tb) : PDS X (.While c body [] pos) (dWhile tc tb) := fun B ex lk =>
  ps_weaken (ps_while lk.po (hc B ex lk) (hb B ex lk)) fun D σ H q => by
    obtain ⟨F, M, ds, E, ok, eo, n, q⟩ := q
    have ee := eo.ex; subst ee
    refine ⟨fun m σ H => ∃ F2 M2 ds2, Ok X.K B F2 M2 ds2 σ H ∧ Same F F2 ∧ dWhileN tc tb E m ds2 M2, ⟨n, F, M, ds, ok, Same.refl F, q⟩, fun m σ' H' hw => ?_⟩
    obtain ⟨F2, M2, ds2, ok2, s2, q2⟩ := hw
    cases m with
    | zero => cases q2
    | succ m =>
      refine ⟨F2, M2, ds2, _, ok2, q2, fun b ds3 M3 F3 H3 q3 ok3 s3 => ?_⟩
      cases b with
      | true =>
        rw [if_pos rfl]
        refine ⟨fun σ4 H4 => ∃ F4 M4 ds4, Ok X.K B F4 M4 ds4 σ4 H4 ∧ Same F F4 ∧ dWhileN tc tb E m ds4 M4, fun σ4 H4 hN => ⟨m, Nat.lt_succ_self m, hN⟩, ?_⟩
        have s23 := s2.trans s3
        exact ⟨F3, M3, ds3, { E with nx := dWhileN tc tb E m, ct := dWhileN tc tb E m, bk := E.nx }, ok3,
          ⟨fun ds M F σ H q ok s => ⟨F, M, ds, ok, s23.trans s, q⟩, fun ds M F σ H q ok s => eo.nx _ _ _ _ _ q ok (s23.trans s), fun ds M F σ H q ok s => ⟨F, M, ds, ok, s23.trans s, q⟩, eo.rt, rfl⟩, q3⟩
      | false =>
        rw [if_neg Bool.false_ne_true]
        exact eo.nx _ _ _ _ _ q3 ok3 (s2.trans s3)

/-! ### comprehensions -/
def wipeD (ds : DS) : List Nat → DS
  | [] => ds
  | v :: vs => (wipeD ds vs).set v .no
/-- the block's own names get back what they had -/
def backD (ds0 ds : DS) : List Nat → DS
  | [] => ds
  | v :: vs => (backD ds0 ds vs).set v (match ds0[v]? with | some (.d x) => .d x | _ => .no)
theorem Ok.wipe (k : Ok K B F M ds σ H) : ∀ vs : List Nat, Ok K B F M (wipeD ds vs) (L2.wipe σ vs) H
  | [] => k
  | v :: vs => (Ok.wipe k vs).drop v none
theorem Ok.wipe' (k : Ok K B F M ds σ H) : ∀ vs : List Nat, Ok K B F M (wipeD ds vs) σ H
  | [] => k
  | v :: vs => (Ok.wipe' k vs).view (fun _ _ => trivial) fun w => nomatch w
/-- behind the block: the slots as they were -/
theorem wipe_get {σ : L2.St} {i : Nat} : ∀ {vs : List Nat}, i ∉ vs → (L2.wipe σ vs)[i]? = σ[i]?
  | [], _ => rfl
  | v :: vs, h => by
    have h1 : i ≠ v := fun z => h (by rw [z]; exact List.mem_cons_self)
    have h2 : i ∉ vs := fun z => h (List.mem_cons_of_mem _ z)
    show ((L2.wipe σ vs).set v none)[i]? = _
    rw [List.getElem?_set_ne (Ne.symm h1)]
    exact wipe_get h2
theorem wipeD_len : ∀ vs : List Nat, (wipeD ds vs).length = ds.length
  | [] => rfl
  | v :: vs => by
    show ((wipeD ds vs).set v .no).length = _
    rw [List.length_set]
    exact wipeD_len vs
theorem wipeD_in {i : Nat} : ∀ {vs : List Nat}, i ∈ vs → ∀ sv, (wipeD ds vs)[i]? = some sv → sv = .no
  | [], h => by simp at h
  | v :: vs, h => fun sv e => by
    have e' : ((wipeD ds vs).set v .no)[i]? = some sv := e
    by_cases z : i = v
    · subst z
      have hl := (List.getElem?_eq_some_iff.mp e').1
      rw [List.length_set] at hl
      rw [List.getElem?_set_self hl] at e'
      cases e'; rfl
    · rw [List.getElem?_set_ne (Ne.symm z)] at e'
      rcases List.mem_cons.mp h with q | q
      · exact absurd q z
      · exact wipeD_in q sv e'
/-- from the block's slots to ours, its own names forgotten -/
theorem Ok.unwipe {vs : List Nat} (hl : σ'.length = σ.length) (hw : ∀ i, i ∉ vs → σ'[i]? = σ[i]?) (k : Ok K B F M (wipeD ds vs) σ' H) : Ok K B F M (wipeD ds vs) σ H := by
  refine ⟨k.z, k.len.trans hl, fun i sv o e e2 => ?_, fun i j a w1 w2 => ?_⟩
  · by_cases hi : i ∈ vs
    · rw [wipeD_in hi sv e]; trivial
    · exact k.slot i sv o e (by rw [hw i hi]; exact e2)
  · have conv : ∀ i, OwnAt (wipeD ds vs) σ i a → OwnAt (wipeD ds vs) σ' i a := fun i w => by
      obtain ⟨⟨sv, h1, h2⟩, h3⟩ := w
      by_cases hi : i ∈ vs
      · rw [wipeD_in hi sv h1] at h2; cases h2
      · exact ⟨⟨sv, h1, h2⟩, by rw [hw i hi]; exact h3⟩
    exact k.inj i j a (conv i w1) (conv j w2)
theorem Ok.back {ds0 : DS} {F0 : Hp} {H0 : Hp} {M0 : MS} (k0 : Ok K B F0 M0 ds0 σ H0) (s : Same F0 F) (k : Ok K B F M ds σ H) : ∀ vs : List Nat, Ok K B F M (backD ds0 ds vs) σ H
  | [] => k
  | v :: vs => by
    have ih := Ok.back k0 s k vs
    show Ok K B F M ((backD ds0 ds vs).set v (match ds0[v]? with | some (.d x) => .d x | _ => .no)) σ H
    cases e : ds0[v]? with
    | none => exact ih.view (fun _ _ => trivial) fun w => nomatch w
    | some sv =>
      cases sv with
      | d x =>
        obtain ⟨u, h1, h2⟩ := k0.dat e
        exact ih.view (sv := .d x) (fun o ho => by rw [h1] at ho; cases ho; exact ⟨u, rfl, h2.mono s⟩) fun w => nomatch w
      | _ => exact ih.view (fun _ _ => trivial) fun w => nomatch w
def exF : EX := fun _ _ _ => False
def dLcL (C : MS → Prop) (g : DG) (tt : DT) (te : DE) (vs : List Nat) (k : List D → DS → MS → Prop) : List D → List D → DS → MS → Prop
  | [], acc, ds, M => C M ∧ k acc ds M
  | x :: xs, acc, ds, M => C M ∧ g exF x ds M fun ds1 M1 => tt exF ds1 M1 fun b ds2 M2 => bif b then
      dUse te exF ds2 M2 fun y ds3 M3 => acc.length < sizeLine ∧ dLcL C g tt te vs k xs (acc ++ [y]) (wipeD ds3 vs) M3
    else dLcL C g tt te vs k xs acc (wipeD ds2 vs) M2
def dLc (it : DI) (g : DG) (tt : DT) (te : DE) (vs : List Nat) : DL := fun ex ds M k => it ex ds M fun w ds1 M1 =>
  dLcL w.C g tt te vs (fun acc ds2 M2 => k acc (backD ds1 ds2 vs) M2) w.xs [] (wipeD ds1 vs) M1
/-- the block's target: names of its own -/
inductive Inner (K : PySem.W.Frag) (vs : List Nat) : DG → TG → Prop
  | name (j : Nat) : j ∈ vs → Inner K vs (dgName j) (gName j)
  | tup (js : List Nat) : (∀ j ∈ js, j ∈ vs) → Inner K vs (dgTup js) (gTup K js.length (gNames js))
def dYes : DT := fun _ ds M k => k true ds M
def PDTs (X : Cx) (ifs : List Expr) (t : DT) : Prop := ∀ B ex, Lk X B ex → PTs X ifs (cT X.K B (t ex))
theorem pts_weaken {e : List Expr} {t t' : TT} (h : PTs X e t) (w : ∀ σ H Q, t' σ H Q → t σ H Q) : PTs X e t' := ⟨fun pins s σ H Q I q => h.run pins s σ H Q I (w σ H Q q)⟩
theorem pdts_nil : PDTs X [] dYes := fun B ex lk => pts_weaken pts_nil fun σ H Q q => by
  obtain ⟨F, M, ds, k, ok, q, g⟩ := q
  exact g _ _ _ _ _ q ok (Same.refl F)
theorem pdts_one {c : Expr} {t : DT} (h : PDT X c t) : PDTs X [c] t := fun B ex lk => pts_one (h B ex lk)
theorem set_set_comm {σ : L2.St} {i j : Nat} {x y : Option V} (h : i ≠ j) : (σ.set i x).set j y = (σ.set j y).set i x := List.set_comm x y h
theorem wipe_set {σ : L2.St} {x : Option V} {j : Nat} : ∀ {vs : List Nat}, j ∈ vs → L2.wipe (σ.set j x) vs = L2.wipe σ vs
  | [], h => by simp at h
  | v :: vs, h => by
    show (L2.wipe (σ.set j x) vs).set v none = (L2.wipe σ vs).set v none
    by_cases z : j ∈ vs
    · rw [wipe_set z]
    · rcases List.mem_cons.mp h with q | q
      · subst q
        have e : ∀ (ws : List Nat), j ∉ ws → L2.wipe (σ.set j x) ws = (L2.wipe σ ws).set j x := fun ws hws => by
          induction ws with
          | nil => rfl
          | cons w ws ih =>
            have h1 : j ≠ w := fun z => hws (by rw [z]; exact List.mem_cons_self)
            show (L2.wipe (σ.set j x) ws).set w none = ((L2.wipe σ ws).set w none).set j x
            rw [ih fun z => hws (List.mem_cons_of_mem _ z), List.set_comm _ _ h1]
        rw [e vs z, List.set_set]
      · exact absurd q z
theorem wipe_wipe {σ : L2.St} : ∀ {vs ws : List Nat}, (∀ j ∈ vs, j ∈ ws) → L2.wipe (L2.wipe σ vs) ws = L2.wipe σ ws
  | [], _, _ => rfl
  | v :: vs, ws, h => by
    show L2.wipe ((L2.wipe σ vs).set v none) ws = _
    rw [wipe_set (h v List.mem_cons_self), wipe_wipe fun j hj => h j (List.mem_cons_of_mem _ hj)]
theorem wipe_putAll : ∀ {js : List Nat} {vs : List V} {σ : L2.St} {ws : List Nat}, (∀ j ∈ js, j ∈ ws) → L2.wipe (putAllV js vs σ) ws = L2.wipe σ ws
  | [], _, _, _, _ => by unfold putAllV; rfl
  | _ :: _, [], _, _, _ => by unfold putAllV; rfl
  | j :: js, v :: vs, σ, ws, h => by
    show L2.wipe (putAllV js vs (σ.set j (some v))) ws = _
    rw [wipe_putAll fun i hi => h i (List.mem_cons_of_mem _ hi), wipe_set (h j List.mem_cons_self)]
theorem gNames_inv : ∀ {js : List Nat} {vs : List V} {σ : L2.St} {H : Hp} {Q : L2.St → Hp → Prop}, gNames js vs σ H Q → vs.length = js.length ∧ Q (putAllV js vs σ) H
  | [], _, _, _, _, q => by
    obtain ⟨rfl, q⟩ := q
    exact ⟨rfl, q⟩
  | j :: js, _, _, _, _, q => by
    obtain ⟨v, r, rfl, q⟩ := q
    obtain ⟨h1, h2⟩ := gNames_inv (js := js) q
    exact ⟨by rw [List.length_cons, List.length_cons, h1], h2⟩
theorem putAll_len : ∀ (js : List Nat) (xs : List D) (ds : DS), (MW.putAll js xs ds).length = ds.length
  | [], _, _ => by unfold MW.putAll; rfl
  | _ :: _, [], _ => by unfold MW.putAll; rfl
  | j :: js, x :: xs, ds => by
    show (MW.putAll js xs (ds.set j (.d x))).length = _
    rw [putAll_len, List.length_set]
theorem OwnAt.set_off {i j : Nat} {sv : SV} {x : Option V} {a : Addr} (hl : ds.length = σ.length) (hn : isOwn sv = false) (w : OwnAt (ds.set i sv) (σ.set i x) j a) : OwnAt ds σ j a := by
  obtain ⟨⟨s, h1, h2⟩, h3⟩ := w
  by_cases z : j = i
  · subst z
    have g1 := (List.getElem?_eq_some_iff.mp h1).1
    rw [List.length_set] at g1
    rw [List.getElem?_set_self g1] at h1
    cases h1
    rw [hn] at h2; cases h2
  · rw [List.getElem?_set_ne (Ne.symm z)] at h1 h3
    exact ⟨⟨s, h1, h2⟩, h3⟩
theorem OwnAt.putAll_off : ∀ {js : List Nat} {xs : List D} {vs : List V} {ds : DS} {σ : L2.St} {j : Nat} {a : Addr}, ds.length = σ.length → xs.length = vs.length → OwnAt (MW.putAll js xs ds) (putAllV js vs σ) j a → OwnAt ds σ j a
  | [], _, _, _, _, _, _, _, _, w => by
    unfold MW.putAll putAllV at w
    exact w
  | _ :: _, [], [], _, _, _, _, _, _, w => by
    unfold MW.putAll putAllV at w
    exact w
  | _ :: _, [], _ :: _, _, _, _, _, _, h, _ => by simp at h
  | _ :: _, _ :: _, [], _, _, _, _, _, h, _ => by simp at h
  | j :: js, x :: xs, v :: vs, ds, σ, _, _, hl, h, w =>
    OwnAt.set_off hl rfl (OwnAt.putAll_off (js := js) (xs := xs) (vs := vs) (ds := ds.set j (.d x)) (σ := σ.set j (some v)) (by rw [List.length_set, List.length_set]; exact hl) (by simpa using h) w)
/-- one turn: the target's store -/
theorem inner_ok {vs : List Nat} {g : DG} {tg : TG} (hi : Inner K vs g tg) {d : D} {x : V} {kk : DS → MS → Prop} {Q : L2.St → Hp → Prop} (ok : Ok K B F M ds σ H) (r : Rep K F d x)
    (q : g exF d ds M kk) (h : ∀ ds1 σ1, kk ds1 M → Ok K B F M ds1 σ1 H → L2.wipe σ1 vs = L2.wipe σ vs → (∀ a, (∀ i, ¬ OwnAt ds σ i a) → ∀ i, ¬ OwnAt ds1 σ1 i a) → Q σ1 H) : tg x σ H Q := by
  cases hi with
  | name j hj => exact h _ _ q (ok.slotSet (sv := .d d) ⟨x, rfl, r⟩ fun w => nomatch w) (wipe_set hj) fun a n i w => n i (OwnAt.set_off ok.len rfl w)
  | tup js hj =>
    cases d with
    | tup xs =>
      obtain ⟨q0, q⟩ := q
      cases r with
      | tup hs ra =>
        refine ⟨_, _, rfl, sqT_mono ok.z.fr hs, by rw [← ra.length]; exact q0, gNames_ok (by rw [← ra.length]; exact q0) ?_⟩
        exact h _ _ q (ok.putAll (js := js) ra) (wipe_putAll hj) fun a n i w => n i (OwnAt.putAll_off ok.len ra.length w)
    | _ => cases q

/-! ### another base, that keeps all that stands but what is ours -/
open Classical in
noncomputable def Bs.at (F H : Hp) (M : MS) (ds : DS) (σ : L2.St) : Bs := ⟨fun a => if (∃ i, OwnAt ds σ i a) then none else H a, F, M⟩
theorem Bs.at_some {a : Addr} {u : HO} (h : (Bs.at F H M ds σ).H0 a = some u) : H a = some u ∧ ¬ ∃ i, OwnAt ds σ i a := by
  unfold Bs.at at h
  dsimp only at h
  split at h
  · cases h
  · rename_i n; exact ⟨h, n⟩
theorem Bs.at_none {a : Addr} (h : (Bs.at F H M ds σ).H0 a = none) : H a = none ∨ ∃ i, OwnAt ds σ i a := by
  unfold Bs.at at h
  dsimp only at h
  split at h
  · rename_i y; exact .inr y
  · exact .inl h
theorem Bs.at_own {a : Addr} {i : Nat} (h : OwnAt ds σ i a) : (Bs.at F H M ds σ).H0 a = none := by
  unfold Bs.at
  dsimp only
  rw [if_pos ⟨i, h⟩]
theorem Bs.at_free {a : Addr} (h : H a = none) : (Bs.at F H M ds σ).H0 a = none := by
  unfold Bs.at
  dsimp only
  split
  · rfl
  · exact h
theorem Ok.based (k : Ok K B F M ds σ H) : Ok K (Bs.at F H M ds σ) F M ds σ H := by
  refine ⟨⟨Same.refl F, k.z.fr, fun _ e => .inl e, fun _ e => .inl e, k.z.cell, fun a u e _ => (Bs.at_some e).1, fun a e => ?_⟩, k.len, fun i sv o e e2 => ?_, k.inj⟩
  · cases q : (Bs.at F H M ds σ).H0 a with
    | none => exact absurd q e
    | some u => rw [(Bs.at_some q).1]; simp
  · have q := k.slot i sv o e e2
    cases sv with
    | no => trivial
    | d x => exact q
    | own xs =>
      obtain ⟨a, vs, h1, h2, h3, h4⟩ := q
      exact ⟨a, vs, h1, h2, h3, ⟨Bs.at_own ⟨⟨_, e, rfl⟩, by rw [e2, h1]⟩, h4.f, h4.m⟩⟩
    | ownD xs =>
      obtain ⟨a, vs, h1, h2, h3, h4⟩ := q
      exact ⟨a, vs, h1, h2, h3, ⟨Bs.at_own ⟨⟨_, e, rfl⟩, by rw [e2, h1]⟩, h4.f, h4.m⟩⟩
/-- back to the old base -/
theorem Ok.rebase (k : Ok K B F M ds σ H) (k' : Ok K (Bs.at F H M ds σ) F' M' ds' σ' H') : Ok K B F' M' ds' σ' H' := by
  have h0 : ∀ a, (Bs.at F H M ds σ).H0 a = none → B.H0 a = none := fun a e => by
    rcases Bs.at_none e with q | ⟨i, q⟩
    · exact k.z.h0none q
    · obtain ⟨_, _, l⟩ := k.ownAt q
      exact l.h
  have up : ∀ a u, B.H0 a = some u → H a = some u → (Bs.at F H M ds σ).H0 a = some u := fun a u e e2 => by
    cases q : (Bs.at F H M ds σ).H0 a with
    | none => rw [h0 a q] at e; cases e
    | some w => rw [(Bs.at_some q).1] at e2; exact e2
  have mn : ∀ a u, B.H0 a = some u → B.M0 a = none → M a = none := fun a u e e2 => by
    cases q : M a with
    | none => rfl
    | some m =>
      rcases k.z.mNew a (by rw [q]; simp) with g | g
      · exact absurd e2 g
      · rw [e] at g; cases g
  refine ⟨⟨k.z.ext.trans k'.z.ext, k'.z.fr, fun a e => ?_, fun a e => ?_, k'.z.cell, fun a u e e2 => ?_, fun a e => ?_⟩, k'.len, fun i sv o e e2 => ?_, k'.inj⟩
  · rcases k'.z.frNew a e with q | q
    · exact k.z.frNew a q
    · exact .inr (h0 a q)
  · rcases k'.z.mNew a e with q | q
    · exact k.z.mNew a q
    · exact .inr (h0 a q)
  · exact k'.z.frame a u (up a u e (k.z.frame a u e e2)) (mn a u e e2)
  · cases q : B.H0 a with
    | none => exact absurd q e
    | some u =>
      have ha := k.z.there a e
      cases g : H a with
      | none => exact absurd g ha
      | some w =>
        refine k'.z.there a ?_
        cases z : (Bs.at F H M ds σ).H0 a with
        | none => rw [h0 a z] at q; cases q
        | some _ => simp
  · have q := k'.slot i sv o e e2
    cases sv with
    | no => trivial
    | d x => exact q
    | own xs =>
      obtain ⟨a, vs, h1, h2, h3, h4⟩ := q
      exact ⟨a, vs, h1, h2, h3, ⟨h0 a h4.h, h4.f, h4.m⟩⟩
    | ownD xs =>
      obtain ⟨a, vs, h1, h2, h3, h4⟩ := q
      exact ⟨a, vs, h1, h2, h3, ⟨h0 a h4.h, h4.f, h4.m⟩⟩
/-- what nobody has stays -/
theorem Ok.kept (k : Ok K B F M ds σ H) (k' : Ok K (Bs.at F H M ds σ) F' M' ds' σ' H') (hl : Loc B F M p) (hw : ∀ i, ¬ OwnAt ds σ i p) (hp : H p = some o) : H' p = some o ∧ Loc B F' M' p ∧ ∀ i, ¬ OwnAt ds' σ' i p := by
  have hb : (Bs.at F H M ds σ).H0 p = some o := by
    cases q : (Bs.at F H M ds σ).H0 p with
    | none =>
      rcases Bs.at_none q with g | ⟨i, g⟩
      · rw [hp] at g; cases g
      · exact absurd g (hw i)
    | some w => rw [(Bs.at_some q).1] at hp; exact hp
  refine ⟨k'.z.frame p o hb hl.m, ⟨hl.h, ?_, ?_⟩, fun i w => ?_⟩
  · cases q : F' p with
    | none => rfl
    | some m =>
      rcases k'.z.frNew p (by rw [q]; simp) with g | g
      · exact absurd hl.f g
      · rw [hb] at g; cases g
  · cases q : M' p with
    | none => rfl
    | some m =>
      rcases k'.z.mNew p (by rw [q]; simp) with g | g
      · exact absurd hl.m g
      · rw [hb] at g; cases g
  · obtain ⟨_, _, l⟩ := k'.ownAt w
    rw [l.h] at hb; cases hb

theorem own_wipe1 {vs : List Nat} {i : Nat} {a : Addr} (w : OwnAt (wipeD ds vs) (L2.wipe σ vs) i a) : OwnAt ds σ i a := by
  obtain ⟨⟨sv, h1, h2⟩, h3⟩ := w
  have hi : i ∉ vs := fun z => by rw [wipeD_in z sv h1] at h2; cases h2
  rw [wipe_get hi] at h3
  have : ∀ vs : List Nat, i ∉ vs → (wipeD ds vs)[i]? = ds[i]? := fun vs => by
    induction vs with
    | nil => intro _; rfl
    | cons v vs ih =>
      intro h
      show ((wipeD ds vs).set v .no)[i]? = _
      rw [List.getElem?_set_ne fun z => h (by rw [z]; exact List.mem_cons_self), ih fun z => h (List.mem_cons_of_mem _ z)]
  rw [this vs hi] at h1
  exact ⟨⟨sv, h1, h2⟩, h3⟩
theorem nw_wipe {vs : List Nat} {a : Addr} (_ : ds.length = σ.length) (n : ∀ i, ¬ OwnAt ds σ i a) : ∀ i, ¬ OwnAt (wipeD ds vs) (L2.wipe σ vs) i a := fun i w => n i (own_wipe1 w)
theorem own_wipe {vs : List Nat} {i : Nat} {a : Addr} (w : OwnAt (wipeD ds vs) σ i a) : OwnAt (wipeD ds vs) (L2.wipe σ vs) i a := by
  obtain ⟨⟨sv, h1, h2⟩, h3⟩ := w
  have hi : i ∉ vs := fun z => by rw [wipeD_in z sv h1] at h2; cases h2
  exact ⟨⟨sv, h1, h2⟩, by rw [wipe_get hi]; exact h3⟩
theorem own_back {ds0 : DS} {i : Nat} {a : Addr} : ∀ {vs : List Nat}, OwnAt (backD ds0 ds vs) σ i a → OwnAt ds σ i a
  | [], w => w
  | v :: vs, w => by
    have w' : OwnAt ((backD ds0 ds vs).set v (match ds0[v]? with | some (.d x) => .d x | _ => .no)) σ i a := w
    refine own_back (OwnAt.set_no ?_ w').2
    split <;> rfl
theorem lk_blk {s : Shared} {H0 : Hp} {scope : Scope} {cenv : Env} {fp : List Addr} (lk : Lk X B ex) (B' : Bs) : Lk (X.blk s H0 scope cenv fp) B' exF :=
  ⟨lk.calm, lk.nd, .never, takes0.imp fun cls d σ H hw => by
    obtain ⟨e, F, M, ds, _, _, q⟩ := hw
    exact q⟩
theorem pdl_lc {elt tg iter : Expr} {ifs : List Expr} {scope : Scope} {own : List (Str × Nat)} {it : DI} {g : DG} {tgr : TG} {tt : DT} {te : DE} (hi : PDI X tg iter it) (hok : BlkOk X.N X.env.scope scope own) (inn : Inner X.K (own.map (·.2)) g tgr)
    (hg : X.calm = true → ∀ (s : Shared) (H : Hp) (C : Addr) (cl : List (Str × Addr)) (fp : List Addr), PG (X.blk s H scope (compEnvC scope cl C X.env) fp) tg tgr)
    (ht : ∀ (s : Shared) (H : Hp) (C : Addr) (cl : List (Str × Addr)) (fp : List Addr), PDTs (X.blk s H scope (compEnvC scope cl C X.env) fp) ifs tt)
    (he : ∀ (s : Shared) (H : Hp) (C : Addr) (cl : List (Str × Addr)) (fp : List Addr), PD (X.blk s H scope (compEnvC scope cl C X.env) fp) elt te)
    {P : TE → Prop} (prim : ∀ (wi : TI) (g : TG) (tt : TT) (te : TE), PI X tg iter wi → (∀ (s : Shared) (H : Hp) (C : Addr) (cl : List (Str × Addr)) (fp : List Addr), PG (X.blk s H scope (compEnvC scope cl C X.env) fp) tg g) →
      (∀ (s : Shared) (H : Hp) (C : Addr) (cl : List (Str × Addr)) (fp : List Addr), PTs (X.blk s H scope (compEnvC scope cl C X.env) fp) ifs tt) →
      (∀ (s : Shared) (H : Hp) (C : Addr) (cl : List (Str × Addr)) (fp : List Addr), PE (X.blk s H scope (compEnvC scope cl C X.env) fp) elt te) → X.calm = true → X.N.Nodup → P (tLc wi g tt te (own.map (·.2))))
    (B : Bs) (ex : EX) (lk : Lk X B ex) : ∃ t, P t ∧ ∀ σ H Q, cL X.K B (dLc it g tt te (own.map (·.2)) ex) σ H Q → t σ H Q := by
  refine ⟨_, prim _ _ (fun σ H Q => ∃ B', cT X.K B' (tt exF) σ H Q) (fun σ H Q => ∃ B', cE X.K B' (te exF) σ H Q) (hi B ex lk) (hg lk.calm) (fun s H C cl fp => ⟨fun pins s1 σ H1 Q I q => ?_⟩) (fun s H C cl fp => ⟨fun pins s1 σ H1 Q I q => ?_⟩) lk.calm lk.nd, fun σ H Q q => ?_⟩
  · obtain ⟨B', q⟩ := q
    exact (ht s H C cl fp B' exF (lk_blk lk B')).run pins s1 σ H1 Q I q
  · obtain ⟨B', q⟩ := q
    exact (he s H C cl fp B' exF (lk_blk lk B')).run pins s1 σ H1 Q I q
  · obtain ⟨F, M, ds, k, ok, q, gg⟩ := q
    refine ⟨F, M, ds, _, ok, q, fun w ds1 M1 F1 H1 J q1 ok1 s1 wk => ?_⟩
    obtain ⟨items, C⟩ := w
    dsimp only at wk q1
    intro Dl hD
    generalize hvs : own.map (·.2) = vs at *
    refine ⟨fun i m H => ∃ F2 M2 ds2 acc av, Ok X.K B F2 M2 (wipeD ds2 vs) (L2.wipe σ vs) H ∧ Same F1 F2 ∧ Loc B F2 M2 Dl ∧ (∀ i, ¬ OwnAt (wipeD ds2 vs) (L2.wipe σ vs) i Dl) ∧ H Dl = some (.lst av) ∧ RepAll X.K F2 acc av ∧ i + m = items.length ∧
      dLcL C g tt te vs (fun acc ds2 M2 => k acc (backD ds1 ds2 vs) M2) (items.drop i) acc (wipeD ds2 vs) M2, ⟨items.length, F1, M1, ds1, [], [], ?_, Same.refl F1, ok1.z.loc hD, ?_, upd_same, .nil, by omega, q1⟩, fun i m H2 hw => ?_⟩
    · exact (ok1.wipe vs).laid hD
    · exact (ok1.wipe vs).notOwn hD
    · obtain ⟨F2, M2, ds2, acc, av, ok2, s2, lo2, nw2, hd2, ra2, em, q2⟩ := hw
      have sH := s2.trans ok2.z.fr
      by_cases hin : i < items.length
      · rw [List.drop_eq_getElem_cons hin] at q2
        obtain ⟨c2, q2⟩ := q2
        refine .inr ⟨wk.go i B F2 M2 H2 hin ok2.z s2 c2, fun H4 => ∃ F4 M4 ds4 acc av, Ok X.K B F4 M4 (wipeD ds4 vs) (L2.wipe σ vs) H4 ∧ Same F1 F4 ∧ Loc B F4 M4 Dl ∧ (∀ i, ¬ OwnAt (wipeD ds4 vs) (L2.wipe σ vs) i Dl) ∧ H4 Dl = some (.lst av) ∧ RepAll X.K F4 acc av ∧
          dLcL C g tt te vs (fun acc ds2 M2 => k acc (backD ds1 ds2 vs) M2) (items.drop (i + 1)) acc (wipeD ds4 vs) M4, fun H4 hN => ?_, fun x H3 hy => ?_⟩
        · obtain ⟨F4, M4, ds4, acc, av, a1, a2, a3, a4, a5, a6, a7⟩ := hN
          exact ⟨m - 1, by omega, F4, M4, ds4, acc, av, a1, a2, a3, a4, a5, a6, by omega, a7⟩
        · have out := wk.yld i H2 x H3 _ B F2 M2 (List.getElem?_eq_getElem hin) ok2.z s2 c2 hy
          obtain ⟨F3, ok3', s3, r3⟩ := ok2.based.out out
          obtain ⟨hd3, lo3, nw3⟩ := ok2.kept ok3' lo2 nw2 hd2
          have ok3 := ok2.rebase ok3'
          refine inner_ok inn ok3 r3 q2 fun ds5 σ5 q5 ok5 hw5 hn5 => ⟨by rw [hw5, wipe_wipe fun _ h => h], ?_⟩
          have nw5 := hn5 Dl nw3
          have hσ : L2.wipe σ5 vs = L2.wipe σ vs := by rw [hw5, wipe_wipe fun _ h => h]
          refine ⟨_, F3, M2, ds5, _, ok5.based, q5, fun b ds6 M6 F6 H6 q6 ok6' s6 => ?_⟩
          obtain ⟨hd6, lo6, nw6⟩ := ok5.kept ok6' lo3 nw5 hd3
          have ok6 := ok5.rebase ok6'
          cases b with
          | true =>
            rw [if_pos rfl]
            refine ⟨_, d_use ⟨F6, M6, ds6, _, ok6.based, q6, fun y ds7 M7 F7 H7 v q7 ok7' s7 r7 => ?_⟩⟩
            obtain ⟨hd7, lo7, nw7⟩ := ok6.kept ok7' lo6 nw6 hd6
            have ok7 := ok6.rebase ok7'
            obtain ⟨hlen, q7⟩ := q7
            refine ⟨av, hd7, by rw [← ra2.length]; exact hlen, F7, M7, ds7, acc ++ [y], av ++ [v], ?_, ((s2.trans s3).trans s6).trans s7, lo7, ?_, upd_same, (ra2.mono ((s3.trans s6).trans s7)).append (.one r7), q7⟩
            · have k7 := ok7.wipe vs
              rw [hσ] at k7
              refine k7.heap lo7 fun i w => ?_
              rw [← hσ] at w
              exact nw_wipe ok7.len nw7 i w
            · intro i w
              rw [← hσ] at w
              exact nw_wipe ok7.len nw7 i w
          | false =>
            rw [if_neg Bool.false_ne_true]
            have k6 := ok6.wipe vs
            rw [hσ] at k6
            refine ⟨F6, M6, ds6, acc, av, k6, (s2.trans s3).trans s6, lo6, fun i w => ?_, hd6, ra2.mono (s3.trans s6), q6⟩
            rw [← hσ] at w
            exact nw_wipe ok6.len nw6 i w
      · have e : items.drop i = [] := List.drop_eq_nil_of_le (by omega)
        rw [e] at q2
        have ei : i = items.length := by omega
        subst ei
        have kb : Ok X.K B F2 M2 (wipeD ds2 vs) σ H2 := ok2.unwipe (wipe_length σ vs) fun i hi => wipe_get hi
        have kk := ok1.back s2 kb vs
        refine .inl ⟨wk.stop B F2 M2 H2 ok2.z s2 q2.1, gg _ _ _ _ _ _ _ q2.2 kk (s1.trans s2) lo2 (fun i w => ?_) hd2 ra2⟩
        have w2 := own_back w
        exact nw2 i (own_wipe w2)
theorem pdl_comp {elt tg iter : Expr} {ifs : List Expr} {scope : Scope} {own : List (Str × Nat)} {pos : Pos} {it : DI} {g : DG} {tgr : TG} {tt : DT} {te : DE} (hi : PDI X tg iter it) (hok : BlkOk X.N X.env.scope scope own) (inn : Inner X.K (own.map (·.2)) g tgr)
    (hg : X.calm = true → ∀ (s : Shared) (H : Hp) (C : Addr) (cl : List (Str × Addr)) (fp : List Addr), PG (X.blk s H scope (compEnvC scope cl C X.env) fp) tg tgr)
    (ht : ∀ (s : Shared) (H : Hp) (C : Addr) (cl : List (Str × Addr)) (fp : List Addr), PDTs (X.blk s H scope (compEnvC scope cl C X.env) fp) ifs tt)
    (he : ∀ (s : Shared) (H : Hp) (C : Addr) (cl : List (Str × Addr)) (fp : List Addr), PD (X.blk s H scope (compEnvC scope cl C X.env) fp) elt te)
    (hs : ∀ x, foldedSetIterable iter X.env x = pure x := by intro _; rfl) : PDL X (.ListComp elt [⟨tg, iter, ifs, 0⟩] scope pos) (dLc it g tt te (own.map (·.2))) := fun B ex lk => by
  obtain ⟨t, h, w⟩ := pdl_lc (P := PE X (.ListComp elt [⟨tg, iter, ifs, 0⟩] scope pos)) hi hok inn hg ht he (fun wi g tt te hi hg ht he hc hN => pe_lc hc hN hi hok hg ht he hs) B ex lk
  exact pe_weaken h w
/-- name = [..], whatever rule the store has -/
theorem pds_setLw {st : Stmt} {i : Nat} {t : DL} (hp : ∀ B ex, Lk X B ex → ∃ te, PS X st (tAsg te (gName i)) ∧ ∀ σ H Q, cL X.K B (t ex) σ H Q → te σ H Q) : PDS X st (dSetL i t) := fun B ex lk => by
  obtain ⟨te, h, w⟩ := hp B ex lk
  refine ps_weaken h fun D σ H q => ?_
  obtain ⟨F, M, ds, E, ok, eo, q⟩ := q
  have ee := eo.ex; subst ee
  refine w _ _ _ ⟨F, M, ds, _, ok, q, fun xs ds1 M1 F1 H1 p vs q1 ok1 s1 lo nw hp r1 => ?_⟩
  exact eo.nx _ _ _ _ _ q1 (ok1.slotSet (sv := .own xs) ⟨p, vs, rfl, hp, r1, lo⟩ fun _ j a e _ w => by cases e; exact nw j w) s1
theorem pds_setFw {st : Stmt} {i : Nat} {t : DL} (hp : ∀ B ex, Lk X B ex → ∃ te, PS X st (tAsg te (gName i)) ∧ ∀ σ H Q, cL X.K B (t ex) σ H Q → te σ H Q) : PDS X st (dSet i (dFz t)) := fun B ex lk => by
  obtain ⟨te, h, w⟩ := hp B ex lk
  refine ps_weaken h fun D σ H q => ?_
  obtain ⟨F, M, ds, E, ok, eo, q⟩ := q
  have ee := eo.ex; subst ee
  refine w _ _ _ ⟨F, M, ds, _, ok, q, fun xs ds1 M1 F1 H1 p vs q1 ok1 s1 lo nw hp r1 => ?_⟩
  have sm := same_upd (o := .lst vs) lo.f
  have q2 : E.nx (ds1.set i (.d (.lst xs))) M1 := q1
  exact eo.nx _ _ _ _ _ q2 ((ok1.freeze lo nw hp).slotSet (sv := .d (.lst xs)) ⟨_, rfl, .lst upd_same (r1.mono sm)⟩ fun w => nomatch w) (s1.trans sm)
theorem comp_store {st : Stmt} {i : Nat} {elt tg iter : Expr} {ifs : List Expr} {scope : Scope} {own : List (Str × Nat)} {it : DI} {g : DG} {tgr : TG} {tt : DT} {te : DE}
    (prim : ∀ (wi : TI) (g : TG) (tt : TT) (te : TE), PI X tg iter wi → (∀ (s : Shared) (H : Hp) (C : Addr) (cl : List (Str × Addr)) (fp : List Addr), PG (X.blk s H scope (compEnvC scope cl C X.env) fp) tg g) →
      (∀ (s : Shared) (H : Hp) (C : Addr) (cl : List (Str × Addr)) (fp : List Addr), PTs (X.blk s H scope (compEnvC scope cl C X.env) fp) ifs tt) →
      (∀ (s : Shared) (H : Hp) (C : Addr) (cl : List (Str × Addr)) (fp : List Addr), PE (X.blk s H scope (compEnvC scope cl C X.env) fp) elt te) → X.calm = true → X.N.Nodup → PS X st (tAsg (tLc wi g tt te (own.map (·.2))) (gName i)))
    (hi : PDI X tg iter it) (hok : BlkOk X.N X.env.scope scope own) (inn : Inner X.K (own.map (·.2)) g tgr)
    (hg : X.calm = true → ∀ (s : Shared) (H : Hp) (C : Addr) (cl : List (Str × Addr)) (fp : List Addr), PG (X.blk s H scope (compEnvC scope cl C X.env) fp) tg tgr)
    (ht : ∀ (s : Shared) (H : Hp) (C : Addr) (cl : List (Str × Addr)) (fp : List Addr), PDTs (X.blk s H scope (compEnvC scope cl C X.env) fp) ifs tt)
    (he : ∀ (s : Shared) (H : Hp) (C : Addr) (cl : List (Str × Addr)) (fp : List Addr), PD (X.blk s H scope (compEnvC scope cl C X.env) fp) elt te) :
    ∀ B ex, Lk X B ex → ∃ t, PS X st (tAsg t (gName i)) ∧ ∀ σ H Q, cL X.K B (dLc it g tt te (own.map (·.2)) ex) σ H Q → t σ H Q := fun B ex lk =>
  pdl_lc (P := fun t => PS X st (tAsg t (gName i))) hi hok inn hg ht he prim B ex lk
end
end MW
namespace MW
open PySem PySem.Spec PyProof.Rows L2
section
variable {X : Cx} {K : PySem.W.Frag} {B : Bs} {F F' H H' : Hp} {M M' : MS} {ds ds' : DS} {σ σ' : L2.St} {p : Addr} {o : HO} {ex : EX}

/-! ### two ints -/
def iiR (C : Int → Int → Prop) (g : Int → Int → D) : RD2
  | .int i, .int j, k => C i j ∧ k (g i j)
  | _, _, _ => False
theorem dop_ii {f : Value → Value → Sem Value} {C : Int → Int → Prop} {gv : Int → Int → V} {g : Int → Int → D} (ho : OpR X f (rI C gv)) (hg : ∀ i j F, Rep X.K F (g i j) (gv i j)) : DOp X f (iiR C g) := by
  intro pins s σ H x y v u Q I rx ry h
  obtain ⟨F, dx, dy, sm, tx, ty, k, hr, hk⟩ := h
  cases dx with
  | int i =>
    cases dy with
    | int j =>
      cases tx; cases ty
      exact ho pins s σ H _ _ v u Q I rx ry ⟨i, j, rfl, rfl, hr.1, hk _ _ _ hr.2 (.inl ⟨rfl, hg i j F⟩)⟩
    | _ => exact hr.elim
  | _ => exact hr.elim
theorem rI_of0 {f : Value → Value → Sem Value} {gv : Int → Int → V} (h : OpR X f (rI0 gv)) : OpR X f (rI (fun _ _ => True) gv) := fun pins s σ H x y v u Q I rx ry q => by
  obtain ⟨i, j, e1, e2, _, q⟩ := q
  exact h pins s σ H x y v u Q I rx ry ⟨i, j, e1, e2, q⟩
theorem rI_imp {f : Value → Value → Sem Value} {C C' : Int → Int → Prop} {gv gv' : Int → Int → V} (h : OpR X f (rI C gv)) (w : ∀ i j, C' i j → C i j) (e : ∀ i j, C' i j → gv' i j = gv i j) : OpR X f (rI C' gv') := fun pins s σ H x y v u Q I rx ry q => by
  obtain ⟨i, j, e1, e2, c, q⟩ := q
  exact h pins s σ H x y v u Q I rx ry ⟨i, j, e1, e2, w i j c, by rw [← e i j c]; exact q⟩
theorem dop_or {f : Value → Value → Sem Value} {r r' : RD2} (h : DOp X f r) (h' : DOp X f r') : DOp X f (fun x y k => r x y k ∨ r' x y k) := by
  intro pins s σ H x y v u Q I rx ry q
  obtain ⟨F, dx, dy, sm, tx, ty, k, hr, hk⟩ := q
  rcases hr with hr | hr
  · exact h pins s σ H x y v u Q I rx ry ⟨F, dx, dy, sm, tx, ty, k, hr, hk⟩
  · exact h' pins s σ H x y v u Q I rx ry ⟨F, dx, dy, sm, tx, ty, k, hr, hk⟩
abbrev TT2 : Int → Int → Prop := fun _ _ => True
def subR : RD2 := iiR TT2 fun i j => .int (i - j)
theorem dop_sub : DOp X (binaryOp .Sub) subR := dop_ii (rI_of0 op_sub) fun i j F => .int _
def fdivR : RD2 := iiR CDivW fun i j => .int (i / j)
theorem dop_fdiv : DOp X (binaryOp .FloorDiv) fdivR := dop_ii op_fdivW fun i j F => .int _
def modR : RD2 := iiR (fun _ j => j ≠ 0) fun i j => .int (i.fmod j)
theorem dop_mod : DOp X (binaryOp .Mod) modR := dop_ii op_modN fun i j F => .int _
def powR : RD2 := iiR CPow fun i j => .int (i ^ j.toNat)
theorem dop_pow : DOp X (binaryOp .Pow) powR := dop_ii op_pow fun i j F => .int _
def shlR : RD2 := iiR CShl fun i j => .int (i * 2 ^ j.toNat)
theorem dop_shl : DOp X (binaryOp .LShift) shlR := dop_ii op_shlW fun i j F => .int _
def shrR : RD2 := iiR (fun _ j => 0 ≤ j) fun i j => .int (i / 2 ^ j.toNat)
theorem dop_shr : DOp X (binaryOp .RShift) shrR := dop_ii op_shr fun i j F => .int _
def xorR : RD2 := iiR TT2 fun i j => .int (Builtin.bitXor i j)
theorem dop_xor : DOp X (binaryOp .BitXor) xorR := dop_ii (rI_of0 op_xor) fun i j F => .int _
def ltR : RD2 := iiR TT2 fun i j => .bl (decide (i < j))
theorem dop_lt : DOp X (compareOp .Lt) ltR := dop_ii (rI_of0 op_lt) fun i j F => .bl _
def leR : RD2 := iiR TT2 fun i j => .bl (decide (i ≤ j))
theorem dop_le : DOp X (compareOp .LtE) leR := dop_ii (rI_of0 op_le) fun i j F => .bl _
def gtR : RD2 := iiR TT2 fun i j => .bl (decide (j < i))
theorem dop_gt : DOp X (compareOp .Gt) gtR := dop_ii (rI_of0 op_gt) fun i j F => .bl _
def geR : RD2 := iiR TT2 fun i j => .bl (decide (j ≤ i))
theorem dop_ge : DOp X (compareOp .GtE) geR := dop_ii (rI_of0 op_ge) fun i j F => .bl _

/-! ### + and * -/
def addR : RD2
  | .int i, .int j, k => k (.int (i + j))
  | .str a, .str b, k => a.length + b.length ≤ sizeLine ∧ k (.str (a ++ b))
  | .lst a, .lst b, k => a.length + b.length ≤ sizeLine ∧ k (.lst (a ++ b))
  | .tup a, .tup b, k => a ≠ [] ∧ a.length + b.length ≤ sizeLine ∧ k (.tup (a ++ b))
  | _, _, _ => False
theorem dop_add : DOp X (binaryOp .Add) addR := by
  intro pins s σ H x y v u Q I rx ry h
  obtain ⟨F, dx, dy, sm, tx, ty, k, hr, hk⟩ := h
  cases dx with
  | int i =>
    cases dy with
    | int j =>
      cases tx; cases ty
      exact op_add pins s σ H _ _ v u Q I rx ry ⟨i, j, rfl, rfl, hk _ _ _ hr (.inl ⟨rfl, .int _⟩)⟩
    | _ => exact hr.elim
  | str a =>
    cases dy with
    | str b =>
      cases tx; cases ty
      exact op_add_str pins s σ H _ _ v u Q I rx ry ⟨a, b, rfl, rfl, hr.1, hk _ _ _ hr.2 (.inl ⟨rfl, .str _⟩)⟩
    | _ => exact hr.elim
  | lst a =>
    cases dy with
    | lst b =>
      obtain ⟨p, vs, rfl, h1, r1⟩ := tx
      obtain ⟨q, us, rfl, h2, r2⟩ := ty
      refine op_cat pins s σ H _ _ v u Q I rx ry ⟨p, q, vs, us, rfl, rfl, h1, h2, by rw [← r1.length, ← r2.length]; exact hr.1, fun l hl => hk _ _ _ hr.2 (.inr ⟨l, _, hl, rfl, ?_⟩)⟩
      have sl := same_upd (o := .lst (vs ++ us)) (none_of_same sm hl)
      exact .lst upd_same ((r1.append r2).mono sl)
    | _ => exact hr.elim
  | tup a =>
    cases dy with
    | tup b =>
      cases tx with
      | tup h1 r1 =>
        cases ty with
        | tup h2 r2 =>
          rename_i p vs q us
          obtain ⟨h0, hz, hr⟩ := hr
          refine op_catT pins s σ H _ _ v u Q I rx ry ⟨p, q, vs, us, rfl, rfl, sqT_mono sm h1, sqT_mono sm h2, fun z => ?_, by rw [← r1.length, ← r2.length]; exact hz, fun z => ?_, fun _ l hl => hk _ _ _ hr (.inr ⟨l, _, hl, rfl, ?_⟩)⟩
          · subst z; cases r1; exact h0 rfl
          · subst z; cases r2
            rw [List.append_nil] at hr
            exact hk _ _ _ hr (.inl ⟨rfl, .tup h1 r1⟩)
          · have sl := same_upd (o := .tup (vs ++ us)) (none_of_same sm hl)
            exact .tup (SqT.of upd_same) ((r1.append r2).mono sl)
    | _ => exact hr.elim
  | _ => exact hr.elim
def mulR : RD2
  | .int i, .int j, k => IntMulOk i j ∧ k (.int (i * j))
  | .lst a, .int j, k => -(2 ^ 63) ≤ j ∧ j < 2 ^ 63 ∧ a.length * j.toNat ≤ sizeLine ∧ k (.lst (List.replicate j.toNat a).flatten)
  | _, _, _ => False
theorem op_mulK : OpR X (binaryOp .Mult) (rI IntMulOk fun i j => .int (i * j)) := opI fun _ _ _ _ _ _ _ hc q => mul_int q hc
theorem dop_mul : DOp X (binaryOp .Mult) mulR := by
  intro pins s σ H x y v u Q I rx ry h
  obtain ⟨F, dx, dy, sm, tx, ty, k, hr, hk⟩ := h
  cases dx with
  | int i =>
    cases dy with
    | int j =>
      cases tx; cases ty
      exact op_mulK pins s σ H _ _ v u Q I rx ry ⟨i, j, rfl, rfl, hr.1, hk _ _ _ hr.2 (.inl ⟨rfl, .int _⟩)⟩
    | _ => exact hr.elim
  | lst a =>
    cases dy with
    | int j =>
      obtain ⟨p, vs, rfl, h1, r1⟩ := tx
      cases ty
      obtain ⟨g1, g2, g3, hr⟩ := hr
      refine op_rep pins s σ H _ _ v u Q I rx ry ⟨p, j, vs, rfl, rfl, h1, g1, g2, by rw [← r1.length]; exact g3, fun l hl => hk _ _ _ hr (.inr ⟨l, _, hl, rfl, ?_⟩)⟩
      have sl := same_upd (o := .lst (List.replicate j.toNat vs).flatten) (none_of_same sm hl)
      exact .lst upd_same ((r1.rep _).mono sl)
    | _ => exact hr.elim
  | _ => exact hr.elim

/-! ### ==, !=: data -/
mutual
def toPy : D → PyData
  | .non => .none
  | .bl b => .bool b
  | .int i => .int i
  | .str x => .str x
  | .lst xs => .list (toPyA xs)
  | .tup xs => .tuple (toPyA xs)
  | _ => .none
def toPyA : List D → List PyData
  | [] => []
  | x :: xs => toPy x :: toPyA xs
end
mutual
/-- data alone: no references, no dicts -/
def plainD : D → Bool
  | .non => true
  | .bl _ => true
  | .int _ => true
  | .str _ => true
  | .lst xs => plainA xs
  | .tup xs => plainA xs
  | _ => false
def plainA : List D → Bool
  | [] => true
  | x :: xs => plainD x && plainA xs
end
mutual
theorem rep_dp : ∀ {x : D} {v : V}, plainD x = true → Rep K F x v → Dp K F v (toPy x)
  | _, _, _, .non => .non
  | _, _, _, .bl b => .bl b
  | _, _, _, .int i => .int i
  | _, _, _, .str x => .str x
  | _, _, h, .lst e r => .lst (SqL.of e) (rep_dpA (by unfold plainD at h; exact h) r)
  | _, _, h, .tup e r => .tup e (rep_dpA (by unfold plainD at h; exact h) r)
  | _, _, h, .frl _ _ => by unfold plainD at h; cases h
  | _, _, h, .dic _ _ => by unfold plainD at h; cases h
  | _, _, h, .ref _ => by unfold plainD at h; cases h
  | _, _, h, .ty _ => by unfold plainD at h; cases h
theorem rep_dpA : ∀ {xs : List D} {vs : List V}, plainA xs = true → RepAll K F xs vs → DpAll K F vs (toPyA xs)
  | _, _, _, .nil => .nil
  | _, _, h, .cons r t => by
    unfold plainA at h
    have h' := Bool.and_eq_true_iff.mp h
    exact .cons (rep_dp h'.1 r) (rep_dpA h'.2 t)
end
theorem top_dp {x : D} {v : V} (e : Same F H) (h : plainD x = true) (r : RepTop K F H x v) : Dp K H v (toPy x) := by
  cases x with
  | lst xs =>
    obtain ⟨a, vs, rfl, h1, h2⟩ := r
    exact .lst (SqL.of h1) (rep_dpA (by unfold plainD at h; exact h) (h2.mono e))
  | non => exact rep_dp h (Rep.mono e r)
  | bl b => exact rep_dp h (Rep.mono e r)
  | int b => exact rep_dp h (Rep.mono e r)
  | str b => exact rep_dp h (Rep.mono e r)
  | tup b => exact rep_dp h (Rep.mono e r)
  | dic b => unfold plainD at h; cases h
  | ref b => unfold plainD at h; cases h
  | ty b => unfold plainD at h; cases h
  | frl b => unfold plainD at h; cases h
  | bad => unfold plainD at h; cases h
/-- two scalars that == tells apart as data -/
def scalD : D → D → Bool
  | .non, .non => true | .non, .int _ => true | .int _, .non => true | .non, .bl _ => true | .bl _, .non => true | .non, .str _ => true | .str _, .non => true
  | .int _, .int _ => true | .bl _, .bl _ => true | .str _, .str _ => true
  | .int _, .str _ => true | .str _, .int _ => true | .bl _, .str _ => true | .str _, .bl _ => true
  | _, _ => false
def eqS : D → D → Bool
  | .non, .non => true
  | .int i, .int j => decide (i = j)
  | .bl i, .bl j => decide (i = j)
  | .str i, .str j => decide (i = j)
  | _, _ => false
def okD (x : D) : Bool := plainD x && SeqAt.shaped (toPy x)
def eqR (neg : Bool) : RD2 := fun x y k => (scalD x y = true ∧ k (.bl (xor neg (eqS x y)))) ∨ (okD x = true ∧ okD y = true ∧ k (.bl (xor neg (PyData.eqv (toPy x) (toPy y)))))
theorem scal_of {x y : D} {a b : V} (h : scalD x y = true) (rx : RepTop K F H x a) (ry : RepTop K F H y b) : scal a b = true ∧ decide (a = b) = eqS x y := by
  cases x <;> cases y <;> first | (cases h; done) | (cases rx; cases ry; exact ⟨rfl, by simp [eqS]⟩)
theorem dop_eq (hu : X.A.units + 64 < cLine) : DOp X (compareOp .Eq) (eqR false) := by
  intro pins s σ H x y v u Q I rx ry h
  obtain ⟨F, dx, dy, sm, tx, ty, k, hr, hk⟩ := h
  rcases hr with ⟨h1, hr⟩ | ⟨h1, h2, hr⟩
  · obtain ⟨e1, e2⟩ := scal_of h1 tx ty
    refine op_eq pins s σ H x y v u Q I rx ry ⟨e1, ?_⟩
    rw [e2]
    exact hk _ _ _ hr (.inl ⟨rfl, by rw [Bool.false_xor]; exact .bl _⟩)
  · have h1' := Bool.and_eq_true_iff.mp h1
    have h2' := Bool.and_eq_true_iff.mp h2
    exact op_eqD hu pins s σ H x y v u Q I rx ry ⟨_, _, top_dp sm h1'.1 tx, top_dp sm h2'.1 ty, h1'.2, h2'.2, hk _ _ _ hr (.inl ⟨rfl, by rw [Bool.false_xor]; exact .bl _⟩)⟩
theorem dop_ne (hu : X.A.units + 64 < cLine) : DOp X (compareOp .NotEq) (eqR true) := by
  intro pins s σ H x y v u Q I rx ry h
  obtain ⟨F, dx, dy, sm, tx, ty, k, hr, hk⟩ := h
  rcases hr with ⟨h1, hr⟩ | ⟨h1, h2, hr⟩
  · obtain ⟨e1, e2⟩ := scal_of h1 tx ty
    refine op_ne pins s σ H x y v u Q I rx ry ⟨e1, ?_⟩
    rw [e2]
    exact hk _ _ _ hr (.inl ⟨rfl, by rw [Bool.true_xor]; exact .bl _⟩)
  · have h1' := Bool.and_eq_true_iff.mp h1
    have h2' := Bool.and_eq_true_iff.mp h2
    exact op_neD hu pins s σ H x y v u Q I rx ry ⟨_, _, top_dp sm h1'.1 tx, top_dp sm h2'.1 ty, h1'.2, h2'.2, hk _ _ _ hr (.inl ⟨rfl, by rw [Bool.true_xor]; exact .bl _⟩)⟩
/-- is None, is not None -/
def isNo : D → Option Bool
  | .non => some true
  | .bad => none
  | _ => some false
def isR (neg : Bool) : RD2 := fun x y k => match y, isNo x with
  | .non, some b => k (.bl (xor neg b))
  | _, _ => False
theorem isNo_of {x : D} {a : V} {b : Bool} (h : isNo x = some b) (r : RepTop K F H x a) : decide (a = .non) = b := by
  cases x with
  | bad => cases h
  | lst xs => cases h; obtain ⟨_, _, rfl, _⟩ := r; rfl
  | dic xs => cases h; obtain ⟨_, _, rfl, _⟩ := r; rfl
  | _ => cases h; cases r; rfl
theorem dop_is : DOp X (compareOp .Is) (isR false) := by
  intro pins s σ H x y v u Q I rx ry h
  obtain ⟨F, dx, dy, sm, tx, ty, k, hr, hk⟩ := h
  cases dy with
  | non =>
    cases ty
    cases e : isNo dx with
    | none => unfold isR at hr; simp only [e] at hr
    | some b =>
      unfold isR at hr; simp only [e] at hr
      refine op_isN pins s σ H _ _ v u Q I rx ry ⟨rfl, ?_⟩
      rw [isNo_of e tx]
      exact hk _ _ _ hr (.inl ⟨rfl, by rw [Bool.false_xor]; exact .bl _⟩)
  | _ => unfold isR at hr; exact hr.elim
theorem dop_isnot : DOp X (compareOp .IsNot) (isR true) := by
  intro pins s σ H x y v u Q I rx ry h
  obtain ⟨F, dx, dy, sm, tx, ty, k, hr, hk⟩ := h
  cases dy with
  | non =>
    cases ty
    cases e : isNo dx with
    | none => unfold isR at hr; simp only [e] at hr
    | some b =>
      unfold isR at hr; simp only [e] at hr
      refine op_notN pins s σ H _ _ v u Q I rx ry ⟨rfl, ?_⟩
      rw [isNo_of e tx]
      exact hk _ _ _ hr (.inl ⟨rfl, by rw [Bool.true_xor]; exact .bl _⟩)
  | _ => unfold isR at hr; exact hr.elim
end
end MW
namespace MW
open PySem PySem.Spec PyProof.Rows L2
section
variable {X : Cx} {K : PySem.W.Frag} {B : Bs} {F F' H H' : Hp} {M M' : MS} {ds ds' : DS} {σ σ' : L2.St} {p : Addr} {o : HO} {ex : EX}
theorem RepAll.atI {xs : List D} {vs : List V} {i : Int} {x : D} (r : RepAll K F xs vs) (h : L2.atI xs i = some x) : ∃ v, L2.atI vs i = some v ∧ Rep K F x v := by
  unfold L2.atI at h ⊢
  rw [r.length] at h
  cases e : ixN vs.length i with
  | none => rw [e] at h; cases h
  | some j =>
    rw [e] at h
    obtain ⟨v, h1, h2⟩ := r.get (i := j) h
    exact ⟨v, h1, h2⟩
/-! ### places -/
def ixR : RD2
  | .lst xs, .int i, k => match atI xs i with | some z => k z | none => False
  | .frl xs, .int i, k => match atI xs i with | some z => k z | none => False
  | .tup xs, .int i, k => match atI xs i with | some z => k z | none => False
  | .str s, .int i, k => s.length ≤ sizeLine ∧ (match atI s.cps.toList i with | some c => k (.str ⟨#[c]⟩) | none => False)
  | _, _, _ => False
theorem ix_all : IxR X (rD X.K ixR) := by
  intro value slice pins s σ H x y v u Q I rx ry h hs
  obtain ⟨F, dx, dy, sm, tx, ty, k, hr, hk⟩ := h
  have seq : ∀ (xs : List D) (vs : List V) (i : Int), RepAll X.K F xs vs → (match atI xs i with | some z => k z | none => False) → ∃ v, atI vs i = some v ∧ Q v H := fun xs vs i r q => by
    cases e : atI xs i with
    | none => rw [e] at q; cases q
    | some z =>
      rw [e] at q
      obtain ⟨v, h1, h2⟩ := r.atI e
      exact ⟨v, h1, hk _ _ _ q (.inl ⟨rfl, h2⟩)⟩
  cases dx with
  | lst xs =>
    cases dy with
    | int i =>
      obtain ⟨p, vs, rfl, h1, r1⟩ := tx
      cases ty
      obtain ⟨z, h2, q⟩ := seq xs vs i r1 hr
      exact ix_list value slice pins s σ H _ _ v u Q I rx ry ⟨p, vs, i, z, rfl, rfl, SqL.of h1, h2, q⟩ hs
    | _ => exact hr.elim
  | frl xs =>
    cases dy with
    | int i =>
      cases ty
      cases tx with
      | frl h1 r1 =>
        obtain ⟨z, h2, q⟩ := seq xs _ i r1 hr
        exact ix_list value slice pins s σ H _ _ v u Q I rx ry ⟨_, _, i, z, rfl, rfl, sqL_mono sm h1, h2, q⟩ hs
    | _ => exact hr.elim
  | tup xs =>
    cases dy with
    | int i =>
      cases ty
      cases tx with
      | tup h1 r1 =>
        obtain ⟨z, h2, q⟩ := seq xs _ i r1 hr
        exact ix_tup value slice pins s σ H _ _ v u Q I rx ry ⟨_, _, i, z, rfl, rfl, sqT_mono sm h1, h2, q⟩ hs
    | _ => exact hr.elim
  | str z =>
    cases dy with
    | int i =>
      cases ty
      cases tx
      obtain ⟨h0, hr⟩ := hr
      cases e : atI z.cps.toList i with
      | none => rw [e] at hr; cases hr
      | some c =>
        rw [e] at hr
        exact ix_str value slice pins s σ H _ _ v u Q I rx ry ⟨z, i, c, rfl, rfl, h0, e, hk _ _ _ hr (.inl ⟨rfl, .str _⟩)⟩ hs
    | _ => exact hr.elim
  | _ => exact hr.elim
theorem pd_ix {a b : Expr} {ta tb : DE} {pos : Pos} (ha : PD X a ta) (hb : PD X b tb) (hs : PlainIx b) : PD X (.Subscript a b pos) (dBin ixR ta tb) := fun B ex lk =>
  pe_weaken (pe_ix ix_all (ha B ex lk) (hb B ex lk) hs) fun _ _ _ q => d_bin q
/-! ### slices -/
def cutD {α : Type} (xs : List α) (lo hi : Option Int) : List α := (xs.drop (HT.sIx xs.length 0 lo)).take (HT.sIx xs.length xs.length hi - HT.sIx xs.length 0 lo)
theorem RepAll.cut {xs : List D} {vs : List V} {lo hi : Option Int} (r : RepAll K F xs vs) : RepAll K F (cutD xs lo hi) (cutV vs lo hi) := by
  unfold cutD cutV
  rw [r.length]
  exact (r.drop _).take _
abbrev DO := EX → DS → MS → (Option Int → DS → MS → Prop) → Prop
def cO (K : PySem.W.Frag) (B : Bs) (t : DS → MS → (Option Int → DS → MS → Prop) → Prop) : TO := fun σ H Q => ∃ F M ds k, Ok K B F M ds σ H ∧ t ds M k ∧
  ∀ b ds' M' F' H', k b ds' M' → Ok K B F' M' ds' σ H' → Same F F' → Q b H'
def PDO (X : Cx) (e : Option Expr) (t : DO) : Prop := ∀ B ex, Lk X B ex → PO X e (cO X.K B (t ex))
theorem po_weaken {e : Option Expr} {t t' : TO} (h : PO X e t) (w : ∀ σ H Q, t' σ H Q → t σ H Q) : PO X e t' := ⟨fun pins s σ H Q I q => h.run pins s σ H Q I (w σ H Q q)⟩
def dNoO : DO := fun _ ds M k => k none ds M
theorem pdo_none : PDO X none dNoO := fun B ex lk => po_weaken po_none fun σ H Q q => by
  obtain ⟨F, M, ds, k, ok, q, g⟩ := q
  exact g _ _ _ _ _ q ok (Same.refl F)
def dSoO (t : DE) : DO := fun ex ds M k => t ex ds M fun x ds1 M1 => match look ds1 M1 x with
  | .int i => k (some i) ds1 M1
  | _ => False
theorem pdo_some {e : Expr} {t : DE} (h : PD X e t) : PDO X (some e) (dSoO t) := fun B ex lk => po_weaken (po_some (h B ex lk)) fun σ H Q q => by
  obtain ⟨F, M, ds, k, ok, q, g⟩ := q
  refine ⟨F, M, ds, _, ok, q, fun x ds1 M1 F1 H1 v q1 ok1 s1 r1 => ?_⟩
  have tp := ok1.look r1
  generalize look ds1 M1 x = y at *
  cases y with
  | int i => cases tp; exact ⟨i, rfl, g _ _ _ _ _ q1 ok1 s1⟩
  | _ => exact False.elim q1
def RSl := D → Option Int → Option Int → (D → Prop) → Prop
def slR : RSl
  | .lst xs, lo, hi, k => k (.lst (cutD xs lo hi))
  | .frl xs, lo, hi, k => k (.lst (cutD xs lo hi))
  | .tup xs, lo, hi, k => ¬ (HT.sIx xs.length 0 lo = 0 ∧ HT.sIx xs.length xs.length hi = xs.length) ∧ k (.tup (cutD xs lo hi))
  | .str s, lo, hi, k => s.length ≤ sizeLine ∧ k (.str (cutS s lo hi))
  | _, _, _, _ => False
def rSlD (K : PySem.W.Frag) : V → Option Int → Option Int → Hp → VK → Prop := fun x lo hi H Q => ∃ F dx, Same F H ∧ RepTop K F H dx x ∧ ∃ k, slR dx lo hi k ∧ ∀ z v H', k z → Out K F H z v H' → Q v H'
theorem sl_all : SlR X (rSlD X.K) := by
  intro pins s σ H x v vl vu lo hi sl Q I rx hs pl pu h
  obtain ⟨F, dx, sm, tx, k, hr, hk⟩ := h
  have newL : ∀ (xs : List D) (vs : List V), RepAll X.K F xs vs → k (.lst (cutD xs lo hi)) → ∀ p, H p = none → Q (.ref p) (upd H p (.lst (cutV vs lo hi))) := fun xs vs r q p hp => by
    have s1 := same_upd (o := .lst (cutV vs lo hi)) (none_of_same sm hp)
    exact hk _ _ _ q (.inr ⟨p, _, hp, rfl, .lst upd_same (r.cut.mono s1)⟩)
  cases dx with
  | lst xs =>
    obtain ⟨p, vs, rfl, h1, r1⟩ := tx
    exact sl_list pins s σ H _ v vl vu lo hi sl Q I rx hs pl pu ⟨p, vs, rfl, SqL.of h1, newL _ _ r1 hr⟩
  | frl xs =>
    cases tx with
    | frl h1 r1 => exact sl_list pins s σ H _ v vl vu lo hi sl Q I rx hs pl pu ⟨_, _, rfl, sqL_mono sm h1, newL _ _ r1 hr⟩
  | tup xs =>
    cases tx with
    | tup h1 r1 =>
      obtain ⟨hw, hr⟩ := hr
      refine sl_tup pins s σ H _ v vl vu lo hi sl Q I rx hs pl pu ⟨_, _, rfl, sqT_mono sm h1, by rw [← r1.length]; exact hw, fun p hp => ?_⟩
      rename_i a vs
      have s1 := same_upd (o := .tup (cutV vs lo hi)) (none_of_same sm hp)
      exact hk _ _ _ hr (.inr ⟨p, _, hp, rfl, .tup (SqT.of upd_same) (r1.cut.mono s1)⟩)
  | str z =>
    cases tx
    exact sl_str pins s σ H _ v vl vu lo hi sl Q I rx hs pl pu ⟨z, rfl, hr.1, hk _ _ _ hr.2 (.inl ⟨rfl, .str _⟩)⟩
  | _ => exact hr.elim
def dSl (te : DE) (tl th : DO) : DE := fun ex ds M k => te ex ds M fun x ds1 M1 => tl ex ds1 M1 fun l ds2 M2 => th ex ds2 M2 fun h ds3 M3 => slR (look ds3 M3 x) l h fun z => k (.v z) ds3 M3
theorem pd_sl {e : Expr} {lo hi : Option Expr} {te : DE} {tl th : DO} {pos p2 : Pos} (he : PD X e te) (hl : PDO X lo tl) (hh : PDO X hi th) : PD X (.Subscript e (.Slice lo hi none p2) pos) (dSl te tl th) := fun B ex lk =>
  pe_weaken (pe_slice sl_all (he B ex lk) (hl B ex lk) (hh B ex lk)) fun σ H Q q => by
    obtain ⟨F, M, ds, k, ok, q, g⟩ := q
    refine ⟨F, M, ds, _, ok, q, fun x ds1 M1 F1 H1 v q1 ok1 s1 r1 => ?_⟩
    refine ⟨F1, M1, ds1, _, ok1, q1, fun l ds2 M2 F2 H2 q2 ok2 s2 => ?_⟩
    refine ⟨F2, M2, ds2, _, ok2, q2, fun h ds3 M3 F3 H3 q3 ok3 s3 => ?_⟩
    refine ⟨F3, _, ok3.z.fr, ok3.look ((r1.mono s2).mono s3), _, q3, fun z w H4 k4 out => ?_⟩
    obtain ⟨F4, ok4, s4, r4⟩ := ok3.out out
    exact g _ _ _ _ _ _ k4 ok4 (((s1.trans s2).trans s3).trans s4) r4
/-- a slice of a list as a new list -/
def dSlL (te : DE) (tl th : DO) : DL := fun ex ds M k => te ex ds M fun x ds1 M1 => tl ex ds1 M1 fun l ds2 M2 => th ex ds2 M2 fun h ds3 M3 => match look ds3 M3 x with
  | .lst xs => k (cutD xs l h) ds3 M3
  | .frl xs => k (cutD xs l h) ds3 M3
  | _ => False
theorem pdl_sl {e : Expr} {lo hi : Option Expr} {te : DE} {tl th : DO} {pos p2 : Pos} (he : PD X e te) (hl : PDO X lo tl) (hh : PDO X hi th) : PDL X (.Subscript e (.Slice lo hi none p2) pos) (dSlL te tl th) := fun B ex lk =>
  pe_weaken (pe_slice sl_list (he B ex lk) (hl B ex lk) (hh B ex lk)) fun σ H Q q => by
    obtain ⟨F, M, ds, k, ok, q, g⟩ := q
    refine ⟨F, M, ds, _, ok, q, fun x ds1 M1 F1 H1 v q1 ok1 s1 r1 => ?_⟩
    refine ⟨F1, M1, ds1, _, ok1, q1, fun l ds2 M2 F2 H2 q2 ok2 s2 => ?_⟩
    refine ⟨F2, M2, ds2, _, ok2, q2, fun h ds3 M3 F3 H3 q3 ok3 s3 => ?_⟩
    have tp := ok3.look ((r1.mono s2).mono s3)
    generalize look ds3 M3 x = y at *
    cases y with
    | lst xs =>
      obtain ⟨a, vs, rfl, h1, r1⟩ := tp
      exact ⟨a, vs, rfl, SqL.of h1, fun p hp => g _ _ _ _ _ _ _ q3 (ok3.laid hp) ((s1.trans s2).trans s3) (ok3.z.loc hp) (ok3.notOwn hp) upd_same r1.cut⟩
    | frl xs =>
      cases tp with
      | frl h1 r9 => exact ⟨_, _, rfl, sqL_mono ok3.z.fr h1, fun p hp => g _ _ _ _ _ _ _ q3 (ok3.laid hp) ((s1.trans s2).trans s3) (ok3.z.loc hp) (ok3.notOwn hp) upd_same r9.cut⟩
    | _ => exact False.elim q3
/-- list + list, list * int as new lists -/
def dCatL (ta tb : DE) : DL := fun ex ds M k => ta ex ds M fun x ds1 M1 => tb ex ds1 M1 fun y ds2 M2 => match look ds2 M2 x, look ds2 M2 y with
  | .lst a, .lst b => a.length + b.length ≤ sizeLine ∧ k (a ++ b) ds2 M2
  | _, _ => False
theorem pdl_cat {a b : Expr} {ta tb : DE} {pos : Pos} (ha : PD X a ta) (hb : PD X b tb) : PDL X (.BinOp a .Add b pos) (dCatL ta tb) := fun B ex lk =>
  pe_weaken (pe_op op_cat (ha B ex lk) (hb B ex lk)) fun σ H Q q => by
    obtain ⟨F, M, ds, k, ok, q, g⟩ := q
    refine ⟨F, M, ds, _, ok, q, fun x ds1 M1 F1 H1 v q1 ok1 s1 r1 => ?_⟩
    refine ⟨F1, M1, ds1, _, ok1, q1, fun y ds2 M2 F2 H2 u q2 ok2 s2 r2 => ?_⟩
    have tx := ok2.look (r1.mono s2)
    have ty := ok2.look r2
    generalize look ds2 M2 x = x' at *
    generalize look ds2 M2 y = y' at *
    cases x' with
    | lst xs =>
      cases y' with
      | lst ys =>
        obtain ⟨a, vs, rfl, h1, r1⟩ := tx
        obtain ⟨b, us, rfl, h2, r2⟩ := ty
        exact ⟨a, b, vs, us, rfl, rfl, h1, h2, by rw [← r1.length, ← r2.length]; exact q2.1, fun p hp => g _ _ _ _ _ _ _ q2.2 (ok2.laid hp) (s1.trans s2) (ok2.z.loc hp) (ok2.notOwn hp) upd_same (r1.append r2)⟩
      | _ => exact False.elim q2
    | _ => exact False.elim q2
def dRepL (ta tb : DE) : DL := fun ex ds M k => ta ex ds M fun x ds1 M1 => tb ex ds1 M1 fun y ds2 M2 => match look ds2 M2 x, look ds2 M2 y with
  | .lst a, .int j => -(2 ^ 63) ≤ j ∧ j < 2 ^ 63 ∧ a.length * j.toNat ≤ sizeLine ∧ k (List.replicate j.toNat a).flatten ds2 M2
  | _, _ => False
theorem pdl_rep {a b : Expr} {ta tb : DE} {pos : Pos} (ha : PD X a ta) (hb : PD X b tb) : PDL X (.BinOp a .Mult b pos) (dRepL ta tb) := fun B ex lk =>
  pe_weaken (pe_op op_rep (ha B ex lk) (hb B ex lk)) fun σ H Q q => by
    obtain ⟨F, M, ds, k, ok, q, g⟩ := q
    refine ⟨F, M, ds, _, ok, q, fun x ds1 M1 F1 H1 v q1 ok1 s1 r1 => ?_⟩
    refine ⟨F1, M1, ds1, _, ok1, q1, fun y ds2 M2 F2 H2 u q2 ok2 s2 r2 => ?_⟩
    have tx := ok2.look (r1.mono s2)
    have ty := ok2.look r2
    generalize look ds2 M2 x = x' at *
    generalize look ds2 M2 y = y' at *
    cases x' with
    | lst xs =>
      cases y' with
      | int j =>
        obtain ⟨a, vs, rfl, h1, r1⟩ := tx
        cases ty
        obtain ⟨g1, g2, g3, q2⟩ := q2
        exact ⟨a, j, vs, rfl, rfl, h1, g1, g2, by rw [← r1.length]; exact g3, fun p hp => g _ _ _ _ _ _ _ q2 (ok2.laid hp) (s1.trans s2) (ok2.z.loc hp) (ok2.notOwn hp) upd_same (r1.rep _)⟩
      | _ => exact False.elim q2
    | _ => exact False.elim q2

/-! ### calls of built-ins by values -/
/-- arguments as they are on the way -/
abbrev DW := EX → DS → MS → (List D → DS → MS → Prop) → Prop
/-- one argument, looked at -/
def dLook1 (t : DE) : DW := fun ex ds M k => t ex ds M fun x ds1 M1 => k [look ds1 M1 x] ds1 M1
def dLook2 (t u : DE) : DW := fun ex ds M k => t ex ds M fun x ds1 M1 => u ex ds1 M1 fun y ds2 M2 => k [look ds2 M2 x, look ds2 M2 y] ds2 M2
def dLook3 (t u w : DE) : DW := fun ex ds M k => t ex ds M fun x ds1 M1 => u ex ds1 M1 fun y ds2 M2 => w ex ds2 M2 fun z ds3 M3 => k [look ds3 M3 x, look ds3 M3 y, look ds3 M3 z] ds3 M3
inductive TopAll (K : PySem.W.Frag) (F H : Hp) : List D → List V → Prop
  | nil : TopAll K F H [] []
  | cons {x : D} {xs : List D} {v : V} {vs : List V} : RepTop K F H x v → TopAll K F H xs vs → TopAll K F H (x :: xs) (v :: vs)
/-- arguments that are looked at -/
def PDW2 (X : Cx) (es : List Expr) (t : DW) : Prop := ∀ B ex, Lk X B ex → PA X es (fun σ H Q => ∃ F M ds k, Ok X.K B F M ds σ H ∧ t ex ds M k ∧
  ∀ xs ds' M' F' H' vs, k xs ds' M' → Ok X.K B F' M' ds' σ H' → Same F F' → TopAll X.K F' H' xs vs → Q vs H')
theorem pdw_1 {e : Expr} {t : DE} (h : PD X e t) (hs : starEach [e] X.env = (false, eval e X.env) :: starEach [] X.env := by rfl) : PDW2 X [e] (dLook1 t) := fun B ex lk =>
  pa_weaken (pa_cons (h B ex lk) pa_nil hs) fun σ H Q q => by
    obtain ⟨F, M, ds, k, ok, q, g⟩ := q
    exact ⟨F, M, ds, _, ok, q, fun x ds1 M1 F1 H1 v q1 ok1 s1 r1 => g _ _ _ _ _ _ q1 ok1 s1 (.cons (ok1.look r1) .nil)⟩
theorem pdw_2 {e f : Expr} {t u : DE} (h : PD X e t) (h2 : PD X f u) (hs : starEach [e, f] X.env = (false, eval e X.env) :: starEach [f] X.env := by rfl) (hs2 : starEach [f] X.env = (false, eval f X.env) :: starEach [] X.env := by rfl) : PDW2 X [e, f] (dLook2 t u) := fun B ex lk =>
  pa_weaken (pa_cons (h B ex lk) (pa_cons (h2 B ex lk) pa_nil hs2) hs) fun σ H Q q => by
    obtain ⟨F, M, ds, k, ok, q, g⟩ := q
    refine ⟨F, M, ds, _, ok, q, fun x ds1 M1 F1 H1 v q1 ok1 s1 r1 => ?_⟩
    refine ⟨F1, M1, ds1, _, ok1, q1, fun y ds2 M2 F2 H2 u q2 ok2 s2 r2 => ?_⟩
    exact g _ _ _ _ _ _ q2 ok2 (s1.trans s2) (.cons (ok2.look (r1.mono s2)) (.cons (ok2.look r2) .nil))
theorem pdw_3 {e f h : Expr} {t u w : DE} (h1 : PD X e t) (h2 : PD X f u) (h3 : PD X h w) (hs : starEach [e, f, h] X.env = (false, eval e X.env) :: starEach [f, h] X.env := by rfl) (hs2 : starEach [f, h] X.env = (false, eval f X.env) :: starEach [h] X.env := by rfl)
    (hs3 : starEach [h] X.env = (false, eval h X.env) :: starEach [] X.env := by rfl) : PDW2 X [e, f, h] (dLook3 t u w) := fun B ex lk =>
  pa_weaken (pa_cons (h1 B ex lk) (pa_cons (h2 B ex lk) (pa_cons (h3 B ex lk) pa_nil hs3) hs2) hs) fun σ H Q q => by
    obtain ⟨F, M, ds, k, ok, q, g⟩ := q
    refine ⟨F, M, ds, _, ok, q, fun x ds1 M1 F1 H1 v q1 ok1 s1 r1 => ?_⟩
    refine ⟨F1, M1, ds1, _, ok1, q1, fun y ds2 M2 F2 H2 u q2 ok2 s2 r2 => ?_⟩
    refine ⟨F2, M2, ds2, _, ok2, q2, fun z ds3 M3 F3 H3 w q3 ok3 s3 r3 => ?_⟩
    exact g _ _ _ _ _ _ q3 ok3 ((s1.trans s2).trans s3) (.cons (ok3.look ((r1.mono s2).mono s3)) (.cons (ok3.look (r2.mono s3)) (.cons (ok3.look r3) .nil)))
/-- a built-in by what it makes of the looked-at values: a value, or a new list -/
abbrev RBu := List D → (D → Prop) → Prop
abbrev RBuL := List D → (List D → Prop) → Prop
def rBu (K : PySem.W.Frag) (r : RBu) : List V → Hp → VK → Prop := fun vs H Q => ∃ F xs k, Same F H ∧ TopAll K F H xs vs ∧ r xs k ∧ ∀ z v H', k z → Out K F H z v H' → Q v H'
def rBuL (K : PySem.W.Frag) (r : RBuL) : List V → Hp → VK → Prop := fun vs H Q => ∃ F xs k, Same F H ∧ TopAll K F H xs vs ∧ r xs k ∧ ∀ zs p us, k zs → H p = none → RepAll K F zs us → Q (.ref p) (upd H p (.lst us))
def DBu (X : Cx) (f : Value) (r : RBu) : Prop := CallR X f (rBu X.K r)
def DBuL (X : Cx) (f : Value) (r : RBuL) : Prop := CallR X f (rBuL X.K r)
def dBu (r : RBu) (t : DW) : DE := fun ex ds M k => t ex ds M fun xs ds1 M1 => r xs fun z => k (.v z) ds1 M1
def dBuL (r : RBuL) (t : DW) : DL := fun ex ds M k => t ex ds M fun xs ds1 M1 => r xs fun zs => k zs ds1 M1
theorem d_bu {r : RBu} {t : DW} {Q : VK} (q : cE K B ((dBu r t) ex) σ H Q) : (fun σ H Q => ∃ F M ds k, Ok K B F M ds σ H ∧ t ex ds M k ∧
    ∀ xs ds' M' F' H' vs, k xs ds' M' → Ok K B F' M' ds' σ H' → Same F F' → TopAll K F' H' xs vs → (Q : List V → Hp → Prop) vs H') σ H (fun vs H' => rBu K r vs H' Q) := by
  obtain ⟨F, M, ds, k, ok, q, g⟩ := q
  refine ⟨F, M, ds, _, ok, q, fun xs ds1 M1 F1 H1 vs q1 ok1 s1 r1 => ?_⟩
  refine ⟨F1, xs, _, ok1.z.fr, r1, q1, fun z v H2 k2 out => ?_⟩
  obtain ⟨F2, ok2, s2, r2⟩ := ok1.out out
  exact g _ _ _ _ _ _ k2 ok2 (s1.trans s2) r2
theorem d_buL {r : RBuL} {t : DW} {Q : VK} (q : cL K B ((dBuL r t) ex) σ H Q) : (fun σ H Q => ∃ F M ds k, Ok K B F M ds σ H ∧ t ex ds M k ∧
    ∀ xs ds' M' F' H' vs, k xs ds' M' → Ok K B F' M' ds' σ H' → Same F F' → TopAll K F' H' xs vs → (Q : List V → Hp → Prop) vs H') σ H (fun vs H' => rBuL K r vs H' Q) := by
  obtain ⟨F, M, ds, k, ok, q, g⟩ := q
  refine ⟨F, M, ds, _, ok, q, fun xs ds1 M1 F1 H1 vs q1 ok1 s1 r1 => ?_⟩
  refine ⟨F1, xs, _, ok1.z.fr, r1, q1, fun zs p us k2 hp r2 => ?_⟩
  exact g _ _ _ _ _ _ _ k2 (ok1.laid hp) s1 (ok1.z.loc hp) (ok1.notOwn hp) upd_same r2
theorem pd_bi {x : Str} {p pos : Pos} {e : Expr} {es : List Expr} {t : DW} {id : String} {r : RBu} (hc : DBu X (.builtin id) r) (hg : Gl X x) (hm : X.mg x = none) (hv : bootBuiltins x = some (.builtin id)) (ha : PDW2 X (e :: es) t) (hn : x ≠ "__name__" := by decide) (hdb : (x == ("__debug__" : Str)) = false := by decide)
    (he : starEach (e :: es) X.env = (false, eval e X.env) :: starEach es X.env := by rfl) (hpl : (backTo pos (starEach es X.env)).any (·.1) = false := by rfl) : PD X (.Call (.Name x p) (e :: es) [] pos) (dBu r t) := fun B ex lk =>
  pe_weaken (pe_callB hc hg hm hv (ha B ex lk) hn hdb he hpl) fun σ H Q q => d_bu q
theorem pd_ty {x : Str} {p pos : Pos} {e : Expr} {es : List Expr} {t : DW} {id : String} {r : RBu} (hc : DBu X (.type id) r) (hg : Gl X x) (hm : X.mg x = none) (hv : bootBuiltins x = some (.type id)) (ha : PDW2 X (e :: es) t) (hn : x ≠ "__name__" := by decide) (hdb : (x == ("__debug__" : Str)) = false := by decide)
    (he : starEach (e :: es) X.env = (false, eval e X.env) :: starEach es X.env := by rfl) (hpl : (backTo pos (starEach es X.env)).any (·.1) = false := by rfl) : PD X (.Call (.Name x p) (e :: es) [] pos) (dBu r t) := fun B ex lk =>
  pe_weaken (pe_callTy hc hg hm hv (ha B ex lk) hn hdb he hpl) fun σ H Q q => d_bu q
theorem pdl_bi {x : Str} {p pos : Pos} {e : Expr} {es : List Expr} {t : DW} {id : String} {r : RBuL} (hc : DBuL X (.builtin id) r) (hg : Gl X x) (hm : X.mg x = none) (hv : bootBuiltins x = some (.builtin id)) (ha : PDW2 X (e :: es) t) (hn : x ≠ "__name__" := by decide) (hdb : (x == ("__debug__" : Str)) = false := by decide)
    (he : starEach (e :: es) X.env = (false, eval e X.env) :: starEach es X.env := by rfl) (hpl : (backTo pos (starEach es X.env)).any (·.1) = false := by rfl) : PDL X (.Call (.Name x p) (e :: es) [] pos) (dBuL r t) := fun B ex lk =>
  pe_weaken (pe_callB hc hg hm hv (ha B ex lk) hn hdb he hpl) fun σ H Q q => d_buL q
theorem pdl_ty {x : Str} {p pos : Pos} {e : Expr} {es : List Expr} {t : DW} {id : String} {r : RBuL} (hc : DBuL X (.type id) r) (hg : Gl X x) (hm : X.mg x = none) (hv : bootBuiltins x = some (.type id)) (ha : PDW2 X (e :: es) t) (hn : x ≠ "__name__" := by decide) (hdb : (x == ("__debug__" : Str)) = false := by decide)
    (he : starEach (e :: es) X.env = (false, eval e X.env) :: starEach es X.env := by rfl) (hpl : (backTo pos (starEach es X.env)).any (·.1) = false := by rfl) : PDL X (.Call (.Name x p) (e :: es) [] pos) (dBuL r t) := fun B ex lk =>
  pe_weaken (pe_callTy hc hg hm hv (ha B ex lk) hn hdb he hpl) fun σ H Q q => d_buL q
end
end MW
namespace MW
open PySem PySem.Spec PyProof.Rows L2
section
variable {X : Cx} {K : PySem.W.Frag} {B : Bs} {F F' H H' : Hp} {M M' : MS} {ds ds' : DS} {σ σ' : L2.St} {p : Addr} {o : HO} {ex : EX}
/-! ### built-ins -/
def lenR : RBu
  | [.lst xs], k => k (.int xs.length)
  | [.frl xs], k => k (.int xs.length)
  | [.tup xs], k => k (.int xs.length)
  | [.str s], k => s.length ≤ sizeLine ∧ k (.int s.length)
  | [.dic kvs], k => k (.int kvs.length)
  | _, _ => False
theorem RepKV.length : ∀ {xs : List (Key × D)} {vs : List (Key × V)}, RepKV K F xs vs → xs.length = vs.length
  | _, _, .nil => rfl
  | _, _, .cons _ t => by rw [List.length_cons, List.length_cons, RepKV.length t]
theorem bu_len : DBu X (.builtin "len") lenR := by
  intro pins s σ H vs us Q I rx h
  obtain ⟨F, xs, k, sm, tx, hr, hk⟩ := h
  match xs, tx, hr with
  | [.lst xs], .cons t .nil, hr =>
    obtain ⟨p, ws, rfl, h1, r1⟩ := t
    refine call_len pins s σ H _ us Q I rx ⟨_, ws.length, rfl, .inl ⟨ws, SqL.of h1, rfl⟩, ?_⟩
    rw [← r1.length]
    exact hk _ _ _ hr (.inl ⟨rfl, .int _⟩)
  | [.frl xs], .cons t .nil, hr =>
    cases t with
    | frl h1 r1 =>
      refine call_len pins s σ H _ us Q I rx ⟨_, _, rfl, .inl ⟨_, sqL_mono sm h1, rfl⟩, ?_⟩
      rw [← r1.length]
      exact hk _ _ _ hr (.inl ⟨rfl, .int _⟩)
  | [.tup xs], .cons t .nil, hr =>
    cases t with
    | tup h1 r1 =>
      refine call_len pins s σ H _ us Q I rx ⟨_, _, rfl, .inr ⟨_, sqT_mono sm h1, rfl⟩, ?_⟩
      rw [← r1.length]
      exact hk _ _ _ hr (.inl ⟨rfl, .int _⟩)
  | [.str z], .cons t .nil, hr =>
    cases t
    exact call_len pins s σ H _ us Q I rx ⟨_, _, rfl, ⟨hr.1, rfl⟩, hk _ _ _ hr.2 (.inl ⟨rfl, .int _⟩)⟩
  | [.dic kvs], .cons t .nil, hr =>
    obtain ⟨p, ws, rfl, h1, r1⟩ := t
    refine call_lenD pins s σ H _ us Q I rx ⟨p, ws, rfl, h1, ?_⟩
    rw [← r1.length]
    exact hk _ _ _ hr (.inl ⟨rfl, .int _⟩)
  | [.non], _, hr => exact hr.elim
  | [.bl _], _, hr => exact hr.elim
  | [.int _], _, hr => exact hr.elim
  | [.ref _], _, hr => exact hr.elim
  | [.ty _], _, hr => exact hr.elim
  | [.bad], _, hr => exact hr.elim
  | [], _, hr => exact hr.elim
  | x :: _ :: _, _, hr => cases x <;> exact hr.elim
def i1R (g : Int → Int) : RBu
  | [.int i], k => k (.int (g i))
  | _, _ => False
def i2R (g : Int → Int → Int) : RBu
  | [.int i, .int j], k => k (.int (g i j))
  | _, _ => False
theorem bu_i1 {f : Value} {g : Int → Int} (h : CallR X f (fun xs H Q => ∃ i, xs = [.int i] ∧ Q (.int (g i)) H)) : DBu X f (i1R g) := by
  intro pins s σ H vs us Q I rx q
  obtain ⟨F, xs, k, sm, tx, hr, hk⟩ := q
  cases tx with
  | nil => exact hr.elim
  | cons t tx =>
    rename_i x xs v vs
    cases tx with
    | nil =>
      cases x with
      | int i =>
        cases t
        exact h pins s σ H _ us Q I rx ⟨i, rfl, hk _ _ _ hr (.inl ⟨rfl, .int _⟩)⟩
      | _ => exact hr.elim
    | cons t2 tx => cases x <;> exact hr.elim
theorem bu_i2 {f : Value} {g : Int → Int → Int} (h : CallR X f (fun xs H Q => ∃ i j, xs = [.int i, .int j] ∧ Q (.int (g i j)) H)) : DBu X f (i2R g) := by
  intro pins s σ H vs us Q I rx q
  obtain ⟨F, xs, k, sm, tx, hr, hk⟩ := q
  cases tx with
  | nil => exact hr.elim
  | cons t tx =>
    rename_i x xs v vs
    cases tx with
    | nil => cases x <;> exact hr.elim
    | cons t2 tx =>
      rename_i y ys w ws
      cases tx with
      | nil =>
        cases x with
        | int i =>
          cases y with
          | int j =>
            cases t; cases t2
            exact h pins s σ H _ us Q I rx ⟨i, j, rfl, hk _ _ _ hr (.inl ⟨rfl, .int _⟩)⟩
          | _ => exact hr.elim
        | _ => exact hr.elim
      | cons t3 tx => cases x <;> first | exact hr.elim | (cases y <;> exact hr.elim)
def absR : RBu := i1R fun i => if i < 0 then -i else i
theorem bu_abs : DBu X (.builtin "abs") absR := bu_i1 call_abs
def max2R : RBu := i2R fun i j => if j > i then j else i
theorem bu_max2 (hc : X.calm = true) : DBu X (.builtin "max") max2R := bu_i2 (call_max2 hc)
def min2R : RBu := i2R fun i j => if j < i then j else i
theorem bu_min2 (hc : X.calm = true) : DBu X (.builtin "min") min2R := bu_i2 (call_min2 hc)
def intR : RBu
  | [.int i], k => k (.int i)
  | [.bl b], k => k (.int (if b then 1 else 0))
  | _, _ => False
theorem bu_int : DBu X (.type "int") intR := by
  intro pins s σ H vs us Q I rx q
  obtain ⟨F, xs, k, sm, tx, hr, hk⟩ := q
  cases tx with
  | nil => exact hr.elim
  | cons t tx =>
    rename_i x xs v vs
    cases tx with
    | nil =>
      cases x with
      | int i =>
        cases t
        exact call_int1 pins s σ H _ us Q I rx (.inl ⟨i, rfl, hk _ _ _ hr (.inl ⟨rfl, .int _⟩)⟩)
      | bl i =>
        cases t
        exact call_int1 pins s σ H _ us Q I rx (.inr ⟨i, rfl, hk _ _ _ hr (.inl ⟨rfl, .int _⟩)⟩)
      | _ => exact hr.elim
    | cons t2 tx => cases x <;> exact hr.elim
/-- the ints of a list -/
def intsD : List D → Option (List Int)
  | [] => some []
  | .int i :: r => (intsD r).map (i :: ·)
  | _ :: _ => none
theorem intsD_eq : ∀ {xs : List D} {ns : List Int}, intsD xs = some ns → xs = ns.map D.int
  | [], ns, h => by cases h; rfl
  | x :: r, ns, h => by
    cases x with
    | int i =>
      cases e : intsD r with
      | none => unfold intsD at h; rw [e] at h; cases h
      | some ms =>
        unfold intsD at h; rw [e] at h; cases h
        rw [intsD_eq e]
        rfl
    | _ => cases h
theorem intsD_map : ∀ ns : List Int, intsD (ns.map D.int) = some ns
  | [] => rfl
  | n :: r => by
    show (intsD (r.map D.int)).map (n :: ·) = _
    rw [intsD_map r]
    rfl
def lstI (r : List Int → (D → Prop) → Prop) : RBu
  | [.lst xs], k => match intsD xs with | some ns => r ns k | none => False
  | _, _ => False
theorem bu_lstI {f : Value} {r : List Int → (D → Prop) → Prop} (h : ∀ F H a ns k Q, Same F H → H a = some (.lst (ns.map V.int)) → r ns k → (∀ z v H', k z → Out X.K F H z v H' → Q v H') → (rr : List V → Hp → VK → Prop) [.ref a] H Q) (hc : CallR X f rr) : DBu X f (lstI r) := by
  intro pins s σ H vs us Q I rx q
  obtain ⟨F, xs, k, sm, tx, hr, hk⟩ := q
  cases tx with
  | nil => exact hr.elim
  | cons t tx =>
    rename_i x xs v vs
    cases tx with
    | nil =>
      cases x with
      | lst ys =>
        obtain ⟨p, ws, rfl, h1, r1⟩ := t
        cases e : intsD ys with
        | none => unfold lstI at hr; simp only [e] at hr
        | some ns =>
          unfold lstI at hr; simp only [e] at hr
          have e2 := intsD_eq e
          subst e2
          rw [r1.ints] at h1
          exact hc pins s σ H _ us Q I rx (h F H p ns k Q sm h1 hr hk)
      | _ => exact hr.elim
    | cons t2 tx => cases x <;> exact hr.elim
def sumR : RBu := lstI fun ns k => k (.int ns.sum)
theorem bu_sum (hc : X.calm = true) : DBu X (.builtin "sum") sumR := bu_lstI (fun F H a ns k Q sm h1 hr hk => ⟨a, ns, rfl, SqL.of h1, hk _ _ _ hr (.inl ⟨rfl, .int _⟩)⟩) (cr_sum hc)
def minR : RBu := lstI fun ns k => 0 < ns.length ∧ ∀ m, m ∈ ns → (∀ y, y ∈ ns → m ≤ y) → k (.int m)
theorem bu_min (hc : X.calm = true) : DBu X (.builtin "min") minR := bu_lstI (fun F H a ns k Q sm h1 hr hk => ⟨a, ns, rfl, SqL.of h1, hr.1, fun m h2 h3 => hk _ _ _ (hr.2 m h2 h3) (.inl ⟨rfl, .int _⟩)⟩) (cr_min hc)
def maxR : RBu := lstI fun ns k => 0 < ns.length ∧ ∀ m, m ∈ ns → (∀ y, y ∈ ns → y ≤ m) → k (.int m)
theorem bu_max (hc : X.calm = true) : DBu X (.builtin "max") maxR := bu_lstI (fun F H a ns k Q sm h1 hr hk => ⟨a, ns, rfl, SqL.of h1, hr.1, fun m h2 h3 => hk _ _ _ (hr.2 m h2 h3) (.inl ⟨rfl, .int _⟩)⟩) (cr_max hc)
/-- list(x) of a list, a tuple -/
def listR : RBuL
  | [.lst xs], k => k xs
  | [.frl xs], k => k xs
  | [.tup xs], k => k xs
  | _, _ => False
theorem bu_list : DBuL X (.type "list") listR := by
  intro pins s σ H vs us Q I rx q
  obtain ⟨F, xs, k, sm, tx, hr, hk⟩ := q
  cases tx with
  | nil => exact hr.elim
  | cons t tx =>
    rename_i x xs v vs
    cases tx with
    | nil =>
      cases x with
      | lst ys =>
        obtain ⟨p, ws, rfl, h1, r1⟩ := t
        exact call_list_of pins s σ H _ us Q I rx ⟨p, ws, rfl, .inl (SqL.of h1), fun l hl => hk _ l _ hr hl r1⟩
      | frl ys =>
        cases t with
        | frl h1 r1 => exact call_list_of pins s σ H _ us Q I rx ⟨_, _, rfl, .inl (sqL_mono sm h1), fun l hl => hk _ l _ hr hl r1⟩
      | tup ys =>
        cases t with
        | tup h1 r1 => exact call_list_of pins s σ H _ us Q I rx ⟨_, _, rfl, .inr (sqT_mono sm h1), fun l hl => hk _ l _ hr hl r1⟩
      | _ => exact hr.elim
    | cons t2 tx => cases x <;> exact hr.elim
/-- sorted of ints -/
def sortedIR : RBuL
  | [.lst xs], k => match intsD xs with | some ns => ∀ ms : List Int, ms.Perm ns → ms.Pairwise (· ≤ ·) → k (ms.map .int) | none => False
  | _, _ => False
theorem bu_sortedI : DBuL X (.builtin "sorted") sortedIR := by
  intro pins s σ H vs us Q I rx q
  obtain ⟨F, xs, k, sm, tx, hr, hk⟩ := q
  cases tx with
  | nil => exact hr.elim
  | cons t tx =>
    rename_i x xs v vs
    cases tx with
    | nil =>
      cases x with
      | lst ys =>
        obtain ⟨p, ws, rfl, h1, r1⟩ := t
        cases e : intsD ys with
        | none => unfold sortedIR at hr; simp only [e] at hr
        | some ns =>
          unfold sortedIR at hr; simp only [e] at hr
          have e2 := intsD_eq e
          subst e2
          rw [r1.ints] at h1
          exact cr_sortedI pins s σ H _ us Q I rx ⟨p, ns, rfl, SqL.of h1, fun ms l hp hs hl => hk _ l _ (hr ms hp hs) hl (repAll_ints ms)⟩
      | _ => exact hr.elim
    | cons t2 tx => cases x <;> exact hr.elim

/-! ### a list of one's own, or a cell, changed -/
def isL (ds : DS) (M : MS) (t : T) : Prop := match look ds M t with
  | .lst _ => True
  | _ => False
def onL (ds : DS) (M : MS) (t : T) (k : List D → (List D → DS) → (List D → MS) → Prop) : Prop := match t with
  | .s i => match ds[i]? with
    | some (.own xs) => k xs (fun ys => ds.set i (.own ys)) (fun _ => M)
    | _ => False
  | .v (.ref a) => match M a with
    | some (.lst xs) => k xs (fun _ => ds) (fun ys => mset M a (.lst ys))
    | _ => False
  | _ => False
theorem Ok.onL (ok : Ok K B F M ds σ H) {t : T} {v : V} (r : RepT K F σ t v) {k : List D → (List D → DS) → (List D → MS) → Prop} (h : MW.onL ds M t k) :
    ∃ p xs vs pd pm, v = .ref p ∧ H p = some (.lst vs) ∧ RepAll K F xs vs ∧ k xs pd pm ∧ (∀ ys us, RepAll K F ys us → Ok K B F (pm ys) (pd ys) σ (upd H p (.lst us))) ∧
      (H p = some (.lst vs) → Ok K B F (pm xs) (pd xs) σ H) := by
  cases t with
  | s i =>
    have rv : σ[i]? = some (some v) := r
    dsimp only [MW.onL] at h
    cases e : ds[i]? with
    | none => rw [e] at h; exact h.elim
    | some sv =>
      rw [e] at h
      cases sv with
      | own xs =>
        obtain ⟨p, vs, g, h1, h2, h3, h4⟩ := ok.own e
        rw [rv] at g; cases g
        refine ⟨p, xs, vs, _, _, rfl, h1, h2, h, fun ys us r' => ok.ownSet e rv r', fun _ => ?_⟩
        have := ok.ownSet e rv h2
        have eu : upd H p (.lst vs) = H := by
          funext b; unfold upd; split
          · rename_i z; rw [z, h1]
          · rfl
        rw [eu] at this
        exact this
      | _ => exact h.elim
  | v x =>
    cases x with
    | ref a =>
      cases r
      dsimp only [MW.onL] at h
      cases e : M a with
      | none => rw [e] at h; exact h.elim
      | some m =>
        rw [e] at h
        cases m with
        | lst xs =>
          obtain ⟨vs, h1, h2⟩ := (ok.z.cell a _ e).2
          refine ⟨a, xs, vs, _, _, rfl, h1, h2, h, fun ys us r' => ok.write e ⟨us, upd_same, r'⟩, fun _ => ?_⟩
          have := ok.write (o := .lst vs) e (m' := .lst xs) ⟨vs, upd_same, h2⟩
          have eu : upd H a (.lst vs) = H := by
            funext b; unfold upd; split
            · rename_i z; rw [z, h1]
            · rfl
          rw [eu] at this
          exact this
        | _ => exact h.elim
    | _ => exact h.elim
theorem isL_ok (ok : Ok K B F M ds σ H) {t : T} {v : V} (r : RepT K F σ t v) (h : isL ds M t) : tyV K "list" v H := by
  have tp := ok.look r
  unfold isL at h
  generalize MW.look ds M t = y at *
  cases y with
  | lst xs =>
    obtain ⟨p, vs, rfl, h1, _⟩ := tp
    exact .inl ⟨rfl, vs, SqL.of h1⟩
  | _ => exact h.elim
/-- a list's method: the list, the arguments; the list behind it, the value -/
abbrev RMe := List D → List D → (List D → D → Prop) → Prop
def rMe (K : PySem.W.Frag) (m : RMe) : V → List V → Hp → VK → Prop := fun x vs H Q => ∃ F p xs ws as k, Same F H ∧ x = .ref p ∧ H p = some (.lst ws) ∧ RepAll K F xs ws ∧ RepAll K F as vs ∧ m xs as k ∧
  ∀ ys z us v, k ys z → RepAll K F ys us → Rep K F z v → Q v (upd H p (.lst us))
def DMe (X : Cx) (id : String) (m : RMe) : Prop := MtR X id (rMe X.K m)
def dMe (m : RMe) (tr : DE) (ta : DA) : DE := fun ex ds M k => tr ex ds M fun x ds1 M1 => isL ds1 M1 x ∧ ta ex ds1 M1 fun as ds2 M2 => onL ds2 M2 x fun xs pd pm => m xs as fun ys z => k (.v z) (pd ys) (pm ys)
theorem d_me {m : RMe} {tr : DE} {ta : DA} {Q : VK} (q : cE K B ((dMe m tr ta) ex) σ H Q) : tBM K "list" (rMe K m) (cE K B (tr ex)) (cA K B (ta ex)) σ H Q := by
  obtain ⟨F, M, ds, k, ok, q, g⟩ := q
  refine ⟨F, M, ds, _, ok, q, fun x ds1 M1 F1 H1 v q1 ok1 s1 r1 => ?_⟩
  refine ⟨isL_ok ok1 r1 q1.1, F1, M1, ds1, _, ok1, q1.2, fun as ds2 M2 F2 H2 vs q2 ok2 s2 r2 => ?_⟩
  obtain ⟨p, xs, ws, pd, pm, rfl, h1, h2, q3, put, _⟩ := ok2.onL (r1.mono s2) q2
  refine ⟨F2, p, xs, ws, as, _, ok2.z.fr, rfl, h1, h2, r2, q3, fun ys z us v k4 ry rz => ?_⟩
  exact g _ _ _ _ _ _ k4 (put ys us ry) (s1.trans s2) rz
theorem d_me0 {m : RMe} {tr : DE} {Q : VK} (q : cE K B ((dMe m tr dNil) ex) σ H Q) : tBM0 K "list" (rMe K m) (cE K B (tr ex)) σ H Q := by
  obtain ⟨F, M, ds, k, ok, q, g⟩ := q
  refine ⟨F, M, ds, _, ok, q, fun x ds1 M1 F1 H1 v q1 ok1 s1 r1 => ?_⟩
  have q2 : onL ds1 M1 x (fun xs pd pm => m xs [] fun ys z => k (.v z) (pd ys) (pm ys)) := q1.2
  obtain ⟨p, xs, ws, pd, pm, rfl, h1, h2, q3, put, _⟩ := ok1.onL r1 q2
  refine ⟨isL_ok ok1 r1 q1.1, F1, p, xs, ws, [], _, ok1.z.fr, rfl, h1, h2, .nil, q3, fun ys z us v k4 ry rz => ?_⟩
  exact g _ _ _ _ _ _ k4 (put ys us ry) s1 rz
theorem pd_me {id : String} {m : RMe} {o e : Expr} {es : List Expr} {tr : DE} {ta : DA} {name : Str} {apos cpos : Pos} (slot : Slot "list" name id) (hty : typeOf (.builtin id) = pure (.type "method_descriptor")) (hm : DMe X id m) (ho : PD X o tr) (ha : PDA X (e :: es) ta)
    (hbase : attributeBase o name X.env (eval o X.env) = eval o X.env := by rfl)
    (hfew : ((backTo cpos (starEach (e :: es) X.env)).all (fun x => !x.1) && (backToKw cpos (keywordEach [] X.env)).all (fun x => x.1.isSome) && decide ((e :: es).length + ([] : List Keyword).length + (if ([] : List Keyword).isEmpty then 0 else 1) < 30)) = true := by rfl)
    (hline : (apos.endLine == cpos.line) = true := by rfl) (hs : starEach (e :: es) X.env = (false, eval e X.env) :: starEach es X.env := by rfl) (hplain : (backTo cpos (starEach es X.env)).any (·.1) = false := by rfl) :
    PD X (.Call (.Attribute o name apos) (e :: es) [] cpos) (dMe m tr ta) := fun B ex lk =>
  pe_weaken (pe_bm PySem.F.plainAttrs_list slot hty hm (ho B ex lk) (ha B ex lk) hbase hfew hline hs hplain) fun σ H Q q => d_me q
theorem pd_me0 {id : String} {m : RMe} {o : Expr} {tr : DE} {name : Str} {apos cpos : Pos} (slot : Slot "list" name id) (hty : typeOf (.builtin id) = pure (.type "method_descriptor")) (hm : DMe X id m) (ho : PD X o tr)
    (hbase : attributeBase o name X.env (eval o X.env) = eval o X.env := by rfl) (hline : (apos.endLine == cpos.line) = true := by rfl) : PD X (.Call (.Attribute o name apos) [] [] cpos) (dMe m tr dNil) := fun B ex lk =>
  pe_weaken (pe_bm0 PySem.F.plainAttrs_list slot hty hm (ho B ex lk) hbase hline) fun σ H Q q => d_me0 q
def appendR : RMe
  | xs, [y], k => xs.length < sizeLine ∧ k (xs ++ [y]) .non
  | _, _, _ => False
theorem me_append : DMe X "list.append" appendR := by
  intro pins s σ H x vs v us Q I rx ra h
  obtain ⟨F, p, xs, ws, as, k, sm, rfl, h1, r1, r2, hr, hk⟩ := h
  match as, r2, hr with
  | [y], .cons ry .nil, hr => exact mt_append pins s σ H _ _ v us Q I rx ra ⟨p, ws, _, rfl, rfl, h1, by rw [← r1.length]; exact hr.1, hk _ _ _ _ hr.2 (r1.append (.one ry)) .non⟩
  | [], _, hr => exact hr.elim
  | _ :: _ :: _, _, hr => exact hr.elim
def extendR : RMe
  | xs, [.lst ys], k => xs.length + ys.length ≤ sizeLine ∧ k (xs ++ ys) .non
  | _, _, _ => False
theorem me_extend : DMe X "list.extend" extendR := by
  intro pins s σ H x vs v us Q I rx ra h
  obtain ⟨F, p, xs, ws, as, k, sm, rfl, h1, r1, r2, hr, hk⟩ := h
  cases r2 with
  | nil => exact hr.elim
  | cons ry r2 =>
    cases r2 with
    | nil =>
      cases ry with
      | lst h2 ry => exact mt_extend pins s σ H _ _ v us Q I rx ra ⟨p, _, ws, _, rfl, rfl, h1, sm _ _ h2, by rw [← r1.length, ← ry.length]; exact hr.1, hk _ _ _ _ hr.2 (r1.append ry) .non⟩
      | _ => exact hr.elim
    | cons _ _ => cases ry <;> exact hr.elim
def popR : RMe
  | xs, [], k => match xs[xs.length - 1]? with | some y => k xs.dropLast y | none => False
  | _, _, _ => False
theorem RepAll.dropLast {xs : List D} {vs : List V} (r : RepAll K F xs vs) : RepAll K F xs.dropLast vs.dropLast := by
  rw [List.dropLast_eq_take, List.dropLast_eq_take, r.length]
  exact r.take _
theorem me_pop : DMe X "list.pop" popR := by
  intro pins s σ H x vs v us Q I rx ra h
  obtain ⟨F, p, xs, ws, as, k, sm, rfl, h1, r1, r2, hr, hk⟩ := h
  cases r2 with
  | cons _ _ => exact hr.elim
  | nil =>
    dsimp only [popR] at hr
    cases e : xs[xs.length - 1]? with
    | none => rw [e] at hr; exact hr.elim
    | some y =>
      rw [e] at hr
      obtain ⟨w, e2, rw'⟩ := r1.get e
      exact mt_pop pins s σ H _ _ v us Q I rx ra ⟨p, ws, w, rfl, rfl, h1, by rw [← r1.length]; exact e2, hk _ _ _ _ hr r1.dropLast rw'⟩
def popAtR : RMe
  | xs, [.int i], k => -(2 ^ 63) ≤ i ∧ i < 2 ^ 63 ∧ (match ixN xs.length i with | some j => (match xs[j]? with | some y => k (xs.eraseIdx j) y | none => False) | none => False)
  | _, _, _ => False
theorem me_popAt : DMe X "list.pop" popAtR := by
  intro pins s σ H x vs v us Q I rx ra h
  obtain ⟨F, p, xs, ws, as, k, sm, rfl, h1, r1, r2, hr, hk⟩ := h
  cases r2 with
  | nil => exact hr.elim
  | cons ry r2 =>
    cases r2 with
    | cons _ _ => cases ry <;> exact hr.elim
    | nil =>
      cases ry with
      | int i =>
        obtain ⟨g1, g2, hr⟩ := hr
        cases e : ixN xs.length i with
        | none => rw [e] at hr; exact hr.elim
        | some j =>
          rw [e] at hr
          dsimp only at hr
          cases e2 : xs[j]? with
          | none => rw [e2] at hr; exact hr.elim
          | some y =>
            rw [e2] at hr
            obtain ⟨w, e3, rw'⟩ := r1.get e2
            rw [r1.length] at e
            exact mt_popAt pins s σ H _ _ v us Q I rx ra ⟨p, ws, i, j, w, rfl, rfl, h1, g1, g2, (ixN_seq e).1, e3, hk _ _ _ _ hr (r1.eraseIdx j) rw'⟩
      | _ => exact hr.elim
def clearR : RMe
  | _, [], k => k [] .non
  | _, _, _ => False
theorem me_clear : DMe X "list.clear" clearR := by
  intro pins s σ H x vs v us Q I rx ra h
  obtain ⟨F, p, xs, ws, as, k, sm, rfl, h1, r1, r2, hr, hk⟩ := h
  cases r2 with
  | cons _ _ => exact hr.elim
  | nil => exact mt_clear pins s σ H _ _ v us Q I rx ra ⟨p, ws, rfl, rfl, h1, hk _ _ _ _ hr .nil .non⟩
def reverseR : RMe
  | xs, [], k => k xs.reverse .non
  | _, _, _ => False
theorem me_reverse : DMe X "list.reverse" reverseR := by
  intro pins s σ H x vs v us Q I rx ra h
  obtain ⟨F, p, xs, ws, as, k, sm, rfl, h1, r1, r2, hr, hk⟩ := h
  cases r2 with
  | cons _ _ => exact hr.elim
  | nil => exact mt_reverse pins s σ H _ _ v us Q I rx ra ⟨p, ws, rfl, rfl, h1, hk _ _ _ _ hr r1.reverse .non⟩
/-- o[i] = v, o a list of one's own or a cell -/
def dgSub (to ti : DE) : DG := fun ex x ds M k => to ex ds M fun o ds1 M1 => ti ex ds1 M1 fun i ds2 M2 => match look ds2 M2 i with
  | .int i => onL ds2 M2 o fun xs pd pm => match ixN xs.length i with
    | some j => k (pd (xs.set j x)) (pm (xs.set j x))
    | none => False
  | _ => False
theorem pdg_sub {o i : Expr} {to ti : DE} {pos : Pos} (ho : PD X o to) (hi : PD X i ti)
    (ha : ∀ v, assign (.Subscript o i pos) X.env v = (do let ov ← holding [v] (eval o X.env); let iv ← holding [v, ov] (eval i X.env); standAt pos; holding [v, ov, iv] (setItem ov iv v); release [v, ov, iv] []) := by intro _; rfl) : PDG X (.Subscript o i pos) (dgSub to ti) := fun B ex lk =>
  pg_weaken (pg_sub (ho B ex lk) (hi B ex lk) set_list ha) fun v σ H Q q => by
    obtain ⟨F, M, ds, d, k, ok, r, q, g⟩ := q
    refine ⟨F, M, ds, _, ok, q, fun x ds1 M1 F1 H1 u q1 ok1 s1 r1 => ?_⟩
    refine ⟨F1, M1, ds1, _, ok1, q1, fun y ds2 M2 F2 H2 w q2 ok2 s2 r2 => ?_⟩
    have ti := ok2.look r2
    generalize look ds2 M2 y = y' at *
    cases y' with
    | int i =>
      cases ti
      obtain ⟨p, xs, vs, pd, pm, rfl, h1, h2, q3, put, _⟩ := ok2.onL (r1.mono s2) q2
      cases e : ixN xs.length i with
      | none => simp only [e] at q3
      | some j =>
        simp only [e] at q3
        refine ⟨p, vs, i, j, rfl, rfl, h1, by rw [← h2.length]; exact e, ?_⟩
        exact g _ _ _ _ _ q3 (put _ _ (h2.set ((r.mono s1).mono s2) j)) (s1.trans s2)
    | _ => exact False.elim q2
/-! ### ranges -/
def dRange1 (t : DE) : DI := fun ex ds M k => t ex ds M fun x ds1 M1 => match look ds1 M1 x with
  | .int j => -(2 ^ 62) ≤ j ∧ j < 2 ^ 62 ∧ k ⟨rngL 0 j.toNat, noC⟩ ds1 M1
  | _ => False
theorem pdi_range1 {tg a : Expr} {t : DE} {p pos : Pos} (hg : Gl X "range") (hm : X.mg "range" = none) (ha : PD X a t) (hs : starEach [a] X.env = [(false, eval a X.env)] := by rfl) : PDI X tg (.Call (.Name "range" p) [a] [] pos) (dRange1 t) := fun B ex lk =>
  pi_weaken (pi_range1 hg hm (pa_cons (ha B ex lk) pa_nil hs) hs) fun σ H R q => by
    obtain ⟨F, M, ds, k, ok, q, g⟩ := q
    refine ⟨F, M, ds, _, ok, q, fun x ds1 M1 F1 H1 v q1 ok1 s1 r1 => ?_⟩
    have ti := ok1.look r1
    generalize look ds1 M1 x = x' at *
    cases x' with
    | int j =>
      cases ti
      exact ⟨j, rfl, q1.1, q1.2.1, g _ _ _ _ _ _ q1.2.2 ok1 s1 walks_range⟩
    | _ => exact False.elim q1
def dRange2 (t u : DE) : DI := fun ex ds M k => t ex ds M fun x ds1 M1 => u ex ds1 M1 fun y ds2 M2 => match look ds2 M2 x, look ds2 M2 y with
  | .int i, .int j => (-(2 ^ 62) ≤ i ∧ i < 2 ^ 62 ∧ -(2 ^ 62) ≤ j ∧ j < 2 ^ 62) ∧ k ⟨rngL i (j - i).toNat, noC⟩ ds2 M2
  | _, _ => False
theorem pdi_range2 {tg a b : Expr} {t u : DE} {p pos : Pos} (hg : Gl X "range") (hm : X.mg "range" = none) (ha : PD X a t) (hb : PD X b u) (hs : starEach [a, b] X.env = [(false, eval a X.env), (false, eval b X.env)] := by rfl) (hs2 : starEach [b] X.env = [(false, eval b X.env)] := by rfl) : PDI X tg (.Call (.Name "range" p) [a, b] [] pos) (dRange2 t u) := fun B ex lk =>
  pi_weaken (pi_range2 hg hm (pa_cons (ha B ex lk) (pa_cons (hb B ex lk) pa_nil hs2) (by rw [hs, hs2])) hs hs2) fun σ H R q => by
    obtain ⟨F, M, ds, k, ok, q, g⟩ := q
    refine ⟨F, M, ds, _, ok, q, fun x ds1 M1 F1 H1 v q1 ok1 s1 r1 => ?_⟩
    refine ⟨F1, M1, ds1, _, ok1, q1, fun y ds2 M2 F2 H2 w q2 ok2 s2 r2 => ?_⟩
    have tx := ok2.look (r1.mono s2)
    have ty := ok2.look r2
    generalize look ds2 M2 x = x' at *
    generalize look ds2 M2 y = y' at *
    cases x' with
    | int i =>
      cases y' with
      | int j =>
        cases tx; cases ty
        exact ⟨i, j, rfl, q2.1, g _ _ _ _ _ _ q2.2 ok2 (s1.trans s2) walks_range⟩
      | _ => exact False.elim q2
    | _ => exact False.elim q2
end
end MW
namespace MW
open PySem PySem.Spec PyProof.Rows L2
/-- a def that is called by its name -/
def Callee (P : Program) (w : World) (K : PySem.W.Frag) (mg : Str → Option Value) (base : Heap) (k : Nat) (x : Str) (ps : List Str) (f : FSpec) : Prop :=
  ∃ a fd, FnOk P w K mg base (L2.CX P w) k a fd ps (spF K ps.length f) ∧ mg x = some (.ref a) ∧ PySem.W.keepIn K (.ref a) = true ∧ Binds K fd ps []
/-- a constant of the module -/
def GConst (K : PySem.W.Frag) (mg : Str → Option Value) (x : Str) (d : D) : Prop := ∃ u v, mg x = some u ∧ RelV v u ∧ ∀ F, Rep K F d v
section
variable {X : Cx} {K : PySem.W.Frag} {B : Bs} {F F' H H' : Hp} {M M' : MS} {ds ds' : DS} {σ σ' : L2.St} {p : Addr} {o : HO} {ex : EX}
theorem pd_callC {k n : Nat} {f : FSpec} {t : DA} {e : Expr} {es : List Expr} {x : Str} {pp pos : Pos} {ps : List Str} (C : Callee X.prog X.w X.K X.mg X.base k x ps f) (hr : Room k X.A) (hg : Gl X x) (ha : PDA X (e :: es) t) (hn : ps.length = n := by rfl) (hdb : (x == ("__debug__" : Str)) = false := by decide)
    (he : starEach (e :: es) X.env = (false, eval e X.env) :: starEach es X.env := by rfl) (hpl : (backTo pos (starEach es X.env)).any (·.1) = false := by rfl) : PD X (.Call (.Name x pp) (e :: es) [] pos) (dCall n f t) := by
  obtain ⟨a, fd, h1, h2, h3, h4⟩ := C
  subst hn
  exact pd_call h1 hr hg h2 h3 h4 ha hdb he hpl
theorem pd_call0C {k : Nat} {f : FSpec} {x : Str} {pp pos : Pos} (C : Callee X.prog X.w X.K X.mg X.base k x [] f) (hr : Room k X.A) (hg : Gl X x) (hdb : (x == ("__debug__" : Str)) = false := by decide) : PD X (.Call (.Name x pp) [] [] pos) (dCall0 f) := by
  obtain ⟨a, fd, h1, h2, h3, h4⟩ := C
  exact pd_call0 h1 hr hg h2 h3 h4 hdb
theorem pd_glob {x : Str} {d : D} {pos : Pos} (C : GConst X.K X.mg x d) (hg : Gl X x) (hd : (x == ("__debug__" : Str)) = false := by decide) : PD X (.Name x pos) (dC d) := by
  obtain ⟨u, v, h1, h2, h3⟩ := C
  exact pd_c (pe_glob hg h1 h2 hd) h3
def dNeg (t : DE) : DE := fun ex ds M k => t ex ds M fun x ds1 M1 => match look ds1 M1 x with
  | .int i => k (.v (.int (-i))) ds1 M1
  | _ => False
theorem pd_neg {e : Expr} {t : DE} {pos : Pos} (h : PD X e t) : PD X (.UnaryOp .USub e pos) (dNeg t) := fun B ex lk =>
  pe_weaken (pe_un un_neg (h B ex lk)) fun σ H Q q => by
    obtain ⟨F, M, ds, k, ok, q, g⟩ := q
    refine ⟨F, M, ds, _, ok, q, fun x ds1 M1 F1 H1 v q1 ok1 s1 r1 => ?_⟩
    have ti := ok1.look r1
    generalize look ds1 M1 x = x' at *
    cases x' with
    | int i => cases ti; exact ⟨i, rfl, g _ _ _ _ _ _ q1 ok1 s1 (Rep.int _)⟩
    | _ => exact False.elim q1
end
end MW
namespace MW
open PySem PySem.Spec PyProof.Rows L2
/-- a side of zip -/
inductive Side where
  | l (a : Addr) | t (a : Addr) | s (x : Str)
def chrV (x : Str) : List V := x.cps.toList.map fun c => .str ⟨#[c]⟩
def Side.at (K : PySem.W.Frag) (H : Hp) : Side → List V → Prop
  | .l a, xs => SqL K H a xs
  | .t a, xs => SqT K H a xs
  | .s x, xs => xs = chrV x
def Side.fp (it : Addr) : Side → List Addr
  | .l a => [it, a]
  | .t a => [it, a]
  | .s _ => [it]
def Side.st (it : Addr) (i : Nat) (h : Heap) : Side → Prop
  | .l a => h.IsListIter it a i
  | .t a => h.IsTupleIter it a i
  | .s x => ∃ t, h.IsStrIter it (strIterType x) x t i
def Side.ne (it : Addr) : Side → Prop
  | .l a => a ≠ it
  | .t a => a ≠ it
  | .s _ => True
section
variable {X : Cx} {K : PySem.W.Frag} {B : Bs} {F F' H H' : Hp} {M M' : MS} {ds ds' : DS} {σ σ' : L2.St} {p : Addr} {o : HO} {ex : EX} {pins : List (Addr × Obj)} {s : Shared}
theorem side_draws {sd : Side} {it : Addr} {xs : List V} (I : Inv X pins σ H s) (hc : X.calm = true) (h : sd.at X.K H xs) (hn : sd.ne it) {i : Nat} (st0 : sd.st it i s.heap) :
    ∃ P St, Draws X.prog X.w X.A.in1 it (sd.fp it) xs.length P St ∧ St i s.heap ∧ (∀ i h, St i h → sd.st it i h) ∧ ∀ i v, P i v → ∃ x, xs[i]? = some x ∧ RelV x v := by
  have hh : X.A.in1.handled = none := I.ok.hd hc
  cases sd with
  | l a =>
    obtain ⟨its, r, pl, _⟩ := I.list h
    refine ⟨fun i v => its.toArray[i]? = some v, fun i h => h.IsListIter it a i ∧ h.IsList a its.toArray, ?_, ⟨st0, pl.isList⟩, fun i h z => z.1, fun i v z => ?_⟩
    · have := Draws.list (prog := X.prog) (w := X.w) hh it a hn its.toArray
      rw [List.size_toArray, ← r.length] at this
      exact this
    · have z' : its[i]? = some v := by simpa using z
      have hi := (List.getElem?_eq_some_iff.mp z').1
      rw [← r.length] at hi
      obtain ⟨u, h1, h2⟩ := r.get (List.getElem?_eq_getElem hi)
      rw [z'] at h1; cases h1
      exact ⟨_, List.getElem?_eq_getElem hi, h2⟩
  | t a =>
    obtain ⟨its, r, pl, _⟩ := I.tuple h
    refine ⟨fun i v => its.toArray[i]? = some v, fun i h => h.IsTupleIter it a i ∧ h.IsTuple a its.toArray, ?_, ⟨st0, pl⟩, fun i h z => z.1, fun i v z => ?_⟩
    · have := Draws.tuple (prog := X.prog) (w := X.w) hh it a hn its.toArray
      rw [List.size_toArray, ← r.length] at this
      exact this
    · have z' : its[i]? = some v := by simpa using z
      have hi := (List.getElem?_eq_some_iff.mp z').1
      rw [← r.length] at hi
      obtain ⟨u, h1, h2⟩ := r.get (List.getElem?_eq_getElem hi)
      rw [z'] at h1; cases h1
      exact ⟨_, List.getElem?_eq_getElem hi, h2⟩
  | s x =>
    obtain ⟨t, st0⟩ := st0
    have e : xs = chrV x := h
    subst e
    refine ⟨fun i v => ∃ c u, x.cps[i]? = some c ∧ v = .str ⟨#[c]⟩ u, fun i h => h.IsStrIter it (strIterType x) x t i, ?_, st0, fun i h z => ⟨t, z⟩, fun i v z => ?_⟩
    · have := Draws.text (prog := X.prog) (w := X.w) hh it x t
      have hl : (chrV x).length = x.cps.size := by simp [chrV]
      rw [hl]
      exact this
    · obtain ⟨c, u, h1, rfl⟩ := z
      refine ⟨.str ⟨#[c]⟩, ?_, ⟨u, rfl⟩⟩
      unfold chrV
      rw [List.getElem?_map, Array.getElem?_toList, h1]
      rfl
/-- the pairs of two sides -/
def Itz2 (K : PySem.W.Frag) (a b : Side) : It :=
  ⟨fun i H => ∃ xs ys, a.at K H xs ∧ b.at K H ys ∧ i < xs.length ∧ i < ys.length,
    fun i H v H' => ∃ T x y, v = .ref T ∧ H T = none ∧ H' = upd H T (.tup [x, y]) ∧ (∀ xs, a.at K H xs → xs[i]? = some x) ∧ ∀ ys, b.at K H ys → ys[i]? = some y,
    fun i H => ∃ xs ys, a.at K H xs ∧ b.at K H ys ∧ i = min xs.length ys.length⟩
theorem side_inj {sd : Side} {xs ys : List V} (I : Inv X pins σ H s) (h : sd.at X.K H xs) (h' : sd.at X.K H ys) : xs = ys := by
  cases sd with
  | l a => exact I.list_inj h h'
  | t a => exact I.tuple_inj h h'
  | s x => exact Eq.trans h (Eq.symm h')
theorem side_st_keep {sd : Side} {it : Addr} {i : Nat} {h h' : Heap} (z : sd.st it i h) (k : ∀ o, h.get? it = some o → h'.get? it = some o) : sd.st it i h' := by
  cases sd with
  | l a => exact Heap.IsListIter.at z k
  | t a => exact Heap.IsTupleIter.at z k
  | s x => obtain ⟨t, o, e, c, d⟩ := z; exact ⟨t, o, k o e, c, d⟩
theorem side_st_obj {sd : Side} {it : Addr} {i : Nat} {h : Heap} (z : sd.st it i h) : ∃ o, h.get? it = some o ∧ ∀ v, o.data ≠ .cell v := by
  cases sd with
  | l a => obtain ⟨o, e, _, d⟩ := z; exact ⟨o, e, fun v q => by rw [d] at q; cases q⟩
  | t a => obtain ⟨o, e, _, d⟩ := z; exact ⟨o, e, fun v q => by rw [d] at q; cases q⟩
  | s x => obtain ⟨t, o, e, _, d⟩ := z; exact ⟨o, e, fun v q => by rw [d] at q; cases q⟩
theorem turn_zip2 {P : Program} {w : World} {K : PySem.W.Frag} {elts : List Expr} {kk : Nat} {tpos : Pos} {a b : Side} {z TI TO i1 i2 : Addr} (S : ZipSep2 z TI TO i1 i2 (a.fp i1) (b.fp i2)) (n1 : a.ne i1) (n2 : b.ne i2) :
    Turn P w K (.Tuple elts kk tpos) (Itz2 K a b) [z, TI, TO, i1, i2] z (fun i h => IsZip h z TI TO .none ∧ IsTupOf2 h TI (.ref i1) (.ref i2) ∧ (∃ x y, IsTupOf2 h TO x y) ∧ a.st i1 i h ∧ b.st i2 i h) where
  mem := by simp
  obj := fun i h st c hc => by
    obtain ⟨hz, hTI, ⟨x, y, hTO⟩, q1, q2⟩ := st
    simp only [List.mem_cons, List.not_mem_nil, or_false] at hc
    rcases hc with rfl | rfl | rfl | rfl | rfl
    · exact ⟨_, hz, fun v q => nomatch q⟩
    · exact ⟨_, hTI, fun v q => nomatch q⟩
    · exact ⟨_, hTO, fun v q => nomatch q⟩
    · exact side_st_obj q1
    · exact side_st_obj q2
  keep := fun i h h' st k => by
    obtain ⟨hz, hTI, ⟨x, y, hTO⟩, q1, q2⟩ := st
    exact ⟨k z (by simp) _ hz, k TI (by simp) _ hTI, ⟨x, y, k TO (by simp) _ hTO⟩, side_st_keep q1 (k i1 (by simp)), side_st_keep q2 (k i2 (by simp))⟩
  item := by
    intro X hP hw hK hc i pins s σ H E I hf st hg
    subst hP hw hK
    obtain ⟨hz, hTI, hTO, q1, q2⟩ := st
    obtain ⟨xs, ys, ha, hb, l1, l2⟩ := hg
    obtain ⟨P1, S1, D1, st1, back1, p1⟩ := side_draws I hc ha n1 q1
    obtain ⟨P2, S2, D2, st2, back2, p2⟩ := side_draws I hc hb n2 q2
    refine (GoesN.zip2 (elts := elts) (x1 := kk) (pos := tpos) S D1 D2).goes i s _ E (by omega) ⟨hz, hTI, hTO, st1, st2⟩ ?_
    intro v h' tk hY st' hk htk
    obtain ⟨T, x, y, rfl, hT, hx, hy, hTt⟩ := hY
    obtain ⟨dx, e1, r1⟩ := p1 i x hx
    obtain ⟨dy, e2, r2⟩ := p2 i y hy
    have new : ObjOk X.prog X.w (upd H T (.tup [dx, dy])) h' T (.tup [dx, dy]) := ⟨by show 2 ≤ sizeLine; decide, [x, y], .cons r1 (.cons r2 .nil), hTt⟩
    have I1 : Inv X pins σ (upd H T (.tup [dx, dy])) { s with heap := h', toks := tk } := I.turnedNew (ch := [z, TO, i1, i2]) hk (fun b hb => hf b (by simp at hb ⊢; rcases hb with q | q | q | q <;> simp [q])) hT new
    refine ⟨.ref T, _, I1, rfl, ⟨T, dx, dy, rfl, I.hok.fresh hT, rfl, fun l hl => by rw [side_inj I hl ha]; exact e1, fun l hl => by rw [side_inj I hl hb]; exact e2⟩, ?_, fun c hcm => ?_⟩
    · obtain ⟨g1, g2, g3, g4, g5⟩ := st'
      exact ⟨g1, g2, g3, back1 _ _ g4, back2 _ _ g5⟩
    · have hfc := (hf c hcm).1
      have hlt : c < s.heap.objs.size := by
        obtain ⟨x0, y0, hTO⟩ := hTO
        simp only [List.mem_cons, List.not_mem_nil, or_false] at hcm
        rcases hcm with rfl | rfl | rfl | rfl | rfl
        · exact Heap.lt_size hz
        · exact Heap.lt_size hTI
        · exact Heap.lt_size hTO
        · obtain ⟨_, e, _⟩ := side_st_obj q1; exact Heap.lt_size e
        · obtain ⟨_, e, _⟩ := side_st_obj q2; exact Heap.lt_size e
      rw [upd_ne (Nat.ne_of_lt (Nat.lt_of_lt_of_le hlt hT))]
      exact hfc
  done := by
    intro X hP hw hK hc i pins s σ H E I hf st hg
    subst hP hw hK
    obtain ⟨hz, hTI, hTO, q1, q2⟩ := st
    obtain ⟨xs, ys, ha, hb, e⟩ := hg
    subst e
    obtain ⟨P1, S1, D1, st1, back1, p1⟩ := side_draws I hc ha n1 q1
    obtain ⟨P2, S2, D2, st2, back2, p2⟩ := side_draws I hc hb n2 q2
    refine (GoesN.zip2 (elts := elts) (x1 := kk) (pos := tpos) S D1 D2).stops s _ E ⟨hz, hTI, hTO, st1, st2⟩ ?_
    intro h' tk hk htk
    exact I.turnedL (ch := [z, TO, i1, i2]) hk (fun b hb => hf b (by simp at hb ⊢; rcases hb with q | q | q | q <;> simp [q]))
  self := fun A i s Q E st h => wpAny_pyIter_zip st.1 h
/-- a value as a side -/
def sideIs (x : V) : Side → Prop
  | .l a => x = .ref a
  | .t a => x = .ref a
  | .s z => x = .str z
def sideV (K : PySem.W.Frag) (H : Hp) (x : V) (sd : Side) : Prop := sideIs x sd ∧ ∃ xs, sd.at K H xs
theorem side_begins {x : V} {v : Value} {sd : Side} (I : Inv X pins σ H s) (r : RelV x v) (h : sideV X.K H x sd) : ∃ o Hc, Begins v o Hc ∧ Hc s.heap ∧ (∀ it h', h'.get? it = some o → sd.st it 0 h') ∧ (∀ N, s.heap.objs.size ≤ N → sd.ne N) ∧ (∀ it, ∀ b ∈ (sd.fp it).tail, b < s.heap.objs.size) := by
  obtain ⟨e, xs, hx⟩ := h
  cases sd with
  | l a =>
    have e : x = .ref a := e
    subst e; cases r
    obtain ⟨its, r, pl, _⟩ := I.list hx
    refine ⟨_, _, begins_list a its.toArray, pl.isList, fun it h' e => ⟨_, e, rfl, rfl⟩, fun N hN => Nat.ne_of_lt (Nat.lt_of_lt_of_le pl.lt hN), fun it b hb => ?_⟩
    have : b = a := by simpa [Side.fp] using hb
    rw [this]; exact pl.lt
  | t a =>
    have e : x = .ref a := e
    subst e; cases r
    obtain ⟨its, r, pl, _⟩ := I.tuple hx
    refine ⟨_, _, begins_tuple a its.toArray, pl, fun it h' e => ⟨_, e, rfl, rfl⟩, fun N hN => Nat.ne_of_lt (Nat.lt_of_lt_of_le pl.lt hN), fun it b hb => ?_⟩
    have : b = a := by simpa [Side.fp] using hb
    rw [this]; exact pl.lt
  | s z =>
    have e : x = .str z := e
    subst e
    obtain ⟨t, rfl⟩ := r
    exact ⟨_, _, begins_text z t, trivial, fun it h' e => ⟨t, _, e, rfl, rfl⟩, fun N hN => trivial, fun it b hb => by simp [Side.fp] at hb⟩
theorem fp_split (sd : Side) (it : Addr) : sd.fp it = it :: (sd.fp it).tail := by cases sd <;> rfl
theorem fp_tail (sd : Side) (i j : Addr) : (sd.fp i).tail = (sd.fp j).tail := by cases sd <;> rfl
/-- two values that are sides -/
def zWish (K : PySem.W.Frag) (R : It → Hp → Prop) : List V → Hp → Prop
  | [x, y], H => ∃ a b, sideV K H x a ∧ sideV K H y b ∧ R (Itz2 K a b) H
  | _, _ => False
def iZip2 (K : PySem.W.Frag) (ta tb : TE) : TI := fun σ H R => tCons ta (tCons tb tNil) σ H (zWish K R)
theorem pi_zip2 {e e2 : Expr} {ta tb : TE} {p pos tpos : Pos} {elts : List Expr} {kk : Nat} (hg : Gl X "zip") (hm : X.mg "zip" = none) (ha : PE X e ta) (hb : PE X e2 tb)
    (hs : starEach [e, e2] X.env = (false, eval e X.env) :: starEach [e2] X.env := by rfl) (hs2 : starEach [e2] X.env = (false, eval e2 X.env) :: starEach [] X.env := by rfl) (hpl : (backTo pos (starEach [e2] X.env)).any (·.1) = false := by rfl) :
    PI X (.Tuple elts kk tpos) (.Call (.Name "zip" p) [e, e2] [] pos) (iZip2 X.K ta tb) := by
  constructor
  intro pins s σ H R I h
  have hA : PA X [e, e2] (tCons ta (tCons tb tNil)) := pa_cons ha (pa_cons hb pa_nil hs2) hs
  have h1 := hA.run pos pins s σ H (zWish X.K R) I h
  refine Call_ (ld_blt I hg hm PyProof.Rows.boot_zip (PyProof.Rows.callWith_type1 (thn h1 ?_) hs hpl))
  intro us s1 hap
  obtain ⟨vs, H1, I1, r1, q1⟩ := hap
  rcases vs with _ | ⟨x, _ | ⟨y, _ | ⟨w, vs⟩⟩⟩
  · exact False.elim q1
  · exact False.elim q1
  · obtain ⟨u, v, rfl, rx, ry⟩ := vals2 r1
    obtain ⟨a, b, ha, hb, q⟩ := q1
    obtain ⟨o1, C1, B1, c1, w1, m1, l1⟩ := side_begins I1 rx ha
    obtain ⟨o2, C2, B2, c2, w2, m2, l2⟩ := side_begins I1 ry hb
    refine zip_begins2 B1 B2 c1 c2 ?_
    intro h' hz hTI hTO g1 g2 hsz hk
    refine wpAny_pyIter_zip hz ?_
    have I2 : Inv X pins σ H1 { s1 with heap := h' } := I1.kept (t' := s1.toks) hk
    have S : ZipSep2 (s1.heap.objs.size + 4) (s1.heap.objs.size + 2) (s1.heap.objs.size + 3) s1.heap.objs.size (s1.heap.objs.size + 1) (a.fp s1.heap.objs.size) (b.fp (s1.heap.objs.size + 1)) := by
      rw [fp_split a, fp_split b]
      exact zip_sep2 (l1 _) (l2 _)
    have hfp : ∀ c ∈ [s1.heap.objs.size + 4, s1.heap.objs.size + 2, s1.heap.objs.size + 3, s1.heap.objs.size, s1.heap.objs.size + 1], FpOk X pins H1 c := by
      intro c hcm
      have hle : s1.heap.objs.size ≤ c := by
        simp only [List.mem_cons, List.not_mem_nil, or_false] at hcm
        rcases hcm with z | z | z | z | z
        · rw [z]; exact Nat.le_add_right _ _
        · rw [z]; exact Nat.le_add_right _ _
        · rw [z]; exact Nat.le_add_right _ _
        · rw [z]; exact Nat.le_refl _
        · rw [z]; exact Nat.le_add_right _ _
      exact I1.fpOk hle (I1.hok.fresh hle)
    exact ⟨s1.heap.objs.size + 4, [s1.heap.objs.size + 4, s1.heap.objs.size + 2, s1.heap.objs.size + 3, s1.heap.objs.size, s1.heap.objs.size + 1], _, _, H1, rfl, I2, turn_zip2 S (m1 _ (Nat.le_refl _)) (m2 _ (Nat.le_succ _)), ⟨hz, hTI, ⟨_, _, hTO⟩, w1 _ _ g1, w2 _ _ g2⟩, hfp, q⟩
  · exact False.elim q1
/-! ### zip at the D level -/
def zipT (xs ys : List D) : List D := (xs.zip ys).map fun p => .tup [p.1, p.2]
def itemsD : D → Option (List D)
  | .lst xs => some xs
  | .frl xs => some xs
  | .tup xs => some xs
  | .str x => some (chrs x)
  | _ => none
theorem chr_rep (x : Str) : RepAll K F (chrs x) (chrV x) := by
  unfold chrs chrV
  generalize x.cps.toList = l
  induction l with
  | nil => exact .nil
  | cons c l ih => exact .cons (.str _) ih
theorem items_side {x : D} {xs : List D} {v : V} (h : itemsD x = some xs) (r : Rep K F x v) : ∃ (sd : Side) (vs : List V), sideIs v sd ∧ sd.at K F vs ∧ RepAll K F xs vs ∧ ∀ H, Same F H → sd.at K H vs := by
  cases x with
  | lst ys =>
    cases h
    cases r with
    | lst h1 r1 => exact ⟨.l _, _, rfl, SqL.of h1, r1, fun H e => SqL.of (e _ _ h1)⟩
  | frl ys =>
    cases h
    cases r with
    | frl h1 r1 => exact ⟨.l _, _, rfl, h1, r1, fun H e => sqL_mono e h1⟩
  | tup ys =>
    cases h
    cases r with
    | tup h1 r1 => exact ⟨.t _, _, rfl, h1, r1, fun H e => sqT_mono e h1⟩
  | str z =>
    cases h
    cases r
    exact ⟨.s z, chrV z, rfl, rfl, chr_rep z, fun H e => rfl⟩
  | _ => cases h
theorem zipT_len (xs ys : List D) : (zipT xs ys).length = min xs.length ys.length := by simp [zipT]
theorem zipT_get {xs ys : List D} {i : Nat} {d : D} (h : (zipT xs ys)[i]? = some d) : ∃ x y, xs[i]? = some x ∧ ys[i]? = some y ∧ d = .tup [x, y] := by
  unfold zipT at h
  rw [List.getElem?_map] at h
  cases e : (xs.zip ys)[i]? with
  | none => rw [e] at h; cases h
  | some p =>
    rw [e] at h; cases h
    obtain ⟨h1, h2⟩ := List.getElem?_zip_eq_some.mp e
    exact ⟨p.1, p.2, h1, h2, rfl⟩
theorem walks_zip {a b : Side} {xs ys : List D} {vs us : List V} (ha : ∀ H, Same F H → a.at K H vs) (hb : ∀ H, Same F H → b.at K H us) (ra : RepAll K F xs vs) (rb : RepAll K F ys us) : Walks K (Itz2 K a b) (zipT xs ys) noC F := by
  refine ⟨fun i B F' M H hi z e0 _ => ?_, fun B F' M H z e0 _ => ?_, fun i H x H' d B F' M hd z e1 _ y => ?_⟩
  · rw [zipT_len, ra.length, rb.length] at hi
    exact ⟨vs, us, ha _ (e0.trans z.fr), hb _ (e0.trans z.fr), by omega, by omega⟩
  · exact ⟨vs, us, ha _ (e0.trans z.fr), hb _ (e0.trans z.fr), by rw [zipT_len, ra.length, rb.length]⟩
  · obtain ⟨T, x1, y1, rfl, hT, rfl, g1, g2⟩ := y
    obtain ⟨dx, dy, h1, h2, rfl⟩ := zipT_get hd
    obtain ⟨u1, k1, r1⟩ := ra.get h1
    obtain ⟨u2, k2, r2⟩ := rb.get h2
    have e2 := g1 _ (ha _ (e1.trans z.fr))
    have e3 := g2 _ (hb _ (e1.trans z.fr))
    have q1 : u1 = x1 := Option.some.inj (k1.symm.trans e2)
    have q2 : u2 = y1 := Option.some.inj (k2.symm.trans e3)
    subst q1 q2
    have sm := same_upd (o := .tup [u1, u2]) (z.fnone hT)
    exact .inr ⟨T, _, hT, rfl, .tup (SqT.of upd_same) (.cons ((r1.mono e1).mono sm) (.cons ((r2.mono e1).mono sm) .nil))⟩
def dZip (ta tb : DE) : DI := fun ex ds M k => dUse ta ex ds M fun x ds1 M1 => dUse tb ex ds1 M1 fun y ds2 M2 => match itemsD x, itemsD y with
  | some xs, some ys => k ⟨zipT xs ys, noC⟩ ds2 M2
  | _, _ => False
theorem pdi_zip {e e2 : Expr} {ta tb : DE} {p pos tpos : Pos} {elts : List Expr} {kk : Nat} (hg : Gl X "zip") (hm : X.mg "zip" = none) (ha : PD X e ta) (hb : PD X e2 tb)
    (hs : starEach [e, e2] X.env = (false, eval e X.env) :: starEach [e2] X.env := by rfl) (hs2 : starEach [e2] X.env = (false, eval e2 X.env) :: starEach [] X.env := by rfl) (hpl : (backTo pos (starEach [e2] X.env)).any (·.1) = false := by rfl) :
    PDI X (.Tuple elts kk tpos) (.Call (.Name "zip" p) [e, e2] [] pos) (dZip ta tb) := fun B ex lk =>
  pi_weaken (pi_zip2 hg hm (ha B ex lk) (hb B ex lk) hs hs2 hpl) fun σ H R q => by
    obtain ⟨F, M, ds, k, ok, q, g⟩ := q
    refine d_use ⟨F, M, ds, _, ok, q, fun x ds1 M1 F1 H1 v q1 ok1 s1 r1 => ?_⟩
    refine d_use ⟨F1, M1, ds1, _, ok1, q1, fun y ds2 M2 F2 H2 u q2 ok2 s2 r2 => ?_⟩
    cases ex : itemsD x with
    | none => simp only [ex] at q2
    | some xs =>
      cases ey : itemsD y with
      | none => simp only [ex, ey] at q2
      | some ys =>
        simp only [ex, ey] at q2
        obtain ⟨a, vs, ea, aa, ra, ka⟩ := items_side ex (r1.mono s2)
        obtain ⟨b, us, eb, ab, rb, kb⟩ := items_side ey r2
        exact ⟨a, b, ⟨ea, vs, ka _ ok2.z.fr⟩, ⟨eb, us, kb _ ok2.z.fr⟩, g _ _ _ _ _ _ q2 ok2 (s1.trans s2) (walks_zip ka kb ra rb)⟩
/-! ### enumerate of a list -/
def enumT (i : Int) : List D → List D
  | [] => []
  | x :: xs => .tup [.int i, x] :: enumT (i + 1) xs
theorem enumT_len : ∀ (xs : List D) (i : Int), (enumT i xs).length = xs.length
  | [], _ => rfl
  | x :: xs, i => by unfold enumT; rw [List.length_cons, List.length_cons, enumT_len xs]
theorem enumT_get : ∀ {xs : List D} {k : Int} {i : Nat} {d : D}, (enumT k xs)[i]? = some d → ∃ x, xs[i]? = some x ∧ d = .tup [.int (k + i), x]
  | [], _, _, _, h => by simp [enumT] at h
  | x :: xs, k, 0, d, h => by
    unfold enumT at h
    simp at h
    exact ⟨x, rfl, by rw [← h]; simp⟩
  | x :: xs, k, i + 1, d, h => by
    unfold enumT at h
    rw [List.getElem?_cons_succ] at h
    obtain ⟨y, h1, h2⟩ := enumT_get h
    exact ⟨y, by simpa using h1, by rw [h2]; congr 3; omega⟩
theorem walks_enum {a : Addr} {xs : List D} {vs : List V} (h : SqL K F a vs) (r : RepAll K F xs vs) : Walks K (Ite K a) (enumT 0 xs) noC F := by
  have w := walk_enum (K := K) (a := a) (xs := vs)
  refine ⟨fun i B F' M H hi z e0 _ => ?_, fun B F' M H z e0 _ => ?_, fun i H x H' d B F' M hd z e1 _ y => ?_⟩
  · rw [enumT_len, r.length] at hi
    exact w.goes i H hi (sqL_mono (e0.trans z.fr) h)
  · rw [enumT_len, r.length]
    exact w.stops H (sqL_mono (e0.trans z.fr) h)
  · obtain ⟨dx, h1, rfl⟩ := enumT_get hd
    obtain ⟨u, k1, r1⟩ := r.get h1
    have hi := (List.getElem?_eq_some_iff.mp k1).1
    obtain ⟨T, x1, y1, rfl, hT, rfl, g1, g2⟩ := w.yields i H x H' hi (sqL_mono (e1.trans z.fr) h) y
    have q1 : u = y1 := Option.some.inj (k1.symm.trans g2)
    have q2 : V.int (i : Int) = x1 := Option.some.inj g1
    subst q1 q2
    have sm := same_upd (o := .tup [.int (i : Int), u]) (z.fnone hT)
    exact .inr ⟨T, _, hT, rfl, .tup (SqT.of upd_same) (.cons (by rw [Int.zero_add]; exact .int _) (.cons ((r1.mono e1).mono sm) .nil))⟩
def dEnum (t : DE) : DI := fun ex ds M k => dUse t ex ds M fun x ds1 M1 => match x with
  | .lst xs => k ⟨enumT 0 xs, noC⟩ ds1 M1
  | _ => False
theorem pdi_enum {e : Expr} {t : DE} {p pos tpos : Pos} {elts : List Expr} {kk : Nat} (hg : Gl X "enumerate") (hm : X.mg "enumerate" = none) (ha : PD X e t) (hs : starEach [e] X.env = [(false, eval e X.env)] := by rfl) : PDI X (.Tuple elts kk tpos) (.Call (.Name "enumerate" p) [e] [] pos) (dEnum t) := fun B ex lk =>
  pi_weaken (pi_enum hg hm (pa_cons (ha B ex lk) pa_nil hs) hs) fun σ H R q => by
    obtain ⟨F, M, ds, k, ok, q, g⟩ := q
    refine d_use ⟨F, M, ds, _, ok, q, fun x ds1 M1 F1 H1 v q1 ok1 s1 r1 => ?_⟩
    cases x with
    | lst xs =>
      cases r1 with
      | lst h1 r1 => exact ⟨_, _, rfl, SqL.of (ok1.z.fr _ _ h1), g _ _ _ _ _ _ q1 ok1 s1 (walks_enum (SqL.of h1) r1)⟩
    | _ => exact False.elim q1
end
end MW
namespace MW
open PySem PySem.Spec PyProof.Rows L2
/-! ### dicts -/
def keyD : D → Option Key
  | .int i => some (.inl i)
  | .str x => some (.inr x)
  | _ => none
def valD (kvs : List (Key × D)) (k : Key) : Option D := (kvs.find? fun kv => decide (kv.1 = k)).map (·.2)
def putD (kvs : List (Key × D)) (k : Key) (v : D) : List (Key × D) :=
  if (kvs.any fun kv => decide (kv.1 = k)) = true then kvs.map (fun kv => if kv.1 = k then (kv.1, v) else kv) else kvs ++ [(k, v)]
def mergeD (kvs more : List (Key × D)) : List (Key × D) := more.foldl (fun acc kv => putD acc kv.1 kv.2) kvs
section
variable {X : Cx} {K : PySem.W.Frag} {B : Bs} {F F' H H' : Hp} {M M' : MS} {ds ds' : DS} {σ σ' : L2.St} {p : Addr} {o : HO} {ex : EX}
theorem keyD_rep {x : D} {v : V} {k : Key} (h : keyD x = some k) (r : RepTop K F H x v) : v = kV k := by
  cases x with
  | int i => cases h; cases r; rfl
  | str i => cases h; cases r; rfl
  | _ => cases h
theorem RepKV.val : ∀ {xs : List (Key × D)} {ws : List (Key × V)}, RepKV K F xs ws → ∀ k : Key, (valD xs k = none ∧ valV ws k = none) ∨ ∃ x v, valD xs k = some x ∧ valV ws k = some v ∧ Rep K F x v
  | _, _, .nil, k => .inl ⟨rfl, rfl⟩
  | _, _, .cons (k := k0) (x := x) (xs := xs) (v := v) (vs := vs) r t, k => by
    by_cases e : k0 = k
    · refine .inr ⟨x, v, ?_, ?_, r⟩
      · unfold valD; rw [List.find?_cons_of_pos (by simpa using e)]; rfl
      · unfold valV; rw [List.find?_cons_of_pos (by simpa using e)]; rfl
    · have e1 : valD ((k0, x) :: xs) k = valD xs k := by unfold valD; rw [List.find?_cons_of_neg (by simpa using e)]
      have e2 : valV ((k0, v) :: vs) k = valV vs k := by unfold valV; rw [List.find?_cons_of_neg (by simpa using e)]
      rw [e1, e2]
      exact RepKV.val t k
theorem RepKV.any (k : Key) : ∀ {xs : List (Key × D)} {ws : List (Key × V)}, RepKV K F xs ws → (xs.any fun kv => decide (kv.1 = k)) = ws.any fun kv => decide (kv.1 = k)
  | _, _, .nil => rfl
  | _, _, .cons r t => by
    rw [List.any_cons, List.any_cons, RepKV.any k t]
theorem RepKV.repl (k : Key) {x : D} {v : V} (q : Rep K F x v) : ∀ {xs : List (Key × D)} {ws : List (Key × V)}, RepKV K F xs ws → RepKV K F (xs.map fun kv => if kv.1 = k then (kv.1, x) else kv) (ws.map fun kv => if kv.1 = k then (kv.1, v) else kv)
  | _, _, .nil => .nil
  | _, _, .cons (k := k0) r t => by
    rw [List.map_cons, List.map_cons]
    by_cases e : k0 = k
    · rw [if_pos e, if_pos e]; exact .cons q (RepKV.repl k q t)
    · rw [if_neg e, if_neg e]; exact .cons r (RepKV.repl k q t)
theorem RepKV.snoc (k : Key) {x : D} {v : V} (q : Rep K F x v) : ∀ {xs : List (Key × D)} {ws : List (Key × V)}, RepKV K F xs ws → RepKV K F (xs ++ [(k, x)]) (ws ++ [(k, v)])
  | _, _, .nil => .cons q .nil
  | _, _, .cons r t => .cons r (RepKV.snoc k q t)
theorem RepKV.put (k : Key) {x : D} {v : V} (q : Rep K F x v) {xs : List (Key × D)} {ws : List (Key × V)} (r : RepKV K F xs ws) : RepKV K F (putD xs k x) (putK ws k v) := by
  unfold putD putK
  rw [r.any k]
  split
  · exact r.repl k q
  · exact r.snoc k q
theorem RepKV.merge : ∀ {more : List (Key × D)} {mw : List (Key × V)} {xs : List (Key × D)} {ws : List (Key × V)}, RepKV K F more mw → RepKV K F xs ws → RepKV K F (mergeD xs more) (mergeK ws mw)
  | _, _, _, _, .nil, r => r
  | (k, x) :: more, (_, v) :: mw, xs, ws, .cons q t, r => by
    have h : RepKV K F (mergeD (putD xs k x) more) (mergeK (putK ws k v) mw) := RepKV.merge t (r.put k q)
    exact h
/-- d[k] -/
def dDget (td ty : DE) : DE := fun ex ds M k => td ex ds M fun x ds1 M1 => ty ex ds1 M1 fun y ds2 M2 => match look ds2 M2 x, keyD (look ds2 M2 y) with
  | .dic kvs, some key => (match valD kvs key with | some z => k (.v z) ds2 M2 | none => False)
  | _, _ => False
theorem top_dic {kvs : List (Key × D)} {v : V} (t : RepTop K F H (.dic kvs) v) : ∃ a ws, v = .ref a ∧ H a = some (.dK ws) ∧ RepKV K F kvs ws := t
theorem pd_dget {o i : Expr} {td ty : DE} {pos : Pos} (hu : X.A.units + 1 < cLine) (ho : PD X o td) (hi : PD X i ty) (hs : NoSl i) : PD X (.Subscript o i pos) (dDget td ty) := fun B ex lk =>
  pe_weaken (pe_dget hu (ho B ex lk) (hi B ex lk) hs) fun σ H Q q => by
    obtain ⟨F, M, ds, k, ok, q, g⟩ := q
    refine ⟨F, M, ds, _, ok, q, fun x ds1 M1 F1 H1 v q1 ok1 s1 r1 => ?_⟩
    refine ⟨F1, M1, ds1, _, ok1, q1, fun y ds2 M2 F2 H2 u q2 ok2 s2 r2 => ?_⟩
    have tx := ok2.look (r1.mono s2)
    have ty := ok2.look r2
    generalize look ds2 M2 x = x' at *
    generalize look ds2 M2 y = y' at *
    cases x' with
    | dic kvs =>
      cases e : keyD y' with
      | none => simp only [e] at q2
      | some key =>
        simp only [e] at q2
        have ey := keyD_rep e ty
        obtain ⟨a, ws, rfl, h1, r3⟩ := top_dic tx
        rcases r3.val key with ⟨n1, _⟩ | ⟨z, w, n1, n2, r4⟩
        · simp only [n1] at q2
        · simp only [n1] at q2
          refine ⟨a, w, rfl, ?_, g _ _ _ _ _ _ q2 ok2 (s1.trans s2) r4⟩
          rw [ey, ← n2]
          exact DGet.k h1
    | _ => exact False.elim q2
/-- y in d, y not in d -/
def dDin (neg : Bool) (ty td : DE) : DE := fun ex ds M k => ty ex ds M fun y ds1 M1 => td ex ds1 M1 fun x ds2 M2 => match look ds2 M2 x, look ds2 M2 y with
  | .dic kvs, y => (match keyD y with
    | some key => k (.v (.bl (xor neg (valD kvs key).isSome))) ds2 M2
    | none => (match y with | .non => k (.v (.bl neg)) ds2 M2 | _ => False))
  | _, _ => False
theorem d_din {td ty : DE} {σ : L2.St} {H : Hp} {Q : VK} {neg : Bool} (q : cE K B ((dDin neg ty td) ex) σ H Q) : cE K B (ty ex) σ H fun y H1 => cE K B (td ex) σ H1 fun x H2 => ∃ a, x = .ref a ∧ ((∃ o, DGet H2 a y o ∧ Q (.bl (xor neg o.isSome)) H2) ∨ ∃ kvs, Rd H2 a (.dK kvs) ∧ y = .non ∧ Q (.bl neg) H2) := by
  obtain ⟨F, M, ds, k, ok, q, g⟩ := q
  refine ⟨F, M, ds, _, ok, q, fun y ds1 M1 F1 H1 u q1 ok1 s1 r1 => ?_⟩
  refine ⟨F1, M1, ds1, _, ok1, q1, fun x ds2 M2 F2 H2 v q2 ok2 s2 r2 => ?_⟩
  have ty := ok2.look (r1.mono s2)
  have tx := ok2.look r2
  generalize look ds2 M2 x = x' at *
  generalize look ds2 M2 y = y' at *
  cases x' with
  | dic kvs =>
    obtain ⟨a, ws, rfl, h1, r3⟩ := top_dic tx
    cases e : keyD y' with
    | none =>
      simp only [e] at q2
      cases y' with
      | non =>
        cases ty
        exact ⟨a, rfl, .inr ⟨ws, .inl h1, rfl, g _ _ _ _ _ _ q2 ok2 (s1.trans s2) (Rep.bl _)⟩⟩
      | _ => exact False.elim q2
    | some key =>
      simp only [e] at q2
      have ey := keyD_rep e ty
      refine ⟨a, rfl, .inl ⟨valV ws key, by rw [ey]; exact DGet.k h1, ?_⟩⟩
      have : (valV ws key).isSome = (valD kvs key).isSome := by
        rcases r3.val key with ⟨n1, n2⟩ | ⟨z, w, n1, n2, r4⟩
        · rw [n1, n2]; rfl
        · rw [n1, n2]; rfl
      rw [this]
      exact g _ _ _ _ _ _ q2 ok2 (s1.trans s2) (Rep.bl _)
  | _ => exact False.elim q2
theorem pd_din {o i : Expr} {td ty : DE} {pos : Pos} (hu : X.A.units + 1 < cLine) (hi : PD X i ty) (ho : PD X o td) (hm : behindInMarks .In o = false := by rfl) : PD X (.Compare i [.In] [o] pos) (dDin false ty td) := fun B ex lk =>
  pe_weaken (pe_cmp (pc_dinN hu (hi B ex lk) (ho B ex lk)) hm) fun σ H Q q => by
    have q' := d_din q
    obtain ⟨F, M, ds, k, ok, q, g⟩ := q'
    refine ⟨F, M, ds, k, ok, q, fun x ds1 M1 F1 H1 v q1 ok1 s1 r1 => ?_⟩
    obtain ⟨F2, M2, ds2, k2, ok2, q2, g2⟩ := g x ds1 M1 F1 H1 v q1 ok1 s1 r1
    refine ⟨F2, M2, ds2, k2, ok2, q2, fun x3 ds3 M3 F3 H3 v3 q3 ok3 s3 r3 => ?_⟩
    obtain ⟨a, e, h⟩ := g2 x3 ds3 M3 F3 H3 v3 q3 ok3 s3 r3
    rcases h with ⟨o, h1, h2⟩ | ⟨kvs, h1, h2, h3⟩
    · exact .inl ⟨a, o, e, h1, by rw [Bool.false_xor] at h2; exact h2⟩
    · exact .inr ⟨a, kvs, e, h2, h1, h3⟩
theorem pd_dnotin {o i : Expr} {td ty : DE} {pos : Pos} (hu : X.A.units + 1 < cLine) (hi : PD X i ty) (ho : PD X o td) (hm : behindInMarks .NotIn o = false := by rfl) : PD X (.Compare i [.NotIn] [o] pos) (dDin true ty td) := fun B ex lk =>
  pe_weaken (pe_cmp (pc_dnotinN hu (hi B ex lk) (ho B ex lk)) hm) fun σ H Q q => by
    have q' := d_din q
    obtain ⟨F, M, ds, k, ok, q, g⟩ := q'
    refine ⟨F, M, ds, k, ok, q, fun x ds1 M1 F1 H1 v q1 ok1 s1 r1 => ?_⟩
    obtain ⟨F2, M2, ds2, k2, ok2, q2, g2⟩ := g x ds1 M1 F1 H1 v q1 ok1 s1 r1
    refine ⟨F2, M2, ds2, k2, ok2, q2, fun x3 ds3 M3 F3 H3 v3 q3 ok3 s3 r3 => ?_⟩
    obtain ⟨a, e, h⟩ := g2 x3 ds3 M3 F3 H3 v3 q3 ok3 s3 r3
    rcases h with ⟨o, h1, h2⟩ | ⟨kvs, h1, h2, h3⟩
    · exact .inl ⟨a, o, e, h1, by rw [Bool.true_xor] at h2; exact h2⟩
    · exact .inr ⟨a, kvs, e, h2, h1, h3⟩
theorem pdt_din {o i : Expr} {td ty : DE} {pos : Pos} (hu : X.A.units + 1 < cLine) (hi : PD X i ty) (ho : PD X o td) (hm : behindInMarks .In o = false := by rfl) : PDT X (.Compare i [.In] [o] pos) (dTst (dDin false ty td)) := fun B ex lk =>
  pt_weaken (pt_cmp (pc_dinN hu (hi B ex lk) (ho B ex lk)) hm) fun σ H Q q => by
    have q' := d_din (d_tst q)
    obtain ⟨F, M, ds, k, ok, q, g⟩ := q'
    refine ⟨F, M, ds, k, ok, q, fun x ds1 M1 F1 H1 v q1 ok1 s1 r1 => ?_⟩
    obtain ⟨F2, M2, ds2, k2, ok2, q2, g2⟩ := g x ds1 M1 F1 H1 v q1 ok1 s1 r1
    refine ⟨F2, M2, ds2, k2, ok2, q2, fun x3 ds3 M3 F3 H3 v3 q3 ok3 s3 r3 => ?_⟩
    obtain ⟨a, e, h⟩ := g2 x3 ds3 M3 F3 H3 v3 q3 ok3 s3 r3
    rcases h with ⟨o, h1, h2⟩ | ⟨kvs, h1, h2, h3⟩
    · exact .inl ⟨a, o, e, h1, by rw [Bool.false_xor] at h2; exact h2⟩
    · exact .inr ⟨a, kvs, e, h2, h1, h3⟩
theorem pdt_dnotin {o i : Expr} {td ty : DE} {pos : Pos} (hu : X.A.units + 1 < cLine) (hi : PD X i ty) (ho : PD X o td) (hm : behindInMarks .NotIn o = false := by rfl) : PDT X (.Compare i [.NotIn] [o] pos) (dTst (dDin true ty td)) := fun B ex lk =>
  pt_weaken (pt_cmp (pc_dnotinN hu (hi B ex lk) (ho B ex lk)) hm) fun σ H Q q => by
    have q' := d_din (d_tst q)
    obtain ⟨F, M, ds, k, ok, q, g⟩ := q'
    refine ⟨F, M, ds, k, ok, q, fun x ds1 M1 F1 H1 v q1 ok1 s1 r1 => ?_⟩
    obtain ⟨F2, M2, ds2, k2, ok2, q2, g2⟩ := g x ds1 M1 F1 H1 v q1 ok1 s1 r1
    refine ⟨F2, M2, ds2, k2, ok2, q2, fun x3 ds3 M3 F3 H3 v3 q3 ok3 s3 r3 => ?_⟩
    obtain ⟨a, e, h⟩ := g2 x3 ds3 M3 F3 H3 v3 q3 ok3 s3 r3
    rcases h with ⟨o, h1, h2⟩ | ⟨kvs, h1, h2, h3⟩
    · exact .inl ⟨a, o, e, h1, by rw [Bool.true_xor] at h2; exact h2⟩
    · exact .inr ⟨a, kvs, e, h2, h1, h3⟩
/-- a dict of one's own, or a cell, changed -/
def onD (ds : DS) (M : MS) (t : T) (k : List (Key × D) → (List (Key × D) → DS) → (List (Key × D) → MS) → Prop) : Prop := match t with
  | .s i => match ds[i]? with
    | some (.ownD xs) => k xs (fun ys => ds.set i (.ownD ys)) (fun _ => M)
    | _ => False
  | .v (.ref a) => match M a with
    | some (.dic xs) => k xs (fun _ => ds) (fun ys => mset M a (.dic ys))
    | _ => False
  | _ => False
theorem Ok.onD (ok : Ok K B F M ds σ H) {t : T} {v : V} (r : RepT K F σ t v) {k : List (Key × D) → (List (Key × D) → DS) → (List (Key × D) → MS) → Prop} (h : MW.onD ds M t k) :
    ∃ p xs vs pd pm, v = .ref p ∧ H p = some (.dK vs) ∧ RepKV K F xs vs ∧ k xs pd pm ∧ (∀ ys us, RepKV K F ys us → Ok K B F (pm ys) (pd ys) σ (upd H p (.dK us))) := by
  cases t with
  | s i =>
    have rv : σ[i]? = some (some v) := r
    dsimp only [MW.onD] at h
    cases e : ds[i]? with
    | none => rw [e] at h; exact h.elim
    | some sv =>
      rw [e] at h
      cases sv with
      | ownD xs =>
        obtain ⟨p, vs, g, h1, h2, h3, h4⟩ := ok.ownD e
        rw [rv] at g; cases g
        exact ⟨p, xs, vs, _, _, rfl, h1, h2, h, fun ys us r' => ok.ownDSet e rv r'⟩
      | _ => exact h.elim
  | v x =>
    cases x with
    | ref a =>
      cases r
      dsimp only [MW.onD] at h
      cases e : M a with
      | none => rw [e] at h; exact h.elim
      | some m =>
        rw [e] at h
        cases m with
        | dic xs =>
          obtain ⟨vs, h1, h2⟩ := (ok.z.cell a _ e).2
          exact ⟨a, xs, vs, _, _, rfl, h1, h2, h, fun ys us r' => ok.write e ⟨us, upd_same, r'⟩⟩
        | _ => exact h.elim
    | _ => exact h.elim
/-- d[k] = v -/
def dDput (td ty tv : DE) : DST := fun E ds M => dUse tv E.ex ds M fun v ds1 M1 => td E.ex ds1 M1 fun x ds2 M2 => ty E.ex ds2 M2 fun y ds3 M3 => onD ds3 M3 x fun kvs pd pm => match keyD (look ds3 M3 y) with
  | some key => kvs.length < sizeLine ∧ E.nx (pd (putD kvs key v)) (pm (putD kvs key v))
  | none => False
theorem pds_dput {o i e : Expr} {td ty tv : DE} {pos pos' : Pos} (hu : X.A.units + 1 < cLine) (ho : PD X o td) (hi : PD X i ty) (hv : PD X e tv) (hs : swapsWith e (some (.Subscript o i pos')) pos.line X.env = pure false) :
    PDS X (.Assign [.Subscript o i pos'] e pos) (dDput td ty tv) := fun B ex lk =>
  ps_weaken (ps_dput hu (ho B ex lk) (hi B ex lk) (hv B ex lk) hs) fun D σ H q => by
    obtain ⟨F, M, ds, E, ok, eo, q⟩ := q
    have ee := eo.ex; subst ee
    refine d_use ⟨F, M, ds, _, ok, q, fun v ds1 M1 F1 H1 w q1 ok1 s1 r1 => ?_⟩
    refine ⟨F1, M1, ds1, _, ok1, q1, fun x ds2 M2 F2 H2 u q2 ok2 s2 r2 => ?_⟩
    refine ⟨F2, M2, ds2, _, ok2, q2, fun y ds3 M3 F3 H3 u3 q3 ok3 s3 r3 => ?_⟩
    obtain ⟨p, kvs, vs, pd, pm, rfl, h1, h2, q4, put⟩ := ok3.onD (r2.mono s3) q3
    have ty := ok3.look r3
    cases e : keyD (look ds3 M3 y) with
    | none => simp only [e] at q4
    | some key =>
      simp only [e] at q4
      have ey := keyD_rep e ty
      refine ⟨p, _, rfl, by rw [ey]; exact DPut.k h1 (by rw [← h2.length]; exact q4.1), ?_⟩
      exact eo.nx _ _ _ _ _ q4.2 (put _ _ (h2.put key ((r1.mono s2).mono s3))) ((s1.trans s2).trans s3)
/-- {} -/
def dDnew : DD := fun _ ds M k => k [] ds M
theorem pdd_new {pos : Pos} : PDD X (.Dict [] [] pos) dDnew := fun B ex lk => pe_weaken pe_dnewK fun σ H Q q => by
  obtain ⟨F, M, ds, k, ok, q, g⟩ := q
  intro p hp
  exact g _ _ _ _ _ _ _ q (ok.laid hp) (Same.refl F) (ok.z.loc hp) (ok.notOwn hp) upd_same .nil
/-! ### displays -/
abbrev DP := EX → DS → MS → (List (D × D) → DS → MS → Prop) → Prop
def dPNil : DP := fun _ ds M k => k [] ds M
def dPCons (tk tv : DE) (r : DP) : DP := fun ex ds M k => dUse tk ex ds M fun x ds1 M1 => dUse tv ex ds1 M1 fun y ds2 M2 => r ex ds2 M2 fun ps ds3 M3 => k ((x, y) :: ps) ds3 M3
inductive RepPs (K : PySem.W.Frag) (F : Hp) : List (D × D) → List (V × V) → Prop
  | nil : RepPs K F [] []
  | cons {x y : D} {v w : V} {ps : List (D × D)} {vs : List (V × V)} : Rep K F x v → Rep K F y w → RepPs K F ps vs → RepPs K F ((x, y) :: ps) ((v, w) :: vs)
theorem RepPs.mono (e : Same F F') : ∀ {ps : List (D × D)} {vs : List (V × V)}, RepPs K F ps vs → RepPs K F' ps vs
  | _, _, .nil => .nil
  | _, _, .cons r s t => .cons (r.mono e) (s.mono e) (RepPs.mono e t)
def cP (K : PySem.W.Frag) (B : Bs) (t : DS → MS → (List (D × D) → DS → MS → Prop) → Prop) (σ : L2.St) (H : Hp) (Q : List (V × V) → Hp → Prop) : Prop := ∃ F M ds k, Ok K B F M ds σ H ∧ t ds M k ∧
  ∀ xs ds' M' F' H' vs, k xs ds' M' → Ok K B F' M' ds' σ H' → Same F F' → RepPs K F' xs vs → Q vs H'
theorem lk_exF (lk : Lk X B ex) (B' : Bs) : Lk X B' exF :=
  ⟨lk.calm, lk.nd, lk.po, takes0.imp fun cls d σ H hw => by
    obtain ⟨e, F, M, ds, _, _, q⟩ := hw
    exact q⟩
def PDP (X : Cx) (pos : Pos) (keys : List (Option Expr)) (values : List Expr) (t : DP) : Prop := ∀ B ex, Lk X B ex → ∃ trs, PPs X pos keys values trs ∧ ∀ B' σ H Q, cP X.K B' (t exF) σ H Q → tPairs trs σ H Q
theorem pdp_nil {pos : Pos} : PDP X pos [] [] dPNil := fun B ex lk => ⟨[], pps_nil, fun B' σ H Q q => by
  obtain ⟨F, M, ds, k, ok, q, g⟩ := q
  exact g _ _ _ _ _ _ q ok (Same.refl F) .nil⟩
theorem pdp_cons {pos : Pos} {k v : Expr} {ks : List (Option Expr)} {vs : List Expr} {tk tv : DE} {t : DP} (hk : PD X k tk) (hv : PD X v tv) (hr : PDP X pos ks vs t) : PDP X pos (some k :: ks) (v :: vs) (dPCons tk tv t) := fun B ex lk => by
  obtain ⟨trs, h, w⟩ := hr B ex lk
  refine ⟨(fun σ H Q => ∃ B', cE X.K B' (tk exF) σ H Q, fun σ H Q => ∃ B', cE X.K B' (tv exF) σ H Q) :: trs, pps_cons ⟨fun pins s σ H Q I q => ?_⟩ ⟨fun pins s σ H Q I q => ?_⟩ h, fun B' σ H Q q => ?_⟩
  · obtain ⟨B', q⟩ := q
    exact (hk B' exF (lk_exF lk B')).run pins s σ H Q I q
  · obtain ⟨B', q⟩ := q
    exact (hv B' exF (lk_exF lk B')).run pins s σ H Q I q
  · obtain ⟨F, M, ds, k, ok, q, g⟩ := q
    refine ⟨B', d_use ⟨F, M, ds, _, ok, q, fun x ds1 M1 F1 H1 v1 q1 ok1 s1 r1 => ?_⟩⟩
    refine ⟨B', d_use ⟨F1, M1, ds1, _, ok1, q1, fun y ds2 M2 F2 H2 v2 q2 ok2 s2 r2 => ?_⟩⟩
    refine w B' σ H2 _ ⟨F2, M2, ds2, _, ok2, q2, fun ps ds3 M3 F3 H3 vs3 q3 ok3 s3 r3 => ?_⟩
    exact g _ _ _ _ _ _ q3 ok3 ((s1.trans s2).trans s3) (.cons ((r1.mono s2).mono s3) (r2.mono s3) r3)
def keysD : List (D × D) → Option (List (Key × D))
  | [] => some []
  | (x, y) :: r => match keyD x, keysD r with
    | some k, some t => some ((k, y) :: t)
    | _, _ => none
theorem keysD_rep (sm : Same F H) : ∀ {ps : List (D × D)} {kvs : List (Key × D)} {vs : List (V × V)}, keysD ps = some kvs → RepPs K F ps vs → ∃ ws : List (Key × V), vs = ws.map (fun kv => (kV kv.1, kv.2)) ∧ RepKV K F kvs ws ∧ ws.length = kvs.length
  | [], kvs, vs, h, r => by
    cases r; cases h
    exact ⟨[], rfl, .nil, rfl⟩
  | (x, y) :: ps, kvs, vs, h, r => by
    cases r with
    | cons rx ry rt =>
      unfold keysD at h
      cases e : keyD x with
      | none => simp only [e] at h; cases h
      | some k =>
        cases e2 : keysD ps with
        | none => simp only [e, e2] at h; cases h
        | some t =>
          simp only [e, e2] at h; cases h
          obtain ⟨ws, h1, h2, h3⟩ := keysD_rep sm e2 rt
          have ek := keyD_rep e (rx.top sm)
          subst h1 ek
          exact ⟨(k, _) :: ws, rfl, .cons ry h2, by simp [h3]⟩
def dDisp (t : DP) : DD := fun ex ds M k => t exF ds M fun ps ds1 M1 => match keysD ps with
  | some kvs => kvs.length ≤ 15 ∧ k (mergeD [] kvs) ds1 M1
  | none => False
theorem pdd_disp {pos : Pos} {keys : List (Option Expr)} {values : List Expr} {t : DP} (h : PDP X pos keys values t) (hall : keys.all (·.isSome) = true) (hl : keys.length = values.length) (h0 : keys ≠ []) (h15 : keys.length ≤ 15) : PDD X (.Dict keys values pos) (dDisp t) := fun B ex lk => by
  obtain ⟨trs, h, w⟩ := h B ex lk
  refine pe_weaken (pe_disp h hall hl h0 h15) fun σ H Q q => ?_
  obtain ⟨F, M, ds, k, ok, q, g⟩ := q
  intro p hp
  have ok0 := ok.laid (o := .dK []) hp
  have l0 := ok.z.loc hp
  have n0 := ok.notOwn hp
  refine w (Bs.at F (upd H p (.dK [])) M ds σ) _ _ _ ⟨F, M, ds, _, ok0.based, q, fun ps ds1 M1 F1 H1 vs q1 ok1 s1 r1 => ?_⟩
  obtain ⟨hp1, l1, n1⟩ := ok0.kept ok1 l0 n0 upd_same
  have ok1' := ok0.rebase ok1
  cases e : keysD ps with
  | none => simp only [e] at q1
  | some kvs =>
    simp only [e] at q1
    obtain ⟨ws, h1, h2, h3⟩ := keysD_rep ok1.z.fr e r1
    refine ⟨hp1, ws, h1, by rw [h3]; exact q1.1, ?_⟩
    exact g _ _ _ _ _ _ _ q1.2 (ok1'.heap l1 n1) s1 l1 n1 upd_same (RepKV.merge h2 .nil)
/-! ### dicts of the module -/
/-- a module dict, its keys texts -/
def GDict (K : PySem.W.Frag) (w : World) (mg : Str → Option Value) (x : Str) (tbl : List (Str × D)) : Prop :=
  ∃ a, mg x = some (.ref a) ∧ ∀ z d, tbl.lookup z = some d → ∃ v, KDct K w a z v ∧ ∀ F, Rep K F d v
def dKget (tbl : List (Str × D)) (ti : DE) : DE := fun ex ds M k => ti ex ds M fun y ds1 M1 => match look ds1 M1 y with
  | .str z => (match tbl.lookup z with | some d => k (.v d) ds1 M1 | none => False)
  | _ => False
theorem pd_kget {x : Str} {tbl : List (Str × D)} {i : Expr} {ti : DE} {pos pos' : Pos} (C : GDict X.K X.w X.mg x tbl) (hg : Gl X x) (hi : PD X i ti) (hs : PlainIx i) (hd : (x == ("__debug__" : Str)) = false := by decide) : PD X (.Subscript (.Name x pos') i pos) (dKget tbl ti) := fun B ex lk => by
  obtain ⟨a, h1, h2⟩ := C
  refine pe_weaken (pe_ix ix_kdict (pe_glob (v := .ref a) hg h1 rfl hd) (hi B ex lk) hs) fun σ H Q q => ?_
  obtain ⟨F, M, ds, k, ok, q, g⟩ := q
  refine ⟨F, M, ds, _, ok, q, fun y ds1 M1 F1 H1 u q1 ok1 s1 r1 => ?_⟩
  have ty := ok1.look r1
  generalize look ds1 M1 y = y' at *
  cases y' with
  | str z =>
    cases ty
    cases e : tbl.lookup z with
    | none => simp only [e] at q1
    | some d =>
      simp only [e] at q1
      obtain ⟨v, h3, h4⟩ := h2 z d e
      exact ⟨a, z, v, rfl, rfl, h3, g _ _ _ _ _ _ q1 ok1 s1 (h4 F1)⟩
  | _ => exact False.elim q1
/-- d.get(k), d.get(k, x) -/
def dDgetOr1 (td ty : DE) : DE := fun ex ds M k => td ex ds M fun x ds1 M1 => (∃ kvs, look ds1 M1 x = .dic kvs) ∧ ty ex ds1 M1 fun y ds2 M2 => match look ds2 M2 x, keyD (look ds2 M2 y) with
  | .dic kvs, some key => (match valD kvs key with | some z => k (.v z) ds2 M2 | none => k (.v .non) ds2 M2)
  | _, _ => False
theorem pd_dgetOr1 {o e : Expr} {apos cpos : Pos} {td ty : DE} (hu : X.A.units + 1 < cLine) (ho : PD X o td) (he : PD X e ty) (m : M1 X o "get" apos e cpos) : PD X (.Call (.Attribute o "get" apos) [e] [] cpos) (dDgetOr1 td ty) := fun B ex lk =>
  pe_weaken (pe_dget1 hu (ho B ex lk) (he B ex lk) m) fun σ H Q q => by
    obtain ⟨F, M, ds, k, ok, q, g⟩ := q
    refine ⟨F, M, ds, _, ok, q, fun x ds1 M1 F1 H1 v q1 ok1 s1 r1 => ?_⟩
    obtain ⟨⟨kvs, e1⟩, q1⟩ := q1
    have tx := ok1.look r1
    rw [e1] at tx
    obtain ⟨a, ws, rfl, h1, r3⟩ := top_dic tx
    refine ⟨a, rfl, .inl ⟨ws, .inl h1⟩, F1, M1, ds1, _, ok1, q1, fun y ds2 M2 F2 H2 u q2 ok2 s2 r2 => ?_⟩
    have tx := ok2.look (r1.mono s2)
    have ty := ok2.look r2
    generalize look ds2 M2 x = x' at *
    generalize look ds2 M2 y = y' at *
    cases x' with
    | dic kvs =>
      cases e : keyD y' with
      | none => simp only [e] at q2
      | some key =>
        simp only [e] at q2
        have ey := keyD_rep e ty
        obtain ⟨a2, ws, ea, h1, r3⟩ := top_dic tx
        cases ea
        rcases r3.val key with ⟨n1, n2⟩ | ⟨z, w, n1, n2, r4⟩
        · simp only [n1] at q2
          exact ⟨none, by rw [ey, ← n2]; exact DGet.k h1, g _ _ _ _ _ _ q2 ok2 (s1.trans s2) Rep.non⟩
        · simp only [n1] at q2
          exact ⟨some w, by rw [ey, ← n2]; exact DGet.k h1, g _ _ _ _ _ _ q2 ok2 (s1.trans s2) r4⟩
    | _ => exact False.elim q2
def dDgetOr2 (td ty tz : DE) : DE := fun ex ds M k => td ex ds M fun x ds1 M1 => (∃ kvs, look ds1 M1 x = .dic kvs) ∧ ty ex ds1 M1 fun y ds2 M2 => tz ex ds2 M2 fun z ds3 M3 => match look ds3 M3 x, keyD (look ds3 M3 y) with
  | .dic kvs, some key => (match valD kvs key with | some w => k (.v w) ds3 M3 | none => k z ds3 M3)
  | _, _ => False
theorem pd_dgetOr2 {o e f : Expr} {apos cpos : Pos} {td ty tz : DE} (hu : X.A.units + 1 < cLine) (ho : PD X o td) (he : PD X e ty) (hf : PD X f tz) (m : M2 X o "get" apos e f cpos) : PD X (.Call (.Attribute o "get" apos) [e, f] [] cpos) (dDgetOr2 td ty tz) := fun B ex lk =>
  pe_weaken (pe_dget2 hu (ho B ex lk) (he B ex lk) (hf B ex lk) m) fun σ H Q q => by
    obtain ⟨F, M, ds, k, ok, q, g⟩ := q
    refine ⟨F, M, ds, _, ok, q, fun x ds1 M1 F1 H1 v q1 ok1 s1 r1 => ?_⟩
    obtain ⟨⟨kvs, e1⟩, q1⟩ := q1
    have tx := ok1.look r1
    rw [e1] at tx
    obtain ⟨a, ws, rfl, h1, r3⟩ := top_dic tx
    refine ⟨a, rfl, .inl ⟨ws, .inl h1⟩, F1, M1, ds1, _, ok1, q1, fun y ds2 M2 F2 H2 u q2 ok2 s2 r2 => ?_⟩
    refine ⟨F2, M2, ds2, _, ok2, q2, fun z ds4 M4 F4 H4 u4 q4 ok4 s4 r4 => ?_⟩
    have tx := ok4.look ((r1.mono s2).mono s4)
    have ty := ok4.look (r2.mono s4)
    generalize look ds4 M4 x = x' at *
    generalize look ds4 M4 y = y' at *
    cases x' with
    | dic kvs =>
      cases e : keyD y' with
      | none => simp only [e] at q4
      | some key =>
        simp only [e] at q4
        have ey := keyD_rep e ty
        obtain ⟨a2, ws, ea, h1, r3⟩ := top_dic tx
        cases ea
        rcases r3.val key with ⟨n1, n2⟩ | ⟨z, w, n1, n2, r5⟩
        · simp only [n1] at q4
          exact ⟨none, by rw [ey, ← n2]; exact DGet.k h1, g _ _ _ _ _ _ q4 ok4 ((s1.trans s2).trans s4) r4⟩
        · simp only [n1] at q4
          exact ⟨some w, by rw [ey, ← n2]; exact DGet.k h1, g _ _ _ _ _ _ q4 ok4 ((s1.trans s2).trans s4) r5⟩
    | _ => exact False.elim q4
end
end MW
namespace MW
open PySem PySem.Spec PyProof.Rows L2
section
variable {prog : Program} {w : World} {A : Around} {E : Value → Shared → Prop} {s : Shared} {z TI TO i1 i2 T : Addr} {fp1 fp2 : List Addr} {n1 n2 i : Nat} {P1 P2 : Nat → Value → Prop} {St1 St2 : Nat → Heap → Prop} {f : Bool} {oT : Obj}
/-- zip, the tuple told before still there: the next pair -/
theorem zipH_item {Q : Value → Shared → Prop} (S : ZipSep2 z TI TO i1 i2 fp1 fp2) (D1 : Draws prog w A i1 fp1 n1 P1 St1) (D2 : Draws prog w A i2 fp2 n2 P2 St2)
    (hz : IsZipHeld s.heap z TI TO T f) (hT : s.heap.get? T = some oT) (hTI : IsTupOf2 s.heap TI (.ref i1) (.ref i2)) (st1 : St1 i s.heap) (st2 : St2 i s.heap) (hlt1 : i < n1) (hlt2 : i < n2)
    (hQ : ∀ x1 x2 h' tk, P1 i x1 → P2 i x2 → IsZipHeld h' z TI TO T true → St1 (i + 1) h' → St2 (i + 1) h' → IsTupOf2 h' s.heap.objs.size x1 x2 → h'.objs.size = s.heap.objs.size + 1 →
      (∀ c o, c ≠ z → c ≠ i1 → c ≠ i2 → s.heap.get? c = some o → h'.get? c = some o) → Q (.ref s.heap.objs.size) { s with heap := h', toks := tk }) :
    wpAny (model prog w) A (Builtin.«zip.__next__» ⟨[.ref z], []⟩) (fun fin s' => ∃ v, fin = .done (.ret v) ∧ Q v s') E s := by
  obtain ⟨hp, g, d, tk0, os⟩ := s
  show wpAny _ _ (field (.ref z) 2 >>= _) _ _ _
  refine wpAny_bind (wpAny_field hz rfl (x := .bool false) rfl ?_)
  show wpAny _ _ (field (.ref z) 3 >>= _) _ _ _
  refine wpAny_bind (wpAny_field hz rfl (x := .ref TI) rfl ?_)
  refine wpAny_bind (wpAny_seqItems hTI rfl ?_)
  show wpAny _ _ (Builtin.SmallTypes.ownedTupleIsFree (.ref z) >>= _) _ _ _
  refine wpAny_bind (wpAny_tupleHeld_zip hz hT fun h1 hz1 hs1 => ?_)
  replace hs1 : Heap.SameBut z hp h1 := hs1
  simp only [Bool.false_eq_true, if_false]
  refine wpAny_bind ?_
  rw [← Array.forIn_toList]
  simp only [List.forIn_cons, List.forIn_nil]
  refine wpAny_bind (wpAny_bind (wpAny_holding ?_))
  show wpAny _ _ (Builtin.SmallTypes.nextOf (.ref i1) >>= _) _ _ ⟨h1, g, d, tk0, os⟩
  refine wpAny_bind (D1.item i _ _ _ hlt1 (D1.over st1 hs1 S.zf1) fun x1 h2 tk1 hx1 sn1 hs2 => wpAny_pure ?_)
  replace hs2 : Heap.SameBut i1 h1 h2 := hs2
  refine wpAny_pure ?_
  refine wpAny_bind (wpAny_bind (wpAny_holding ?_))
  show wpAny _ _ (Builtin.SmallTypes.nextOf (.ref i2) >>= _) _ _ ⟨h2, g, d, tk1, os⟩
  refine wpAny_bind (D2.item i _ _ _ hlt2 (D2.over (D2.over st2 hs1 S.zf2) hs2 S.sep1_2) fun x2 h3 tk2 hx2 sn2 hs3 => wpAny_pure ?_)
  replace hs3 : Heap.SameBut i2 h2 h3 := hs3
  refine wpAny_pure (wpAny_pure ?_)
  show wpAny _ _ (newTuple [x1, x2] >>= _) _ _ ⟨h3, g, d, tk2, os⟩
  refine wpAny_bind (wpAny_newTuple ?_)
  have hsz : h3.objs.size = hp.objs.size := by rw [hs3.1, hs2.1, hs1.1]
  have hz3 : IsZipHeld h3 z TI TO T true := hs3.extBut _ _ S.zi2 (hs2.extBut _ _ S.zi1 hz1)
  have hk : ∀ c o, c ≠ z → c ≠ i1 → c ≠ i2 → hp.get? c = some o → h3.get? c = some o := fun c o c1 c2 c3 e => hs3.extBut _ _ c3 (hs2.extBut _ _ c2 (hs1.extBut _ _ c1 e))
  have sn1' : St1 (i + 1) h3 := D1.over sn1 hs3 S.sep2_1
  refine wpAny_pure ⟨_, rfl, ?_⟩
  show Q (.ref h3.objs.size) ⟨h3.push { cls := .type "tuple", data := .seq #[x1, x2] }, g, d, tk2, os⟩
  have hp' : IsTupOf2 (h3.push { cls := .type "tuple", data := .seq #[x1, x2] }) h3.objs.size x1 x2 := Heap.get?_push_size _ rfl
  have hz4 : (h3.push { cls := .type "tuple", data := .seq #[x1, x2] }).objs.size = h3.objs.size + 1 := Heap.size_push ..
  rw [hsz] at hp' hz4 ⊢
  exact hQ x1 x2 _ tk2 hx1 hx2 (Heap.get?_push_of_some _ hz3) (D1.frame _ _ _ sn1' fun b _ o e => Heap.get?_push_of_some _ e) (D2.frame _ _ _ sn2 fun b _ o e => Heap.get?_push_of_some _ e) hp' hz4 fun c o c1 c2 c3 e => Heap.get?_push_of_some _ (hk c o c1 c2 c3 e)
theorem zipH_end {Q : Fin → Shared → Prop} (S : ZipSep2 z TI TO i1 i2 fp1 fp2) (D1 : Draws prog w A i1 fp1 n1 P1 St1) (D2 : Draws prog w A i2 fp2 n2 P2 St2)
    (hz : IsZipHeld s.heap z TI TO T f) (hT : s.heap.get? T = some oT) (hTI : IsTupOf2 s.heap TI (.ref i1) (.ref i2)) (st1 : St1 i s.heap) (st2 : St2 i s.heap) (hle1 : i ≤ n1) (hle2 : i ≤ n2) (hend : i = n1 ∨ i = n2)
    (hE : ∀ h' tk e, (∀ c o, c ≠ z → c ≠ i1 → c ≠ i2 → s.heap.get? c = some o → h'.get? c = some o) → (∃ o, h'.get? e = some o ∧ o.cls = .type "StopIteration") → E (.ref e) { s with heap := h', toks := tk }) :
    wpAny (model prog w) A (Builtin.«zip.__next__» ⟨[.ref z], []⟩) Q E s := by
  obtain ⟨hp, g, d, tk0, os⟩ := s
  show wpAny _ _ (field (.ref z) 2 >>= _) _ _ _
  refine wpAny_bind (wpAny_field hz rfl (x := .bool false) rfl ?_)
  show wpAny _ _ (field (.ref z) 3 >>= _) _ _ _
  refine wpAny_bind (wpAny_field hz rfl (x := .ref TI) rfl ?_)
  refine wpAny_bind (wpAny_seqItems hTI rfl ?_)
  show wpAny _ _ (Builtin.SmallTypes.ownedTupleIsFree (.ref z) >>= _) _ _ _
  refine wpAny_bind (wpAny_tupleHeld_zip hz hT fun h1 hz1 hs1 => ?_)
  replace hs1 : Heap.SameBut z hp h1 := hs1
  simp only [Bool.false_eq_true, if_false]
  refine wpAny_bind ?_
  rw [← Array.forIn_toList]
  simp only [List.forIn_cons, List.forIn_nil]
  refine wpAny_bind (wpAny_bind (wpAny_holding ?_))
  show wpAny _ _ (Builtin.SmallTypes.nextOf (.ref i1) >>= _) _ _ ⟨h1, g, d, tk0, os⟩
  by_cases hlt1 : i < n1
  · refine wpAny_bind (D1.item i _ _ _ hlt1 (D1.over st1 hs1 S.zf1) fun x1 h2 tk1 hx1 sn1 hs2 => wpAny_pure ?_)
    replace hs2 : Heap.SameBut i1 h1 h2 := hs2
    refine wpAny_pure ?_
    have hi2 : i = n2 := by omega
    refine wpAny_bind (wpAny_bind (wpAny_holding ?_))
    show wpAny _ _ (Builtin.SmallTypes.nextOf (.ref i2) >>= _) _ _ ⟨h2, g, d, tk1, os⟩
    refine wpAny_bind (D2.done ⟨h2, g, d, tk1, os⟩ _ _ (by rw [← hi2]; exact (D2.over (D2.over st2 hs1 S.zf2) hs2 S.sep1_2)) fun q e hq he => ?_)
    replace hq : Heap.ExtBut i2 h2 q := hq
    exact hE q tk1 e (fun c o c1 c2 c3 x => hq _ _ c3 (hs2.extBut _ _ c2 (hs1.extBut _ _ c1 x))) he
  · have hi1 : i = n1 := by omega
    refine wpAny_bind (D1.done ⟨h1, g, d, tk0, os⟩ _ _ (by rw [← hi1]; exact (D1.over st1 hs1 S.zf1)) fun q e hq he => ?_)
    replace hq : Heap.ExtBut i1 h1 q := hq
    exact hE q tk0 e (fun c o c1 c2 _ x => hq _ _ c2 (hs1.extBut _ _ c1 x)) he
theorem pyNext_zipH_item {Q : Option Value → Shared → Prop} (S : ZipSep2 z TI TO i1 i2 fp1 fp2) (D1 : Draws prog w A.in1 i1 fp1 n1 P1 St1) (D2 : Draws prog w A.in1 i2 fp2 n2 P2 St2)
    (hz : IsZipHeld s.heap z TI TO T f) (hT : s.heap.get? T = some oT) (hTI : IsTupOf2 s.heap TI (.ref i1) (.ref i2)) (st1 : St1 i s.heap) (st2 : St2 i s.heap) (hlt1 : i < n1) (hlt2 : i < n2)
    (hQ : ∀ x1 x2 h' tk, P1 i x1 → P2 i x2 → IsZipHeld h' z TI TO T true → St1 (i + 1) h' → St2 (i + 1) h' → IsTupOf2 h' s.heap.objs.size x1 x2 → h'.objs.size = s.heap.objs.size + 1 →
      (∀ c o, c ≠ z → c ≠ i1 → c ≠ i2 → s.heap.get? c = some o → h'.get? c = some o) → Q (some (.ref s.heap.objs.size)) { s with heap := h', toks := tk }) :
    wpAny (model prog w) A (pyNext (.ref z)) Q E s := by
  have hTy : s.TypeIs (.ref z) "zip" := ⟨_, hz, rfl⟩
  unfold pyNext
  exact wpAny_bind (wpAny_attempt (wpAny_callSpecial?_slot (name := Str.ofString "__next__") hTy F.slot_zip_next
    (wpAny_call_entry F.slot_zip_next hTy F.entry_zip_next
      (zipH_item S D1 D2 hz hT hTI st1 st2 hlt1 hlt2 fun x1 x2 h' tk a1 a2 a3 a4 a5 a6 a7 a8 => wpAny_pure (hQ x1 x2 h' tk a1 a2 a3 a4 a5 a6 a7 a8)) (F.args_zip_next_1 _))))
theorem pyNext_zipH_end {Q : Option Value → Shared → Prop} (S : ZipSep2 z TI TO i1 i2 fp1 fp2) (D1 : Draws prog w A.in1 i1 fp1 n1 P1 St1) (D2 : Draws prog w A.in1 i2 fp2 n2 P2 St2)
    (hz : IsZipHeld s.heap z TI TO T f) (hT : s.heap.get? T = some oT) (hTI : IsTupOf2 s.heap TI (.ref i1) (.ref i2)) (st1 : St1 i s.heap) (st2 : St2 i s.heap) (hle1 : i ≤ n1) (hle2 : i ≤ n2) (hend : i = n1 ∨ i = n2)
    (hQ : ∀ h' tk, (∀ c o, c ≠ z → c ≠ i1 → c ≠ i2 → s.heap.get? c = some o → h'.get? c = some o) → Q none { s with heap := h', toks := tk }) : wpAny (model prog w) A (pyNext (.ref z)) Q E s := by
  have hTy : s.TypeIs (.ref z) "zip" := ⟨_, hz, rfl⟩
  unfold pyNext
  refine wpAny_bind (wpAny_attempt (wpAny_callSpecial?_slot (name := Str.ofString "__next__") hTy F.slot_zip_next
    (wpAny_call_entry F.slot_zip_next hTy F.entry_zip_next (zipH_end S D1 D2 hz hT hTI st1 st2 hle1 hle2 hend fun h' tk e hk he => ?_) (F.args_zip_next_1 _))))
  obtain ⟨o, ho, hc⟩ := he
  refine wpAny_bind (wpAny_isInstance (T := "StopIteration") (b := true) ⟨o, ho, hc⟩ isSubtype_stop ?_)
  exact wpAny_pure (hQ _ _ hk)
/-- a zip that is being gathered into the list S -/
def ZSt (S z TI TO i1 i2 : Addr) (St1 St2 : Nat → Heap → Prop) (i : Nat) (h : Heap) : Prop :=
  IsTupOf2 h TI (.ref i1) (.ref i2) ∧ St1 i h ∧ St2 i h ∧ ((IsZip h z TI TO .none ∧ ∃ a b, IsTupOf2 h TO a b) ∨ ∃ T f oT, IsZipHeld h z TI TO T f ∧ h.get? T = some oT ∧ T ≠ S)
theorem ZSt.keep {S : Addr} {h h' : Heap} (Sp : ZipSep2 z TI TO i1 i2 fp1 fp2) (D1 : Draws prog w A.in1 i1 fp1 n1 P1 St1) (D2 : Draws prog w A.in1 i2 fp2 n2 P2 St2) (ne : S ≠ z ∧ S ≠ TI ∧ S ≠ TO ∧ S ∉ fp1 ∧ S ∉ fp2) (st : ZSt S z TI TO i1 i2 St1 St2 i h) (k : ∀ b o, b ≠ S → h.get? b = some o → h'.get? b = some o) : ZSt S z TI TO i1 i2 St1 St2 i h' := by
  obtain ⟨n1, n2, n3, n4, n5⟩ := ne
  obtain ⟨hTI, st1, st2, q⟩ := st
  refine ⟨k TI _ (Ne.symm n2) hTI, D1.frame _ _ _ st1 fun b hb o e => k b o (fun x => n4 (x ▸ hb)) e, D2.frame _ _ _ st2 fun b hb o e => k b o (fun x => n5 (x ▸ hb)) e, ?_⟩
  rcases q with ⟨hz, a, b, hTO⟩ | ⟨T, f, oT, hz, hT, hn⟩
  · exact .inl ⟨k z _ (Ne.symm n1) hz, a, b, k TO _ (Ne.symm n3) hTO⟩
  · exact .inr ⟨T, f, oT, k z _ (Ne.symm n1) hz, k T _ hn hT, hn⟩
theorem zl_item {S : Addr} {Q : Option Value → Shared → Prop} (Sp : ZipSep2 z TI TO i1 i2 fp1 fp2) (D1 : Draws prog w A.in1 i1 fp1 n1 P1 St1) (D2 : Draws prog w A.in1 i2 fp2 n2 P2 St2) (st : ZSt S z TI TO i1 i2 St1 St2 i s.heap) (hS : S < s.heap.objs.size) (hlt1 : i < n1) (hlt2 : i < n2)
    (hQ : ∀ x1 x2 h' tk, P1 i x1 → P2 i x2 → ZSt S z TI TO i1 i2 St1 St2 (i + 1) h' → IsTupOf2 h' s.heap.objs.size x1 x2 → h'.objs.size = s.heap.objs.size + 1 →
      (∀ c o, c ≠ z → c ≠ TO → c ≠ i1 → c ≠ i2 → s.heap.get? c = some o → h'.get? c = some o) → Q (some (.ref s.heap.objs.size)) { s with heap := h', toks := tk }) :
    wpAny (model prog w) A (pyNext (.ref z)) Q E s := by
  obtain ⟨hTI, st1, st2, q⟩ := st
  rcases q with ⟨hz, a, b, hTO⟩ | ⟨T, f, oT, hz, hT, hn⟩
  · refine wpAny_pyNext_zipD2_item Sp D1 D2 hz hTI hTO st1 st2 hlt1 hlt2 fun x1 x2 h' tk y1 y2 b1 b2 d1 d2 b5 b6 hk => ?_
    exact hQ x1 x2 h' tk y1 y2 ⟨hk _ _ Sp.TIz Sp.TITO Sp.TIi1 Sp.TIi2 hTI, d1, d2, .inr ⟨_, false, _, b1, b5, Nat.ne_of_gt hS⟩⟩ b5 b6 hk
  · refine pyNext_zipH_item Sp D1 D2 hz hT hTI st1 st2 hlt1 hlt2 fun x1 x2 h' tk y1 y2 b1 d1 d2 b5 b6 hk => ?_
    refine hQ x1 x2 h' tk y1 y2 ⟨hk _ _ Sp.TIz Sp.TIi1 Sp.TIi2 hTI, d1, d2, .inr ⟨T, true, ?_⟩⟩ b5 b6 fun c o c1 _ c2 c3 e => hk c o c1 c2 c3 e
    by_cases e1 : T = z
    · exact ⟨_, b1, by rw [e1]; exact b1, hn⟩
    · by_cases e2 : T = i1
      · obtain ⟨o, e⟩ := D1.live _ _ d1
        exact ⟨o, b1, by rw [e2]; exact e, hn⟩
      · by_cases e3 : T = i2
        · obtain ⟨o, e⟩ := D2.live _ _ d2
          exact ⟨o, b1, by rw [e3]; exact e, hn⟩
        · exact ⟨oT, b1, hk T oT e1 e2 e3 hT, hn⟩
theorem zl_end {S : Addr} {Q : Option Value → Shared → Prop} (Sp : ZipSep2 z TI TO i1 i2 fp1 fp2) (D1 : Draws prog w A.in1 i1 fp1 n1 P1 St1) (D2 : Draws prog w A.in1 i2 fp2 n2 P2 St2) (st : ZSt S z TI TO i1 i2 St1 St2 i s.heap) (hle1 : i ≤ n1) (hle2 : i ≤ n2) (hend : i = n1 ∨ i = n2)
    (hQ : ∀ h' tk, (∀ c o, c ≠ z → c ≠ TO → c ≠ i1 → c ≠ i2 → s.heap.get? c = some o → h'.get? c = some o) → Q none { s with heap := h', toks := tk }) : wpAny (model prog w) A (pyNext (.ref z)) Q E s := by
  obtain ⟨hTI, st1, st2, q⟩ := st
  rcases q with ⟨hz, a, b, hTO⟩ | ⟨T, f, oT, hz, hT, hn⟩
  · exact wpAny_pyNext_zipD2_end Sp D1 D2 hz hTI hTO st1 st2 hle1 hle2 hend hQ
  · exact pyNext_zipH_end Sp D1 D2 hz hT hTI st1 st2 hle1 hle2 hend fun h' tk hk => hQ h' tk fun c o c1 _ c2 c3 e => hk c o c1 c2 c3 e
/-- the gathered tuples -/
structure ZG (lo : Addr) (P1 P2 : Nat → Value → Prop) (h : Heap) (as : List Addr) : Prop where
  above : ∀ a ∈ as, lo ≤ a
  rise : as.Pairwise (· < ·)
  pairs : ∀ (j : Nat) (a : Addr), as[j]? = some a → ∃ x y, P1 j x ∧ P2 j y ∧ IsTupOf2 h a x y
theorem ZG.there {lo : Addr} {h : Heap} {as : List Addr} (g : ZG lo P1 P2 h as) {a : Addr} (ha : a ∈ as) : a < h.objs.size := by
  obtain ⟨j, hj⟩ := List.mem_iff_getElem?.mp ha
  obtain ⟨_, _, _, _, e⟩ := g.pairs j a hj
  exact Heap.lt_size e
theorem ZG.keep {lo : Addr} {h h' : Heap} {as : List Addr} (g : ZG lo P1 P2 h as) (k : ∀ b o, b ∈ as → h.get? b = some o → h'.get? b = some o) : ZG lo P1 P2 h' as :=
  ⟨g.above, g.rise, fun j a hj => by
    obtain ⟨x, y, h1, h2, h3⟩ := g.pairs j a hj
    exact ⟨x, y, h1, h2, k a _ (List.mem_of_getElem? hj) h3⟩⟩
theorem ne_bd {a b lo : Addr} (h1 : a < lo) (h2 : lo ≤ b) : b ≠ a := Nat.ne_of_gt (Nat.lt_of_lt_of_le h1 h2)
/-- the loop that gathers: it writes S, and the zip's own cells -/
theorem zl_loop {R : Result → Shared → Prop} {S lo : Addr} (res : Value) (Sp : ZipSep2 z TI TO i1 i2 fp1 fp2) (D1 : Draws prog w A.in1.in1 i1 fp1 n1 P1 St1) (D2 : Draws prog w A.in1.in1 i2 fp2 n2 P2 St2) (ne : S ≠ z ∧ S ≠ TI ∧ S ≠ TO ∧ S ∉ fp1 ∧ S ∉ fp2) (hlo : S < lo ∧ z < lo ∧ TO < lo ∧ i1 < lo ∧ i2 < lo) {hb : Heap} {N : Nat} (hN : N = min n1 n2) (hn : N ≤ sizeLine)
    (hR : ∀ h' tk acc c as, (∀ b o, b ≠ S → b ≠ z → b ≠ TO → b ≠ i1 → b ≠ i2 → hb.get? b = some o → h'.get? b = some o) → h'.get? S = some { cls := .type "list", dict := none, data := .seq acc c, slots := #[] } → as.length = N → ZG lo P1 P2 h' as →
      acc.toList = as.map Value.ref → R (.ok (.ret res)) { s with heap := h', toks := tk }) :
    ∀ (k i : Nat) (h : Heap) (tk c : Nat) (acc : Array Value) (as : List Addr), N - i = k → i ≤ N → ZSt S z TI TO i1 i2 St1 St2 i h → (∀ b o, b ≠ S → b ≠ z → b ≠ TO → b ≠ i1 → b ≠ i2 → hb.get? b = some o → h.get? b = some o) →
      h.get? S = some { cls := .type "list", dict := none, data := .seq acc c, slots := #[] } → acc.toList = as.map Value.ref → as.length = i → ZG lo P1 P2 h as → lo ≤ h.objs.size →
      codeAny (model prog w) A (.builtin "list.extend.loop" ⟨[.ref S, .ref z, res], []⟩) R { s with heap := h, toks := tk } := by
  obtain ⟨l1, l2, l3, l4, l5⟩ := hlo
  have m1 : S ≠ i1 := fun e => ne.2.2.2.1 (e ▸ Sp.mem1)
  have m2 : S ≠ i2 := fun e => ne.2.2.2.2 (e ▸ Sp.mem2)
  intro k
  induction k with
  | zero =>
    intro i h tk c acc as hk hi hst hkeep hS hacc hal hG hIs
    have hin : i = N := by omega
    refine codeAny_builtin PySem.F.entry_extend_loop ?_
    rw [Around.under_plainId PySem.F.plain_extend_loop _]
    show wpAny _ A.in1 (pyNext (.ref z) >>= _) _ _ _
    refine wpAny_bind (zl_end (s := { s with heap := h, toks := tk }) Sp D1 D2 hst (by omega) (by omega) (by omega) fun h' tk' he => ?_)
    dsimp only at he
    refine wpAny_pure (hR h' tk' acc c as (fun b o h1 h2 h3 h4 h5 e => he b o h2 h3 h4 h5 (hkeep b o h1 h2 h3 h4 h5 e)) (he S _ ne.1 ne.2.2.1 m1 m2 hS) (by omega) (hG.keep fun b o hb' e => ?_) hacc)
    have := hG.above b hb'
    exact he b o (ne_bd l2 this) (ne_bd l3 this) (ne_bd l4 this) (ne_bd l5 this) e
  | succ k ih =>
    intro i h tk c acc as hk hi hst hkeep hS hacc hal hG hIs
    have hsz : acc.size = i := by rw [← Array.length_toList, hacc, List.length_map, hal]
    have hSl : S < h.objs.size := Heap.lt_size hS
    refine codeAny_builtin PySem.F.entry_extend_loop ?_
    rw [Around.under_plainId PySem.F.plain_extend_loop _]
    show wpAny _ A.in1 (pyNext (.ref z) >>= _) _ _ _
    refine wpAny_bind (zl_item (s := { s with heap := h, toks := tk }) Sp D1 D2 hst hSl (by omega) (by omega) fun x1 x2 h' tk' p1 p2 st' ht hz hkp => ?_)
    dsimp only at ht hz hkp ⊢
    have hS' := hkp S _ ne.1 ne.2.2.1 m1 m2 hS
    have up : ∀ b o, b ≠ S → h'.get? b = some o → (h'.update S (Obj.mapSeq (·.push (Value.ref h.objs.size)))).get? b = some o := fun b o hb e => (Heap.get?_update_other _ _ (Ne.symm hb)).trans e
    have hsz2 : (h'.update S (Obj.mapSeq (·.push (Value.ref h.objs.size)))).objs.size = h.objs.size + 1 := by rw [Heap.size_update, hz]
    show wpAny _ A.in1 (updateSeq S (·.push (Value.ref h.objs.size)) >>= _) _ _ _
    refine wpAny_bind ?_
    refine wpAny_updateSeq hS' rfl (wpAny_pure ⟨plainId_quiet PySem.F.plain_extend_loop _, ih (i + 1) _ tk' _ (acc.push (Value.ref h.objs.size)) (as ++ [h.objs.size]) (by omega) (by omega) (ZSt.keep Sp D1 D2 ne st' up)
      (fun b o h1 h2 h3 h4 h5 e => up b o h1 (hkp b o h2 h3 h4 h5 (hkeep b o h1 h2 h3 h4 h5 e))) (Heap.get?_update_self _ hS' rfl) (by rw [Array.toList_push, hacc, List.map_append]; rfl) (by rw [List.length_append, hal]; rfl) ⟨?_, ?_, ?_⟩ (by rw [hsz2]; exact Nat.le_succ_of_le hIs)⟩) (by rw [hsz]; omega) (by show (acc.push (Value.ref h.objs.size)).size ≤ sizeLine + 1; rw [Array.size_push, hsz]; omega)
    · intro a ha
      rcases List.mem_append.mp ha with ha | ha
      · exact hG.above a ha
      · rw [List.mem_singleton.mp ha]; exact hIs
    · refine List.pairwise_append.mpr ⟨hG.rise, List.pairwise_singleton _ _, fun a ha b hb => ?_⟩
      rw [List.mem_singleton.mp hb]
      exact hG.there ha
    · intro j b hj
      rcases Nat.lt_trichotomy j as.length with h1 | h1 | h1
      · rw [List.getElem?_append_left h1] at hj
        obtain ⟨x, y, e1, e2, e3⟩ := hG.pairs j b hj
        have hb := hG.above b (List.mem_of_getElem? hj)
        exact ⟨x, y, e1, e2, up b _ (ne_bd l1 hb) (hkp b _ (ne_bd l2 hb) (ne_bd l3 hb) (ne_bd l4 hb) (ne_bd l5 hb) e3)⟩
      · subst h1
        have hb : h.objs.size = b := by simpa using hj
        subst hb
        subst hal
        exact ⟨x1, x2, p1, p2, up _ _ (Nat.ne_of_gt hSl) ht⟩
      · have hnone : (as ++ [h.objs.size])[j]? = none := List.getElem?_eq_none (by rw [List.length_append, List.length_singleton]; omega)
        rw [hnone] at hj; cases hj
end
theorem nolen_zip : typeLookup (.type "zip") "__len__" = pure none := by rw [typeLookup_type, builtinLookup_eq_fast]; kernel_rfl
theorem nohint_zip : typeLookup (.type "zip") "__length_hint__" = pure none := by rw [typeLookup_type, builtinLookup_eq_fast]; kernel_rfl
section
variable {prog : Program} {w : World} {A : Around} {E : Value → Shared → Prop} {s : Shared} {z TI TO i1 i2 : Addr} {fp1 fp2 : List Addr} {n1 n2 : Nat} {P1 P2 : Nat → Value → Prop} {St1 St2 : Nat → Heap → Prop}
/-- a new zip, gathered -/
theorem zl_collect {R : List Value → Shared → Prop} (Sp : ZipSep2 z TI TO i1 i2 fp1 fp2) (D1 : Draws prog w A.in1.in1 i1 fp1 n1 P1 St1) (D2 : Draws prog w A.in1.in1 i2 fp2 n2 P2 St2) (hz : IsZip s.heap z TI TO .none) (hTI : IsTupOf2 s.heap TI (.ref i1) (.ref i2)) (hTO : ∃ a b, IsTupOf2 s.heap TO a b) (st1 : St1 0 s.heap) (st2 : St2 0 s.heap)
    (hfp : ∀ b ∈ fp1 ++ fp2, b < s.heap.objs.size) (hn : min n1 n2 ≤ sizeLine)
    (h : ∀ (h' : Heap) (tk : Nat) (as : List Addr), (∀ b o, b ≠ z → b ≠ TO → b ≠ i1 → b ≠ i2 → s.heap.get? b = some o → h'.get? b = some o) → as.length = min n1 n2 → ZG s.heap.objs.size P1 P2 h' as → R (as.map Value.ref) { s with heap := h', toks := tk }) :
    wpAny (model prog w) A (collect (.ref z)) R E s := by
  have lz : z < s.heap.objs.size := Heap.lt_size hz
  have lTI : TI < s.heap.objs.size := Heap.lt_size hTI
  have lTO : TO < s.heap.objs.size := by obtain ⟨_, _, e⟩ := hTO; exact Heap.lt_size e
  have l1 : i1 < s.heap.objs.size := hfp _ (List.mem_append_left _ Sp.mem1)
  have l2 : i2 < s.heap.objs.size := hfp _ (List.mem_append_right _ Sp.mem2)
  have ne : s.heap.objs.size ≠ z ∧ s.heap.objs.size ≠ TI ∧ s.heap.objs.size ≠ TO ∧ s.heap.objs.size ∉ fp1 ∧ s.heap.objs.size ∉ fp2 :=
    ⟨Nat.ne_of_gt lz, Nat.ne_of_gt lTI, Nat.ne_of_gt lTO, fun m => Nat.lt_irrefl _ (hfp _ (List.mem_append_left _ m)), fun m => Nat.lt_irrefl _ (hfp _ (List.mem_append_right _ m))⟩
  have hty : ∀ h' : Heap, h'.get? z = some { cls := .type "zip", dict := none, data := .fields #[.none, .bool false, .bool false, .ref TI, .ref TO], slots := #[] } → ({ s with heap := h' } : Shared).TypeIs (.ref z) "zip" := fun h' e => ⟨_, e, rfl⟩
  unfold collect
  refine wpAny_bind (wpAny_runValue (codeAny_builtin F.entry_proto_collect ?_))
  rw [Around.under_plainId F.plain_proto_collect _]
  show wpAny _ A.in1 (newList [] >>= fun l => again (.builtin "list.__iadd__" ⟨[l, .ref z], []⟩)) _ _ s
  refine wpAny_bind (wpAny_newObj_type ?_)
  refine wpAny_pure ⟨plainId_quiet F.plain_list_iadd _, codeAny_builtin F.entry_list_iadd ?_⟩
  rw [Around.under_plainId F.plain_list_iadd _]
  have hz1 : IsZip (s.heap.push { cls := .type "list", data := .seq ([] : List Value).toArray }) z TI TO .none := Heap.get?_push_of_some _ hz
  show wpAny _ A.in1 (Builtin.List.listExtendWith (.ref s.heap.objs.size) (.ref z) (.ref s.heap.objs.size)) _ _ _
  unfold Builtin.List.listExtendWith
  refine wpAny_bind (wpAny_typeOf (hty _ hz1) ?_)
  have h1 : Builtin.List.listSameRef (.ref s.heap.objs.size) (.ref z) = false := by simp [Builtin.List.listSameRef, ne.1]
  have h2 : (Value.type "zip" == Value.type "list") = false := by decide
  have h3 : (Value.type "zip" == Value.type "tuple") = false := by decide
  simp only [h1, h2, h3, Bool.or_false, Bool.false_eq_true, if_false]
  refine wpAny_bind (wpAny_pyIter_zip hz1 ?_)
  refine wpAny_bind (wpAny_holding ?_)
  unfold Builtin.List.listLengthHint
  refine wpAny_bind (wpAny_specialOf (hty _ hz1) nolen_zip ?_)
  show wpAny _ A.in1 (specialOf (Value.ref z) (Str.ofString "__length_hint__") >>= _) _ _ _
  refine wpAny_bind (wpAny_specialOf (hty _ hz1) nohint_zip ?_)
  refine wpAny_pure ?_
  show wpAny _ A.in1 (rule "list.extend.makes-room" >>= fun _ => Builtin.List.listTouch (.ref s.heap.objs.size) >>= fun _ =>
    again (.builtin "list.extend.loop" ⟨[.ref s.heap.objs.size, .ref z, .ref s.heap.objs.size], []⟩)) _ _ _
  refine wpAny_bind (wpAny_rule ?_)
  have hS₁ : (s.heap.push { cls := .type "list", data := .seq ([] : List Value).toArray }).get? s.heap.objs.size = some { cls := .type "list", data := .seq ([] : List Value).toArray } := Heap.get?_push_size _ rfl
  refine wpAny_bind ?_
  show wpAny _ A.in1 (updateSeq s.heap.objs.size (·.push .none) >>= fun _ => updateSeq s.heap.objs.size (·.pop)) _ _ _
  refine wpAny_bind (wpAny_updateSeq hS₁ rfl ?_)
  have hS₂ := Heap.get?_update_self (Obj.mapSeq (·.push Value.none)) hS₁ rfl
  refine wpAny_updateSeq hS₂ rfl ?_
  have hS₃ := Heap.get?_update_self (Obj.mapSeq (·.pop)) hS₂ rfl
  have oth : ∀ b o, b ≠ s.heap.objs.size → (s.heap.push { cls := .type "list", data := .seq ([] : List Value).toArray }).get? b = some o →
      (((s.heap.push { cls := .type "list", data := .seq ([] : List Value).toArray }).update s.heap.objs.size (Obj.mapSeq (·.push Value.none))).update s.heap.objs.size (Obj.mapSeq (·.pop))).get? b = some o :=
    fun b o hb e => (Heap.get?_update_other _ _ (Ne.symm hb)).trans ((Heap.get?_update_other _ _ (Ne.symm hb)).trans e)
  have all : ∀ b o, s.heap.get? b = some o → (((s.heap.push { cls := .type "list", data := .seq ([] : List Value).toArray }).update s.heap.objs.size (Obj.mapSeq (·.push Value.none))).update s.heap.objs.size (Obj.mapSeq (·.pop))).get? b = some o :=
    fun b o e => oth b o (Nat.ne_of_lt (Heap.lt_size e)) (Heap.get?_push_of_some _ e)
  have hst : ZSt s.heap.objs.size z TI TO i1 i2 St1 St2 0 (((s.heap.push { cls := .type "list", data := .seq ([] : List Value).toArray }).update s.heap.objs.size (Obj.mapSeq (·.push Value.none))).update s.heap.objs.size (Obj.mapSeq (·.pop))) := by
    obtain ⟨a, b, hTO⟩ := hTO
    exact ⟨all _ _ hTI, D1.frame _ _ _ st1 fun b _ o e => all b o e, D2.frame _ _ _ st2 fun b _ o e => all b o e, .inl ⟨all _ _ hz, a, b, all _ _ hTO⟩⟩
  refine wpAny_pure ⟨plainId_quiet F.plain_extend_loop _, zl_loop (lo := s.heap.objs.size + 1) (hb := s.heap) _ Sp D1 D2 ne ⟨Nat.lt_succ_self _, Nat.lt_succ_of_lt lz, Nat.lt_succ_of_lt lTO, Nat.lt_succ_of_lt l1, Nat.lt_succ_of_lt l2⟩ rfl hn (fun h' tk acc c as hk hS' hl hG hacc => ?_) (min n1 n2) 0 _ s.toks _ #[] [] (Nat.sub_zero _) (Nat.zero_le _) hst (fun b o _ _ _ _ _ e => all b o e) hS₃ rfl rfl ⟨(fun _ ha => nomatch ha), List.Pairwise.nil, fun j a hj => by simp at hj⟩ ?_⟩
  · show wpAny _ A (load s.heap.objs.size >>= _) _ _ { s with heap := h', toks := tk }
    refine wpAny_bind (wpAny_load hS' ?_)
    refine wpAny_pure ?_
    show R acc.toList _
    rw [hacc]
    exact h h' tk as (fun b o a1 a2 a3 a4 e => hk b o (Nat.ne_of_lt (Heap.lt_size e)) a1 a2 a3 a4 e) hl ⟨fun a ha => Nat.le_of_succ_le (hG.above a ha), hG.rise, hG.pairs⟩
  · rw [Heap.size_update, Heap.size_update, Heap.size_push]
    exact Nat.le_refl _
end
end MW
namespace MW
open PySem PySem.Spec PyProof.Rows L2
/-! ### sorting (int, text) pairs -/
def lexSB (p q : Int × Str) : Bool := if p.1 = q.1 then decide (p.2.cps.toList < q.2.cps.toList) else decide (p.1 < q.1)
theorem lexSB_iff {p q : Int × Str} : lexSB p q = true ↔ p.1 < q.1 ∨ (p.1 = q.1 ∧ p.2.cps.toList < q.2.cps.toList) := by
  unfold lexSB
  by_cases e : p.1 = q.1
  · rw [if_pos e, decide_eq_true_eq]
    constructor
    · exact fun h => .inr ⟨e, h⟩
    · rintro (h | h)
      · omega
      · exact h.2
  · rw [if_neg e, decide_eq_true_eq]
    constructor
    · exact fun h => .inl h
    · rintro (h | h)
      · exact h
      · exact absurd h.1 e
theorem lexSB_no {p q : Int × Str} : lexSB p q = false ↔ ¬ (p.1 < q.1 ∨ (p.1 = q.1 ∧ p.2.cps.toList < q.2.cps.toList)) := by
  rw [← lexSB_iff]
  cases lexSB p q <;> simp
theorem swo_lexS {α : Type} (k : α → Int × Str) : SrtO.Swo fun v u => lexSB (k v) (k u) := by
  refine ⟨fun x y h => ?_, fun x y z h1 h2 => ?_⟩
  · have a := lexSB_iff.mp h
    refine lexSB_no.mpr ?_
    rintro (b | ⟨b1, b2⟩)
    · omega
    · rcases a with a | ⟨a1, a2⟩
      · omega
      · exact List.lt_asymm a2 b2
  · have a := lexSB_no.mp h1
    have b := lexSB_no.mp h2
    refine lexSB_no.mpr ?_
    rintro (c | ⟨c1, c2⟩)
    · have h3 : ¬ (k z).1 < (k y).1 := fun q => b (.inl q)
      have h4 : ¬ (k y).1 < (k x).1 := fun q => a (.inl q)
      omega
    · have h3 : ¬ (k z).1 < (k y).1 := fun q => b (.inl q)
      have h4 : ¬ (k y).1 < (k x).1 := fun q => a (.inl q)
      have e1 : (k z).1 = (k y).1 := by omega
      have e2 : (k y).1 = (k x).1 := by omega
      have g1 : ¬ (k z).2.cps.toList < (k y).2.cps.toList := fun q => b (.inr ⟨e1, q⟩)
      have g2 : ¬ (k y).2.cps.toList < (k x).2.cps.toList := fun q => a (.inr ⟨e2, q⟩)
      exact (List.not_lt.mpr (List.le_trans (List.not_lt.mp g2) (List.not_lt.mp g1))) c2
def IsPS (h : Heap) (v : Value) (p : Int × Str) : Prop := ∃ a t u, v = .ref a ∧ IsTupOf2 h a (.int p.1 t) (.str p.2 u)
section
variable {prog : Program} {w : World} {A : Around} {E : Value → Shared → Prop} {s : Shared}
theorem pairS_cmp {vs : List Value} {k : Value → Int × Str} (hp : ∀ v ∈ vs, IsPS s.heap v (k v)) : SrtO.Cmp prog w A s (tuples' true) (fun p => p.1 ∈ vs) (SrtO.lt2 fun v u => lexSB (k v) (k u)) := by
  intro p q hm hm'
  have h1 := hp _ hm
  have h2 := hp _ hm'
  unfold IsPS at h1 h2
  show wpAny (model prog w) A (keyLt' (tuples' true) p.1 q.1) (fun r s' => s' = s ∧ r = lexSB (k p.1) (k q.1)) (fun _ _ => False) s
  unfold lexSB
  generalize (k p.1).1 = x at h1 ⊢
  generalize (k p.1).2 = y at h1 ⊢
  generalize (k q.1).1 = x' at h2 ⊢
  generalize (k q.1).2 = y' at h2 ⊢
  obtain ⟨a, t, u, e, ho⟩ := h1
  obtain ⟨a', t', u', e', ho'⟩ := h2
  rw [e, e']
  refine PySem.W.kat_lt ho rfl ho' rfl ?_
  show PySem.W.KatLex prog w A true (decide (2 < 2)) _ [(.int x t, .int x' t'), (.str y u, .str y' u')] 0 s
  refine PySem.W.kat_cons (SeqAt.EqAt.int_int x t x' t' prog w _ _ ?_)
  refine PySem.W.kat_go (fun e1 => ?_) (fun e1 => ?_)
  · have ex : x = x' := by simpa using e1
    refine PySem.W.kat_yes (PySem.W.kat_cons (SeqAt.EqAt.str_str y u y' u' prog w _ _ ?_))
    refine PySem.W.kat_go (fun e2 => ?_) (fun e2 => ?_)
    · have ey : y = y' := by simpa using e2
      have e3 : (if x = x' then decide (y.cps.toList < y'.cps.toList) else decide (x < x')) = false := by
        rw [if_pos ex, ey]
        exact decide_eq_false (List.lt_irrefl _)
      exact PySem.W.kat_yes (PySem.W.kat_nil ⟨rfl, e3.symm⟩)
    · have e3 : (if x = x' then decide (y.cps.toList < y'.cps.toList) else decide (x < x')) = decide (y.cps.toList < y'.cps.toList) := if_pos ex
      refine PySem.W.kat_no (PySem.W.kat_one _ _ (PyProof.Rows.lt_str ?_))
      exact (show s = s ∧ decide (y.cps.toList < y'.cps.toList) = (if x = x' then decide (y.cps.toList < y'.cps.toList) else decide (x < x')) from ⟨rfl, e3.symm⟩)
  · have ex : ¬ x = x' := by simpa using e1
    have e3 : (if x = x' then decide (y.cps.toList < y'.cps.toList) else decide (x < x')) = decide (x < x') := if_neg ex
    exact PySem.W.kat_no (oneLt_int ⟨rfl, e3.symm⟩)
theorem firstsS {h : Heap} : ∀ {vs : List Value}, (∀ v ∈ vs, ∃ p, IsPS h v p) → ∃ fs : List Value, PySem.W.KatTups h vs fs ∧ fs.length = vs.length ∧ ∀ f ∈ fs, ∃ x t, f = Value.int x t
  | [], _ => ⟨[], PySem.W.KatTups.nil, rfl, fun _ hm => by simp at hm⟩
  | v :: vs, hp => by
    obtain ⟨fs, h1, h2, h3⟩ := firstsS (vs := vs) fun v' hm => hp v' (List.mem_cons_of_mem _ hm)
    obtain ⟨p, a, t, u, e, ho⟩ := hp v (List.mem_cons_self ..)
    subst e
    refine ⟨.int p.1 t :: fs, PySem.W.KatTups.cons ho rfl rfl rfl h1, by rw [List.length_cons, List.length_cons, h2], fun f hm => ?_⟩
    rcases List.mem_cons.mp hm with rfl | hm
    · exact ⟨_, t, rfl⟩
    · exact h3 f hm
theorem pairsS_sortable {a : Addr} {vs : List Value} {k : Value → Int × Str} (h0 : 0 < vs.length) (hp : ∀ v ∈ vs, IsPS s.heap v (k v)) (ha : ∀ o, s.heap.get? a = some o → o.cls ≠ .type "tuple") : SrtO.SortableO prog w A s a vs fun v u => lexSB (k v) (k u) := by
  intro h' keep
  have hp' : ∀ v ∈ vs, IsPS h' v (k v) := fun v hm => by
    obtain ⟨b, t, u, e, ho⟩ := hp v hm
    exact ⟨b, t, u, e, keep b _ (fun z => by subst z; exact ha _ ho rfl) ho⟩
  obtain ⟨fs, h1, h2, h3⟩ := firstsS fun v hm => ⟨_, hp' v hm⟩
  refine ⟨tuples' true, fun Q E hq => ?_, pairS_cmp hp'⟩
  refine PySem.W.kat_kind (T := .type "int") h1 (by omega) (fun f hm => ?_) (by rfl) ?_
  · obtain ⟨x, t, rfl⟩ := h3 f hm
    exact PySem.W.Looks.now
  · have e : (Value.type "int" != Value.type "tuple") = true := by first | decide +kernel | rfl | decide
    rw [e]
    exact hq
/-- sorted(v), v gathered by the rule hc -/
theorem sortedC {v : Value} {ltv : List Value → Value → Value → Bool} {Q : Value → Shared → Prop} (O : ∀ vs, SrtO.Swo (ltv vs)) {G : Shared → List Value → Prop} (hc : ∀ (R : List Value → Shared → Prop), (∀ s1 vs, G s1 vs → R vs s1) → wpAny (model prog w) A.in1 (collect v) R E s)
    (hz : ∀ s1 vs, G s1 vs → vs.length ≤ sizeLine)
    (hS : ∀ s1 vs, G s1 vs → 2 ≤ vs.length → ∀ (h₁ : Heap) (a : Addr), h₁.get? a = some (seqObj "list" vs.toArray 0) → (∀ b o, s1.heap.get? b = some o → b ≠ a ∧ h₁.get? b = some o) → SrtO.SortableO prog w A.in1.in1 { s1 with heap := h₁ } a vs (ltv vs))
    (h : ∀ s1 vs, G s1 vs → ∀ (out : List Value) (h' : Heap) (d : Addr), SrtO.Srtd (ltv vs) out → SrtO.Stb (ltv vs) out vs → (∀ b o, s1.heap.get? b = some o → h'.get? b = some o) → s1.heap.objs.size ≤ d → (∃ n, h'.get? d = some (seqObj "list" out.toArray n)) → Q (.ref d) { s1 with heap := h' }) :
    wpAny (model prog w) A (call (.builtin "sorted") [v]) Q E s := by
  refine Calls.call_function_entry kind_sorted plain_sorted entry_sorted (args_sorted1 _) ?_
  unfold Builtin.«sorted»
  refine wpAny_bind (m := checkCount "sorted" 1 1 _) (wpAny_pure ?_)
  refine wpAny_bind (hc _ fun s1 vs g => ?_)
  refine wpAny_bind (wpAny_newList ?_ (hz s1 vs g))
  have hoL : (s1.heap.push (seqObj "list" vs.toArray 0)).get? s1.heap.objs.size = some (seqObj "list" vs.toArray 0) := Heap.get?_push_size _ rfl
  have keep : ∀ b o, s1.heap.get? b = some o → b ≠ s1.heap.objs.size ∧ (s1.heap.push (seqObj "list" vs.toArray 0)).get? b = some o := fun b o q => ⟨Nat.ne_of_lt (Heap.lt_size q), Heap.get?_push_of_some _ q⟩
  show wpAny _ _ _ _ _ { s1 with heap := s1.heap.push (seqObj "list" vs.toArray 0) }
  refine wpAny_bind (wpAny_holding (wpAny_call_entry slot_list_sort ⟨_, hoL, rfl⟩ entry_list_sort (SrtO.list_sort_ord (O vs) hoL (hz s1 vs g) (fun h2 => hS s1 vs g h2 _ _ hoL keep) fun out hs hb => ⟨_, rfl, ?_⟩) (args_list_sort _)))
  obtain ⟨n, hn⟩ := sortedHeap_at (out := out.toArray) hoL
  refine wpAny_pure ⟨_, rfl, h s1 vs g out _ _ hs hb (fun b o e => ?_) (Nat.le_refl _) ⟨n, hn⟩⟩
  have k := keep b o e
  rw [sortedHeap_old k.1 (Heap.lt_size k.2)]
  exact k.2
end
/-! ### many objects tracked at once -/
/-- tuples of two, laid -/
def layT : List (Addr × V × V) → Hp → Hp
  | [], H => H
  | (a, x, y) :: r, H => layT r (upd H a (.tup [x, y]))
theorem layT_ne {b : Addr} : ∀ {l : List (Addr × V × V)} {H : Hp}, b ∉ l.map (·.1) → layT l H b = H b
  | [], _, _ => rfl
  | (a, x, y) :: r, H, h => by
    have h1 : b ≠ a := fun e => h (by rw [e]; exact List.mem_cons_self)
    have h2 : b ∉ r.map (·.1) := fun e => h (List.mem_cons_of_mem _ e)
    show layT r (upd H a (.tup [x, y])) b = _
    rw [layT_ne h2, upd_ne h1]
theorem layT_at {b : Addr} {x y : V} : ∀ {l : List (Addr × V × V)} {H : Hp}, (l.map (·.1)).Nodup → (b, x, y) ∈ l → layT l H b = some (.tup [x, y])
  | [], _, _, h => by simp at h
  | (a, x', y') :: r, H, hn, h => by
    rw [List.map_cons, List.nodup_cons] at hn
    show layT r (upd H a (.tup [x', y'])) b = _
    rcases List.mem_cons.mp h with e | e
    · cases e
      rw [layT_ne hn.1, upd_same]
    · exact layT_at hn.2 e
section
variable {X : Cx} {K : PySem.W.Frag} {B : Bs} {F F' H H' : Hp} {M M' : MS} {ds ds' : DS} {σ σ' : L2.St} {p : Addr} {o : HO} {ex : EX} {pins : List (Addr × Obj)} {s : Shared}
theorem Inv.layT : ∀ {l : List (Addr × V × V)} {H : Hp}, Inv X pins σ H s → (l.map (·.1)).Nodup → (∀ q ∈ l, FpOk X pins H q.1) → (∀ q ∈ l, ∃ u v, RelV q.2.1 u ∧ RelV q.2.2 v ∧ IsTupOf2 s.heap q.1 u v) → Inv X pins σ (MW.layT l H) s
  | [], _, I, _, _, _ => I
  | (a, x, y) :: r, H, I, hn, hf, ht => by
    rw [List.map_cons, List.nodup_cons] at hn
    obtain ⟨u, v, r1, r2, e⟩ := ht _ (List.mem_cons_self ..)
    have I1 : Inv X pins σ (upd H a (.tup [x, y])) { s with heap := s.heap, toks := s.toks } := Inv.take (o := .tup [x, y]) I (fun _ _ _ e => e) (hf _ (List.mem_cons_self ..)) ⟨by show 2 ≤ sizeLine; decide, [u, v], .cons r1 (.cons r2 .nil), ⟨_, e, rfl, _, rfl⟩⟩
    refine Inv.layT (l := r) I1 hn.2 (fun q hq => ?_) fun q hq => ht q (List.mem_cons_of_mem _ hq)
    have ne : q.1 ≠ a := fun z => hn.1 (by rw [← z]; exact List.mem_map.mpr ⟨q, hq, rfl⟩)
    obtain ⟨g1, g2⟩ := hf q (List.mem_cons_of_mem _ hq)
    exact ⟨by rw [upd_ne ne]; exact g1, g2⟩

theorem side_drawsA {A : Around} {sd : Side} {it : Addr} {xs : List V} (I : Inv X pins σ H s) (hh : A.handled = none) (h : sd.at X.K H xs) (hn : sd.ne it) {i : Nat} (st0 : sd.st it i s.heap) :
    ∃ P St, Draws X.prog X.w A it (sd.fp it) xs.length P St ∧ St i s.heap ∧ ∀ i v, P i v → ∃ x, xs[i]? = some x ∧ RelV x v := by
  cases sd with
  | l a =>
    obtain ⟨its, r, pl, _⟩ := I.list h
    refine ⟨fun i v => its.toArray[i]? = some v, fun i h => h.IsListIter it a i ∧ h.IsList a its.toArray, ?_, ⟨st0, pl.isList⟩, fun i v z => ?_⟩
    · have := Draws.list (prog := X.prog) (w := X.w) hh it a hn its.toArray
      rw [List.size_toArray, ← r.length] at this
      exact this
    · have z' : its[i]? = some v := by simpa using z
      have hi := (List.getElem?_eq_some_iff.mp z').1
      rw [← r.length] at hi
      obtain ⟨u, h1, h2⟩ := r.get (List.getElem?_eq_getElem hi)
      rw [z'] at h1; cases h1
      exact ⟨_, List.getElem?_eq_getElem hi, h2⟩
  | t a =>
    obtain ⟨its, r, pl, _⟩ := I.tuple h
    refine ⟨fun i v => its.toArray[i]? = some v, fun i h => h.IsTupleIter it a i ∧ h.IsTuple a its.toArray, ?_, ⟨st0, pl⟩, fun i v z => ?_⟩
    · have := Draws.tuple (prog := X.prog) (w := X.w) hh it a hn its.toArray
      rw [List.size_toArray, ← r.length] at this
      exact this
    · have z' : its[i]? = some v := by simpa using z
      have hi := (List.getElem?_eq_some_iff.mp z').1
      rw [← r.length] at hi
      obtain ⟨u, h1, h2⟩ := r.get (List.getElem?_eq_getElem hi)
      rw [z'] at h1; cases h1
      exact ⟨_, List.getElem?_eq_getElem hi, h2⟩
  | s x =>
    obtain ⟨t, st0⟩ := st0
    have e : xs = chrV x := h
    subst e
    refine ⟨fun i v => ∃ c u, x.cps[i]? = some c ∧ v = .str ⟨#[c]⟩ u, fun i h => h.IsStrIter it (strIterType x) x t i, ?_, st0, fun i v z => ?_⟩
    · have := Draws.text (prog := X.prog) (w := X.w) hh it x t
      have hl : (chrV x).length = x.cps.size := by simp [chrV]
      rw [hl]
      exact this
    · obtain ⟨c, u, h1, rfl⟩ := z
      refine ⟨.str ⟨#[c]⟩, ?_, ⟨u, rfl⟩⟩
      unfold chrV
      rw [List.getElem?_map, Array.getElem?_toList, h1]
      rfl
def tups (as : List Addr) (ps : List (V × V)) : List (Addr × V × V) := as.zip ps
theorem tups_fst {as : List Addr} {ps : List (V × V)} (h : as.length = ps.length) : (tups as ps).map (·.1) = as := by
  unfold tups
  rw [List.map_fst_zip (Nat.le_of_eq h)]
/-- the tuples of a zip, gathered: at the layer -/
theorem zip_gather {A : Around} {E : Value → Shared → Prop} {R : List Value → Shared → Prop} {z : Addr} {a b : Side} {xs ys : List V} (I : Inv X pins σ H s) (hh : A.in1.in1.handled = none) (ha : a.at X.K H xs) (hb : b.at X.K H ys) {i1 i2 TI TO : Addr}
    (hz : IsZip s.heap z TI TO .none) (hTI : IsTupOf2 s.heap TI (.ref i1) (.ref i2)) (hTO : ∃ a b, IsTupOf2 s.heap TO a b) (q1 : a.st i1 0 s.heap) (q2 : b.st i2 0 s.heap) (n1 : a.ne i1) (n2 : b.ne i2) (S : ZipSep2 z TI TO i1 i2 (a.fp i1) (b.fp i2))
    (hfp : ∀ c ∈ a.fp i1 ++ b.fp i2, c < s.heap.objs.size) (fp : ∀ c ∈ [z, TO, i1, i2], FpOk X pins H c) (hn : (xs.zip ys).length ≤ sizeLine)
    (h : ∀ (h' : Heap) (tk : Nat) (as : List Addr), as.length = (xs.zip ys).length → as.Nodup → (∀ c ∈ as, H c = none) → (∀ (j : Nat) (c : Addr), as[j]? = some c → ∃ x y u v, xs[j]? = some x ∧ ys[j]? = some y ∧ RelV x u ∧ RelV y v ∧ IsTupOf2 h' c u v) →
      Inv X pins σ (MW.layT (tups as (xs.zip ys)) H) { s with heap := h', toks := tk } → R (as.map Value.ref) { s with heap := h', toks := tk }) :
    wpAny (model X.prog X.w) A (collect (.ref z)) R E s := by
  obtain ⟨P1, S1, D1, st1, p1⟩ := side_drawsA (A := A.in1.in1) I hh ha n1 q1
  obtain ⟨P2, S2, D2, st2, p2⟩ := side_drawsA (A := A.in1.in1) I hh hb n2 q2
  have hl : (xs.zip ys).length = min xs.length ys.length := List.length_zip
  refine zl_collect S D1 D2 hz hTI hTO st1 st2 hfp (by rw [← hl]; exact hn) fun h' tk as hk hlen hG => ?_
  have nd : as.Nodup := hG.rise.imp fun h => Nat.ne_of_lt h
  have fr : ∀ c ∈ as, H c = none := fun c hc => I.hok.fresh (hG.above c hc)
  have I1 : Inv X pins σ H { s with heap := h', toks := tk } := I.turnedL (ch := [z, TO, i1, i2]) (fun b o hb e => hk b o (fun x => hb (by simp [x])) (fun x => hb (by simp [x])) (fun x => hb (by simp [x])) (fun x => hb (by simp [x])) e) fp
  have at_ : ∀ (j : Nat) (c : Addr), as[j]? = some c → ∃ x y u v, xs[j]? = some x ∧ ys[j]? = some y ∧ RelV x u ∧ RelV y v ∧ IsTupOf2 h' c u v := fun j c hj => by
    obtain ⟨u, v, g1, g2, g3⟩ := hG.pairs j c hj
    obtain ⟨x, e1, r1⟩ := p1 j u g1
    obtain ⟨y, e2, r2⟩ := p2 j v g2
    exact ⟨x, y, u, v, e1, e2, r1, r2, g3⟩
  refine h h' tk as (by rw [hlen, hl]) nd fr at_ (Inv.layT I1 (by rw [tups_fst (by rw [hlen, hl])]; exact nd) (fun q hq => ?_) fun q hq => ?_)
  · have : q.1 ∈ as := by
      have := List.mem_map_of_mem (f := (·.1)) hq
      rw [tups_fst (by rw [hlen, hl])] at this
      exact this
    exact I.fpOk (hG.above _ this) (fr _ this)
  · obtain ⟨j, hj⟩ := List.mem_iff_getElem?.mp hq
    obtain ⟨h1, h2⟩ := List.getElem?_zip_eq_some.mp hj
    obtain ⟨h3, h4⟩ := List.getElem?_zip_eq_some.mp h2
    obtain ⟨x, y, u, v, e1, e2, r1, r2, g3⟩ := at_ j q.1 h1
    rw [e1] at h3; rw [e2] at h4
    cases h3; cases h4
    exact ⟨u, v, r1, r2, g3⟩
def tSortZ (K : PySem.W.Frag) (ta tb : TE) : TE := fun σ H Q => tCons ta (tCons tb tNil) σ H fun vs H1 => ∃ x y a b xs ys, vs = [x, y] ∧ sideIs x a ∧ sideIs y b ∧ a.at K H1 xs ∧ b.at K H1 ys ∧ ∃ ps : List (Int × Str), xs.zip ys = ps.map (fun p => (V.int p.1, V.str p.2)) ∧ ps.length ≤ sizeLine ∧
  ∀ (as : List Addr) (qs : List (Addr × Int × Str)) (d : Addr), as.length = ps.length → as.Nodup → (∀ a ∈ as, H1 a = none) → qs.Perm (as.zip ps) → qs.Pairwise (fun q r => q.2.1 ≤ r.2.1) → (layT (tups as (xs.zip ys)) H1) d = none →
    Q (.ref d) (upd (layT (tups as (xs.zip ys)) H1) d (.lst (qs.map fun q => V.ref q.1)))
theorem lookup_zip {α β : Type} [BEq α] [LawfulBEq α] : ∀ {as : List α} {ps : List β} {j : Nat} {a : α} {p : β}, as.Nodup → as[j]? = some a → ps[j]? = some p → (as.zip ps).lookup a = some p
  | [], _, _, _, _, _, h, _ => by simp at h
  | _ :: _, [], _, _, _, _, _, h => by simp at h
  | a0 :: as, p0 :: ps, 0, a, p, _, h1, h2 => by
    simp at h1 h2; subst h1 h2
    simp [List.lookup]
  | a0 :: as, p0 :: ps, j + 1, a, p, hn, h1, h2 => by
    rw [List.nodup_cons] at hn
    have h1' : as[j]? = some a := by simpa using h1
    have ne : ¬ a = a0 := fun e => hn.1 (e ▸ List.mem_of_getElem? h1')
    rw [List.zip_cons_cons, List.lookup_cons]
    simp only [beq_eq_false_iff_ne.mpr ne]
    exact lookup_zip hn.2 h1' (by simpa using h2)
def adr : Value → Addr
  | .ref a => a
  | _ => 0
theorem pe_sortZ {e e2 : Expr} {ta tb : TE} {p p0 pos pos0 : Pos} (hc : X.calm = true) (hg0 : Gl X "sorted") (hm0 : X.mg "sorted" = none) (hg : Gl X "zip") (hm : X.mg "zip" = none) (ha : PE X e ta) (hb : PE X e2 tb)
    (hs : starEach [e, e2] X.env = (false, eval e X.env) :: starEach [e2] X.env := by rfl) (hs2 : starEach [e2] X.env = (false, eval e2 X.env) :: starEach [] X.env := by rfl) (hpl : (backTo pos (starEach [e2] X.env)).any (·.1) = false := by rfl)
    (na : starEach [.Call (.Name "zip" p) [e, e2] [] pos] X.env = (false, eval (.Call (.Name "zip" p) [e, e2] [] pos) X.env) :: starEach [] X.env := by rfl) (np : (backTo pos0 (starEach [] X.env)).any (·.1) = false := by rfl) :
    PE X (.Call (.Name "sorted" p0) [.Call (.Name "zip" p) [e, e2] [] pos] [] pos0) (tSortZ X.K ta tb) := by
  constructor
  intro pins s σ H Q I h
  refine wpAny_Call_Name_kw (ld_blt I hg0 hm0 PyProof.Rows.boot_sorted (PyProof.Rows.callWith_builtin1 (args_cons ?_ na) na np))
  have hA : PA X [e, e2] (tCons ta (tCons tb tNil)) := pa_cons ha (pa_cons hb pa_nil hs2) hs
  have h1 := hA.run pos pins s σ H _ I h
  refine Call_ (ld_blt I hg hm PyProof.Rows.boot_zip (PyProof.Rows.callWith_type1 (thn h1 ?_) hs hpl))
  intro us s1 hap
  obtain ⟨vs, H1, I1, r1, x, y, a, b, xs, ys, rfl, xa, yb, la, lb, ps, ez, hlen, q⟩ := hap
  obtain ⟨u, v, rfl, rx, ry⟩ := vals2 r1
  obtain ⟨o1, C1, B1, c1, w1, m1, l1⟩ := side_begins I1 rx ⟨xa, xs, la⟩
  obtain ⟨o2, C2, B2, c2, w2, m2, l2⟩ := side_begins I1 ry ⟨yb, ys, lb⟩
  refine zip_begins2 B1 B2 c1 c2 ?_
  intro h' hz hTI hTO g1 g2 hsz hk
  refine args_nil ?_
  have I2 : Inv X pins σ H1 { s1 with heap := h' } := I1.kept (t' := s1.toks) hk
  have S : ZipSep2 (s1.heap.objs.size + 4) (s1.heap.objs.size + 2) (s1.heap.objs.size + 3) s1.heap.objs.size (s1.heap.objs.size + 1) (a.fp s1.heap.objs.size) (b.fp (s1.heap.objs.size + 1)) := by
    rw [fp_split a, fp_split b]
    exact zip_sep2 (l1 _) (l2 _)
  have hfp : ∀ c ∈ [s1.heap.objs.size + 4, s1.heap.objs.size + 3, s1.heap.objs.size, s1.heap.objs.size + 1], FpOk X pins H1 c := by
    intro c hcm
    have hle : s1.heap.objs.size ≤ c := by
      simp only [List.mem_cons, List.not_mem_nil, or_false] at hcm
      rcases hcm with z | z | z | z
      · rw [z]; exact Nat.le_add_right _ _
      · rw [z]; exact Nat.le_add_right _ _
      · rw [z]; exact Nat.le_refl _
      · rw [z]; exact Nat.le_add_right _ _
    exact I1.fpOk hle (I1.hok.fresh hle)
  have hlt : ∀ c ∈ a.fp s1.heap.objs.size ++ b.fp (s1.heap.objs.size + 1), c < h'.objs.size := by
    intro c hcm
    rw [hsz]
    rcases List.mem_append.mp hcm with hcm | hcm
    · rw [fp_split a] at hcm
      rcases List.mem_cons.mp hcm with z | z
      · rw [z]; exact Nat.lt_add_of_pos_right (by decide)
      · exact Nat.lt_of_lt_of_le (l1 _ c z) (Nat.le_add_right _ _)
    · rw [fp_split b] at hcm
      rcases List.mem_cons.mp hcm with z | z
      · rw [z]; exact Nat.add_lt_add_left (by decide) _
      · exact Nat.lt_of_lt_of_le (l2 _ c z) (Nat.le_add_right _ _)
  have hps : (xs.zip ys).length = ps.length := by rw [ez, List.length_map]
  have key : ∀ (as : List Addr) (h2 : Heap), as.length = (xs.zip ys).length → as.Nodup → (∀ (j : Nat) (c : Addr), as[j]? = some c → ∃ x y u v, xs[j]? = some x ∧ ys[j]? = some y ∧ RelV x u ∧ RelV y v ∧ IsTupOf2 h2 c u v) →
      ∀ v ∈ as.map Value.ref, IsPS h2 v (((as.zip ps).lookup (adr v)).getD (0, ⟨#[]⟩)) := fun as h2 hl nd at_ v hv => by
    obtain ⟨c, hc, rfl⟩ := List.mem_map.mp hv
    obtain ⟨j, hj⟩ := List.mem_iff_getElem?.mp hc
    obtain ⟨x, y, u, v, e1, e2, r1, r2, g3⟩ := at_ j c hj
    have e3 : (xs.zip ys)[j]? = some (x, y) := List.getElem?_zip_eq_some.mpr ⟨e1, e2⟩
    rw [ez, List.getElem?_map] at e3
    cases e4 : ps[j]? with
    | none => rw [e4] at e3; cases e3
    | some pr =>
      rw [e4] at e3
      cases e3
      obtain ⟨t, rfl⟩ := r1
      obtain ⟨t2, rfl⟩ := r2
      refine ⟨c, t, t2, rfl, ?_⟩
      show IsTupOf2 h2 c (.int (((as.zip ps).lookup c).getD (0, ⟨#[]⟩)).1 t) (.str (((as.zip ps).lookup c).getD (0, ⟨#[]⟩)).2 t2)
      rw [lookup_zip nd hj e4]
      exact g3
  have kv : ∀ as : List Addr, (as.map Value.ref).map adr = as := fun as => by
    rw [List.map_map]
    have : (adr ∘ Value.ref) = id := rfl
    rw [this, List.map_id]
  refine sortedC (ltv := fun vs v u => lexSB ((((vs.map adr).zip ps).lookup (adr v)).getD (0, ⟨#[]⟩)) ((((vs.map adr).zip ps).lookup (adr u)).getD (0, ⟨#[]⟩))) (G := fun s2 vs => ∃ as, vs = as.map Value.ref ∧ as.length = (xs.zip ys).length ∧ as.Nodup ∧ (∀ c ∈ as, H1 c = none) ∧ (∀ (j : Nat) (c : Addr), as[j]? = some c → ∃ x y u v, xs[j]? = some x ∧ ys[j]? = some y ∧ RelV x u ∧ RelV y v ∧ IsTupOf2 s2.heap c u v) ∧
      Inv X pins σ (MW.layT (tups as (xs.zip ys)) H1) s2) (fun vs => swo_lexS _) (fun R hR => ?_) (fun s2 vs g => ?_) (fun s2 vs g h2 h₁ a' ha' kk => ?_) fun s2 vs g out h3 d hso hst kp hd hn => ?_
  · refine zip_gather (s := { s1 with heap := h' }) I2 (I1.ok.hd hc) la lb hz hTI ⟨_, _, hTO⟩ (w1 _ _ g1) (w2 _ _ g2) (m1 _ (Nat.le_refl _)) (m2 _ (Nat.le_succ _)) S hlt hfp (by rw [hps]; exact hlen) fun h2 tk as b1 b2 b3 b4 b5 => ?_
    exact hR _ _ ⟨as, rfl, b1, b2, b3, b4, b5⟩
  · obtain ⟨as, rfl, b1, _⟩ := g
    rw [List.length_map, b1, hps]
    exact hlen
  · obtain ⟨as, rfl, b1, b2, b3, b4, b5⟩ := g
    rw [kv]
    refine pairsS_sortable (k := fun v => ((as.zip ps).lookup (adr v)).getD (0, ⟨#[]⟩)) (s := { s2 with heap := h₁ }) (by omega) (key as h₁ b1 b2 fun j c hj => ?_) fun o e => ?_
    · obtain ⟨x, y, u, v, e1, e2, r1, r2, g3⟩ := b4 j c hj
      exact ⟨x, y, u, v, e1, e2, r1, r2, (kk _ _ g3).2⟩
    · have e' : some o = some (seqObj "list" (as.map Value.ref).toArray 0) := e.symm.trans ha'
      cases e'
      intro c
      simp [seqObj] at c
  · obtain ⟨as, rfl, b1, b2, b3, b4, b5⟩ := g
    rw [kv] at hso hst
    have hmem : ∀ v ∈ out, ∃ c p, v = Value.ref c ∧ (c, p) ∈ as.zip ps ∧ (as.zip ps).lookup c = some p := fun v hv => by
      obtain ⟨c, hc, rfl⟩ := List.mem_map.mp (hst.perm.mem_iff.mp hv)
      obtain ⟨j, hj⟩ := List.mem_iff_getElem?.mp hc
      have hj2 : j < ps.length := by
        have := (List.getElem?_eq_some_iff.mp hj).1
        omega
      have e4 : ps[j]? = some ps[j] := List.getElem?_eq_getElem hj2
      exact ⟨c, _, rfl, List.mem_of_getElem? (List.getElem?_zip_eq_some.mpr ⟨hj, e4⟩), lookup_zip b2 hj e4⟩
    have eref : out.map (fun v => Value.ref (adr v)) = out := by
      conv => rhs; rw [← List.map_id out]
      refine List.map_congr_left fun v hv => ?_
      obtain ⟨c, p, rfl, _⟩ := hmem v hv
      rfl
    have hzip : (as.map Value.ref).map (fun v => (adr v, ((as.zip ps).lookup (adr v)).getD (0, ⟨#[]⟩))) = as.zip ps := by
      rw [List.map_map]
      refine List.ext_getElem? fun j => ?_
      rw [List.getElem?_map]
      cases e : as[j]? with
      | none =>
        have : as.length ≤ j := List.getElem?_eq_none_iff.mp e
        rw [List.getElem?_eq_none (by rw [List.length_zip]; omega)]
        rfl
      | some c =>
        have hj2 : j < ps.length := by
          have := (List.getElem?_eq_some_iff.mp e).1
          omega
        have e4 : ps[j]? = some ps[j] := List.getElem?_eq_getElem hj2
        rw [show (as.zip ps)[j]? = some (c, ps[j]) from List.getElem?_zip_eq_some.mpr ⟨e, e4⟩]
        show some (c, ((as.zip ps).lookup c).getD (0, ⟨#[]⟩)) = _
        rw [lookup_zip b2 e e4]
        rfl
    have hd' : MW.layT (tups as (xs.zip ys)) H1 d = none := b5.hok.fresh hd
    obtain ⟨n, hn⟩ := hn
    refine ⟨.ref d, _, Inv.laid (t' := s2.toks) b5 kp hd (o := .lst ((out.map (fun v => (adr v, ((as.zip ps).lookup (adr v)).getD (0, ⟨#[]⟩)))).map fun q => V.ref q.1)) ⟨?_, out, n, ?_, hn⟩, rfl, q as (out.map fun v => (adr v, ((as.zip ps).lookup (adr v)).getD (0, ⟨#[]⟩))) d (b1.trans hps) b2 b3 ?_ ?_ hd'⟩
    · rw [List.length_map, List.length_map, hst.len, List.length_map, b1, hps]
      exact hlen
    · rw [List.map_map]
      have := vals_maps (fun v : Value => V.ref (adr v)) (fun v => Value.ref (adr v)) out (fun v hv => rfl)
      rw [eref] at this
      exact this
    · have hh := hst.perm.map (fun v => (adr v, ((as.zip ps).lookup (adr v)).getD (0, ⟨#[]⟩)))
      rw [hzip] at hh
      exact hh
    · refine List.pairwise_map.mpr (hso.imp fun {v u} hvu => ?_)
      have := lexSB_no.mp hvu
      show (((as.zip ps).lookup (adr v)).getD (0, ⟨#[]⟩)).1 ≤ (((as.zip ps).lookup (adr u)).getD (0, ⟨#[]⟩)).1
      have : ¬ (((as.zip ps).lookup (adr u)).getD (0, ⟨#[]⟩)).1 < (((as.zip ps).lookup (adr v)).getD (0, ⟨#[]⟩)).1 := fun q => this (.inl q)
      omega
/-! ### at the D level -/
theorem Ok.layT : ∀ {l : List (Addr × V × V)} {F H : Hp}, Ok K B F M ds σ H → (l.map (·.1)).Nodup → (∀ a ∈ l.map (·.1), H a = none) → Ok K B (MW.layT l F) M ds σ (MW.layT l H) ∧ Same F (MW.layT l F)
  | [], F, _, k, _, _ => ⟨k, Same.refl F⟩
  | (a, x, y) :: r, F, H, k, hn, hf => by
    rw [List.map_cons, List.nodup_cons] at hn
    have ha : H a = none := hf a (List.mem_cons_self ..)
    obtain ⟨k2, s2⟩ := Ok.layT (l := r) (k.new (o := .tup [x, y]) ha) hn.2 fun b hb => by
      have ne : b ≠ a := fun z => hn.1 (z ▸ hb)
      rw [upd_ne ne]
      exact hf b (List.mem_cons_of_mem _ hb)
    exact ⟨k2, (same_upd (k.z.fnone ha)).trans s2⟩
def zipS : List D → List D → Option (List (Int × Str))
  | .int i :: xs, .str x :: ys => (zipS xs ys).map ((i, x) :: ·)
  | [], _ => some []
  | _ :: _, [] => some []
  | _, _ => none
theorem zipS_rep : ∀ {xs ys : List D} {vs us : List V} {ps : List (Int × Str)}, zipS xs ys = some ps → RepAll K F xs vs → RepAll K F ys us → vs.zip us = ps.map (fun p => (V.int p.1, V.str p.2))
  | [], ys, vs, us, ps, h, r1, r2 => by
    cases r1
    have : ps = [] := by simpa [zipS, eq_comm] using h
    subst this
    rfl
  | x :: xs, [], vs, us, ps, h, r1, r2 => by
    cases r2
    have : ps = [] := by
      cases x <;> simpa [zipS, eq_comm] using h
    subst this
    rw [List.zip_nil_right]
    rfl
  | x :: xs, y :: ys, vs, us, ps, h, r1, r2 => by
    cases r1 with
    | cons rx r1 =>
      cases r2 with
      | cons ry r2 =>
        cases x <;> first | (simp [zipS] at h; done) | skip
        cases y <;> first | (simp [zipS] at h; done) | skip
        rename_i i z
        cases e : zipS xs ys with
        | none => simp [zipS, e] at h
        | some t =>
          simp [zipS, e] at h
          subst h
          cases rx; cases ry
          rw [List.zip_cons_cons, zipS_rep e r1 r2]
          rfl
/-- sorted(zip(a, b)), ints and texts -/
def dSortZ (ta tb : DE) : DL := fun ex ds M k => dUse ta ex ds M fun x ds1 M1 => dUse tb ex ds1 M1 fun y ds2 M2 => match itemsD x, itemsD y with
  | some xs, some ys => (match zipS xs ys with
    | some ps => ps.length ≤ sizeLine ∧ ∀ qs : List (Int × Str), qs.Perm ps → qs.Pairwise (fun p q => p.1 ≤ q.1) → k (qs.map fun p => .tup [.int p.1, .str p.2]) ds2 M2
    | none => False)
  | _, _ => False
theorem repTups {F' : Hp} : ∀ {qs : List (Addr × Int × Str)}, (∀ q ∈ qs, F' q.1 = some (.tup [.int q.2.1, .str q.2.2])) → RepAll K F' (qs.map fun q => D.tup [.int q.2.1, .str q.2.2]) (qs.map fun q => V.ref q.1)
  | [], _ => .nil
  | q :: qs, h => .cons (.tup (SqT.of (h q (List.mem_cons_self ..))) (.cons (.int _) (.cons (.str _) .nil))) (repTups fun r hr => h r (List.mem_cons_of_mem _ hr))
theorem pdl_sortZ {e e2 : Expr} {ta tb : DE} {p p0 pos pos0 : Pos} (hg0 : Gl X "sorted") (hm0 : X.mg "sorted" = none) (hg : Gl X "zip") (hm : X.mg "zip" = none) (ha : PD X e ta) (hb : PD X e2 tb)
    (hs : starEach [e, e2] X.env = (false, eval e X.env) :: starEach [e2] X.env := by rfl) (hs2 : starEach [e2] X.env = (false, eval e2 X.env) :: starEach [] X.env := by rfl) (hpl : (backTo pos (starEach [e2] X.env)).any (·.1) = false := by rfl)
    (na : starEach [.Call (.Name "zip" p) [e, e2] [] pos] X.env = (false, eval (.Call (.Name "zip" p) [e, e2] [] pos) X.env) :: starEach [] X.env := by rfl) (np : (backTo pos0 (starEach [] X.env)).any (·.1) = false := by rfl) :
    PDL X (.Call (.Name "sorted" p0) [.Call (.Name "zip" p) [e, e2] [] pos] [] pos0) (dSortZ ta tb) := fun B ex lk =>
  pe_weaken (pe_sortZ lk.calm hg0 hm0 hg hm (ha B ex lk) (hb B ex lk) hs hs2 hpl na np) fun σ H Q q => by
    obtain ⟨F, M, ds, k, ok, q, g⟩ := q
    refine d_use ⟨F, M, ds, _, ok, q, fun x ds1 M1 F1 H1 v q1 ok1 s1 r1 => ?_⟩
    refine d_use ⟨F1, M1, ds1, _, ok1, q1, fun y ds2 M2 F2 H2 u q2 ok2 s2 r2 => ?_⟩
    cases ex : itemsD x with
    | none => simp only [ex] at q2
    | some xs =>
      cases ey : itemsD y with
      | none => simp only [ex, ey] at q2
      | some ys =>
        simp only [ex, ey] at q2
        cases ez : zipS xs ys with
        | none => simp only [ez] at q2
        | some ps =>
          simp only [ez] at q2
          obtain ⟨sa, vs, i1, a1, ra, ka⟩ := items_side ex (r1.mono s2)
          obtain ⟨sb, us, i2, a2, rb, kb⟩ := items_side ey r2
          have ev := zipS_rep ez ra rb
          refine ⟨v, u, sa, sb, vs, us, rfl, i1, i2, ka _ ok2.z.fr, kb _ ok2.z.fr, ps, ev, q2.1, fun as qs d hl nd fr hp hso hd => ?_⟩
          have hle : as.length = (vs.zip us).length := by rw [ev, List.length_map]; exact hl
          obtain ⟨ok3, s3⟩ := ok2.layT (l := tups as (vs.zip us)) (by rw [tups_fst hle]; exact nd) (by rw [tups_fst hle]; exact fr)
          have hq := q2.2 (qs.map (·.2)) (by
            have := hp.map (·.2)
            rw [List.map_snd_zip (Nat.le_of_eq hl.symm)] at this
            exact this) (List.pairwise_map.mpr hso)
          rw [List.map_map] at hq
          refine g _ _ _ _ _ _ _ hq (ok3.laid hd) ((s1.trans s2).trans s3) (ok3.z.loc hd) (ok3.notOwn hd) upd_same (repTups fun r hr => ?_)
          have hm := hp.mem_iff.mp hr
          refine layT_at (by rw [tups_fst hle]; exact nd) ?_
          unfold tups
          rw [ev]
          obtain ⟨j, hj⟩ := List.mem_iff_getElem?.mp hm
          obtain ⟨h1, h2⟩ := List.getElem?_zip_eq_some.mp hj
          refine List.mem_of_getElem? (i := j) (List.getElem?_zip_eq_some.mpr ⟨h1, ?_⟩)
          rw [List.getElem?_map, h2]
          rfl
end
end MW
namespace MW
open PySem PySem.Spec PyProof.Rows L2
section
variable {X : Cx} {K : PySem.W.Frag} {B : Bs} {F F' H H' : Hp} {M M' : MS} {ds ds' : DS} {σ σ' : L2.St} {p : Addr} {o : HO} {ex : EX} {pins : List (Addr × Obj)} {s : Shared}
/-! ### sorted of pairs of ints -/
def pairsI : List D → Option (List (Int × Int))
  | [] => some []
  | .tup [.int a, .int b] :: r => (pairsI r).map ((a, b) :: ·)
  | _ :: _ => none
def rdPair (h : Heap) : Value → Int × Int
  | .ref a => (match h.get? a with
    | some o => (match o.data with
      | .seq xs _ => (match xs.toList with
        | [.int x _, .int y _] => (x, y)
        | _ => (0, 0))
      | _ => (0, 0))
    | none => (0, 0))
  | _ => (0, 0)
theorem pairs_all (I : Inv X pins σ H s) (sm : Same F H) : ∀ {xs : List D} {vs : List V} {its : List Value} {ps : List (Int × Int)}, pairsI xs = some ps → RepAll X.K F xs vs → Vals vs its →
    vs = its.map backV ∧ its.map (rdPair s.heap) = ps ∧ ∀ u ∈ its, Srt.IsPair s.heap u (rdPair s.heap u).1 (rdPair s.heap u).2 ∧ Rep X.K F (.tup [.int (rdPair s.heap u).1, .int (rdPair s.heap u).2]) (backV u) ∧ ∃ a, u = Value.ref a
  | [], _, _, ps, h, .nil, .nil => by
    have : ps = [] := by simpa [pairsI, eq_comm] using h
    subst this
    exact ⟨rfl, rfl, fun u hu => by simp at hu⟩
  | x :: xs, v :: vs, u :: its, ps, h, .cons r rt, .cons e et => by
    have step : ∀ a b, x = .tup [.int a, .int b] → ∃ t, pairsI xs = some t ∧ ps = (a, b) :: t := fun a b ex => by
      subst ex
      cases e2 : pairsI xs with
      | none => simp [pairsI, e2] at h
      | some t => exact ⟨t, rfl, by simpa [pairsI, e2, eq_comm] using h⟩
    have isT : ∃ a b, x = .tup [.int a, .int b] := by
      cases x with
      | tup ys =>
        match ys, h with
        | [.int a, .int b], _ => exact ⟨a, b, rfl⟩
        | [], h => simp [pairsI] at h
        | [_], h => simp [pairsI] at h
        | .non :: _ :: _, h => simp [pairsI] at h
        | .bl _ :: _ :: _, h => simp [pairsI] at h
        | .str _ :: _ :: _, h => simp [pairsI] at h
        | .tup _ :: _ :: _, h => simp [pairsI] at h
        | .lst _ :: _ :: _, h => simp [pairsI] at h
        | .dic _ :: _ :: _, h => simp [pairsI] at h
        | .ref _ :: _ :: _, h => simp [pairsI] at h
        | .ty _ :: _ :: _, h => simp [pairsI] at h
        | .frl _ :: _ :: _, h => simp [pairsI] at h
        | .bad :: _ :: _, h => simp [pairsI] at h
        | .int _ :: _ :: _ :: _, h => simp [pairsI] at h
        | [.int _, .non], h => simp [pairsI] at h
        | [.int _, .bl _], h => simp [pairsI] at h
        | [.int _, .str _], h => simp [pairsI] at h
        | [.int _, .tup _], h => simp [pairsI] at h
        | [.int _, .lst _], h => simp [pairsI] at h
        | [.int _, .dic _], h => simp [pairsI] at h
        | [.int _, .ref _], h => simp [pairsI] at h
        | [.int _, .ty _], h => simp [pairsI] at h
        | [.int _, .frl _], h => simp [pairsI] at h
        | [.int _, .bad], h => simp [pairsI] at h
      | _ => simp [pairsI] at h
    obtain ⟨a, b, ex⟩ := isT
    obtain ⟨t, e2, e3⟩ := step a b ex
    subst ex e3
    obtain ⟨h1, h2, h3⟩ := pairs_all I sm e2 rt et
    have r' := r
    cases r with
    | tup hs ra =>
      rename_i c ws
      cases ra with
      | cons r1 ra =>
        cases ra with
        | cons r2 ra =>
          cases ra
          cases r1; cases r2
          cases e
          obtain ⟨us, rv, ⟨ob, ho, hc, n, hd⟩, _⟩ := I.tuple (sqT_mono sm hs)
          obtain ⟨u1, u2, rfl, ri, rj⟩ := vals2 rv
          obtain ⟨t1, rfl⟩ := ri
          obtain ⟨t2, rfl⟩ := rj
          have ek : rdPair s.heap (.ref c) = (a, b) := by
            show (match s.heap.get? c with | some o => _ | none => _) = _
            rw [ho]
            show (match ob.data with | .seq xs _ => _ | _ => _) = _
            rw [hd]
          refine ⟨by rw [h1]; rfl, by rw [List.map_cons, h2, ek], fun w hw => ?_⟩
          rcases List.mem_cons.mp hw with rfl | hw
          · rw [ek]
            exact ⟨⟨c, ob, t1, t2, n, rfl, ho, hc, hd⟩, r', c, rfl⟩
          · exact h3 w hw
def lexP (p q : Int × Int) : Prop := p.1 < q.1 ∨ (p.1 = q.1 ∧ p.2 ≤ q.2)
def pairT (p : Int × Int) : D := .tup [.int p.1, .int p.2]
def sortedPR : RBuL
  | [.lst xs], k => match pairsI xs with | some ps => ∀ qs : List (Int × Int), qs.Perm ps → qs.Pairwise lexP → k (qs.map pairT) | none => False
  | _, _ => False
theorem repPairs {g : Value → Int × Int} : ∀ {us : List Value}, (∀ u ∈ us, Rep K F (.tup [.int (g u).1, .int (g u).2]) (backV u)) → RepAll K F ((us.map g).map pairT) (us.map backV)
  | [], _ => .nil
  | u :: us, h => .cons (h u List.mem_cons_self) (repPairs fun w hw => h w (List.mem_cons_of_mem _ hw))
theorem bu_sortedP : DBuL X (.builtin "sorted") sortedPR := by
  intro pins s σ H vs us Q I rx q
  obtain ⟨F, xs, k, sm, tx, hr, hk⟩ := q
  cases tx with
  | nil => exact hr.elim
  | cons t tx =>
    rename_i x xs v vs
    cases tx with
    | cons t2 tx => cases x <;> exact hr.elim
    | nil =>
      cases x with
      | lst ys =>
        obtain ⟨p, ws, rfl, h1, r1⟩ := t
        cases e : pairsI ys with
        | none => unfold sortedPR at hr; simp only [e] at hr
        | some ps =>
          unfold sortedPR at hr; simp only [e] at hr
          obtain ⟨its, rv, hl, hz⟩ := I.list (SqL.of (K := X.K) h1)
          obtain ⟨u, rfl, ru⟩ := vals1 rx
          obtain rfl : u = Value.ref p := ru
          obtain ⟨g1, g2, g3⟩ := pairs_all I sm e r1 rv
          refine SrtO.sorted_pairsO (k := rdPair s.heap) hl.isList (by rw [← rv.length]; exact hz) (fun v hv => (g3 v hv).1) fun h' d out k1 k2 kp hd hn => ?_
          have hm : ∀ u ∈ out, u ∈ its := fun u hu => k2.perm.mem_iff.mp hu
          obtain ⟨n, hn⟩ := hn
          have hl2 : out.length = ws.length := by rw [k2.len, rv.length]
          refine ⟨.ref d, upd H d (.lst (out.map backV)), I.laid (t' := s.toks) kp hd ⟨by rw [List.length_map, hl2]; exact hz, out, n, vals_back (fun u hu => (g3 u (hm u hu)).2.2), hn⟩, rfl, ?_⟩
          refine hk _ d _ (hr (out.map (rdPair s.heap)) (by rw [← g2]; exact k2.perm.map _) (List.pairwise_map.mpr (k1.imp fun {x y} h => ?_))) (I.hok.fresh hd) (repPairs fun u hu => (g3 u (hm u hu)).2.1)
          have hno := SrtO.lexB_no.mp h
          unfold lexP
          omega
      | _ => exact hr.elim
/-! ### list.remove of data -/
/-- the first equal one goes -/
def removeR : RMe
  | xs, [y], k => okD (.lst xs) = true ∧ okD y = true ∧ ∃ (j : Nat) (z : D), xs[j]? = some z ∧ PyData.eqv (toPy z) (toPy y) = true ∧ (∀ (m : Nat) (z' : D), m < j → xs[m]? = some z' → PyData.eqv (toPy z') (toPy y) = false) ∧ k (xs.eraseIdx j) .non
  | _, _, _ => False
theorem toPyA_get : ∀ {xs : List D} {j : Nat}, (toPyA xs)[j]? = (xs[j]?).map toPy
  | [], _ => by simp [toPyA]
  | x :: xs, 0 => by simp [toPyA]
  | x :: xs, j + 1 => by
    rw [toPyA, List.getElem?_cons_succ, List.getElem?_cons_succ]
    exact toPyA_get
theorem me_remove (hu : X.A.units + 65 < cLine) : DMe X "list.remove" removeR := by
  intro pins s σ H x vs v us Q I rx ra h
  obtain ⟨F, p, xs, ws, as, k, sm, rfl, h1, r1, r2, hr, hk⟩ := h
  cases r2 with
  | nil => exact hr.elim
  | cons ry r2 =>
    rename_i y ys vy vys
    cases r2 with
    | cons _ _ => exact hr.elim
    | nil =>
      obtain ⟨ho1, ho2, j, z, hz, he, hno, q⟩ := hr
      have h1' := Bool.and_eq_true_iff.mp ho1
      have h2' := Bool.and_eq_true_iff.mp ho2
      obtain ⟨u, rfl, ru⟩ := vals1 ra
      cases rx
      have hl : Dp X.K H (.ref p) (.list (toPyA xs)) := top_dp (x := .lst xs) sm h1'.1 ⟨p, ws, rfl, h1, r1⟩
      have hy : Dp X.K H vy (toPy y) := top_dp sm h2'.1 (ry.top sm)
      obtain ⟨bs, rd1⟩ := Dp.reads I (toPy y) vy u hy ru
      have sl : SeqAt.shaped (.list (toPyA xs)) = true := h1'.2
      have sd : SeqAt.shaped (toPy y) = true := h2'.2
      have hxs : PyData.canLayAll0 (toPyA xs) = true := SeqAt.canLay_of_shaped sl
      have hroom : X.A.units + 1 + min (PyData.depthAll (toPyA xs)) (toPy y).depth < cLine := room_in_shaped sd hu
      cases hl with
      | lst hs ha =>
        rename_i vsL
        obtain ⟨z0, its, n, rv, hlen, ho⟩ := I.lstM h1
        have hs2 : vsL = ws := by
          obtain ⟨its2, rv2, pl2, hz2⟩ := I.list hs
          exact I.list_inj hs (SqL.of h1)
        subst hs2
        obtain ⟨as, h4⟩ := Dp.readsAll I (toPyA xs) _ its ha rv
        have hn : its.length = (toPyA xs).length := SeqAt.ReadsAll.length (toPyA xs) its as h4
        have hmap : its.map (SeqAt.readOf s.heap) = toPyA xs := SeqAt.readsAll_map (toPyA xs) its as hxs h4
        have hvl := rv.length
        have hsl := sizeLine_eq
        have hzP : (toPyA xs)[j]? = some (toPy z) := by rw [toPyA_get, hz]; rfl
        obtain ⟨hjd, _⟩ := List.getElem?_eq_some_iff.mp hzP
        have hjl : j < its.length := by omega
        have hj : j < its.toArray.size := by simpa using hjl
        have at_ : ∀ (m : Nat) (hm : m < its.toArray.size) (z' : PyData), (toPyA xs)[m]? = some z' → SeqAt.readOf s.heap its.toArray[m] = z' := by
          intro m hm z' hz'
          have hml : m < its.length := by simpa using hm
          rw [← hmap, List.getElem?_map, List.getElem?_eq_getElem hml] at hz'
          have e1 : SeqAt.readOf s.heap its[m] = z' := Option.some.inj (show some (SeqAt.readOf s.heap its[m]) = some z' from hz')
          simpa using e1
        refine call_meets PySem.F.slot_list_remove ⟨_, ho, rfl⟩ PySem.F.entry_list_remove (PySem.F.args_list_remove_2 _ _)
          (SeqAt.list_removeAt p its.toArray n none #[] u (fun w => PyData.eqv (SeqAt.readOf s.heap w) (toPy y)) j hj ?_ ?_ (by rw [List.size_toArray]; omega)) ⟨ho, SeqAt.items_eqAt (vs := its.toArray) (show ReadsAll s.heap its.toArray.toList (toPyA xs) as from h4) rd1 hxs (SeqAt.canLay_of_shaped sd) hroom, ?_⟩
        · show PyData.eqv (SeqAt.readOf s.heap its.toArray[j]) (toPy y) = true
          rw [at_ j hj _ hzP]
          exact he
        · intro m hm hmj
          have hmd : m < (toPyA xs).length := by omega
          have hz' : (toPyA xs)[m]? = some (toPyA xs)[m] := List.getElem?_eq_getElem hmd
          show PyData.eqv (SeqAt.readOf s.heap its.toArray[m]) (toPy y) = false
          rw [at_ m hm _ hz']
          rw [toPyA_get] at hz'
          cases e : xs[m]? with
          | none => rw [e] at hz'; cases hz'
          | some z2 =>
            rw [e] at hz'
            have e3 : toPy z2 = (toPyA xs)[m] := Option.some.inj hz'
            rw [← e3]
            exact hno m z2 hmj e
        · refine ⟨.non, _, I.lset (its' := its.eraseIdx j) h1 ho ?_ (rv.eraseIdx j) ?_, rfl, hk _ _ _ _ q (r1.eraseIdx j) .non⟩
          · simp [Array.eraseIdxIfInBounds, hjl, List.eraseIdx_toArray]
          · rw [List.length_eraseIdx]
            split <;> omega
/-! ### xs[a:b:c] of a list -/
def pickD {α : Type} (xs : List α) (lo hi st : Option Int) : List α := (sliceRange (sliceBounds lo hi st xs.length).1 (sliceBounds lo hi st xs.length).2.1 (sliceBounds lo hi st xs.length).2.2).filterMap (xs[·]?)
theorem RepAll.filt {xs : List D} {vs : List V} (r : RepAll K F xs vs) : ∀ is : List Nat, RepAll K F (is.filterMap (xs[·]?)) (is.filterMap (vs[·]?))
  | [] => .nil
  | i :: is => by
    cases e : xs[i]? with
    | none =>
      have : vs[i]? = none := by
        rw [List.getElem?_eq_none_iff, ← r.length]
        exact List.getElem?_eq_none_iff.mp e
      rw [List.filterMap_cons_none e, List.filterMap_cons_none this]
      exact r.filt is
    | some x =>
      obtain ⟨v, h1, h2⟩ := r.get e
      rw [List.filterMap_cons_some e, List.filterMap_cons_some h1]
      exact .cons h2 (r.filt is)
theorem RepAll.pick {xs : List D} {vs : List V} (lo hi st : Option Int) (r : RepAll K F xs vs) : RepAll K F (pickD xs lo hi st) (pickD vs lo hi st) := by
  unfold pickD
  rw [r.length]
  exact r.filt _
theorem vals_filt {xs : List V} {vs : List Value} (r : Vals xs vs) : ∀ is : List Nat, Vals (is.filterMap (xs[·]?)) (is.filterMap (vs[·]?))
  | [] => .nil
  | i :: is => by
    cases e : xs[i]? with
    | none =>
      have : vs[i]? = none := by
        rw [List.getElem?_eq_none_iff, ← r.length]
        exact List.getElem?_eq_none_iff.mp e
      rw [List.filterMap_cons_none e, List.filterMap_cons_none this]
      exact vals_filt r is
    | some x =>
      obtain ⟨v, h1, h2⟩ := r.get e
      rw [List.filterMap_cons_some e, List.filterMap_cons_some h1]
      exact .cons h2 (vals_filt r is)
theorem filt_len {α : Type} (xs : List α) (is : List Nat) : (is.filterMap (xs[·]?)).length ≤ is.length := List.length_filterMap_le _ _
def tSl3 (K : PySem.W.Frag) (te : TE) (tl th ts : TO) : TE := fun σ H Q => te σ H fun x H1 => tl σ H1 fun l H2 => th σ H2 fun h H3 => ts σ H3 fun st H4 => st ≠ some 0 ∧ ∃ a xs, x = .ref a ∧ SqL K H4 a xs ∧ (pickD xs l h st).length ≤ sizeLine ∧ ∀ p, H4 p = none → Q (.ref p) (upd H4 p (.lst (pickD xs l h st)))
theorem pe_sl3 {e stp : Expr} {lo hi : Option Expr} {te : TE} {tl th ts : TO} {p2 pos : Pos} (he : PE X e te) (hl : PO X lo tl) (hu : PO X hi th) (hst : PO X (some stp) ts) (hs : ∀ ov iv, subscripted (.Slice lo hi (some stp) p2) false ov iv = operate [ov, iv] (getItem ov iv) := by intro _ _; with_unfolding_all rfl) : PE X (.Subscript e (.Slice lo hi (some stp) p2) pos) (tSl3 X.K te tl th ts) := by
  refine ⟨fun pins s σ H Q I h => ?_⟩
  refine Subscript_ (thn (he.run pins s σ H _ I h) fun v s1 ⟨x, H1, I1, r1, q1⟩ => ?_)
  refine wpAny_Slice (thn (hl.run pins s1 σ H1 _ I1 q1) fun vl s2 ⟨l, H2, I2, pl, q2⟩ => thn (hu.run pins s2 σ H2 _ I2 q2) fun vu s3 ⟨u, H3, I3, pu, q3⟩ => thn (hst.run pins s3 σ H3 _ I3 q3) fun vs s4 ⟨o, H4, I4, ps, h0, a, xs, ex, hx, hz4, q⟩ => ?_)
  subst ex
  cases r1
  have I5 : Inv X pins σ H4 { s4 with heap := s4.heap.push { cls := .type "slice", data := .fields #[vl, vu, vs] } } := I4.kept (t' := s4.toks) fun b ob q => Heap.get?_push_of_some _ q
  obtain ⟨its, r, ht, hz⟩ := I5.list hx
  have hlen := r.length
  show wpAny (model X.prog X.w) X.A (subscriptTail e (.Slice lo hi (some stp) p2) (.ref a) (.ref s4.heap.objs.size)) (EP X pins σ Q) X.xe { s4 with heap := s4.heap.push { cls := .type "slice", data := .fields #[vl, vu, vs] } }
  refine tail_any (ops := [.ref a, .ref s4.heap.objs.size]) ht.isList.typeIs (PySem.slot_list_getitem.lookup) ?_ (hs _ _)
  refine wpAny_getItem_list_slice ht.isList (Heap.IsSliceOf.new _ vl vu vs) pl pu ps h0 ?_ (by rw [List.size_toArray]; omega)
  have ep : slicePick its.toArray l u o = (pickD its l u o).toArray := by
    unfold slicePick pickD
    simp
  rw [ep]
  refine ⟨.ref _, _, I5.laid (t' := s4.toks) (o := .lst (pickD xs l u o)) (fun b ob q => Heap.get?_push_of_some _ q) (Nat.le_refl _) ?_, rfl, q _ (I5.hok.fresh (Nat.le_refl _))⟩
  refine ⟨hz4, _, 0, ?_, Heap.get?_push_size _ rfl⟩
  unfold pickD
  rw [hlen]
  exact vals_filt r _
def dSl3 (te : DE) (tl th ts : DO) : DL := fun ex ds M k => te ex ds M fun x ds1 M1 => tl ex ds1 M1 fun l ds2 M2 => th ex ds2 M2 fun h ds3 M3 => ts ex ds3 M3 fun st ds4 M4 => st ≠ some 0 ∧ match look ds4 M4 x with
  | .lst xs => (pickD xs l h st).length ≤ sizeLine ∧ k (pickD xs l h st) ds4 M4
  | .frl xs => (pickD xs l h st).length ≤ sizeLine ∧ k (pickD xs l h st) ds4 M4
  | _ => False
theorem pickD_len {α β : Type} {xs : List α} {ys : List β} (h : xs.length = ys.length) (l u o : Option Int) : (pickD xs l u o).length = (pickD ys l u o).length := by
  unfold pickD
  rw [h]
  generalize sliceRange _ _ _ = is
  induction is with
  | nil => rfl
  | cons i is ih =>
    by_cases hi : i < ys.length
    · rw [List.filterMap_cons_some (List.getElem?_eq_getElem (by rw [h]; exact hi)), List.filterMap_cons_some (List.getElem?_eq_getElem hi), List.length_cons, List.length_cons, ih]
    · rw [List.filterMap_cons_none (List.getElem?_eq_none (by omega)), List.filterMap_cons_none (List.getElem?_eq_none (by omega)), ih]
theorem pdl_sl3 {e stp : Expr} {lo hi : Option Expr} {te : DE} {tl th ts : DO} {p2 pos : Pos} (he : PD X e te) (hl : PDO X lo tl) (hh : PDO X hi th) (hst : PDO X (some stp) ts) (hs : ∀ ov iv, subscripted (.Slice lo hi (some stp) p2) false ov iv = operate [ov, iv] (getItem ov iv) := by intro _ _; with_unfolding_all rfl) : PDL X (.Subscript e (.Slice lo hi (some stp) p2) pos) (dSl3 te tl th ts) := fun B ex lk =>
  pe_weaken (pe_sl3 (he B ex lk) (hl B ex lk) (hh B ex lk) (hst B ex lk) hs) fun σ H Q q => by
    obtain ⟨F, M, ds, k, ok, q, g⟩ := q
    refine ⟨F, M, ds, _, ok, q, fun x ds1 M1 F1 H1 v q1 ok1 s1 r1 => ?_⟩
    refine ⟨F1, M1, ds1, _, ok1, q1, fun l ds2 M2 F2 H2 q2 ok2 s2 => ?_⟩
    refine ⟨F2, M2, ds2, _, ok2, q2, fun h ds3 M3 F3 H3 q3 ok3 s3 => ?_⟩
    refine ⟨F3, M3, ds3, _, ok3, q3, fun st ds4 M4 F4 H4 q4 ok4 s4 => ?_⟩
    obtain ⟨h0, q4⟩ := q4
    have tp := ok4.look (((r1.mono s2).mono s3).mono s4)
    generalize look ds4 M4 x = y at *
    cases y with
    | lst xs =>
      obtain ⟨a, vs, rfl, h1, r1⟩ := tp
      refine ⟨h0, a, vs, rfl, SqL.of h1, by rw [pickD_len r1.length.symm]; exact q4.1, fun p hp => ?_⟩
      exact g _ _ _ _ _ _ _ q4.2 (ok4.laid hp) (((s1.trans s2).trans s3).trans s4) (ok4.z.loc hp) (ok4.notOwn hp) upd_same (r1.pick _ _ _)
    | frl xs =>
      cases tp with
      | frl h1 r9 =>
        refine ⟨h0, _, _, rfl, sqL_mono ok4.z.fr h1, by rw [pickD_len r9.length.symm]; exact q4.1, fun p hp => ?_⟩
        exact g _ _ _ _ _ _ _ q4.2 (ok4.laid hp) (((s1.trans s2).trans s3).trans s4) (ok4.z.loc hp) (ok4.notOwn hp) upd_same (r9.pick _ _ _)
    | _ => exact False.elim q4
end
theorem hu_of {k : Nat} {A : Around} (r : Room k A) : A.units + 1 < cLine := by have := r.un; omega
theorem hu65 {k : Nat} {A : Around} (r : Room k A) : A.units + 65 < cLine := by have := r.un; omega
end MW
namespace MW
open PySem PySem.Spec PyProof.Rows L2
/-! ### data compared -/
theorem depthA {n : Nat} : ∀ {xs : List D}, (∀ x ∈ xs, (toPy x).depth ≤ n) → PyData.depthAll (toPyA xs) ≤ n
  | [], _ => by simp [toPyA, PyData.depthAll]
  | x :: xs, h => by
    have h1 := h x List.mem_cons_self
    have h2 := depthA (xs := xs) fun y hy => h y (List.mem_cons_of_mem _ hy)
    simp only [toPyA, PyData.depthAll]
    omega
theorem depth_lst {n : Nat} {xs : List D} (h : ∀ x ∈ xs, (toPy x).depth ≤ n) : (toPy (.lst xs)).depth ≤ n + 1 := by
  have := depthA h
  simp only [toPy, PyData.depth]
  omega
theorem depth_tup {n : Nat} {xs : List D} (h : ∀ x ∈ xs, (toPy x).depth ≤ n) : (toPy (.tup xs)).depth ≤ n + 1 := by
  have := depthA h
  simp only [toPy, PyData.depth]
  omega
theorem depth_int (i : Int) : (toPy (.int i)).depth ≤ 0 := by simp [toPy, PyData.depth]
theorem depth_str (i : Str) : (toPy (.str i)).depth ≤ 0 := by simp [toPy, PyData.depth]
theorem depth_non : (toPy .non).depth ≤ 0 := by simp [toPy, PyData.depth]
theorem depth_bl (b : Bool) : (toPy (.bl b)).depth ≤ 0 := by simp [toPy, PyData.depth]
theorem plainA_of : ∀ {xs : List D}, (∀ x ∈ xs, plainD x = true) → plainA xs = true
  | [], _ => by simp [plainA]
  | x :: xs, h => by
    simp only [plainA]
    rw [h x List.mem_cons_self, plainA_of fun y hy => h y (List.mem_cons_of_mem _ hy)]
    rfl
mutual
/-- data without truths: 1 and True are alike -/
def noB : D → Bool
  | .non => true
  | .int _ => true
  | .str x => PyData.strOk x
  | .lst xs => noBA xs
  | .tup xs => noBA xs
  | _ => false
def noBA : List D → Bool
  | [] => true
  | x :: xs => noB x && noBA xs
end
theorem noBA_of : ∀ {xs : List D}, (∀ x ∈ xs, noB x = true) → noBA xs = true
  | [], _ => by simp [noBA]
  | x :: xs, h => by
    simp only [noBA]
    rw [h x List.mem_cons_self, noBA_of fun y hy => h y (List.mem_cons_of_mem _ hy)]
    rfl
mutual
theorem noB_plain : ∀ {x : D}, noB x = true → plainD x = true
  | .non, _ => by simp [plainD]
  | .int _, _ => by simp [plainD]
  | .str _, _ => by simp [plainD]
  | .lst xs, h => by
    simp only [noB] at h
    simp only [plainD]
    exact noBA_plain h
  | .tup xs, h => by
    simp only [noB] at h
    simp only [plainD]
    exact noBA_plain h
  | .bl _, h => by simp [noB] at h
  | .dic _, h => by simp [noB] at h
  | .ref _, h => by simp [noB] at h
  | .ty _, h => by simp [noB] at h
  | .frl _, h => by simp [noB] at h
  | .bad, h => by simp [noB] at h
theorem noBA_plain : ∀ {xs : List D}, noBA xs = true → plainA xs = true
  | [], _ => by simp [plainA]
  | x :: xs, h => by
    simp only [noBA, Bool.and_eq_true] at h
    simp only [plainA, Bool.and_eq_true]
    exact ⟨noB_plain h.1, noBA_plain h.2⟩
end
mutual
theorem lay_D : ∀ {x : D}, noB x = true → (toPy x).canLay0 = true
  | .non, _ => by simp [toPy, PyData.canLay0]
  | .int i, _ => by simp [toPy, PyData.canLay0]
  | .str x, h => by
    simp only [noB] at h
    simp only [toPy, PyData.canLay0]
    exact h
  | .lst xs, h => by
    simp only [noB] at h
    simp only [toPy, PyData.canLay0]
    exact lay_A h
  | .tup xs, h => by
    simp only [noB] at h
    simp only [toPy, PyData.canLay0]
    exact lay_A h
  | .bl _, h => by simp [noB] at h
  | .dic _, h => by simp [noB] at h
  | .ref _, h => by simp [noB] at h
  | .ty _, h => by simp [noB] at h
  | .frl _, h => by simp [noB] at h
  | .bad, h => by simp [noB] at h
theorem lay_A : ∀ {xs : List D}, noBA xs = true → PyData.canLayAll0 (toPyA xs) = true
  | [], _ => by simp [toPyA, PyData.canLayAll0]
  | x :: xs, h => by
    simp only [noBA, Bool.and_eq_true] at h
    simp [toPyA, PyData.canLayAll0, lay_D h.1, lay_A h.2]
end
theorem okD_of {x : D} (h : noB x = true) (hd : (toPy x).depth ≤ 64) : okD x = true := by
  unfold okD
  rw [noB_plain h, Bool.true_and]
  show ((toPy x).canLay0 && decide ((toPy x).depth ≤ 64)) = true
  rw [lay_D h, decide_eq_true hd]
  rfl
mutual
theorem eqv_D : ∀ {x y : D}, noB x = true → noB y = true → (PyData.eqv (toPy x) (toPy y) = true ↔ x = y)
  | .non, y, _, h => by cases y <;> simp_all [noB, toPy, PyData.eqv]
  | .int i, y, _, h => by cases y <;> simp_all [noB, toPy, PyData.eqv]
  | .str i, y, _, h => by cases y <;> simp_all [noB, toPy, PyData.eqv]
  | .lst xs, y, h1, h => by
    cases y with
    | lst ys =>
      simp only [noB] at h1 h
      simp only [toPy, PyData.eqv, D.lst.injEq]
      exact eqv_A h1 h
    | _ => simp_all [noB, toPy, PyData.eqv]
  | .tup xs, y, h1, h => by
    cases y with
    | tup ys =>
      simp only [noB] at h1 h
      simp only [toPy, PyData.eqv, D.tup.injEq]
      exact eqv_A h1 h
    | _ => simp_all [noB, toPy, PyData.eqv]
  | .bl _, _, h, _ => by simp [noB] at h
  | .dic _, _, h, _ => by simp [noB] at h
  | .ref _, _, h, _ => by simp [noB] at h
  | .ty _, _, h, _ => by simp [noB] at h
  | .frl _, _, h, _ => by simp [noB] at h
  | .bad, _, h, _ => by simp [noB] at h
theorem eqv_A : ∀ {xs ys : List D}, noBA xs = true → noBA ys = true → (PyData.eqvAll (toPyA xs) (toPyA ys) = true ↔ xs = ys)
  | [], [], _, _ => by simp [toPyA, PyData.eqvAll]
  | [], _ :: _, _, _ => by simp [toPyA, PyData.eqvAll]
  | _ :: _, [], _, _ => by simp [toPyA, PyData.eqvAll]
  | x :: xs, y :: ys, h1, h2 => by
    simp only [noBA, Bool.and_eq_true] at h1 h2
    simp only [toPyA, PyData.eqvAll, Bool.and_eq_true, List.cons.injEq]
    rw [eqv_D h1.1 h2.1, eqv_A h1.2 h2.2]
end
theorem eqv_b {x y : D} (h1 : noB x = true) (h2 : noB y = true) [Decidable (x = y)] : PyData.eqv (toPy x) (toPy y) = decide (x = y) := by
  have := eqv_D h1 h2
  by_cases e : x = y
  · rw [decide_eq_true e]
    exact this.mpr e
  · rw [decide_eq_false e]
    cases q : PyData.eqv (toPy x) (toPy y) with
    | false => rfl
    | true => exact absurd (this.mp q) e
/-- == of data without truths -/
theorem eqR_data {neg : Bool} {x y : D} {k : D → Prop} (h1 : noB x = true) (h2 : noB y = true) (d1 : (toPy x).depth ≤ 64) (d2 : (toPy y).depth ≤ 64) (ht : x = y → k (.bl (!neg))) (hf : x ≠ y → k (.bl neg)) : eqR neg x y k := by
  refine .inr ⟨okD_of h1 d1, okD_of h2 d2, ?_⟩
  have := eqv_D h1 h2
  by_cases e : x = y
  · rw [this.mpr e, Bool.xor_true]
    exact ht e
  · have q : PyData.eqv (toPy x) (toPy y) = false := by
      cases q : PyData.eqv (toPy x) (toPy y) with
      | false => rfl
      | true => exact absurd (this.mp q) e
    rw [q, Bool.xor_false]
    exact hf e
theorem items_lst {xs : List D} : itemsD (.lst xs) = some xs := rfl
theorem items_frl {xs : List D} : itemsD (.frl xs) = some xs := rfl
theorem items_tup {xs : List D} : itemsD (.tup xs) = some xs := rfl
theorem items_str {x : Str} : itemsD (.str x) = some (chrs x) := rfl
end MW
namespace MW
open PySem PySem.Spec PyProof.Rows L2
/-! ### constants of the top, as data -/
mutual
def constB (K : PySem.W.Frag) : D → Value → Bool
  | .non, .none => true
  | .bl b, .bool c => b == c
  | .int i, .int j _ => decide (i = j)
  | .str x, .str y _ => decide (x = y)
  | .tup xs, .ref a => (match K.lookup a with
    | some ⟨.type c, _, .seq its _, _⟩ => decide (c = "tuple") && (decide (its.size ≤ sizeLine) && constA K xs its.toList)
    | _ => false)
  | _, _ => false
def constA (K : PySem.W.Frag) : List D → List Value → Bool
  | [], [] => true
  | x :: xs, v :: vs => constB K x v && constA K xs vs
  | _, _ => false
end
mutual
theorem constB_ok {K : PySem.W.Frag} : ∀ {x : D} {u : Value}, constB K x u = true → ∃ v, RelV v u ∧ ∀ F, Rep K F x v
  | .non, u, h => by
    cases u with
    | none => exact ⟨.non, rfl, fun F => .non⟩
    | _ => simp [constB] at h
  | .bl b, u, h => by
    cases u with
    | bool c =>
      simp only [constB, beq_iff_eq] at h
      subst h
      exact ⟨.bl b, rfl, fun F => .bl b⟩
    | _ => simp [constB] at h
  | .int i, u, h => by
    cases u with
    | int j t =>
      simp only [constB, decide_eq_true_eq] at h
      subst h
      exact ⟨.int i, ⟨t, rfl⟩, fun F => .int i⟩
    | _ => simp [constB] at h
  | .str i, u, h => by
    cases u with
    | str j t =>
      simp only [constB, decide_eq_true_eq] at h
      subst h
      exact ⟨.str i, ⟨t, rfl⟩, fun F => .str i⟩
    | _ => simp [constB] at h
  | .tup xs, u, h => by
    cases u with
    | ref a =>
      unfold constB at h
      cases q : K.lookup a with
      | none => rw [q] at h; cases h
      | some o =>
        rw [q] at h
        obtain ⟨oc, od, dt, osl⟩ := o
        cases oc with
        | type c =>
          cases dt with
          | seq its n =>
            simp only [Bool.and_eq_true, decide_eq_true_eq] at h
            obtain ⟨h1, h2, h3⟩ := h
            obtain ⟨vs, rv, rp⟩ := constA_ok h3
            subst h1
            exact ⟨.ref a, rfl, fun F => .tup (.inr ⟨_, its, n, q, rfl, rfl, h2, rv⟩) (rp F)⟩
          | _ => cases h
        | _ => cases dt <;> cases h
    | _ => simp [constB] at h
  | .lst _, u, h => by cases u <;> simp [constB] at h
  | .dic _, u, h => by cases u <;> simp [constB] at h
  | .ref _, u, h => by cases u <;> simp [constB] at h
  | .ty _, u, h => by cases u <;> simp [constB] at h
  | .frl _, u, h => by cases u <;> simp [constB] at h
  | .bad, u, h => by cases u <;> simp [constB] at h
theorem constA_ok {K : PySem.W.Frag} : ∀ {xs : List D} {us : List Value}, constA K xs us = true → ∃ vs, Vals vs us ∧ ∀ F, RepAll K F xs vs
  | [], us, h => by
    cases us with
    | nil => exact ⟨[], .nil, fun F => .nil⟩
    | cons _ _ => simp [constA] at h
  | x :: xs, us, h => by
    cases us with
    | nil => simp [constA] at h
    | cons u us =>
      simp only [constA, Bool.and_eq_true] at h
      obtain ⟨v, h1, h2⟩ := constB_ok h.1
      obtain ⟨vs, h3, h4⟩ := constA_ok h.2
      exact ⟨v :: vs, .cons h1 h3, fun F => .cons (h2 F) (h4 F)⟩
end
def gcB (K : PySem.W.Frag) (x : Str) (d : D) : Bool := match PySem.W.nsIn K mainGlobals x with
  | some (some u) => constB K d u
  | _ => false
theorem gcB_ok {K : PySem.W.Frag} {h : Heap} {mg : Str → Option Value} {x : Str} {d : D} (X : K.In h) (G : h.Ns mainGlobals mg) (c : gcB K x d = true) : GConst K mg x d := by
  unfold gcB at c
  cases q : PySem.W.nsIn K mainGlobals x with
  | none => rw [q] at c; cases c
  | some o =>
    rw [q] at c
    cases o with
    | none => cases c
    | some u =>
      obtain ⟨v, h1, h2⟩ := constB_ok c
      exact ⟨u, v, PySem.W.mg_of X G q, h1, h2⟩
def gdB (K : PySem.W.Frag) (x : Str) (tbl : List (Str × D)) : Bool := He.eqO (PySem.W.nsIn K mainGlobals x) (some (some (.ref (He.ga K x)))) && tbl.all fun q => match PySem.W.nsIn K (He.ga K x) q.1 with
  | some (some u) => constB K q.2 u
  | _ => false
theorem lookup_mem' {x : Str} {d : D} : ∀ {l : List (Str × D)}, l.lookup x = some d → (x, d) ∈ l
  | [], h => by cases h
  | (y, e) :: l, h => by
    by_cases q : x = y
    · subst q
      simp [List.lookup] at h
      subst h
      exact List.mem_cons_self
    · rw [List.lookup_cons] at h
      have : (x == y) = false := beq_eq_false_iff_ne.mpr q
      rw [this] at h
      exact List.mem_cons_of_mem _ (lookup_mem' h)
theorem gdB_ok {K : PySem.W.Frag} {w : World} {h : Heap} {mg : Str → Option Value} {x : Str} {tbl : List (Str × D)} {es : Array DictEntry} {n : Nat} (X : K.In h) (G : h.Ns mainGlobals mg) (c : gdB K x tbl = true) (t : KDict K w (He.ga K x) es n) : GDict K w mg x tbl := by
  obtain ⟨c1, c2⟩ := Bool.and_eq_true_iff.mp c
  refine ⟨He.ga K x, PySem.W.mg_of X G (He.eqO_ok c1), fun z d hz => ?_⟩
  have c3 := List.all_eq_true.mp c2 _ (lookup_mem' hz)
  dsimp only at c3
  cases q : PySem.W.nsIn K (He.ga K x) z with
  | none => rw [q] at c3; cases c3
  | some o =>
    rw [q] at c3
    cases o with
    | none => cases c3
    | some u =>
      obtain ⟨v, h1, h2⟩ := constB_ok c3
      exact ⟨v, ⟨es, n, u, t.at_, t.lit, q, h1⟩, h2⟩
/-! ### defs by names -/
theorem fun_ofD {K : PySem.W.Frag} {x qual : Str} {st : Stmt} {f : Addr} {fd : FuncData} (F : FunD K x qual (defArgs st) (defBody st) (defScope st) [] [] f fd) : Fun K x qual st f fd := by
  obtain ⟨oc, od, dV, kV, doc, pm, an, cdv, ct, osl, rfl, lk, hcd, hD, _⟩ := F.ex
  rcases hD with ⟨_, rfl⟩ | ⟨e, _⟩
  · exact ⟨⟨oc, od, kV, doc, pm, an, cdv, ct, osl, rfl, lk, hcd⟩, F.kp⟩
  · exact absurd rfl e
theorem callee_of {P : Program} {w : World} {K : PySem.W.Frag} {h : Heap} {mg : Str → Option Value} {base : Heap} {x qual : Str} {st : Stmt} {f : Addr} {fd : FuncData} {k : Nat} {ps : List Str} {sp : FSpec} (X : K.In h) (G : h.Ns mainGlobals mg) (g : (He.Fa.glo x).ok K = true) (F : FunD K x qual (defArgs st) (defBody st) (defScope st) [] [] f fd) (e : f = He.ga K x)
    (ok : FnOk P w K mg base (L2.CX P w) k f fd ps (spF K ps.length sp))
    (hb : ∀ (kV doc pm : Value) (an : Option Addr) (cdv ct : Value) (us : List Value), us.length = ps.length → bindArgs (PySem.W.fnOf x qual (defArgs st) (defBody st) (defScope st) .none kV doc pm an cdv ct) ⟨us, []⟩ = pure (ps.zip us)) : Callee P w K mg base k x ps sp := by
  subst e
  exact ⟨_, fd, ok, He.glo_ok X G g, F.kp, F.bindsN hb⟩
/-- the law at its promise -/
theorem sp_start {K : PySem.W.Frag} {H : Hp} {a : Addr} {ns : List Int} {f : FSpec} (hS : SqL K H a (ns.map V.int)) (h : ∀ (Q : D → MS → Prop) (E : Exc → MS → Prop), (∀ M', Q (.bl true) M') → f [.frl (ns.map D.int)] (fun _ => none) Q E) : spF K 1 f [.ref a] H (fun v _ => v = .bl true) fun _ _ _ => False := by
  refine ⟨rfl, H, fun _ => none, [.frl (ns.map D.int)], fun x _ => x = .bl true, fun _ _ => False, ⟨Same.refl H, Same.refl H, fun a e => .inl e, fun a e => absurd rfl e, fun a m e => (nomatch e), fun a o e _ => e, fun a e => e⟩, .cons (.frl hS (repAll_ints ns)) .nil, h _ _ fun _ => rfl, fun x M' F' H' v hx _ r => ?_, fun e M' F' H' cls d q => q.elim⟩
  subst hx
  cases r
  rfl
/-- the law's own walk, its promise by the head's facts -/
theorem walk_ofW {l : PySem.W.OpenLaw} {n k : Nat} {q : Program} {loose : List Str} {XP : (Str → Option Value) → Heap → Prop} {YP : World → Heap → Prop} {d : DefRec} {x : Str}
    (hn : l.most = some n) (hn2 : n ≤ sizeLine) (hdf : d.params.defaults = []) (hr : Room k callerA)
    (F : ∀ (w : World) (mg : Str → Option Value) (fa : Addr) (h : Heap), YP w h → h.Ns mainGlobals mg → mg d.name = some (.ref fa) →
      ∃ (K : PySem.W.Frag) (fd : FuncData) (f : FSpec), K.In h ∧ (∀ (s : Shared) (u : Value), BindsTo s fd ⟨[u], []⟩ [(x, u)]) ∧
        (∀ (ns : List Int), ns.length ≤ n → ∀ (Q : D → MS → Prop) (E : Exc → MS → Prop), (∀ M', Q (.bl true) M') → f [.frl (ns.map D.int)] (fun _ => none) Q E) ∧
        ∀ base : Heap, K.In base → base.Ns mainGlobals mg → FnOk l.prog w K mg base (L2.CX l.prog w) k fa fd [x] (spF K 1 f)) :
    PySem.W.WalkO q loose XP YP l.row.toRowW d [] (fun f vs => PySem.call f vs) := by
  refine Att.attach_call hn hdf fun w s₀ s₁ mg mb fa o pm cd doc a vs ns G Y ho hd hcd hmg hobj hints hlen hg => ?_
  obtain ⟨K, fd, f, KX, hb, hsp, hF⟩ := F w mg fa _ Y G.T.g hmg
  exact law_call KX G.T.g G.T.b G.T.builtins G.T.nolimit hg hobj hints (Nat.le_trans hlen hn2) hr hF hb (fun H hO hS => sp_start hS fun Q E h => hsp ns hlen Q E h) fun H e s' hc => by
    obtain ⟨_, _, _, _, _, _, _, _, _, _, _, _, q⟩ := hc
    exact q
theorem walk_ofP {l : PySem.W.OpenLaw} {n k : Nat} {q : Program} {loose : List Str} {XP : (Str → Option Value) → Heap → Prop} {YP : World → Heap → Prop} {d : DefRec} {K : Params → PySem.W.Frag} {x : Str} {f : FSpec}
    (hn : l.most = some n) (hn2 : n ≤ sizeLine) (hdf : d.params.defaults = []) (hr : Room k callerA) (hY : ∀ (w : World) (h : Heap), YP w h → (K w.params).In h)
    (hsp : ∀ (ns : List Int), ns.length ≤ n → ∀ (Q : D → MS → Prop) (E : Exc → MS → Prop), (∀ M', Q (.bl true) M') → f [.frl (ns.map D.int)] (fun _ => none) Q E)
    (F : ∀ (w : World) (mg : Str → Option Value) (fa : Addr) (h : Heap), (K w.params).In h → h.Ns mainGlobals mg → mg d.name = some (.ref fa) →
      ∃ fd : FuncData, (∀ (s : Shared) (u : Value), BindsTo s fd ⟨[u], []⟩ [(x, u)]) ∧ ∀ base : Heap, (K w.params).In base → base.Ns mainGlobals mg → FnOk l.prog w (K w.params) mg base (L2.CX l.prog w) k fa fd [x] (spF (K w.params) 1 f)) :
    PySem.W.WalkO q loose XP YP l.row.toRowW d [] (fun f vs => PySem.call f vs) :=
  walk_ofW hn hn2 hdf hr fun w mg fa h Y G hmg => by
    obtain ⟨fd, hb, hF⟩ := F w mg fa h (hY w h Y) G hmg
    exact ⟨K w.params, fd, f, hY w h Y, hb, hsp, hF⟩
end MW
namespace MW
open PySem PySem.Spec PyProof.Rows L2
def g_MOST_WIDTH : D := .int 40
def g_KINDS : D := .tup [.str "small", .str "far", .str "pair", .str "sign", .str "one"]
def g_NEEDED : List (Str × D) := [("small", .int 2), ("far", .int 3), ("pair", .int 3), ("sign", .int 7), ("one", .int 2)]

/-- turned(code, width, found, k) -/
def b_turned : DST :=
  dSeq (dSet 2 (dC (.int 0)))
  (dSeq (dFor (dRange1 (dVar 1)) (dgName 3) (dSeq (dSet 2 (dBin addR (dBin mulR (dVar 2) (dC (.int 2))) (dBin modR (dVar 0) (dC (.int 2)))))
  (dSet 0 (dBin fdivR (dVar 0) (dC (.int 2))))))
  (dRet (dVar 2)))
def f_turned : FSpec := fnD 4 b_turned

/-- fits(bits, widths, kind, width) -/
def b_fits : DST :=
  dSeq (dIfS (dTst (dBin (eqR true) (dFz (dLc (dZip (dC g_KINDS) (dVar 1)) (dgTup [2, 3]) (dTst (dBin ltR (dBin subR (dVar 0) (dVar 3)) (dKget g_NEEDED (dVar 2)))) (dVar 2) [2, 3])) (dFz (dLst (dNil))))) (dRet (dC (.bl false))) (dNext))
  (dRet (dBin leR (dBu sumR (dLook1 (dFz (dLc (dIt (dVar 1)) (dgName 3) (dYes) (dBin shlR (dC (.int 1)) (dBin subR (dC g_MOST_WIDTH) (dVar 3))) [3])))) (dBin shlR (dC (.int 1)) (dC g_MOST_WIDTH))))
def f_fits : FSpec := fnD 4 b_fits

/-- made(bits, widths, patterns, code, last, width, kind) -/
def b_made : DST :=
  dSeq (dIfS (dNot (dTst (dCall 2 f_fits (dCons (dVar 0) (dCons (dVar 1) (dNil)))))) (dRet (dC .non)) (dNext))
  (dSeq (dSetD 2 (dDnew))
  (dSeq (dSet 3 (dC (.int 0)))
  (dSeq (dSet 4 (dC (.int 0)))
  (dSeq (dFor (dIt (dFz (dSortZ (dVar 1) (dC g_KINDS)))) (dgTup [5, 6]) (dSeq (dSet 3 (dBin shlR (dVar 3) (dBin subR (dVar 5) (dVar 4))))
  (dSeq (dDput (dVar 2) (dVar 6) (dCall 2 f_turned (dCons (dVar 3) (dCons (dVar 5) (dNil)))))
  (dSeq (dSet 3 (dBin addR (dVar 3) (dC (.int 1))))
  (dSet 4 (dVar 5))))))
  (dRet (dTup (dCons (dVar 0) (dCons (dFz (dLc (dZip (dC g_KINDS) (dVar 1)) (dgTup [6, 5]) (dYes) (dTup (dCons (dVar 6) (dCons (dVar 5) (dCons (dDget (dVar 2) (dVar 6)) (dNil))))) [6, 5])) (dNil)))))))))
def f_made : FSpec := fnD 7 b_made

/-- law_bag(script, stir, cell) -/
def b_law_bag : DST :=
  dSeq (dSet 1 (dC (.int 17)))
  (dSeq (dFor (dIt (dSl (dVar 0) (dNoO) (dSoO (dC (.int 63))))) (dgName 2) (dSet 1 (dBin modR (dBin addR (dBin addR (dBin mulR (dVar 1) (dC (.int 48271))) (dBin modR (dVar 2) (dC (.int 2147483629)))) (dC (.int 1))) (dC (.int 2147483647)))))
  (dRet (dNew (dLst (dCons (dFz (dLc (dIt (dSl (dVar 0) (dNoO) (dSoO (dC (.int 63))))) (dgName 2) (dYes) (dBin modR (dBu absR (dLook1 (dVar 2))) (dBin powR (dC (.int 10)) (dC (.int 60)))) [2])) (dCons (dC (.int 0)) (dCons (dC (.int 0)) (dCons (dVar 1) (dCons (dC (.int 0)) (dNil))))))))))
def f_law_bag : FSpec := fnD 3 b_law_bag

/-- law_draw(bag, many, found) -/
def b_law_draw : DST :=
  dSeq (dIfS (dAnd (dTst (dBin (eqR false) (dBin ixR (dVar 0) (dC (.int 2))) (dC (.int 0)))) (dTst (dBin ltR (dBin ixR (dVar 0) (dC (.int 1))) (dBu lenR (dLook1 (dBin ixR (dVar 0) (dC (.int 0)))))))) (dSeq (dAsg (dBin ixR (dBin ixR (dVar 0) (dC (.int 0))) (dBin ixR (dVar 0) (dC (.int 1)))) (dgSub (dVar 0) (dC (.int 2))))
  (dAsg (dBin addR (dBin ixR (dVar 0) (dC (.int 1))) (dC (.int 1))) (dgSub (dVar 0) (dC (.int 1))))) (dIfS (dTst (dBin (eqR false) (dBin ixR (dVar 0) (dC (.int 2))) (dC (.int 0)))) (dSeq (dAsg (dBin addR (dBin ixR (dVar 0) (dC (.int 4))) (dC (.int 1))) (dgSub (dVar 0) (dC (.int 4))))
  (dSeq (dAsg (dBin modR (dBin addR (dBin addR (dBin addR (dBin powR (dBin ixR (dVar 0) (dC (.int 3))) (dC (.int 3))) (dBin mulR (dC (.int 69621)) (dBin ixR (dVar 0) (dC (.int 3))))) (dBin mulR (dC (.int 1021)) (dBin ixR (dVar 0) (dC (.int 4))))) (dC (.int 1))) (dC (.int 2147483647))) (dgSub (dVar 0) (dC (.int 3))))
  (dRet (dBin modR (dBin fdivR (dBin ixR (dVar 0) (dC (.int 3))) (dC (.int 16))) (dVar 1))))) (dNext)))
  (dSeq (dSet 2 (dBin modR (dBin ixR (dVar 0) (dC (.int 2))) (dVar 1)))
  (dSeq (dAsg (dBin fdivR (dBin ixR (dVar 0) (dC (.int 2))) (dVar 1)) (dgSub (dVar 0) (dC (.int 2))))
  (dRet (dVar 2))))
def f_law_draw : FSpec := fnD 3 b_law_draw

/-- law_kinds() -/
def b_law_kinds : DST :=
  dRet (dFz (dLst (dCons (dC (.str "small")) (dCons (dC (.str "far")) (dCons (dC (.str "pair")) (dCons (dC (.str "sign")) (dCons (dC (.str "one")) (dNil))))))))
def f_law_kinds : FSpec := fnD 0 b_law_kinds

/-- law_needed(kind) -/
def b_law_needed : DST :=
  dRet (dDget (dFzD (dDisp (dPCons (dC (.str "small")) (dC (.int 2)) (dPCons (dC (.str "far")) (dC (.int 3)) (dPCons (dC (.str "pair")) (dC (.int 3)) (dPCons (dC (.str "sign")) (dC (.int 7)) (dPCons (dC (.str "one")) (dC (.int 2)) (dPNil)))))))) (dVar 0))
def f_law_needed : FSpec := fnD 1 b_law_needed

/-- law_placed(bits, widths, kinds, free, found, width, k, some, at, pattern, node) -/
def b_law_placed : DST :=
  dSeq (dSet 2 (dCall0 f_law_kinds))
  (dSeq (dSet 3 (dNew (dLst (dCons (dTup (dCons (dC (.int 0)) (dCons (dC (.int 0)) (dNil)))) (dNil)))))
  (dSeq (dSetD 4 (dDnew))
  (dSeq (dFor (dIt (dFz (dBuL sortedPR (dLook1 (dFz (dLc (dEnum (dVar 1)) (dgTup [6, 5]) (dYes) (dTup (dCons (dVar 5) (dCons (dVar 6) (dNil)))) [6, 5])))))) (dgTup [5, 6]) (dSeq (dSet 7 (dFz (dLc (dIt (dVar 3)) (dgName 10) (dTst (dBin leR (dBin ixR (dVar 10) (dC (.int 0))) (dVar 5))) (dVar 10) [10])))
  (dSeq (dIfS (dOr (dTst (dBin (eqR false) (dVar 7) (dFz (dLst (dNil))))) (dTst (dBin ltR (dBin subR (dVar 0) (dVar 5)) (dCall 1 f_law_needed (dCons (dBin ixR (dVar 2) (dVar 6)) (dNil)))))) (dRet (dC .non)) (dNext))
  (dSeq (dAsg (dBin ixR (dVar 7) (dNeg (dC (.int 1)))) (dgTup [8, 9]))
  (dSeq (dExpr (dMe removeR (dVar 3) (dCons (dTup (dCons (dVar 8) (dCons (dVar 9) (dNil)))) (dNil))))
  (dSeq (dWhile (dTst (dBin ltR (dVar 8) (dVar 5))) (dSeq (dExpr (dMe appendR (dVar 3) (dCons (dTup (dCons (dBin addR (dVar 8) (dC (.int 1))) (dCons (dBin addR (dVar 9) (dBin shlR (dC (.int 1)) (dVar 8))) (dNil)))) (dNil))))
  (dSet 8 (dBin addR (dVar 8) (dC (.int 1))))))
  (dDput (dVar 4) (dBin ixR (dVar 2) (dVar 6)) (dTup (dCons (dVar 5) (dCons (dVar 9) (dNil)))))))))))
  (dRet (dVar 4)))))
def f_law_placed : FSpec := fnD 11 b_law_placed

/-- law_rows(found, k, longer, row, width) -/
def b_law_rows : DST :=
  dSeq (dSet 0 (dFz (dLst (dCons (dFz (dLst (dNil))) (dNil)))))
  (dSeq (dFor (dRange1 (dC (.int 5))) (dgName 1) (dSeq (dSetL 2 (dLst (dNil)))
  (dSeq (dFor (dIt (dVar 0)) (dgName 3) (dExpr (dMe extendR (dVar 2) (dCons (dFz (dLc (dRange2 (dC (.int 1)) (dC (.int 5))) (dgName 4) (dYes) (dBin addR (dVar 3) (dFz (dLst (dCons (dVar 4) (dNil))))) [4])) (dNil)))))
  (dSet 0 (dVar 2)))))
  (dRet (dVar 0)))
def f_law_rows : FSpec := fnD 5 b_law_rows

/-- law(script, bag, bits, at, more, k, row, widths, found, wider, less, width) -/
def b_law : DST :=
  dSeq (dSet 1 (dCall 1 f_law_bag (dCons (dVar 0) (dNil))))
  (dSeq (dSet 2 (dBin ixR (dFz (dLst (dCons (dC (.int 8)) (dCons (dC (.int 9)) (dCons (dC (.int 10)) (dCons (dC (.int 11)) (dCons (dBin addR (dC (.int 8)) (dCall 2 f_law_draw (dCons (dVar 1) (dCons (dC (.int 25)) (dNil))))) (dNil)))))))) (dCall 2 f_law_draw (dCons (dVar 1) (dCons (dC (.int 5)) (dNil))))))
  (dSeq (dSet 3 (dCall 2 f_law_draw (dCons (dVar 1) (dCons (dC (.int 7)) (dNil)))))
  (dSeq (dSet 4 (dBin ixR (dFz (dLst (dCons (dC (.int 0)) (dCons (dC (.int 0)) (dCons (dBin addR (dC (.int 1)) (dCall 2 f_law_draw (dCons (dVar 1) (dCons (dC (.int 20)) (dNil))))) (dNil)))))) (dCall 2 f_law_draw (dCons (dVar 1) (dCons (dC (.int 3)) (dNil))))))
  (dSeq (dSet 5 (dCall 2 f_law_draw (dCons (dVar 1) (dCons (dC (.int 5)) (dNil)))))
  (dSeq (dFor (dIt (dFz (dSl3 (dCall0 f_law_rows) (dSoO (dVar 3)) (dNoO) (dSoO (dC (.int 7)))))) (dgName 6) (dSeq (dSet 7 (dBin addR (dBin addR (dSl (dVar 6) (dNoO) (dSoO (dVar 5))) (dFz (dLst (dCons (dBin addR (dBin ixR (dVar 6) (dVar 5)) (dVar 4)) (dNil))))) (dSl (dVar 6) (dSoO (dBin addR (dVar 5) (dC (.int 1)))) (dNoO))))
  (dSeq (dSet 8 (dCall 2 f_made (dCons (dVar 2) (dCons (dFz (dBuL listR (dLook1 (dVar 7)))) (dNil)))))
  (dSeq (dIfS (dTst (dBin (eqR true) (dBin (isR false) (dVar 8) (dC .non)) (dBin (isR false) (dCall 2 f_law_placed (dCons (dVar 2) (dCons (dVar 7) (dNil)))) (dC .non)))) (dRet (dC (.bl false))) (dNext))
  (dSeq (dSet 9 (dBin addR (dBin addR (dSl (dVar 7) (dNoO) (dSoO (dVar 5))) (dFz (dLst (dCons (dBin addR (dBin ixR (dVar 7) (dVar 5)) (dC (.int 1))) (dNil))))) (dSl (dVar 7) (dSoO (dBin addR (dVar 5) (dC (.int 1)))) (dNoO))))
  (dSeq (dSet 10 (dFz (dLc (dIt (dVar 7)) (dgName 11) (dYes) (dBu max2R (dLook2 (dC (.int 1)) (dBin subR (dVar 11) (dC (.int 1))))) [11])))
  (dSeq (dIfS (dAnd (dTst (dBin (isR true) (dVar 8) (dC .non))) (dAnd (dTst (dBin geR (dBin subR (dVar 2) (dBin ixR (dVar 9) (dVar 5))) (dCall 1 f_law_needed (dCons (dBin ixR (dCall0 f_law_kinds) (dVar 5)) (dNil))))) (dTst (dBin (isR false) (dCall 2 f_made (dCons (dVar 2) (dCons (dVar 9) (dNil)))) (dC .non))))) (dRet (dC (.bl false))) (dNext))
  (dIfS (dAnd (dTst (dBin (isR false) (dVar 8) (dC .non))) (dAnd (dTst (dBin gtR (dBin subR (dVar 2) (dBu maxR (dLook1 (dVar 7)))) (dC (.int 6)))) (dTst (dBin (isR true) (dCall 2 f_made (dCons (dVar 2) (dCons (dVar 10) (dNil)))) (dC .non))))) (dRet (dC (.bl false))) (dNext)))))))))
  (dRet (dC (.bl true))))))))
def f_law : FSpec := fnD 12 b_law
def topS (i : Nat) : Stmt := PySem.Challenge.pw_markwords_k17_whole_widths_all.main.body.getD i (.Pass ⟨0, 0, 0, 0⟩)
section
variable {P : Program} {w : World} {K : PySem.W.Frag} {mg : Str → Option Value} {base : Heap}
abbrev s_turned : Stmt := topS 4
theorem sc_turned : FnScope ["code", "width", "found", "k"] ["code", "width"] (defScope s_turned) := ⟨rfl, rfl, rfl, by decide +kernel, rfl, by decide +kernel, by decide +kernel⟩
theorem ok_turned {a : Addr} {fd : FuncData} (Fu : Fun K "turned" "turned" s_turned a fd) (fr_range : mg "range" = none) : FnOk P w K mg base (L2.CX P w) 1 a fd ["code", "width"] (spF K 2 f_turned) :=
  fn_ok Fu sc_turned fun cdv A outer s H E hr => pdb_cons (pds_set (fun _ he => ps_set (i := 2) sc_turned.nd rfl (by first | exact .inl rfl | exact .inr rfl) he) (pd_int))
  (pdb_cons (pds_for (pdi_range1 (by rfl) fr_range (pd_var (pv 1))) (pdg_name (pg_name (i := 3) sc_turned.nd rfl (by first | exact .inl rfl | exact .inr rfl))) (pdb_cons (pds_set (fun _ he => ps_set (i := 2) sc_turned.nd rfl (by first | exact .inl rfl | exact .inr rfl) he) (pd_bin dop_add (pd_bin dop_mul (pd_var (pv 2)) (pd_int)) (pd_bin dop_mod (pd_var (pv 0)) (pd_int))))
  (pdb_one (pds_set (fun _ he => ps_set (i := 0) sc_turned.nd rfl (by first | exact .inl rfl | exact .inr rfl) he) (pd_bin dop_fdiv (pd_var (pv 0)) (pd_int))))))
  (pdb_one (pds_ret (pd_var (pv 2)))))

abbrev s_fits : Stmt := topS 5
theorem sc_fits : FnScope ["bits", "widths", "kind", "width"] ["bits", "widths"] (defScope s_fits) := ⟨rfl, rfl, rfl, by decide +kernel, rfl, by decide +kernel, by decide +kernel⟩
theorem ok_fits {a : Addr} {fd : FuncData} (Fu : Fun K "fits" "fits" s_fits a fd) (fr_sum : mg "sum" = none) (fr_zip : mg "zip" = none) (gc_MOST_WIDTH : GConst K mg "MOST_WIDTH" g_MOST_WIDTH) (gc_KINDS : GConst K mg "KINDS" g_KINDS) (gc_NEEDED : GDict K w mg "NEEDED" g_NEEDED) : FnOk P w K mg base (L2.CX P w) 1 a fd ["bits", "widths"] (spF K 2 f_fits) :=
  fn_ok Fu sc_fits fun cdv A outer s H E hr => pdb_cons (pds_if (pdt_cmp (dop_ne hr.units) (pd_fz (pdl_comp (own := [("kind", 2), ("width", 3)]) (pdi_zip (by rfl) fr_zip (pd_glob gc_KINDS (by rfl)) (pd_var (pv 1))) (blkOk_by (own := [("kind", 2), ("width", 3)]) (N := ["bits", "widths", "kind", "width"]) (sc := defScope s_fits) (by decide +kernel)) (.tup [2, 3] (by decide)) (fun hc _ _ _ _ _ => pg_tup hc (pgs_cons (pg_name (i := 2) sc_fits.nd rfl (.inl rfl)) (pgs_cons (pg_name (i := 3) sc_fits.nd rfl (.inl rfl)) (pgs_nil)))) (fun _ _ _ _ _ => pdts_one (pdt_cmp dop_lt (pd_bin dop_sub (pd_var (pv 0)) (pd_var (pv 3))) (pd_kget gc_NEEDED (by rfl) (pd_var (pv 2)) (fun _ _ => rfl)) (nomark _))) (fun _ _ _ _ _ => pd_var (pv 2)))) (pd_fz (pdl_lst (pda_nil))) (nomark _)) (pdb_one (pds_ret (pd_bl))) (pdb_nil))
  (pdb_one (pds_ret (pd_cmp dop_le (pd_bi (bu_sum (by rfl)) (by rfl) fr_sum (by decide +kernel) (pdw_1 (pd_fz (pdl_comp (own := [("width", 3)]) (pdi_it (pd_var (pv 1))) (blkOk_by (own := [("width", 3)]) (N := ["bits", "widths", "kind", "width"]) (sc := defScope s_fits) (by decide +kernel)) (.name 3 (by decide)) (fun _ _ _ _ _ _ => pg_name (i := 3) sc_fits.nd rfl (.inl rfl)) (fun _ _ _ _ _ => pdts_nil) (fun _ _ _ _ _ => pd_bin dop_shl (pd_int) (pd_bin dop_sub (pd_glob gc_MOST_WIDTH (by rfl)) (pd_var (pv 3)))))))) (pd_bin dop_shl (pd_int) (pd_glob gc_MOST_WIDTH (by rfl))) (nomark _))))

abbrev s_made : Stmt := topS 6
theorem sc_made : FnScope ["bits", "widths", "patterns", "code", "last", "width", "kind"] ["bits", "widths"] (defScope s_made) := ⟨rfl, rfl, rfl, by decide +kernel, rfl, by decide +kernel, by decide +kernel⟩
theorem ok_made {a : Addr} {fd : FuncData} (Fu : Fun K "made" "made" s_made a fd) (c_turned : Callee P w K mg base 1 "turned" ["code", "width"] f_turned) (c_fits : Callee P w K mg base 1 "fits" ["bits", "widths"] f_fits) (fr_zip : mg "zip" = none) (fr_sorted : mg "sorted" = none) (gc_KINDS : GConst K mg "KINDS" g_KINDS) : FnOk P w K mg base (L2.CX P w) 2 a fd ["bits", "widths"] (spF K 2 f_made) :=
  fn_ok Fu sc_made fun cdv A outer s H E hr => pdb_cons (pds_if (pdt_not (pdt_val (pd_callC c_fits (hr.mono (by decide)) (by rfl) (pda_cons (pd_var (pv 0)) (pda_cons (pd_var (pv 1)) (pda_nil)))))) (pdb_one (pds_ret (pd_non))) (pdb_nil))
  (pdb_cons (pds_setD (fun _ he => ps_set (i := 2) sc_made.nd rfl (by first | exact .inl rfl | exact .inr rfl) he) (pdd_new))
  (pdb_cons (pds_set (fun _ he => ps_set (i := 3) sc_made.nd rfl (by first | exact .inl rfl | exact .inr rfl) he) (pd_int))
  (pdb_cons (pds_set (fun _ he => ps_set (i := 4) sc_made.nd rfl (by first | exact .inl rfl | exact .inr rfl) he) (pd_int))
  (pdb_cons (pds_for (pdi_it (pd_fz (pdl_sortZ (by rfl) fr_sorted (by rfl) fr_zip (pd_var (pv 1)) (pd_glob gc_KINDS (by rfl))))) (pdg_tup (.cons (pg_name (i := 5) sc_made.nd rfl (by first | exact .inl rfl | exact .inr rfl)) (.cons (pg_name (i := 6) sc_made.nd rfl (by first | exact .inl rfl | exact .inr rfl)) (.nil) (by rfl)) (by rfl))) (pdb_cons (pds_set (fun _ he => ps_set (i := 3) sc_made.nd rfl (by first | exact .inl rfl | exact .inr rfl) he) (pd_bin dop_shl (pd_var (pv 3)) (pd_bin dop_sub (pd_var (pv 5)) (pd_var (pv 4)))))
  (pdb_cons (pds_dput (hu_of hr) (pd_var (pv 2)) (pd_var (pv 6)) (pd_callC c_turned (hr.mono (by decide)) (by rfl) (pda_cons (pd_var (pv 3)) (pda_cons (pd_var (pv 5)) (pda_nil)))) rfl)
  (pdb_cons (pds_set (fun _ he => ps_set (i := 3) sc_made.nd rfl (by first | exact .inl rfl | exact .inr rfl) he) (pd_bin dop_add (pd_var (pv 3)) (pd_int)))
  (pdb_one (pds_set (fun _ he => ps_set (i := 4) sc_made.nd rfl (by first | exact .inl rfl | exact .inr rfl) he) (pd_var (pv 5))))))))
  (pdb_one (pds_ret (pd_tup (pda_cons (pd_var (pv 0)) (pda_cons (pd_fz (pdl_comp (own := [("kind", 6), ("width", 5)]) (pdi_zip (by rfl) fr_zip (pd_glob gc_KINDS (by rfl)) (pd_var (pv 1))) (blkOk_by (own := [("kind", 6), ("width", 5)]) (N := ["bits", "widths", "patterns", "code", "last", "width", "kind"]) (sc := defScope s_made) (by decide +kernel)) (.tup [6, 5] (by decide)) (fun hc _ _ _ _ _ => pg_tup hc (pgs_cons (pg_name (i := 6) sc_made.nd rfl (.inl rfl)) (pgs_cons (pg_name (i := 5) sc_made.nd rfl (.inl rfl)) (pgs_nil)))) (fun _ _ _ _ _ => pdts_nil) (fun _ _ _ _ _ => pd_tup (pda_cons (pd_var (pv 6)) (pda_cons (pd_var (pv 5)) (pda_cons (pd_dget (hu_of hr) (pd_var (pv 2)) (pd_var (pv 6)) (fun _ _ => rfl)) (pda_nil))))))) (pda_nil))))))))))

abbrev s_law_bag : Stmt := topS 8
theorem sc_law_bag : FnScope ["script", "stir", "cell"] ["script"] (defScope s_law_bag) := ⟨rfl, rfl, rfl, by decide +kernel, rfl, by decide +kernel, by decide +kernel⟩
theorem ok_law_bag {a : Addr} {fd : FuncData} (Fu : Fun K "_law_bag" "_law_bag" s_law_bag a fd) (fr_abs : mg "abs" = none) : FnOk P w K mg base (L2.CX P w) 1 a fd ["script"] (spF K 1 f_law_bag) :=
  fn_ok Fu sc_law_bag fun cdv A outer s H E hr => pdb_cons (pds_set (fun _ he => ps_set (i := 1) sc_law_bag.nd rfl (by first | exact .inl rfl | exact .inr rfl) he) (pd_int))
  (pdb_cons (pds_for (pdi_it (pd_sl (pd_var (pv 0)) (pdo_none) (pdo_some (pd_int)))) (pdg_name (pg_name (i := 2) sc_law_bag.nd rfl (by first | exact .inl rfl | exact .inr rfl))) (pdb_one (pds_set (fun _ he => ps_set (i := 1) sc_law_bag.nd rfl (by first | exact .inl rfl | exact .inr rfl) he) (pd_bin dop_mod (pd_bin dop_add (pd_bin dop_add (pd_bin dop_mul (pd_var (pv 1)) (pd_int)) (pd_bin dop_mod (pd_var (pv 2)) (pd_int))) (pd_int)) (pd_int)))))
  (pdb_one (pds_ret (pd_new (pdl_lst (pda_cons (pd_fz (pdl_comp (own := [("cell", 2)]) (pdi_it (pd_sl (pd_var (pv 0)) (pdo_none) (pdo_some (pd_int)))) (blkOk_by (own := [("cell", 2)]) (N := ["script", "stir", "cell"]) (sc := defScope s_law_bag) (by decide +kernel)) (.name 2 (by decide)) (fun _ _ _ _ _ _ => pg_name (i := 2) sc_law_bag.nd rfl (.inl rfl)) (fun _ _ _ _ _ => pdts_nil) (fun _ _ _ _ _ => pd_bin dop_mod (pd_bi bu_abs (by rfl) fr_abs (by decide +kernel) (pdw_1 (pd_var (pv 2)))) (pd_bin dop_pow (pd_int) (pd_int))))) (pda_cons (pd_int) (pda_cons (pd_int) (pda_cons (pd_var (pv 1)) (pda_cons (pd_int) (pda_nil)))))))))))

abbrev s_law_draw : Stmt := topS 9
theorem sc_law_draw : FnScope ["bag", "many", "found"] ["bag", "many"] (defScope s_law_draw) := ⟨rfl, rfl, rfl, by decide +kernel, rfl, by decide +kernel, by decide +kernel⟩
theorem ok_law_draw {a : Addr} {fd : FuncData} (Fu : Fun K "_law_draw" "_law_draw" s_law_draw a fd) (fr_len : mg "len" = none) : FnOk P w K mg base (L2.CX P w) 1 a fd ["bag", "many"] (spF K 2 f_law_draw) :=
  fn_ok Fu sc_law_draw fun cdv A outer s H E hr => pdb_cons (pds_if (pdt_w (pdw_and (pdt_cmp (dop_eq hr.units) (pd_ix (pd_var (pv 0)) (pd_int) (fun _ _ => rfl)) (pd_int) (nomark _)) (pdw_and1 (pdt_cmp dop_lt (pd_ix (pd_var (pv 0)) (pd_int) (fun _ _ => rfl)) (pd_bi bu_len (by rfl) fr_len (by decide +kernel) (pdw_1 (pd_ix (pd_var (pv 0)) (pd_int) (fun _ _ => rfl)))) (nomark _))))) (pdb_cons (pds_asg (pd_ix (pd_ix (pd_var (pv 0)) (pd_int) (fun _ _ => rfl)) (pd_ix (pd_var (pv 0)) (pd_int) (fun _ _ => rfl)) (fun _ _ => rfl)) (pdg_sub (pd_var (pv 0)) (pd_int)))
  (pdb_one (pds_asg (pd_bin dop_add (pd_ix (pd_var (pv 0)) (pd_int) (fun _ _ => rfl)) (pd_int)) (pdg_sub (pd_var (pv 0)) (pd_int))))) (pdb_one (pds_if (pdt_cmp (dop_eq hr.units) (pd_ix (pd_var (pv 0)) (pd_int) (fun _ _ => rfl)) (pd_int) (nomark _)) (pdb_cons (pds_asg (pd_bin dop_add (pd_ix (pd_var (pv 0)) (pd_int) (fun _ _ => rfl)) (pd_int)) (pdg_sub (pd_var (pv 0)) (pd_int)))
  (pdb_cons (pds_asg (pd_bin dop_mod (pd_bin dop_add (pd_bin dop_add (pd_bin dop_add (pd_bin dop_pow (pd_ix (pd_var (pv 0)) (pd_int) (fun _ _ => rfl)) (pd_int)) (pd_bin dop_mul (pd_int) (pd_ix (pd_var (pv 0)) (pd_int) (fun _ _ => rfl)))) (pd_bin dop_mul (pd_int) (pd_ix (pd_var (pv 0)) (pd_int) (fun _ _ => rfl)))) (pd_int)) (pd_int)) (pdg_sub (pd_var (pv 0)) (pd_int)))
  (pdb_one (pds_ret (pd_bin dop_mod (pd_bin dop_fdiv (pd_ix (pd_var (pv 0)) (pd_int) (fun _ _ => rfl)) (pd_int)) (pd_var (pv 1))))))) (pdb_nil))))
  (pdb_cons (pds_set (fun _ he => ps_set (i := 2) sc_law_draw.nd rfl (by first | exact .inl rfl | exact .inr rfl) he) (pd_bin dop_mod (pd_ix (pd_var (pv 0)) (pd_int) (fun _ _ => rfl)) (pd_var (pv 1))))
  (pdb_cons (pds_asg (pd_bin dop_fdiv (pd_ix (pd_var (pv 0)) (pd_int) (fun _ _ => rfl)) (pd_var (pv 1))) (pdg_sub (pd_var (pv 0)) (pd_int)))
  (pdb_one (pds_ret (pd_var (pv 2))))))

abbrev s_law_kinds : Stmt := topS 10
theorem sc_law_kinds : FnScope [] [] (defScope s_law_kinds) := ⟨rfl, rfl, rfl, by decide +kernel, rfl, by decide +kernel, by decide +kernel⟩
theorem ok_law_kinds {a : Addr} {fd : FuncData} (Fu : Fun K "_law_kinds" "_law_kinds" s_law_kinds a fd) : FnOk P w K mg base (L2.CX P w) 1 a fd [] (spF K 0 f_law_kinds) :=
  fn_ok Fu sc_law_kinds fun cdv A outer s H E hr => pdb_one (pds_ret (pd_fz (pdl_lst (pda_cons (pd_str) (pda_cons (pd_str) (pda_cons (pd_str) (pda_cons (pd_str) (pda_cons (pd_str) (pda_nil)))))))))

abbrev s_law_needed : Stmt := topS 11
theorem sc_law_needed : FnScope ["kind"] ["kind"] (defScope s_law_needed) := ⟨rfl, rfl, rfl, by decide +kernel, rfl, by decide +kernel, by decide +kernel⟩
theorem ok_law_needed {a : Addr} {fd : FuncData} (Fu : Fun K "_law_needed" "_law_needed" s_law_needed a fd) : FnOk P w K mg base (L2.CX P w) 1 a fd ["kind"] (spF K 1 f_law_needed) :=
  fn_ok Fu sc_law_needed fun cdv A outer s H E hr => pdb_one (pds_ret (pd_dget (hu_of hr) (pd_fzD (pdd_disp (pdp_cons (pd_str) (pd_int) (pdp_cons (pd_str) (pd_int) (pdp_cons (pd_str) (pd_int) (pdp_cons (pd_str) (pd_int) (pdp_cons (pd_str) (pd_int) (pdp_nil)))))) (by rfl) (by rfl) (fun z => by cases z) (by decide))) (pd_var (pv 0)) (fun _ _ => rfl)))

abbrev s_law_placed : Stmt := topS 12
theorem sc_law_placed : FnScope ["bits", "widths", "kinds", "free", "found", "width", "k", "some", "at", "pattern", "node"] ["bits", "widths"] (defScope s_law_placed) := ⟨rfl, rfl, rfl, by decide +kernel, rfl, by decide +kernel, by decide +kernel⟩
theorem ok_law_placed {a : Addr} {fd : FuncData} (Fu : Fun K "_law_placed" "_law_placed" s_law_placed a fd) (c_law_needed : Callee P w K mg base 1 "_law_needed" ["kind"] f_law_needed) (c_law_kinds : Callee P w K mg base 1 "_law_kinds" [] f_law_kinds) (fr_sorted : mg "sorted" = none) (fr_enumerate : mg "enumerate" = none) : FnOk P w K mg base (L2.CX P w) 2 a fd ["bits", "widths"] (spF K 2 f_law_placed) :=
  fn_ok Fu sc_law_placed fun cdv A outer s H E hr => pdb_cons (pds_set (fun _ he => ps_set (i := 2) sc_law_placed.nd rfl (by first | exact .inl rfl | exact .inr rfl) he) (pd_call0C c_law_kinds (hr.mono (by decide)) (by rfl)))
  (pdb_cons (pds_set (fun _ he => ps_set (i := 3) sc_law_placed.nd rfl (by first | exact .inl rfl | exact .inr rfl) he) (pd_new (pdl_lst (pda_cons (pd_tup (pda_cons (pd_int) (pda_cons (pd_int) (pda_nil)))) (pda_nil)))))
  (pdb_cons (pds_setD (fun _ he => ps_set (i := 4) sc_law_placed.nd rfl (by first | exact .inl rfl | exact .inr rfl) he) (pdd_new))
  (pdb_cons (pds_for (pdi_it (pd_fz (pdl_bi bu_sortedP (by rfl) fr_sorted (by decide +kernel) (pdw_1 (pd_fz (pdl_comp (own := [("k", 6), ("width", 5)]) (pdi_enum (by rfl) fr_enumerate (pd_var (pv 1))) (blkOk_by (own := [("k", 6), ("width", 5)]) (N := ["bits", "widths", "kinds", "free", "found", "width", "k", "some", "at", "pattern", "node"]) (sc := defScope s_law_placed) (by decide +kernel)) (.tup [6, 5] (by decide)) (fun hc _ _ _ _ _ => pg_tup hc (pgs_cons (pg_name (i := 6) sc_law_placed.nd rfl (.inl rfl)) (pgs_cons (pg_name (i := 5) sc_law_placed.nd rfl (.inl rfl)) (pgs_nil)))) (fun _ _ _ _ _ => pdts_nil) (fun _ _ _ _ _ => pd_tup (pda_cons (pd_var (pv 5)) (pda_cons (pd_var (pv 6)) (pda_nil)))))))))) (pdg_tup (.cons (pg_name (i := 5) sc_law_placed.nd rfl (by first | exact .inl rfl | exact .inr rfl)) (.cons (pg_name (i := 6) sc_law_placed.nd rfl (by first | exact .inl rfl | exact .inr rfl)) (.nil) (by rfl)) (by rfl))) (pdb_cons (pds_setFw (comp_store (fun _ _ _ _ hi hg ht he hc hN => ps_setLc (i := 7) hc hN rfl rfl (sw_true rfl rfl rfl (by decide +kernel)) hi (blkOk_by (own := [("node", 10)]) (N := ["bits", "widths", "kinds", "free", "found", "width", "k", "some", "at", "pattern", "node"]) (sc := defScope s_law_placed) (by decide +kernel)) hg ht he) (own := [("node", 10)]) (pdi_it (pd_var (pv 3))) (blkOk_by (own := [("node", 10)]) (N := ["bits", "widths", "kinds", "free", "found", "width", "k", "some", "at", "pattern", "node"]) (sc := defScope s_law_placed) (by decide +kernel)) (.name 10 (by decide)) (fun _ _ _ _ _ _ => pg_name (i := 10) sc_law_placed.nd rfl (.inl rfl)) (fun _ _ _ _ _ => pdts_one (pdt_cmp dop_le (pd_ix (pd_var (pv 10)) (pd_int) (fun _ _ => rfl)) (pd_var (pv 5)) (nomark _))) (fun _ _ _ _ _ => pd_var (pv 10))))
  (pdb_cons (pds_if (pdt_w (pdw_or (pdt_cmp (dop_eq hr.units) (pd_var (pv 7)) (pd_fz (pdl_lst (pda_nil))) (nomark _)) (pdw_or1 (pdt_cmp dop_lt (pd_bin dop_sub (pd_var (pv 0)) (pd_var (pv 5))) (pd_callC c_law_needed (hr.mono (by decide)) (by rfl) (pda_cons (pd_ix (pd_var (pv 2)) (pd_var (pv 6)) (fun _ _ => rfl)) (pda_nil))) (nomark _))))) (pdb_one (pds_ret (pd_non))) (pdb_nil))
  (pdb_cons (pds_asg (pd_ix (pd_var (pv 7)) (pd_neg (pd_int)) (fun _ _ => rfl)) (pdg_tup (.cons (pg_name (i := 8) sc_law_placed.nd rfl (by first | exact .inl rfl | exact .inr rfl)) (.cons (pg_name (i := 9) sc_law_placed.nd rfl (by first | exact .inl rfl | exact .inr rfl)) (.nil) (by rfl)) (by rfl))))
  (pdb_cons (pds_expr (pd_me PySem.F.slot_list_remove PySem.F.type_list_remove (me_remove (hu65 hr)) (pd_var (pv 3)) (pda_cons (pd_tup (pda_cons (pd_var (pv 8)) (pda_cons (pd_var (pv 9)) (pda_nil)))) (pda_nil))))
  (pdb_cons (pds_while (pdt_cmp dop_lt (pd_var (pv 8)) (pd_var (pv 5)) (nomark _)) (pdb_cons (pds_expr (pd_me PySem.F.slot_list_append PySem.F.type_list_append me_append (pd_var (pv 3)) (pda_cons (pd_tup (pda_cons (pd_bin dop_add (pd_var (pv 8)) (pd_int)) (pda_cons (pd_bin dop_add (pd_var (pv 9)) (pd_bin dop_shl (pd_int) (pd_var (pv 8)))) (pda_nil)))) (pda_nil))))
  (pdb_one (pds_set (fun _ he => ps_set (i := 8) sc_law_placed.nd rfl (by first | exact .inl rfl | exact .inr rfl) he) (pd_bin dop_add (pd_var (pv 8)) (pd_int))))))
  (pdb_one (pds_dput (hu_of hr) (pd_var (pv 4)) (pd_ix (pd_var (pv 2)) (pd_var (pv 6)) (fun _ _ => rfl)) (pd_tup (pda_cons (pd_var (pv 5)) (pda_cons (pd_var (pv 9)) (pda_nil)))) rfl))))))))
  (pdb_one (pds_ret (pd_var (pv 4)))))))

abbrev s_law_rows : Stmt := topS 13
theorem sc_law_rows : FnScope ["found", "k", "longer", "row", "width"] [] (defScope s_law_rows) := ⟨rfl, rfl, rfl, by decide +kernel, rfl, by decide +kernel, by decide +kernel⟩
theorem ok_law_rows {a : Addr} {fd : FuncData} (Fu : Fun K "_law_rows" "_law_rows" s_law_rows a fd) (fr_range : mg "range" = none) : FnOk P w K mg base (L2.CX P w) 1 a fd [] (spF K 0 f_law_rows) :=
  fn_ok Fu sc_law_rows fun cdv A outer s H E hr => pdb_cons (pds_set (fun _ he => ps_set (i := 0) sc_law_rows.nd rfl (by first | exact .inl rfl | exact .inr rfl) he) (pd_fz (pdl_lst (pda_cons (pd_fz (pdl_lst (pda_nil))) (pda_nil)))))
  (pdb_cons (pds_for (pdi_range1 (by rfl) fr_range (pd_int)) (pdg_name (pg_name (i := 1) sc_law_rows.nd rfl (by first | exact .inl rfl | exact .inr rfl))) (pdb_cons (pds_setL (fun _ he => ps_set (i := 2) sc_law_rows.nd rfl (by first | exact .inl rfl | exact .inr rfl) he) (pdl_lst (pda_nil)))
  (pdb_cons (pds_for (pdi_it (pd_var (pv 0))) (pdg_name (pg_name (i := 3) sc_law_rows.nd rfl (by first | exact .inl rfl | exact .inr rfl))) (pdb_one (pds_expr (pd_me PySem.F.slot_list_extend PySem.F.type_list_extend me_extend (pd_var (pv 2)) (pda_cons (pd_fz (pdl_comp (own := [("width", 4)]) (pdi_range2 (by rfl) fr_range (pd_int) (pd_int)) (blkOk_by (own := [("width", 4)]) (N := ["found", "k", "longer", "row", "width"]) (sc := defScope s_law_rows) (by decide +kernel)) (.name 4 (by decide)) (fun _ _ _ _ _ _ => pg_name (i := 4) sc_law_rows.nd rfl (.inl rfl)) (fun _ _ _ _ _ => pdts_nil) (fun _ _ _ _ _ => pd_bin dop_add (pd_var (pv 3)) (pd_fz (pdl_lst (pda_cons (pd_var (pv 4)) (pda_nil))))))) (pda_nil))))))
  (pdb_one (pds_set (fun _ he => ps_set (i := 0) sc_law_rows.nd rfl (by first | exact .inl rfl | exact .inr rfl) he) (pd_var (pv 2)))))))
  (pdb_one (pds_ret (pd_var (pv 0)))))

abbrev s_law : Stmt := topS 14
theorem sc_law : FnScope ["script", "bag", "bits", "at", "more", "k", "row", "widths", "found", "wider", "less", "width"] ["script"] (defScope s_law) := ⟨rfl, rfl, rfl, by decide +kernel, rfl, by decide +kernel, by decide +kernel⟩
theorem ok_law {a : Addr} {fd : FuncData} (Fu : Fun K "law" "law" s_law a fd) (c_law_rows : Callee P w K mg base 1 "_law_rows" [] f_law_rows) (c_made : Callee P w K mg base 2 "made" ["bits", "widths"] f_made) (c_law_needed : Callee P w K mg base 1 "_law_needed" ["kind"] f_law_needed) (c_law_kinds : Callee P w K mg base 1 "_law_kinds" [] f_law_kinds) (c_law_placed : Callee P w K mg base 2 "_law_placed" ["bits", "widths"] f_law_placed) (c_law_draw : Callee P w K mg base 1 "_law_draw" ["bag", "many"] f_law_draw) (c_law_bag : Callee P w K mg base 1 "_law_bag" ["script"] f_law_bag) (fr_max : mg "max" = none) (fr_list : mg "list" = none) : FnOk P w K mg base (L2.CX P w) 3 a fd ["script"] (spF K 1 f_law) :=
  fn_ok Fu sc_law fun cdv A outer s H E hr => pdb_cons (pds_set (fun _ he => ps_set (i := 1) sc_law.nd rfl (by first | exact .inl rfl | exact .inr rfl) he) (pd_callC c_law_bag (hr.mono (by decide)) (by rfl) (pda_cons (pd_var (pv 0)) (pda_nil))))
  (pdb_cons (pds_set (fun _ he => ps_set (i := 2) sc_law.nd rfl (by first | exact .inl rfl | exact .inr rfl) he) (pd_ix (pd_fz (pdl_lst (pda_cons (pd_int) (pda_cons (pd_int) (pda_cons (pd_int) (pda_cons (pd_int) (pda_cons (pd_bin dop_add (pd_int) (pd_callC c_law_draw (hr.mono (by decide)) (by rfl) (pda_cons (pd_var (pv 1)) (pda_cons (pd_int) (pda_nil))))) (pda_nil)))))))) (pd_callC c_law_draw (hr.mono (by decide)) (by rfl) (pda_cons (pd_var (pv 1)) (pda_cons (pd_int) (pda_nil)))) (fun _ _ => rfl)))
  (pdb_cons (pds_set (fun _ he => ps_set (i := 3) sc_law.nd rfl (by first | exact .inl rfl | exact .inr rfl) he) (pd_callC c_law_draw (hr.mono (by decide)) (by rfl) (pda_cons (pd_var (pv 1)) (pda_cons (pd_int) (pda_nil)))))
  (pdb_cons (pds_set (fun _ he => ps_set (i := 4) sc_law.nd rfl (by first | exact .inl rfl | exact .inr rfl) he) (pd_ix (pd_fz (pdl_lst (pda_cons (pd_int) (pda_cons (pd_int) (pda_cons (pd_bin dop_add (pd_int) (pd_callC c_law_draw (hr.mono (by decide)) (by rfl) (pda_cons (pd_var (pv 1)) (pda_cons (pd_int) (pda_nil))))) (pda_nil)))))) (pd_callC c_law_draw (hr.mono (by decide)) (by rfl) (pda_cons (pd_var (pv 1)) (pda_cons (pd_int) (pda_nil)))) (fun _ _ => rfl)))
  (pdb_cons (pds_set (fun _ he => ps_set (i := 5) sc_law.nd rfl (by first | exact .inl rfl | exact .inr rfl) he) (pd_callC c_law_draw (hr.mono (by decide)) (by rfl) (pda_cons (pd_var (pv 1)) (pda_cons (pd_int) (pda_nil)))))
  (pdb_cons (pds_for (pdi_it (pd_fz (pdl_sl3 (pd_call0C c_law_rows (hr.mono (by decide)) (by rfl)) (pdo_some (pd_var (pv 3))) (pdo_none) (pdo_some (pd_int))))) (pdg_name (pg_name (i := 6) sc_law.nd rfl (by first | exact .inl rfl | exact .inr rfl))) (pdb_cons (pds_set (fun _ he => ps_set (i := 7) sc_law.nd rfl (by first | exact .inl rfl | exact .inr rfl) he) (pd_bin dop_add (pd_bin dop_add (pd_sl (pd_var (pv 6)) (pdo_none) (pdo_some (pd_var (pv 5)))) (pd_fz (pdl_lst (pda_cons (pd_bin dop_add (pd_ix (pd_var (pv 6)) (pd_var (pv 5)) (fun _ _ => rfl)) (pd_var (pv 4))) (pda_nil))))) (pd_sl (pd_var (pv 6)) (pdo_some (pd_bin dop_add (pd_var (pv 5)) (pd_int))) (pdo_none))))
  (pdb_cons (pds_set (fun _ he => ps_set (i := 8) sc_law.nd rfl (by first | exact .inl rfl | exact .inr rfl) he) (pd_callC c_made (hr.mono (by decide)) (by rfl) (pda_cons (pd_var (pv 2)) (pda_cons (pd_fz (pdl_ty bu_list (by rfl) fr_list (by decide +kernel) (pdw_1 (pd_var (pv 7))))) (pda_nil)))))
  (pdb_cons (pds_if (pdt_cmp (dop_ne hr.units) (pd_cmp dop_is (pd_var (pv 8)) (pd_non) (nomark _)) (pd_cmp dop_is (pd_callC c_law_placed (hr.mono (by decide)) (by rfl) (pda_cons (pd_var (pv 2)) (pda_cons (pd_var (pv 7)) (pda_nil)))) (pd_non) (nomark _)) (nomark _)) (pdb_one (pds_ret (pd_bl))) (pdb_nil))
  (pdb_cons (pds_set (fun _ he => ps_set (i := 9) sc_law.nd rfl (by first | exact .inl rfl | exact .inr rfl) he) (pd_bin dop_add (pd_bin dop_add (pd_sl (pd_var (pv 7)) (pdo_none) (pdo_some (pd_var (pv 5)))) (pd_fz (pdl_lst (pda_cons (pd_bin dop_add (pd_ix (pd_var (pv 7)) (pd_var (pv 5)) (fun _ _ => rfl)) (pd_int)) (pda_nil))))) (pd_sl (pd_var (pv 7)) (pdo_some (pd_bin dop_add (pd_var (pv 5)) (pd_int))) (pdo_none))))
  (pdb_cons (pds_setFw (comp_store (fun _ _ _ _ hi hg ht he hc hN => ps_setLc (i := 10) hc hN rfl rfl (sw_true rfl rfl rfl (by decide +kernel)) hi (blkOk_by (own := [("width", 11)]) (N := ["script", "bag", "bits", "at", "more", "k", "row", "widths", "found", "wider", "less", "width"]) (sc := defScope s_law) (by decide +kernel)) hg ht he) (own := [("width", 11)]) (pdi_it (pd_var (pv 7))) (blkOk_by (own := [("width", 11)]) (N := ["script", "bag", "bits", "at", "more", "k", "row", "widths", "found", "wider", "less", "width"]) (sc := defScope s_law) (by decide +kernel)) (.name 11 (by decide)) (fun _ _ _ _ _ _ => pg_name (i := 11) sc_law.nd rfl (.inl rfl)) (fun _ _ _ _ _ => pdts_nil) (fun _ _ _ _ _ => pd_bi (bu_max2 (by rfl)) (by rfl) fr_max (by decide +kernel) (pdw_2 (pd_int) (pd_bin dop_sub (pd_var (pv 11)) (pd_int))))))
  (pdb_cons (pds_if (pdt_w (pdw_and (pdt_cmp dop_isnot (pd_var (pv 8)) (pd_non) (nomark _)) (pdw_and (pdt_cmp dop_ge (pd_bin dop_sub (pd_var (pv 2)) (pd_ix (pd_var (pv 9)) (pd_var (pv 5)) (fun _ _ => rfl))) (pd_callC c_law_needed (hr.mono (by decide)) (by rfl) (pda_cons (pd_ix (pd_call0C c_law_kinds (hr.mono (by decide)) (by rfl)) (pd_var (pv 5)) (fun _ _ => rfl)) (pda_nil))) (nomark _)) (pdw_and1 (pdt_cmp dop_is (pd_callC c_made (hr.mono (by decide)) (by rfl) (pda_cons (pd_var (pv 2)) (pda_cons (pd_var (pv 9)) (pda_nil)))) (pd_non) (nomark _)))))) (pdb_one (pds_ret (pd_bl))) (pdb_nil))
  (pdb_one (pds_if (pdt_w (pdw_and (pdt_cmp dop_is (pd_var (pv 8)) (pd_non) (nomark _)) (pdw_and (pdt_cmp dop_gt (pd_bin dop_sub (pd_var (pv 2)) (pd_bi (bu_max (by rfl)) (by rfl) fr_max (by decide +kernel) (pdw_1 (pd_var (pv 7))))) (pd_int) (nomark _)) (pdw_and1 (pdt_cmp dop_isnot (pd_callC c_made (hr.mono (by decide)) (by rfl) (pda_cons (pd_var (pv 2)) (pda_cons (pd_var (pv 10)) (pda_nil)))) (pd_non) (nomark _)))))) (pdb_one (pds_ret (pd_bl))) (pdb_nil))))))))))
  (pdb_one (pds_ret (pd_bl))))))))
end
/-! ### turned, fits, made -/
/-- the bits of a code turned about -/
def turnI : Nat → Int → Int → Int
  | 0, _, found => found
  | n + 1, code, found => turnI n (code / 2) (found * 2 + code.fmod 2)
theorem mulSmall {i j : Int} (h : -(2 ^ 64) < j ∧ j < 2 ^ 64) : IntMulOk i j := CMul.ok (.inr h)
theorem turned_loop {M : MS} {E : DEnds} {w : Int} {C : MS → Prop} (hC : ∀ M, C M) : ∀ (n : Nat) (lo code found : Int) (k : SV), (∀ code' k', E.nx [.d (.int code'), .d (.int w), .d (.int (turnI n code found)), k'] M) →
    dForL C (dgName 3) (dSeq (dSet 2 (dBin addR (dBin mulR (dVar 2) (dC (.int 2))) (dBin modR (dVar 0) (dC (.int 2))))) (dSet 0 (dBin fdivR (dVar 0) (dC (.int 2))))) E (rngL lo n) [.d (.int code), .d (.int w), .d (.int found), k] M
  | 0, lo, code, found, k, h => ⟨hC M, h code k⟩
  | n + 1, lo, code, found, k, h => by
    unfold rngL
    simp only [fnD, dSeq, dSet, dSetL, dSetD, dUse, use, look, dC, dVar, dBin, dChain, dTst, dAnd, dOr, dNot, dAndV, dOrV, dNotV, dIf, dIfS, dNext, dRet, dRetN, dExpr, dAsg, dPar, dgName, dgTup, putAll, dFor, dForL, dIt, dSl, dSlL, dNoO, dSoO, dLst, dFz, dNew, dFzD, dNewD, dCons, dNil, dTup, dBu, dBuL, dLook1, dLook2, dLook3, dCall, dCall0, dLc, dLcL, wipeD, backD, dYes, dZip, dEnum, dDnew, dDisp, dPNil, dPCons, keysD, keyD, dDget, dDput, dKget, onD, onL, dMe, isL, dgSub, dRange1, dRange2, dWhile, dBreak, dCont, dNeg, dDin, dSl3, dSortZ, dDgetOr1, dDgetOr2, List.map, List.replicate, List.map_cons, List.map_nil, List.length_cons, List.length_nil, List.cons_append, List.nil_append, List.append_nil, List.set_cons_zero, List.set_cons_succ, List.getElem?_cons_zero, List.getElem?_cons_succ, List.replicate_succ, List.replicate_zero, Nat.reduceAdd, Nat.reduceSub, cond_true, cond_false, items_lst, items_frl, items_tup, items_str, iiR, i1R, i2R, addR, subR, mulR, fdivR, modR, powR, shlR, shrR, xorR, ltR, leR, gtR, geR, isR, isNo, lenR, absR, max2R, min2R, intR]
    refine ⟨hC M, mulSmall (by omega), by decide, ⟨by decide, by decide⟩, ?_⟩
    exact turned_loop hC n (lo + 1) (code / 2) (found * 2 + code.fmod 2) _ h
theorem sp_turned {M : MS} {Q : D → MS → Prop} {E : Exc → MS → Prop} {c w : Int} (h0 : -(2 ^ 62) ≤ w) (h1 : w < 2 ^ 62) (h : Q (.int (turnI w.toNat c 0)) M) : f_turned [.int c, .int w] M Q E := by
  unfold f_turned b_turned
  simp only [fnD, dSeq, dSet, dSetL, dSetD, dUse, use, look, dC, dVar, dBin, dChain, dTst, dAnd, dOr, dNot, dAndV, dOrV, dNotV, dIf, dIfS, dNext, dRet, dRetN, dExpr, dAsg, dPar, dgName, dgTup, putAll, dFor, dForL, dIt, dSl, dSlL, dNoO, dSoO, dLst, dFz, dNew, dFzD, dNewD, dCons, dNil, dTup, dBu, dBuL, dLook1, dLook2, dLook3, dCall, dCall0, dLc, dLcL, wipeD, backD, dYes, dZip, dEnum, dDnew, dDisp, dPNil, dPCons, keysD, keyD, dDget, dDput, dKget, onD, onL, dMe, isL, dgSub, dRange1, dRange2, dWhile, dBreak, dCont, dNeg, dDin, dSl3, dSortZ, dDgetOr1, dDgetOr2, List.map, List.replicate, List.map_cons, List.map_nil, List.length_cons, List.length_nil, List.cons_append, List.nil_append, List.append_nil, List.set_cons_zero, List.set_cons_succ, List.getElem?_cons_zero, List.getElem?_cons_succ, List.replicate_succ, List.replicate_zero, Nat.reduceAdd, Nat.reduceSub, cond_true, cond_false, items_lst, items_frl, items_tup, items_str, iiR, i1R, i2R, addR, subR, mulR, fdivR, modR, powR, shlR, shrR, xorR, ltR, leR, gtR, geR, isR, isNo, lenR, absR, max2R, min2R, intR]
  refine ⟨h0, h1, turned_loop (fun _ => trivial) _ _ _ _ _ fun code' k' => ?_⟩
  simp only [fnD, dSeq, dSet, dSetL, dSetD, dUse, use, look, dC, dVar, dBin, dChain, dTst, dAnd, dOr, dNot, dAndV, dOrV, dNotV, dIf, dIfS, dNext, dRet, dRetN, dExpr, dAsg, dPar, dgName, dgTup, putAll, dFor, dForL, dIt, dSl, dSlL, dNoO, dSoO, dLst, dFz, dNew, dFzD, dNewD, dCons, dNil, dTup, dBu, dBuL, dLook1, dLook2, dLook3, dCall, dCall0, dLc, dLcL, wipeD, backD, dYes, dZip, dEnum, dDnew, dDisp, dPNil, dPCons, keysD, keyD, dDget, dDput, dKget, onD, onL, dMe, isL, dgSub, dRange1, dRange2, dWhile, dBreak, dCont, dNeg, dDin, dSl3, dSortZ, dDgetOr1, dDgetOr2, List.map, List.replicate, List.map_cons, List.map_nil, List.length_cons, List.length_nil, List.cons_append, List.nil_append, List.append_nil, List.set_cons_zero, List.set_cons_succ, List.getElem?_cons_zero, List.getElem?_cons_succ, List.replicate_succ, List.replicate_zero, Nat.reduceAdd, Nat.reduceSub, cond_true, cond_false, items_lst, items_frl, items_tup, items_str, iiR, i1R, i2R, addR, subR, mulR, fdivR, modR, powR, shlR, shrR, xorR, ltR, leR, gtR, geR, isR, isNo, lenR, absR, max2R, min2R, intR]
  exact h
def needL : List (Str × Int) := [("small", 2), ("far", 3), ("pair", 3), ("sign", 7), ("one", 2)]
def kindsL : List Str := ["small", "far", "pair", "sign", "one"]
theorem kinds_items : itemsD g_KINDS = some (kindsL.map D.str) := rfl
theorem need_kinds : needL.map (·.1) = kindsL := rfl
def Fits (bits : Int) (ws : List Int) : Prop := (∀ p ∈ needL.zip ws, ¬ bits - p.2 < p.1.2) ∧ (ws.map fun w => (1 : Int) * 2 ^ (40 - w).toNat).sum ≤ 1 * 2 ^ (40 : Int).toNat
theorem fits_comp {bits : Int} {xs1 : SV} {M : MS} {k : List D → DS → MS → Prop} : ∀ (kns : List (Str × Int)) (ws : List Int) (acc : List Str) (s2 s3 : SV),
    (∀ q ∈ kns, g_NEEDED.lookup q.1 = some (.int q.2) ∧ PyData.strOk q.1 = true) → (∀ x ∈ acc, PyData.strOk x = true) → acc.length + kns.length < sizeLine →
    (∀ acc' s2' s3', (acc' = [] ↔ acc = [] ∧ ∀ p ∈ kns.zip ws, ¬ bits - p.2 < p.1.2) → (∀ x ∈ acc', PyData.strOk x = true) → k (acc'.map D.str) [.d (.int bits), xs1, s2', s3'] M) →
    dLcL noC (dgTup [2, 3]) (dTst (dBin ltR (dBin subR (dVar 0) (dVar 3)) (dKget g_NEEDED (dVar 2)))) (dVar 2) [2, 3] k (zipT ((kns.map (·.1)).map D.str) (ws.map D.int)) (acc.map D.str) [.d (.int bits), xs1, s2, s3] M
  | [], ws, acc, s2, s3, hk, ha, hl, h => ⟨trivial, h acc s2 s3 (by simp) ha⟩
  | _ :: _, [], acc, s2, s3, hk, ha, hl, h => ⟨trivial, h acc s2 s3 (by simp) ha⟩
  | (kd, nd) :: kns, w :: ws, acc, s2, s3, hk, ha, hl, h => by
    have e1 : zipT ((((kd, nd) :: kns).map (·.1)).map D.str) ((w :: ws).map D.int) = .tup [.str kd, .int w] :: zipT ((kns.map (·.1)).map D.str) (ws.map D.int) := rfl
    rw [e1]
    obtain ⟨hkd, hok⟩ := hk _ List.mem_cons_self
    dsimp only at hkd hok
    have hk' : ∀ q ∈ kns, g_NEEDED.lookup q.1 = some (.int q.2) ∧ PyData.strOk q.1 = true := fun q hq => hk q (List.mem_cons_of_mem _ hq)
    simp only [fnD, dSeq, dSet, dSetL, dSetD, dUse, use, look, dC, dVar, dBin, dChain, dTst, dAnd, dOr, dNot, dAndV, dOrV, dNotV, dIf, dIfS, dNext, dRet, dRetN, dExpr, dAsg, dPar, dgName, dgTup, putAll, dFor, dForL, dIt, dSl, dSlL, dNoO, dSoO, dLst, dFz, dNew, dFzD, dNewD, dCons, dNil, dTup, dBu, dBuL, dLook1, dLook2, dLook3, dCall, dCall0, dLc, dLcL, wipeD, backD, dYes, dZip, dEnum, dDnew, dDisp, dPNil, dPCons, keysD, keyD, dDget, dDput, dKget, onD, onL, dMe, isL, dgSub, dRange1, dRange2, dWhile, dBreak, dCont, dNeg, dDin, dSl3, dSortZ, dDgetOr1, dDgetOr2, List.map, List.replicate, List.map_cons, List.map_nil, List.length_cons, List.length_nil, List.cons_append, List.nil_append, List.append_nil, List.set_cons_zero, List.set_cons_succ, List.getElem?_cons_zero, List.getElem?_cons_succ, List.replicate_succ, List.replicate_zero, Nat.reduceAdd, Nat.reduceSub, cond_true, cond_false, items_lst, items_frl, items_tup, items_str, iiR, i1R, i2R, addR, subR, mulR, fdivR, modR, powR, shlR, shrR, xorR, ltR, leR, gtR, geR, isR, isNo, lenR, absR, max2R, min2R, intR, hkd]
    refine ⟨trivial, trivial, trivial, trivial, ?_⟩
    by_cases hlt : bits - w < nd
    · rw [decide_eq_true hlt]
      simp only [fnD, dSeq, dSet, dSetL, dSetD, dUse, use, look, dC, dVar, dBin, dChain, dTst, dAnd, dOr, dNot, dAndV, dOrV, dNotV, dIf, dIfS, dNext, dRet, dRetN, dExpr, dAsg, dPar, dgName, dgTup, putAll, dFor, dForL, dIt, dSl, dSlL, dNoO, dSoO, dLst, dFz, dNew, dFzD, dNewD, dCons, dNil, dTup, dBu, dBuL, dLook1, dLook2, dLook3, dCall, dCall0, dLc, dLcL, wipeD, backD, dYes, dZip, dEnum, dDnew, dDisp, dPNil, dPCons, keysD, keyD, dDget, dDput, dKget, onD, onL, dMe, isL, dgSub, dRange1, dRange2, dWhile, dBreak, dCont, dNeg, dDin, dSl3, dSortZ, dDgetOr1, dDgetOr2, List.map, List.replicate, List.map_cons, List.map_nil, List.length_cons, List.length_nil, List.cons_append, List.nil_append, List.append_nil, List.set_cons_zero, List.set_cons_succ, List.getElem?_cons_zero, List.getElem?_cons_succ, List.replicate_succ, List.replicate_zero, Nat.reduceAdd, Nat.reduceSub, cond_true, cond_false, items_lst, items_frl, items_tup, items_str, iiR, i1R, i2R, addR, subR, mulR, fdivR, modR, powR, shlR, shrR, xorR, ltR, leR, gtR, geR, isR, isNo, lenR, absR, max2R, min2R, intR]
      refine ⟨by rw [List.length_map]; simp only [List.length_cons] at hl; omega, ?_⟩
      have := fits_comp (bits := bits) (xs1 := xs1) (M := M) (k := k) kns ws (acc ++ [kd]) .no .no hk' (fun x hx => by
        rcases List.mem_append.mp hx with hx | hx
        · exact ha x hx
        · rw [List.mem_singleton.mp hx]; exact hok) (by simp only [List.length_append, List.length_cons, List.length_nil] at hl ⊢; omega) fun acc' s2' s3' hi => h acc' s2' s3' (by
          rw [hi]
          constructor
          · rintro ⟨q, _⟩
            simp at q
          · rintro ⟨_, q⟩
            exact absurd hlt (q ((kd, nd), w) (by rw [List.zip_cons_cons]; exact List.mem_cons_self)))
      rw [List.map_append] at this
      exact this
    · rw [decide_eq_false hlt]
      simp only [fnD, dSeq, dSet, dSetL, dSetD, dUse, use, look, dC, dVar, dBin, dChain, dTst, dAnd, dOr, dNot, dAndV, dOrV, dNotV, dIf, dIfS, dNext, dRet, dRetN, dExpr, dAsg, dPar, dgName, dgTup, putAll, dFor, dForL, dIt, dSl, dSlL, dNoO, dSoO, dLst, dFz, dNew, dFzD, dNewD, dCons, dNil, dTup, dBu, dBuL, dLook1, dLook2, dLook3, dCall, dCall0, dLc, dLcL, wipeD, backD, dYes, dZip, dEnum, dDnew, dDisp, dPNil, dPCons, keysD, keyD, dDget, dDput, dKget, onD, onL, dMe, isL, dgSub, dRange1, dRange2, dWhile, dBreak, dCont, dNeg, dDin, dSl3, dSortZ, dDgetOr1, dDgetOr2, List.map, List.replicate, List.map_cons, List.map_nil, List.length_cons, List.length_nil, List.cons_append, List.nil_append, List.append_nil, List.set_cons_zero, List.set_cons_succ, List.getElem?_cons_zero, List.getElem?_cons_succ, List.replicate_succ, List.replicate_zero, Nat.reduceAdd, Nat.reduceSub, cond_true, cond_false, items_lst, items_frl, items_tup, items_str, iiR, i1R, i2R, addR, subR, mulR, fdivR, modR, powR, shlR, shrR, xorR, ltR, leR, gtR, geR, isR, isNo, lenR, absR, max2R, min2R, intR]
      refine fits_comp kns ws acc .no .no hk' ha (by simp only [List.length_cons] at hl; omega) fun acc' s2' s3' hi => h acc' s2' s3' (by
        rw [hi]
        refine and_congr_right fun _ => ⟨fun q p hp => ?_, fun q p hp => q p (by rw [List.zip_cons_cons]; exact List.mem_cons_of_mem _ hp)⟩
        rw [List.zip_cons_cons] at hp
        rcases List.mem_cons.mp hp with rfl | hp
        · exact hlt
        · exact q p hp)
theorem sum_comp {M : MS} {k : List D → DS → MS → Prop} {xs0 xs1 xs2 : SV} : ∀ (ws : List Int) (acc : List Int) (s3 : SV), (∀ w ∈ ws, 0 ≤ w ∧ w ≤ 40) → acc.length + ws.length < sizeLine →
    (∀ s3', k ((acc ++ ws.map fun w => (1 : Int) * 2 ^ (40 - w).toNat).map D.int) [xs0, xs1, xs2, s3'] M) →
    dLcL noC (dgName 3) dYes (dBin shlR (dC (.int 1)) (dBin subR (dC g_MOST_WIDTH) (dVar 3))) [3] k (ws.map D.int) (acc.map D.int) [xs0, xs1, xs2, s3] M
  | [], acc, s3, hw, hl, h => ⟨trivial, by have := h s3; rw [List.map_nil, List.append_nil] at this; exact this⟩
  | w :: ws, acc, s3, hw, hl, h => by
    obtain ⟨w0, w1⟩ := hw w List.mem_cons_self
    simp only [fnD, dSeq, dSet, dSetL, dSetD, dUse, use, look, dC, dVar, dBin, dChain, dTst, dAnd, dOr, dNot, dAndV, dOrV, dNotV, dIf, dIfS, dNext, dRet, dRetN, dExpr, dAsg, dPar, dgName, dgTup, putAll, dFor, dForL, dIt, dSl, dSlL, dNoO, dSoO, dLst, dFz, dNew, dFzD, dNewD, dCons, dNil, dTup, dBu, dBuL, dLook1, dLook2, dLook3, dCall, dCall0, dLc, dLcL, wipeD, backD, dYes, dZip, dEnum, dDnew, dDisp, dPNil, dPCons, keysD, keyD, dDget, dDput, dKget, onD, onL, dMe, isL, dgSub, dRange1, dRange2, dWhile, dBreak, dCont, dNeg, dDin, dSl3, dSortZ, dDgetOr1, dDgetOr2, List.map, List.replicate, List.map_cons, List.map_nil, List.length_cons, List.length_nil, List.cons_append, List.nil_append, List.append_nil, List.set_cons_zero, List.set_cons_succ, List.getElem?_cons_zero, List.getElem?_cons_succ, List.replicate_succ, List.replicate_zero, Nat.reduceAdd, Nat.reduceSub, cond_true, cond_false, items_lst, items_frl, items_tup, items_str, iiR, i1R, i2R, addR, subR, mulR, fdivR, modR, powR, shlR, shrR, xorR, ltR, leR, gtR, geR, isR, isNo, lenR, absR, max2R, min2R, intR, g_MOST_WIDTH]
    refine ⟨trivial, trivial, ⟨by omega, ?_⟩, by rw [List.length_map]; simp only [List.length_cons] at hl; omega, ?_⟩
    · have : Builtin.Int.intBits 1 ≤ 64 := intBits_le_64 (by decide) (by decide)
      omega
    · have := sum_comp (xs0 := xs0) (xs1 := xs1) (xs2 := xs2) (M := M) (k := k) ws (acc ++ [(1 : Int) * 2 ^ (40 - w).toNat]) .no (fun x hx => hw x (List.mem_cons_of_mem _ hx)) (by simp only [List.length_append, List.length_cons, List.length_nil] at hl ⊢; omega) fun s3' => by
        have := h s3'
        rw [List.map_cons] at this
        rw [List.append_assoc]
        exact this
      rw [List.map_append] at this
      exact this
theorem need_facts : ∀ q ∈ needL, g_NEEDED.lookup q.1 = some (.int q.2) ∧ PyData.strOk q.1 = true := by
  intro q hq
  simp only [needL, List.mem_cons, List.not_mem_nil, or_false] at hq
  rcases hq with rfl | rfl | rfl | rfl | rfl <;> exact ⟨rfl, by decide +kernel⟩
theorem strs_noB {acc : List Str} (ha : ∀ x ∈ acc, PyData.strOk x = true) : noB (.lst (acc.map D.str)) = true := by
  simp only [noB]
  refine noBA_of fun x hx => ?_
  obtain ⟨z, hz, rfl⟩ := List.mem_map.mp hx
  simp only [noB]
  exact ha z hz
theorem strs_depth {acc : List Str} : (toPy (.lst (acc.map D.str))).depth ≤ 64 := Nat.le_trans (depth_lst (n := 0) fun x hx => by
  obtain ⟨z, hz, rfl⟩ := List.mem_map.mp hx
  exact depth_str z) (by decide)
theorem sp_fits {M : MS} {Q : D → MS → Prop} {E : Exc → MS → Prop} {bits : Int} {ws : List Int} (hw : ∀ w ∈ ws, 0 ≤ w ∧ w ≤ 40) (hl : ws.length ≤ 1000) (ht : Fits bits ws → Q (.bl true) M) (hf : ¬ Fits bits ws → Q (.bl false) M) : f_fits [.int bits, .lst (ws.map D.int)] M Q E := by
  unfold f_fits b_fits
  simp only [fnD, dSeq, dSet, dSetL, dSetD, dUse, use, look, dC, dVar, dBin, dChain, dTst, dAnd, dOr, dNot, dAndV, dOrV, dNotV, dIf, dIfS, dNext, dRet, dRetN, dExpr, dAsg, dPar, dgName, dgTup, putAll, dFor, dForL, dIt, dSl, dSlL, dNoO, dSoO, dLst, dFz, dNew, dFzD, dNewD, dCons, dNil, dTup, dBu, dBuL, dLook1, dLook2, dLook3, dCall, dCall0, dLc, dLcL, wipeD, backD, dYes, dZip, dEnum, dDnew, dDisp, dPNil, dPCons, keysD, keyD, dDget, dDput, dKget, onD, onL, dMe, isL, dgSub, dRange1, dRange2, dWhile, dBreak, dCont, dNeg, dDin, dSl3, dSortZ, dDgetOr1, dDgetOr2, List.map, List.replicate, List.map_cons, List.map_nil, List.length_cons, List.length_nil, List.cons_append, List.nil_append, List.append_nil, List.set_cons_zero, List.set_cons_succ, List.getElem?_cons_zero, List.getElem?_cons_succ, List.replicate_succ, List.replicate_zero, Nat.reduceAdd, Nat.reduceSub, cond_true, cond_false, items_lst, items_frl, items_tup, items_str, kinds_items, ← need_kinds]
  refine fits_comp needL ws [] _ _ need_facts (fun x hx => by simp at hx) (by simp [needL, sizeLine_eq]) fun acc' s2 s3 hi ha => ?_
  simp only [fnD, dSeq, dSet, dSetL, dSetD, dUse, use, look, dC, dVar, dBin, dChain, dTst, dAnd, dOr, dNot, dAndV, dOrV, dNotV, dIf, dIfS, dNext, dRet, dRetN, dExpr, dAsg, dPar, dgName, dgTup, putAll, dFor, dForL, dIt, dSl, dSlL, dNoO, dSoO, dLst, dFz, dNew, dFzD, dNewD, dCons, dNil, dTup, dBu, dBuL, dLook1, dLook2, dLook3, dCall, dCall0, dLc, dLcL, wipeD, backD, dYes, dZip, dEnum, dDnew, dDisp, dPNil, dPCons, keysD, keyD, dDget, dDput, dKget, onD, onL, dMe, isL, dgSub, dRange1, dRange2, dWhile, dBreak, dCont, dNeg, dDin, dSl3, dSortZ, dDgetOr1, dDgetOr2, List.map, List.replicate, List.map_cons, List.map_nil, List.length_cons, List.length_nil, List.cons_append, List.nil_append, List.append_nil, List.set_cons_zero, List.set_cons_succ, List.getElem?_cons_zero, List.getElem?_cons_succ, List.replicate_succ, List.replicate_zero, Nat.reduceAdd, Nat.reduceSub, cond_true, cond_false, items_lst, items_frl, items_tup, items_str]
  refine ⟨by decide, ?_⟩
  refine eqR_data (strs_noB ha) rfl strs_depth (by decide) (fun e => ?_) fun e => ?_
  · have e' : acc' = [] := by simpa using e
    have hA := (hi.mp e').2
    simp only [fnD, dSeq, dSet, dSetL, dSetD, dUse, use, look, dC, dVar, dBin, dChain, dTst, dAnd, dOr, dNot, dAndV, dOrV, dNotV, dIf, dIfS, dNext, dRet, dRetN, dExpr, dAsg, dPar, dgName, dgTup, putAll, dFor, dForL, dIt, dSl, dSlL, dNoO, dSoO, dLst, dFz, dNew, dFzD, dNewD, dCons, dNil, dTup, dBu, dBuL, dLook1, dLook2, dLook3, dCall, dCall0, dLc, dLcL, wipeD, backD, dYes, dZip, dEnum, dDnew, dDisp, dPNil, dPCons, keysD, keyD, dDget, dDput, dKget, onD, onL, dMe, isL, dgSub, dRange1, dRange2, dWhile, dBreak, dCont, dNeg, dDin, dSl3, dSortZ, dDgetOr1, dDgetOr2, List.map, List.replicate, List.map_cons, List.map_nil, List.length_cons, List.length_nil, List.cons_append, List.nil_append, List.append_nil, List.set_cons_zero, List.set_cons_succ, List.getElem?_cons_zero, List.getElem?_cons_succ, List.replicate_succ, List.replicate_zero, Nat.reduceAdd, Nat.reduceSub, cond_true, cond_false, items_lst, items_frl, items_tup, items_str]
    refine sum_comp ws [] _ hw (by simp only [List.length_nil]; rw [sizeLine_eq]; omega) fun s3' => ?_
    simp only [fnD, dSeq, dSet, dSetL, dSetD, dUse, use, look, dC, dVar, dBin, dChain, dTst, dAnd, dOr, dNot, dAndV, dOrV, dNotV, dIf, dIfS, dNext, dRet, dRetN, dExpr, dAsg, dPar, dgName, dgTup, putAll, dFor, dForL, dIt, dSl, dSlL, dNoO, dSoO, dLst, dFz, dNew, dFzD, dNewD, dCons, dNil, dTup, dBu, dBuL, dLook1, dLook2, dLook3, dCall, dCall0, dLc, dLcL, wipeD, backD, dYes, dZip, dEnum, dDnew, dDisp, dPNil, dPCons, keysD, keyD, dDget, dDput, dKget, onD, onL, dMe, isL, dgSub, dRange1, dRange2, dWhile, dBreak, dCont, dNeg, dDin, dSl3, dSortZ, dDgetOr1, dDgetOr2, List.map, List.replicate, List.map_cons, List.map_nil, List.length_cons, List.length_nil, List.cons_append, List.nil_append, List.append_nil, List.set_cons_zero, List.set_cons_succ, List.getElem?_cons_zero, List.getElem?_cons_succ, List.replicate_succ, List.replicate_zero, Nat.reduceAdd, Nat.reduceSub, cond_true, cond_false, items_lst, items_frl, items_tup, items_str, iiR, i1R, i2R, addR, subR, mulR, fdivR, modR, powR, shlR, shrR, xorR, ltR, leR, gtR, geR, isR, isNo, lenR, absR, max2R, min2R, intR, g_MOST_WIDTH, sumR, lstI, intsD_map]
    refine ⟨⟨by decide, by decide +kernel⟩, trivial, ?_⟩
    by_cases hs : (ws.map fun w => (1 : Int) * 2 ^ (40 - w).toNat).sum ≤ 1 * 2 ^ (40 : Int).toNat
    · rw [decide_eq_true hs]
      exact ht ⟨hA, hs⟩
    · rw [decide_eq_false hs]
      exact hf fun q => hs q.2
  · have e' : acc' ≠ [] := by simpa using e
    simp only [fnD, dSeq, dSet, dSetL, dSetD, dUse, use, look, dC, dVar, dBin, dChain, dTst, dAnd, dOr, dNot, dAndV, dOrV, dNotV, dIf, dIfS, dNext, dRet, dRetN, dExpr, dAsg, dPar, dgName, dgTup, putAll, dFor, dForL, dIt, dSl, dSlL, dNoO, dSoO, dLst, dFz, dNew, dFzD, dNewD, dCons, dNil, dTup, dBu, dBuL, dLook1, dLook2, dLook3, dCall, dCall0, dLc, dLcL, wipeD, backD, dYes, dZip, dEnum, dDnew, dDisp, dPNil, dPCons, keysD, keyD, dDget, dDput, dKget, onD, onL, dMe, isL, dgSub, dRange1, dRange2, dWhile, dBreak, dCont, dNeg, dDin, dSl3, dSortZ, dDgetOr1, dDgetOr2, List.map, List.replicate, List.map_cons, List.map_nil, List.length_cons, List.length_nil, List.cons_append, List.nil_append, List.append_nil, List.set_cons_zero, List.set_cons_succ, List.getElem?_cons_zero, List.getElem?_cons_succ, List.replicate_succ, List.replicate_zero, Nat.reduceAdd, Nat.reduceSub, cond_true, cond_false, items_lst, items_frl, items_tup, items_str]
    exact hf fun q => e' (hi.mpr ⟨rfl, q.1⟩)
/-! ### made -/
/-- kind, width, pattern: one by one -/
def asg : List (Int × Str) → Int → Int → List (Str × Int × Int)
  | [], _, _ => []
  | (w, k) :: r, code, last => (k, w, turnI w.toNat (code * 2 ^ (w - last).toNat) 0) :: asg r (code * 2 ^ (w - last).toNat + 1) w
def patD (q : Str × Int × Int) : Key × D := (.inr q.1, .int q.2.2)
theorem valD_none {l : List (Key × D)} {k : Key} (h : k ∉ l.map (·.1)) : valD l k = none := by
  unfold valD
  rw [Option.map_eq_none_iff, List.find?_eq_none]
  intro x hx e
  exact h (List.mem_map.mpr ⟨x, hx, by simpa using e⟩)
theorem putD_new {l : List (Key × D)} {k : Key} {x : D} (h : k ∉ l.map (·.1)) : putD l k x = l ++ [(k, x)] := by
  unfold putD
  rw [if_neg]
  intro e
  obtain ⟨y, hy, e⟩ := List.any_eq_true.mp e
  exact h (List.mem_map.mpr ⟨y, hy, by simpa using e⟩)
theorem patD_keys (l : List (Str × Int × Int)) : (l.map patD).map (·.1) = (l.map (·.1)).map Sum.inr := by
  rw [List.map_map, List.map_map]; rfl
theorem pow_pos' (n : Nat) : (0 : Int) < 2 ^ n := Int.pow_pos (by decide)
theorem bits64 {i : Int} (h0 : -(2 ^ 64) < i) (h1 : i < 2 ^ 64) : (Builtin.Int.intBits i : Int) ≤ 64 := by
  have := intBits_le_64 h0 h1
  omega
theorem code_step {n : Nat} {code last w : Int} (hl : 0 ≤ last) (hlw : last ≤ w) (hc : 0 ≤ code) (hn : code ≤ n * 2 ^ last.toNat) : 0 ≤ code * 2 ^ (w - last).toNat + 1 ∧ code * 2 ^ (w - last).toNat + 1 ≤ ((n + 1 : Nat) : Int) * 2 ^ w.toNat := by
  have e : w.toNat = last.toNat + (w - last).toNat := by omega
  have p1 := pow_pos' (w - last).toNat
  have p2 := pow_pos' w.toNat
  have h1 : 0 ≤ code * 2 ^ (w - last).toNat := Int.mul_nonneg hc (Int.le_of_lt p1)
  have h2 : code * 2 ^ (w - last).toNat ≤ n * 2 ^ w.toNat := by
    rw [e, Int.pow_add, ← Int.mul_assoc]
    exact Int.mul_le_mul_of_nonneg_right hn (Int.le_of_lt p1)
  refine ⟨by omega, ?_⟩
  have e2 : ((n + 1 : Nat) : Int) * 2 ^ w.toNat = n * 2 ^ w.toNat + 2 ^ w.toNat := by
    rw [Int.natCast_add, Int.add_mul]
    simp
  rw [e2]
  omega
theorem code_small {n : Nat} {code last : Int} (hn : n ≤ 100) (h40 : last ≤ 40) (hc : code ≤ n * 2 ^ last.toNat) : code < 2 ^ 63 := by
  have : (2 : Int) ^ last.toNat ≤ 2 ^ 40 := by
    have : (2 : Nat) ^ last.toNat ≤ 2 ^ 40 := Nat.pow_le_pow_right (by decide) (by omega)
    exact_mod_cast this
  have h2 : (n : Int) * 2 ^ last.toNat ≤ 100 * 2 ^ 40 := Int.mul_le_mul (by omega) this (Int.le_of_lt (pow_pos' _)) (by decide)
  have : (100 : Int) * 2 ^ 40 < 2 ^ 63 := by decide
  omega
theorem made_loop {M : MS} {E : DEnds} {b ws : SV} : ∀ (qs : List (Int × Str)) (code last : Int) (done : List (Str × Int × Int)) (n : Nat) (s5 s6 : SV),
    (∀ q ∈ qs, last ≤ q.1 ∧ q.1 ≤ 40) → qs.Pairwise (fun p q => p.1 ≤ q.1) → 0 ≤ last → last ≤ 40 → 0 ≤ code → code ≤ n * 2 ^ last.toNat → n + qs.length ≤ 100 → done.length + qs.length ≤ 100 → ((done.map (·.1)) ++ qs.map (·.2)).Nodup →
    (∀ s3 s4 s5' s6', E.nx [b, ws, .ownD ((done ++ asg qs code last).map patD), s3, s4, s5', s6'] M) →
    dForL noC (dgTup [5, 6]) (dSeq (dSet 3 (dBin shlR (dVar 3) (dBin subR (dVar 5) (dVar 4))))
      (dSeq (dDput (dVar 2) (dVar 6) (dCall 2 f_turned (dCons (dVar 3) (dCons (dVar 5) (dNil)))))
      (dSeq (dSet 3 (dBin addR (dVar 3) (dC (.int 1))))
      (dSet 4 (dVar 5))))) E (qs.map fun p => D.tup [.int p.1, .str p.2]) [b, ws, .ownD (done.map patD), .d (.int code), .d (.int last), s5, s6] M
  | [], code, last, done, n, s5, s6, _, _, _, _, _, _, _, _, _, h => ⟨trivial, by have := h (.d (.int code)) (.d (.int last)) s5 s6; rw [asg, List.append_nil] at this; exact this⟩
  | (w, k) :: qs, code, last, done, n, s5, s6, hq, hs, hl, hl40, hc, hcn, hn, hdl, hd, h => by
    obtain ⟨w0, w1⟩ := hq _ List.mem_cons_self
    dsimp only at w0 w1
    obtain ⟨c0, c1⟩ := code_step hl w0 hc hcn
    have c2 := code_small (by simp only [List.length_cons] at hn; omega) w1 c1
    have c3 := code_small (by simp only [List.length_cons] at hn; omega) hl40 hcn
    simp only [List.map_cons]
    simp only [fnD, dSeq, dSet, dSetL, dSetD, dUse, use, look, dC, dVar, dBin, dChain, dTst, dAnd, dOr, dNot, dAndV, dOrV, dNotV, dIf, dIfS, dNext, dRet, dRetN, dExpr, dAsg, dPar, dgName, dgTup, putAll, dFor, dForL, dIt, dSl, dSlL, dNoO, dSoO, dLst, dFz, dNew, dFzD, dNewD, dCons, dNil, dTup, dBu, dBuL, dLook1, dLook2, dLook3, dCall, dCall0, dLc, dLcL, wipeD, backD, dYes, dZip, dEnum, dDnew, dDisp, dPNil, dPCons, keysD, keyD, dDget, dDput, dKget, onD, onL, dMe, isL, dgSub, dRange1, dRange2, dWhile, dBreak, dCont, dNeg, dDin, dSl3, dSortZ, dDgetOr1, dDgetOr2, List.map, List.replicate, List.map_cons, List.map_nil, List.length_cons, List.length_nil, List.cons_append, List.nil_append, List.append_nil, List.set_cons_zero, List.set_cons_succ, List.getElem?_cons_zero, List.getElem?_cons_succ, List.replicate_succ, List.replicate_zero, Nat.reduceAdd, Nat.reduceSub, cond_true, cond_false, items_lst, items_frl, items_tup, items_str, iiR, i1R, i2R, addR, subR, mulR, fdivR, modR, powR, shlR, shrR, xorR, ltR, leR, gtR, geR, isR, isNo, lenR, absR, max2R, min2R, intR]
    have hb := bits64 (i := code) (by omega) (by omega)
    refine ⟨trivial, trivial, trivial, ⟨by omega, by omega⟩, trivial, sp_turned (by omega) (by omega) ⟨?_, ?_⟩⟩
    · rw [List.length_map, sizeLine_eq]; simp only [List.length_cons] at hdl; omega
    · have hnew : (Sum.inr k : Key) ∉ (done.map patD).map (·.1) := fun hm => by
        rw [patD_keys] at hm
        obtain ⟨x, hx, ex⟩ := List.mem_map.mp hm
        cases ex
        rw [List.map_cons] at hd
        have := (List.nodup_append.mp hd).2.2 k hx k List.mem_cons_self
        exact this rfl
      rw [putD_new hnew]
      have := made_loop (M := M) (E := E) (b := b) (ws := ws) qs (code * 2 ^ (w - last).toNat + 1) w (done ++ [(k, w, turnI w.toNat (code * 2 ^ (w - last).toNat) 0)]) (n + 1) (.d (.int w)) (.d (.str k))
        (fun q hq' => ⟨List.rel_of_pairwise_cons hs hq', (hq q (List.mem_cons_of_mem _ hq')).2⟩) (List.Pairwise.of_cons hs) (by omega) w1 c0 c1 (by simp only [List.length_cons] at hn; omega) (by simp only [List.length_append, List.length_cons, List.length_nil] at hdl ⊢; omega)
        (by rw [List.map_append, List.append_assoc]; exact hd) fun s3 s4 s5' s6' => by
          have := h s3 s4 s5' s6'
          rw [asg] at this
          rw [List.append_assoc]
          exact this
      rw [List.map_append] at this
      exact this
/-- the pattern of a kind -/
def patOf (l : List (Str × Int × Int)) (k : Str) : Int := ((l.find? fun q => decide (q.1 = k)).map (·.2.2)).getD 0
theorem valD_pat : ∀ {l : List (Str × Int × Int)} {k : Str}, k ∈ l.map (·.1) → valD (l.map patD) (.inr k) = some (.int (patOf l k))
  | [], k, h => by simp at h
  | q :: l, k, h => by
    unfold valD patOf
    by_cases e : q.1 = k
    · rw [List.map_cons, List.find?_cons_of_pos (by simp [patD, e]), List.find?_cons_of_pos (by simp [e])]
      rfl
    · rw [List.map_cons, List.find?_cons_of_neg (by simp [patD, e]), List.find?_cons_of_neg (by simp [e])]
      have hm : k ∈ l.map (·.1) := by
        rw [List.map_cons] at h
        rcases List.mem_cons.mp h with h | h
        · exact absurd h.symm e
        · exact h
      exact valD_pat hm
theorem asg_kinds : ∀ (qs : List (Int × Str)) (code last : Int), (asg qs code last).map (·.1) = qs.map (·.2)
  | [], _, _ => rfl
  | (w, k) :: qs, code, last => by rw [asg, List.map_cons, List.map_cons, asg_kinds qs]
def markD (q : Str × Int × Int) : D := .tup [.str q.1, .int q.2.1, .int q.2.2]
theorem marks_comp {M : MS} {kk : List D → DS → MS → Prop} {b ws s3 s4 : SV} {l : List (Str × Int × Int)} : ∀ (ks : List Str) (us : List Int) (acc : List D) (s5 s6 : SV), (∀ k ∈ ks, k ∈ l.map (·.1)) → acc.length + ks.length < sizeLine →
    (∀ s5' s6', kk (acc ++ (ks.zip us).map fun p => markD (p.1, p.2, patOf l p.1)) [b, ws, .ownD (l.map patD), s3, s4, s5', s6'] M) →
    dLcL noC (dgTup [6, 5]) dYes (dTup (dCons (dVar 6) (dCons (dVar 5) (dCons (dDget (dVar 2) (dVar 6)) (dNil))))) [6, 5] kk (zipT (ks.map D.str) (us.map D.int)) acc [b, ws, .ownD (l.map patD), s3, s4, s5, s6] M
  | [], us, acc, s5, s6, hk, hl, h => ⟨trivial, by have := h s5 s6; rw [List.zip_nil_left, List.map_nil, List.append_nil] at this; exact this⟩
  | _ :: _, [], acc, s5, s6, hk, hl, h => ⟨trivial, by have := h s5 s6; rw [List.zip_nil_right, List.map_nil, List.append_nil] at this; exact this⟩
  | k :: ks, u :: us, acc, s5, s6, hk, hl, h => by
    have e1 : zipT ((k :: ks).map D.str) ((u :: us).map D.int) = .tup [.str k, .int u] :: zipT (ks.map D.str) (us.map D.int) := rfl
    rw [e1]
    have ev := valD_pat (hk k List.mem_cons_self)
    simp only [fnD, dSeq, dSet, dSetL, dSetD, dUse, use, look, dC, dVar, dBin, dChain, dTst, dAnd, dOr, dNot, dAndV, dOrV, dNotV, dIf, dIfS, dNext, dRet, dRetN, dExpr, dAsg, dPar, dgName, dgTup, putAll, dFor, dForL, dIt, dSl, dSlL, dNoO, dSoO, dLst, dFz, dNew, dFzD, dNewD, dCons, dNil, dTup, dBu, dBuL, dLook1, dLook2, dLook3, dCall, dCall0, dLc, dLcL, wipeD, backD, dYes, dZip, dEnum, dDnew, dDisp, dPNil, dPCons, keysD, keyD, dDget, dDput, dKget, onD, onL, dMe, isL, dgSub, dRange1, dRange2, dWhile, dBreak, dCont, dNeg, dDin, dSl3, dSortZ, dDgetOr1, dDgetOr2, List.map, List.replicate, List.map_cons, List.map_nil, List.length_cons, List.length_nil, List.cons_append, List.nil_append, List.append_nil, List.set_cons_zero, List.set_cons_succ, List.getElem?_cons_zero, List.getElem?_cons_succ, List.replicate_succ, List.replicate_zero, Nat.reduceAdd, Nat.reduceSub, cond_true, cond_false, items_lst, items_frl, items_tup, items_str, iiR, i1R, i2R, addR, subR, mulR, fdivR, modR, powR, shlR, shrR, xorR, ltR, leR, gtR, geR, isR, isNo, lenR, absR, max2R, min2R, intR, ev]
    refine ⟨trivial, trivial, by decide, by simp only [List.length_cons] at hl; omega, ?_⟩
    refine marks_comp ks us (acc ++ [markD (k, u, patOf l k)]) .no .no (fun x hx => hk x (List.mem_cons_of_mem _ hx)) (by simp only [List.length_append, List.length_cons, List.length_nil] at hl ⊢; omega) fun s5' s6' => ?_
    have := h s5' s6'
    rw [List.zip_cons_cons, List.map_cons] at this
    rw [List.append_assoc]
    exact this
/-- what made tells -/
def madeD (bits : Int) (ws : List Int) (qs : List (Int × Str)) : D := .tup [.int bits, .lst ((kindsL.zip ws).map fun p => markD (p.1, p.2, patOf (asg qs 0 0) p.1))]
theorem zipS_eq : ∀ (ws : List Int) (ks : List Str), zipS (ws.map D.int) (ks.map D.str) = some (ws.zip ks)
  | [], ks => by simp [zipS]
  | _ :: _, [] => by simp [zipS]
  | w :: ws, k :: ks => by simp [zipS, zipS_eq ws ks]
theorem sp_made {M : MS} {Q : D → MS → Prop} {E : Exc → MS → Prop} {bits : Int} {ws : List Int} (hw : ∀ w ∈ ws, 0 ≤ w ∧ w ≤ 40) (hl : ws.length = 5)
    (hf : ¬ Fits bits ws → Q .non M) (ht : Fits bits ws → ∀ qs : List (Int × Str), qs.Perm (ws.zip kindsL) → qs.Pairwise (fun p q => p.1 ≤ q.1) → Q (madeD bits ws qs) M) : f_made [.int bits, .lst (ws.map D.int)] M Q E := by
  unfold f_made b_made
  simp only [fnD, dSeq, dSet, dSetL, dSetD, dUse, use, look, dC, dVar, dBin, dChain, dTst, dAnd, dOr, dNot, dAndV, dOrV, dNotV, dIf, dIfS, dNext, dRet, dRetN, dExpr, dAsg, dPar, dgName, dgTup, putAll, dFor, dForL, dIt, dSl, dSlL, dNoO, dSoO, dLst, dFz, dNew, dFzD, dNewD, dCons, dNil, dTup, dBu, dBuL, dLook1, dLook2, dLook3, dCall, dCall0, dLc, dLcL, wipeD, backD, dYes, dZip, dEnum, dDnew, dDisp, dPNil, dPCons, keysD, keyD, dDget, dDput, dKget, onD, onL, dMe, isL, dgSub, dRange1, dRange2, dWhile, dBreak, dCont, dNeg, dDin, dSl3, dSortZ, dDgetOr1, dDgetOr2, List.map, List.replicate, List.map_cons, List.map_nil, List.length_cons, List.length_nil, List.cons_append, List.nil_append, List.append_nil, List.set_cons_zero, List.set_cons_succ, List.getElem?_cons_zero, List.getElem?_cons_succ, List.replicate_succ, List.replicate_zero, Nat.reduceAdd, Nat.reduceSub, cond_true, cond_false, items_lst, items_frl, items_tup, items_str, kinds_items, zipS_eq]
  refine ⟨trivial, ?_⟩
  refine sp_fits hw (by omega) (fun hF => ?_) fun hF => ?_
  · simp only [fnD, dSeq, dSet, dSetL, dSetD, dUse, use, look, dC, dVar, dBin, dChain, dTst, dAnd, dOr, dNot, dAndV, dOrV, dNotV, dIf, dIfS, dNext, dRet, dRetN, dExpr, dAsg, dPar, dgName, dgTup, putAll, dFor, dForL, dIt, dSl, dSlL, dNoO, dSoO, dLst, dFz, dNew, dFzD, dNewD, dCons, dNil, dTup, dBu, dBuL, dLook1, dLook2, dLook3, dCall, dCall0, dLc, dLcL, wipeD, backD, dYes, dZip, dEnum, dDnew, dDisp, dPNil, dPCons, keysD, keyD, dDget, dDput, dKget, onD, onL, dMe, isL, dgSub, dRange1, dRange2, dWhile, dBreak, dCont, dNeg, dDin, dSl3, dSortZ, dDgetOr1, dDgetOr2, List.map, List.replicate, List.map_cons, List.map_nil, List.length_cons, List.length_nil, List.cons_append, List.nil_append, List.append_nil, List.set_cons_zero, List.set_cons_succ, List.getElem?_cons_zero, List.getElem?_cons_succ, List.replicate_succ, List.replicate_zero, Nat.reduceAdd, Nat.reduceSub, cond_true, cond_false, items_lst, items_frl, items_tup, items_str, Bool.not_true]
    have hlen : (ws.zip kindsL).length = 5 := by rw [List.length_zip, hl]; rfl
    refine ⟨by rw [hlen, sizeLine_eq]; omega, fun qs hp hs => ?_⟩
    have hk : (qs.map (·.2)).Perm kindsL := by
      have := hp.map (·.2)
      rw [List.map_snd_zip (by rw [hl]; decide)] at this
      exact this
    have hin : ∀ q ∈ qs, 0 ≤ q.1 ∧ q.1 ≤ 40 := fun q hq => by
      have := (List.of_mem_zip (hp.mem_iff.mp hq)).1
      exact hw _ this
    have hql : qs.length = 5 := by rw [hp.length_eq, hlen]
    refine made_loop qs 0 0 [] 0 .no .no hin hs (by decide) (by decide) (by decide) (by decide) (by omega) (by simp only [List.length_nil]; omega) (by
      rw [List.map_nil, List.nil_append]
      exact hk.nodup_iff.mpr (by decide +kernel)) fun s3 s4 s5' s6' => ?_
    simp only [fnD, dSeq, dSet, dSetL, dSetD, dUse, use, look, dC, dVar, dBin, dChain, dTst, dAnd, dOr, dNot, dAndV, dOrV, dNotV, dIf, dIfS, dNext, dRet, dRetN, dExpr, dAsg, dPar, dgName, dgTup, putAll, dFor, dForL, dIt, dSl, dSlL, dNoO, dSoO, dLst, dFz, dNew, dFzD, dNewD, dCons, dNil, dTup, dBu, dBuL, dLook1, dLook2, dLook3, dCall, dCall0, dLc, dLcL, wipeD, backD, dYes, dZip, dEnum, dDnew, dDisp, dPNil, dPCons, keysD, keyD, dDget, dDput, dKget, onD, onL, dMe, isL, dgSub, dRange1, dRange2, dWhile, dBreak, dCont, dNeg, dDin, dSl3, dSortZ, dDgetOr1, dDgetOr2, List.map, List.replicate, List.map_cons, List.map_nil, List.length_cons, List.length_nil, List.cons_append, List.nil_append, List.append_nil, List.set_cons_zero, List.set_cons_succ, List.getElem?_cons_zero, List.getElem?_cons_succ, List.replicate_succ, List.replicate_zero, Nat.reduceAdd, Nat.reduceSub, cond_true, cond_false, items_lst, items_frl, items_tup, items_str, kinds_items]
    refine marks_comp kindsL ws [] _ _ (fun k hk' => ?_) (by decide) fun s5'' s6'' => ?_
    · rw [asg_kinds]
      exact hk.mem_iff.mpr hk'
    · simp only [fnD, dSeq, dSet, dSetL, dSetD, dUse, use, look, dC, dVar, dBin, dChain, dTst, dAnd, dOr, dNot, dAndV, dOrV, dNotV, dIf, dIfS, dNext, dRet, dRetN, dExpr, dAsg, dPar, dgName, dgTup, putAll, dFor, dForL, dIt, dSl, dSlL, dNoO, dSoO, dLst, dFz, dNew, dFzD, dNewD, dCons, dNil, dTup, dBu, dBuL, dLook1, dLook2, dLook3, dCall, dCall0, dLc, dLcL, wipeD, backD, dYes, dZip, dEnum, dDnew, dDisp, dPNil, dPCons, keysD, keyD, dDget, dDput, dKget, onD, onL, dMe, isL, dgSub, dRange1, dRange2, dWhile, dBreak, dCont, dNeg, dDin, dSl3, dSortZ, dDgetOr1, dDgetOr2, List.map, List.replicate, List.map_cons, List.map_nil, List.length_cons, List.length_nil, List.cons_append, List.nil_append, List.append_nil, List.set_cons_zero, List.set_cons_succ, List.getElem?_cons_zero, List.getElem?_cons_succ, List.replicate_succ, List.replicate_zero, Nat.reduceAdd, Nat.reduceSub, cond_true, cond_false, items_lst, items_frl, items_tup, items_str]
      exact ⟨by decide, ht hF qs hp hs⟩
  · simp only [fnD, dSeq, dSet, dSetL, dSetD, dUse, use, look, dC, dVar, dBin, dChain, dTst, dAnd, dOr, dNot, dAndV, dOrV, dNotV, dIf, dIfS, dNext, dRet, dRetN, dExpr, dAsg, dPar, dgName, dgTup, putAll, dFor, dForL, dIt, dSl, dSlL, dNoO, dSoO, dLst, dFz, dNew, dFzD, dNewD, dCons, dNil, dTup, dBu, dBuL, dLook1, dLook2, dLook3, dCall, dCall0, dLc, dLcL, wipeD, backD, dYes, dZip, dEnum, dDnew, dDisp, dPNil, dPCons, keysD, keyD, dDget, dDput, dKget, onD, onL, dMe, isL, dgSub, dRange1, dRange2, dWhile, dBreak, dCont, dNeg, dDin, dSl3, dSortZ, dDgetOr1, dDgetOr2, List.map, List.replicate, List.map_cons, List.map_nil, List.length_cons, List.length_nil, List.cons_append, List.nil_append, List.append_nil, List.set_cons_zero, List.set_cons_succ, List.getElem?_cons_zero, List.getElem?_cons_succ, List.replicate_succ, List.replicate_zero, Nat.reduceAdd, Nat.reduceSub, cond_true, cond_false, items_lst, items_frl, items_tup, items_str, Bool.not_false]
    exact hf hF
/-! ### the law's own laying -/
def p40 (d : Int) : Int := 2 ^ (40 - d).toNat
def sum40 (fs : List (Int × Int)) : Int := (fs.map fun q => p40 q.1).sum
theorem p40_pos (d : Int) : 0 < p40 d := pow_pos' _
theorem sum40_nn : ∀ fs : List (Int × Int), 0 ≤ sum40 fs
  | [] => by decide
  | q :: fs => by
    have := sum40_nn fs
    have := p40_pos q.1
    simp only [sum40, List.map_cons, List.sum_cons] at *
    omega
theorem sum40_app (fs gs : List (Int × Int)) : sum40 (fs ++ gs) = sum40 fs + sum40 gs := by
  unfold sum40
  rw [List.map_append, List.sum_append]
theorem asc_len : ∀ {fs : List (Int × Int)} {lo m : Int}, fs.Pairwise (fun p q => p.1 < q.1) → (∀ q ∈ fs, lo ≤ q.1 ∧ q.1 ≤ m) → lo ≤ m + 1 → (fs.length : Int) ≤ m - lo + 1
  | [], lo, m, _, _, h => by simp; omega
  | q :: fs, lo, m, hp, hb, h => by
    have h1 := hb q List.mem_cons_self
    have := asc_len (fs := fs) (lo := q.1 + 1) (m := m) (List.Pairwise.of_cons hp) (fun r hr => ⟨List.rel_of_pairwise_cons hp hr, (hb r (List.mem_cons_of_mem _ hr)).2⟩) (by omega)
    simp only [List.length_cons]
    omega
theorem pairT_noB (q : Int × Int) : noB (pairT q) = true := by simp [pairT, noB, noBA]
theorem pairs_noB (fs : List (Int × Int)) : noB (.lst (fs.map pairT)) = true := by
  simp only [noB]
  refine noBA_of fun x hx => ?_
  obtain ⟨q, _, rfl⟩ := List.mem_map.mp hx
  exact pairT_noB q
theorem pairT_depth (q : Int × Int) : (toPy (pairT q)).depth ≤ 1 := depth_tup (n := 0) fun x hx => by
  simp only [List.mem_cons, List.not_mem_nil, or_false] at hx
  rcases hx with rfl | rfl
  · exact depth_int _
  · exact depth_int _
theorem pairs_depth (fs : List (Int × Int)) : (toPy (.lst (fs.map pairT))).depth ≤ 64 := Nat.le_trans (depth_lst (n := 1) fun x hx => by
  obtain ⟨q, _, rfl⟩ := List.mem_map.mp hx
  exact pairT_depth q) (by decide)
theorem pairT_inj {p q : Int × Int} (h : pairT p = pairT q) : p = q := by
  obtain ⟨a, b⟩ := p
  obtain ⟨c, d⟩ := q
  simp [pairT] at h
  exact Prod.ext h.1 h.2
theorem free_comp {M : MS} {C : MS → Prop} {k : List D → DS → MS → Prop} {x0 x1 x2 x3 x4 x6 x7 x8 x9 : SV} {w : Int} (hC : C M) : ∀ (fs : List (Int × Int)) (acc : List D) (s10 : SV), (∀ f ∈ fs, f.1 ≤ w) → acc.length + fs.length < sizeLine →
    (∀ s10', k (acc ++ fs.map pairT) [x0, x1, x2, x3, x4, .d (.int w), x6, x7, x8, x9, s10'] M) →
    dLcL C (dgName 10) (dTst (dBin leR (dBin ixR (dVar 10) (dC (.int 0))) (dVar 5))) (dVar 10) [10] k (fs.map pairT) acc [x0, x1, x2, x3, x4, .d (.int w), x6, x7, x8, x9, s10] M
  | [], acc, s10, _, _, h => ⟨hC, by have := h s10; rw [List.map_nil, List.append_nil] at this; exact this⟩
  | (d, q) :: fs, acc, s10, hw, hl, h => by
    have hd := hw _ List.mem_cons_self
    dsimp only at hd
    have e0 : atI [D.int d, D.int q] 0 = some (.int d) := rfl
    simp only [fnD, dSeq, dSet, dSetL, dSetD, dUse, use, look, dC, dVar, dBin, dChain, dTst, dAnd, dOr, dNot, dAndV, dOrV, dNotV, dIf, dIfS, dNext, dRet, dRetN, dExpr, dAsg, dPar, dgName, dgTup, putAll, dFor, dForL, dIt, dSl, dSlL, dNoO, dSoO, dLst, dFz, dNew, dFzD, dNewD, dCons, dNil, dTup, dBu, dBuL, dLook1, dLook2, dLook3, dCall, dCall0, dLc, dLcL, wipeD, backD, dYes, dZip, dEnum, dDnew, dDisp, dPNil, dPCons, keysD, keyD, dDget, dDput, dKget, onD, onL, dMe, isL, dgSub, dRange1, dRange2, dWhile, dBreak, dCont, dNeg, dDin, dSl3, dSortZ, dDgetOr1, dDgetOr2, List.map, List.replicate, List.map_cons, List.map_nil, List.length_cons, List.length_nil, List.cons_append, List.nil_append, List.append_nil, List.set_cons_zero, List.set_cons_succ, List.getElem?_cons_zero, List.getElem?_cons_succ, List.replicate_succ, List.replicate_zero, Nat.reduceAdd, Nat.reduceSub, cond_true, cond_false, items_lst, items_frl, items_tup, items_str, iiR, i1R, i2R, addR, subR, mulR, fdivR, modR, powR, shlR, shrR, xorR, ltR, leR, gtR, geR, isR, isNo, lenR, absR, max2R, min2R, intR, pairT, ixR, e0, decide_eq_true hd]
    refine ⟨hC, trivial, by simp only [List.length_cons] at hl; omega, ?_⟩
    refine free_comp hC fs (acc ++ [pairT (d, q)]) .no (fun f hf => hw f (List.mem_cons_of_mem _ hf)) (by simp only [List.length_append, List.length_cons, List.length_nil] at hl ⊢; omega) fun s10' => ?_
    have := h s10'
    rw [List.map_cons] at this
    rw [List.append_assoc]
    exact this
/-- the nodes behind at, to w -/
def spread (at_ pat : Int) : Nat → List (Int × Int)
  | 0 => []
  | n + 1 => (at_ + 1, pat + 1 * 2 ^ at_.toNat) :: spread (at_ + 1) pat n
theorem spread_sum : ∀ (n : Nat) (a pat : Int), 0 ≤ a → a + n ≤ 40 → sum40 (spread a pat n) = p40 a - p40 (a + n)
  | 0, a, pat, _, _ => by simp [spread, sum40]
  | n + 1, a, pat, h0, h1 => by
    have ih := spread_sum n (a + 1) pat (by omega) (by omega)
    have e1 : p40 a = 2 * p40 (a + 1) := by
      unfold p40
      have : (40 - a).toNat = (40 - (a + 1)).toNat + 1 := by omega
      rw [this, Int.pow_succ, Int.mul_comm]
    simp only [spread, sum40, List.map_cons, List.sum_cons] at ih ⊢
    have e2 : a + ((n + 1 : Nat) : Int) = a + 1 + n := by omega
    rw [ih, e1, e2]
    omega
theorem spread_bd : ∀ (n : Nat) (a pat : Int), (∀ q ∈ spread a pat n, a < q.1 ∧ q.1 ≤ a + n) ∧ (spread a pat n).Pairwise fun p q => p.1 < q.1
  | 0, a, pat => ⟨fun q hq => by simp [spread] at hq, List.Pairwise.nil⟩
  | n + 1, a, pat => by
    obtain ⟨h1, h2⟩ := spread_bd n (a + 1) pat
    refine ⟨fun q hq => ?_, List.Pairwise.cons (fun q hq => (h1 q hq).1) h2⟩
    rcases List.mem_cons.mp hq with rfl | hq
    · dsimp only; omega
    · have := h1 q hq
      omega
theorem spread_len : ∀ (n : Nat) (a pat : Int), (spread a pat n).length = n
  | 0, _, _ => rfl
  | n + 1, a, pat => by simp [spread, spread_len n]
theorem free_while {M : MS} {E : DEnds} {p : Addr} {x0 x1 x2 x4 x6 x7 x10 : SV} {w pat : Int} : ∀ (n : Nat) (a : Int) (fs : List (Int × Int)), a + n = w → 0 ≤ a → w ≤ 40 → fs.length + n < sizeLine →
    E.nx [x0, x1, x2, .d (.ref p), x4, .d (.int w), x6, x7, .d (.int w), .d (.int pat), x10] (mset M p (.lst ((fs ++ spread a pat n).map pairT))) →
    dWhileN (dTst (dBin ltR (dVar 8) (dVar 5))) (dSeq (dExpr (dMe appendR (dVar 3) (dCons (dTup (dCons (dBin addR (dVar 8) (dC (.int 1))) (dCons (dBin addR (dVar 9) (dBin shlR (dC (.int 1)) (dVar 8))) (dNil)))) (dNil))))
      (dSet 8 (dBin addR (dVar 8) (dC (.int 1))))) E (n + 1) [x0, x1, x2, .d (.ref p), x4, .d (.int w), x6, x7, .d (.int a), .d (.int pat), x10] (mset M p (.lst (fs.map pairT)))
  | 0, a, fs, e, h0, hw, hl, h => by
    have : a = w := by omega
    subst this
    simp only [dWhileN]
    simp only [fnD, dSeq, dSet, dSetL, dSetD, dUse, use, look, dC, dVar, dBin, dChain, dTst, dAnd, dOr, dNot, dAndV, dOrV, dNotV, dIf, dIfS, dNext, dRet, dRetN, dExpr, dAsg, dPar, dgName, dgTup, putAll, dFor, dForL, dIt, dSl, dSlL, dNoO, dSoO, dLst, dFz, dNew, dFzD, dNewD, dCons, dNil, dTup, dBu, dBuL, dLook1, dLook2, dLook3, dCall, dCall0, dLc, dLcL, wipeD, backD, dYes, dZip, dEnum, dDnew, dDisp, dPNil, dPCons, keysD, keyD, dDget, dDput, dKget, onD, onL, dMe, isL, dgSub, dRange1, dRange2, dWhile, dBreak, dCont, dNeg, dDin, dSl3, dSortZ, dDgetOr1, dDgetOr2, List.map, List.replicate, List.map_cons, List.map_nil, List.length_cons, List.length_nil, List.cons_append, List.nil_append, List.append_nil, List.set_cons_zero, List.set_cons_succ, List.getElem?_cons_zero, List.getElem?_cons_succ, List.replicate_succ, List.replicate_zero, Nat.reduceAdd, Nat.reduceSub, cond_true, cond_false, items_lst, items_frl, items_tup, items_str, iiR, i1R, i2R, addR, subR, mulR, fdivR, modR, powR, shlR, shrR, xorR, ltR, leR, gtR, geR, isR, isNo, lenR, absR, max2R, min2R, intR, show decide (a < a) = false from decide_eq_false (by omega)]
    refine ⟨trivial, ?_⟩
    rw [spread, List.append_nil] at h
    exact h
  | n + 1, a, fs, e, h0, hw, hl, h => by
    rw [dWhileN]
    simp only [fnD, dSeq, dSet, dSetL, dSetD, dUse, use, look, dC, dVar, dBin, dChain, dTst, dAnd, dOr, dNot, dAndV, dOrV, dNotV, dIf, dIfS, dNext, dRet, dRetN, dExpr, dAsg, dPar, dgName, dgTup, putAll, dFor, dForL, dIt, dSl, dSlL, dNoO, dSoO, dLst, dFz, dNew, dFzD, dNewD, dCons, dNil, dTup, dBu, dBuL, dLook1, dLook2, dLook3, dCall, dCall0, dLc, dLcL, wipeD, backD, dYes, dZip, dEnum, dDnew, dDisp, dPNil, dPCons, keysD, keyD, dDget, dDput, dKget, onD, onL, dMe, isL, dgSub, dRange1, dRange2, dWhile, dBreak, dCont, dNeg, dDin, dSl3, dSortZ, dDgetOr1, dDgetOr2, List.map, List.replicate, List.map_cons, List.map_nil, List.length_cons, List.length_nil, List.cons_append, List.nil_append, List.append_nil, List.set_cons_zero, List.set_cons_succ, List.getElem?_cons_zero, List.getElem?_cons_succ, List.replicate_succ, List.replicate_zero, Nat.reduceAdd, Nat.reduceSub, cond_true, cond_false, items_lst, items_frl, items_tup, items_str, iiR, i1R, i2R, addR, subR, mulR, fdivR, modR, powR, shlR, shrR, xorR, ltR, leR, gtR, geR, isR, isNo, lenR, absR, max2R, min2R, intR, show decide (a < w) = true from decide_eq_true (by omega), mset_same, appendR, mset_mset]
    have hb := bits64 (i := 1) (by decide) (by decide)
    refine ⟨trivial, trivial, ⟨by omega, by omega⟩, by decide, ⟨by rw [List.length_map]; omega, ?_⟩⟩
    have := free_while (M := M) (E := E) (p := p) (x0 := x0) (x1 := x1) (x2 := x2) (x4 := x4) (x6 := x6) (x7 := x7) (x10 := x10) (w := w) (pat := pat) n (a + 1) (fs ++ [(a + 1, pat + 1 * 2 ^ a.toNat)]) (by omega) (by omega) hw (by simp only [List.length_append, List.length_cons, List.length_nil]; omega) (by
      rw [List.append_assoc]
      exact h)
    rw [List.map_append] at this
    exact this
theorem sp_kinds {M : MS} {Q : D → MS → Prop} {E : Exc → MS → Prop} (h : Q (.lst (kindsL.map D.str)) M) : f_law_kinds [] M Q E := by
  unfold f_law_kinds b_law_kinds
  simp only [fnD, dSeq, dSet, dSetL, dSetD, dUse, use, look, dC, dVar, dBin, dChain, dTst, dAnd, dOr, dNot, dAndV, dOrV, dNotV, dIf, dIfS, dNext, dRet, dRetN, dExpr, dAsg, dPar, dgName, dgTup, putAll, dFor, dForL, dIt, dSl, dSlL, dNoO, dSoO, dLst, dFz, dNew, dFzD, dNewD, dCons, dNil, dTup, dBu, dBuL, dLook1, dLook2, dLook3, dCall, dCall0, dLc, dLcL, wipeD, backD, dYes, dZip, dEnum, dDnew, dDisp, dPNil, dPCons, keysD, keyD, dDget, dDput, dKget, onD, onL, dMe, isL, dgSub, dRange1, dRange2, dWhile, dBreak, dCont, dNeg, dDin, dSl3, dSortZ, dDgetOr1, dDgetOr2, List.map, List.replicate, List.map_cons, List.map_nil, List.length_cons, List.length_nil, List.cons_append, List.nil_append, List.append_nil, List.set_cons_zero, List.set_cons_succ, List.getElem?_cons_zero, List.getElem?_cons_succ, List.replicate_succ, List.replicate_zero, Nat.reduceAdd, Nat.reduceSub, cond_true, cond_false, items_lst, items_frl, items_tup, items_str]
  exact ⟨by decide, h⟩
theorem sp_needed {M : MS} {Q : D → MS → Prop} {E : Exc → MS → Prop} {k : Str} {n : Int} (hk : (k, n) ∈ needL) (h : Q (.int n) M) : f_law_needed [.str k] M Q E := by
  unfold f_law_needed b_law_needed
  simp only [needL, List.mem_cons, List.not_mem_nil, or_false, Prod.mk.injEq] at hk
  rcases hk with ⟨rfl, rfl⟩ | ⟨rfl, rfl⟩ | ⟨rfl, rfl⟩ | ⟨rfl, rfl⟩ | ⟨rfl, rfl⟩ <;>
  · simp only [fnD, dSeq, dSet, dSetL, dSetD, dUse, use, look, dC, dVar, dBin, dChain, dTst, dAnd, dOr, dNot, dAndV, dOrV, dNotV, dIf, dIfS, dNext, dRet, dRetN, dExpr, dAsg, dPar, dgName, dgTup, putAll, dFor, dForL, dIt, dSl, dSlL, dNoO, dSoO, dLst, dFz, dNew, dFzD, dNewD, dCons, dNil, dTup, dBu, dBuL, dLook1, dLook2, dLook3, dCall, dCall0, dLc, dLcL, wipeD, backD, dYes, dZip, dEnum, dDnew, dDisp, dPNil, dPCons, keysD, keyD, dDget, dDput, dKget, onD, onL, dMe, isL, dgSub, dRange1, dRange2, dWhile, dBreak, dCont, dNeg, dDin, dSl3, dSortZ, dDgetOr1, dDgetOr2, List.map, List.replicate, List.map_cons, List.map_nil, List.length_cons, List.length_nil, List.cons_append, List.nil_append, List.append_nil, List.set_cons_zero, List.set_cons_succ, List.getElem?_cons_zero, List.getElem?_cons_succ, List.replicate_succ, List.replicate_zero, Nat.reduceAdd, Nat.reduceSub, cond_true, cond_false, items_lst, items_frl, items_tup, items_str]
    refine ⟨by decide, ?_⟩
    exact h
/-- the bits that the k-th kind needs -/
def needAt (k : Int) : Int := ((needL[k.toNat]?).map (·.2)).getD 0
theorem kind_at {k : Int} (h0 : 0 ≤ k) (h1 : k < 5) : ∃ s, atI (kindsL.map D.str) k = some (.str s) ∧ (s, needAt k) ∈ needL := by
  have : k = 0 ∨ k = 1 ∨ k = 2 ∨ k = 3 ∨ k = 4 := by omega
  rcases this with rfl | rfl | rfl | rfl | rfl
  · exact ⟨"small", rfl, by decide +kernel⟩
  · exact ⟨"far", rfl, by decide +kernel⟩
  · exact ⟨"pair", rfl, by decide +kernel⟩
  · exact ⟨"sign", rfl, by decide +kernel⟩
  · exact ⟨"one", rfl, by decide +kernel⟩
theorem atI_last {α : Type} {xs : List α} {x : α} : atI (xs ++ [x]) (-1) = some x := by
  unfold atI ixN
  rw [if_neg (by omega), if_pos (by simp only [List.length_append, List.length_cons, List.length_nil]; omega)]
  show (xs ++ [x])[((-1 : Int) + ((xs ++ [x]).length : Nat)).toNat]? = some x
  have : ((-1 : Int) + ((xs ++ [x]).length : Nat)).toNat = xs.length := by simp only [List.length_append, List.length_cons, List.length_nil]; omega
  rw [this, List.getElem?_append_right (Nat.le_refl _)]
  simp
def bodyPl : DST := (dSeq (dSet 7 (dFz (dLc (dIt (dVar 3)) (dgName 10) (dTst (dBin leR (dBin ixR (dVar 10) (dC (.int 0))) (dVar 5))) (dVar 10) [10])))
  (dSeq (dIfS (dOr (dTst (dBin (eqR false) (dVar 7) (dFz (dLst (dNil))))) (dTst (dBin ltR (dBin subR (dVar 0) (dVar 5)) (dCall 1 f_law_needed (dCons (dBin ixR (dVar 2) (dVar 6)) (dNil)))))) (dRet (dC .non)) (dNext))
  (dSeq (dAsg (dBin ixR (dVar 7) (dNeg (dC (.int 1)))) (dgTup [8, 9]))
  (dSeq (dExpr (dMe removeR (dVar 3) (dCons (dTup (dCons (dVar 8) (dCons (dVar 9) (dNil)))) (dNil))))
  (dSeq (dWhile (dTst (dBin ltR (dVar 8) (dVar 5))) (dSeq (dExpr (dMe appendR (dVar 3) (dCons (dTup (dCons (dBin addR (dVar 8) (dC (.int 1))) (dCons (dBin addR (dVar 9) (dBin shlR (dC (.int 1)) (dVar 8))) (dNil)))) (dNil))))
  (dSet 8 (dBin addR (dVar 8) (dC (.int 1))))))
  (dDput (dVar 4) (dBin ixR (dVar 2) (dVar 6)) (dTup (dCons (dVar 5) (dCons (dVar 9) (dNil))))))))))
def PlOk (bits used : Int) (qs : List (Int × Int)) : Prop := (∀ q ∈ qs, ¬ bits - q.1 < needAt q.2) ∧ used + sum40 qs ≤ 2 ^ 40
theorem rem_last {xs : List (Int × Int)} {x : Int × Int} {k : List D → D → Prop} (hp : (xs ++ [x]).Pairwise fun p q => p.1 < q.1) (h : k (xs.map pairT) .non) : removeR ((xs ++ [x]).map pairT) [pairT x] k := by
  refine ⟨okD_of (pairs_noB _) (pairs_depth _), okD_of (pairT_noB x) (Nat.le_trans (pairT_depth x) (by decide)), xs.length, pairT x, ?_, (eqv_D (pairT_noB x) (pairT_noB x)).mpr rfl, fun m z' hm hz => ?_, ?_⟩
  · rw [List.map_append, List.getElem?_append_right (by rw [List.length_map]; exact Nat.le_refl _), List.length_map]
    simp
  · rw [List.map_append, List.getElem?_append_left (by rw [List.length_map]; exact hm), List.getElem?_map] at hz
    cases e : xs[m]? with
    | none => rw [e] at hz; cases hz
    | some q =>
      rw [e] at hz; cases hz
      cases e2 : PyData.eqv (toPy (pairT q)) (toPy (pairT x)) with
      | false => rfl
      | true =>
        have := pairT_inj ((eqv_D (pairT_noB q) (pairT_noB x)).mp e2)
        subst this
        have h2 := (List.pairwise_append.mp hp).2.2 q (List.mem_of_getElem? e) q (by simp)
        omega
  · have e : (List.map pairT (xs ++ [x])).eraseIdx xs.length = xs.map pairT := by
      rw [List.map_append, List.eraseIdx_append_of_length_le (by rw [List.length_map]; exact Nat.le_refl _), List.length_map]
      simp
    rw [e]
    exact h
theorem putD_len (l : List (Key × D)) (k : Key) (x : D) : (putD l k x).length ≤ l.length + 1 := by
  unfold putD
  split
  · rw [List.length_map]; omega
  · rw [List.length_append]; simp
theorem placed_loop {M : MS} {E : DEnds} {p : Addr} {bits : Int} {x1 : SV} : ∀ (qs fs : List (Int × Int)) (last used : Int) (kvs : List (Key × D)) (s5 s6 s7 s8 s9 : SV),
    (∀ q ∈ qs, last ≤ q.1 ∧ q.1 ≤ 40 ∧ 0 ≤ q.2 ∧ q.2 < 5) → qs.Pairwise lexP → 0 ≤ last → fs.Pairwise (fun p q => p.1 < q.1) → (∀ f ∈ fs, 0 ≤ f.1 ∧ f.1 ≤ last) → last ≤ 40 → sum40 fs + used = 2 ^ 40 → kvs.length + qs.length ≤ 1000 →
    (¬ PlOk bits used qs → ∀ m, E.rt .non (mset M p m)) →
    (PlOk bits used qs → ∀ kvs' m s5 s6 s7 s8 s9, E.nx [.d (.int bits), x1, .d (.lst (kindsL.map D.str)), .d (.ref p), .ownD kvs', s5, s6, s7, s8, s9, .no] (mset M p m)) →
    dForL noC (dgTup [5, 6]) bodyPl E (qs.map pairT) [.d (.int bits), x1, .d (.lst (kindsL.map D.str)), .d (.ref p), .ownD kvs, s5, s6, s7, s8, s9, .no] (mset M p (.lst (fs.map pairT)))
  | [], fs, last, used, kvs, s5, s6, s7, s8, s9, hq, hs, hl, hf, hb, h40, hsum, hk, hN, hY => ⟨trivial, hY ⟨fun q hq => by simp at hq, by
      have := sum40_nn fs
      have e : sum40 ([] : List (Int × Int)) = 0 := rfl
      rw [e]
      omega⟩ _ _ _ _ _ _ _⟩
  | (w, kd) :: qs, fs, last, used, kvs, s5, s6, s7, s8, s9, hq, hs, hl, hf, hb, h40, hsum, hk, hN, hY => by
    obtain ⟨w0, w1, k0, k1⟩ := hq _ List.mem_cons_self
    dsimp only at w0 w1 k0 k1
    have hflen : (fs.length : Int) ≤ last - 0 + 1 := asc_len hf hb (by omega)
    obtain ⟨s, hsat, hsn⟩ := kind_at k0 k1
    have hneed : ∀ {Q : D → MS → Prop} {E : Exc → MS → Prop} {M : MS}, Q (.int (needAt kd)) M → f_law_needed [.str s] M Q E := fun h => sp_needed hsn h
    simp only [List.map_cons]
    unfold bodyPl
    simp only [dForL, dgTup, pairT]
    refine ⟨trivial, rfl, ?_⟩
    simp only [fnD, dSeq, dSet, dSetL, dSetD, dUse, use, look, dC, dVar, dBin, dChain, dTst, dAnd, dOr, dNot, dAndV, dOrV, dNotV, dIf, dIfS, dNext, dRet, dRetN, dExpr, dAsg, dPar, dgName, dgTup, putAll, dFor, dForL, dIt, dSl, dSlL, dNoO, dSoO, dLst, dFz, dNew, dFzD, dNewD, dCons, dNil, dTup, dBu, dBuL, dLook1, dLook2, dLook3, dCall, dCall0, dLc, dLcL, wipeD, backD, dYes, dZip, dEnum, dDnew, dDisp, dPNil, dPCons, keysD, keyD, dDget, dDput, dKget, onD, onL, dMe, isL, dgSub, dRange1, dRange2, dWhile, dBreak, dCont, dNeg, dDin, dSl3, dSortZ, dDgetOr1, dDgetOr2, List.map, List.replicate, List.map_cons, List.map_nil, List.length_cons, List.length_nil, List.cons_append, List.nil_append, List.append_nil, List.set_cons_zero, List.set_cons_succ, List.getElem?_cons_zero, List.getElem?_cons_succ, List.replicate_succ, List.replicate_zero, Nat.reduceAdd, Nat.reduceSub, cond_true, cond_false, items_lst, items_frl, items_tup, items_str, mset_same]
    refine free_comp (by exact mset_same) fs [] _ (fun f hf' => by have := (hb f hf').2; omega) (by rw [sizeLine_eq]; simp only [List.length_nil]; omega) fun s10' => ?_
    simp only [fnD, dSeq, dSet, dSetL, dSetD, dUse, use, look, dC, dVar, dBin, dChain, dTst, dAnd, dOr, dNot, dAndV, dOrV, dNotV, dIf, dIfS, dNext, dRet, dRetN, dExpr, dAsg, dPar, dgName, dgTup, putAll, dFor, dForL, dIt, dSl, dSlL, dNoO, dSoO, dLst, dFz, dNew, dFzD, dNewD, dCons, dNil, dTup, dBu, dBuL, dLook1, dLook2, dLook3, dCall, dCall0, dLc, dLcL, wipeD, backD, dYes, dZip, dEnum, dDnew, dDisp, dPNil, dPCons, keysD, keyD, dDget, dDput, dKget, onD, onL, dMe, isL, dgSub, dRange1, dRange2, dWhile, dBreak, dCont, dNeg, dDin, dSl3, dSortZ, dDgetOr1, dDgetOr2, List.map, List.replicate, List.map_cons, List.map_nil, List.length_cons, List.length_nil, List.cons_append, List.nil_append, List.append_nil, List.set_cons_zero, List.set_cons_succ, List.getElem?_cons_zero, List.getElem?_cons_succ, List.replicate_succ, List.replicate_zero, Nat.reduceAdd, Nat.reduceSub, cond_true, cond_false, items_lst, items_frl, items_tup, items_str]
    refine ⟨by decide, eqR_data (pairs_noB fs) rfl (pairs_depth fs) (by decide) (fun e => ?_) fun e => ?_⟩
    · -- none free
      have e' : fs = [] := by simpa using e
      subst e'
      simp only [fnD, dSeq, dSet, dSetL, dSetD, dUse, use, look, dC, dVar, dBin, dChain, dTst, dAnd, dOr, dNot, dAndV, dOrV, dNotV, dIf, dIfS, dNext, dRet, dRetN, dExpr, dAsg, dPar, dgName, dgTup, putAll, dFor, dForL, dIt, dSl, dSlL, dNoO, dSoO, dLst, dFz, dNew, dFzD, dNewD, dCons, dNil, dTup, dBu, dBuL, dLook1, dLook2, dLook3, dCall, dCall0, dLc, dLcL, wipeD, backD, dYes, dZip, dEnum, dDnew, dDisp, dPNil, dPCons, keysD, keyD, dDget, dDput, dKget, onD, onL, dMe, isL, dgSub, dRange1, dRange2, dWhile, dBreak, dCont, dNeg, dDin, dSl3, dSortZ, dDgetOr1, dDgetOr2, List.map, List.replicate, List.map_cons, List.map_nil, List.length_cons, List.length_nil, List.cons_append, List.nil_append, List.append_nil, List.set_cons_zero, List.set_cons_succ, List.getElem?_cons_zero, List.getElem?_cons_succ, List.replicate_succ, List.replicate_zero, Nat.reduceAdd, Nat.reduceSub, cond_true, cond_false, items_lst, items_frl, items_tup, items_str, Bool.not_false]
      refine hN (fun q => ?_) _
      have h1 := q.2
      have h2 := sum40_nn qs
      have h3 := p40_pos w
      have e : sum40 ([] : List (Int × Int)) = 0 := rfl
      rw [e] at hsum
      simp only [sum40, List.map_cons, List.sum_cons] at h1 h2
      omega
    · have e' : fs ≠ [] := by simpa using e
      simp only [fnD, dSeq, dSet, dSetL, dSetD, dUse, use, look, dC, dVar, dBin, dChain, dTst, dAnd, dOr, dNot, dAndV, dOrV, dNotV, dIf, dIfS, dNext, dRet, dRetN, dExpr, dAsg, dPar, dgName, dgTup, putAll, dFor, dForL, dIt, dSl, dSlL, dNoO, dSoO, dLst, dFz, dNew, dFzD, dNewD, dCons, dNil, dTup, dBu, dBuL, dLook1, dLook2, dLook3, dCall, dCall0, dLc, dLcL, wipeD, backD, dYes, dZip, dEnum, dDnew, dDisp, dPNil, dPCons, keysD, keyD, dDget, dDput, dKget, onD, onL, dMe, isL, dgSub, dRange1, dRange2, dWhile, dBreak, dCont, dNeg, dDin, dSl3, dSortZ, dDgetOr1, dDgetOr2, List.map, List.replicate, List.map_cons, List.map_nil, List.length_cons, List.length_nil, List.cons_append, List.nil_append, List.append_nil, List.set_cons_zero, List.set_cons_succ, List.getElem?_cons_zero, List.getElem?_cons_succ, List.replicate_succ, List.replicate_zero, Nat.reduceAdd, Nat.reduceSub, cond_true, cond_false, items_lst, items_frl, items_tup, items_str, iiR, i1R, i2R, addR, subR, mulR, fdivR, modR, powR, shlR, shrR, xorR, ltR, leR, gtR, geR, isR, isNo, lenR, absR, max2R, min2R, intR, ixR, hsat]
      refine ⟨trivial, trivial, hneed ?_⟩
      simp only [fnD, dSeq, dSet, dSetL, dSetD, dUse, use, look, dC, dVar, dBin, dChain, dTst, dAnd, dOr, dNot, dAndV, dOrV, dNotV, dIf, dIfS, dNext, dRet, dRetN, dExpr, dAsg, dPar, dgName, dgTup, putAll, dFor, dForL, dIt, dSl, dSlL, dNoO, dSoO, dLst, dFz, dNew, dFzD, dNewD, dCons, dNil, dTup, dBu, dBuL, dLook1, dLook2, dLook3, dCall, dCall0, dLc, dLcL, wipeD, backD, dYes, dZip, dEnum, dDnew, dDisp, dPNil, dPCons, keysD, keyD, dDget, dDput, dKget, onD, onL, dMe, isL, dgSub, dRange1, dRange2, dWhile, dBreak, dCont, dNeg, dDin, dSl3, dSortZ, dDgetOr1, dDgetOr2, List.map, List.replicate, List.map_cons, List.map_nil, List.length_cons, List.length_nil, List.cons_append, List.nil_append, List.append_nil, List.set_cons_zero, List.set_cons_succ, List.getElem?_cons_zero, List.getElem?_cons_succ, List.replicate_succ, List.replicate_zero, Nat.reduceAdd, Nat.reduceSub, cond_true, cond_false, items_lst, items_frl, items_tup, items_str, iiR, i1R, i2R, addR, subR, mulR, fdivR, modR, powR, shlR, shrR, xorR, ltR, leR, gtR, geR, isR, isNo, lenR, absR, max2R, min2R, intR]
      by_cases hn : bits - w < needAt kd
      · rw [decide_eq_true hn]
        simp only [fnD, dSeq, dSet, dSetL, dSetD, dUse, use, look, dC, dVar, dBin, dChain, dTst, dAnd, dOr, dNot, dAndV, dOrV, dNotV, dIf, dIfS, dNext, dRet, dRetN, dExpr, dAsg, dPar, dgName, dgTup, putAll, dFor, dForL, dIt, dSl, dSlL, dNoO, dSoO, dLst, dFz, dNew, dFzD, dNewD, dCons, dNil, dTup, dBu, dBuL, dLook1, dLook2, dLook3, dCall, dCall0, dLc, dLcL, wipeD, backD, dYes, dZip, dEnum, dDnew, dDisp, dPNil, dPCons, keysD, keyD, dDget, dDput, dKget, onD, onL, dMe, isL, dgSub, dRange1, dRange2, dWhile, dBreak, dCont, dNeg, dDin, dSl3, dSortZ, dDgetOr1, dDgetOr2, List.map, List.replicate, List.map_cons, List.map_nil, List.length_cons, List.length_nil, List.cons_append, List.nil_append, List.append_nil, List.set_cons_zero, List.set_cons_succ, List.getElem?_cons_zero, List.getElem?_cons_succ, List.replicate_succ, List.replicate_zero, Nat.reduceAdd, Nat.reduceSub, cond_true, cond_false, items_lst, items_frl, items_tup, items_str, iiR, i1R, i2R, addR, subR, mulR, fdivR, modR, powR, shlR, shrR, xorR, ltR, leR, gtR, geR, isR, isNo, lenR, absR, max2R, min2R, intR]
        exact ⟨trivial, hN (fun q => q.1 (w, kd) List.mem_cons_self hn) _⟩
      · rw [decide_eq_false hn]
        obtain ⟨gs, ⟨a, pat⟩, rfl⟩ : ∃ gs x, fs = gs ++ [x] := ⟨fs.dropLast, fs.getLast e', (List.dropLast_concat_getLast e').symm⟩
        have ea : atI ((gs ++ [(a, pat)]).map pairT) (-1) = some (pairT (a, pat)) := by
          rw [List.map_append]
          exact atI_last
        have hba := hb (a, pat) (by simp)
        dsimp only at hba
        have hgs : (gs.length : Int) ≤ 40 := by
          have := hflen
          simp only [List.length_append, List.length_cons, List.length_nil] at this
          omega
        simp only [fnD, dSeq, dSet, dSetL, dSetD, dUse, use, look, dC, dVar, dBin, dChain, dTst, dAnd, dOr, dNot, dAndV, dOrV, dNotV, dIf, dIfS, dNext, dRet, dRetN, dExpr, dAsg, dPar, dgName, dgTup, putAll, dFor, dForL, dIt, dSl, dSlL, dNoO, dSoO, dLst, dFz, dNew, dFzD, dNewD, dCons, dNil, dTup, dBu, dBuL, dLook1, dLook2, dLook3, dCall, dCall0, dLc, dLcL, wipeD, backD, dYes, dZip, dEnum, dDnew, dDisp, dPNil, dPCons, keysD, keyD, dDget, dDput, dKget, onD, onL, dMe, isL, dgSub, dRange1, dRange2, dWhile, dBreak, dCont, dNeg, dDin, dSl3, dSortZ, dDgetOr1, dDgetOr2, List.map, List.replicate, List.map_cons, List.map_nil, List.length_cons, List.length_nil, List.cons_append, List.nil_append, List.append_nil, List.set_cons_zero, List.set_cons_succ, List.getElem?_cons_zero, List.getElem?_cons_succ, List.replicate_succ, List.replicate_zero, Nat.reduceAdd, Nat.reduceSub, cond_true, cond_false, items_lst, items_frl, items_tup, items_str, iiR, i1R, i2R, addR, subR, mulR, fdivR, modR, powR, shlR, shrR, xorR, ltR, leR, gtR, geR, isR, isNo, lenR, absR, max2R, min2R, intR, ixR, show (-1 : Int) = -1 from rfl, ea]
        refine ⟨trivial, rfl, ?_⟩
        simp only [pairT, fnD, dSeq, dSet, dSetL, dSetD, dUse, use, look, dC, dVar, dBin, dChain, dTst, dAnd, dOr, dNot, dAndV, dOrV, dNotV, dIf, dIfS, dNext, dRet, dRetN, dExpr, dAsg, dPar, dgName, dgTup, putAll, dFor, dForL, dIt, dSl, dSlL, dNoO, dSoO, dLst, dFz, dNew, dFzD, dNewD, dCons, dNil, dTup, dBu, dBuL, dLook1, dLook2, dLook3, dCall, dCall0, dLc, dLcL, wipeD, backD, dYes, dZip, dEnum, dDnew, dDisp, dPNil, dPCons, keysD, keyD, dDget, dDput, dKget, onD, onL, dMe, isL, dgSub, dRange1, dRange2, dWhile, dBreak, dCont, dNeg, dDin, dSl3, dSortZ, dDgetOr1, dDgetOr2, List.map, List.replicate, List.map_cons, List.map_nil, List.length_cons, List.length_nil, List.cons_append, List.nil_append, List.append_nil, List.set_cons_zero, List.set_cons_succ, List.getElem?_cons_zero, List.getElem?_cons_succ, List.replicate_succ, List.replicate_zero, Nat.reduceAdd, Nat.reduceSub, cond_true, cond_false, items_lst, items_frl, items_tup, items_str, iiR, i1R, i2R, addR, subR, mulR, fdivR, modR, powR, shlR, shrR, xorR, ltR, leR, gtR, geR, isR, isNo, lenR, absR, max2R, min2R, intR, mset_same]
        refine ⟨trivial, by decide, ?_⟩
        refine rem_last hf ?_
        simp only [fnD, dSeq, dSet, dSetL, dSetD, dUse, use, look, dC, dVar, dBin, dChain, dTst, dAnd, dOr, dNot, dAndV, dOrV, dNotV, dIf, dIfS, dNext, dRet, dRetN, dExpr, dAsg, dPar, dgName, dgTup, putAll, dFor, dForL, dIt, dSl, dSlL, dNoO, dSoO, dLst, dFz, dNew, dFzD, dNewD, dCons, dNil, dTup, dBu, dBuL, dLook1, dLook2, dLook3, dCall, dCall0, dLc, dLcL, wipeD, backD, dYes, dZip, dEnum, dDnew, dDisp, dPNil, dPCons, keysD, keyD, dDget, dDput, dKget, onD, onL, dMe, isL, dgSub, dRange1, dRange2, dWhile, dBreak, dCont, dNeg, dDin, dSl3, dSortZ, dDgetOr1, dDgetOr2, List.map, List.replicate, List.map_cons, List.map_nil, List.length_cons, List.length_nil, List.cons_append, List.nil_append, List.append_nil, List.set_cons_zero, List.set_cons_succ, List.getElem?_cons_zero, List.getElem?_cons_succ, List.replicate_succ, List.replicate_zero, Nat.reduceAdd, Nat.reduceSub, cond_true, cond_false, items_lst, items_frl, items_tup, items_str, iiR, i1R, i2R, addR, subR, mulR, fdivR, modR, powR, shlR, shrR, xorR, ltR, leR, gtR, geR, isR, isNo, lenR, absR, max2R, min2R, intR, mset_mset]
        refine ⟨(w - a).toNat + 1, free_while (w - a).toNat a gs (by omega) hba.1 w1 (by rw [sizeLine_eq]; omega) ?_⟩
        simp only [fnD, dSeq, dSet, dSetL, dSetD, dUse, use, look, dC, dVar, dBin, dChain, dTst, dAnd, dOr, dNot, dAndV, dOrV, dNotV, dIf, dIfS, dNext, dRet, dRetN, dExpr, dAsg, dPar, dgName, dgTup, putAll, dFor, dForL, dIt, dSl, dSlL, dNoO, dSoO, dLst, dFz, dNew, dFzD, dNewD, dCons, dNil, dTup, dBu, dBuL, dLook1, dLook2, dLook3, dCall, dCall0, dLc, dLcL, wipeD, backD, dYes, dZip, dEnum, dDnew, dDisp, dPNil, dPCons, keysD, keyD, dDget, dDput, dKget, onD, onL, dMe, isL, dgSub, dRange1, dRange2, dWhile, dBreak, dCont, dNeg, dDin, dSl3, dSortZ, dDgetOr1, dDgetOr2, List.map, List.replicate, List.map_cons, List.map_nil, List.length_cons, List.length_nil, List.cons_append, List.nil_append, List.append_nil, List.set_cons_zero, List.set_cons_succ, List.getElem?_cons_zero, List.getElem?_cons_succ, List.replicate_succ, List.replicate_zero, Nat.reduceAdd, Nat.reduceSub, cond_true, cond_false, items_lst, items_frl, items_tup, items_str, iiR, i1R, i2R, addR, subR, mulR, fdivR, modR, powR, shlR, shrR, xorR, ltR, leR, gtR, geR, isR, isNo, lenR, absR, max2R, min2R, intR, ixR, hsat]
        refine ⟨by decide, by rw [sizeLine_eq]; simp only [List.length_cons] at hk; omega, ?_⟩
        have hsp := spread_bd (w - a).toNat a pat
        have eaw : a + ((w - a).toNat : Nat) = w := by omega
        have hga : ∀ g ∈ gs, g.1 < a := fun g hg => (List.pairwise_append.mp hf).2.2 g hg (a, pat) (by simp)
        refine placed_loop (M := M) (E := E) (p := p) (bits := bits) (x1 := x1) qs (gs ++ spread a pat (w - a).toNat) w (used + p40 w) _ _ _ _ _ _ (fun q hq' => ?_) (List.Pairwise.of_cons hs) (by omega) ?_ (fun f hf' => ?_) w1 ?_ ?_ (fun hno m => hN (fun hyes => hno ⟨fun q hq' => hyes.1 q (List.mem_cons_of_mem _ hq'), ?_⟩) m) (fun hyes => hY ⟨fun q hq' => ?_, ?_⟩)
        · have h1 := hq q (List.mem_cons_of_mem _ hq')
          have h2 := List.rel_of_pairwise_cons hs hq'
          refine ⟨?_, h1.2.1, h1.2.2.1, h1.2.2.2⟩
          rcases h2 with h2 | h2
          · dsimp only at h2; omega
          · dsimp only at h2; omega
        · refine List.pairwise_append.mpr ⟨(List.pairwise_append.mp hf).1, hsp.2, fun g hg q hq' => ?_⟩
          have h1 := hga g hg
          have h2 := (hsp.1 q hq').1
          omega
        · rcases List.mem_append.mp hf' with hf' | hf'
          · have h1 := hb f (List.mem_append_left _ hf')
            omega
          · have h1 := hsp.1 f hf'
            omega
        · rw [sum40_app, spread_sum _ _ _ hba.1 (by omega), eaw]
          rw [sum40_app] at hsum
          have e1 : sum40 [(a, pat)] = p40 a := by simp [sum40]
          rw [e1] at hsum
          omega
        · have h1 := putD_len kvs (.inr s) (.tup [.int w, .int pat])
          simp only [List.length_cons] at hk
          omega
        · have h1 := hyes.2
          simp only [sum40, List.map_cons, List.sum_cons] at h1 ⊢
          omega
        · rcases List.mem_cons.mp hq' with rfl | hq'
          · exact hn
          · exact hyes.1 q hq'
        · have h1 := hyes.2
          simp only [sum40, List.map_cons, List.sum_cons] at h1 ⊢
          omega
def ews : Int → List Int → List (Int × Int)
  | _, [] => []
  | i, w :: ws => (w, i) :: ews (i + 1) ws
theorem ews_len : ∀ (ws : List Int) (i : Int), (ews i ws).length = ws.length
  | [], _ => rfl
  | w :: ws, i => by simp [ews, ews_len ws]
theorem ews_mem : ∀ {ws : List Int} {i : Int} {q : Int × Int}, q ∈ ews i ws → q.1 ∈ ws ∧ i ≤ q.2 ∧ q.2 < i + ws.length
  | [], _, _, h => by simp [ews] at h
  | w :: ws, i, q, h => by
    rw [ews] at h
    rcases List.mem_cons.mp h with rfl | h
    · exact ⟨List.mem_cons_self, by dsimp only; omega, by simp only [List.length_cons]; omega⟩
    · have := ews_mem h
      exact ⟨List.mem_cons_of_mem _ this.1, by omega, by simp only [List.length_cons]; omega⟩
theorem ews_sum : ∀ (ws : List Int) (i : Int), sum40 (ews i ws) = (ws.map fun w => (1 : Int) * 2 ^ (40 - w).toNat).sum
  | [], _ => rfl
  | w :: ws, i => by
    have := ews_sum ws (i + 1)
    simp only [sum40] at this
    have e : p40 w = 1 * 2 ^ (40 - w).toNat := by unfold p40; rw [Int.one_mul]
    simp only [ews, sum40, List.map_cons, List.sum_cons]
    rw [this, e]
theorem sum_perm {a b : List Int} (h : a.Perm b) : a.sum = b.sum := by
  induction h with
  | nil => rfl
  | cons x _ ih => rw [List.sum_cons, List.sum_cons, ih]
  | swap x y l => simp only [List.sum_cons]; omega
  | trans _ _ h1 h2 => exact h1.trans h2
theorem sum40_perm {a b : List (Int × Int)} (h : a.Perm b) : sum40 a = sum40 b := sum_perm (h.map _)
theorem pairsI_map : ∀ ps : List (Int × Int), pairsI (ps.map pairT) = some ps
  | [] => rfl
  | p :: ps => by
    show (pairsI (ps.map pairT)).map (p :: ·) = _
    rw [pairsI_map ps]
    rfl
theorem ews_need {bits : Int} {ws : List Int} (hl : ws.length = 5) : (∀ q ∈ ews 0 ws, ¬ bits - q.1 < needAt q.2) ↔ ∀ p ∈ needL.zip ws, ¬ bits - p.2 < p.1.2 := by
  match ws, hl with
  | [a, b, c, d, e], _ =>
    simp only [ews, needL, List.zip_cons_cons, List.zip_nil_left, List.mem_cons, List.not_mem_nil, or_false, forall_eq_or_imp, forall_eq]
    have h0 : needAt 0 = 2 := rfl
    have h1 : needAt (0 + 1) = 3 := rfl
    have h2 : needAt (0 + 1 + 1) = 3 := rfl
    have h3 : needAt (0 + 1 + 1 + 1) = 7 := rfl
    have h4 : needAt (0 + 1 + 1 + 1 + 1) = 2 := rfl
    rw [h0, h1, h2, h3, h4]
theorem plok_fits {bits : Int} {ws : List Int} {qs : List (Int × Int)} (hl : ws.length = 5) (hp : qs.Perm (ews 0 ws)) : PlOk bits 0 qs ↔ Fits bits ws := by
  unfold PlOk Fits
  rw [sum40_perm hp, ews_sum, ← ews_need hl]
  have : (∀ q ∈ qs, ¬ bits - q.1 < needAt q.2) ↔ ∀ q ∈ ews 0 ws, ¬ bits - q.1 < needAt q.2 := ⟨fun h q hq => h q (hp.mem_iff.mpr hq), fun h q hq => h q (hp.mem_iff.mp hq)⟩
  rw [this, Int.zero_add]
  have e : (1 : Int) * 2 ^ (40 : Int).toNat = 2 ^ 40 := by decide
  rw [e]
theorem enum_comp {M : MS} {k : List D → DS → MS → Prop} {x0 x1 x2 x3 x4 x7 x8 x9 x10 : SV} : ∀ (ws : List Int) (i : Int) (acc : List D) (s5 s6 : SV), acc.length + ws.length < sizeLine →
    (∀ s5' s6', k (acc ++ (ews i ws).map pairT) [x0, x1, x2, x3, x4, s5', s6', x7, x8, x9, x10] M) →
    dLcL noC (dgTup [6, 5]) dYes (dTup (dCons (dVar 5) (dCons (dVar 6) (dNil)))) [6, 5] k (enumT i (ws.map D.int)) acc [x0, x1, x2, x3, x4, s5, s6, x7, x8, x9, x10] M
  | [], i, acc, s5, s6, hl, h => ⟨trivial, by have := h s5 s6; rw [ews, List.map_nil, List.append_nil] at this; exact this⟩
  | w :: ws, i, acc, s5, s6, hl, h => by
    have e1 : enumT i ((w :: ws).map D.int) = .tup [.int i, .int w] :: enumT (i + 1) (ws.map D.int) := rfl
    rw [e1]
    simp only [fnD, dSeq, dSet, dSetL, dSetD, dUse, use, look, dC, dVar, dBin, dChain, dTst, dAnd, dOr, dNot, dAndV, dOrV, dNotV, dIf, dIfS, dNext, dRet, dRetN, dExpr, dAsg, dPar, dgName, dgTup, putAll, dFor, dForL, dIt, dSl, dSlL, dNoO, dSoO, dLst, dFz, dNew, dFzD, dNewD, dCons, dNil, dTup, dBu, dBuL, dLook1, dLook2, dLook3, dCall, dCall0, dLc, dLcL, wipeD, backD, dYes, dZip, dEnum, dDnew, dDisp, dPNil, dPCons, keysD, keyD, dDget, dDput, dKget, onD, onL, dMe, isL, dgSub, dRange1, dRange2, dWhile, dBreak, dCont, dNeg, dDin, dSl3, dSortZ, dDgetOr1, dDgetOr2, List.map, List.replicate, List.map_cons, List.map_nil, List.length_cons, List.length_nil, List.cons_append, List.nil_append, List.append_nil, List.set_cons_zero, List.set_cons_succ, List.getElem?_cons_zero, List.getElem?_cons_succ, List.replicate_succ, List.replicate_zero, Nat.reduceAdd, Nat.reduceSub, cond_true, cond_false, items_lst, items_frl, items_tup, items_str, iiR, i1R, i2R, addR, subR, mulR, fdivR, modR, powR, shlR, shrR, xorR, ltR, leR, gtR, geR, isR, isNo, lenR, absR, max2R, min2R, intR]
    refine ⟨trivial, trivial, by decide, by simp only [List.length_cons] at hl; omega, ?_⟩
    refine enum_comp ws (i + 1) (acc ++ [pairT (w, i)]) .no .no (by simp only [List.length_append, List.length_cons, List.length_nil] at hl ⊢; omega) fun s5' s6' => ?_
    have := h s5' s6'
    rw [ews, List.map_cons] at this
    rw [List.append_assoc]
    exact this
theorem sp_placed {M : MS} {Q : D → MS → Prop} {E : Exc → MS → Prop} {bits : Int} {ws : List Int} (hw : ∀ w ∈ ws, 0 ≤ w ∧ w ≤ 40) (hl : ws.length = 5)
    (hN : ¬ Fits bits ws → ∀ p m, M p = none → Q .non (mset M p m)) (hY : Fits bits ws → ∀ kvs p m, M p = none → Q (.dic kvs) (mset M p m)) : f_law_placed [.int bits, .lst (ws.map D.int)] M Q E := by
  unfold f_law_placed b_law_placed
  rw [show (dSeq (dSet 7 (dFz (dLc (dIt (dVar 3)) (dgName 10) (dTst (dBin leR (dBin ixR (dVar 10) (dC (.int 0))) (dVar 5))) (dVar 10) [10])))
  (dSeq (dIfS (dOr (dTst (dBin (eqR false) (dVar 7) (dFz (dLst (dNil))))) (dTst (dBin ltR (dBin subR (dVar 0) (dVar 5)) (dCall 1 f_law_needed (dCons (dBin ixR (dVar 2) (dVar 6)) (dNil)))))) (dRet (dC .non)) (dNext))
  (dSeq (dAsg (dBin ixR (dVar 7) (dNeg (dC (.int 1)))) (dgTup [8, 9]))
  (dSeq (dExpr (dMe removeR (dVar 3) (dCons (dTup (dCons (dVar 8) (dCons (dVar 9) (dNil)))) (dNil))))
  (dSeq (dWhile (dTst (dBin ltR (dVar 8) (dVar 5))) (dSeq (dExpr (dMe appendR (dVar 3) (dCons (dTup (dCons (dBin addR (dVar 8) (dC (.int 1))) (dCons (dBin addR (dVar 9) (dBin shlR (dC (.int 1)) (dVar 8))) (dNil)))) (dNil))))
  (dSet 8 (dBin addR (dVar 8) (dC (.int 1))))))
  (dDput (dVar 4) (dBin ixR (dVar 2) (dVar 6)) (dTup (dCons (dVar 5) (dCons (dVar 9) (dNil)))))))))) = bodyPl from rfl]
  simp only [fnD, dSeq, dSet, dSetL, dSetD, dUse, use, look, dC, dVar, dBin, dChain, dTst, dAnd, dOr, dNot, dAndV, dOrV, dNotV, dIf, dIfS, dNext, dRet, dRetN, dExpr, dAsg, dPar, dgName, dgTup, putAll, dFor, dForL, dIt, dSl, dSlL, dNoO, dSoO, dLst, dFz, dNew, dFzD, dNewD, dCons, dNil, dTup, dBu, dBuL, dLook1, dLook2, dLook3, dCall, dCall0, dLc, dLcL, wipeD, backD, dYes, dZip, dEnum, dDnew, dDisp, dPNil, dPCons, keysD, keyD, dDget, dDput, dKget, onD, onL, dMe, isL, dgSub, dRange1, dRange2, dWhile, dBreak, dCont, dNeg, dDin, dSl3, dSortZ, dDgetOr1, dDgetOr2, List.map, List.replicate, List.map_cons, List.map_nil, List.length_cons, List.length_nil, List.cons_append, List.nil_append, List.append_nil, List.set_cons_zero, List.set_cons_succ, List.getElem?_cons_zero, List.getElem?_cons_succ, List.replicate_succ, List.replicate_zero, Nat.reduceAdd, Nat.reduceSub, cond_true, cond_false, items_lst, items_frl, items_tup, items_str]
  refine sp_kinds ?_
  refine ⟨by decide, by decide, fun p hp => ?_⟩
  refine enum_comp ws 0 [] _ _ (by rw [sizeLine_eq]; simp only [List.length_nil]; omega) fun s5 s6 => ?_
  simp only [fnD, dSeq, dSet, dSetL, dSetD, dUse, use, look, dC, dVar, dBin, dChain, dTst, dAnd, dOr, dNot, dAndV, dOrV, dNotV, dIf, dIfS, dNext, dRet, dRetN, dExpr, dAsg, dPar, dgName, dgTup, putAll, dFor, dForL, dIt, dSl, dSlL, dNoO, dSoO, dLst, dFz, dNew, dFzD, dNewD, dCons, dNil, dTup, dBu, dBuL, dLook1, dLook2, dLook3, dCall, dCall0, dLc, dLcL, wipeD, backD, dYes, dZip, dEnum, dDnew, dDisp, dPNil, dPCons, keysD, keyD, dDget, dDput, dKget, onD, onL, dMe, isL, dgSub, dRange1, dRange2, dWhile, dBreak, dCont, dNeg, dDin, dSl3, dSortZ, dDgetOr1, dDgetOr2, List.map, List.replicate, List.map_cons, List.map_nil, List.length_cons, List.length_nil, List.cons_append, List.nil_append, List.append_nil, List.set_cons_zero, List.set_cons_succ, List.getElem?_cons_zero, List.getElem?_cons_succ, List.replicate_succ, List.replicate_zero, Nat.reduceAdd, Nat.reduceSub, cond_true, cond_false, items_lst, items_frl, items_tup, items_str, sortedPR, pairsI_map]
  intro qs hperm hs
  have hin : ∀ q ∈ qs, 0 ≤ q.1 ∧ q.1 ≤ 40 ∧ 0 ≤ q.2 ∧ q.2 < 5 := fun q hq => by
    have h1 := ews_mem (hperm.mem_iff.mp hq)
    have h2 := hw _ h1.1
    rw [hl] at h1
    omega
  have hql : qs.length = 5 := by rw [hperm.length_eq, ews_len, hl]
  refine placed_loop qs [(0, 0)] 0 0 [] _ _ _ _ _ hin hs (by decide) (List.pairwise_singleton _ _) (fun f hf => ?_) (by decide) (by decide) (by simp only [List.length_nil]; omega) (fun hno m => ?_) fun hyes kvs' m s5 s6 s7 s8 s9 => ?_
  · simp only [List.mem_cons, List.not_mem_nil, or_false] at hf
    subst hf
    exact ⟨by decide, by decide⟩
  · exact hN (fun h => hno ((plok_fits hl hperm).mpr h)) p m hp
  · simp only [fnD, dSeq, dSet, dSetL, dSetD, dUse, use, look, dC, dVar, dBin, dChain, dTst, dAnd, dOr, dNot, dAndV, dOrV, dNotV, dIf, dIfS, dNext, dRet, dRetN, dExpr, dAsg, dPar, dgName, dgTup, putAll, dFor, dForL, dIt, dSl, dSlL, dNoO, dSoO, dLst, dFz, dNew, dFzD, dNewD, dCons, dNil, dTup, dBu, dBuL, dLook1, dLook2, dLook3, dCall, dCall0, dLc, dLcL, wipeD, backD, dYes, dZip, dEnum, dDnew, dDisp, dPNil, dPCons, keysD, keyD, dDget, dDput, dKget, onD, onL, dMe, isL, dgSub, dRange1, dRange2, dWhile, dBreak, dCont, dNeg, dDin, dSl3, dSortZ, dDgetOr1, dDgetOr2, List.map, List.replicate, List.map_cons, List.map_nil, List.length_cons, List.length_nil, List.cons_append, List.nil_append, List.append_nil, List.set_cons_zero, List.set_cons_succ, List.getElem?_cons_zero, List.getElem?_cons_succ, List.replicate_succ, List.replicate_zero, Nat.reduceAdd, Nat.reduceSub, cond_true, cond_false, items_lst, items_frl, items_tup, items_str]
    exact hY ((plok_fits hl hperm).mp hyes) kvs' p m hp
def rowD (r : List Int) : D := .lst (r.map D.int)
def next4 (rows : List (List Int)) : List (List Int) := rows.flatMap fun r => [r ++ [1], r ++ [2], r ++ [3], r ++ [4]]
theorem next4_len (rows : List (List Int)) : (next4 rows).length = 4 * rows.length := by
  unfold next4
  induction rows with
  | nil => rfl
  | cons r rows ih => rw [List.flatMap_cons, List.length_append, ih]; simp only [List.length_cons, List.length_nil]; omega
theorem rows_inner {M : MS} {E : DEnds} {x0 x1 : SV} : ∀ (rows acc : List (List Int)) (s3 : SV), (∀ r ∈ rows, r.length ≤ 10) → acc.length + 4 * rows.length ≤ 100000 → (∀ s3', E.nx [x0, x1, .own ((acc ++ next4 rows).map rowD), s3', .no] M) →
    dForL noC (dgName 3) (dExpr (dMe extendR (dVar 2) (dCons (dFz (dLc (dRange2 (dC (.int 1)) (dC (.int 5))) (dgName 4) (dYes) (dBin addR (dVar 3) (dFz (dLst (dCons (dVar 4) (dNil))))) [4])) (dNil)))) E (rows.map rowD) [x0, x1, .own (acc.map rowD), s3, .no] M
  | [], acc, s3, hr, hl, h => ⟨trivial, by have := h s3; rw [next4, List.flatMap_nil, List.append_nil] at this; exact this⟩
  | r :: rows, acc, s3, hr, hl, h => by
    have hrl := hr r List.mem_cons_self
    have er : rngL 1 ((5 : Int) - 1).toNat = [.int 1, .int 2, .int 3, .int 4] := rfl
    simp only [fnD, dSeq, dSet, dSetL, dSetD, dUse, use, look, dC, dVar, dBin, dChain, dTst, dAnd, dOr, dNot, dAndV, dOrV, dNotV, dIf, dIfS, dNext, dRet, dRetN, dExpr, dAsg, dPar, dgName, dgTup, putAll, dFor, dForL, dIt, dSl, dSlL, dNoO, dSoO, dLst, dFz, dNew, dFzD, dNewD, dCons, dNil, dTup, dBu, dBuL, dLook1, dLook2, dLook3, dCall, dCall0, dLc, dLcL, wipeD, backD, dYes, dZip, dEnum, dDnew, dDisp, dPNil, dPCons, keysD, keyD, dDget, dDput, dKget, onD, onL, dMe, isL, dgSub, dRange1, dRange2, dWhile, dBreak, dCont, dNeg, dDin, dSl3, dSortZ, dDgetOr1, dDgetOr2, List.map, List.replicate, List.map_cons, List.map_nil, List.length_cons, List.length_nil, List.cons_append, List.nil_append, List.append_nil, List.set_cons_zero, List.set_cons_succ, List.getElem?_cons_zero, List.getElem?_cons_succ, List.replicate_succ, List.replicate_zero, Nat.reduceAdd, Nat.reduceSub, cond_true, cond_false, items_lst, items_frl, items_tup, items_str, iiR, i1R, i2R, addR, subR, mulR, fdivR, modR, powR, shlR, shrR, xorR, ltR, leR, gtR, geR, isR, isNo, lenR, absR, max2R, min2R, intR, rowD, er, extendR]
    simp only [List.length_map, List.length_append, List.length_cons, List.length_nil] at hl ⊢
    refine ⟨trivial, trivial, by decide, trivial, by decide, by rw [sizeLine_eq]; omega, by decide, trivial, by decide, by rw [sizeLine_eq]; omega, by decide, trivial, by decide, by rw [sizeLine_eq]; omega, by decide, trivial, by decide, by rw [sizeLine_eq]; omega, by decide, trivial, by rw [sizeLine_eq]; omega, ?_⟩
    have := rows_inner (M := M) (E := E) (x0 := x0) (x1 := x1) rows (acc ++ [r ++ [1], r ++ [2], r ++ [3], r ++ [4]]) (.d (rowD r)) (fun x hx => hr x (List.mem_cons_of_mem _ hx)) (by simp only [List.length_append, List.length_cons, List.length_nil]; omega) fun s3' => by
      have := h s3'
      rw [next4, List.flatMap_cons] at this
      rw [List.append_assoc]
      exact this
    simp only [List.map_append, List.map_cons, List.map_nil, rowD] at this
    exact this
def rowsN : Nat → List (List Int)
  | 0 => [[]]
  | n + 1 => next4 (rowsN n)
theorem rowsN_len : ∀ n, (rowsN n).length = 4 ^ n
  | 0 => rfl
  | n + 1 => by rw [rowsN, next4_len, rowsN_len n, Nat.pow_succ, Nat.mul_comm]
theorem rowsN_ok : ∀ (n : Nat), ∀ r ∈ rowsN n, r.length = n ∧ ∀ w ∈ r, 1 ≤ w ∧ w ≤ 4
  | 0, r, h => by
    simp only [rowsN, List.mem_cons, List.not_mem_nil, or_false] at h
    subst h
    exact ⟨rfl, fun w hw => by simp at hw⟩
  | n + 1, r, h => by
    rw [rowsN, next4] at h
    obtain ⟨q, hq, h⟩ := List.mem_flatMap.mp h
    obtain ⟨h1, h2⟩ := rowsN_ok n q hq
    simp only [List.mem_cons, List.not_mem_nil, or_false] at h
    rcases h with rfl | rfl | rfl | rfl <;>
    · refine ⟨by rw [List.length_append, h1]; rfl, fun w hw => ?_⟩
      rcases List.mem_append.mp hw with hw | hw
      · exact h2 w hw
      · simp only [List.mem_cons, List.not_mem_nil, or_false] at hw
        subst hw
        omega
theorem rows_outer {M : MS} {E : DEnds} : ∀ (n i : Nat) (lo : Int) (s1 s2 s3 : SV), n + i = 5 → (∀ s1' s2' s3', E.nx [.d (.lst ((rowsN 5).map rowD)), s1', s2', s3', .no] M) →
    dForL noC (dgName 1) (dSeq (dSetL 2 (dLst (dNil)))
  (dSeq (dFor (dIt (dVar 0)) (dgName 3) (dExpr (dMe extendR (dVar 2) (dCons (dFz (dLc (dRange2 (dC (.int 1)) (dC (.int 5))) (dgName 4) (dYes) (dBin addR (dVar 3) (dFz (dLst (dCons (dVar 4) (dNil))))) [4])) (dNil)))))
  (dSet 0 (dVar 2)))) E (rngL lo n) [.d (.lst ((rowsN i).map rowD)), s1, s2, s3, .no] M
  | 0, i, lo, s1, s2, s3, e, h => ⟨trivial, by
    have : i = 5 := by omega
    subst this
    exact h s1 s2 s3⟩
  | n + 1, i, lo, s1, s2, s3, e, h => by
    rw [rngL]
    have hlen : (rowsN i).length ≤ 4 ^ 5 := by rw [rowsN_len]; exact Nat.pow_le_pow_right (by decide) (by omega)
    simp only [fnD, dSeq, dSet, dSetL, dSetD, dUse, use, look, dC, dVar, dBin, dChain, dTst, dAnd, dOr, dNot, dAndV, dOrV, dNotV, dIf, dIfS, dNext, dRet, dRetN, dExpr, dAsg, dPar, dgName, dgTup, putAll, dFor, dForL, dIt, dSl, dSlL, dNoO, dSoO, dLst, dFz, dNew, dFzD, dNewD, dCons, dNil, dTup, dBu, dBuL, dLook1, dLook2, dLook3, dCall, dCall0, dLc, dLcL, wipeD, backD, dYes, dZip, dEnum, dDnew, dDisp, dPNil, dPCons, keysD, keyD, dDget, dDput, dKget, onD, onL, dMe, isL, dgSub, dRange1, dRange2, dWhile, dBreak, dCont, dNeg, dDin, dSl3, dSortZ, dDgetOr1, dDgetOr2, List.map, List.replicate, List.map_cons, List.map_nil, List.length_cons, List.length_nil, List.cons_append, List.nil_append, List.append_nil, List.set_cons_zero, List.set_cons_succ, List.getElem?_cons_zero, List.getElem?_cons_succ, List.replicate_succ, List.replicate_zero, Nat.reduceAdd, Nat.reduceSub, cond_true, cond_false, items_lst, items_frl, items_tup, items_str]
    refine ⟨trivial, by decide, rows_inner (rowsN i) [] _ (fun r hr => ?_) (by simp only [List.length_nil]; omega) fun s3' => ?_⟩
    · have := (rowsN_ok i r hr).1
      omega
    · simp only [fnD, dSeq, dSet, dSetL, dSetD, dUse, use, look, dC, dVar, dBin, dChain, dTst, dAnd, dOr, dNot, dAndV, dOrV, dNotV, dIf, dIfS, dNext, dRet, dRetN, dExpr, dAsg, dPar, dgName, dgTup, putAll, dFor, dForL, dIt, dSl, dSlL, dNoO, dSoO, dLst, dFz, dNew, dFzD, dNewD, dCons, dNil, dTup, dBu, dBuL, dLook1, dLook2, dLook3, dCall, dCall0, dLc, dLcL, wipeD, backD, dYes, dZip, dEnum, dDnew, dDisp, dPNil, dPCons, keysD, keyD, dDget, dDput, dKget, onD, onL, dMe, isL, dgSub, dRange1, dRange2, dWhile, dBreak, dCont, dNeg, dDin, dSl3, dSortZ, dDgetOr1, dDgetOr2, List.map, List.replicate, List.map_cons, List.map_nil, List.length_cons, List.length_nil, List.cons_append, List.nil_append, List.append_nil, List.set_cons_zero, List.set_cons_succ, List.getElem?_cons_zero, List.getElem?_cons_succ, List.replicate_succ, List.replicate_zero, Nat.reduceAdd, Nat.reduceSub, cond_true, cond_false, items_lst, items_frl, items_tup, items_str]
      exact rows_outer n (i + 1) (lo + 1) _ _ _ (by omega) h
theorem sp_rows {M : MS} {Q : D → MS → Prop} {E : Exc → MS → Prop} (h : Q (.lst ((rowsN 5).map rowD)) M) : f_law_rows [] M Q E := by
  unfold f_law_rows b_law_rows
  simp only [fnD, dSeq, dSet, dSetL, dSetD, dUse, use, look, dC, dVar, dBin, dChain, dTst, dAnd, dOr, dNot, dAndV, dOrV, dNotV, dIf, dIfS, dNext, dRet, dRetN, dExpr, dAsg, dPar, dgName, dgTup, putAll, dFor, dForL, dIt, dSl, dSlL, dNoO, dSoO, dLst, dFz, dNew, dFzD, dNewD, dCons, dNil, dTup, dBu, dBuL, dLook1, dLook2, dLook3, dCall, dCall0, dLc, dLcL, wipeD, backD, dYes, dZip, dEnum, dDnew, dDisp, dPNil, dPCons, keysD, keyD, dDget, dDput, dKget, onD, onL, dMe, isL, dgSub, dRange1, dRange2, dWhile, dBreak, dCont, dNeg, dDin, dSl3, dSortZ, dDgetOr1, dDgetOr2, List.map, List.replicate, List.map_cons, List.map_nil, List.length_cons, List.length_nil, List.cons_append, List.nil_append, List.append_nil, List.set_cons_zero, List.set_cons_succ, List.getElem?_cons_zero, List.getElem?_cons_succ, List.replicate_succ, List.replicate_zero, Nat.reduceAdd, Nat.reduceSub, cond_true, cond_false, items_lst, items_frl, items_tup, items_str]
  refine ⟨by decide, by decide, by decide, by decide, rows_outer 5 0 0 _ _ _ rfl fun s1 s2 s3 => ?_⟩
  simp only [fnD, dSeq, dSet, dSetL, dSetD, dUse, use, look, dC, dVar, dBin, dChain, dTst, dAnd, dOr, dNot, dAndV, dOrV, dNotV, dIf, dIfS, dNext, dRet, dRetN, dExpr, dAsg, dPar, dgName, dgTup, putAll, dFor, dForL, dIt, dSl, dSlL, dNoO, dSoO, dLst, dFz, dNew, dFzD, dNewD, dCons, dNil, dTup, dBu, dBuL, dLook1, dLook2, dLook3, dCall, dCall0, dLc, dLcL, wipeD, backD, dYes, dZip, dEnum, dDnew, dDisp, dPNil, dPCons, keysD, keyD, dDget, dDput, dKget, onD, onL, dMe, isL, dgSub, dRange1, dRange2, dWhile, dBreak, dCont, dNeg, dDin, dSl3, dSortZ, dDgetOr1, dDgetOr2, List.map, List.replicate, List.map_cons, List.map_nil, List.length_cons, List.length_nil, List.cons_append, List.nil_append, List.append_nil, List.set_cons_zero, List.set_cons_succ, List.getElem?_cons_zero, List.getElem?_cons_succ, List.replicate_succ, List.replicate_zero, Nat.reduceAdd, Nat.reduceSub, cond_true, cond_false, items_lst, items_frl, items_tup, items_str]
  exact h
/-! ### what fits: the plain law -/
theorem p40_anti {a b : Int} (h : a ≤ b) : p40 b ≤ p40 a := by
  unfold p40
  have : (2 : Nat) ^ (40 - b).toNat ≤ 2 ^ (40 - a).toNat := Nat.pow_le_pow_right (by decide) (by omega)
  exact_mod_cast this
def sumW (ws : List Int) : Int := (ws.map p40).sum
theorem sumW_eq (ws : List Int) : (ws.map fun w => (1 : Int) * 2 ^ (40 - w).toNat).sum = sumW ws := by
  unfold sumW p40
  simp only [Int.one_mul]
theorem fits_iff (bits : Int) (ws : List Int) : Fits bits ws ↔ (∀ p ∈ needL.zip ws, ¬ bits - p.2 < p.1.2) ∧ sumW ws ≤ 2 ^ 40 := by
  unfold Fits
  rw [sumW_eq, show (1 : Int) * 2 ^ (40 : Int).toNat = 2 ^ 40 from by decide]
/-- each width at most the other's -/
inductive LeW : List Int → List Int → Prop
  | nil : LeW [] []
  | cons {a b : Int} {as bs : List Int} : a ≤ b → LeW as bs → LeW (a :: as) (b :: bs)
theorem LeW.sum : ∀ {as bs : List Int}, LeW as bs → sumW bs ≤ sumW as
  | _, _, .nil => Int.le_refl _
  | _, _, .cons h t => by
    have h1 := p40_anti h
    have h2 := LeW.sum t
    simp only [sumW, List.map_cons, List.sum_cons] at h2 ⊢
    omega
theorem LeW.set_up : ∀ (ws : List Int) (k : Nat) (v : Int), (∀ x, ws[k]? = some x → x ≤ v) → LeW ws (ws.set k v)
  | [], _, _, _ => .nil
  | w :: ws, 0, v, h => .cons (h w (by simp)) (LeW.refl' ws)
  | w :: ws, k + 1, v, h => .cons (Int.le_refl _) (LeW.set_up ws k v fun x hx => h x (by simpa using hx))
where LeW.refl' : ∀ ws : List Int, LeW ws ws
  | [] => .nil
  | w :: ws => .cons (Int.le_refl _) (LeW.refl' ws)
theorem needs_set {bits : Int} : ∀ {ns : List (Str × Int)} {ws : List Int} {k : Nat} {v : Int} {q : Str × Int}, ns[k]? = some q → ¬ bits - v < q.2 → (∀ p ∈ ns.zip ws, ¬ bits - p.2 < p.1.2) → ∀ p ∈ ns.zip (ws.set k v), ¬ bits - p.2 < p.1.2
  | [], ws, k, v, q, h, _, _, p, hp => by simp at h
  | n :: ns, [], k, v, q, h, _, _, p, hp => by simp at hp
  | n :: ns, w :: ws, 0, v, q, h, hv, ha, p, hp => by
    simp at h; subst h
    rw [List.set_cons_zero, List.zip_cons_cons] at hp
    rcases List.mem_cons.mp hp with rfl | hp
    · exact hv
    · exact ha p (by rw [List.zip_cons_cons]; exact List.mem_cons_of_mem _ hp)
  | n :: ns, w :: ws, k + 1, v, q, h, hv, ha, p, hp => by
    rw [List.set_cons_succ, List.zip_cons_cons] at hp
    rcases List.mem_cons.mp hp with rfl | hp
    · exact ha _ (by rw [List.zip_cons_cons]; exact List.mem_cons_self)
    · exact needs_set (by simpa using h) hv (fun r hr => ha r (by rw [List.zip_cons_cons]; exact List.mem_cons_of_mem _ hr)) p hp
theorem need_le : ∀ q ∈ needL, q.2 ≤ 7 := by
  intro q hq
  simp only [needL, List.mem_cons, List.not_mem_nil, or_false] at hq
  rcases hq with rfl | rfl | rfl | rfl | rfl <;> decide
/-- one width one more -/
theorem fits_wider {bits : Int} {ws : List Int} {k : Nat} {w : Int} {q : Str × Int} (hF : Fits bits ws) (hk : ws[k]? = some w) (hq : needL[k]? = some q) (hb : q.2 ≤ bits - (w + 1)) : Fits bits (ws.set k (w + 1)) := by
  rw [fits_iff] at hF ⊢
  refine ⟨needs_set hq (by omega) hF.1, ?_⟩
  have := (LeW.set_up ws k (w + 1) fun x hx => by rw [hk] at hx; cases hx; omega).sum
  omega
theorem leW_less : ∀ (ws : List Int), (∀ w ∈ ws, 1 ≤ w) → LeW (ws.map fun w => if w - 1 > 1 then w - 1 else 1) ws
  | [], _ => .nil
  | w :: ws, h => by
    have h1 := h w List.mem_cons_self
    refine .cons ?_ (leW_less ws fun x hx => h x (List.mem_cons_of_mem _ hx))
    show (if w - 1 > 1 then w - 1 else 1) ≤ w
    split <;> omega
/-- nowhere greater, and still none -/
theorem fits_less {bits m : Int} {ws : List Int} (h1 : ∀ w ∈ ws, 1 ≤ w) (hm : ∀ w ∈ ws, w ≤ m) (hb : 6 < bits - m) (hF : Fits bits (ws.map fun w => if w - 1 > 1 then w - 1 else 1)) : Fits bits ws := by
  rw [fits_iff] at hF ⊢
  refine ⟨fun p hp => ?_, ?_⟩
  · obtain ⟨p1, p2⟩ := List.of_mem_zip hp
    have := need_le _ p1
    have := hm _ p2
    omega
  · have := (leW_less ws h1).sum
    omega
theorem cut_lo {α : Type} (ws : List α) {k : Int} (h0 : 0 ≤ k) (h1 : k ≤ ws.length) : cutD ws none (some k) = ws.take k.toNat := by
  unfold cutD
  have e1 : HT.sIx ws.length 0 none = 0 := rfl
  have e2 : HT.sIx ws.length ws.length (some k) = k.toNat := by
    show (if k < 0 then (k + (ws.length : Int)).toNat else min k.toNat ws.length) = _
    rw [if_neg (by omega)]
    omega
  rw [e1, e2, List.drop_zero, Nat.sub_zero]
theorem cut_hi {α : Type} (ws : List α) {k : Int} (h0 : 0 ≤ k) (h1 : k ≤ ws.length) : cutD ws (some k) none = ws.drop k.toNat := by
  unfold cutD
  have e1 : HT.sIx ws.length ws.length none = ws.length := rfl
  have e2 : HT.sIx ws.length 0 (some k) = k.toNat := by
    show (if k < 0 then (k + (ws.length : Int)).toNat else min k.toNat ws.length) = _
    rw [if_neg (by omega)]
    omega
  rw [e1, e2]
  exact List.take_of_length_le (by rw [List.length_drop]; exact Nat.le_refl _)
theorem cut_set {α : Type} {ws : List α} {k : Int} {v : α} (h0 : 0 ≤ k) (h1 : k < ws.length) : cutD ws none (some k) ++ [v] ++ cutD ws (some (k + 1)) none = ws.set k.toNat v := by
  rw [cut_lo ws h0 (by omega), cut_hi ws (by omega) (by omega), List.set_eq_take_append_cons_drop, if_pos (by omega), List.append_assoc]
  have : (k + 1).toNat = k.toNat + 1 := by omega
  rw [this]
  rfl
theorem set_mem {ws : List Int} {k : Nat} {v : Int} {P : Int → Prop} (h : ∀ w ∈ ws, P w) (hv : P v) : ∀ w ∈ ws.set k v, P w := fun w hw => by
  rcases List.mem_or_eq_of_mem_set hw with hw | rfl
  · exact h w hw
  · exact hv
/-! ### the bag of draws -/
def mkBag (ns : List Int) (a c r t : Int) : List D := [.lst (ns.map D.int), .int a, .int c, .int r, .int t]
def Bag (m : MO) : Prop := ∃ (ns : List Int) (a c r t : Int), m = .lst (mkBag ns a c r t) ∧ 0 ≤ a ∧ r.natAbs < 2 ^ 64
theorem ix5 {α : Type} {x0 x1 x2 x3 x4 : α} : atI [x0, x1, x2, x3, x4] 0 = some x0 ∧ atI [x0, x1, x2, x3, x4] 1 = some x1 ∧ atI [x0, x1, x2, x3, x4] 2 = some x2 ∧ atI [x0, x1, x2, x3, x4] 3 = some x3 ∧ atI [x0, x1, x2, x3, x4] 4 = some x4 := ⟨rfl, rfl, rfl, rfl, rfl⟩
theorem ixn5 : ixN 5 0 = some 0 ∧ ixN 5 1 = some 1 ∧ ixN 5 2 = some 2 ∧ ixN 5 3 = some 3 ∧ ixN 5 4 = some 4 := ⟨rfl, rfl, rfl, rfl, rfl⟩
theorem atI_nn {α : Type} {xs : List α} {i : Int} (h0 : 0 ≤ i) (h1 : i < xs.length) : ∃ x, atI xs i = some x ∧ xs[i.toNat]? = some x ∧ x ∈ xs := by
  have hl : i.toNat < xs.length := by omega
  refine ⟨xs[i.toNat], ?_, List.getElem?_eq_getElem hl, List.getElem_mem hl⟩
  unfold atI ixN
  rw [if_pos h0, if_pos h1]
  exact List.getElem?_eq_getElem hl
theorem sp_draw2 {M : MS} {Q : D → MS → Prop} {E : Exc → MS → Prop} {a : Addr} {many : Int} {ns : List Int} {at_ c r t : Int} (h0 : 0 < many) (h1 : many.natAbs.log2 < 9000) (hc : c ≠ 0) (hM : M a = some (.lst (mkBag ns at_ c r t)))
    (h : ∀ (n c' : Int), 0 ≤ n → n < many → Q (.int n) (mset M a (.lst (mkBag ns at_ c' r t)))) : f_law_draw [.ref a, .int many] M Q E := by
  unfold f_law_draw b_law_draw
  unfold mkBag at hM
  have e : decide (c = 0) = false := decide_eq_false hc
  simp only [fnD, dSeq, dSet, dSetL, dSetD, dUse, use, look, dC, dVar, dBin, dChain, dTst, dAnd, dOr, dNot, dAndV, dOrV, dNotV, dIf, dIfS, dNext, dRet, dRetN, dExpr, dAsg, dPar, dgName, dgTup, putAll, dFor, dForL, dIt, dSl, dSlL, dNoO, dSoO, dLst, dFz, dNew, dFzD, dNewD, dCons, dNil, dTup, dBu, dBuL, dLook1, dLook2, dLook3, dCall, dCall0, dLc, dLcL, wipeD, backD, dYes, dZip, dEnum, dDnew, dDisp, dPNil, dPCons, keysD, keyD, dDget, dDput, dKget, onD, onL, dMe, isL, dgSub, dRange1, dRange2, dWhile, dBreak, dCont, dNeg, dDin, dSl3, dSortZ, dDgetOr1, dDgetOr2, List.map, List.replicate, List.map_cons, List.map_nil, List.length_cons, List.length_nil, List.cons_append, List.nil_append, List.append_nil, List.set_cons_zero, List.set_cons_succ, List.getElem?_cons_zero, List.getElem?_cons_succ, List.replicate_succ, List.replicate_zero, Nat.reduceAdd, Nat.reduceSub, cond_true, cond_false, items_lst, items_frl, items_tup, items_str, iiR, i1R, i2R, addR, subR, mulR, fdivR, modR, powR, shlR, shrR, xorR, ltR, leR, gtR, geR, isR, isNo, lenR, absR, max2R, min2R, intR, hM, ixR, ix5.1, ix5.2.1, ix5.2.2.1, ix5.2.2.2.1, ix5.2.2.2.2, ixn5.1, ixn5.2.1, ixn5.2.2.1, ixn5.2.2.2.1, ixn5.2.2.2.2, eqR, scalD, eqS, mset_same, mset_mset, e, Bool.false_xor]
  refine .inl ⟨trivial, .inl ⟨trivial, by omega, ⟨h0, h1⟩, ?_⟩⟩
  exact h _ _ (Int.fmod_nonneg_of_pos _ h0) (Int.fmod_lt_of_pos _ h0)
theorem sp_draw {M : MS} {Q : D → MS → Prop} {E : Exc → MS → Prop} {a : Addr} {m : MO} {many : Int} (hM : M a = some m) (hB : Bag m) (h0 : 0 < many) (h1 : many.natAbs.log2 < 9000)
    (h : ∀ (n : Int) (m' : MO), 0 ≤ n → n < many → Bag m' → Q (.int n) (mset M a m')) : f_law_draw [.ref a, .int many] M Q E := by
  obtain ⟨ns, at_, c, r, t, rfl, ha, hr⟩ := hB
  by_cases hc : c = 0
  · subst hc
    unfold f_law_draw b_law_draw
    unfold mkBag at hM
    by_cases hl : at_ < ns.length
    · have e2 : decide (at_ < ((ns.map D.int).length : Int)) = true := decide_eq_true (by rw [List.length_map]; exact hl)
      obtain ⟨z, e3, e4, _⟩ := atI_nn (xs := ns.map D.int) ha (by rw [List.length_map]; exact hl)
      rw [List.getElem?_map] at e4
      cases e5 : ns[at_.toNat]? with
      | none => rw [e5] at e4; cases e4
      | some z' =>
        rw [e5] at e4; cases e4
        simp only [fnD, dSeq, dSet, dSetL, dSetD, dUse, use, look, dC, dVar, dBin, dChain, dTst, dAnd, dOr, dNot, dAndV, dOrV, dNotV, dIf, dIfS, dNext, dRet, dRetN, dExpr, dAsg, dPar, dgName, dgTup, putAll, dFor, dForL, dIt, dSl, dSlL, dNoO, dSoO, dLst, dFz, dNew, dFzD, dNewD, dCons, dNil, dTup, dBu, dBuL, dLook1, dLook2, dLook3, dCall, dCall0, dLc, dLcL, wipeD, backD, dYes, dZip, dEnum, dDnew, dDisp, dPNil, dPCons, keysD, keyD, dDget, dDput, dKget, onD, onL, dMe, isL, dgSub, dRange1, dRange2, dWhile, dBreak, dCont, dNeg, dDin, dSl3, dSortZ, dDgetOr1, dDgetOr2, List.map, List.replicate, List.map_cons, List.map_nil, List.length_cons, List.length_nil, List.cons_append, List.nil_append, List.append_nil, List.set_cons_zero, List.set_cons_succ, List.getElem?_cons_zero, List.getElem?_cons_succ, List.replicate_succ, List.replicate_zero, Nat.reduceAdd, Nat.reduceSub, cond_true, cond_false, items_lst, items_frl, items_tup, items_str, iiR, i1R, i2R, addR, subR, mulR, fdivR, modR, powR, shlR, shrR, xorR, ltR, leR, gtR, geR, isR, isNo, lenR, absR, max2R, min2R, intR, hM, ixR, ix5.1, ix5.2.1, ix5.2.2.1, ix5.2.2.2.1, ix5.2.2.2.2, ixn5.1, ixn5.2.1, ixn5.2.2.1, ixn5.2.2.2.1, ixn5.2.2.2.2, eqR, scalD, eqS, mset_same, mset_mset, decide_true, Bool.false_xor, e2, e3]
        refine .inl ⟨trivial, trivial, by omega, ⟨h0, h1⟩, ?_⟩
        exact h _ _ (Int.fmod_nonneg_of_pos _ h0) (Int.fmod_lt_of_pos _ h0) ⟨ns, at_ + 1, _, r, t, rfl, by omega, hr⟩
    · have e2 : decide (at_ < ((ns.map D.int).length : Int)) = false := decide_eq_false (by rw [List.length_map]; exact hl)
      simp only [fnD, dSeq, dSet, dSetL, dSetD, dUse, use, look, dC, dVar, dBin, dChain, dTst, dAnd, dOr, dNot, dAndV, dOrV, dNotV, dIf, dIfS, dNext, dRet, dRetN, dExpr, dAsg, dPar, dgName, dgTup, putAll, dFor, dForL, dIt, dSl, dSlL, dNoO, dSoO, dLst, dFz, dNew, dFzD, dNewD, dCons, dNil, dTup, dBu, dBuL, dLook1, dLook2, dLook3, dCall, dCall0, dLc, dLcL, wipeD, backD, dYes, dZip, dEnum, dDnew, dDisp, dPNil, dPCons, keysD, keyD, dDget, dDput, dKget, onD, onL, dMe, isL, dgSub, dRange1, dRange2, dWhile, dBreak, dCont, dNeg, dDin, dSl3, dSortZ, dDgetOr1, dDgetOr2, List.map, List.replicate, List.map_cons, List.map_nil, List.length_cons, List.length_nil, List.cons_append, List.nil_append, List.append_nil, List.set_cons_zero, List.set_cons_succ, List.getElem?_cons_zero, List.getElem?_cons_succ, List.replicate_succ, List.replicate_zero, Nat.reduceAdd, Nat.reduceSub, cond_true, cond_false, items_lst, items_frl, items_tup, items_str, iiR, i1R, i2R, addR, subR, mulR, fdivR, modR, powR, shlR, shrR, xorR, ltR, leR, gtR, geR, isR, isNo, lenR, absR, max2R, min2R, intR, hM, ixR, ix5.1, ix5.2.1, ix5.2.2.1, ix5.2.2.2.1, ix5.2.2.2.2, ixn5.1, ixn5.2.1, ixn5.2.2.1, ixn5.2.2.2.1, ixn5.2.2.2.2, eqR, scalD, eqS, mset_same, mset_mset, decide_true, Bool.false_xor, e2]
      refine .inl ⟨trivial, trivial, .inl ⟨trivial, ⟨by decide, by decide, hr⟩, CMul.ok (.inl (by omega)), CMul.ok (.inl (by omega)), by decide, ⟨by decide, by decide⟩, by omega, ?_⟩⟩
      refine h _ _ (Int.fmod_nonneg_of_pos _ h0) (Int.fmod_lt_of_pos _ h0) ⟨ns, at_, 0, _, _, rfl, ha, ?_⟩
      have g0 := Int.fmod_nonneg_of_pos (r ^ (3 : Int).toNat + 69621 * r + 1021 * (t + 1) + 1) (show (0 : Int) < 2147483647 by decide)
      have g1 := Int.fmod_lt_of_pos (r ^ (3 : Int).toNat + 69621 * r + 1021 * (t + 1) + 1) (show (0 : Int) < 2147483647 by decide)
      generalize Int.fmod (r ^ (3 : Int).toNat + 69621 * r + 1021 * (t + 1) + 1) 2147483647 = y at *
      omega
  · exact sp_draw2 h0 h1 hc hM fun n c' g0 g1 => h n _ g0 g1 ⟨ns, at_, c', r, t, rfl, ha, hr⟩
theorem bag_loop {M : MS} {E : DEnds} {xs : List D} : ∀ (ys : List Int) (r : Int) (k : SV), r.natAbs < 2 ^ 31 → (∀ (r' : Int) k', r'.natAbs < 2 ^ 31 → E.nx [xs0, .d (.int r'), k'] M) →
    dForL noC (dgName 2) (dSet 1 (dBin modR (dBin addR (dBin addR (dBin mulR (dVar 1) (dC (.int 48271))) (dBin modR (dVar 2) (dC (.int 2147483629)))) (dC (.int 1))) (dC (.int 2147483647)))) E (ys.map D.int) [xs0, .d (.int r), k] M
  | [], r, k, hr, h => ⟨trivial, h r k hr⟩
  | y :: ys, r, k, hr, h => by
    simp only [fnD, dSeq, dSet, dSetL, dSetD, dUse, use, look, dC, dVar, dBin, dChain, dTst, dAnd, dOr, dNot, dAndV, dOrV, dNotV, dIf, dIfS, dNext, dRet, dRetN, dExpr, dAsg, dPar, dgName, dgTup, putAll, dFor, dForL, dIt, dSl, dSlL, dNoO, dSoO, dLst, dFz, dNew, dFzD, dNewD, dCons, dNil, dTup, dBu, dBuL, dLook1, dLook2, dLook3, dCall, dCall0, dLc, dLcL, wipeD, backD, dYes, dZip, dEnum, dDnew, dDisp, dPNil, dPCons, keysD, keyD, dDget, dDput, dKget, onD, onL, dMe, isL, dgSub, dRange1, dRange2, dWhile, dBreak, dCont, dNeg, dDin, dSl3, dSortZ, dDgetOr1, dDgetOr2, List.map, List.replicate, List.map_cons, List.map_nil, List.length_cons, List.length_nil, List.cons_append, List.nil_append, List.append_nil, List.set_cons_zero, List.set_cons_succ, List.getElem?_cons_zero, List.getElem?_cons_succ, List.replicate_succ, List.replicate_zero, Nat.reduceAdd, Nat.reduceSub, cond_true, cond_false, items_lst, items_frl, items_tup, items_str, iiR, i1R, i2R, addR, subR, mulR, fdivR, modR, powR, shlR, shrR, xorR, ltR, leR, gtR, geR, isR, isNo, lenR, absR, max2R, min2R, intR]
    refine ⟨trivial, mulSmall (by omega), by decide, by decide, ?_⟩
    refine bag_loop (xs := xs) ys _ _ ?_ h
    have g0 := Int.fmod_nonneg_of_pos (r * 48271 + y.fmod 2147483629 + 1) (show (0 : Int) < 2147483647 by decide)
    have g1 := Int.fmod_lt_of_pos (r * 48271 + y.fmod 2147483629 + 1) (show (0 : Int) < 2147483647 by decide)
    generalize Int.fmod (r * 48271 + y.fmod 2147483629 + 1) 2147483647 = z at *
    omega
theorem bag_comp {M : MS} {k : List D → DS → MS → Prop} : ∀ (ys : List Int) (acc : List Int) (sv : SV), acc.length + ys.length < sizeLine → (∀ (ns : List Int) sv', k (ns.map D.int) [xs0, xs1, sv'] M) →
    dLcL noC (dgName 2) dYes (dBin modR (dBu absR (dLook1 (dVar 2))) (dBin powR (dC (.int 10)) (dC (.int 60)))) [2] k (ys.map D.int) (acc.map D.int) [xs0, xs1, sv] M
  | [], acc, sv, hl, h => ⟨trivial, h acc sv⟩
  | y :: ys, acc, sv, hl, h => by
    simp only [fnD, dSeq, dSet, dSetL, dSetD, dUse, use, look, dC, dVar, dBin, dChain, dTst, dAnd, dOr, dNot, dAndV, dOrV, dNotV, dIf, dIfS, dNext, dRet, dRetN, dExpr, dAsg, dPar, dgName, dgTup, putAll, dFor, dForL, dIt, dSl, dSlL, dNoO, dSoO, dLst, dFz, dNew, dFzD, dNewD, dCons, dNil, dTup, dBu, dBuL, dLook1, dLook2, dLook3, dCall, dCall0, dLc, dLcL, wipeD, backD, dYes, dZip, dEnum, dDnew, dDisp, dPNil, dPCons, keysD, keyD, dDget, dDput, dKget, onD, onL, dMe, isL, dgSub, dRange1, dRange2, dWhile, dBreak, dCont, dNeg, dDin, dSl3, dSortZ, dDgetOr1, dDgetOr2, List.map, List.replicate, List.map_cons, List.map_nil, List.length_cons, List.length_nil, List.cons_append, List.nil_append, List.append_nil, List.set_cons_zero, List.set_cons_succ, List.getElem?_cons_zero, List.getElem?_cons_succ, List.replicate_succ, List.replicate_zero, Nat.reduceAdd, Nat.reduceSub, cond_true, cond_false, items_lst, items_frl, items_tup, items_str, iiR, i1R, i2R, addR, subR, mulR, fdivR, modR, powR, shlR, shrR, xorR, ltR, leR, gtR, geR, isR, isNo, lenR, absR, max2R, min2R, intR]
    refine ⟨trivial, ⟨by decide, by decide, by decide⟩, by decide, by rw [List.length_map]; simp only [List.length_cons] at hl; omega, ?_⟩
    have := bag_comp (xs0 := xs0) (xs1 := xs1) (M := M) (k := k) ys (acc ++ [Int.fmod (if y < 0 then -y else y) (10 ^ (60 : Int).toNat)]) .no (by simp only [List.length_append, List.length_cons, List.length_nil] at hl ⊢; omega) h
    rw [List.map_append] at this
    exact this
theorem cutD_map {α β : Type} (f : α → β) (xs : List α) (lo hi : Option Int) : cutD (xs.map f) lo hi = (cutD xs lo hi).map f := by
  unfold cutD
  rw [List.length_map, List.map_take, List.map_drop]
theorem cut63 {α : Type} (xs : List α) : (cutD xs none (some 63)).length ≤ 63 := by
  unfold cutD
  have e1 : HT.sIx xs.length 0 none = 0 := rfl
  have e2 : HT.sIx xs.length xs.length (some 63) = min 63 xs.length := HT.sIx_nat xs.length xs.length 63
  rw [e1, e2, List.drop_zero, List.length_take]
  omega
theorem sp_bag {M : MS} {Q : D → MS → Prop} {E : Exc → MS → Prop} {ns : List Int} (h : ∀ (p : Addr) (m : MO), M p = none → Bag m → Q (.ref p) (mset M p m)) : f_law_bag [.frl (ns.map D.int)] M Q E := by
  unfold f_law_bag b_law_bag
  simp only [dSeq, fnD, dSet, dFor]
  simp only [fnD, dSeq, dSet, dSetL, dSetD, dUse, use, look, dC, dVar, dBin, dChain, dTst, dAnd, dOr, dNot, dAndV, dOrV, dNotV, dIf, dIfS, dNext, dRet, dRetN, dExpr, dAsg, dPar, dgName, dgTup, putAll, dFor, dForL, dIt, dSl, dSlL, dNoO, dSoO, dLst, dFz, dNew, dFzD, dNewD, dCons, dNil, dTup, dBu, dBuL, dLook1, dLook2, dLook3, dCall, dCall0, dLc, dLcL, wipeD, backD, dYes, dZip, dEnum, dDnew, dDisp, dPNil, dPCons, keysD, keyD, dDget, dDput, dKget, onD, onL, dMe, isL, dgSub, dRange1, dRange2, dWhile, dBreak, dCont, dNeg, dDin, dSl3, dSortZ, dDgetOr1, dDgetOr2, List.map, List.replicate, List.map_cons, List.map_nil, List.length_cons, List.length_nil, List.cons_append, List.nil_append, List.append_nil, List.set_cons_zero, List.set_cons_succ, List.getElem?_cons_zero, List.getElem?_cons_succ, List.replicate_succ, List.replicate_zero, Nat.reduceAdd, Nat.reduceSub, cond_true, cond_false, items_lst, items_frl, items_tup, items_str, slR]
  rw [cutD_map]
  refine bag_loop (xs := []) _ _ _ (by decide) fun r k' hr => ?_
  simp only [fnD, dSeq, dSet, dSetL, dSetD, dUse, use, look, dC, dVar, dBin, dChain, dTst, dAnd, dOr, dNot, dAndV, dOrV, dNotV, dIf, dIfS, dNext, dRet, dRetN, dExpr, dAsg, dPar, dgName, dgTup, putAll, dFor, dForL, dIt, dSl, dSlL, dNoO, dSoO, dLst, dFz, dNew, dFzD, dNewD, dCons, dNil, dTup, dBu, dBuL, dLook1, dLook2, dLook3, dCall, dCall0, dLc, dLcL, wipeD, backD, dYes, dZip, dEnum, dDnew, dDisp, dPNil, dPCons, keysD, keyD, dDget, dDput, dKget, onD, onL, dMe, isL, dgSub, dRange1, dRange2, dWhile, dBreak, dCont, dNeg, dDin, dSl3, dSortZ, dDgetOr1, dDgetOr2, List.map, List.replicate, List.map_cons, List.map_nil, List.length_cons, List.length_nil, List.cons_append, List.nil_append, List.append_nil, List.set_cons_zero, List.set_cons_succ, List.getElem?_cons_zero, List.getElem?_cons_succ, List.replicate_succ, List.replicate_zero, Nat.reduceAdd, Nat.reduceSub, cond_true, cond_false, items_lst, items_frl, items_tup, items_str, slR]
  rw [cutD_map]
  refine bag_comp _ [] _ (by have := cut63 ns; simp only [List.length_nil, sizeLine_eq]; omega) fun ns' sv' => ?_
  simp only [fnD, dSeq, dSet, dSetL, dSetD, dUse, use, look, dC, dVar, dBin, dChain, dTst, dAnd, dOr, dNot, dAndV, dOrV, dNotV, dIf, dIfS, dNext, dRet, dRetN, dExpr, dAsg, dPar, dgName, dgTup, putAll, dFor, dForL, dIt, dSl, dSlL, dNoO, dSoO, dLst, dFz, dNew, dFzD, dNewD, dCons, dNil, dTup, dBu, dBuL, dLook1, dLook2, dLook3, dCall, dCall0, dLc, dLcL, wipeD, backD, dYes, dZip, dEnum, dDnew, dDisp, dPNil, dPCons, keysD, keyD, dDget, dDput, dKget, onD, onL, dMe, isL, dgSub, dRange1, dRange2, dWhile, dBreak, dCont, dNeg, dDin, dSl3, dSortZ, dDgetOr1, dDgetOr2, List.map, List.replicate, List.map_cons, List.map_nil, List.length_cons, List.length_nil, List.cons_append, List.nil_append, List.append_nil, List.set_cons_zero, List.set_cons_succ, List.getElem?_cons_zero, List.getElem?_cons_succ, List.replicate_succ, List.replicate_zero, Nat.reduceAdd, Nat.reduceSub, cond_true, cond_false, items_lst, items_frl, items_tup, items_str]
  refine ⟨by decide, fun p hp => ?_⟩
  exact h p _ hp ⟨ns', 0, 0, r, 0, rfl, by decide, by omega⟩
/-! ### the law k17 -/
theorem less_comp {M : MS} {kk : List D → DS → MS → Prop} {x0 x1 x2 x3 x4 x5 x6 x7 x8 x9 x10 : SV} : ∀ (ws acc : List Int) (s11 : SV), acc.length + ws.length < sizeLine →
    (∀ s11', kk ((acc ++ ws.map fun w => if w - 1 > 1 then w - 1 else 1).map D.int) [x0, x1, x2, x3, x4, x5, x6, x7, x8, x9, x10, s11'] M) →
    dLcL noC (dgName 11) (dYes) (dBu max2R (dLook2 (dC (.int 1)) (dBin subR (dVar 11) (dC (.int 1))))) [11] kk (ws.map D.int) (acc.map D.int) [x0, x1, x2, x3, x4, x5, x6, x7, x8, x9, x10, s11] M
  | [], acc, s11, hl, h => ⟨trivial, by have := h s11; rw [List.map_nil, List.append_nil] at this; exact this⟩
  | w :: ws, acc, s11, hl, h => by
    simp only [fnD, dSeq, dSet, dSetL, dSetD, dUse, use, look, dC, dVar, dBin, dChain, dTst, dAnd, dOr, dNot, dAndV, dOrV, dNotV, dIf, dIfS, dNext, dRet, dRetN, dExpr, dAsg, dPar, dgName, dgTup, putAll, dFor, dForL, dIt, dSl, dSlL, dNoO, dSoO, dLst, dFz, dNew, dFzD, dNewD, dCons, dNil, dTup, dBu, dBuL, dLook1, dLook2, dLook3, dCall, dCall0, dLc, dLcL, wipeD, backD, dYes, dZip, dEnum, dDnew, dDisp, dPNil, dPCons, keysD, keyD, dDget, dDput, dKget, onD, onL, dMe, isL, dgSub, dRange1, dRange2, dWhile, dBreak, dCont, dNeg, dDin, dSl3, dSortZ, dDgetOr1, dDgetOr2, List.map, List.replicate, List.map_cons, List.map_nil, List.length_cons, List.length_nil, List.cons_append, List.nil_append, List.append_nil, List.set_cons_zero, List.set_cons_succ, List.getElem?_cons_zero, List.getElem?_cons_succ, List.replicate_succ, List.replicate_zero, Nat.reduceAdd, Nat.reduceSub, cond_true, cond_false, items_lst, items_frl, items_tup, items_str, iiR, i1R, i2R, addR, subR, mulR, fdivR, modR, powR, shlR, shrR, xorR, ltR, leR, gtR, geR, isR, isNo, lenR, absR, max2R, min2R, intR]
    refine ⟨trivial, trivial, by rw [List.length_map]; simp only [List.length_cons] at hl; omega, ?_⟩
    have := less_comp (M := M) (kk := kk) (x0 := x0) (x1 := x1) (x2 := x2) (x3 := x3) (x4 := x4) (x5 := x5) (x6 := x6) (x7 := x7) (x8 := x8) (x9 := x9) (x10 := x10) ws (acc ++ [if w - 1 > 1 then w - 1 else 1]) .no (by simp only [List.length_append, List.length_cons, List.length_nil] at hl ⊢; omega) fun s11' => by
      have := h s11'
      rw [List.map_cons] at this
      rw [List.append_assoc]
      exact this
    rw [List.map_append] at this
    exact this
def bodyL : DST := (dSeq (dSet 7 (dBin addR (dBin addR (dSl (dVar 6) (dNoO) (dSoO (dVar 5))) (dFz (dLst (dCons (dBin addR (dBin ixR (dVar 6) (dVar 5)) (dVar 4)) (dNil))))) (dSl (dVar 6) (dSoO (dBin addR (dVar 5) (dC (.int 1)))) (dNoO))))
  (dSeq (dSet 8 (dCall 2 f_made (dCons (dVar 2) (dCons (dFz (dBuL listR (dLook1 (dVar 7)))) (dNil)))))
  (dSeq (dIfS (dTst (dBin (eqR true) (dBin (isR false) (dVar 8) (dC .non)) (dBin (isR false) (dCall 2 f_law_placed (dCons (dVar 2) (dCons (dVar 7) (dNil)))) (dC .non)))) (dRet (dC (.bl false))) (dNext))
  (dSeq (dSet 9 (dBin addR (dBin addR (dSl (dVar 7) (dNoO) (dSoO (dVar 5))) (dFz (dLst (dCons (dBin addR (dBin ixR (dVar 7) (dVar 5)) (dC (.int 1))) (dNil))))) (dSl (dVar 7) (dSoO (dBin addR (dVar 5) (dC (.int 1)))) (dNoO))))
  (dSeq (dSet 10 (dFz (dLc (dIt (dVar 7)) (dgName 11) (dYes) (dBu max2R (dLook2 (dC (.int 1)) (dBin subR (dVar 11) (dC (.int 1))))) [11])))
  (dSeq (dIfS (dAnd (dTst (dBin (isR true) (dVar 8) (dC .non))) (dAnd (dTst (dBin geR (dBin subR (dVar 2) (dBin ixR (dVar 9) (dVar 5))) (dCall 1 f_law_needed (dCons (dBin ixR (dCall0 f_law_kinds) (dVar 5)) (dNil))))) (dTst (dBin (isR false) (dCall 2 f_made (dCons (dVar 2) (dCons (dVar 9) (dNil)))) (dC .non))))) (dRet (dC (.bl false))) (dNext))
  (dIfS (dAnd (dTst (dBin (isR false) (dVar 8) (dC .non))) (dAnd (dTst (dBin gtR (dBin subR (dVar 2) (dBu maxR (dLook1 (dVar 7)))) (dC (.int 6)))) (dTst (dBin (isR true) (dCall 2 f_made (dCons (dVar 2) (dCons (dVar 10) (dNil)))) (dC .non))))) (dRet (dC (.bl false))) (dNext))))))))
theorem cut_setD {ws : List Int} {k v : Int} (h0 : 0 ≤ k) (h1 : k < ws.length) : cutD (ws.map D.int) none (some k) ++ [D.int v] ++ cutD (ws.map D.int) (some (k + 1)) none = (ws.set k.toNat v).map D.int := by
  rw [cut_set h0 (by rw [List.length_map]; exact h1), List.map_set]
theorem cut_len {α : Type} (ws : List α) (a b : Option Int) : (cutD ws a b).length ≤ ws.length := by
  unfold cutD
  rw [List.length_take, List.length_drop]
  omega
theorem atI_int {ws : List Int} {k : Int} (h0 : 0 ≤ k) (h1 : k < ws.length) : ∃ w, ws[k.toNat]? = some w ∧ atI (ws.map D.int) k = some (.int w) ∧ w ∈ ws := by
  have hl : k.toNat < ws.length := by omega
  refine ⟨ws[k.toNat], List.getElem?_eq_getElem hl, ?_, List.getElem_mem hl⟩
  unfold atI ixN
  rw [if_pos h0, List.length_map, if_pos h1]
  show (ws.map D.int)[k.toNat]? = _
  rw [List.getElem?_map, List.getElem?_eq_getElem hl]
  rfl
theorem needAt_eq {k : Int} {s : Str} (h0 : 0 ≤ k) (h1 : k < 5) : ∃ q, needL[k.toNat]? = some q ∧ q.2 = needAt k := by
  have : k = 0 ∨ k = 1 ∨ k = 2 ∨ k = 3 ∨ k = 4 := by omega
  rcases this with rfl | rfl | rfl | rfl | rfl <;> exact ⟨_, rfl, rfl⟩
theorem law_body {M : MS} {E : DEnds} {s0 s1 s3 s7 s8 s9 s10 : SV} {bits more k : Int} {r : List Int} (hr : r.length = 5) (hw : ∀ w ∈ r, 1 ≤ w ∧ w ≤ 4) (hm : 0 ≤ more ∧ more ≤ 20) (hk : 0 ≤ k ∧ k < 5)
    (h : ∀ M' s7 s8 s9 s10, E.nx [s0, s1, .d (.int bits), s3, .d (.int more), .d (.int k), .d (rowD r), s7, s8, s9, s10, .no] M') :
    bodyL E [s0, s1, .d (.int bits), s3, .d (.int more), .d (.int k), .d (rowD r), s7, s8, s9, s10, .no] M := by
  obtain ⟨w, hrk, hat, hwm⟩ := atI_int (ws := r) hk.1 (by omega)
  have hw0 := hw w hwm
  have hlen : ∀ a b, (cutD (r.map D.int) a b).length ≤ 5 := fun a b => by have := cut_len (r.map D.int) a b; rw [List.length_map] at this; omega
  unfold bodyL rowD
  rw [dSeq]
  simp only [dSet, dUse, dBin, dSl, dVar, dNoO, dSoO, dFz, dLst, dCons, dNil, look, use, slR, ixR, addR, dC, List.getElem?_cons_zero, List.getElem?_cons_succ, hat, List.length_cons, List.length_nil, List.set_cons_zero, List.set_cons_succ]
  refine ⟨by decide, by have := hlen none (some k); rw [sizeLine_eq]; omega, by have h1 := hlen none (some k); have h2 := hlen (some (k + 1)) none; rw [List.length_append, sizeLine_eq]; simp only [List.length_cons, List.length_nil]; omega, ?_⟩
  rw [cut_setD hk.1 (by omega)]
  have hw1 : ∀ x ∈ r.set k.toNat (w + more), 1 ≤ x ∧ x ≤ 24 := set_mem (P := fun x => 1 ≤ x ∧ x ≤ 24) (fun x hx => by have := hw x hx; omega) (by omega)
  have hl1 : (r.set k.toNat (w + more)).length = 5 := by rw [List.length_set]; exact hr
  generalize r.set k.toNat (w + more) = ws at hw1 hl1
  obtain ⟨v, hvk, hvat, hvm⟩ := atI_int (ws := ws) hk.1 (by omega)
  have hv1 := hw1 v hvm
  have hlen : ∀ a b, (cutD (ws.map D.int) a b).length ≤ 5 := fun a b => by have := cut_len (ws.map D.int) a b; rw [List.length_map] at this; omega
  have h40 : ∀ x ∈ ws, 0 ≤ x ∧ x ≤ 40 := fun x hx => by have := hw1 x hx; omega
  obtain ⟨sk, hsat, hsn⟩ := kind_at hk.1 hk.2
  obtain ⟨q, hq, hqn⟩ := needAt_eq (s := sk) hk.1 hk.2
  have hwid : ∀ x ∈ ws.set k.toNat (v + 1), 0 ≤ x ∧ x ≤ 40 := set_mem (P := fun x => 0 ≤ x ∧ x ≤ 40) h40 (by omega)
  have hles : ∀ x ∈ ws.map (fun w => if w - 1 > 1 then w - 1 else 1), 0 ≤ x ∧ x ≤ 40 := fun x hx => by
    obtain ⟨y, hy, rfl⟩ := List.mem_map.mp hx
    have := hw1 y hy
    split <;> omega
  -- what comes behind the first test
  have rest : ∀ (M : MS) (d : D), (d = .non ∧ ¬ Fits bits ws ∨ (∃ l, d = .tup l) ∧ Fits bits ws) → ∀ {T9 : DST},
      T9 = (dSeq (dSet 9 (dBin addR (dBin addR (dSl (dVar 7) (dNoO) (dSoO (dVar 5))) (dFz (dLst (dCons (dBin addR (dBin ixR (dVar 7) (dVar 5)) (dC (.int 1))) (dNil))))) (dSl (dVar 7) (dSoO (dBin addR (dVar 5) (dC (.int 1)))) (dNoO))))
  (dSeq (dSet 10 (dFz (dLc (dIt (dVar 7)) (dgName 11) (dYes) (dBu max2R (dLook2 (dC (.int 1)) (dBin subR (dVar 11) (dC (.int 1))))) [11])))
  (dSeq (dIfS (dAnd (dTst (dBin (isR true) (dVar 8) (dC .non))) (dAnd (dTst (dBin geR (dBin subR (dVar 2) (dBin ixR (dVar 9) (dVar 5))) (dCall 1 f_law_needed (dCons (dBin ixR (dCall0 f_law_kinds) (dVar 5)) (dNil))))) (dTst (dBin (isR false) (dCall 2 f_made (dCons (dVar 2) (dCons (dVar 9) (dNil)))) (dC .non))))) (dRet (dC (.bl false))) (dNext))
  (dIfS (dAnd (dTst (dBin (isR false) (dVar 8) (dC .non))) (dAnd (dTst (dBin gtR (dBin subR (dVar 2) (dBu maxR (dLook1 (dVar 7)))) (dC (.int 6)))) (dTst (dBin (isR true) (dCall 2 f_made (dCons (dVar 2) (dCons (dVar 10) (dNil)))) (dC .non))))) (dRet (dC (.bl false))) (dNext))))) →
      T9 E [s0, s1, .d (.int bits), s3, .d (.int more), .d (.int k), .d (.lst (r.map D.int)), .d (.lst (ws.map D.int)), .d d, s9, s10, .no] M := by
    intro M d hd T9 eT
    subst eT
    rw [dSeq]
    simp only [dSet, dUse, dBin, dSl, dVar, dNoO, dSoO, dFz, dLst, dCons, dNil, look, use, slR, ixR, addR, dC, List.getElem?_cons_zero, List.getElem?_cons_succ, hvat, List.length_cons, List.length_nil, List.set_cons_zero, List.set_cons_succ]
    refine ⟨by decide, by have := hlen none (some k); rw [sizeLine_eq]; omega, by have h1 := hlen none (some k); have h2 := hlen (some (k + 1)) none; rw [List.length_append, sizeLine_eq]; simp only [List.length_cons, List.length_nil]; omega, ?_⟩
    rw [cut_setD hk.1 (by omega)]
    rw [dSeq]
    simp only [fnD, dSeq, dSet, dSetL, dSetD, dUse, use, look, dC, dVar, dBin, dChain, dTst, dAnd, dOr, dNot, dAndV, dOrV, dNotV, dIf, dIfS, dNext, dRet, dRetN, dExpr, dAsg, dPar, dgName, dgTup, putAll, dFor, dForL, dIt, dSl, dSlL, dNoO, dSoO, dLst, dFz, dNew, dFzD, dNewD, dCons, dNil, dTup, dBu, dBuL, dLook1, dLook2, dLook3, dCall, dCall0, dLc, dLcL, wipeD, backD, dYes, dZip, dEnum, dDnew, dDisp, dPNil, dPCons, keysD, keyD, dDget, dDput, dKget, onD, onL, dMe, isL, dgSub, dRange1, dRange2, dWhile, dBreak, dCont, dNeg, dDin, dSl3, dSortZ, dDgetOr1, dDgetOr2, List.map, List.replicate, List.map_cons, List.map_nil, List.length_cons, List.length_nil, List.cons_append, List.nil_append, List.append_nil, List.set_cons_zero, List.set_cons_succ, List.getElem?_cons_zero, List.getElem?_cons_succ, List.replicate_succ, List.replicate_zero, Nat.reduceAdd, Nat.reduceSub, cond_true, cond_false, items_lst, items_frl, items_tup, items_str]
    refine less_comp ws [] _ (by rw [sizeLine_eq]; simp only [List.length_nil]; omega) fun s11' => ?_
    have hsetat : atI ((ws.set k.toNat (v + 1)).map D.int) k = some (.int (v + 1)) := by
      obtain ⟨y, h1, h2, _⟩ := atI_int (ws := ws.set k.toNat (v + 1)) hk.1 (by rw [List.length_set]; omega)
      rw [List.getElem?_set_self (by omega)] at h1
      cases h1
      exact h2
    rcases hd with ⟨rfl, hF⟩ | ⟨⟨l, rfl⟩, hF⟩
    · simp only [fnD, dSeq, dSet, dSetL, dSetD, dUse, use, look, dC, dVar, dBin, dChain, dTst, dAnd, dOr, dNot, dAndV, dOrV, dNotV, dIf, dIfS, dNext, dRet, dRetN, dExpr, dAsg, dPar, dgName, dgTup, putAll, dFor, dForL, dIt, dSl, dSlL, dNoO, dSoO, dLst, dFz, dNew, dFzD, dNewD, dCons, dNil, dTup, dBu, dBuL, dLook1, dLook2, dLook3, dCall, dCall0, dLc, dLcL, wipeD, backD, dYes, dZip, dEnum, dDnew, dDisp, dPNil, dPCons, keysD, keyD, dDget, dDput, dKget, onD, onL, dMe, isL, dgSub, dRange1, dRange2, dWhile, dBreak, dCont, dNeg, dDin, dSl3, dSortZ, dDgetOr1, dDgetOr2, List.map, List.replicate, List.map_cons, List.map_nil, List.length_cons, List.length_nil, List.cons_append, List.nil_append, List.append_nil, List.set_cons_zero, List.set_cons_succ, List.getElem?_cons_zero, List.getElem?_cons_succ, List.replicate_succ, List.replicate_zero, Nat.reduceAdd, Nat.reduceSub, cond_true, cond_false, items_lst, items_frl, items_tup, items_str, iiR, i1R, i2R, addR, subR, mulR, fdivR, modR, powR, shlR, shrR, xorR, ltR, leR, gtR, geR, isR, isNo, lenR, absR, max2R, min2R, intR, isR, isNo, maxR, lstI, intsD_map, Bool.xor_false, Bool.xor_true, Bool.false_xor, Bool.true_xor, Bool.not_true, Bool.not_false]
      refine ⟨by omega, fun m hm1 hm2 => ?_⟩
      by_cases hb : 6 < bits - m
      · rw [decide_eq_true hb]
        refine ⟨trivial, trivial, trivial, sp_made hles (by rw [List.length_map]; exact hl1) (fun hF2 => ?_) fun hF2 qs _ _ => ?_⟩
        · simp only [fnD, dSeq, dSet, dSetL, dSetD, dUse, use, look, dC, dVar, dBin, dChain, dTst, dAnd, dOr, dNot, dAndV, dOrV, dNotV, dIf, dIfS, dNext, dRet, dRetN, dExpr, dAsg, dPar, dgName, dgTup, putAll, dFor, dForL, dIt, dSl, dSlL, dNoO, dSoO, dLst, dFz, dNew, dFzD, dNewD, dCons, dNil, dTup, dBu, dBuL, dLook1, dLook2, dLook3, dCall, dCall0, dLc, dLcL, wipeD, backD, dYes, dZip, dEnum, dDnew, dDisp, dPNil, dPCons, keysD, keyD, dDget, dDput, dKget, onD, onL, dMe, isL, dgSub, dRange1, dRange2, dWhile, dBreak, dCont, dNeg, dDin, dSl3, dSortZ, dDgetOr1, dDgetOr2, List.map, List.replicate, List.map_cons, List.map_nil, List.length_cons, List.length_nil, List.cons_append, List.nil_append, List.append_nil, List.set_cons_zero, List.set_cons_succ, List.getElem?_cons_zero, List.getElem?_cons_succ, List.replicate_succ, List.replicate_zero, Nat.reduceAdd, Nat.reduceSub, cond_true, cond_false, items_lst, items_frl, items_tup, items_str, iiR, i1R, i2R, addR, subR, mulR, fdivR, modR, powR, shlR, shrR, xorR, ltR, leR, gtR, geR, isR, isNo, lenR, absR, max2R, min2R, intR, isNo]
          exact h _ _ _ _ _
        · exact absurd (fits_less (fun x hx => (hw1 x hx).1) hm2 hb hF2) hF
      · rw [decide_eq_false hb]
        exact ⟨trivial, trivial, h _ _ _ _ _⟩
    · simp only [fnD, dSeq, dSet, dSetL, dSetD, dUse, use, look, dC, dVar, dBin, dChain, dTst, dAnd, dOr, dNot, dAndV, dOrV, dNotV, dIf, dIfS, dNext, dRet, dRetN, dExpr, dAsg, dPar, dgName, dgTup, putAll, dFor, dForL, dIt, dSl, dSlL, dNoO, dSoO, dLst, dFz, dNew, dFzD, dNewD, dCons, dNil, dTup, dBu, dBuL, dLook1, dLook2, dLook3, dCall, dCall0, dLc, dLcL, wipeD, backD, dYes, dZip, dEnum, dDnew, dDisp, dPNil, dPCons, keysD, keyD, dDget, dDput, dKget, onD, onL, dMe, isL, dgSub, dRange1, dRange2, dWhile, dBreak, dCont, dNeg, dDin, dSl3, dSortZ, dDgetOr1, dDgetOr2, List.map, List.replicate, List.map_cons, List.map_nil, List.length_cons, List.length_nil, List.cons_append, List.nil_append, List.append_nil, List.set_cons_zero, List.set_cons_succ, List.getElem?_cons_zero, List.getElem?_cons_succ, List.replicate_succ, List.replicate_zero, Nat.reduceAdd, Nat.reduceSub, cond_true, cond_false, items_lst, items_frl, items_tup, items_str, iiR, i1R, i2R, addR, subR, mulR, fdivR, modR, powR, shlR, shrR, xorR, ltR, leR, gtR, geR, isR, isNo, lenR, absR, max2R, min2R, intR, isR, isNo, Bool.xor_false, Bool.xor_true, Bool.false_xor, Bool.true_xor, Bool.not_true, Bool.not_false, ixR, hsetat]
      refine ⟨trivial, sp_kinds ?_⟩
      simp only [fnD, dSeq, dSet, dSetL, dSetD, dUse, use, look, dC, dVar, dBin, dChain, dTst, dAnd, dOr, dNot, dAndV, dOrV, dNotV, dIf, dIfS, dNext, dRet, dRetN, dExpr, dAsg, dPar, dgName, dgTup, putAll, dFor, dForL, dIt, dSl, dSlL, dNoO, dSoO, dLst, dFz, dNew, dFzD, dNewD, dCons, dNil, dTup, dBu, dBuL, dLook1, dLook2, dLook3, dCall, dCall0, dLc, dLcL, wipeD, backD, dYes, dZip, dEnum, dDnew, dDisp, dPNil, dPCons, keysD, keyD, dDget, dDput, dKget, onD, onL, dMe, isL, dgSub, dRange1, dRange2, dWhile, dBreak, dCont, dNeg, dDin, dSl3, dSortZ, dDgetOr1, dDgetOr2, List.map, List.replicate, List.map_cons, List.map_nil, List.length_cons, List.length_nil, List.cons_append, List.nil_append, List.append_nil, List.set_cons_zero, List.set_cons_succ, List.getElem?_cons_zero, List.getElem?_cons_succ, List.replicate_succ, List.replicate_zero, Nat.reduceAdd, Nat.reduceSub, cond_true, cond_false, items_lst, items_frl, items_tup, items_str, iiR, i1R, i2R, addR, subR, mulR, fdivR, modR, powR, shlR, shrR, xorR, ltR, leR, gtR, geR, isR, isNo, lenR, absR, max2R, min2R, intR, hsat]
      refine ⟨trivial, sp_needed hsn ?_⟩
      simp only [fnD, dSeq, dSet, dSetL, dSetD, dUse, use, look, dC, dVar, dBin, dChain, dTst, dAnd, dOr, dNot, dAndV, dOrV, dNotV, dIf, dIfS, dNext, dRet, dRetN, dExpr, dAsg, dPar, dgName, dgTup, putAll, dFor, dForL, dIt, dSl, dSlL, dNoO, dSoO, dLst, dFz, dNew, dFzD, dNewD, dCons, dNil, dTup, dBu, dBuL, dLook1, dLook2, dLook3, dCall, dCall0, dLc, dLcL, wipeD, backD, dYes, dZip, dEnum, dDnew, dDisp, dPNil, dPCons, keysD, keyD, dDget, dDput, dKget, onD, onL, dMe, isL, dgSub, dRange1, dRange2, dWhile, dBreak, dCont, dNeg, dDin, dSl3, dSortZ, dDgetOr1, dDgetOr2, List.map, List.replicate, List.map_cons, List.map_nil, List.length_cons, List.length_nil, List.cons_append, List.nil_append, List.append_nil, List.set_cons_zero, List.set_cons_succ, List.getElem?_cons_zero, List.getElem?_cons_succ, List.replicate_succ, List.replicate_zero, Nat.reduceAdd, Nat.reduceSub, cond_true, cond_false, items_lst, items_frl, items_tup, items_str, iiR, i1R, i2R, addR, subR, mulR, fdivR, modR, powR, shlR, shrR, xorR, ltR, leR, gtR, geR, isR, isNo, lenR, absR, max2R, min2R, intR]
      by_cases hb : needAt k ≤ bits - (v + 1)
      · rw [decide_eq_true hb]
        simp only [fnD, dSeq, dSet, dSetL, dSetD, dUse, use, look, dC, dVar, dBin, dChain, dTst, dAnd, dOr, dNot, dAndV, dOrV, dNotV, dIf, dIfS, dNext, dRet, dRetN, dExpr, dAsg, dPar, dgName, dgTup, putAll, dFor, dForL, dIt, dSl, dSlL, dNoO, dSoO, dLst, dFz, dNew, dFzD, dNewD, dCons, dNil, dTup, dBu, dBuL, dLook1, dLook2, dLook3, dCall, dCall0, dLc, dLcL, wipeD, backD, dYes, dZip, dEnum, dDnew, dDisp, dPNil, dPCons, keysD, keyD, dDget, dDput, dKget, onD, onL, dMe, isL, dgSub, dRange1, dRange2, dWhile, dBreak, dCont, dNeg, dDin, dSl3, dSortZ, dDgetOr1, dDgetOr2, List.map, List.replicate, List.map_cons, List.map_nil, List.length_cons, List.length_nil, List.cons_append, List.nil_append, List.append_nil, List.set_cons_zero, List.set_cons_succ, List.getElem?_cons_zero, List.getElem?_cons_succ, List.replicate_succ, List.replicate_zero, Nat.reduceAdd, Nat.reduceSub, cond_true, cond_false, items_lst, items_frl, items_tup, items_str, iiR, i1R, i2R, addR, subR, mulR, fdivR, modR, powR, shlR, shrR, xorR, ltR, leR, gtR, geR, isR, isNo, lenR, absR, max2R, min2R, intR]
        refine ⟨trivial, trivial, sp_made hwid (by rw [List.length_set]; exact hl1) (fun hF2 => ?_) fun hF2 qs _ _ => ?_⟩
        · exact absurd (fits_wider hF hvk hq (by omega)) hF2
        · simp only [fnD, dSeq, dSet, dSetL, dSetD, dUse, use, look, dC, dVar, dBin, dChain, dTst, dAnd, dOr, dNot, dAndV, dOrV, dNotV, dIf, dIfS, dNext, dRet, dRetN, dExpr, dAsg, dPar, dgName, dgTup, putAll, dFor, dForL, dIt, dSl, dSlL, dNoO, dSoO, dLst, dFz, dNew, dFzD, dNewD, dCons, dNil, dTup, dBu, dBuL, dLook1, dLook2, dLook3, dCall, dCall0, dLc, dLcL, wipeD, backD, dYes, dZip, dEnum, dDnew, dDisp, dPNil, dPCons, keysD, keyD, dDget, dDput, dKget, onD, onL, dMe, isL, dgSub, dRange1, dRange2, dWhile, dBreak, dCont, dNeg, dDin, dSl3, dSortZ, dDgetOr1, dDgetOr2, List.map, List.replicate, List.map_cons, List.map_nil, List.length_cons, List.length_nil, List.cons_append, List.nil_append, List.append_nil, List.set_cons_zero, List.set_cons_succ, List.getElem?_cons_zero, List.getElem?_cons_succ, List.replicate_succ, List.replicate_zero, Nat.reduceAdd, Nat.reduceSub, cond_true, cond_false, items_lst, items_frl, items_tup, items_str, iiR, i1R, i2R, addR, subR, mulR, fdivR, modR, powR, shlR, shrR, xorR, ltR, leR, gtR, geR, isR, isNo, lenR, absR, max2R, min2R, intR, isNo, madeD]
          exact h _ _ _ _ _
      · rw [decide_eq_false hb]
        simp only [fnD, dSeq, dSet, dSetL, dSetD, dUse, use, look, dC, dVar, dBin, dChain, dTst, dAnd, dOr, dNot, dAndV, dOrV, dNotV, dIf, dIfS, dNext, dRet, dRetN, dExpr, dAsg, dPar, dgName, dgTup, putAll, dFor, dForL, dIt, dSl, dSlL, dNoO, dSoO, dLst, dFz, dNew, dFzD, dNewD, dCons, dNil, dTup, dBu, dBuL, dLook1, dLook2, dLook3, dCall, dCall0, dLc, dLcL, wipeD, backD, dYes, dZip, dEnum, dDnew, dDisp, dPNil, dPCons, keysD, keyD, dDget, dDput, dKget, onD, onL, dMe, isL, dgSub, dRange1, dRange2, dWhile, dBreak, dCont, dNeg, dDin, dSl3, dSortZ, dDgetOr1, dDgetOr2, List.map, List.replicate, List.map_cons, List.map_nil, List.length_cons, List.length_nil, List.cons_append, List.nil_append, List.append_nil, List.set_cons_zero, List.set_cons_succ, List.getElem?_cons_zero, List.getElem?_cons_succ, List.replicate_succ, List.replicate_zero, Nat.reduceAdd, Nat.reduceSub, cond_true, cond_false, items_lst, items_frl, items_tup, items_str, iiR, i1R, i2R, addR, subR, mulR, fdivR, modR, powR, shlR, shrR, xorR, ltR, leR, gtR, geR, isR, isNo, lenR, absR, max2R, min2R, intR]
        exact ⟨trivial, h _ _ _ _ _⟩
  rw [dSeq]
  simp only [dSet, dUse, dCall, dCons, dNil, dVar, dFz, dBuL, dLook1, listR, look, use, List.getElem?_cons_zero, List.getElem?_cons_succ, List.length_cons, List.length_nil, List.set_cons_zero, List.set_cons_succ]
  refine ⟨trivial, sp_made h40 hl1 (fun hF => ?_) fun hF qs _ _ => ?_⟩
  · rw [dSeq]
    simp only [dIfS, dTst, dBin, dCall, dCons, dNil, dUse, use, look, dVar, dC, List.getElem?_cons_zero, List.getElem?_cons_succ, List.length_cons, List.length_nil, List.set_cons_zero, List.set_cons_succ, isR, isNo, Bool.xor_false, Bool.xor_true, Bool.false_xor, Bool.true_xor]
    refine ⟨trivial, sp_placed h40 hl1 (fun hF2 p m hp => ?_) fun hF2 => absurd hF2 hF⟩
    simp only [isNo, eqR, scalD, eqS, Bool.xor_false, Bool.xor_true, Bool.false_xor, Bool.true_xor, Bool.not_true, Bool.not_false, decide_true, cond_false]
    exact .inl ⟨trivial, rest _ _ (.inl ⟨rfl, hF⟩) rfl⟩
  · rw [dSeq]
    simp only [madeD, dIfS, dTst, dBin, dCall, dCons, dNil, dUse, use, look, dVar, dC, List.getElem?_cons_zero, List.getElem?_cons_succ, List.length_cons, List.length_nil, List.set_cons_zero, List.set_cons_succ, isR, isNo, Bool.xor_false, Bool.xor_true, Bool.false_xor, Bool.true_xor]
    refine ⟨trivial, sp_placed h40 hl1 (fun hF2 => absurd hF hF2) fun _ kvs p m hp => ?_⟩
    simp only [isNo, eqR, scalD, eqS, Bool.xor_false, Bool.xor_true, Bool.false_xor, Bool.true_xor, Bool.not_true, Bool.not_false, decide_true, cond_false]
    exact .inl ⟨trivial, rest _ _ (.inr ⟨⟨_, rfl⟩, hF⟩) rfl⟩
theorem law_loop {E : DEnds} {s0 s1 s3 : SV} {bits more k : Int} (hm : 0 ≤ more ∧ more ≤ 20) (hk : 0 ≤ k ∧ k < 5) : ∀ (rows : List (List Int)) (M : MS) (s6 s7 s8 s9 s10 : SV), (∀ r ∈ rows, r.length = 5 ∧ ∀ w ∈ r, 1 ≤ w ∧ w ≤ 4) →
    (∀ M' s6 s7 s8 s9 s10, E.nx [s0, s1, .d (.int bits), s3, .d (.int more), .d (.int k), s6, s7, s8, s9, s10, .no] M') →
    dForL noC (dgName 6) bodyL E (rows.map rowD) [s0, s1, .d (.int bits), s3, .d (.int more), .d (.int k), s6, s7, s8, s9, s10, .no] M
  | [], M, s6, s7, s8, s9, s10, hr, h => ⟨trivial, h M s6 s7 s8 s9 s10⟩
  | r :: rows, M, s6, s7, s8, s9, s10, hr, h => by
    obtain ⟨h1, h2⟩ := hr r List.mem_cons_self
    simp only [List.map_cons, dForL, dgName, List.set_cons_succ, List.set_cons_zero]
    refine ⟨trivial, law_body h1 h2 hm hk fun M' s7 s8 s9 s10 => ?_⟩
    exact law_loop hm hk rows M' _ _ _ _ _ (fun x hx => hr x (List.mem_cons_of_mem _ hx)) h
theorem pick_mem {α : Type} {xs : List α} {l u o : Option Int} {x : α} (h : x ∈ pickD xs l u o) : x ∈ xs := by
  unfold pickD at h
  obtain ⟨i, _, hi⟩ := List.mem_filterMap.mp h
  exact List.mem_of_getElem? hi
theorem pick_le7 {α : Type} {xs : List α} {at_ : Int} (h0 : 0 ≤ at_) (hl : xs.length ≤ 100000) : (pickD xs (some at_) none (some 7)).length ≤ sizeLine := by
  unfold pickD sliceBounds sliceRange
  refine Nat.le_trans (List.length_filterMap_le _ _) ?_
  rw [List.length_map, List.length_range, sizeLine_eq]
  simp only [Option.getD_some]
  have e : ((7 : Int) > 0) := by decide
  rw [if_pos e, if_pos e]
  split
  · have : (↑xs.length - max 0 (min (if at_ < 0 then at_ + ↑xs.length else at_) ↑xs.length) + 7 - 1) / 7 ≤ (xs.length : Int) + 6 := by omega
    omega
  · omega
theorem sp_law {M : MS} {Q : D → MS → Prop} {E : Exc → MS → Prop} {ns : List Int} (h : ∀ M', Q (.bl true) M') : f_law [.frl (ns.map D.int)] M Q E := by
  unfold f_law b_law
  rw [show (dSeq (dSet 7 (dBin addR (dBin addR (dSl (dVar 6) (dNoO) (dSoO (dVar 5))) (dFz (dLst (dCons (dBin addR (dBin ixR (dVar 6) (dVar 5)) (dVar 4)) (dNil))))) (dSl (dVar 6) (dSoO (dBin addR (dVar 5) (dC (.int 1)))) (dNoO))))
  (dSeq (dSet 8 (dCall 2 f_made (dCons (dVar 2) (dCons (dFz (dBuL listR (dLook1 (dVar 7)))) (dNil)))))
  (dSeq (dIfS (dTst (dBin (eqR true) (dBin (isR false) (dVar 8) (dC .non)) (dBin (isR false) (dCall 2 f_law_placed (dCons (dVar 2) (dCons (dVar 7) (dNil)))) (dC .non)))) (dRet (dC (.bl false))) (dNext))
  (dSeq (dSet 9 (dBin addR (dBin addR (dSl (dVar 7) (dNoO) (dSoO (dVar 5))) (dFz (dLst (dCons (dBin addR (dBin ixR (dVar 7) (dVar 5)) (dC (.int 1))) (dNil))))) (dSl (dVar 7) (dSoO (dBin addR (dVar 5) (dC (.int 1)))) (dNoO))))
  (dSeq (dSet 10 (dFz (dLc (dIt (dVar 7)) (dgName 11) (dYes) (dBu max2R (dLook2 (dC (.int 1)) (dBin subR (dVar 11) (dC (.int 1))))) [11])))
  (dSeq (dIfS (dAnd (dTst (dBin (isR true) (dVar 8) (dC .non))) (dAnd (dTst (dBin geR (dBin subR (dVar 2) (dBin ixR (dVar 9) (dVar 5))) (dCall 1 f_law_needed (dCons (dBin ixR (dCall0 f_law_kinds) (dVar 5)) (dNil))))) (dTst (dBin (isR false) (dCall 2 f_made (dCons (dVar 2) (dCons (dVar 9) (dNil)))) (dC .non))))) (dRet (dC (.bl false))) (dNext))
  (dIfS (dAnd (dTst (dBin (isR false) (dVar 8) (dC .non))) (dAnd (dTst (dBin gtR (dBin subR (dVar 2) (dBu maxR (dLook1 (dVar 7)))) (dC (.int 6)))) (dTst (dBin (isR true) (dCall 2 f_made (dCons (dVar 2) (dCons (dVar 10) (dNil)))) (dC .non))))) (dRet (dC (.bl false))) (dNext)))))))) = bodyL from rfl]
  have lt9 : ∀ n : Nat, n < 1000 → n.log2 < 9000 := fun n hn => by
    by_cases h0 : n = 0
    · subst h0; decide
    · have := (Nat.log2_lt h0 (k := 10)).mpr (by omega)
      omega
  simp only [fnD, dSeq, dSet, dSetL, dSetD, dUse, use, look, dC, dVar, dBin, dChain, dTst, dAnd, dOr, dNot, dAndV, dOrV, dNotV, dIf, dIfS, dNext, dRet, dRetN, dExpr, dAsg, dPar, dgName, dgTup, putAll, dFor, dForL, dIt, dSl, dSlL, dNoO, dSoO, dLst, dFz, dNew, dFzD, dNewD, dCons, dNil, dTup, dBu, dBuL, dLook1, dLook2, dLook3, dCall, dCall0, dLc, dLcL, wipeD, backD, dYes, dZip, dEnum, dDnew, dDisp, dPNil, dPCons, keysD, keyD, dDget, dDput, dKget, onD, onL, dMe, isL, dgSub, dRange1, dRange2, dWhile, dBreak, dCont, dNeg, dDin, dSl3, dSortZ, dDgetOr1, dDgetOr2, List.map, List.replicate, List.map_cons, List.map_nil, List.length_cons, List.length_nil, List.cons_append, List.nil_append, List.append_nil, List.set_cons_zero, List.set_cons_succ, List.getElem?_cons_zero, List.getElem?_cons_succ, List.replicate_succ, List.replicate_zero, Nat.reduceAdd, Nat.reduceSub, cond_true, cond_false, items_lst, items_frl, items_tup, items_str]
  refine ⟨trivial, sp_bag fun p m hp hB => ?_⟩
  refine ⟨trivial, sp_draw mset_same hB (by decide) (lt9 _ (by decide)) fun n1 m1 g0 g1 hB1 => ?_⟩
  simp only [fnD, dSeq, dSet, dSetL, dSetD, dUse, use, look, dC, dVar, dBin, dChain, dTst, dAnd, dOr, dNot, dAndV, dOrV, dNotV, dIf, dIfS, dNext, dRet, dRetN, dExpr, dAsg, dPar, dgName, dgTup, putAll, dFor, dForL, dIt, dSl, dSlL, dNoO, dSoO, dLst, dFz, dNew, dFzD, dNewD, dCons, dNil, dTup, dBu, dBuL, dLook1, dLook2, dLook3, dCall, dCall0, dLc, dLcL, wipeD, backD, dYes, dZip, dEnum, dDnew, dDisp, dPNil, dPCons, keysD, keyD, dDget, dDput, dKget, onD, onL, dMe, isL, dgSub, dRange1, dRange2, dWhile, dBreak, dCont, dNeg, dDin, dSl3, dSortZ, dDgetOr1, dDgetOr2, List.map, List.replicate, List.map_cons, List.map_nil, List.length_cons, List.length_nil, List.cons_append, List.nil_append, List.append_nil, List.set_cons_zero, List.set_cons_succ, List.getElem?_cons_zero, List.getElem?_cons_succ, List.replicate_succ, List.replicate_zero, Nat.reduceAdd, Nat.reduceSub, cond_true, cond_false, items_lst, items_frl, items_tup, items_str, iiR, i1R, i2R, addR, subR, mulR, fdivR, modR, powR, shlR, shrR, xorR, ltR, leR, gtR, geR, isR, isNo, lenR, absR, max2R, min2R, intR, mset_mset]
  refine ⟨by decide, trivial, sp_draw mset_same hB1 (by decide) (lt9 _ (by decide)) fun n2 m2 g2 g3 hB2 => ?_⟩
  simp only [fnD, dSeq, dSet, dSetL, dSetD, dUse, use, look, dC, dVar, dBin, dChain, dTst, dAnd, dOr, dNot, dAndV, dOrV, dNotV, dIf, dIfS, dNext, dRet, dRetN, dExpr, dAsg, dPar, dgName, dgTup, putAll, dFor, dForL, dIt, dSl, dSlL, dNoO, dSoO, dLst, dFz, dNew, dFzD, dNewD, dCons, dNil, dTup, dBu, dBuL, dLook1, dLook2, dLook3, dCall, dCall0, dLc, dLcL, wipeD, backD, dYes, dZip, dEnum, dDnew, dDisp, dPNil, dPCons, keysD, keyD, dDget, dDput, dKget, onD, onL, dMe, isL, dgSub, dRange1, dRange2, dWhile, dBreak, dCont, dNeg, dDin, dSl3, dSortZ, dDgetOr1, dDgetOr2, List.map, List.replicate, List.map_cons, List.map_nil, List.length_cons, List.length_nil, List.cons_append, List.nil_append, List.append_nil, List.set_cons_zero, List.set_cons_succ, List.getElem?_cons_zero, List.getElem?_cons_succ, List.replicate_succ, List.replicate_zero, Nat.reduceAdd, Nat.reduceSub, cond_true, cond_false, items_lst, items_frl, items_tup, items_str, iiR, i1R, i2R, addR, subR, mulR, fdivR, modR, powR, shlR, shrR, xorR, ltR, leR, gtR, geR, isR, isNo, lenR, absR, max2R, min2R, intR, mset_mset]
  obtain ⟨bits, hbits, -⟩ : ∃ b, atI [D.int 8, .int 9, .int 10, .int 11, .int (8 + n1)] n2 = some (.int b) ∧ True := by
    obtain ⟨x, h1, h2, h3⟩ := atI_nn (xs := [D.int 8, .int 9, .int 10, .int 11, .int (8 + n1)]) g2 (by simp only [List.length_cons, List.length_nil]; omega)
    simp only [List.mem_cons, List.not_mem_nil, or_false] at h3
    rcases h3 with rfl | rfl | rfl | rfl | rfl <;> exact ⟨_, h1, trivial⟩
  simp only [ixR, hbits]
  refine ⟨trivial, sp_draw mset_same hB2 (by decide) (lt9 _ (by decide)) fun at_ m3 g4 g5 hB3 => ?_⟩
  simp only [fnD, dSeq, dSet, dSetL, dSetD, dUse, use, look, dC, dVar, dBin, dChain, dTst, dAnd, dOr, dNot, dAndV, dOrV, dNotV, dIf, dIfS, dNext, dRet, dRetN, dExpr, dAsg, dPar, dgName, dgTup, putAll, dFor, dForL, dIt, dSl, dSlL, dNoO, dSoO, dLst, dFz, dNew, dFzD, dNewD, dCons, dNil, dTup, dBu, dBuL, dLook1, dLook2, dLook3, dCall, dCall0, dLc, dLcL, wipeD, backD, dYes, dZip, dEnum, dDnew, dDisp, dPNil, dPCons, keysD, keyD, dDget, dDput, dKget, onD, onL, dMe, isL, dgSub, dRange1, dRange2, dWhile, dBreak, dCont, dNeg, dDin, dSl3, dSortZ, dDgetOr1, dDgetOr2, List.map, List.replicate, List.map_cons, List.map_nil, List.length_cons, List.length_nil, List.cons_append, List.nil_append, List.append_nil, List.set_cons_zero, List.set_cons_succ, List.getElem?_cons_zero, List.getElem?_cons_succ, List.replicate_succ, List.replicate_zero, Nat.reduceAdd, Nat.reduceSub, cond_true, cond_false, items_lst, items_frl, items_tup, items_str, iiR, i1R, i2R, addR, subR, mulR, fdivR, modR, powR, shlR, shrR, xorR, ltR, leR, gtR, geR, isR, isNo, lenR, absR, max2R, min2R, intR, mset_mset]
  refine ⟨trivial, sp_draw mset_same hB3 (by decide) (lt9 _ (by decide)) fun n4 m4 g6 g7 hB4 => ?_⟩
  simp only [fnD, dSeq, dSet, dSetL, dSetD, dUse, use, look, dC, dVar, dBin, dChain, dTst, dAnd, dOr, dNot, dAndV, dOrV, dNotV, dIf, dIfS, dNext, dRet, dRetN, dExpr, dAsg, dPar, dgName, dgTup, putAll, dFor, dForL, dIt, dSl, dSlL, dNoO, dSoO, dLst, dFz, dNew, dFzD, dNewD, dCons, dNil, dTup, dBu, dBuL, dLook1, dLook2, dLook3, dCall, dCall0, dLc, dLcL, wipeD, backD, dYes, dZip, dEnum, dDnew, dDisp, dPNil, dPCons, keysD, keyD, dDget, dDput, dKget, onD, onL, dMe, isL, dgSub, dRange1, dRange2, dWhile, dBreak, dCont, dNeg, dDin, dSl3, dSortZ, dDgetOr1, dDgetOr2, List.map, List.replicate, List.map_cons, List.map_nil, List.length_cons, List.length_nil, List.cons_append, List.nil_append, List.append_nil, List.set_cons_zero, List.set_cons_succ, List.getElem?_cons_zero, List.getElem?_cons_succ, List.replicate_succ, List.replicate_zero, Nat.reduceAdd, Nat.reduceSub, cond_true, cond_false, items_lst, items_frl, items_tup, items_str, iiR, i1R, i2R, addR, subR, mulR, fdivR, modR, powR, shlR, shrR, xorR, ltR, leR, gtR, geR, isR, isNo, lenR, absR, max2R, min2R, intR, mset_mset]
  refine ⟨by decide, trivial, sp_draw mset_same hB4 (by decide) (lt9 _ (by decide)) fun n5 m5 g8 g9 hB5 => ?_⟩
  simp only [fnD, dSeq, dSet, dSetL, dSetD, dUse, use, look, dC, dVar, dBin, dChain, dTst, dAnd, dOr, dNot, dAndV, dOrV, dNotV, dIf, dIfS, dNext, dRet, dRetN, dExpr, dAsg, dPar, dgName, dgTup, putAll, dFor, dForL, dIt, dSl, dSlL, dNoO, dSoO, dLst, dFz, dNew, dFzD, dNewD, dCons, dNil, dTup, dBu, dBuL, dLook1, dLook2, dLook3, dCall, dCall0, dLc, dLcL, wipeD, backD, dYes, dZip, dEnum, dDnew, dDisp, dPNil, dPCons, keysD, keyD, dDget, dDput, dKget, onD, onL, dMe, isL, dgSub, dRange1, dRange2, dWhile, dBreak, dCont, dNeg, dDin, dSl3, dSortZ, dDgetOr1, dDgetOr2, List.map, List.replicate, List.map_cons, List.map_nil, List.length_cons, List.length_nil, List.cons_append, List.nil_append, List.append_nil, List.set_cons_zero, List.set_cons_succ, List.getElem?_cons_zero, List.getElem?_cons_succ, List.replicate_succ, List.replicate_zero, Nat.reduceAdd, Nat.reduceSub, cond_true, cond_false, items_lst, items_frl, items_tup, items_str, iiR, i1R, i2R, addR, subR, mulR, fdivR, modR, powR, shlR, shrR, xorR, ltR, leR, gtR, geR, isR, isNo, lenR, absR, max2R, min2R, intR, mset_mset]
  obtain ⟨more, hmore, hm⟩ : ∃ b, atI [D.int 0, .int 0, .int (1 + n4)] n5 = some (.int b) ∧ 0 ≤ b ∧ b ≤ 20 := by
    obtain ⟨x, h1, h2, h3⟩ := atI_nn (xs := [D.int 0, .int 0, .int (1 + n4)]) g8 (by simp only [List.length_cons, List.length_nil]; omega)
    simp only [List.mem_cons, List.not_mem_nil, or_false] at h3
    rcases h3 with rfl | rfl | rfl
    · exact ⟨_, h1, by decide, by decide⟩
    · exact ⟨_, h1, by decide, by decide⟩
    · exact ⟨_, h1, by omega, by omega⟩
  simp only [ixR, hmore]
  refine ⟨trivial, sp_draw mset_same hB5 (by decide) (lt9 _ (by decide)) fun k m6 k0 k1 hB6 => ?_⟩
  simp only [fnD, dSeq, dSet, dSetL, dSetD, dUse, use, look, dC, dVar, dBin, dChain, dTst, dAnd, dOr, dNot, dAndV, dOrV, dNotV, dIf, dIfS, dNext, dRet, dRetN, dExpr, dAsg, dPar, dgName, dgTup, putAll, dFor, dForL, dIt, dSl, dSlL, dNoO, dSoO, dLst, dFz, dNew, dFzD, dNewD, dCons, dNil, dTup, dBu, dBuL, dLook1, dLook2, dLook3, dCall, dCall0, dLc, dLcL, wipeD, backD, dYes, dZip, dEnum, dDnew, dDisp, dPNil, dPCons, keysD, keyD, dDget, dDput, dKget, onD, onL, dMe, isL, dgSub, dRange1, dRange2, dWhile, dBreak, dCont, dNeg, dDin, dSl3, dSortZ, dDgetOr1, dDgetOr2, List.map, List.replicate, List.map_cons, List.map_nil, List.length_cons, List.length_nil, List.cons_append, List.nil_append, List.append_nil, List.set_cons_zero, List.set_cons_succ, List.getElem?_cons_zero, List.getElem?_cons_succ, List.replicate_succ, List.replicate_zero, Nat.reduceAdd, Nat.reduceSub, cond_true, cond_false, items_lst, items_frl, items_tup, items_str, iiR, i1R, i2R, addR, subR, mulR, fdivR, modR, powR, shlR, shrR, xorR, ltR, leR, gtR, geR, isR, isNo, lenR, absR, max2R, min2R, intR, mset_mset]
  refine sp_rows ?_
  simp only [fnD, dSeq, dSet, dSetL, dSetD, dUse, use, look, dC, dVar, dBin, dChain, dTst, dAnd, dOr, dNot, dAndV, dOrV, dNotV, dIf, dIfS, dNext, dRet, dRetN, dExpr, dAsg, dPar, dgName, dgTup, putAll, dFor, dForL, dIt, dSl, dSlL, dNoO, dSoO, dLst, dFz, dNew, dFzD, dNewD, dCons, dNil, dTup, dBu, dBuL, dLook1, dLook2, dLook3, dCall, dCall0, dLc, dLcL, wipeD, backD, dYes, dZip, dEnum, dDnew, dDisp, dPNil, dPCons, keysD, keyD, dDget, dDput, dKget, onD, onL, dMe, isL, dgSub, dRange1, dRange2, dWhile, dBreak, dCont, dNeg, dDin, dSl3, dSortZ, dDgetOr1, dDgetOr2, List.map, List.replicate, List.map_cons, List.map_nil, List.length_cons, List.length_nil, List.cons_append, List.nil_append, List.append_nil, List.set_cons_zero, List.set_cons_succ, List.getElem?_cons_zero, List.getElem?_cons_succ, List.replicate_succ, List.replicate_zero, Nat.reduceAdd, Nat.reduceSub, cond_true, cond_false, items_lst, items_frl, items_tup, items_str, iiR, i1R, i2R, addR, subR, mulR, fdivR, modR, powR, shlR, shrR, xorR, ltR, leR, gtR, geR, isR, isNo, lenR, absR, max2R, min2R, intR]
  refine ⟨by decide, pick_le7 g4 (by rw [List.length_map, rowsN_len]; decide), ?_⟩
  have epick : pickD ((rowsN 5).map rowD) (some at_) none (some 7) = (pickD (rowsN 5) (some at_) none (some 7)).map rowD := by
    unfold pickD
    rw [List.length_map]
    generalize sliceRange _ _ _ = is
    induction is with
    | nil => rfl
    | cons i is ih =>
      cases e : (rowsN 5)[i]? with
      | none => rw [List.filterMap_cons_none (by rw [List.getElem?_map, e]; rfl), List.filterMap_cons_none e, ih]
      | some z => rw [List.filterMap_cons_some (by rw [List.getElem?_map, e]; rfl), List.filterMap_cons_some e, ih, List.map_cons]
  rw [epick]
  refine law_loop hm ⟨k0, k1⟩ _ _ _ _ _ _ _ (fun r hr => rowsN_ok 5 r (pick_mem hr)) fun M' s6 s7 s8 s9 s10 => ?_
  simp only [fnD, dSeq, dSet, dSetL, dSetD, dUse, use, look, dC, dVar, dBin, dChain, dTst, dAnd, dOr, dNot, dAndV, dOrV, dNotV, dIf, dIfS, dNext, dRet, dRetN, dExpr, dAsg, dPar, dgName, dgTup, putAll, dFor, dForL, dIt, dSl, dSlL, dNoO, dSoO, dLst, dFz, dNew, dFzD, dNewD, dCons, dNil, dTup, dBu, dBuL, dLook1, dLook2, dLook3, dCall, dCall0, dLc, dLcL, wipeD, backD, dYes, dZip, dEnum, dDnew, dDisp, dPNil, dPCons, keysD, keyD, dDget, dDput, dKget, onD, onL, dMe, isL, dgSub, dRange1, dRange2, dWhile, dBreak, dCont, dNeg, dDin, dSl3, dSortZ, dDgetOr1, dDgetOr2, List.map, List.replicate, List.map_cons, List.map_nil, List.length_cons, List.length_nil, List.cons_append, List.nil_append, List.append_nil, List.set_cons_zero, List.set_cons_succ, List.getElem?_cons_zero, List.getElem?_cons_succ, List.replicate_succ, List.replicate_zero, Nat.reduceAdd, Nat.reduceSub, cond_true, cond_false, items_lst, items_frl, items_tup, items_str, iiR, i1R, i2R, addR, subR, mulR, fdivR, modR, powR, shlR, shrR, xorR, ltR, leR, gtR, geR, isR, isNo, lenR, absR, max2R, min2R, intR]
  exact h M'
def dd_turned : He.DefD := ⟨("turned", none), "turned", "turned", defArgs s_turned, defBody s_turned, defScope s_turned, [], []⟩
def dd_fits : He.DefD := ⟨("fits", none), "fits", "fits", defArgs s_fits, defBody s_fits, defScope s_fits, [], []⟩
def dd_made : He.DefD := ⟨("made", none), "made", "made", defArgs s_made, defBody s_made, defScope s_made, [], []⟩
def dd_law_bag : He.DefD := ⟨("_law_bag", none), "_law_bag", "_law_bag", defArgs s_law_bag, defBody s_law_bag, defScope s_law_bag, [], []⟩
def dd_law_draw : He.DefD := ⟨("_law_draw", none), "_law_draw", "_law_draw", defArgs s_law_draw, defBody s_law_draw, defScope s_law_draw, [], []⟩
def dd_law_kinds : He.DefD := ⟨("_law_kinds", none), "_law_kinds", "_law_kinds", defArgs s_law_kinds, defBody s_law_kinds, defScope s_law_kinds, [], []⟩
def dd_law_needed : He.DefD := ⟨("_law_needed", none), "_law_needed", "_law_needed", defArgs s_law_needed, defBody s_law_needed, defScope s_law_needed, [], []⟩
def dd_law_placed : He.DefD := ⟨("_law_placed", none), "_law_placed", "_law_placed", defArgs s_law_placed, defBody s_law_placed, defScope s_law_placed, [], []⟩
def dd_law_rows : He.DefD := ⟨("_law_rows", none), "_law_rows", "_law_rows", defArgs s_law_rows, defBody s_law_rows, defScope s_law_rows, [], []⟩
def dd_law : He.DefD := ⟨("law", none), "law", "law", defArgs s_law, defBody s_law, defScope s_law, [], []⟩
def hFn : List He.DefD := [dd_turned, dd_fits, dd_made, dd_law_bag, dd_law_draw, dd_law_kinds, dd_law_needed, dd_law_placed, dd_law_rows, dd_law]
def hFa : List He.Fa := [.glo "turned", .glo "fits", .glo "made", .glo "_law_bag", .glo "_law_draw", .glo "_law_kinds", .glo "_law_needed", .glo "_law_placed", .glo "_law_rows", .glo "law", .free "range", .free "sum", .free "zip", .free "sorted", .free "abs", .free "len", .free "enumerate", .free "max", .free "list"]
def hTs : List He.Tab := [(fun K => He.ga K "NEEDED", ["small", "far", "pair", "sign", "one"])]
def hEx (K : PySem.W.Frag) : Bool := gcB K "MOST_WIDTH" g_MOST_WIDTH && gcB K "KINDS" g_KINDS && gdB K "NEEDED" g_NEEDED
theorem hFacts {P : Program} {w : World} {K : PySem.W.Frag} {h : Heap} {mg : Str → Option Value} {f : Addr} (X : K.In h) (G : h.Ns mainGlobals mg) (hfa : mg ("law" : Str) = some (.ref f)) (c : He.SaysT hFa hFn hTs w K) (e : hEx K = true) :
    ∃ fd : FuncData, (∀ (s : Shared) (v : Value), BindsTo s fd ⟨[v], []⟩ [("script", v)]) ∧ ∀ base : Heap, K.In base → base.Ns mainGlobals mg → FnOk P w K mg base (L2.CX P w) 3 f fd ["script"] (spF K 1 f_law) := by
  have cd := c.d
  obtain ⟨fd_turned, F_turned⟩ := cd.def_ 0 (d := dd_turned) rfl
  obtain ⟨fd_fits, F_fits⟩ := cd.def_ 1 (d := dd_fits) rfl
  obtain ⟨fd_made, F_made⟩ := cd.def_ 2 (d := dd_made) rfl
  obtain ⟨fd_law_bag, F_law_bag⟩ := cd.def_ 3 (d := dd_law_bag) rfl
  obtain ⟨fd_law_draw, F_law_draw⟩ := cd.def_ 4 (d := dd_law_draw) rfl
  obtain ⟨fd_law_kinds, F_law_kinds⟩ := cd.def_ 5 (d := dd_law_kinds) rfl
  obtain ⟨fd_law_needed, F_law_needed⟩ := cd.def_ 6 (d := dd_law_needed) rfl
  obtain ⟨fd_law_placed, F_law_placed⟩ := cd.def_ 7 (d := dd_law_placed) rfl
  obtain ⟨fd_law_rows, F_law_rows⟩ := cd.def_ 8 (d := dd_law_rows) rfl
  obtain ⟨fd_law, F_law⟩ := cd.def_ 9 (d := dd_law) rfl
  have fr_range := He.free_ok X G (cd.fact 10 (f := .free "range") rfl)
  have fr_sum := He.free_ok X G (cd.fact 11 (f := .free "sum") rfl)
  have fr_zip := He.free_ok X G (cd.fact 12 (f := .free "zip") rfl)
  have fr_sorted := He.free_ok X G (cd.fact 13 (f := .free "sorted") rfl)
  have fr_abs := He.free_ok X G (cd.fact 14 (f := .free "abs") rfl)
  have fr_len := He.free_ok X G (cd.fact 15 (f := .free "len") rfl)
  have fr_enumerate := He.free_ok X G (cd.fact 16 (f := .free "enumerate") rfl)
  have fr_max := He.free_ok X G (cd.fact 17 (f := .free "max") rfl)
  have fr_list := He.free_ok X G (cd.fact 18 (f := .free "list") rfl)
  unfold hEx at e
  simp only [Bool.and_eq_true] at e
  obtain ⟨⟨x_MOST_WIDTH, x_KINDS⟩, x_NEEDED⟩ := e
  have gc_MOST_WIDTH := gcB_ok X G x_MOST_WIDTH
  have gc_KINDS := gcB_ok X G x_KINDS
  obtain ⟨_, _, t_NEEDED⟩ := c.tab 0 (t := (fun K => He.ga K "NEEDED", ["small", "far", "pair", "sign", "one"])) rfl
  have gc_NEEDED := gdB_ok (w := w) X G x_NEEDED t_NEEDED
  have e2 := hfa.symm.trans (He.glo_ok X G (cd.fact 9 (f := .glo "law") rfl))
  cases e2
  refine ⟨fd_law, fun s v => FunD.bindsA (ps := ["script"]) F_law (fun _ _ _ _ _ _ us hl => match us, hl with | [_], _ => rfl) s [v] rfl, fun base _ _ => ?_⟩
  have c_turned : Callee P w K mg base 1 "turned" ["code", "width"] f_turned := callee_of (st := s_turned) X G (cd.fact 0 (f := .glo "turned") rfl) F_turned rfl (ok_turned (fun_ofD F_turned) fr_range) (fun _ _ _ _ _ _ us hl => match us, hl with | [_, _], _ => rfl)
  have c_fits : Callee P w K mg base 1 "fits" ["bits", "widths"] f_fits := callee_of (st := s_fits) X G (cd.fact 1 (f := .glo "fits") rfl) F_fits rfl (ok_fits (fun_ofD F_fits) fr_sum fr_zip gc_MOST_WIDTH gc_KINDS gc_NEEDED) (fun _ _ _ _ _ _ us hl => match us, hl with | [_, _], _ => rfl)
  have c_made : Callee P w K mg base 2 "made" ["bits", "widths"] f_made := callee_of (st := s_made) X G (cd.fact 2 (f := .glo "made") rfl) F_made rfl (ok_made (fun_ofD F_made) c_turned c_fits fr_zip fr_sorted gc_KINDS) (fun _ _ _ _ _ _ us hl => match us, hl with | [_, _], _ => rfl)
  have c_law_bag : Callee P w K mg base 1 "_law_bag" ["script"] f_law_bag := callee_of (st := s_law_bag) X G (cd.fact 3 (f := .glo "_law_bag") rfl) F_law_bag rfl (ok_law_bag (fun_ofD F_law_bag) fr_abs) (fun _ _ _ _ _ _ us hl => match us, hl with | [_], _ => rfl)
  have c_law_draw : Callee P w K mg base 1 "_law_draw" ["bag", "many"] f_law_draw := callee_of (st := s_law_draw) X G (cd.fact 4 (f := .glo "_law_draw") rfl) F_law_draw rfl (ok_law_draw (fun_ofD F_law_draw) fr_len) (fun _ _ _ _ _ _ us hl => match us, hl with | [_, _], _ => rfl)
  have c_law_kinds : Callee P w K mg base 1 "_law_kinds" [] f_law_kinds := callee_of (st := s_law_kinds) X G (cd.fact 5 (f := .glo "_law_kinds") rfl) F_law_kinds rfl (ok_law_kinds (fun_ofD F_law_kinds) ) (fun _ _ _ _ _ _ us hl => match us, hl with | [], _ => rfl)
  have c_law_needed : Callee P w K mg base 1 "_law_needed" ["kind"] f_law_needed := callee_of (st := s_law_needed) X G (cd.fact 6 (f := .glo "_law_needed") rfl) F_law_needed rfl (ok_law_needed (fun_ofD F_law_needed) ) (fun _ _ _ _ _ _ us hl => match us, hl with | [_], _ => rfl)
  have c_law_placed : Callee P w K mg base 2 "_law_placed" ["bits", "widths"] f_law_placed := callee_of (st := s_law_placed) X G (cd.fact 7 (f := .glo "_law_placed") rfl) F_law_placed rfl (ok_law_placed (fun_ofD F_law_placed) c_law_needed c_law_kinds fr_sorted fr_enumerate) (fun _ _ _ _ _ _ us hl => match us, hl with | [_, _], _ => rfl)
  have c_law_rows : Callee P w K mg base 1 "_law_rows" [] f_law_rows := callee_of (st := s_law_rows) X G (cd.fact 8 (f := .glo "_law_rows") rfl) F_law_rows rfl (ok_law_rows (fun_ofD F_law_rows) fr_range) (fun _ _ _ _ _ _ us hl => match us, hl with | [], _ => rfl)
  exact ok_law (fun_ofD F_law) c_law_rows c_made c_law_needed c_law_kinds c_law_placed c_law_draw c_law_bag fr_max fr_list
end MW
open PySem PySem.W PyProof.Rows
set_option maxHeartbeats 0 in
theorem PySem.Challenge.cw_markwords_k17_whole_widths_all_holds : PySem.Challenge.rw_markwords_k17_whole_widths_all.Holds := by
  w_on; o_law; k_head; (case hw => w_witness2)
  k_fill
  refine MW.walk_ofP (l := PySem.Challenge.rw_markwords_k17_whole_widths_all) (n := 63) (k := 3) (x := "script") (f := MW.f_law) rfl (by decide) rfl ⟨rfl, by decide, by decide⟩ (fun w h Y => PySem.W.kIn_of Y) (fun ns hl Q E hQ => MW.sp_law hQ) ?F
  case F =>
    intro w mg fa h KX G hmg
    exact MW.hFacts KX G hmg (by unfold He.SaysT; kernel_rfl) (by kernel_rfl)

