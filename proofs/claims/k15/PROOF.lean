import PyProof.Rows.All
import Wide.All
import OpenK.AllK
import Wide.FinOn
import HandS.ForMost
import HandS.ForExc
import HandS.CallSlots
import HandS.Walk
import HandS.Zip
import HandS.Conv
import HandS.TupAny
import HandS.DictComp
import HandS.IsInst
import HandS.SortInts
import HandS.Wide
import HandS.TupMul
import HandS.WordsDict
import KE.GoesEnum
import KE.GoesMore
import KE.GoesZip
import HandS.Style
import HandS.BoundList
import HandS.MakeKwOnly
import HandS.SetFor
import HandS.Strs
import PySem.Challenge.RW_fewcells_k15_the_fewest_key_by_key
set_option Elab.async false
set_option linter.all false
set_option maxRecDepth 100000
set_option maxHeartbeats 4000000
/-! M3: data of any depth, a small heap of cells, each construct's meaning on them. -/
namespace M3
open PySem L2
abbrev Kf := PySem.W.Frag
/-- what a program computes with, without the heap; ref: a cell that may change; scr: the script -/
inductive D where
  | non | bl (b : Bool) | int (i : Int) | str (x : Str)
  | tup (xs : List D) | lst (xs : List D) | dct (kvs : List (Key × D)) | ref (a : Addr) | scr (ns : List Int)
/-- a cell: a list, a dict, an instance -/
inductive MO where
  | lst (xs : List D) | dct (kvs : List (Key × D)) | ins (C : Addr) (fs : List (Str × D))
abbrev MH := Addr → Option MO
def put (h : MH) (a : Addr) (m : MO) : MH := fun b => if b = a then some m else h b
def del (h : MH) (a : Addr) : MH := fun b => if b = a then none else h b
abbrev En := List (Option D)
/-- a result: data, or a list, a dict that nobody else has -/
inductive RV where
  | d (x : D) | ol (xs : List D) | od (kvs : List (Key × D))
def RV.frz : RV → D
  | .d x => x
  | .ol xs => .lst xs
  | .od kvs => .dct kvs
structure EX where
  c : Addr
  fs : List (Str × D)
abbrev XKm := EX → MH → Prop
abbrev TEm := En → MH → (RV → MH → Prop) → XKm → Prop
abbrev TVm := En → MH → (D → MH → Prop) → XKm → Prop
abbrev TTm := En → MH → (Bool → MH → Prop) → XKm → Prop
abbrev TAm := En → MH → (List D → MH → Prop) → XKm → Prop
structure Nd where
  nx : En → MH → Prop
  rt : RV → MH → Prop
  bk : En → MH → Prop := fun _ _ => False
  ct : En → MH → Prop := fun _ _ => False
  xs : XKm := fun _ _ => False
abbrev TSm := Nd → En → MH → Prop

/-! ### how data lies in the heap -/
mutual
inductive Rep (K : Kf) (F : Hp) : D → V → Prop
  | non : Rep K F .non .non
  | bl (b : Bool) : Rep K F (.bl b) (.bl b)
  | int (i : Int) : Rep K F (.int i) (.int i)
  | str (x : Str) : Rep K F (.str x) (.str x)
  | ref (a : Addr) : Rep K F (.ref a) (.ref a)
  | tup {a : Addr} {vs : List V} {ds : List D} : SqT K F a vs → Reps K F ds vs → Rep K F (.tup ds) (.ref a)
  | lst {a : Addr} {vs : List V} {ds : List D} : F a = some (.lst vs) → Reps K F ds vs → Rep K F (.lst ds) (.ref a)
  | dct {a : Addr} {ws : List (Key × V)} {kvs : List (Key × D)} : Rd F a (.dK ws) → RepK K F kvs ws → Rep K F (.dct kvs) (.ref a)
  | scr {a : Addr} {ns : List Int} : SqL K F a (ns.map V.int) → Rep K F (.scr ns) (.ref a)
inductive Reps (K : Kf) (F : Hp) : List D → List V → Prop
  | nil : Reps K F [] []
  | cons {d : D} {v : V} {ds : List D} {vs : List V} : Rep K F d v → Reps K F ds vs → Reps K F (d :: ds) (v :: vs)
inductive RepK (K : Kf) (F : Hp) : List (Key × D) → List (Key × V) → Prop
  | nil : RepK K F [] []
  | cons {k : Key} {d : D} {v : V} {ds : List (Key × D)} {vs : List (Key × V)} : Rep K F d v → RepK K F ds vs → RepK K F ((k, d) :: ds) ((k, v) :: vs)
end
inductive RepF (K : Kf) (F : Hp) : List (Str × D) → List (Str × V) → Prop
  | nil : RepF K F [] []
  | cons {k : Str} {d : D} {v : V} {ds : List (Str × D)} {vs : List (Str × V)} : Rep K F d v → RepF K F ds vs → RepF K F ((k, d) :: ds) ((k, v) :: vs)
/-- what is read in F is read in F' -/
structure Le (F F' : Hp) : Prop where
  rd : ∀ a u, Rd F a u → Rd F' a u
  ls : ∀ a vs, F a = some (.lst vs) → F' a = some (.lst vs)
theorem Le.refl (F : Hp) : Le F F := ⟨fun _ _ h => h, fun _ _ h => h⟩
theorem Le.trans {F F1 F2 : Hp} (a : Le F F1) (b : Le F1 F2) : Le F F2 := ⟨fun x u h => b.rd x u (a.rd x u h), fun x u h => b.ls x u (a.ls x u h)⟩
theorem Le.new {F : Hp} {p : Addr} {o : HO} (h : F p = none) : Le F (upd F p o) := by
  refine ⟨fun a u q => ?_, fun a vs q => ?_⟩
  · rcases q with q | ⟨ob, q⟩
    · exact .inl (by rw [upd_ne (ne_of_none q h)]; exact q)
    · exact .inr ⟨ob, by rw [upd_ne (ne_of_none q h)]; exact q⟩
  · rw [upd_ne (ne_of_none q h)]; exact q
theorem Le.sqT {K : Kf} {F F' : Hp} {a : Addr} {xs : List V} (e : Le F F') (h : SqT K F a xs) : SqT K F' a xs := by
  rcases h with h | h
  · exact .inl (e.rd _ _ h)
  · exact .inr h
theorem Le.sqL {K : Kf} {F F' : Hp} {a : Addr} {xs : List V} (e : Le F F') (h : SqL K F a xs) : SqL K F' a xs := by
  rcases h with h | h
  · exact .inl (e.rd _ _ h)
  · exact .inr h
mutual
theorem Rep.mono {K : Kf} {F F' : Hp} (e : Le F F') : ∀ {d : D} {v : V}, Rep K F d v → Rep K F' d v
  | _, _, .non => .non
  | _, _, .bl b => .bl b
  | _, _, .int i => .int i
  | _, _, .str x => .str x
  | _, _, .ref a => .ref a
  | _, _, .tup h r => .tup (e.sqT h) (Reps.mono e r)
  | _, _, .lst h r => .lst (e.ls _ _ h) (Reps.mono e r)
  | _, _, .dct h r => .dct (e.rd _ _ h) (RepK.mono e r)
  | _, _, .scr h => .scr (e.sqL h)
theorem Reps.mono {K : Kf} {F F' : Hp} (e : Le F F') : ∀ {ds : List D} {vs : List V}, Reps K F ds vs → Reps K F' ds vs
  | _, _, .nil => .nil
  | _, _, .cons a r => .cons (Rep.mono e a) (Reps.mono e r)
theorem RepK.mono {K : Kf} {F F' : Hp} (e : Le F F') : ∀ {ds : List (Key × D)} {vs : List (Key × V)}, RepK K F ds vs → RepK K F' ds vs
  | _, _, .nil => .nil
  | _, _, .cons a r => .cons (Rep.mono e a) (RepK.mono e r)
end
theorem RepF.mono {K : Kf} {F F' : Hp} (e : Le F F') : ∀ {ds : List (Str × D)} {vs : List (Str × V)}, RepF K F ds vs → RepF K F' ds vs
  | _, _, .nil => .nil
  | _, _, .cons a r => .cons (Rep.mono e a) (RepF.mono e r)
section
variable {K : Kf} {F : Hp}
theorem Reps.len : ∀ {ds : List D} {vs : List V}, Reps K F ds vs → ds.length = vs.length
  | _, _, .nil => rfl
  | _, _, .cons _ r => congrArg (· + 1) r.len
theorem RepK.len : ∀ {ds : List (Key × D)} {vs : List (Key × V)}, RepK K F ds vs → ds.length = vs.length
  | _, _, .nil => rfl
  | _, _, .cons _ r => congrArg (· + 1) r.len
theorem RepF.len : ∀ {ds : List (Str × D)} {vs : List (Str × V)}, RepF K F ds vs → ds.length = vs.length
  | _, _, .nil => rfl
  | _, _, .cons _ r => congrArg (· + 1) r.len
theorem Reps.get : ∀ {ds : List D} {vs : List V} {i : Nat} {d : D}, Reps K F ds vs → ds[i]? = some d → ∃ v, vs[i]? = some v ∧ Rep K F d v
  | _, _, 0, _, .cons a _, e => by
    cases e
    exact ⟨_, rfl, a⟩
  | _, _, i + 1, d, .cons _ r, e => Reps.get (i := i) r e
theorem Reps.getV : ∀ {ds : List D} {vs : List V} {i : Nat} {v : V}, Reps K F ds vs → vs[i]? = some v → ∃ d, ds[i]? = some d ∧ Rep K F d v
  | _, _, 0, _, .cons a _, e => by
    cases e
    exact ⟨_, rfl, a⟩
  | _, _, i + 1, d, .cons _ r, e => Reps.getV (i := i) r e
theorem Reps.app : ∀ {ds es : List D} {vs ws : List V}, Reps K F ds vs → Reps K F es ws → Reps K F (ds ++ es) (vs ++ ws)
  | _, _, _, _, .nil, b => b
  | _, _, _, _, .cons a r, b => .cons a (Reps.app r b)
theorem Reps.set {d : D} {v : V} (a : Rep K F d v) : ∀ {ds : List D} {vs : List V} (i : Nat), Reps K F ds vs → Reps K F (ds.set i d) (vs.set i v)
  | _, _, _, .nil => .nil
  | _, _, 0, .cons _ r => .cons a r
  | _, _, i + 1, .cons b r => .cons b (Reps.set a i r)
theorem Reps.take : ∀ {ds : List D} {vs : List V} (n : Nat), Reps K F ds vs → Reps K F (ds.take n) (vs.take n)
  | _, _, 0, _ => .nil
  | _, _, _ + 1, .nil => .nil
  | _, _, n + 1, .cons a r => .cons a (Reps.take n r)
theorem Reps.drop : ∀ {ds : List D} {vs : List V} (n : Nat), Reps K F ds vs → Reps K F (ds.drop n) (vs.drop n)
  | _, _, 0, r => r
  | _, _, _ + 1, .nil => .nil
  | _, _, n + 1, .cons _ r => Reps.drop n r
theorem Reps.rev : ∀ {ds : List D} {vs : List V}, Reps K F ds vs → Reps K F ds.reverse vs.reverse
  | _, _, .nil => .nil
  | _, _, .cons a r => by
    rw [List.reverse_cons, List.reverse_cons]
    exact (Reps.rev r).app (.cons a .nil)
theorem Reps.erase : ∀ {ds : List D} {vs : List V} (i : Nat), Reps K F ds vs → Reps K F (ds.eraseIdx i) (vs.eraseIdx i)
  | _, _, _, .nil => .nil
  | _, _, 0, .cons _ r => r
  | _, _, i + 1, .cons a r => .cons a (Reps.erase i r)
theorem Reps.rep {ds : List D} {vs : List V} (r : Reps K F ds vs) : ∀ n, Reps K F (List.replicate n ds).flatten (List.replicate n vs).flatten
  | 0 => .nil
  | n + 1 => by
    rw [List.replicate_succ, List.replicate_succ, List.flatten_cons, List.flatten_cons]
    exact r.app (Reps.rep r n)
theorem Reps.of_ints : ∀ {ns : List Int} {vs : List V}, Reps K F (ns.map D.int) vs → vs = ns.map V.int
  | [], _, .nil => rfl
  | n :: ns, _, .cons (.int _) r => by
    show _ = V.int n :: ns.map V.int
    rw [Reps.of_ints r]
theorem Reps.ints : ∀ (ns : List Int), Reps K F (ns.map D.int) (ns.map V.int)
  | [] => .nil
  | _ :: ns => .cons (.int _) (Reps.ints ns)
theorem Reps.of_bls : ∀ {ns : List Bool} {vs : List V}, Reps K F (ns.map D.bl) vs → vs = ns.map V.bl
  | [], _, .nil => rfl
  | n :: ns, _, .cons (.bl _) r => by
    show _ = V.bl n :: ns.map V.bl
    rw [Reps.of_bls r]
theorem Reps.of_strs : ∀ {ns : List Str} {vs : List V}, Reps K F (ns.map D.str) vs → vs = ns.map V.str
  | [], _, .nil => rfl
  | n :: ns, _, .cons (.str _) r => by
    show _ = V.str n :: ns.map V.str
    rw [Reps.of_strs r]
theorem Reps.strs : ∀ (ns : List Str), Reps K F (ns.map D.str) (ns.map V.str)
  | [] => .nil
  | _ :: ns => .cons (.str _) (Reps.strs ns)
end

/-! ### a state of the mirror and a state of the layer -/
def Cel (K : Kf) (F H : Hp) (a : Addr) : MO → Prop
  | .lst xs => ∃ vs, H a = some (.lst vs) ∧ Reps K F xs vs
  | .dct kvs => ∃ ws, H a = some (.dK ws) ∧ RepK K F kvs ws
  | .ins C fs => ∃ dx ws, H a = some (.ins C dx ws) ∧ RepF K F fs ws
inductive Slots (K : Kf) (F : Hp) : En → St → Prop
  | nil : Slots K F [] []
  | non {w : Option V} {E : En} {σ : St} : Slots K F E σ → Slots K F (none :: E) (w :: σ)
  | val {d : D} {v : V} {E : En} {σ : St} : Rep K F d v → Slots K F E σ → Slots K F (some d :: E) (some v :: σ)
structure Rel (K : Kf) (B F : Hp) (E : En) (h : MH) (σ : St) (H : Hp) : Prop where
  out : ∀ a o, B a = some o → H a = some o ∧ F a = none ∧ h a = none
  frz : ∀ a o, F a = some o → H a = some o ∧ h a = none
  cel : ∀ a m, h a = some m → Cel K F H a m
  slot : Slots K F E σ
theorem Cel.some {K : Kf} {F H : Hp} {a : Addr} {m : MO} (c : Cel K F H a m) : ∃ o, H a = some o := by
  cases m with
  | lst xs => obtain ⟨_, e, _⟩ := c; exact ⟨_, e⟩
  | dct xs => obtain ⟨_, e, _⟩ := c; exact ⟨_, e⟩
  | ins xs => obtain ⟨_, _, e, _⟩ := c; exact ⟨_, e⟩
theorem Cel.mono {K : Kf} {F F' H H' : Hp} {a : Addr} {m : MO} (c : Cel K F H a m) (e : Le F F') (k : H' a = H a) : Cel K F' H' a m := by
  cases m with
  | lst xs => obtain ⟨vs, q, r⟩ := c; exact ⟨vs, k.trans q, r.mono e⟩
  | dct xs => obtain ⟨vs, q, r⟩ := c; exact ⟨vs, k.trans q, r.mono e⟩
  | ins xs => obtain ⟨dx, vs, q, r⟩ := c; exact ⟨dx, vs, k.trans q, r.mono e⟩
theorem Slots.mono {K : Kf} {F F' : Hp} (e : Le F F') : ∀ {E : En} {σ : St}, Slots K F E σ → Slots K F' E σ
  | _, _, .nil => .nil
  | _, _, .non r => .non (Slots.mono e r)
  | _, _, .val a r => .val (a.mono e) (Slots.mono e r)
theorem Slots.len {K : Kf} {F : Hp} : ∀ {E : En} {σ : St}, Slots K F E σ → E.length = σ.length
  | _, _, .nil => rfl
  | _, _, .non r => congrArg (· + 1) r.len
  | _, _, .val _ r => congrArg (· + 1) r.len
theorem Slots.get {K : Kf} {F : Hp} : ∀ {E : En} {σ : St} {i : Nat} {d : D}, Slots K F E σ → E[i]? = some (some d) → ∃ v, σ[i]? = some (some v) ∧ Rep K F d v
  | _, _, 0, _, .val a _, e => by
    cases e
    exact ⟨_, rfl, a⟩
  | _, _, 0, _, .non _, e => by cases e
  | _, _, i + 1, d, .non r, e => Slots.get (i := i) r e
  | _, _, i + 1, d, .val _ r, e => Slots.get (i := i) r e
theorem Slots.set {K : Kf} {F : Hp} {d : D} {v : V} (a : Rep K F d v) : ∀ {E : En} {σ : St} (i : Nat), Slots K F E σ → Slots K F (E.set i (some d)) (σ.set i (some v))
  | _, _, _, .nil => .nil
  | _, _, 0, .non r => .val a r
  | _, _, 0, .val _ r => .val a r
  | _, _, i + 1, .non r => .non (Slots.set a i r)
  | _, _, i + 1, .val b r => .val b (Slots.set a i r)
/-- forget a slot; what the layer has there may be anything -/
theorem Slots.gone {K : Kf} {F : Hp} {w : Option V} : ∀ {E : En} {σ : St} (i : Nat), Slots K F E σ → Slots K F (E.set i none) (σ.set i w)
  | _, _, _, .nil => .nil
  | _, _, 0, .non r => .non r
  | _, _, 0, .val _ r => .non r
  | _, _, i + 1, .non r => .non (Slots.gone i r)
  | _, _, i + 1, .val b r => .val b (Slots.gone i r)
theorem Slots.gone' {K : Kf} {F : Hp} : ∀ {E : En} {σ : St} (i : Nat), Slots K F E σ → Slots K F (E.set i none) σ
  | _, _, _, .nil => .nil
  | _, _, 0, .non r => .non r
  | _, _, 0, .val _ r => .non r
  | _, _, i + 1, .non r => .non (Slots.gone' i r)
  | _, _, i + 1, .val b r => .val b (Slots.gone' i r)
section
variable {K : Kf} {B F : Hp} {E : En} {h : MH} {σ : St} {H : Hp}
theorem Rel.noB (R : Rel K B F E h σ H) {p : Addr} (q : H p = none) : B p = none := by
  cases e : B p with
  | none => rfl
  | some o => rw [(R.out p o e).1] at q; cases q
theorem Rel.noF (R : Rel K B F E h σ H) {p : Addr} (q : H p = none) : F p = none := by
  cases e : F p with
  | none => rfl
  | some o => rw [(R.frz p o e).1] at q; cases q
theorem Rel.noh (R : Rel K B F E h σ H) {p : Addr} (q : H p = none) : h p = none := by
  cases e : h p with
  | none => rfl
  | some m =>
    obtain ⟨o, z⟩ := (R.cel p m e).some
    rw [z] at q; cases q
theorem Rel.Bh (R : Rel K B F E h σ H) {p : Addr} {m : MO} (q : h p = some m) : B p = none := by
  cases e : B p with
  | none => rfl
  | some o => rw [(R.out p o e).2.2] at q; cases q
theorem Rel.Fh (R : Rel K B F E h σ H) {p : Addr} {m : MO} (q : h p = some m) : F p = none := by
  cases e : F p with
  | none => rfl
  | some o => rw [(R.frz p o e).2] at q; cases q
theorem Rel.rd (R : Rel K B F E h σ H) {a : Addr} {u : HO} (q : Rd F a u) : Rd H a u := by
  rcases q with q | ⟨ob, q⟩
  · exact .inl (R.frz _ _ q).1
  · exact .inr ⟨ob, (R.frz _ _ q).1⟩
theorem Rel.sqT (R : Rel K B F E h σ H) {a : Addr} {xs : List V} (q : SqT K F a xs) : SqT K H a xs := by
  rcases q with q | q
  · exact .inl (R.rd q)
  · exact .inr q
theorem Rel.sqL (R : Rel K B F E h σ H) {a : Addr} {xs : List V} (q : SqL K F a xs) : SqL K H a xs := by
  rcases q with q | q
  · exact .inl (R.rd q)
  · exact .inr q
/-- a new object that nobody changes -/
theorem Rel.newF (R : Rel K B F E h σ H) {p : Addr} {o : HO} (q : H p = none) : Rel K B (upd F p o) E h σ (upd H p o) where
  out := fun a u e => by
    have z := R.out a u e
    have n : a ≠ p := ne_of_none z.1 q
    rw [upd_ne n, upd_ne n]
    exact z
  frz := fun a u e => by
    by_cases n : a = p
    · subst n
      rw [upd_same] at e ⊢
      exact ⟨e, R.noh q⟩
    · rw [upd_ne n] at e ⊢
      exact R.frz a u e
  cel := fun a m e => by
    have n : a ≠ p := fun z => by
      rw [z, R.noh q] at e
      cases e
    exact (R.cel a m e).mono (Le.new (R.noF q)) (upd_ne n)
  slot := R.slot.mono (Le.new (R.noF q))
/-- a new object that is not spoken of -/
theorem Rel.newO (R : Rel K B F E h σ H) {p : Addr} {o : HO} (q : H p = none) : Rel K B F E h σ (upd H p o) where
  out := fun a u e => by
    have z := R.out a u e
    rw [upd_ne (ne_of_none z.1 q)]
    exact z
  frz := fun a u e => by
    have z := R.frz a u e
    rw [upd_ne (ne_of_none z.1 q)]
    exact z
  cel := fun a m e => by
    have n : a ≠ p := fun z => by
      rw [z, R.noh q] at e
      cases e
    exact (R.cel a m e).mono (Le.refl F) (upd_ne n)
  slot := R.slot
/-- what nobody has may become frozen -/
theorem Rel.toF (R : Rel K B F E h σ H) {p : Addr} {o : HO} (q : H p = some o) (b : B p = none) (f : F p = none) (n : h p = none) : Rel K B (upd F p o) E h σ H where
  out := fun a u e => by
    have z := R.out a u e
    have nn : a ≠ p := ne_of_none e b
    rw [upd_ne nn]
    exact z
  frz := fun a u e => by
    by_cases nn : a = p
    · subst nn
      rw [upd_same] at e
      cases e
      exact ⟨q, n⟩
    · rw [upd_ne nn] at e
      exact R.frz a u e
  cel := fun a m e => (R.cel a m e).mono (Le.new f) rfl
  slot := R.slot.mono (Le.new f)
/-- .. or a cell -/
theorem Rel.toC (R : Rel K B F E h σ H) {p : Addr} {m : MO} (c : Cel K F H p m) (b : B p = none) (f : F p = none) : Rel K B F E (put h p m) σ H where
  out := fun a u e => by
    have z := R.out a u e
    have nn : a ≠ p := ne_of_none e b
    refine ⟨z.1, z.2.1, ?_⟩
    show (if a = p then _ else _) = _
    rw [if_neg nn]
    exact z.2.2
  frz := fun a u e => by
    have z := R.frz a u e
    have nn : a ≠ p := ne_of_none e f
    refine ⟨z.1, ?_⟩
    show (if a = p then _ else _) = _
    rw [if_neg nn]
    exact z.2
  cel := fun a m' e => by
    have e : (if a = p then some m else h a) = some m' := e
    by_cases nn : a = p
    · rw [if_pos nn] at e
      cases e
      rw [nn]
      exact c
    · rw [if_neg nn] at e
      exact R.cel a m' e
  slot := R.slot
/-- forget cells -/
theorem Rel.less (R : Rel K B F E h σ H) {h' : MH} (k : ∀ a m, h' a = some m → h a = some m) : Rel K B F E h' σ H where
  out := fun a u e => by
    have z := R.out a u e
    refine ⟨z.1, z.2.1, ?_⟩
    cases q : h' a with
    | none => rfl
    | some m =>
      have := k a m q
      rw [z.2.2] at this
      cases this
  frz := fun a u e => by
    have z := R.frz a u e
    refine ⟨z.1, ?_⟩
    cases q : h' a with
    | none => rfl
    | some m =>
      have := k a m q
      rw [z.2] at this
      cases this
  cel := fun a m e => R.cel a m (k a m e)
  slot := R.slot
theorem del_some {h : MH} {p a : Addr} {m : MO} (e : del h p a = some m) : h a = some m ∧ a ≠ p := by
  have e : (if a = p then none else h a) = some m := e
  by_cases n : a = p
  · rw [if_pos n] at e
    cases e
  · rw [if_neg n] at e
    exact ⟨e, n⟩
theorem del_same {h : MH} {p : Addr} : del h p p = none := if_pos rfl
/-- a cell changes -/
theorem Rel.write (R : Rel K B F E h σ H) {p : Addr} {m m' : MO} {o : HO} (c : h p = some m) (n : Cel K F (upd H p o) p m') : Rel K B F E (put h p m') σ (upd H p o) := by
  have b := R.Bh c
  have f := R.Fh c
  have R1 : Rel K B F E (del h p) σ (upd H p o) := by
    refine ⟨fun a u e => ?_, fun a u e => ?_, fun a m e => ?_, R.slot⟩
    · have z := R.out a u e
      rw [upd_ne (ne_of_none e b)]
      refine ⟨z.1, z.2.1, ?_⟩
      show (if a = p then _ else _) = _
      rw [if_neg (ne_of_none e b)]
      exact z.2.2
    · have z := R.frz a u e
      rw [upd_ne (ne_of_none e f)]
      refine ⟨z.1, ?_⟩
      show (if a = p then _ else _) = _
      rw [if_neg (ne_of_none e f)]
      exact z.2
    · obtain ⟨e, nn⟩ := del_some e
      exact (R.cel a m e).mono (Le.refl F) (upd_ne nn)
  have R2 := R1.toC n b f
  have eq : put (del h p) p m' = put h p m' := by
    funext a
    show (if a = p then _ else (if a = p then _ else _)) = if a = p then _ else _
    by_cases z : a = p
    · rw [if_pos z, if_pos z]
    · rw [if_neg z, if_neg z, if_neg z]
  rw [eq] at R2
  exact R2
theorem Rel.slots (R : Rel K B F E h σ H) {E' : En} {σ' : St} (s : Slots K F E' σ') : Rel K B F E' h σ' H := ⟨R.out, R.frz, R.cel, s⟩
theorem Rel.set (R : Rel K B F E h σ H) {d : D} {v : V} (a : Rep K F d v) (i : Nat) : Rel K B F (E.set i (some d)) h (σ.set i (some v)) H := R.slots (R.slot.set a i)
end

/-! ### the judgements -/
def RvOk (K : Kf) (B F : Hp) (h : MH) (H : Hp) : RV → V → Prop
  | .d x, v => Rep K F x v
  | .ol xs, v => ∃ l vs, v = .ref l ∧ H l = some (.lst vs) ∧ Reps K F xs vs ∧ B l = none ∧ F l = none ∧ h l = none
  | .od kvs, v => ∃ l ws, v = .ref l ∧ H l = some (.dK ws) ∧ RepK K F kvs ws ∧ B l = none ∧ F l = none ∧ h l = none
def XOk (K : Kf) (F : Hp) (x : EX) (c : Value) (dx : Option Addr) : Prop :=
  c = .ref x.c ∧ ((x.fs = [] ∧ dx = none) ∨ ∃ d ws, dx = some d ∧ F d = some (.xd ws) ∧ RepF K F x.fs ws)
/-- what is wanted behind an expression: of its result, of an exception -/
structure Fin (K : Kf) (B F : Hp) (E : En) (σ : St) (W : WX) (Kn : RV → MH → Prop) (Kx : XKm) (Q : VK) : Prop where
  ok : ∀ r h' F' H' v, Le F F' → Rel K B F' E h' σ H' → RvOk K B F' h' H' r v → Kn r h' → Q v H'
  ex : ∀ x h' F' H' c dx, Le F F' → Rel K B F' E h' σ H' → XOk K F' x c dx → Kx x h' → W c dx σ H'
/-- an exception that leaves: the wish about it -/
abbrev XFin (K : Kf) (B F : Hp) (E : En) (σ : St) (W : WX) (Kx : XKm) : Prop := ∀ x h' F' H' c dx, Le F F' → Rel K B F' E h' σ H' → XOk K F' x c dx → Kx x h' → W c dx σ H'
theorem XFin.up {K : Kf} {B F F' : Hp} {E : En} {σ : St} {W : WX} {Kx : XKm} (x : XFin K B F E σ W Kx) (e : Le F F') : XFin K B F' E σ W Kx := fun a h' F2 H' c dx l => x a h' F2 H' c dx (e.trans l)
def LE (K : Kf) (B : Hp) (W : WX) (t : TEm) : TE := fun σ H Q => ∃ F E h Kn Kx, Rel K B F E h σ H ∧ t E h Kn Kx ∧ XFin K B F E σ W Kx ∧
  ∀ r h' F' H' v, Le F F' → Rel K B F' E h' σ H' → RvOk K B F' h' H' r v → Kn r h' → Q v H'
def LV (K : Kf) (B : Hp) (W : WX) (t : TVm) : TE := fun σ H Q => ∃ F E h Kn Kx, Rel K B F E h σ H ∧ t E h Kn Kx ∧ XFin K B F E σ W Kx ∧
  ∀ d h' F' H' v, Le F F' → Rel K B F' E h' σ H' → Rep K F' d v → Kn d h' → Q v H'
def LT (K : Kf) (B : Hp) (W : WX) (t : TTm) : TT := fun σ H Q => ∃ F E h Kn Kx, Rel K B F E h σ H ∧ t E h Kn Kx ∧ XFin K B F E σ W Kx ∧
  ∀ b h' F' H', Le F F' → Rel K B F' E h' σ H' → Kn b h' → Q b H'
def LA (K : Kf) (B : Hp) (W : WX) (t : TAm) : TA := fun σ H Q => ∃ F E h Kn Kx, Rel K B F E h σ H ∧ t E h Kn Kx ∧ XFin K B F E σ W Kx ∧
  ∀ ds h' F' H' vs, Le F F' → Rel K B F' E h' σ H' → Reps K F' ds vs → Kn ds h' → Q vs H'
def LS (K : Kf) (B : Hp) (W : WX) (t : TSm) : TS := fun D σ H => ∃ (F : Hp) (E : En) (h : MH) (N : Nd), Rel K B F E h σ H ∧ t N E h ∧
  (∀ E' h' F' σ' H', Le F F' → Rel K B F' E' h' σ' H' → N.nx E' h' → D.nx σ' H') ∧
  (∀ r h' F' E' σ' H' v, Le F F' → Rel K B F' E' h' σ' H' → RvOk K B F' h' H' r v → N.rt r h' → D.rt v H') ∧
  (∀ E' h' F' σ' H', Le F F' → Rel K B F' E' h' σ' H' → N.bk E' h' → D.bk σ' H') ∧
  (∀ E' h' F' σ' H', Le F F' → Rel K B F' E' h' σ' H' → N.ct E' h' → D.ct σ' H') ∧
  (∀ x h' F' E' σ' H' c dx, Le F F' → Rel K B F' E' h' σ' H' → XOk K F' x c dx → N.xs x h' → W c dx σ' H')
/-- e means t (a result) -/
def ME (X : Cx) (W : WX) (e : Expr) (t : TEm) : Prop := ∀ B : Hp, PE X e (LE X.K B W t)
/-- e means t (data) -/
def MV (X : Cx) (W : WX) (e : Expr) (t : TVm) : Prop := ∀ B : Hp, PE X e (LV X.K B W t)
def MT (X : Cx) (W : WX) (e : Expr) (t : TTm) : Prop := ∀ B : Hp, PT X e (LT X.K B W t)
def MW (X : Cx) (W : WX) (e : Expr) (t : TTm) : Prop := ∀ B : Hp, PW X e (LT X.K B W t)
def MA (X : Cx) (W : WX) (es : List Expr) (t : TAm) : Prop := ∀ B : Hp, PA X es (LA X.K B W t)
def MS (X : Cx) (W : WX) (st : Stmt) (t : TSm) : Prop := ∀ B : Hp, PS X st (LS X.K B W t)
def MB (X : Cx) (W : WX) (st : List Stmt) (t : TSm) : Prop := ∀ B : Hp, PSs X st (LS X.K B W t)
theorem _root_.L2.PE.impM {X : Cx} {e : Expr} {t t' : TE} (p : PE X e t) (h : ∀ σ H Q, t' σ H Q → t σ H Q) : PE X e t' := ⟨fun pins s σ H Q I q => p.run pins s σ H Q I (h σ H Q q)⟩
theorem _root_.L2.PT.impM {X : Cx} {e : Expr} {t t' : TT} (p : PT X e t) (h : ∀ σ H Q, t' σ H Q → t σ H Q) : PT X e t' := ⟨fun pins s σ H Q I q => p.run pins s σ H Q I (h σ H Q q)⟩
theorem _root_.L2.PW.impM {X : Cx} {e : Expr} {t t' : TT} (p : PW X e t) (h : ∀ σ H Q, t' σ H Q → t σ H Q) : PW X e t' := ⟨fun w pins s σ H Q I q => p.run w pins s σ H Q I (h σ H Q q)⟩
theorem _root_.L2.PA.impM {X : Cx} {e : List Expr} {t t' : TA} (p : PA X e t) (h : ∀ σ H Q, t' σ H Q → t σ H Q) : PA X e t' := ⟨fun w pins s σ H Q I q => p.run w pins s σ H Q I (h σ H Q q)⟩
theorem _root_.L2.PS.impM {X : Cx} {e : Stmt} {t t' : TS} (p : PS X e t) (h : ∀ D σ H, t' D σ H → t D σ H) : PS X e t' := ⟨fun pins s σ H D I q => p.run pins s σ H D I (h D σ H q)⟩
theorem _root_.L2.PSs.impM {X : Cx} {e : List Stmt} {t t' : TS} (p : PSs X e t) (h : ∀ D σ H, t' D σ H → t D σ H) : PSs X e t' := ⟨fun pins s σ H D I q => p.run pins s σ H D I (h D σ H q)⟩

section
variable {X : Cx} {W : WX}
/-! ### coercions -/
def frzV (t : TEm) : TVm := fun E h Kn Kx => t E h (fun r h' => Kn r.frz h') Kx
def valE (t : TVm) : TEm := fun E h Kn Kx => t E h (fun x h' => Kn (.d x) h') Kx
theorem RvOk.frz {K : Kf} {B F : Hp} {E : En} {h : MH} {σ : St} {H : Hp} {r : RV} {v : V} (R : Rel K B F E h σ H) (q : RvOk K B F h H r v) : ∃ F', Le F F' ∧ Rel K B F' E h σ H ∧ Rep K F' r.frz v := by
  cases r with
  | d x => exact ⟨F, Le.refl F, R, q⟩
  | ol xs =>
    obtain ⟨l, vs, rfl, e, rs, b, f, n⟩ := q
    exact ⟨_, Le.new f, R.toF e b f n, .lst upd_same (rs.mono (Le.new f))⟩
  | od xs =>
    obtain ⟨l, vs, rfl, e, rs, b, f, n⟩ := q
    exact ⟨_, Le.new f, R.toF e b f n, .dct (.inl upd_same) (rs.mono (Le.new f))⟩
theorem mv {e : Expr} {t : TEm} (p : ME X W e t) : MV X W e (frzV t) := fun B => (p B).impM fun σ H Q ⟨F, E, h, Kn, Kx, R, ht, hx, hn⟩ =>
  ⟨F, E, h, _, Kx, R, ht, hx, fun r h' F' H' v l R' q k => by
    obtain ⟨F2, l2, R2, rp⟩ := q.frz R'
    exact hn _ h' F2 H' v (l.trans l2) R2 rp k⟩
theorem me {e : Expr} {t : TVm} (p : MV X W e t) : ME X W e (valE t) := fun B => (p B).impM fun σ H Q ⟨F, E, h, Kn, Kx, R, ht, hx, hn⟩ =>
  ⟨F, E, h, _, Kx, R, ht, hx, fun r h' F' H' v l R' q k => hn (.d r) h' F' H' v l R' q k⟩

/-! ### names, constants -/
def mVar (i : Nat) : TVm := fun E h Kn _ => match E[i]? with
  | some (some d) => Kn d h
  | _ => False
def mC (d : D) : TVm := fun _ h Kn _ => Kn d h
theorem mv_var {e : Expr} {i : Nat} (p : PE X e (tVar i)) : MV X W e (mVar i) := fun B => p.impM fun σ H Q ⟨F, E, h, Kn, Kx, R, ht, hx, hn⟩ => by
  unfold mVar at ht
  cases q : E[i]? with
  | none => rw [q] at ht; exact ht.elim
  | some o =>
    cases o with
    | none => rw [q] at ht; exact ht.elim
    | some d =>
      rw [q] at ht
      obtain ⟨v, e, rp⟩ := R.slot.get q
      exact ⟨v, e, hn d h F H v (Le.refl F) R rp ht⟩
theorem mv_const {e : Expr} {d : D} {v : V} (p : PE X e (tC v)) (r : ∀ K F, Rep K F d v) : MV X W e (mC d) := fun B => p.impM fun σ H Q ⟨F, E, h, Kn, Kx, R, ht, hx, hn⟩ =>
  hn d h F H v (Le.refl F) R (r _ _) ht
theorem mv_int {i j pos} : MV X W (.Constant (.int i) j pos) (mC (.int i)) := mv_const pe_int fun _ _ => .int _
theorem mv_bl {i j pos} : MV X W (.Constant (.bool i) j pos) (mC (.bl i)) := mv_const pe_bl fun _ _ => .bl _
theorem mv_non {j pos} : MV X W (.Constant .none j pos) (mC .non) := mv_const pe_non fun _ _ => .non
theorem mv_str {i j pos} : MV X W (.Constant (.str i) j pos) (mC (.str i)) := mv_const pe_str fun _ _ => .str _

/-! ### operations by values -/
/-- an operation on two things: what it asks and gives -/
abbrev G2 := D → D → MH → (RV → MH → Prop) → Prop
abbrev G1 := D → MH → (RV → MH → Prop) → Prop
abbrev GA := List D → MH → (RV → MH → Prop) → Prop
def Has2 (K : Kf) (r : R2) (g : G2) : Prop := ∀ B F E h σ H x y vx vy (Q : VK) Kn, Rel K B F E h σ H → Rep K F x vx → Rep K F y vy → g x y h Kn →
  (∀ r h' F' H' v, Le F F' → Rel K B F' E h' σ H' → RvOk K B F' h' H' r v → Kn r h' → Q v H') → r vx vy H Q
def Has1 (K : Kf) (r : V → Hp → VK → Prop) (g : G1) : Prop := ∀ B F E h σ H x vx (Q : VK) Kn, Rel K B F E h σ H → Rep K F x vx → g x h Kn →
  (∀ r h' F' H' v, Le F F' → Rel K B F' E h' σ H' → RvOk K B F' h' H' r v → Kn r h' → Q v H') → r vx H Q
def HasA (K : Kf) (r : List V → Hp → VK → Prop) (g : GA) : Prop := ∀ B F E h σ H xs vs (Q : VK) Kn, Rel K B F E h σ H → Reps K F xs vs → g xs h Kn →
  (∀ r h' F' H' v, Le F F' → Rel K B F' E h' σ H' → RvOk K B F' h' H' r v → Kn r h' → Q v H') → r vs H Q
def mOp (g : G2) (ta tb : TVm) : TEm := fun E h Kn Kx => ta E h (fun x h1 => tb E h1 (fun y h2 => g x y h2 Kn) Kx) Kx
def mUn (g : G1) (ta : TVm) : TEm := fun E h Kn Kx => ta E h (fun x h1 => g x h1 Kn) Kx
def mCall (g : GA) (ta : TAm) : TEm := fun E h Kn Kx => ta E h (fun xs h1 => g xs h1 Kn) Kx
theorem two {K : Kf} {B : Hp} {r : R2} {g : G2} (o : Has2 K r g) {ta tb : TVm} {σ : St} {H : Hp} {Q : VK} (q : LE K B W (mOp g ta tb) σ H Q) : tOp r (LV K B W ta) (LV K B W tb) σ H Q := by
  obtain ⟨F, E, h, Kn, Kx, R, ht, hx, hn⟩ := q
  refine ⟨F, E, h, _, Kx, R, ht, hx, fun x h1 F1 H1 v l1 R1 r1 k1 => ?_⟩
  refine ⟨F1, E, h1, _, Kx, R1, k1, hx.up l1, fun y h2 F2 H2 u l2 R2 r2 k2 => ?_⟩
  exact o B F2 E h2 σ H2 x y v u Q Kn R2 (r1.mono l2) r2 k2 fun r h' F' H' w l3 => hn r h' F' H' w ((l1.trans l2).trans l3)
theorem one {K : Kf} {B : Hp} {r : V → Hp → VK → Prop} {g : G1} (o : Has1 K r g) {ta : TVm} {σ : St} {H : Hp} {Q : VK} (q : LE K B W (mUn g ta) σ H Q) : tUn r (LV K B W ta) σ H Q := by
  obtain ⟨F, E, h, Kn, Kx, R, ht, hx, hn⟩ := q
  refine ⟨F, E, h, _, Kx, R, ht, hx, fun x h1 F1 H1 v l1 R1 r1 k1 => ?_⟩
  exact o B F1 E h1 σ H1 x v Q Kn R1 r1 k1 fun r h' F' H' w l3 => hn r h' F' H' w (l1.trans l3)
theorem many {K : Kf} {B : Hp} {r : List V → Hp → VK → Prop} {g : GA} (o : HasA K r g) {ta : TAm} {σ : St} {H : Hp} {Q : VK} (q : LE K B W (mCall g ta) σ H Q) : tCB r (LA K B W ta) σ H Q := by
  obtain ⟨F, E, h, Kn, Kx, R, ht, hx, hn⟩ := q
  refine ⟨F, E, h, _, Kx, R, ht, hx, fun x h1 F1 H1 v l1 R1 r1 k1 => ?_⟩
  exact o B F1 E h1 σ H1 x v Q Kn R1 r1 k1 fun r h' F' H' w l3 => hn r h' F' H' w (l1.trans l3)
/-! ### argument lists -/
def mNil : TAm := fun _ h Kn _ => Kn [] h
def mCons (ta : TVm) (tr : TAm) : TAm := fun E h Kn Kx => ta E h (fun x h1 => tr E h1 (fun xs h2 => Kn (x :: xs) h2) Kx) Kx
theorem ma_nil : MA X W [] mNil := fun B => pa_nil.impM fun σ H Q ⟨F, E, h, Kn, Kx, R, ht, hx, hn⟩ => hn [] h F H [] (Le.refl F) R .nil ht
theorem ma_cons {e : Expr} {es : List Expr} {ta : TVm} {tr : TAm} (a : MV X W e ta) (r : MA X W es tr) (hs : starEach (e :: es) X.env = (false, eval e X.env) :: starEach es X.env := by rfl) : MA X W (e :: es) (mCons ta tr) := fun B =>
  (pa_cons (a B) (r B) hs).impM fun σ H Q ⟨F, E, h, Kn, Kx, R, ht, hx, hn⟩ => by
    refine ⟨F, E, h, _, Kx, R, ht, hx, fun x h1 F1 H1 v l1 R1 r1 k1 => ?_⟩
    refine ⟨F1, E, h1, _, Kx, R1, k1, hx.up l1, fun y h2 F2 H2 u l2 R2 r2 k2 => ?_⟩
    exact hn (x :: y) h2 F2 H2 (v :: u) (l1.trans l2) R2 (.cons (r1.mono l2) r2) k2
def mTup (t : TAm) : TVm := fun E h Kn Kx => t E h (fun xs h' => xs.length ≤ sizeLine ∧ Kn (.tup xs) h') Kx
def mLst (t : TAm) : TEm := fun E h Kn Kx => t E h (fun xs h' => xs.length ≤ sizeLine ∧ Kn (.ol xs) h') Kx
theorem mv_tup {es : List Expr} {x1 pos} {t : TAm} (a : MA X W es t) : MV X W (.Tuple es x1 pos) (mTup t) := fun B => (pe_tup (a B)).impM fun σ H Q ⟨F, E, h, Kn, Kx, R, ht, hx, hn⟩ => by
  refine ⟨F, E, h, _, Kx, R, ht, hx, fun ds h1 F1 H1 vs l1 R1 r1 k1 => ⟨by rw [← r1.len]; exact k1.1, fun p hp => ?_⟩⟩
  have l2 : Le F1 (upd F1 p (.tup vs)) := Le.new (R1.noF hp)
  exact hn _ h1 _ _ _ (l1.trans l2) (R1.newF hp) (.tup (.inl (.inl upd_same)) (r1.mono l2)) k1.2
theorem me_lst {es : List Expr} {pos} {t : TAm} (a : MA X W es t) : ME X W (.List es pos) (mLst t) := fun B => (pe_lst (a B)).impM fun σ H Q ⟨F, E, h, Kn, Kx, R, ht, hx, hn⟩ => by
  refine ⟨F, E, h, _, Kx, R, ht, hx, fun ds h1 F1 H1 vs l1 R1 r1 k1 => ⟨by rw [← r1.len]; exact k1.1, fun p hp => ?_⟩⟩
  exact hn (.ol ds) h1 _ _ _ l1 (R1.newO hp) ⟨p, vs, rfl, upd_same, r1, R1.noB hp, R1.noF hp, R1.noh hp⟩ k1.2
end
end M3
set_option Elab.async false
set_option linter.all false
set_option maxRecDepth 100000
set_option maxHeartbeats 4000000
namespace M3
open PySem L2
section
variable {X : Cx} {W : WX}
/-! ### tests -/
def onBl (d : D) (p : Bool → Prop) : Prop := match d with
  | .bl b => p b
  | _ => False
def mTst (t : TVm) : TTm := fun E h Kn Kx => t E h (fun d h' => onBl d fun b => Kn b h') Kx
theorem bl_of {K : Kf} {F : Hp} {d : D} {v : V} {p : Bool → Prop} (r : Rep K F d v) (q : onBl d p) : ∃ b, v = .bl b ∧ d = .bl b ∧ p b := by
  cases r with
  | bl b => exact ⟨b, rfl, rfl, q⟩
  | _ => exact q.elim
/-- a truth value as a test -/
theorem mt_val {e : Expr} {t : TVm} (p : ∀ B, PT X e (tB (LV X.K B W t))) : MT X W e (mTst t) := fun B => (p B).impM fun σ H Q ⟨F, E, h, Kn, Kx, R, ht, hx, hn⟩ =>
  ⟨F, E, h, _, Kx, R, ht, hx, fun d h' F' H' v l R' q k => by
    obtain ⟨b, rfl, rfl, k⟩ := bl_of (p := fun b => Kn b h') q k
    exact ⟨b, rfl, hn b h' F' H' l R' k⟩⟩
/-- any expression that gives True or False -/
theorem mt_of {e : Expr} {t : TVm} (p : MV X W e t) (hb : ∀ te, PE X e te → PT X e (tB te) := by exact fun _ h => pt_val h) : MT X W e (mTst t) := mt_val fun B => hb _ (p B)
def mNotT (t : TTm) : TTm := fun E h Kn Kx => t E h (fun b h' => Kn (!b) h') Kx
theorem mt_not {e : Expr} {pos} {t : TTm} (p : MT X W e t) : MT X W (.UnaryOp .Not e pos) (mNotT t) := fun B => (pt_not (p B)).impM fun σ H Q ⟨F, E, h, Kn, Kx, R, ht, hx, hn⟩ =>
  ⟨F, E, h, _, Kx, R, ht, hx, fun b h' F' H' l R' k => hn (!b) h' F' H' l R' k⟩
def mAndT (t u : TTm) : TTm := fun E h Kn Kx => t E h (fun b h' => if b = true then u E h' Kn Kx else Kn false h') Kx
def mOrT (t u : TTm) : TTm := fun E h Kn Kx => t E h (fun b h' => if b = true then Kn true h' else u E h' Kn Kx) Kx
theorem andT_ok {K : Kf} {B : Hp} {t u : TTm} {σ : L2.St} {H : Hp} {Q : Bool → Hp → Prop} (q : LT K B W (mAndT t u) σ H Q) : tAnd (LT K B W t) (LT K B W u) σ H Q := by
  obtain ⟨F, E, h, Kn, Kx, R, ht, hx, hn⟩ := q
  refine ⟨F, E, h, _, Kx, R, ht, hx, fun b h' F' H' l R' k => ?_⟩
  cases b with
  | true => exact ⟨F', E, h', Kn, Kx, R', k, hx.up l, fun b h2 F2 H2 l2 => hn b h2 F2 H2 (l.trans l2)⟩
  | false => exact hn false h' F' H' l R' k
theorem orT_ok {K : Kf} {B : Hp} {t u : TTm} {σ : L2.St} {H : Hp} {Q : Bool → Hp → Prop} (q : LT K B W (mOrT t u) σ H Q) : tOr (LT K B W t) (LT K B W u) σ H Q := by
  obtain ⟨F, E, h, Kn, Kx, R, ht, hx, hn⟩ := q
  refine ⟨F, E, h, _, Kx, R, ht, hx, fun b h' F' H' l R' k => ?_⟩
  cases b with
  | true => exact hn true h' F' H' l R' k
  | false => exact ⟨F', E, h', Kn, Kx, R', k, hx.up l, fun b h2 F2 H2 l2 => hn b h2 F2 H2 (l.trans l2)⟩
/-! ### truth values -/
def mNotV (t : TTm) : TVm := fun E h Kn Kx => t E h (fun b h' => Kn (.bl (!b)) h') Kx
def mTV (t : TTm) : TVm := fun E h Kn Kx => t E h (fun b h' => Kn (.bl b) h') Kx
def LB (K : Kf) (B : Hp) (W : WX) (t : TTm) : TE := fun σ H Q => LT K B W t σ H fun b H' => Q (.bl b) H'
theorem lv_bl {K : Kf} {B : Hp} {t : TTm} {σ : L2.St} {H : Hp} {Q : VK} (q : LV K B W (mTV t) σ H Q) : LB K B W t σ H Q := by
  obtain ⟨F, E, h, Kn, Kx, R, ht, hx, hn⟩ := q
  exact ⟨F, E, h, _, Kx, R, ht, hx, fun b h' F' H' l R' k => hn (.bl b) h' F' H' (.bl b) l R' (.bl b) k⟩
theorem bl_lv {K : Kf} {B : Hp} {t : TVm} {σ : L2.St} {H : Hp} {Q : VK} (q : LB K B W (mTst t) σ H Q) : tB (LV K B W t) σ H fun b H' => Q (.bl b) H' := by
  obtain ⟨F, E, h, Kn, Kx, R, ht, hx, hn⟩ := q
  refine ⟨F, E, h, _, Kx, R, ht, hx, fun d h' F' H' v l R' r k => ?_⟩
  obtain ⟨b, rfl, rfl, k⟩ := bl_of (p := fun b => Kn b h') r k
  exact ⟨b, rfl, hn b h' F' H' l R' k⟩
theorem mv_notV {e : Expr} {pos} {t : TVm} (p : MV X W e t) : MV X W (.UnaryOp .Not e pos) (mNotV (mTst t)) := fun B => (pe_not (p B)).impM fun σ H Q ⟨F, E, h, Kn, Kx, R, ht, hx, hn⟩ => by
  refine ⟨F, E, h, _, Kx, R, ht, hx, fun d h' F' H' v l R' r k => ?_⟩
  obtain ⟨b, rfl, rfl, k⟩ := bl_of (p := fun b => Kn (.bl (!b)) h') r k
  exact ⟨b, rfl, hn (.bl (!b)) h' F' H' (.bl (!b)) l R' (.bl _) k⟩
def mAndV (ta tb : TVm) : TVm := fun E h Kn Kx => ta E h (fun d h' => onBl d fun b => if b = true then tb E h' Kn Kx else Kn (.bl false) h') Kx
def mOrV (ta tb : TVm) : TVm := fun E h Kn Kx => ta E h (fun d h' => onBl d fun b => if b = true then Kn (.bl true) h' else tb E h' Kn Kx) Kx
theorem andV_ok {K : Kf} {B : Hp} {ta tb : TVm} {σ : L2.St} {H : Hp} {Q : VK} (q : LV K B W (mAndV ta tb) σ H Q) : tAndV (LV K B W ta) (LV K B W tb) σ H Q := by
  obtain ⟨F, E, h, Kn, Kx, R, ht, hx, hn⟩ := q
  refine ⟨F, E, h, _, Kx, R, ht, hx, fun d h' F' H' v l R' r k => ?_⟩
  obtain ⟨b, rfl, rfl, k⟩ := bl_of (p := fun b => if b = true then tb E h' Kn Kx else Kn (.bl false) h') r k
  refine ⟨b, rfl, ?_⟩
  cases b with
  | true => exact ⟨F', E, h', Kn, Kx, R', k, hx.up l, fun b h2 F2 H2 v l2 => hn b h2 F2 H2 v (l.trans l2)⟩
  | false => exact hn (.bl false) h' F' H' (.bl false) l R' (.bl _) k
theorem orV_ok {K : Kf} {B : Hp} {ta tb : TVm} {σ : L2.St} {H : Hp} {Q : VK} (q : LV K B W (mOrV ta tb) σ H Q) : tOrV (LV K B W ta) (LV K B W tb) σ H Q := by
  obtain ⟨F, E, h, Kn, Kx, R, ht, hx, hn⟩ := q
  refine ⟨F, E, h, _, Kx, R, ht, hx, fun d h' F' H' v l R' r k => ?_⟩
  obtain ⟨b, rfl, rfl, k⟩ := bl_of (p := fun b => if b = true then Kn (.bl true) h' else tb E h' Kn Kx) r k
  refine ⟨b, rfl, ?_⟩
  cases b with
  | true => exact hn (.bl true) h' F' H' (.bl true) l R' (.bl _) k
  | false => exact ⟨F', E, h', Kn, Kx, R', k, hx.up l, fun b h2 F2 H2 v l2 => hn b h2 F2 H2 v (l.trans l2)⟩
def mIte (t : TTm) (ta tb : TEm) : TEm := fun E h Kn Kx => t E h (fun b h' => if b = true then ta E h' Kn Kx else tb E h' Kn Kx) Kx
theorem me_ite {c a b : Expr} {pos} {t : TTm} {ta tb : TEm} (hc : MT X W c t) (ha : ME X W a ta) (hb : ME X W b tb) : ME X W (.IfExp c a b pos) (mIte t ta tb) := fun B => (pe_ifExp (hc B) (ha B) (hb B)).impM fun σ H Q ⟨F, E, h, Kn, Kx, R, ht, hx, hn⟩ => by
  refine ⟨F, E, h, _, Kx, R, ht, hx, fun b h' F' H' l R' k => ?_⟩
  cases b with
  | true => exact ⟨F', E, h', Kn, Kx, R', k, hx.up l, fun b h2 F2 H2 v l2 => hn b h2 F2 H2 v (l.trans l2)⟩
  | false => exact ⟨F', E, h', Kn, Kx, R', k, hx.up l, fun b h2 F2 H2 v l2 => hn b h2 F2 H2 v (l.trans l2)⟩
end

/-! ### a cell of a fresh thing; a cell given away -/
section
variable {X : Cx} {W : WX}
def mCell (t : TEm) : TEm := fun E h Kn Kx => t E h (fun r h' => match r with
  | .d x => Kn (.d x) h'
  | .ol xs => ∀ p, h' p = none → Kn (.d (.ref p)) (put h' p (.lst xs))
  | .od kvs => ∀ p, h' p = none → Kn (.d (.ref p)) (put h' p (.dct kvs))) Kx
theorem me_cell {e : Expr} {t : TEm} (p : ME X W e t) : ME X W e (mCell t) := fun B => (p B).impM fun σ H Q ⟨F, E, h, Kn, Kx, R, ht, hx, hn⟩ =>
  ⟨F, E, h, _, Kx, R, ht, hx, fun r h' F' H' v l R' q k => by
    cases r with
    | d x => exact hn (.d x) h' F' H' v l R' q k
    | ol xs =>
      obtain ⟨a, vs, rfl, e, rs, b, f, n⟩ := q
      exact hn (.d (.ref a)) _ F' H' _ l (R'.toC (m := .lst xs) ⟨vs, e, rs⟩ b f) (.ref a) (k a n)
    | od xs =>
      obtain ⟨a, vs, rfl, e, rs, b, f, n⟩ := q
      exact hn (.d (.ref a)) _ F' H' _ l (R'.toC (m := .dct xs) ⟨vs, e, rs⟩ b f) (.ref a) (k a n)⟩
def mRel (t : TVm) : TEm := fun E h Kn Kx => t E h (fun d h' => match d with
  | .ref p => (match h' p with
    | some (.lst xs) => Kn (.ol xs) (del h' p)
    | some (.dct kvs) => Kn (.od kvs) (del h' p)
    | _ => False)
  | _ => False) Kx
theorem me_rel {e : Expr} {t : TVm} (p : MV X W e t) : ME X W e (mRel t) := fun B => (p B).impM fun σ H Q ⟨F, E, h, Kn, Kx, R, ht, hx, hn⟩ =>
  ⟨F, E, h, _, Kx, R, ht, hx, fun r h' F' H' v l R' q k => by
    cases q with
    | ref a =>
      have k : (match h' a with
        | some (.lst xs) => Kn (.ol xs) (del h' a)
        | some (.dct kvs) => Kn (.od kvs) (del h' a)
        | _ => False) := k
      have R2 : Rel X.K B F' E (del h' a) σ H' := R'.less fun b m z => (del_some z).1
      cases e : h' a with
      | none => rw [e] at k; exact k.elim
      | some m =>
        rw [e] at k
        cases m with
        | lst xs =>
          obtain ⟨vs, e2, rs⟩ := R'.cel a _ e
          exact hn (.ol xs) _ F' H' _ l R2 ⟨a, vs, rfl, e2, rs, R'.Bh e, R'.Fh e, del_same⟩ k
        | dct xs =>
          obtain ⟨vs, e2, rs⟩ := R'.cel a _ e
          exact hn (.od xs) _ F' H' _ l R2 ⟨a, vs, rfl, e2, rs, R'.Bh e, R'.Fh e, del_same⟩ k
        | ins C fs => exact k.elim
    | _ => exact k.elim⟩
end

/-! ### statements -/
section
variable {X : Cx} {W : WX}
def sSkip : TSm := fun N E h => N.nx E h
def sSeq (t u : TSm) : TSm := fun N E h => t { N with nx := u N } E h
theorem mb_nil : MB X W [] sSkip := fun B => pss_nil.impM fun D σ H ⟨F, E, h, N, R, ht, h1, _⟩ => h1 E h F σ H (Le.refl F) R ht
theorem LS.up {K : Kf} {B F F' : Hp} {E : En} {h : MH} {N : Nd} {D : Ends} {σ : L2.St} {H : Hp} {t : TSm} (l : Le F F') (R : Rel K B F' E h σ H) (ht : t N E h)
    (c : (∀ E' h' F' σ' H', Le F F' → Rel K B F' E' h' σ' H' → N.nx E' h' → D.nx σ' H') ∧
  (∀ r h' F' E' σ' H' v, Le F F' → Rel K B F' E' h' σ' H' → RvOk K B F' h' H' r v → N.rt r h' → D.rt v H') ∧
  (∀ E' h' F' σ' H', Le F F' → Rel K B F' E' h' σ' H' → N.bk E' h' → D.bk σ' H') ∧
  (∀ E' h' F' σ' H', Le F F' → Rel K B F' E' h' σ' H' → N.ct E' h' → D.ct σ' H') ∧
  (∀ x h' F' E' σ' H' c dx, Le F F' → Rel K B F' E' h' σ' H' → XOk K F' x c dx → N.xs x h' → W c dx σ' H')) : LS K B W t D σ H :=
  ⟨F', E, h, N, R, ht, fun E' h' F2 σ' H' l2 => c.1 E' h' F2 σ' H' (l.trans l2), fun r h' F2 E' σ' H' v l2 => c.2.1 r h' F2 E' σ' H' v (l.trans l2),
    fun E' h' F2 σ' H' l2 => c.2.2.1 E' h' F2 σ' H' (l.trans l2), fun E' h' F2 σ' H' l2 => c.2.2.2.1 E' h' F2 σ' H' (l.trans l2), fun x h' F2 E' σ' H' a dx l2 => c.2.2.2.2 x h' F2 E' σ' H' a dx (l.trans l2)⟩
theorem mb_cons {st : Stmt} {rest : List Stmt} {t u : TSm} (a : MS X W st t) (b : MB X W rest u) : MB X W (st :: rest) (sSeq t u) := fun B => (pss_cons (a B) (b B)).impM fun D σ H ⟨F, E, h, N, R, ht, c⟩ =>
  ⟨F, E, h, { N with nx := u N }, R, ht, fun E' h' F' σ' H' l R' k => LS.up l R' k c, c.2⟩
theorem mb_one {st : Stmt} {t : TSm} (a : MS X W st t) : MB X W [st] t := fun B => pss_one (a B)
theorem ms_pass {pos} : MS X W (.Pass pos) sSkip := fun B => ps_pass.impM fun D σ H ⟨F, E, h, N, R, ht, h1, _⟩ => h1 E h F σ H (Le.refl F) R ht
def sBrk : TSm := fun N E h => N.bk E h
def sCnt : TSm := fun N E h => N.ct E h
theorem ms_break {pos} : MS X W (.Break pos) sBrk := fun B => ps_break.impM fun D σ H ⟨F, E, h, N, R, ht, _, _, h1, _⟩ => h1 E h F σ H (Le.refl F) R ht
theorem ms_continue {pos} : MS X W (.Continue pos) sCnt := fun B => ps_continue.impM fun D σ H ⟨F, E, h, N, R, ht, _, _, _, h1, _⟩ => h1 E h F σ H (Le.refl F) R ht
def sNever : TSm := fun _ _ _ => False
theorem ms_never {st : Stmt} : MS X W st sNever := fun B => ps_never.impM fun D σ H ⟨F, E, h, N, R, ht, _⟩ => ht
theorem mb_never {st : List Stmt} : MB X W st sNever := fun B => pss_never.impM fun D σ H ⟨F, E, h, N, R, ht, _⟩ => ht
theorem ms_doc {x j pos pos'} : MS X W (.Expr (.Constant (.str x) j pos) pos') sSkip := fun B => ps_doc.impM fun D σ H ⟨F, E, h, N, R, ht, h1, _⟩ => h1 E h F σ H (Le.refl F) R ht
def sDrop (t : TEm) : TSm := fun N E h => t E h (fun _ h' => N.nx E h') N.xs
theorem ms_expr {e : Expr} {pos : Pos} {t : TEm} (a : ME X W e t) (hs : swapsWith e none pos.line X.env = pure false := by rfl) : MS X W (.Expr e pos) (sDrop t) := fun B => (ps_expr (a B) hs).impM fun D σ H ⟨F, E, h, N, R, ht, c⟩ =>
  ⟨F, E, h, _, N.xs, R, ht, fun x h' F' H' a dx l R' q k => c.2.2.2.2 x h' F' E σ H' a dx l R' q k, fun r h' F' H' v l R' q k => c.1 E h' F' σ H' l R' k⟩
def sRet (t : TEm) : TSm := fun N E h => t E h N.rt N.xs
theorem ms_ret {e : Expr} {pos : Pos} {t : TEm} (a : ME X W e t) : MS X W (.Return (some e) pos) (sRet t) := fun B => (ps_ret (a B)).impM fun D σ H ⟨F, E, h, N, R, ht, c⟩ =>
  ⟨F, E, h, _, N.xs, R, ht, fun x h' F' H' a dx l R' q k => c.2.2.2.2 x h' F' E σ H' a dx l R' q k, fun r h' F' H' v l R' q k => c.2.1 r h' F' E σ H' v l R' q k⟩
def sRetN : TSm := fun N E h => N.rt (.d .non) h
theorem ms_retN {pos : Pos} : MS X W (.Return none pos) sRetN := fun B => ps_retN.impM fun D σ H ⟨F, E, h, N, R, ht, c⟩ => c.2.1 (.d .non) h F E σ H .non (Le.refl F) R .non ht
def sIf (c : TTm) (t u : TSm) : TSm := fun N E h => c E h (fun b h' => if b = true then t N E h' else u N E h') N.xs
theorem ms_if {c : Expr} {a b : List Stmt} {pos : Pos} {tc : TTm} {t u : TSm} (hc : MT X W c tc) (ha : MB X W a t) (hb : MB X W b u) : MS X W (.If c a b pos) (sIf tc t u) := fun B => (ps_if (hc B) (ha B) (hb B)).impM fun D σ H ⟨F, E, h, N, R, ht, c⟩ => by
  refine ⟨F, E, h, _, N.xs, R, ht, fun x h' F' H' a dx l R' q k => c.2.2.2.2 x h' F' E σ H' a dx l R' q k, fun b h' F' H' l R' k => ?_⟩
  cases b with
  | true => exact LS.up l R' k c
  | false => exact LS.up l R' k c

/-! ### targets -/
abbrev TGm := D → En → MH → (En → MH → Prop) → Prop
abbrev TGsm := List D → En → MH → (En → MH → Prop) → Prop
def LG (K : Kf) (B : Hp) (ws : List Nat) (g : TGm) : TG := fun v σ H Q => ∃ F E h d Kn, Rel K B F E h σ H ∧ Rep K F d v ∧ g d E h Kn ∧
  ∀ E' h' F' σ' H', wipe σ' ws = wipe σ ws → Le F F' → Rel K B F' E' h' σ' H' → Kn E' h' → Q σ' H'
def LGs (K : Kf) (B : Hp) (ws : List Nat) (g : TGsm) : TGs := fun vs σ H Q => ∃ F E h ds Kn, Rel K B F E h σ H ∧ Reps K F ds vs ∧ g ds E h Kn ∧
  ∀ E' h' F' σ' H', wipe σ' ws = wipe σ ws → Le F F' → Rel K B F' E' h' σ' H' → Kn E' h' → Q σ' H'
def MG (X : Cx) (tg : Expr) (ws : List Nat) (g : TGm) : Prop := ∀ B, PG X tg (LG X.K B ws g)
def MGs (X : Cx) (tgs : List Expr) (ws : List Nat) (g : TGsm) : Prop := ∀ B, PGs X tgs (LGs X.K B ws g)
theorem _root_.L2.PG.impM {X : Cx} {e : Expr} {t t' : TG} (p : PG X e t) (h : ∀ v σ H Q, t' v σ H Q → t v σ H Q) : PG X e t' := ⟨fun pins s σ H v u Q I r q => p.run pins s σ H v u Q I r (h v σ H Q q)⟩
theorem _root_.L2.PGs.impM {X : Cx} {e : List Expr} {t t' : TGs} (p : PGs X e t) (h : ∀ v σ H Q, t' v σ H Q → t v σ H Q) : PGs X e t' := ⟨fun pins s σ H v u Q I r q => p.run pins s σ H v u Q I r (h v σ H Q q)⟩
def gN (i : Nat) : TGm := fun d E h k => k (E.set i (some d)) h
theorem wipe_set {σ : L2.St} {v : Option V} {i : Nat} : ∀ {ws : List Nat}, i ∈ ws → wipe (σ.set i v) ws = wipe σ ws
  | [], hm => absurd hm (by simp)
  | w :: ws, hm => by
    show (wipe (σ.set i v) ws).set w none = (wipe σ ws).set w none
    by_cases e : i ∈ ws
    · rw [wipe_set e]
    · have ei : i = w := by
        rcases List.mem_cons.mp hm with h | h
        · exact h
        · exact absurd h e
      subst ei
      have out : ∀ ws : List Nat, i ∉ ws → wipe (σ.set i v) ws = (wipe σ ws).set i v := by
        intro ws
        induction ws with
        | nil => intro _; rfl
        | cons a as ih =>
          intro hn
          have hn2 : i ∉ as := fun z => hn (List.mem_cons_of_mem _ z)
          have ha : i ≠ a := fun z => hn (z ▸ List.mem_cons_self)
          show (wipe (σ.set i v) as).set a none = ((wipe σ as).set a none).set i v
          rw [ih hn2, List.set_comm _ _ ha]
      rw [out ws e, List.set_set]
theorem mg_name {i : Nat} {x : Str} {pos : Pos} {ws : List Nat} (p : PG X (.Name x pos) (gName i)) (hw : i ∈ ws := by simp) : MG X (.Name x pos) ws (gN i) := fun B => p.impM fun v σ H Q ⟨F, E, h, d, Kn, R, r, hg, k⟩ =>
  k (E.set i (some d)) h F (σ.set i (some v)) H (wipe_set hw) (Le.refl F) (R.set r i) hg
def gsNil : TGsm := fun ds E h k => ds = [] ∧ k E h
def gsCons (g : TGm) (gs : TGsm) : TGsm := fun ds E h k => match ds with
  | d :: r => g d E h fun E' h' => gs r E' h' k
  | [] => False
theorem mgs_nil {ws : List Nat} : MGs X [] ws gsNil := fun B => pgs_nil.impM fun vs σ H Q ⟨F, E, h, ds, Kn, R, r, hg, k⟩ => by
  obtain ⟨rfl, hg⟩ := hg
  cases r
  exact ⟨rfl, k E h F σ H rfl (Le.refl F) R hg⟩
theorem mgs_cons {e : Expr} {es : List Expr} {ws : List Nat} {g : TGm} {gs : TGsm} (a : MG X e ws g) (b : MGs X es ws gs) (hs : (assignEach (e :: es) X.env).map (·.2) = assign e X.env :: (assignEach es X.env).map (·.2) := by rfl) : MGs X (e :: es) ws (gsCons g gs) := fun B =>
  (pgs_cons (a B) (b B) hs).impM fun vs σ H Q ⟨F, E, h, ds, Kn, R, r, hg, k⟩ => by
    cases r with
    | nil => exact hg.elim
    | cons rd rr =>
      refine ⟨_, _, rfl, F, E, h, _, _, R, rd, hg, fun E1 h1 F1 σ1 H1 w1 l1 R1 k1 => ?_⟩
      exact ⟨F1, E1, h1, _, _, R1, rr.mono l1, k1, fun E2 h2 F2 σ2 H2 w2 l2 R2 k2 => k E2 h2 F2 σ2 H2 (w2.trans w1) (l1.trans l2) R2 k2⟩
def gT (n : Nat) (gs : TGsm) : TGm := fun d E h k => match d with
  | .tup xs => xs.length = n ∧ gs xs E h k
  | _ => False
theorem mg_tup {es : List Expr} {j : Nat} {pos : Pos} {ws : List Nat} {gs : TGsm} {n : Nat} (hc : X.calm = true) (b : MGs X es ws gs) (hn : (assignEach es X.env).length = n := by rfl) (hst : (assignEach es X.env).findIdx? (·.1) = none := by rfl) :
    MG X (.Tuple es j pos) ws (gT n gs) := fun B => (pg_tup hc (b B) hn hst).impM fun v σ H Q ⟨F, E, h, d, Kn, R, r, hg, k⟩ => by
  cases r with
  | tup q rs =>
    obtain ⟨hl, hg⟩ := hg
    exact ⟨_, _, rfl, R.sqT q, by rw [← rs.len]; exact hl, F, E, h, _, Kn, R, rs, hg, k⟩
  | _ => exact hg.elim
def sAsg (t : TVm) (g : TGm) : TSm := fun N E h => t E h (fun d h' => g d E h' N.nx) N.xs
theorem asg_ok {K : Kf} {B : Hp} {t : TVm} {g : TGm} {ws : List Nat} {D : Ends} {σ : L2.St} {H : Hp} (q : LS K B W (sAsg t g) D σ H) : tAsg (LV K B W t) (LG K B ws g) D σ H := by
  obtain ⟨F, E, h, N, R, ht, c⟩ := q
  refine ⟨F, E, h, _, N.xs, R, ht, fun x h' F' H' a dx l R' q k => c.2.2.2.2 x h' F' E σ H' a dx l R' q k, fun d h' F' H' v l R' r k => ?_⟩
  exact ⟨F', E, h', d, _, R', r, k, fun E2 h2 F2 σ2 H2 w l2 R2 k2 => c.1 E2 h2 F2 σ2 H2 (l.trans l2) R2 k2⟩
theorem ms_asg {tg e : Expr} {ws : List Nat} {pos : Pos} {t : TVm} {g : TGm} (he : MV X W e t) (hg : MG X tg ws g) (hs : swapsWithSole [tg] e pos.line X.env = pure false := by rfl) (hw : swappedStores [tg] e X.env = pure none := by rfl)
    (h1 : (assignEach [tg] X.env).map (·.2) = [assign tg X.env] := by rfl) : MS X W (.Assign [tg] e pos) (sAsg t g) := fun B => (ps_asg (he B) (hg B) hs hw h1).impM fun _ _ _ q => asg_ok q
def sSet (i : Nat) (t : TVm) : TSm := fun N E h => t E h (fun d h' => N.nx (E.set i (some d)) h') N.xs
theorem set_ok {K : Kf} {B : Hp} {t : TVm} {i : Nat} {D : Ends} {σ : L2.St} {H : Hp} (q : LS K B W (sSet i t) D σ H) : tAsg (LV K B W t) (gName i) D σ H := by
  obtain ⟨F, E, h, N, R, ht, c⟩ := q
  refine ⟨F, E, h, _, N.xs, R, ht, fun x h' F' H' a dx l R' q k => c.2.2.2.2 x h' F' E σ H' a dx l R' q k, fun d h' F' H' v l R' r k => ?_⟩
  exact c.1 _ h' F' _ H' l (R'.set r i) k
theorem ms_set {i : Nat} {x : Str} {e : Expr} {pos pos' : Pos} {t : TVm} (hN : X.N.Nodup) (hi : X.N[i]? = some x) (hx : Loc X.env.scope x) (he : MV X W e t) (hs : swapsWith e (some (.Name x pos')) pos.line X.env = pure false := by rfl) (hf : X.fn x = true ∨ X.env.scope.names.lookup x = some .local := by first | exact .inl rfl | exact .inr rfl | assumption) :
    MS X W (.Assign [.Name x pos'] e pos) (sSet i t) := fun B => (ps_set hN hi hx (he B) hs hf).impM fun _ _ _ q => set_ok q
/-- a, b = e1, e2 -/
def sPar (i j : Nat) (ta : TAm) : TSm := fun N E h => ta E h (fun ds h' => match ds with
  | [x, y] => N.nx ((E.set i (some x)).set j (some y)) h'
  | _ => False) N.xs
theorem ms_par {i j : Nat} {x y : Str} {a b : Expr} {ta : TAm} {px py pt pos : Pos} {kt k2 pt2} (hc : X.calm = true) (hN : X.N.Nodup) (hi : X.N[i]? = some x) (hj : X.N[j]? = some y) (hij : i ≠ j)
    (hx : X.env.scope.names.lookup x = some .local) (hy : X.env.scope.names.lookup y = some .local) (ha : MA X W [a, b] ta)
    (hw : swappedStores [.Tuple [.Name x px, .Name y py] kt pt] (.Tuple [a, b] k2 pt2) X.env = pure (some [x, y]))
    (hs : swapsWithSole [.Tuple [.Name x px, .Name y py] kt pt] (.Tuple [a, b] k2 pt2) pos.line X.env = pure false := by rfl) :
    MS X W (.Assign [.Tuple [.Name x px, .Name y py] kt pt] (.Tuple [a, b] k2 pt2) pos) (sPar i j ta) := fun B => (ps_par hc hN hi hj hij hx hy (ha B) hw hs).impM fun D σ H ⟨F, E, h, N, R, ht, c⟩ => by
  refine ⟨F, E, h, _, N.xs, R, ht, fun x h' F' H' a dx l R' q k => c.2.2.2.2 x h' F' E σ H' a dx l R' q k, fun ds h' F' H' vs l R' r k => ?_⟩
  match ds, vs, r, k with
  | [_, _], [_, _], .cons r1 (.cons r2 .nil), k => exact ⟨_, _, rfl, c.1 _ h' F' _ H' l ((R'.set r1 i).set r2 j) k⟩
/-- x op= e by values -/
def HasIp (K : Kf) (t : TIp) (g : G2) : Prop := Has2 K t g
def sAug (i : Nat) (t : TVm) (g : G2) : TSm := fun N E h => match E[i]? with
  | some (some x) => t E h (fun y h' => g x y h' (fun r h2 => N.nx (E.set i (some r.frz)) h2)) N.xs
  | _ => False
theorem ms_aug {i : Nat} {x : Str} {e : Expr} {t : TVm} {op : Operator} {ti : TIp} {g : G2} {pos pos' : Pos} (hN : X.N.Nodup) (hi : X.N[i]? = some x) (hx : Loc X.env.scope x) (he : MV X W e t) (ho : PIp X op ti) (hg : Has2 X.K ti g) (hf : X.fn x = true ∨ X.env.scope.names.lookup x = some .local := by first | exact .inl rfl | exact .inr rfl | assumption) :
    MS X W (.AugAssign (.Name x pos') op e pos) (sAug i t g) := fun B => (ps_aug hN hi hx (he B) ho hf).impM fun D σ H ⟨F, E, h, N, R, ht, c⟩ => by
  unfold sAug at ht
  cases q : E[i]? with
  | none => rw [q] at ht; exact ht.elim
  | some o =>
    cases o with
    | none => rw [q] at ht; exact ht.elim
    | some d =>
      rw [q] at ht
      obtain ⟨v, ev, rp⟩ := R.slot.get q
      refine ⟨v, ev, F, E, h, _, N.xs, R, ht, fun x h' F' H' a dx l R' q k => c.2.2.2.2 x h' F' E σ H' a dx l R' q k, fun y h' F' H' w l R' r k => ?_⟩
      refine hg B F' E h' σ H' d y v w _ _ R' (rp.mono l) r k fun r h2 F2 H2 z l2 R2 q2 k2 => ?_
      obtain ⟨F3, l3, R3, rp3⟩ := q2.frz R2
      exact c.1 _ h2 F3 _ H2 ((l.trans l2).trans l3) (R3.set rp3 i) k2
/-- forget names -/
def wipeE (E : En) : List Nat → En
  | [] => E
  | v :: vs => (wipeE E vs).set v none
theorem Slots.wiped {K : Kf} {F : Hp} {E : En} {σ : L2.St} (s : Slots K F E σ) : ∀ ws : List Nat, Slots K F (wipeE E ws) (wipe σ ws)
  | [] => s
  | w :: ws => (Slots.wiped s ws).gone w
theorem Slots.wiped' {K : Kf} {F : Hp} {E : En} {σ : L2.St} (s : Slots K F E σ) : ∀ ws : List Nat, Slots K F (wipeE E ws) σ
  | [] => s
  | w :: ws => (Slots.wiped' s ws).gone' w
/-- a statement behind which names are forgotten -/
def sForget (ws : List Nat) (t : TSm) : TSm := fun N E h => t { N with nx := fun E' h' => N.nx (wipeE E' ws) h' } E h
theorem ms_forget {st : Stmt} {t : TSm} (ws : List Nat) (a : MS X W st t) : MS X W st (sForget ws t) := fun B => (a B).impM fun D σ H ⟨F, E, h, N, R, ht, c⟩ =>
  ⟨F, E, h, { N with nx := fun E' h' => N.nx (wipeE E' ws) h' }, R, ht, fun E' h' F' σ' H' l R' k => c.1 _ h' F' σ' H' l (R'.slots (R'.slot.wiped' ws)) k, c.2⟩
end
end M3
set_option Elab.async false
set_option linter.all false
set_option maxRecDepth 100000
set_option maxHeartbeats 4000000
namespace M3
open PySem L2
/-! ### what is walked -/
abbrev TIm := En → MH → (List D → MH → (MH → MH) → Prop) → XKm → Prop
/-- the iterator J walks items while the state is a state over B'; back gives the state over B again -/
structure Src (K : Kf) (B F : Hp) (items : List D) (B' : Hp) (back : MH → MH) (J : It) : Prop where
  ex : ∃ (G : Hp → Prop) (Y : Nat → Hp → V → Hp → Prop), Walk J items.length G Y ∧
    (∀ B2 F2 E2 h2 σ2 H2, (∀ a o, B' a = some o → B2 a = some o) → Le F F2 → Rel K B2 F2 E2 h2 σ2 H2 → G H2) ∧
    ∀ B2 F2 E2 h2 σ2 H2 i x H3, (∀ a o, B' a = some o → B2 a = some o) → Le F F2 → Rel K B2 F2 E2 h2 σ2 H2 → i < items.length → Y i H2 x H3 → ∃ F3 d, items[i]? = some d ∧ Le F2 F3 ∧ Rel K B2 F3 E2 h2 σ2 H3 ∧ Rep K F3 d x
  bak : ∀ F2 E2 h2 σ2 H2, Le F F2 → Rel K B' F2 E2 h2 σ2 H2 → Rel K B F2 E2 (back h2) σ2 H2
  val : ∀ F2 h2 H2 r v, Le F F2 → RvOk K B' F2 h2 H2 r v → RvOk K B F2 (back h2) H2 r v
def LI (K : Kf) (B : Hp) (W : WX) (ti : TIm) : TI := fun σ H R => ∃ F E h Kn Kx, Rel K B F E h σ H ∧ ti E h Kn Kx ∧ XFin K B F E σ W Kx ∧
  ∀ items h' back F' H' B' J, Le F F' → Rel K B' F' E h' σ H' → Src K B F' items B' back J → Kn items h' back → R J H'
def MI (X : Cx) (W : WX) (tg iter : Expr) (ti : TIm) : Prop := ∀ B, PI X tg iter (LI X.K B W ti)
theorem _root_.L2.PI.impM {X : Cx} {tg e : Expr} {t t' : TI} (p : PI X tg e t) (h : ∀ σ H R, t' σ H R → t σ H R) : PI X tg e t' := ⟨fun pins s σ H R I q => p.run pins s σ H R I (h σ H R q)⟩
section
variable {X : Cx} {W : WX} {tg : Expr}
/-- a list or a tuple, whichever comes -/
def iSeq (K : Kf) (tl : TE) : TI := fun σ H R => tl σ H fun x H1 => ∃ a, x = .ref a ∧ (((∃ xs, SqL K H1 a xs) ∧ R (Itl K a) H1) ∨ ((∃ xs, SqT K H1 a xs) ∧ R (Itt K a) H1))
theorem pi_seq {l : Expr} {tl : TE} (hl : PE X l tl) : PI X tg l (iSeq X.K tl) := by
  refine ⟨fun pins s σ H R I h => ?_⟩
  refine thn (hl.run pins s σ H _ I h) fun v s1 ⟨x, H1, I1, r1, q1⟩ => ?_
  obtain ⟨a, e, q⟩ := q1
  subst e
  cases r1
  rcases q with ⟨⟨xs, hq⟩, q⟩ | ⟨⟨xs, hq⟩, q⟩
  · obtain ⟨its, rv, p, hz⟩ := I1.list hq
    refine wpAny_pyIter_list p.isList ?_
    refine ⟨s1.heap.objs.size, [s1.heap.objs.size], _, _, H1, rfl, I1.kept (t' := s1.toks) fun b o e => Heap.get?_push_of_some _ e, turn_list a _, ⟨_, Heap.get?_push_size _ rfl, rfl, rfl⟩, fun b hb => ?_, q⟩
    have e : b = s1.heap.objs.size := by simpa using hb
    subst e
    exact I1.fpOk (Nat.le_refl _) (I1.hok.fresh (Nat.le_refl _))
  · obtain ⟨its, rv, p, hz⟩ := I1.tuple hq
    refine wpAny_pyIter_tuple (show s1.heap.IsTuple a its.toArray from p) ?_
    refine ⟨s1.heap.objs.size, [s1.heap.objs.size], _, _, H1, rfl, I1.kept (t' := s1.toks) fun b o e => Heap.get?_push_of_some _ e, turn_tuple a _, ⟨_, Heap.get?_push_size _ rfl, rfl, rfl⟩, fun b hb => ?_, q⟩
    have e : b = s1.heap.objs.size := by simpa using hb
    subst e
    exact I1.fpOk (Nat.le_refl _) (I1.hok.fresh (Nat.le_refl _))
def mIter (t : TVm) : TIm := fun E h Kn Kx => t E h (fun d h' => match d with
  | .tup xs => Kn xs h' id
  | .lst xs => Kn xs h' id
  | .scr ns => Kn (ns.map D.int) h' id
  | .ref p => (match h' p with
    | some (.lst xs) => Kn xs (del h' p) (fun h2 => put h2 p (.lst xs))
    | _ => False)
  | _ => False) Kx
theorem Src.same {K : Kf} {B F : Hp} {items : List D} {J : It} {vs : List V} {G : Hp → Prop} (w : Walk J vs.length G (YAt vs)) (r : Reps K F items vs) (g : ∀ B2 F2 E2 h2 σ2 H2, Le F F2 → Rel K B2 F2 E2 h2 σ2 H2 → G H2) : Src K B F items B id J := by
  refine ⟨⟨G, YAt vs, by rw [r.len]; exact w, fun B2 F2 E2 h2 σ2 H2 _ l R => g B2 F2 E2 h2 σ2 H2 l R, ?_⟩, fun _ _ _ _ _ _ R => R, fun _ _ _ _ _ _ q => q⟩
  intro B2 F2 E2 h2 σ2 H2 i x H3 _ l R hi y
  obtain ⟨rfl, e⟩ := y
  obtain ⟨d, e2, rp⟩ := r.getV e
  exact ⟨F2, d, e2, Le.refl _, R, rp.mono l⟩
theorem Rel.hide {K : Kf} {B F : Hp} {E : En} {h : MH} {σ : L2.St} {H : Hp} (R : Rel K B F E h σ H) {p : Addr} {m : MO} {o : HO} (e : h p = some m) (eH : H p = some o) : Rel K (upd B p o) F E (del h p) σ H where
  out := fun a u q => by
    by_cases n : a = p
    · subst n
      rw [upd_same] at q
      cases q
      exact ⟨eH, R.Fh e, del_same⟩
    · rw [upd_ne n] at q
      have z := R.out a u q
      refine ⟨z.1, z.2.1, ?_⟩
      show (if a = p then none else h a) = none
      rw [if_neg n]
      exact z.2.2
  frz := fun a u q => by
    have z := R.frz a u q
    refine ⟨z.1, ?_⟩
    show (if a = p then none else h a) = none
    split
    · rfl
    · exact z.2
  cel := fun a m q => R.cel a m (del_some q).1
  slot := R.slot
theorem Rel.show {K : Kf} {B F : Hp} {E : En} {h : MH} {σ : L2.St} {H : Hp} {p : Addr} {m : MO} {o : HO} (R : Rel K (upd B p o) F E h σ H) (b : B p = none) (c : H p = some o → Cel K F H p m) : Rel K B F E (put h p m) σ H := by
  have z := R.out p o upd_same
  have R1 : Rel K B F E h σ H := ⟨fun a u q => R.out a u (by rw [upd_ne (ne_of_none q b)]; exact q), R.frz, R.cel, R.slot⟩
  exact R1.toC (c z.1) b z.2.1
theorem RvOk.show {K : Kf} {B F : Hp} {h : MH} {H : Hp} {p : Addr} {m : MO} {o : HO} {r : RV} {v : V} (b : B p = none) (q : RvOk K (upd B p o) F h H r v) : RvOk K B F (put h p m) H r v := by
  have aux : ∀ l, (upd B p o) l = none → B l = none ∧ l ≠ p := fun l z => by
    by_cases n : l = p
    · subst n
      rw [upd_same] at z
      cases z
    · rw [upd_ne n] at z
      exact ⟨z, n⟩
  have aux2 : ∀ l, l ≠ p → h l = none → put h p m l = none := fun l n z => by
    show (if l = p then _ else h l) = none
    rw [if_neg n]
    exact z
  cases r with
  | d x => exact q
  | ol xs =>
    obtain ⟨l, vs, e, e2, rs, q1, q2, q3⟩ := q
    exact ⟨l, vs, e, e2, rs, (aux l q1).1, q2, aux2 l (aux l q1).2 q3⟩
  | od xs =>
    obtain ⟨l, vs, e, e2, rs, q1, q2, q3⟩ := q
    exact ⟨l, vs, e, e2, rs, (aux l q1).1, q2, aux2 l (aux l q1).2 q3⟩
theorem mi_seq {l : Expr} {t : TVm} (p : MV X W l t) : MI X W tg l (mIter t) := fun B => (pi_seq (p B)).impM fun σ H Rr ⟨F, E, h, Kn, Kx, R, ht, hx, hn⟩ => by
  refine ⟨F, E, h, _, Kx, R, ht, hx, fun d h' F' H' v l R' rp k => ?_⟩
  cases rp with
  | @tup a vs ds q rs => exact ⟨_, rfl, .inr ⟨⟨_, R'.sqT q⟩, hn ds h' id F' H' B _ l R' (Src.same walk_tup rs fun _ F2 _ _ _ _ l2 R2 => R2.sqT (l2.sqT q)) k⟩⟩
  | @lst a vs ds q rs => exact ⟨_, rfl, .inl ⟨⟨_, .of (R'.frz _ _ q).1⟩, hn ds h' id F' H' B _ l R' (Src.same walk_list rs fun _ F2 _ _ _ _ l2 R2 => .of (R2.frz _ _ (l2.ls _ _ q)).1) k⟩⟩
  | @scr a ns q => exact ⟨_, rfl, .inl ⟨⟨_, R'.sqL q⟩, hn (ns.map D.int) h' id F' H' B _ l R' (Src.same walk_list (Reps.ints ns) fun _ F2 _ _ _ _ l2 R2 => R2.sqL (l2.sqL q)) k⟩⟩
  | ref a =>
    have k : (match h' a with
      | some (.lst xs) => Kn xs (del h' a) (fun h2 => put h2 a (.lst xs))
      | _ => False) := k
    cases e : h' a with
    | none => rw [e] at k; exact k.elim
    | some m =>
      rw [e] at k
      cases m with
      | lst xs =>
        obtain ⟨vs, e2, rs⟩ := R'.cel a _ e
        have b := R'.Bh e
        refine ⟨a, rfl, .inl ⟨⟨_, .of e2⟩, hn xs (del h' a) _ F' H' (upd B a (.lst vs)) _ l (R'.hide e e2) ⟨⟨fun H => SqL X.K H a vs, YAt vs, by rw [rs.len]; exact walk_list, fun B2 F2 _ _ _ _ sb _ R2 => .of (R2.out a _ (sb _ _ upd_same)).1, ?_⟩, ?_, ?_⟩ k⟩⟩
        · intro B2 F2 E2 h2 σ2 H2 i x H3 _ l2 R2 hi y
          obtain ⟨rfl, e⟩ := y
          obtain ⟨d, e2, rp⟩ := rs.getV e
          exact ⟨F2, d, e2, Le.refl _, R2, rp.mono l2⟩
        · intro F2 E2 h2 σ2 H2 l2 R2
          exact R2.show b fun z => ⟨vs, z, rs.mono l2⟩
        · intro F2 h2 H2 r v l2 q
          exact q.show b
      | dct xs => exact k.elim
      | ins C fs => exact k.elim
  | _ => exact k.elim
/-- range(n), range(a, b) -/
def rngD (lo : Int) (n : Nat) : List D := (List.range n).map fun i => D.int (lo + (i : Nat))
theorem Src.rng {K : Kf} {B F : Hp} {lo : Int} {n : Nat} : Src K B F (rngD lo n) B id (Itr lo n) := by
  have hl : (rngD lo n).length = n := by simp [rngD]
  refine ⟨⟨fun _ => True, _, by rw [hl]; exact walk_range, fun _ _ _ _ _ _ _ _ _ => True.intro, ?_⟩, fun _ _ _ _ _ _ R => R, fun _ _ _ _ _ _ q => q⟩
  intro B2 F2 E2 h2 σ2 H2 i x H3 _ l R hi y
  obtain ⟨rfl, rfl⟩ := y
  rw [hl] at hi
  exact ⟨F2, .int (lo + (i : Nat)), by simp [rngD, hi], Le.refl _, R, .int _⟩
def mRng1 (ta : TAm) : TIm := fun E h Kn Kx => ta E h (fun ds h' => match ds with
  | [.int j] => (-(2 ^ 62) ≤ j ∧ j < 2 ^ 62) ∧ Kn (rngD 0 j.toNat) h' id
  | _ => False) Kx
def mRng2 (ta : TAm) : TIm := fun E h Kn Kx => ta E h (fun ds h' => match ds with
  | [.int i, .int j] => (-(2 ^ 62) ≤ i ∧ i < 2 ^ 62 ∧ -(2 ^ 62) ≤ j ∧ j < 2 ^ 62) ∧ Kn (rngD i (j - i).toNat) h' id
  | _ => False) Kx
theorem mi_range1 {a : Expr} {ta : TAm} {p pos : Pos} (hg : Gl X "range") (hm : X.mg "range" = none) (ha : MA X W [a] ta) (hs : starEach [a] X.env = [(false, eval a X.env)] := by rfl) : MI X W tg (.Call (.Name "range" p) [a] [] pos) (mRng1 ta) := fun B =>
  (pi_range1 hg hm (ha B) hs).impM fun σ H Rr ⟨F, E, h, Kn, Kx, R, ht, hx, hn⟩ => by
    refine ⟨F, E, h, _, Kx, R, ht, hx, fun ds h' F' H' vs l R' r k => ?_⟩
    match ds, vs, r, k with
    | [.int j], [_], .cons (.int _) .nil, k => exact ⟨j, rfl, k.1.1, k.1.2, hn _ h' id F' H' B _ l R' Src.rng k.2⟩
theorem mi_range2 {a b : Expr} {ta : TAm} {p pos : Pos} (hg : Gl X "range") (hm : X.mg "range" = none) (ha : MA X W [a, b] ta) (hs : starEach [a, b] X.env = [(false, eval a X.env), (false, eval b X.env)] := by rfl) (hs2 : starEach [b] X.env = [(false, eval b X.env)] := by rfl) :
    MI X W tg (.Call (.Name "range" p) [a, b] [] pos) (mRng2 ta) := fun B =>
  (pi_range2 hg hm (ha B) hs hs2).impM fun σ H Rr ⟨F, E, h, Kn, Kx, R, ht, hx, hn⟩ => by
    refine ⟨F, E, h, _, Kx, R, ht, hx, fun ds h' F' H' vs l R' r k => ?_⟩
    match ds, vs, r, k with
    | [.int i, .int j], [_, _], .cons (.int _) (.cons (.int _) .nil), k => exact ⟨i, j, rfl, k.1, hn _ h' id F' H' B _ l R' Src.rng k.2⟩
end
/-! ### for -/
def forL (g : TGm) (tb : TSm) : List D → Nd → En → MH → Prop
  | [], N, E, h => N.nx E h
  | d :: ds, N, E, h => g d E h fun E2 h2 => tb { nx := fun E3 h3 => forL g tb ds N E3 h3, rt := N.rt, bk := N.nx, ct := fun E3 h3 => forL g tb ds N E3 h3, xs := N.xs } E2 h2
def sFor (ti : TIm) (g : TGm) (tb : TSm) : TSm := fun N E h => ti E h (fun items h' back => forL g tb items { nx := fun E2 h2 => N.nx E2 (back h2), rt := fun r h2 => N.rt r (back h2), xs := fun x h2 => N.xs x (back h2) } E h') N.xs
section
variable {X : Cx} {W : WX}
theorem PSs.any {st : List Stmt} {t : Hp → TS} (p : ∀ B, PSs X st (t B)) : PSs X st (fun D σ H => ∃ B, t B D σ H) := ⟨fun pins s σ H D I ⟨B, q⟩ => (p B).run pins s σ H D I q⟩
theorem PG.any {e : Expr} {t : Hp → TG} (p : ∀ B, PG X e (t B)) : PG X e (fun v σ H Q => ∃ B, t B v σ H Q) := ⟨fun pins s σ H v u Q I r ⟨B, q⟩ => (p B).run pins s σ H v u Q I r q⟩
theorem PE.any {e : Expr} {t : Hp → TE} (p : ∀ B, PE X e (t B)) : PE X e (fun σ H Q => ∃ B, t B σ H Q) := ⟨fun pins s σ H Q I ⟨B, q⟩ => (p B).run pins s σ H Q I q⟩
theorem ms_for {tg iter : Expr} {body : List Stmt} {ti : TIm} {g : TGm} {tb : TSm} {ws : List Nat} {pos : Pos} (hp : PassesOwn (model X.prog X.w) X.A X.env X.xe) (hc : X.calm = true) (hi : MI X W tg iter ti) (hg : MG X tg ws g) (hb : MB X W body tb)
    (hs : ∀ x, foldedSetIterable iter X.env x = pure x := by intro _; rfl) : MS X W (.For tg iter body [] pos) (sFor ti g tb) := fun B => (ps_for hp hc (hi B) (PG.any hg) (PSs.any hb) hs).impM fun D σ H ⟨F, E, h, N, R, ht, c⟩ => by
  refine ⟨F, E, h, _, N.xs, R, ht, fun x h' F' H' a dx l R' q k => c.2.2.2.2 x h' F' E σ H' a dx l R' q k, fun items h' back F' H' B' J l R' S k => ?_⟩
  obtain ⟨G, Y, w, hG, hY⟩ := S.ex
  refine for_it (g := fun v σ H Q => ∃ B, LG X.K B ws g v σ H Q) (tb := fun D σ H => ∃ B, LS X.K B W tb D σ H) (D := D) w (fun i σ H => ∃ F2 E2 h2, Le F' F2 ∧ Rel X.K B' F2 E2 h2 σ H ∧ forL g tb (items.drop i) { nx := fun E2 h2 => N.nx E2 (back h2), rt := fun r h2 => N.rt r (back h2), xs := fun x h2 => N.xs x (back h2) } E2 h2)
    ⟨F', E, h', Le.refl _, R', k⟩ (fun i σ H _ ⟨F2, E2, h2, l2, R2, _⟩ => hG B' F2 E2 h2 σ H (fun _ _ z => z) l2 R2) ?_ ?_
  · rintro i x σ2 H2 H3 hi ⟨F2, E2, h2, l2, R2, k2⟩ y
    obtain ⟨F3, d, ed, l3, R3, rp⟩ := hY B' F2 E2 h2 σ2 H2 i x H3 (fun _ _ z => z) l2 R2 hi y
    have l3 := l2.trans l3
    have edr : items.drop i = d :: items.drop (i + 1) := by
      obtain ⟨hlt, e⟩ := List.getElem?_eq_some_iff.mp ed
      rw [List.drop_eq_getElem_cons hlt, e]
    rw [edr] at k2
    refine ⟨B', F3, E2, h2, d, _, R3, rp, k2, fun E4 h4 F4 σ4 H4 _ l4 R4 k4 => ?_⟩
    have l4 := l3.trans l4
    refine ⟨B', F4, E4, h4, _, R4, k4, ?_, ?_, ?_, ?_, ?_⟩
    · exact fun E5 h5 F5 σ5 H5 l5 R5 k5 => ⟨F5, E5, h5, l4.trans l5, R5, k5⟩
    · exact fun r h5 F5 E5 σ5 H5 v l5 R5 q5 k5 => c.2.1 r _ F5 E5 σ5 H5 v (l.trans (l4.trans l5)) (S.bak F5 E5 h5 σ5 H5 (l4.trans l5) R5) (S.val F5 h5 H5 r v (l4.trans l5) q5) k5
    · exact fun E5 h5 F5 σ5 H5 l5 R5 k5 => c.1 E5 _ F5 σ5 H5 (l.trans (l4.trans l5)) (S.bak F5 E5 h5 σ5 H5 (l4.trans l5) R5) k5
    · exact fun E5 h5 F5 σ5 H5 l5 R5 k5 => ⟨F5, E5, h5, l4.trans l5, R5, k5⟩
    · exact fun x h5 F5 E5 σ5 H5 a dx l5 R5 q5 k5 => c.2.2.2.2 x _ F5 E5 σ5 H5 a dx (l.trans (l4.trans l5)) (S.bak F5 E5 h5 σ5 H5 (l4.trans l5) R5) q5 k5
  · rintro σ2 H2 ⟨F2, E2, h2, l2, R2, k2⟩
    rw [List.drop_length] at k2
    exact c.1 E2 _ F2 σ2 H2 (l.trans l2) (S.bak F2 E2 h2 σ2 H2 l2 R2) k2
/-! ### while -/
/-- by turns: at most so many -/
def whileN (c : TTm) (tb : TSm) : Nat → Nd → En → MH → Prop
  | 0, _, _, _ => False
  | n + 1, N, E, h => c E h (fun b h' => if b = true then tb { nx := fun E2 h2 => whileN c tb n N E2 h2, rt := N.rt, bk := N.nx, ct := fun E2 h2 => whileN c tb n N E2 h2, xs := N.xs } E h' else N.nx E h') N.xs
def sWhile (c : TTm) (tb : TSm) : TSm := fun N E h => ∃ n, whileN c tb n N E h
theorem ms_while {c : Expr} {body : List Stmt} {tc : TTm} {tb : TSm} {pos : Pos} (hp : PassesOwn (model X.prog X.w) X.A X.env X.xe) (hc : MT X W c tc) (hb : MB X W body tb) : MS X W (.While c body [] pos) (sWhile tc tb) := fun B => (ps_while hp (hc B) (hb B)).impM fun D σ H ⟨F, E, h, N, R, ⟨n, ht⟩, c⟩ => by
  refine ⟨fun m σ H => ∃ F2 E2 h2, Le F F2 ∧ Rel X.K B F2 E2 h2 σ H ∧ whileN tc tb m N E2 h2, ⟨n, F, E, h, Le.refl _, R, ht⟩, ?_⟩
  rintro m σ2 H2 ⟨F2, E2, h2, l2, R2, k2⟩
  cases m with
  | zero => exact k2.elim
  | succ m =>
    refine ⟨F2, E2, h2, _, N.xs, R2, k2, fun x h' F' H' a dx l R' q k => c.2.2.2.2 x h' F' E2 σ2 H' a dx (l2.trans l) R' q k, fun b h3 F3 H3 l3 R3 k3 => ?_⟩
    have l3 := l2.trans l3
    cases b with
    | true =>
      refine ⟨fun σ H => ∃ F2 E2 h2, Le F F2 ∧ Rel X.K B F2 E2 h2 σ H ∧ whileN tc tb m N E2 h2, fun σ' H' q => ⟨m, Nat.lt_succ_self m, q⟩, ?_⟩
      refine ⟨F3, E2, h3, _, R3, k3, ?_, ?_, ?_, ?_, ?_⟩
      · exact fun E5 h5 F5 σ5 H5 l5 R5 k5 => ⟨F5, E5, h5, l3.trans l5, R5, k5⟩
      · exact fun r h5 F5 E5 σ5 H5 v l5 R5 q5 k5 => c.2.1 r _ F5 E5 σ5 H5 v (l3.trans l5) R5 q5 k5
      · exact fun E5 h5 F5 σ5 H5 l5 R5 k5 => c.1 E5 _ F5 σ5 H5 (l3.trans l5) R5 k5
      · exact fun E5 h5 F5 σ5 H5 l5 R5 k5 => ⟨F5, E5, h5, l3.trans l5, R5, k5⟩
      · exact fun x h5 F5 E5 σ5 H5 a dx l5 R5 q5 k5 => c.2.2.2.2 x _ F5 E5 σ5 H5 a dx (l3.trans l5) R5 q5 k5
    | false => exact c.1 E2 h3 F3 σ2 H3 l3 R3 k3
end
/-! ### comprehensions -/
abbrev W0 : WX := fun _ _ _ _ => False
def xNo : XKm := fun _ _ => False
def lcL (g : TGm) (tt : TTm) (te : TVm) (E : En) : List D → List D → MH → (List D → MH → Prop) → Prop
  | [], acc, h, k => k acc h
  | d :: ds, acc, h, k => g d E h fun E2 h2 => tt E2 h2 (fun b h3 => if b = true then te E2 h3 (fun y h4 => acc.length < sizeLine ∧ lcL g tt te E ds (acc ++ [y]) h4 k) xNo else lcL g tt te E ds acc h3 k) xNo
def mLc (ti : TIm) (g : TGm) (tt : TTm) (te : TVm) (ws : List Nat) : TEm := fun E h Kn Kx => ti E h (fun items h' back => lcL g tt te (wipeE E ws) items [] h' fun acc h2 => Kn (.ol acc) (back h2)) Kx
def mYes : TTm := fun _ h Kn _ => Kn true h
def MTs (X : Cx) (W : WX) (ifs : List Expr) (t : TTm) : Prop := ∀ B, PTs X ifs (LT X.K B W t)
theorem _root_.L2.PTs.impM {X : Cx} {e : List Expr} {t t' : TT} (p : PTs X e t) (h : ∀ σ H Q, t' σ H Q → t σ H Q) : PTs X e t' := ⟨fun pins s σ H Q I q => p.run pins s σ H Q I (h σ H Q q)⟩
theorem mts_nil {X : Cx} {W : WX} : MTs X W [] mYes := fun B => pts_nil.impM fun σ H Q ⟨F, E, h, Kn, Kx, R, ht, hx, hn⟩ => hn true h F H (Le.refl F) R ht
theorem mts_one {X : Cx} {W : WX} {c : Expr} {t : TTm} (p : MT X W c t) : MTs X W [c] t := fun B => pts_one (p B)
theorem PTs.any {X : Cx} {e : List Expr} {t : Hp → TT} (p : ∀ B, PTs X e (t B)) : PTs X e (fun σ H Q => ∃ B, t B σ H Q) := ⟨fun pins s σ H Q I ⟨B, q⟩ => (p B).run pins s σ H Q I q⟩
section
variable {X : Cx} {W : WX}
theorem wipe_wipe {σ : L2.St} : ∀ {ws : List Nat}, wipe (wipe σ ws) ws = wipe σ ws := by
  have hmem : ∀ (us ws : List Nat) (σ : L2.St), (∀ u ∈ us, u ∈ ws) → wipe (wipe σ us) ws = wipe σ ws := by
    intro us
    induction us with
    | nil => intro _ _ _; rfl
    | cons u us ih =>
      intro ws σ h
      show wipe ((wipe σ us).set u none) ws = _
      rw [wipe_set (h u List.mem_cons_self)]
      exact ih ws σ fun v hv => h v (List.mem_cons_of_mem _ hv)
  intro ws
  exact hmem ws ws σ fun _ h => h
theorem lc_ok {K : Kf} {B : Hp} {ti : TIm} {g : TGm} {tt : TTm} {te : TVm} {ws : List Nat} {σ : L2.St} {H : Hp} {Q : VK} (q : LE K B W (mLc ti g tt te ws) σ H Q) :
    tLc (LI K B W ti) (fun v σ H Q => ∃ B, LG K B ws g v σ H Q) (fun σ H Q => ∃ B, LT K B W0 tt σ H Q) (fun σ H Q => ∃ B, LV K B W0 te σ H Q) ws σ H Q := by
  obtain ⟨F, E, h, Kn, Kx, R, ht, hx, hn⟩ := q
  refine ⟨F, E, h, _, Kx, R, ht, hx, fun items h' back F' H' B' J l R' S k => ?_⟩
  obtain ⟨G, Y, w, hG, hY⟩ := S.ex
  intro D nD
  refine lc_it (g := fun v σ H Q => ∃ B, LG K B ws g v σ H Q) (tt := fun σ H Q => ∃ B, LT K B W0 tt σ H Q) (te := fun σ H Q => ∃ B, LV K B W0 te σ H Q) (vs := ws) (σ := σ) (Qd := fun H => Q (.ref D) H) w (fun i H => ∃ F2 h2 acc vs, Le F' F2 ∧ acc.length ≤ sizeLine ∧ Rel K (upd B' D (.lst vs)) F2 (wipeE E ws) h2 (wipe σ ws) H ∧ B' D = none ∧ Reps K F2 acc vs ∧ lcL g tt te (wipeE E ws) (items.drop i) acc h2 fun acc h2 => Kn (.ol acc) (back h2)) ?_ ?_ ?_ ?_
  · have R2 : Rel K B' F' (wipeE E ws) h' (wipe σ ws) (upd H' D (.lst [])) := (R'.slots (R'.slot.wiped ws)).newO nD
    refine ⟨F', h', [], [], Le.refl _, Nat.zero_le _, ⟨fun a u e => ?_, R2.frz, R2.cel, R2.slot⟩, R'.noB nD, .nil, k⟩
    by_cases n : a = D
    · subst n
      rw [upd_same] at e
      cases e
      exact ⟨upd_same, R'.noF nD, R'.noh nD⟩
    · rw [upd_ne n] at e
      exact R2.out a u e
  · rintro i H _ ⟨F2, h2, acc, vs, l2, _, R2, bD, _⟩
    exact hG _ F2 _ h2 _ _ (fun a o z => by rw [upd_ne (ne_of_none z bD)]; exact z) l2 R2
  · rintro i x H2 H3 hi ⟨F2, h2, acc, vs, l2, hz, R2, bD, rs, k2⟩ y
    obtain ⟨F3, d, ed, l3, R3, rp⟩ := hY _ F2 _ h2 _ H2 i x H3 (fun a o z => by rw [upd_ne (ne_of_none z bD)]; exact z) l2 R2 hi y
    have edr : items.drop i = d :: items.drop (i + 1) := by
      obtain ⟨hlt, e⟩ := List.getElem?_eq_some_iff.mp ed
      rw [List.drop_eq_getElem_cons hlt, e]
    rw [edr] at k2
    refine ⟨_, F3, _, h2, d, _, R3, rp, k2, fun E4 h4 F4 σ4 H4 w4 l4 R4 k4 => ⟨by rw [w4, wipe_wipe], ?_⟩⟩
    refine ⟨_, F4, E4, h4, _, xNo, R4, k4, fun x h' F' H' c dx _ _ _ z => z.elim, fun b h5 F5 H5 l5 R5 k5 => ?_⟩
    have keep : ∀ {F6 : Hp} {h6 : MH} {E6 : En} {H6 : Hp} {vs' : List V}, Le F4 F6 → Rel K (upd B' D (.lst vs')) F6 E6 h6 σ4 H6 → Rel K (upd B' D (.lst vs')) F6 (wipeE E ws) h6 (wipe σ ws) H6 := fun {F6 h6 E6 H6 vs'} l6 R6 =>
      R6.slots ((R'.slot.wiped ws).mono (((l2.trans l3).trans l4).trans l6))
    have lx := (l2.trans l3).trans l4
    cases b with
    | false => exact ⟨F5, h5, acc, vs, lx.trans l5, hz, keep l5 R5, bD, rs.mono ((l3.trans l4).trans l5), k5⟩
    | true =>
      refine ⟨_, F5, E4, h5, _, xNo, R5, k5, fun x h' F' H' c dx _ _ _ z => z.elim, fun y h6 F6 H6 u l6 R6 r6 k6 => ?_⟩
      have rs6 := rs.mono (((l3.trans l4).trans l5).trans l6)
      refine ⟨vs, (R6.out D _ upd_same).1, by rw [← rs.len]; exact k6.1, F6, h6, acc ++ [y], vs ++ [u], lx.trans (l5.trans l6), ?_, ?_, bD, rs6.app (.cons r6 .nil), k6.2⟩
      · rw [List.length_append]
        exact k6.1
      · have R7 := keep (l5.trans l6) R6
        have zD := R7.out D _ upd_same
        refine ⟨fun a o z => ?_, fun a o z => ?_, fun a m z => ?_, R7.slot⟩
        · by_cases n : a = D
          · subst n
            rw [upd_same] at z ⊢
            exact ⟨z, zD.2⟩
          · rw [upd_ne n] at z ⊢
            exact R7.out a o (by rw [upd_ne n]; exact z)
        · have n : a ≠ D := ne_of_none z zD.2.1
          rw [upd_ne n]
          exact R7.frz a o z
        · have n : a ≠ D := fun q => by
            rw [q, zD.2.2] at z
            cases z
          exact (R7.cel a m z).mono (Le.refl _) (upd_ne n)
  · rintro H2 ⟨F2, h2, acc, vs, l2, hz, R2, bD, rs, k2⟩
    rw [List.drop_length] at k2
    have zD := R2.out D _ upd_same
    have R2' : Rel K B' F2 (wipeE E ws) h2 (wipe σ ws) H2 := ⟨fun a u e => R2.out a u (by rw [upd_ne (ne_of_none e bD)]; exact e), R2.frz, R2.cel, R2.slot⟩
    have R3 : Rel K B' F2 E h2 σ H2 := R2'.slots (R'.slot.mono l2)
    exact hn (.ol acc) _ F2 H2 (.ref D) (l.trans l2) (S.bak F2 E h2 σ H2 l2 R3) (S.val F2 h2 H2 (.ol acc) _ l2 ⟨D, vs, rfl, zD.1, rs, bD, zD.2.1, zD.2.2⟩) k2
end
end M3
set_option Elab.async false
set_option linter.all false
set_option maxRecDepth 100000
set_option maxHeartbeats 4000000
namespace M3
open PySem PySem.Spec PyProof.Rows L2
section
variable {X : Cx} {W : WX}
/-! ### comprehensions, as values and as statements -/
theorem me_lc {elt tg iter : Expr} {ifs : List Expr} {scope : Scope} {own : List (Str × Nat)} {pos : Pos} {ti : TIm} {g : TGm} {tt : TTm} {te : TVm} (hc : X.calm = true) (hN : X.N.Nodup) (hi : MI X W tg iter ti) (ok : BlkOk X.N X.env.scope scope own)
    (hg : ∀ (s : Shared) (H : Hp) (C : Addr) (cl : List (Str × Addr)) (fp : List Addr), MG (X.blk s H scope (compEnvC scope cl C X.env) fp) tg (own.map (·.2)) g) (ht : ∀ (s : Shared) (H : Hp) (C : Addr) (cl : List (Str × Addr)) (fp : List Addr), MTs (X.blk s H scope (compEnvC scope cl C X.env) fp) W0 ifs tt)
    (he : ∀ (s : Shared) (H : Hp) (C : Addr) (cl : List (Str × Addr)) (fp : List Addr), MV (X.blk s H scope (compEnvC scope cl C X.env) fp) W0 elt te) (hs : ∀ x, foldedSetIterable iter X.env x = pure x := by intro _; rfl) :
    ME X W (.ListComp elt [⟨tg, iter, ifs, 0⟩] scope pos) (mLc ti g tt te (own.map (·.2))) := fun B =>
  (pe_lc hc hN (hi B) ok (fun s H C cl fp => PG.any (X := X.blk s H scope (compEnvC scope cl C X.env) fp) (e := tg) (t := fun B => LG X.K B (List.map (fun (p : Str × Nat) => p.2) own) g) (hg s H C cl fp)) (fun s H C cl fp => PTs.any (t := fun B => LT X.K B W0 tt) (ht s H C cl fp)) (fun s H C cl fp => PE.any (t := fun B => LV X.K B W0 te) (he s H C cl fp)) hs).impM fun _ _ _ q => lc_ok q
theorem frz_ok {K : Kf} {B : Hp} {t : TEm} {σ : L2.St} {H : Hp} {Q : VK} (q : LV K B W (frzV t) σ H Q) : LE K B W t σ H Q := by
  obtain ⟨F, E, h, Kn, Kx, R, ht, hx, hn⟩ := q
  exact ⟨F, E, h, _, Kx, R, ht, hx, fun r h' F' H' v l R' q k => by
    obtain ⟨F2, l2, R2, rp⟩ := q.frz R'
    exact hn _ h' F2 H' v (l.trans l2) R2 rp k⟩
theorem cell_ok {K : Kf} {B : Hp} {t : TEm} {σ : L2.St} {H : Hp} {Q : VK} (q : LE K B W (mCell t) σ H Q) : LE K B W t σ H Q := by
  obtain ⟨F, E, h, Kn, Kx, R, ht, hx, hn⟩ := q
  exact ⟨F, E, h, _, Kx, R, ht, hx, fun r h' F' H' v l R' q k => by
    cases r with
    | d x => exact hn (.d x) h' F' H' v l R' q k
    | ol xs =>
      obtain ⟨a, vs, rfl, e, rs, b, f, n⟩ := q
      exact hn (.d (.ref a)) _ F' H' _ l (R'.toC (m := .lst xs) ⟨vs, e, rs⟩ b f) (.ref a) (k a n)
    | od xs =>
      obtain ⟨a, vs, rfl, e, rs, b, f, n⟩ := q
      exact hn (.d (.ref a)) _ F' H' _ l (R'.toC (m := .dct xs) ⟨vs, e, rs⟩ b f) (.ref a) (k a n)⟩
/-- t' tells of t -/
def Via (W : WX) (t' t : TEm) : Prop := ∀ K B σ H Q, LE K B W t' σ H Q → LE K B W t σ H Q
theorem via_id {t : TEm} : Via W t t := fun _ _ _ _ _ q => q
theorem via_cell {t : TEm} : Via W (mCell t) t := fun _ _ _ _ _ q => cell_ok q
theorem ms_setLc {i : Nat} {y : Str} {py : Pos} {elt tg iter : Expr} {ifs : List Expr} {scope : Scope} {own : List (Str × Nat)} {pos spos : Pos} {ti : TIm} {g : TGm} {tt : TTm} {te : TVm} {t' : TEm} (hc : X.calm = true) (hN : X.N.Nodup) (hy : X.N[i]? = some y) (hyl : X.env.scope.names.lookup y = some .local)
    (hsw : swapsWith (.ListComp elt [⟨tg, iter, ifs, 0⟩] scope pos) (some (.Name y py)) spos.line X.env = pure true) (hi : MI X W tg iter ti) (ok : BlkOk X.N X.env.scope scope own)
    (hg : ∀ (s : Shared) (H : Hp) (C : Addr) (cl : List (Str × Addr)) (fp : List Addr), MG (X.blk s H scope (compEnvC scope cl C X.env) fp) tg (own.map (·.2)) g) (ht : ∀ (s : Shared) (H : Hp) (C : Addr) (cl : List (Str × Addr)) (fp : List Addr), MTs (X.blk s H scope (compEnvC scope cl C X.env) fp) W0 ifs tt)
    (he : ∀ (s : Shared) (H : Hp) (C : Addr) (cl : List (Str × Addr)) (fp : List Addr), MV (X.blk s H scope (compEnvC scope cl C X.env) fp) W0 elt te) (via : Via W t' (mLc ti g tt te (own.map (·.2)))) (hs : ∀ x, foldedSetIterable iter X.env x = pure x := by intro _; rfl) :
    MS X W (.Assign [.Name y py] (.ListComp elt [⟨tg, iter, ifs, 0⟩] scope pos) spos) (sSet i (frzV t')) := fun B =>
  (ps_setLc hc hN hy hyl hsw (hi B) ok (fun s H C cl fp => PG.any (X := X.blk s H scope (compEnvC scope cl C X.env) fp) (e := tg) (t := fun B => LG X.K B (List.map (fun (p : Str × Nat) => p.2) own) g) (hg s H C cl fp)) (fun s H C cl fp => PTs.any (t := fun B => LT X.K B W0 tt) (ht s H C cl fp)) (fun s H C cl fp => PE.any (t := fun B => LV X.K B W0 te) (he s H C cl fp)) hs).impM fun _ _ _ q => lc_ok (via _ _ _ _ _ (frz_ok (set_ok q)))

/-! ### what a def promises, over data -/
abbrev MSp := List D → MH → (RV → MH → Prop) → XKm → Prop
def LSp (K : Kf) (sp : MSp) : Sp := fun vs H Q Ex => ∃ B F h ds Kn Kx, Rel K B F [] h [] H ∧ Reps K F ds vs ∧ sp ds h Kn Kx ∧
  (∀ r h' F' H' v, Le F F' → Rel K B F' [] h' [] H' → RvOk K B F' h' H' r v → Kn r h' → Q v H') ∧
  (∀ x h' F' H' c dx, Le F F' → Rel K B F' [] h' [] H' → XOk K F' x c dx → Kx x h' → Ex c dx H')
abbrev FM (P : Program) (w : World) (K : Kf) (mg : Str → Option Value) (base : Heap) (k : Nat) (f : Addr) (fd : FuncData) (ps : List Str) (sp : MSp) : Prop := FnOk P w K mg base (L2.CX P w) k f fd ps (LSp K sp)
theorem sp_ok {K : Kf} {B F : Hp} {E : En} {h : MH} {σ : L2.St} {H : Hp} {ds : List D} {vs : List V} {sp : MSp} {Kn : RV → MH → Prop} {Kx : XKm} {Q : VK} (R : Rel K B F E h σ H) (r : Reps K F ds vs) (k : sp ds h Kn Kx)
    (hx : XFin K B F E σ W Kx) (hn : ∀ r h' F' H' v, Le F F' → Rel K B F' E h' σ H' → RvOk K B F' h' H' r v → Kn r h' → Q v H') : LSp K sp vs H Q (WE W σ) :=
  ⟨B, F, h, ds, Kn, Kx, R.slots .nil, r, k, fun r h' F' H' v l R' q k => hn r h' F' H' v l (R'.slots (R.slot.mono l)) q k, fun x h' F' H' c dx l R' q k => hx x h' F' H' c dx l (R'.slots (R.slot.mono l)) q k⟩
def mFun (sp : MSp) (dds : List D) (t : TAm) : TEm := fun E h Kn Kx => t E h (fun ds h' => sp (ds ++ dds) h' Kn Kx) Kx
variable {k : Nat} {f C : Addr} {fd : FuncData} {ps : List Str} {sp : MSp} {dvs : List V} {ds : List Value} {dds : List D} {x m : Str} {p pos apos : Pos} {e o : Expr} {es : List Expr} {t : TAm} {to : TVm}
theorem me_call (F : FM X.prog X.w X.K X.mg X.base k f fd ps sp) (hr : Room k X.A) (hg : Gl X x) (hm : X.mg x = some (.ref f)) (hk : PySem.W.keepIn X.K (.ref f) = true) (hb : Binds X.K fd ps ds) (hd : Vals dvs ds) (hdd : ∀ K F, Reps K F dds dvs) (tk : Takes X W)
    (ha : MA X W (e :: es) t) (hdb : (x == ("__debug__" : Str)) = false := by decide) (he : starEach (e :: es) X.env = (false, eval e X.env) :: starEach es X.env := by rfl) (hpl : (backTo pos (starEach es X.env)).any (·.1) = false := by rfl) :
    ME X W (.Call (.Name x p) (e :: es) [] pos) (mFun sp dds t) := fun B => (pe_callSD (E := WE W) F hr hg hm hk hb hd (fun σ => passAt tk σ) (ha B) hdb he hpl).impM fun σ H Q ⟨F, E, h, Kn, Kx, R, ht, hx, hn⟩ => by
  refine ⟨F, E, h, _, Kx, R, ht, hx, fun ds' h' F' H' vs l R' r k => ?_⟩
  exact sp_ok R' (r.app (hdd _ _)) k (hx.up l) fun r h2 F2 H2 v l2 R2 q2 k2 => hn r h2 F2 H2 v (l.trans l2) R2 q2 k2
theorem call0_S {sp : Sp} {E : L2.St → XK} (F : FnOk X.prog X.w X.K X.mg X.base (L2.CX X.prog X.w) k f fd ps sp) (hr : Room k X.A) (hg : Gl X x) (hm : X.mg x = some (.ref f)) (hk : PySem.W.keepIn X.K (.ref f) = true) (hb : Binds X.K fd ps ds) (hd : Vals dvs ds) (hx : ∀ σ, PassesAt (L2.CX X.prog X.w) X σ (E σ))
    (hdb : (x == ("__debug__" : Str)) = false := by decide) : PE X (.Call (.Name x p) [] [] pos) (tCallSD sp dvs E tNil) := by
  refine ⟨fun pins s σ H Q I h => ?_⟩
  refine wpAny_Call_Name_kw (ld_glob I hg hm ?_ hdb)
  exact PySem.W.callWith_K0 I.kIn hk (run_fnSD (us := []) F hr hb hd (hx σ) I .nil h)
theorem me_call0 (F : FM X.prog X.w X.K X.mg X.base k f fd ps sp) (hr : Room k X.A) (hg : Gl X x) (hm : X.mg x = some (.ref f)) (hk : PySem.W.keepIn X.K (.ref f) = true) (hb : Binds X.K fd ps ds) (hd : Vals dvs ds) (hdd : ∀ K F, Reps K F dds dvs) (tk : Takes X W)
    (hdb : (x == ("__debug__" : Str)) = false := by decide) : ME X W (.Call (.Name x p) [] [] pos) (mFun sp dds mNil) := fun B => (call0_S (E := WE W) F hr hg hm hk hb hd (fun σ => passAt tk σ) hdb).impM fun σ H Q ⟨F, E, h, Kn, Kx, R, ht, hx, hn⟩ => by
  exact sp_ok (ds := [] ++ dds) (vs := [] ++ dvs) R (hdd _ _) ht hx hn
/-! methods -/
def tMethS (C : Addr) (m : Str) (sp : Sp) (dvs : List V) (E : L2.St → XK) (ta : TE) (t : TA) : TE := fun σ H Q => ta σ H fun x H1 => ∃ a dx fs, x = .ref a ∧ H1 a = some (.ins C dx fs) ∧ fs.lookup m = none ∧
  t σ H1 fun vs H2 => sp (x :: (vs ++ dvs)) H2 Q (E σ)
theorem meth_S {sp : Sp} {E : L2.St → XK} {ta : TE} {t : TA} {pl : Sem Bool} (he : PE X o ta) (c : Cls X.K C) (hm : Meth X.K C m f) (F : FnOk X.prog X.w X.K X.mg X.base (L2.CX X.prog X.w) k f fd ps sp) (hr : Room k X.A) (hb : Binds X.K fd ps ds) (hd : Vals dvs ds) (hx : ∀ σ, PassesAt (L2.CX X.prog X.w) X σ (E σ)) (ha : PA X (e :: es) t)
    (hst : starEach (e :: es) X.env = (false, eval e X.env) :: starEach es X.env := by rfl) (hpl : (backTo pos (starEach es X.env)).any (·.1) = false := by rfl)
    (ht : eval (.Call (.Attribute o m apos) (e :: es) [] pos) X.env = (do
      let ov ← eval o X.env
      standAt apos.atName
      let (f, first) ← holding [ov] (getMethod ov m pl)
      callWith pos f first (backTo pos (starEach (e :: es) X.env)) (backToKw pos (keywordEach [] X.env))) := by rfl) :
    PE X (.Call (.Attribute o m apos) (e :: es) [] pos) (tMethS C m sp dvs E ta t) := by
  refine ⟨fun pins s σ H Q I h => ?_⟩
  refine PySem.W.methodCall_KW (pl := pl) (thn (he.run pins s σ H _ I h) fun u s1 ⟨x, H1, I1, rx, a, dx, fs, ex, ea, l, q⟩ => ?_) ht
  subst ex
  obtain rfl : u = Value.ref a := rx
  refine getmeth_ok I1 ea c hm l ?_
  refine PySem.W.callWith_K (first := [.ref a]) (h₀ := X.base) I.ok.mod.kin hm.kp (thn (ha.run pos pins s1 σ H1 _ I1 q) fun us s2 ⟨vs, H2, I2, r, q2⟩ => ⟨I2.kIn, ?_⟩) hst hpl
  exact run_fnSD (us := .ref a :: us) (vs := .ref a :: vs) F hr hb hd (hx σ) I2 (.cons rfl r) q2
theorem meth0_S {sp : Sp} {E : L2.St → XK} {ta : TE} {pl : Sem Bool} (he : PE X o ta) (c : Cls X.K C) (hm : Meth X.K C m f) (F : FnOk X.prog X.w X.K X.mg X.base (L2.CX X.prog X.w) k f fd ps sp) (hr : Room k X.A) (hb : Binds X.K fd ps ds) (hd : Vals dvs ds) (hx : ∀ σ, PassesAt (L2.CX X.prog X.w) X σ (E σ))
    (ht : eval (.Call (.Attribute o m apos) [] [] pos) X.env = (do
      let ov ← eval o X.env
      standAt apos.atName
      let (f, first) ← holding [ov] (getMethod ov m pl)
      callWith pos f first (backTo pos (starEach [] X.env)) (backToKw pos (keywordEach [] X.env))) := by rfl) :
    PE X (.Call (.Attribute o m apos) [] [] pos) (tMethS C m sp dvs E ta tNil) := by
  refine ⟨fun pins s σ H Q I h => ?_⟩
  refine PySem.W.methodCall_KW (pl := pl) (thn (he.run pins s σ H _ I h) fun u s1 ⟨x, H1, I1, rx, a, dx, fs, ex, ea, l, q⟩ => ?_) ht
  subst ex
  obtain rfl : u = Value.ref a := rx
  refine getmeth_ok I1 ea c hm l ?_
  exact PySem.W.callWith_K0 (first := [.ref a]) I1.kIn hm.kp (run_fnSD (us := [.ref a]) (vs := [.ref a]) F hr hb hd (hx σ) I1 (.cons rfl .nil) q)
theorem RepF.none {K : Kf} {F : Hp} {n : Str} : ∀ {fs : List (Str × D)} {ws : List (Str × V)}, RepF K F fs ws → fs.lookup n = none → ws.lookup n = none
  | _, _, .nil, _ => rfl
  | (k, d) :: fs, (_, v) :: ws, .cons _ r, h => by
    rw [List.lookup_cons] at h ⊢
    cases e : n == k with
    | true => rw [e] at h; cases h
    | false =>
      rw [e] at h
      exact RepF.none r h
theorem RepF.some {K : Kf} {F : Hp} {n : Str} {d : D} : ∀ {fs : List (Str × D)} {ws : List (Str × V)}, RepF K F fs ws → fs.lookup n = some d → ∃ v, ws.lookup n = some v ∧ Rep K F d v
  | (k, d) :: fs, (_, v) :: ws, .cons a r, h => by
    rw [List.lookup_cons] at h ⊢
    cases e : n == k with
    | true =>
      rw [e] at h
      cases h
      exact ⟨v, rfl, a⟩
    | false =>
      rw [e] at h
      exact RepF.some r h
/-- the cell of an instance -/
def onIns (h : MH) (d : D) (C : Addr) (k : Addr → List (Str × D) → Prop) : Prop := match d with
  | .ref a => (match h a with
    | .some (.ins C' fs) => C' = C ∧ k a fs
    | _ => False)
  | _ => False
theorem ins_of {K : Kf} {B F : Hp} {E : En} {h : MH} {σ : L2.St} {H : Hp} {d : D} {v : V} {C : Addr} {k : Addr → List (Str × D) → Prop} (R : Rel K B F E h σ H) (r : Rep K F d v) (q : onIns h d C k) :
    ∃ a fs dx ws, v = .ref a ∧ d = .ref a ∧ h a = Option.some (.ins C fs) ∧ H a = Option.some (.ins C dx ws) ∧ RepF K F fs ws ∧ k a fs := by
  cases r with
  | ref a =>
    have q : (match h a with
      | Option.some (.ins C' fs) => C' = C ∧ k a fs
      | _ => False) := q
    cases e : h a with
    | none => rw [e] at q; exact q.elim
    | some m =>
      rw [e] at q
      cases m with
      | ins C' fs =>
        obtain ⟨rfl, q2⟩ := q
        obtain ⟨dx, ws, e2, rs⟩ := R.cel a _ e
        exact ⟨a, fs, dx, ws, rfl, rfl, e, e2, rs, q2⟩
      | lst xs => exact q.elim
      | dct xs => exact q.elim
  | _ => exact q.elim
def mMeth (C : Addr) (m : Str) (sp : MSp) (dds : List D) (to : TVm) (t : TAm) : TEm := fun E h Kn Kx => to E h (fun d h' => onIns h' d C fun _ fs => fs.lookup m = none ∧ t E h' (fun ds h2 => sp (d :: (ds ++ dds)) h2 Kn Kx) Kx) Kx
theorem meth_ok {K : Kf} {B : Hp} {σ : L2.St} {H : Hp} {Q : VK} (hdd : ∀ K F, Reps K F dds dvs) (q : LE K B W (mMeth C m sp dds to t) σ H Q) : tMethS C m (LSp K sp) dvs (WE W) (LV K B W to) (LA K B W t) σ H Q := by
  obtain ⟨F, E, h, Kn, Kx, R, ht, hx, hn⟩ := q
  refine ⟨F, E, h, _, Kx, R, ht, hx, fun d h' F' H' v l R' rp k => ?_⟩
  obtain ⟨a, fs, dx, ws, rfl, rfl, ea, eH, rs, hl, k⟩ := ins_of R' rp k
  refine ⟨a, dx, ws, rfl, eH, RepF.none rs hl, F', E, h', _, Kx, R', k, hx.up l, fun ds2 h2 F2 H2 vs2 l2 R2 r2 k2 => ?_⟩
  exact sp_ok R2 (.cons (rp.mono l2) (r2.app (hdd _ _))) k2 (hx.up (l.trans l2)) fun r h2 F2 H2 v l3 R2 q2 k2 => hn r h2 F2 H2 v ((l.trans l2).trans l3) R2 q2 k2
theorem me_meth {pl : Sem Bool} (he : MV X W o to) (c : Cls X.K C) (hm : Meth X.K C m f) (F : FM X.prog X.w X.K X.mg X.base k f fd ps sp) (hr : Room k X.A) (hb : Binds X.K fd ps ds) (hd : Vals dvs ds) (hdd : ∀ K F, Reps K F dds dvs) (tk : Takes X W) (ha : MA X W (e :: es) t)
    (hst : starEach (e :: es) X.env = (false, eval e X.env) :: starEach es X.env := by rfl) (hpl : (backTo pos (starEach es X.env)).any (·.1) = false := by rfl)
    (ht : eval (.Call (.Attribute o m apos) (e :: es) [] pos) X.env = (do
      let ov ← eval o X.env
      standAt apos.atName
      let (f, first) ← holding [ov] (getMethod ov m pl)
      callWith pos f first (backTo pos (starEach (e :: es) X.env)) (backToKw pos (keywordEach [] X.env))) := by rfl) :
    ME X W (.Call (.Attribute o m apos) (e :: es) [] pos) (mMeth C m sp dds to t) := fun B => (meth_S (E := WE W) (he B) c hm F hr hb hd (fun σ => passAt tk σ) (ha B) hst hpl ht).impM fun _ _ _ q => meth_ok hdd q
theorem me_meth0 {pl : Sem Bool} (he : MV X W o to) (c : Cls X.K C) (hm : Meth X.K C m f) (F : FM X.prog X.w X.K X.mg X.base k f fd ps sp) (hr : Room k X.A) (hb : Binds X.K fd ps ds) (hd : Vals dvs ds) (hdd : ∀ K F, Reps K F dds dvs) (tk : Takes X W)
    (ht : eval (.Call (.Attribute o m apos) [] [] pos) X.env = (do
      let ov ← eval o X.env
      standAt apos.atName
      let (f, first) ← holding [ov] (getMethod ov m pl)
      callWith pos f first (backTo pos (starEach [] X.env)) (backToKw pos (keywordEach [] X.env))) := by rfl) :
    ME X W (.Call (.Attribute o m apos) [] [] pos) (mMeth C m sp dds to mNil) := fun B => (meth0_S (E := WE W) (he B) c hm F hr hb hd (fun σ => passAt tk σ) ht).impM fun _ _ _ ⟨F, E, h, Kn, Kx, R, ht, hx, hn⟩ => by
  refine ⟨F, E, h, _, Kx, R, ht, hx, fun d h' F' H' v l R' rp k => ?_⟩
  obtain ⟨a, fs, dx, ws, rfl, rfl, ea, eH, rs, hl, k⟩ := ins_of R' rp k
  refine ⟨a, dx, ws, rfl, eH, RepF.none rs hl, ?_⟩
  exact sp_ok (ds := .ref a :: ([] ++ dds)) (vs := .ref a :: ([] ++ dvs)) R' (.cons rp (hdd _ _)) k (hx.up l) fun r h2 F2 H2 v l3 R2 q2 k2 => hn r h2 F2 H2 v (l.trans l3) R2 q2 k2
/-! C(..): a new instance -/
def tMakeS (C : Addr) (sp : Sp) (dvs : List V) (E : L2.St → XK) (t : TA) : TE := fun σ H Q => t σ H fun vs H1 => ∀ x dx, H1 x = none → H1 dx = none → dx ≠ x →
  sp (.ref x :: (vs ++ dvs)) (upd (upd H1 dx (.own x)) x (.ins C dx [])) (fun v H2 => v = .non ∧ Q (.ref x) H2) (E σ)
theorem run_makeS {sp : Sp} {E : XK} {pins : List (Addr × Obj)} {σ : L2.St} {H : Hp} {s : Shared} {Q : VK} {us : List Value} {vs : List V} (M : Mk X.K C f) (F : FnOk X.prog X.w X.K X.mg X.base (L2.CX X.prog X.w) k f fd ps sp) (hr : Room (k + 1) X.A) (hb : Binds X.K fd ps ds) (hd : Vals dvs ds)
    (hx : PassesAt (L2.CX X.prog X.w) X σ E) (I : Inv X pins σ H s) (r : Vals vs us)
    (h : ∀ x dx, H x = none → H dx = none → dx ≠ x → sp (.ref x :: (vs ++ dvs)) (upd (upd H dx (.own x)) x (.ins C dx [])) (fun v H2 => v = .non ∧ Q (.ref x) H2) E) :
    wpAny (model X.prog X.w) X.A (call (.ref C) us) (EP X pins σ Q) X.xe s := by
  have hq := h (s.heap.objs.size + 1) s.heap.objs.size (I.hok.fresh (Nat.le_succ _)) (I.hok.fresh (Nat.le_refl _)) (Nat.ne_of_lt (Nat.lt_succ_self _))
  have I2 := Inv.made (C := C) I
  have r2 : Vals (V.ref (s.heap.objs.size + 1) :: (vs ++ dvs)) (Value.ref (s.heap.objs.size + 1) :: (us ++ ds)) := .cons rfl (r.append hd)
  have hl : (Value.ref (s.heap.objs.size + 1) :: us ++ ds).length = ps.length := by
    have e := r2.length
    rw [F.len _ _ _ _ hq] at e
    exact e.symm
  refine wpAny_call (make_map (f := f) I.kIn M.makes M.init (beq_iff_eq.mp M.fn) (codeAny_mono (F.run _ X.stack _ _ ⟨Value.ref (s.heap.objs.size + 1) :: us, []⟩ (Value.ref (s.heap.objs.size + 1) :: (us ++ ds)) _ _ E (hr.make C us [])
    (I2.env0.make C us []) (hb _ (Value.ref (s.heap.objs.size + 1) :: us) I2.kIn hl) r2 hq) fun r s' hq' => ?_))
  cases r with
  | error e => exact hx pins _ _ e s' I2 hq'
  | ok fl =>
    cases fl with
    | ret u =>
      obtain ⟨v, H', I3, rv, ev, q3⟩ := I2.after hq'
      subst ev
      exact ⟨rv, ⟨V.ref (s.heap.objs.size + 1), H', I3, rfl, q3⟩⟩
    | next => exact False.elim hq'
    | brk => exact False.elim hq'
    | cont => exact False.elim hq'
theorem make_S {sp : Sp} {E : L2.St → XK} {t : TA} (M : Mk X.K C f) (F : FnOk X.prog X.w X.K X.mg X.base (L2.CX X.prog X.w) k f fd ps sp) (hr : Room (k + 1) X.A) (hg : Gl X x) (hm : X.mg x = some (.ref C)) (hb : Binds X.K fd ps ds) (hd : Vals dvs ds) (hx : ∀ σ, PassesAt (L2.CX X.prog X.w) X σ (E σ))
    (ha : PA X (e :: es) t) (hdb : (x == ("__debug__" : Str)) = false := by decide) (he : starEach (e :: es) X.env = (false, eval e X.env) :: starEach es X.env := by rfl) (hpl : (backTo pos (starEach es X.env)).any (·.1) = false := by rfl) :
    PE X (.Call (.Name x p) (e :: es) [] pos) (tMakeS C sp dvs E t) := by
  refine ⟨fun pins s σ H Q I h => ?_⟩
  refine wpAny_Call_Name_kw (ld_glob I hg hm ?_ hdb)
  refine PySem.W.callWith_K (h₀ := X.base) I.ok.mod.kin M.kp (thn (ha.run pos pins s σ H _ I h) fun us s1 ⟨vs, H1, I1, r, q⟩ => ⟨I1.kIn, ?_⟩) he hpl
  exact run_makeS M F hr hb hd (hx σ) I1 r q
def mMake (C : Addr) (sp : MSp) (dds : List D) (t : TAm) : TEm := fun E h Kn Kx => t E h (fun ds h' => ∀ x, h' x = none → sp (.ref x :: (ds ++ dds)) (put h' x (.ins C [])) (fun r h2 => Kn (.d (.ref x)) h2) Kx) Kx
theorem make_ok {K : Kf} {B : Hp} {σ : L2.St} {H : Hp} {Q : VK} (hnon : ∀ ds h Kn Kx, sp ds h Kn Kx → sp ds h (fun r h' => r = .d .non ∧ Kn r h') Kx) (hdd : ∀ K F, Reps K F dds dvs) (q : LE K B W (mMake C sp dds t) σ H Q) : tMakeS C (LSp K sp) dvs (WE W) (LA K B W t) σ H Q := by
  obtain ⟨F, E, h, Kn, Kx, R, ht, hx, hn⟩ := q
  refine ⟨F, E, h, _, Kx, R, ht, hx, fun ds h' F' H' vs l R' r k => ?_⟩
  intro x dx nx ndx nex
  have R1 : Rel K B F' E h' σ (upd H' dx (.own x)) := R'.newO ndx
  have nx1 : (upd H' dx (.own x)) x = none := by rw [upd_ne nex.symm]; exact nx
  have R2 : Rel K B F' E h' σ (upd (upd H' dx (.own x)) x (.ins C dx [])) := R1.newO nx1
  have R3 := R2.toC (p := x) (m := .ins C []) ⟨dx, [], upd_same, .nil⟩ (R'.noB nx) (R'.noF nx)
  refine sp_ok R3 (.cons (.ref x) (r.app (hdd _ _))) (hnon _ _ _ _ (k x (R'.noh nx))) (hx.up l) fun r h2 F2 H2 v l2 R2 q2 k2 => ?_
  obtain ⟨rfl, k2⟩ := k2
  refine ⟨?_, hn (.d (.ref x)) h2 F2 H2 _ (l.trans l2) R2 (.ref x) k2⟩
  cases q2
  rfl
theorem me_make (M : Mk X.K C f) (F : FM X.prog X.w X.K X.mg X.base k f fd ps sp) (hnon : ∀ ds h Kn Kx, sp ds h Kn Kx → sp ds h (fun r h' => r = .d .non ∧ Kn r h') Kx) (hr : Room (k + 1) X.A) (hg : Gl X x) (hm : X.mg x = some (.ref C)) (hb : Binds X.K fd ps ds) (hd : Vals dvs ds) (hdd : ∀ K F, Reps K F dds dvs) (tk : Takes X W)
    (ha : MA X W (e :: es) t) (hdb : (x == ("__debug__" : Str)) = false := by decide) (he : starEach (e :: es) X.env = (false, eval e X.env) :: starEach es X.env := by rfl) (hpl : (backTo pos (starEach es X.env)).any (·.1) = false := by rfl) :
    ME X W (.Call (.Name x p) (e :: es) [] pos) (mMake C sp dds t) := fun B => (make_S (E := WE W) M F hr hg hm hb hd (fun σ => passAt tk σ) (ha B) hdb he hpl).impM fun _ _ _ q => make_ok hnon hdd q

/-! ### fields -/
def mFld (C : Addr) (n : Str) (t : TVm) : TVm := fun E h Kn Kx => t E h (fun d h' => onIns h' d C fun _ fs => match fs.lookup n with
  | some y => Kn y h'
  | none => False) Kx
theorem mv_fld (he : MV X W e to) (c : Cls X.K C) (na : NoAttr X.K C m) (hb : attributeBase e m X.env (eval e X.env) = eval e X.env := by rfl) : MV X W (.Attribute e m pos) (mFld C m to) := fun B => (pe_fld (he B) hb).impM fun σ H Q ⟨F, E, h, Kn, Kx, R, ht, hx, hn⟩ => by
  refine ⟨F, E, h, _, Kx, R, ht, hx, fun d h' F' H' v l R' rp k => ?_⟩
  obtain ⟨a, fs, dx, ws, rfl, rfl, ea, eH, rs, k⟩ := ins_of R' rp k
  cases e2 : fs.lookup m with
  | none => rw [e2] at k; exact k.elim
  | some y =>
    rw [e2] at k
    obtain ⟨u, eu, ru⟩ := RepF.some rs e2
    exact ⟨a, C, dx, ws, u, rfl, eH, c, na, eu, hn y h' F' H' u l R' ru k⟩
def putD (n : Str) (v : D) : List (Str × D) → List (Str × D)
  | [] => [(n, v)]
  | (g, x) :: r => if g = n then (g, v) :: r else (g, x) :: putD n v r
theorem RepF.put {K : Kf} {F : Hp} {n : Str} {d : D} {v : V} (a : Rep K F d v) : ∀ {fs : List (Str × D)} {ws : List (Str × V)}, RepF K F fs ws → RepF K F (putD n d fs) (putF n v ws)
  | _, _, .nil => .cons a .nil
  | (g, x) :: r, (_, y) :: s, .cons b t => by
    show RepF K F (if g = n then _ else _) (if g = n then _ else _)
    split
    · exact .cons a t
    · exact .cons b (RepF.put a t)
def sFldM (C : Addr) (n : Str) (to tv : TVm) : TSm := fun N E h => tv E h (fun y h1 => to E h1 (fun d h2 => onIns h2 d C fun a fs => fs.length < 1000 ∧ N.nx E (put h2 a (.ins C (putD n y fs)))) N.xs) N.xs
theorem ms_fld {value : Expr} {pos' : Pos} {tv : TVm} (ha : MV X W o to) (hv : MV X W value tv) (c : Cls X.K C) (na : NoAttr X.K C m) (hs : swapsWith value (some (.Attribute o m pos')) pos.line X.env = pure false := by rfl) : MS X W (.Assign [.Attribute o m pos'] value pos) (sFldM C m to tv) := fun B =>
  (ps_fld (ha B) (hv B) hs).impM fun D σ H ⟨F, E, h, N, R, ht, cc⟩ => by
    refine ⟨F, E, h, _, N.xs, R, ht, fun x h' F' H' a dx l R' q k => cc.2.2.2.2 x h' F' E σ H' a dx l R' q k, fun y h1 F1 H1 u l1 R1 r1 k1 => ?_⟩
    refine ⟨F1, E, h1, _, N.xs, R1, k1, fun x h' F' H' a dx l R' q k => cc.2.2.2.2 x h' F' E σ H' a dx (l1.trans l) R' q k, fun d h2 F2 H2 v l2 R2 r2 k2 => ?_⟩
    obtain ⟨a, fs, dx, ws, rfl, rfl, ea, eH, rs, hl, k2⟩ := ins_of R2 r2 k2
    refine ⟨a, C, dx, ws, rfl, eH, c, na, by rw [← rs.len]; exact hl, ?_⟩
    exact cc.1 E _ F2 σ _ (l1.trans l2) (R2.write (m' := .ins C (putD m y fs)) ea ⟨dx, _, upd_same, RepF.put (r1.mono l2) rs⟩) k2
end
/-! ### a def keeps its promise -/
section
variable {P : Program} {w : World} {K : Kf} {mg : Str → Option Value} {base : Heap}
def startE (N : List Str) (ds : List D) : En := ds.map some ++ List.replicate (N.length - ds.length) none
theorem slots_start {F : Hp} : ∀ {ds : List D} {vs : List V} {n : Nat}, Reps K F ds vs → Slots K F (ds.map some ++ List.replicate n none) (vs.map some ++ List.replicate n none)
  | _, _, 0, .nil => .nil
  | _, _, n + 1, .nil => by
    rw [List.replicate_succ, List.replicate_succ]
    exact .non (slots_start (n := n) .nil)
  | _, _, _, .cons a r => .val a (slots_start r)
/-- what a def's body is to reach -/
def subH (h2 h' : MH) : Prop := ∀ a m, h2 a = some m → h' a = some m
def bodyN (Kn : RV → MH → Prop) (Kx : XKm) : Nd where
  nx := fun _ h' => ∃ h2 : MH, subH h2 h' ∧ Kn (.d .non) h2
  rt := fun r h' => ∃ h2 : MH, subH h2 h' ∧ Kn r h2
  xs := fun x h' => ∃ h2 : MH, subH h2 h' ∧ Kx x h2
abbrev WB (E : XK) : WX := fun c d _ H => E c d H
theorem fm_of {x qual : Str} {st : Stmt} {f : Addr} {fd : FuncData} {N ps : List Str} {k : Nat} {sp : MSp} (F : Fun K x qual st f fd) (S : FnScope N ps (defScope st)) (len : ∀ ds h Kn Kx, sp ds h Kn Kx → ds.length = ps.length)
    (hb : ∀ (cdv : Value) (A : Around) (outer : List Env) (s : Shared) (H : Hp) (E : XK), Room k (A.deeper (envOfC qual (defScope st) s.heap.objs.size f cdv)) →
      ∃ t, MB (cxOf (L2.CX P w) P w K mg base N qual (defScope st) f cdv A outer s H E) (WB E) (defBody st) t ∧ ∀ ds h Kn Kx, sp ds h Kn Kx → t (bodyN Kn Kx) (startE N ds) h) : FM P w K mg base (k + 1) f fd ps sp := by
  refine F.okX S (fun vs H Q E ⟨B, Fh, h, ds, Kn, Kx, R, r, q, _⟩ => by rw [← r.len]; exact len _ _ _ _ q) (fun cdv A outer s H vs Q E hr ⟨B, Fh, h, ds, Kn, Kx, R, r, q, hn, hx⟩ => ?_)
  obtain ⟨t, ht, hq⟩ := hb cdv A outer s H E hr
  refine ⟨_, ht B, Fh, startE N ds, h, bodyN Kn Kx, R.slots ?_, hq ds h Kn Kx q, ?_, ?_, ?_, ?_, ?_⟩
  · unfold startE L2.start
    rw [r.len]
    exact slots_start r
  · rintro E' h' F' σ' H' l R' ⟨h2, sub, k⟩
    exact hn (.d .non) h2 F' H' .non l ((R'.slots .nil).less sub) .non k
  · rintro r h' F' E' σ' H' v l R' q ⟨h2, sub, k⟩
    refine hn r h2 F' H' v l ((R'.slots .nil).less sub) ?_ k
    have nn : ∀ l, h' l = none → h2 l = none := fun l z => by
      cases e : h2 l with
      | none => rfl
      | some m =>
        have := sub l m e
        rw [z] at this
        cases this
    cases r with
    | d x => exact q
    | ol xs =>
      obtain ⟨l, vs, e, e2, rs, q1, q2, q3⟩ := q
      exact ⟨l, vs, e, e2, rs, q1, q2, nn l q3⟩
    | od xs =>
      obtain ⟨l, vs, e, e2, rs, q1, q2, q3⟩ := q
      exact ⟨l, vs, e, e2, rs, q1, q2, nn l q3⟩
  · exact fun _ _ _ _ _ _ _ z => z.elim
  · exact fun _ _ _ _ _ _ _ z => z.elim
  · rintro x h' F' E' σ' H' c dx l R' q ⟨h2, sub, k⟩
    exact hx x h2 F' H' c dx l ((R'.slots .nil).less sub) q k
end
end M3
set_option Elab.async false
set_option linter.all false
set_option maxRecDepth 100000
set_option maxHeartbeats 4000000
namespace L2
open PySem PySem.Spec PyProof.Rows
theorem m3_tuple_mul1 (l : Addr) (items : Array Value) (n : Nat) (dd : Option Addr) (sl : Array (Option Value)) (u : Tok) :
    Meets (Builtin.«tuple.__mul__» ⟨[.ref l, .int 1 u], []⟩) (fun _ R s => s.heap.get? l = some { cls := .type "tuple", dict := dd, data := .seq items n, slots := sl } ∧ R (.ok (.ret (Value.ref l))) s) :=
  .of_wp fun prog w A R s h => by
    obtain ⟨hp, g, d, tk, os⟩ := s
    obtain ⟨hl, h⟩ := h
    have f1 := AutoSeq1.idx_int
    wp_walk using wpAny_loadPart' hl
    exact ⟨_, rfl, h⟩
def m3Rep1 (K : PySem.W.Frag) : R2 := fun x y H Q => ∃ l xs, x = .ref l ∧ y = .int 1 ∧ SqT K H l xs ∧ Q (.ref l) H
theorem m3op_rep1 {X : Cx} : OpR X (binaryOp .Mult) (m3Rep1 X.K) := by
  intro pins s σ H x y v u Q I rx ry h
  obtain ⟨l, xs, rfl, rfl, hT, q⟩ := h
  cases rx
  obtain ⟨t, rfl⟩ := ry
  obtain ⟨its, r, ⟨⟨cls, dd, data, sl⟩, ho, hc, n, hd⟩, hs⟩ := I.tuple hT
  simp only at hc hd
  subst hc hd
  exact wpAny_binaryOp_repeat_ref (T := "tuple") (U := "int") (by decide) ⟨_, ho, rfl⟩ (fun s' => typeIs_int s' 1 t) noFill_tuple_mul F.fills_int_mul F.slot_int_rmul repeat_tuple F.slot_int_index.lookup
    (call_meets F.slot_int_rmul (typeIs_int s 1 t) F.entry_int_rmul (F.args_int_rmul_2 _ _) (int_rmul_tuple 1 t l its.toArray n dd sl)
      ⟨ho, rfl, ⟨_, ho, rfl⟩, call_meets F.slot_tuple_mul ⟨_, ho, rfl⟩ F.entry_tuple_mul (F.args_tuple_mul_2 _ _) (m3_tuple_mul1 l its.toArray n dd sl t) ⟨ho, .ref l, H, I, rfl, q⟩⟩)
end L2
namespace M3
open PySem PySem.Spec PyProof.Rows L2
/-! ### views -/
/-- a list -/
def onL (h : MH) (d : D) (k : List D → Prop) : Prop := match d with
  | .lst xs => k xs
  | .ref p => (match h p with
    | some (.lst xs) => k xs
    | _ => False)
  | _ => False
/-- a list or a tuple, to be read -/
def onQ (h : MH) (d : D) (k : List D → Prop) : Prop := match d with
  | .lst xs => k xs
  | .tup xs => k xs
  | .scr ns => k (ns.map D.int)
  | .ref p => (match h p with
    | some (.lst xs) => k xs
    | _ => False)
  | _ => False
def onD (h : MH) (d : D) (k : List (Key × D) → Prop) : Prop := match d with
  | .dct xs => k xs
  | .ref p => (match h p with
    | some (.dct xs) => k xs
    | _ => False)
  | _ => False
def onInt (d : D) (k : Int → Prop) : Prop := match d with
  | .int i => k i
  | _ => False
def onStr (d : D) (k : Str → Prop) : Prop := match d with
  | .str i => k i
  | _ => False
def onTup (d : D) (k : List D → Prop) : Prop := match d with
  | .tup i => k i
  | _ => False
section
variable {K : Kf} {B F : Hp} {E : En} {h : MH} {σ : L2.St} {H : Hp} {d : D} {v : V}
theorem lst_of {k : List D → Prop} (R : Rel K B F E h σ H) (r : Rep K F d v) (q : onL h d k) : ∃ a xs vs, v = .ref a ∧ H a = some (.lst vs) ∧ Reps K F xs vs ∧ k xs := by
  cases r with
  | lst e rs => exact ⟨_, _, _, rfl, (R.frz _ _ e).1, rs, q⟩
  | ref a =>
    have q : (match h a with
      | some (.lst xs) => k xs
      | _ => False) := q
    cases e : h a with
    | none => rw [e] at q; exact q.elim
    | some m =>
      rw [e] at q
      cases m with
      | lst xs =>
        obtain ⟨vs, e2, rs⟩ := R.cel a _ e
        exact ⟨a, xs, vs, rfl, e2, rs, q⟩
      | dct xs => exact q.elim
      | ins C fs => exact q.elim
  | _ => exact q.elim
theorem seq_of {k : List D → Prop} (R : Rel K B F E h σ H) (r : Rep K F d v) (q : onQ h d k) : ∃ a xs vs, v = .ref a ∧ (SqL K H a vs ∨ SqT K H a vs) ∧ Reps K F xs vs ∧ k xs := by
  cases r with
  | lst e rs => exact ⟨_, _, _, rfl, .inl (.of (R.frz _ _ e).1), rs, q⟩
  | tup e rs => exact ⟨_, _, _, rfl, .inr (R.sqT e), rs, q⟩
  | scr e => exact ⟨_, _, _, rfl, .inl (R.sqL e), Reps.ints _, q⟩
  | ref a =>
    have q : (match h a with
      | some (.lst xs) => k xs
      | _ => False) := q
    cases e : h a with
    | none => rw [e] at q; exact q.elim
    | some m =>
      rw [e] at q
      cases m with
      | lst xs =>
        obtain ⟨vs, e2, rs⟩ := R.cel a _ e
        exact ⟨a, xs, vs, rfl, .inl (.of e2), rs, q⟩
      | dct xs => exact q.elim
      | ins C fs => exact q.elim
  | _ => exact q.elim
theorem dct_of {k : List (Key × D) → Prop} (R : Rel K B F E h σ H) (r : Rep K F d v) (q : onD h d k) : ∃ a xs vs, v = .ref a ∧ Rd H a (.dK vs) ∧ RepK K F xs vs ∧ k xs := by
  cases r with
  | dct e rs => exact ⟨_, _, _, rfl, R.rd e, rs, q⟩
  | ref a =>
    have q : (match h a with
      | some (.dct xs) => k xs
      | _ => False) := q
    cases e : h a with
    | none => rw [e] at q; exact q.elim
    | some m =>
      rw [e] at q
      cases m with
      | dct xs =>
        obtain ⟨vs, e2, rs⟩ := R.cel a _ e
        exact ⟨a, xs, vs, rfl, .inl e2, rs, q⟩
      | lst xs => exact q.elim
      | ins C fs => exact q.elim
  | _ => exact q.elim
theorem int_of {k : Int → Prop} (r : Rep K F d v) (q : onInt d k) : ∃ i, v = .int i ∧ d = .int i ∧ k i := by
  cases r with
  | int i => exact ⟨i, rfl, rfl, q⟩
  | _ => exact q.elim
theorem str_of {k : Str → Prop} (r : Rep K F d v) (q : onStr d k) : ∃ i, v = .str i ∧ d = .str i ∧ k i := by
  cases r with
  | str i => exact ⟨i, rfl, rfl, q⟩
  | _ => exact q.elim
theorem tup_of {k : List D → Prop} (R : Rel K B F E h σ H) (r : Rep K F d v) (q : onTup d k) : ∃ a xs vs, v = .ref a ∧ SqT K H a vs ∧ Reps K F xs vs ∧ d = .tup xs ∧ k xs := by
  cases r with
  | tup e rs => exact ⟨_, _, _, rfl, R.sqT e, rs, rfl, q⟩
  | _ => exact q.elim
theorem OpR.or2 {X : Cx} {f : Value → Value → Sem Value} {r r' : R2} (h : OpR X f r) (h' : OpR X f r') : OpR X f (fun x y H Q => r x y H Q ∨ r' x y H Q) := h.or h'
end

/-! ### arithmetic -/
def gII (C : Int → Int → Prop) (f : Int → Int → D) : G2 := fun x y h Kn => onInt x fun i => onInt y fun j => C i j ∧ Kn (.d (f i j)) h
section
variable {X : Cx} {W : WX}
theorem has_int {K : Kf} {C : Int → Int → Prop} {f : Int → Int → D} {g : Int → Int → V} (hr : ∀ F i j, Rep K F (f i j) (g i j)) : Has2 K (rI C g) (gII C f) := by
  intro B F E h σ H x y vx vy Q Kn R rx ry q hn
  obtain ⟨i, rfl, rfl, q⟩ := int_of rx q
  obtain ⟨j, rfl, rfl, c, q⟩ := int_of ry q
  exact ⟨i, j, rfl, rfl, c, hn (.d (f i j)) h F H _ (Le.refl F) R (hr F i j) q⟩
theorem has_int0 {K : Kf} {f : Int → Int → D} {g : Int → Int → V} (hr : ∀ F i j, Rep K F (f i j) (g i j)) : Has2 K (rI0 g) (gII (fun _ _ => True) f) := by
  intro B F E h σ H x y vx vy Q Kn R rx ry q hn
  obtain ⟨i, rfl, rfl, q⟩ := int_of rx q
  obtain ⟨j, rfl, rfl, _, q⟩ := int_of ry q
  exact ⟨i, j, rfl, rfl, hn (.d (f i j)) h F H _ (Le.refl F) R (hr F i j) q⟩
theorem me_op {op : Operator} {r : R2} {g : G2} {a b : Expr} {pos : Pos} {ta tb : TVm} (ho : OpR X (binaryOp op) r) (hg : Has2 X.K r g) (ha : MV X W a ta) (hb : MV X W b tb) : ME X W (.BinOp a op b pos) (mOp g ta tb) := fun B => (pe_op ho (ha B) (hb B)).impM fun _ _ _ q => two hg q
theorem me_cmp {op : CmpOp} {r : R2} {g : G2} {a b : Expr} {pos : Pos} {ta tb : TVm} (ho : OpR X (compareOp op) r) (hg : Has2 X.K r g) (ha : MV X W a ta) (hb : MV X W b tb) (hm : behindInMarks op b = false) : ME X W (.Compare a [op] [b] pos) (mOp g ta tb) := fun B => (pe_cmpR ho (ha B) (hb B) hm).impM fun _ _ _ q => two hg q
/-- + -/
def gAdd : G2 := fun x y h Kn => match x, y with
  | .int i, .int j => Kn (.d (.int (i + j))) h
  | .str a, .str b => a.length + b.length ≤ sizeLine ∧ Kn (.d (.str (a ++ b))) h
  | .tup xs, .tup ys => xs.length + ys.length ≤ sizeLine ∧ Kn (.d (.tup (xs ++ ys))) h
  | x, y => onL h x fun xs => onL h y fun ys => xs.length + ys.length ≤ sizeLine ∧ Kn (.ol (xs ++ ys)) h
abbrev rAddA (K : Kf) : R2 := fun x y H Q => (rI0 (fun i j => .int (i + j)) x y H Q ∨ (∃ i j, x = .str i ∧ y = .str j ∧ i.length + j.length ≤ sizeLine ∧ Q (.str (i ++ j)) H)) ∨ (rCatA K x y H Q ∨ rCat x y H Q)
theorem op_addA : OpR X (binaryOp .Add) (rAddA X.K) := (op_add.or op_add_str).or (op_catA.or op_cat)
theorem has_add {K : Kf} : Has2 K (rAddA K) gAdd := by
  intro B F E h σ H x y vx vy Q Kn R rx ry q hn
  have lists : ∀ {x y : D} {vx vy : V}, Rep K F x vx → Rep K F y vy → (onL h x fun xs => onL h y fun ys => xs.length + ys.length ≤ sizeLine ∧ Kn (.ol (xs ++ ys)) h) → rAddA K vx vy H Q := by
    intro x y vx vy rx ry q
    obtain ⟨a, xs, vs, rfl, e, rs, q⟩ := lst_of R rx q
    obtain ⟨b, ys, ws, rfl, e2, rs2, hz, q⟩ := lst_of R ry q
    refine .inr (.inr ⟨a, b, vs, ws, rfl, rfl, e, e2, by rw [← rs.len, ← rs2.len]; exact hz, fun p hp => ?_⟩)
    exact hn (.ol _) h F _ _ (Le.refl F) (R.newO hp) ⟨p, _, rfl, upd_same, rs.app rs2, R.noB hp, R.noF hp, R.noh hp⟩ q
  match x, y, rx, ry, q with
  | .int i, .int j, .int _, .int _, q => exact .inl (.inl ⟨i, j, rfl, rfl, hn (.d (.int (i + j))) h F H _ (Le.refl F) R (.int _) q⟩)
  | .str i, .str j, .str _, .str _, q => exact .inl (.inr ⟨i, j, rfl, rfl, q.1, hn (.d (.str (i ++ j))) h F H _ (Le.refl F) R (.str _) q.2⟩)
  | .tup xs, .tup ys, rx, ry, q =>
    cases rx with
    | @tup a vs _ e rs =>
      cases ry with
      | @tup b ws _ e2 rs2 =>
        obtain ⟨hz, q⟩ := q
        have rt : ∀ {F' : Hp} {c : Addr}, Le F F' → SqT K F' c (vs ++ ws) → Rep K F' (.tup (xs ++ ys)) (.ref c) := fun l z => .tup z ((rs.app rs2).mono l)
        refine .inr (.inl ⟨a, b, vs, ws, rfl, rfl, R.sqT e, R.sqT e2, by rw [← rs.len, ← rs2.len]; exact hz, ?_, ?_, ?_⟩)
        · rintro rfl
          exact hn (.d (.tup _)) h F H _ (Le.refl F) R (rt (Le.refl F) (by simpa using e2)) q
        · rintro _ rfl
          exact hn (.d (.tup _)) h F H _ (Le.refl F) R (rt (Le.refl F) (by simpa using e)) q
        · intro _ _ p hp
          have l : Le F (upd F p (.tup (vs ++ ws))) := Le.new (R.noF hp)
          exact hn (.d (.tup _)) h _ _ _ l (R.newF hp) (rt l (.inl (.inl upd_same))) q
  | .lst _, y, rx, ry, q => exact lists rx ry (by cases y <;> exact q)
  | .ref _, y, rx, ry, q => exact lists rx ry (by cases y <;> exact q)
  | .int _, .non, _, _, q | .int _, .bl _, _, _, q | .int _, .str _, _, _, q | .int _, .tup _, _, _, q | .int _, .lst _, _, _, q | .int _, .dct _, _, _, q | .int _, .ref _, _, _, q | .int _, .scr _, _, _, q => exact q.elim
  | .str _, .non, _, _, q | .str _, .bl _, _, _, q | .str _, .int _, _, _, q | .str _, .tup _, _, _, q | .str _, .lst _, _, _, q | .str _, .dct _, _, _, q | .str _, .ref _, _, _, q | .str _, .scr _, _, _, q => exact q.elim
  | .tup _, .non, _, _, q | .tup _, .bl _, _, _, q | .tup _, .int _, _, _, q | .tup _, .str _, _, _, q | .tup _, .lst _, _, _, q | .tup _, .dct _, _, _, q | .tup _, .ref _, _, _, q | .tup _, .scr _, _, _, q => exact q.elim
  | .non, y, _, _, q | .bl _, y, _, _, q | .dct _, y, _, _, q | .scr _, y, _, _, q => cases y <;> exact q.elim
theorem me_add {a b : Expr} {pos : Pos} {ta tb : TVm} (ha : MV X W a ta) (hb : MV X W b tb) : ME X W (.BinOp a .Add b pos) (mOp gAdd ta tb) := me_op op_addA has_add ha hb
def gSub : G2 := gII (fun _ _ => True) fun i j => .int (i - j)
theorem me_sub {a b : Expr} {pos : Pos} {ta tb : TVm} (ha : MV X W a ta) (hb : MV X W b tb) : ME X W (.BinOp a .Sub b pos) (mOp gSub ta tb) := me_op op_sub (has_int0 fun _ _ _ => .int _) ha hb
def gMod : G2 := gII (fun _ j => 0 < j) fun i j => .int (i % j)
theorem me_mod {a b : Expr} {pos : Pos} {ta tb : TVm} (ha : MV X W a ta) (hb : MV X W b tb) : ME X W (.BinOp a .Mod b pos) (mOp gMod ta tb) := me_op op_mod (has_int fun _ _ _ => .int _) ha hb
def gDiv : G2 := gII (fun _ j => 0 < j ∧ j.natAbs.log2 < 9000) fun i j => .int (i / j)
theorem me_fdiv {a b : Expr} {pos : Pos} {ta tb : TVm} (ha : MV X W a ta) (hb : MV X W b tb) : ME X W (.BinOp a .FloorDiv b pos) (mOp gDiv ta tb) := me_op op_fdivW (has_int fun _ _ _ => .int _) ha hb
def gPow : G2 := gII CPow fun i j => .int (i ^ j.toNat)
theorem me_pow {a b : Expr} {pos : Pos} {ta tb : TVm} (ha : MV X W a ta) (hb : MV X W b tb) : ME X W (.BinOp a .Pow b pos) (mOp gPow ta tb) := me_op op_pow (has_int fun _ _ _ => .int _) ha hb
/-- *: ints; a list by an int; a tuple by an int from 2 on -/
def MulOk (i j : Int) : Prop := CMul i j ∨ CMulW i j
def gMul : G2 := fun x y h Kn => match x, y with
  | .int i, .int j => MulOk i j ∧ Kn (.d (.int (i * j))) h
  | .tup xs, .int k => (xs ≠ [] ∧ 1 ≤ k ∧ k ≤ 1000 ∧ xs.length ≤ 1000) ∧ Kn (.d (.tup (List.replicate k.toNat xs).flatten)) h
  | x, .int k => onL h x fun xs => (-(2 ^ 63) ≤ k ∧ k < 2 ^ 63 ∧ xs.length * k.toNat ≤ sizeLine) ∧ Kn (.ol (List.replicate k.toNat xs).flatten) h
  | _, _ => False
abbrev rMulA (K : Kf) : R2 := fun x y H Q => (rI CMul (fun i j => .int (i * j)) x y H Q ∨ rI CMulW (fun i j => .int (i * j)) x y H Q) ∨ ((m3Rep1 K x y H Q ∨ rRepT K x y H Q) ∨ rRep x y H Q)
theorem op_mulA : OpR X (binaryOp .Mult) (rMulA X.K) := (op_mul.or op_mulW).or ((m3op_rep1.or op_repT).or op_rep)
theorem has_mul {K : Kf} : Has2 K (rMulA K) gMul := by
  intro B F E h σ H x y vx vy Q Kn R rx ry q hn
  have lists : ∀ {x : D} {k : Int} {vx : V}, Rep K F x vx → (onL h x fun xs => (-(2 ^ 63) ≤ k ∧ k < 2 ^ 63 ∧ xs.length * k.toNat ≤ sizeLine) ∧ Kn (.ol (List.replicate k.toNat xs).flatten) h) → rMulA K vx (.int k) H Q := by
    intro x k vx rx q
    obtain ⟨a, xs, vs, rfl, e, rs, c, q⟩ := lst_of R rx q
    refine .inr (.inr ⟨a, k, vs, rfl, rfl, e, c.1, c.2.1, by rw [← rs.len]; exact c.2.2, fun p hp => ?_⟩)
    exact hn (.ol _) h F _ _ (Le.refl F) (R.newO hp) ⟨p, _, rfl, upd_same, rs.rep _, R.noB hp, R.noF hp, R.noh hp⟩ q
  match x, y, rx, ry, q with
  | .int i, .int j, .int _, .int _, q =>
    rcases q.1 with c | c
    · exact .inl (.inl ⟨i, j, rfl, rfl, c, hn (.d (.int (i * j))) h F H _ (Le.refl F) R (.int _) q.2⟩)
    · exact .inl (.inr ⟨i, j, rfl, rfl, c, hn (.d (.int (i * j))) h F H _ (Le.refl F) R (.int _) q.2⟩)
  | .tup xs, .int k, .tup (a := a) (vs := vs) e rs, .int _, q =>
    obtain ⟨⟨c1, c2, c3, c4⟩, q⟩ := q
    have ne : vs ≠ [] := fun z => c1 (List.length_eq_zero_iff.mp (by rw [rs.len, z]; rfl))
    by_cases k1 : k = 1
    · subst k1
      have er : (List.replicate (1 : Int).toNat xs).flatten = xs := by simp
      rw [er] at q
      exact .inr (.inl (.inl ⟨a, vs, rfl, rfl, R.sqT e, hn (.d (.tup xs)) h F H _ (Le.refl F) R (.tup e rs) q⟩))
    refine .inr (.inl (.inr ⟨a, k, vs, rfl, rfl, R.sqT e, ne, by omega, c3, by rw [← rs.len]; exact c4, fun p hp => ?_⟩))
    have l : Le F (upd F p (.tup (List.replicate k.toNat vs).flatten)) := Le.new (R.noF hp)
    exact hn (.d (.tup _)) h _ _ _ l (R.newF hp) (.tup (.inl (.inl upd_same)) ((rs.rep _).mono l)) q
  | .lst _, .int k, rx, .int _, q => exact lists rx q
  | .ref _, .int k, rx, .int _, q => exact lists rx q
  | .non, .int _, _, _, q | .bl _, .int _, _, _, q | .dct _, .int _, _, _, q | .scr _, .int _, _, _, q | .str _, .int _, _, _, q => exact q.elim
  | x, .non, _, _, q | x, .bl _, _, _, q | x, .str _, _, _, q | x, .tup _, _, _, q | x, .lst _, _, _, q | x, .dct _, _, _, q | x, .ref _, _, _, q | x, .scr _, _, _, q => cases x <;> exact q.elim
theorem me_mul {a b : Expr} {pos : Pos} {ta tb : TVm} (ha : MV X W a ta) (hb : MV X W b tb) : ME X W (.BinOp a .Mult b pos) (mOp gMul ta tb) := me_op op_mulA has_mul ha hb
def gNeg : G1 := fun x h Kn => onInt x fun i => Kn (.d (.int (-i))) h
theorem me_neg {a : Expr} {pos : Pos} {ta : TVm} (ha : MV X W a ta) : ME X W (.UnaryOp .USub a pos) (mUn gNeg ta) := fun B => (pe_un un_neg (ha B)).impM fun _ _ _ q => one (r := rU fun i => .int (-i)) (g := gNeg) (by
  intro B F E h σ H x vx Q Kn R rx q hn
  obtain ⟨i, rfl, rfl, q⟩ := int_of rx q
  exact ⟨i, rfl, hn (.d (.int (-i))) h F H _ (Le.refl F) R (.int _) q⟩) q
/-! ### comparisons -/
def gB (p : Int → Int → Bool) : G2 := gII (fun _ _ => True) fun i j => .bl (p i j)
theorem me_lt {a b : Expr} {pos : Pos} {ta tb : TVm} (ha : MV X W a ta) (hb : MV X W b tb) : ME X W (.Compare a [.Lt] [b] pos) (mOp (gB fun i j => decide (i < j)) ta tb) := me_cmp op_lt (has_int0 fun _ _ _ => .bl _) ha hb (nomark _)
theorem me_le {a b : Expr} {pos : Pos} {ta tb : TVm} (ha : MV X W a ta) (hb : MV X W b tb) : ME X W (.Compare a [.LtE] [b] pos) (mOp (gB fun i j => decide (i ≤ j)) ta tb) := me_cmp op_le (has_int0 fun _ _ _ => .bl _) ha hb (nomark _)
theorem me_gt {a b : Expr} {pos : Pos} {ta tb : TVm} (ha : MV X W a ta) (hb : MV X W b tb) : ME X W (.Compare a [.Gt] [b] pos) (mOp (gB fun i j => decide (j < i)) ta tb) := me_cmp op_gt (has_int0 fun _ _ _ => .bl _) ha hb (nomark _)
theorem me_ge {a b : Expr} {pos : Pos} {ta tb : TVm} (ha : MV X W a ta) (hb : MV X W b tb) : ME X W (.Compare a [.GtE] [b] pos) (mOp (gB fun i j => decide (j ≤ i)) ta tb) := me_cmp op_ge (has_int0 fun _ _ _ => .bl _) ha hb (nomark _)
/-- a < b < c of ints -/
def mChain (g g' : G2) (ta tb tc : TVm) : TEm := fun E h Kn Kx => ta E h (fun x h1 => tb E h1 (fun y h2 => g x y h2 fun r h3 => onBl r.frz fun b => if b = true then tc E h3 (fun z h4 => g' y z h4 Kn) Kx else Kn (.d (.bl false)) h3) Kx) Kx
theorem me_chain {op op' : CmpOp} {r r' : R2} {g g' : G2} {a b c : Expr} {pos : Pos} {ta tb tc : TVm} (ho : OpR X (compareOp op) r) (ho' : OpR X (compareOp op') r') (hg : Has2 X.K r g) (hg' : Has2 X.K r' g') (ha : MV X W a ta) (hb : MV X W b tb) (hc : MV X W c tc)
    (hm : lastMarks [op, op'] [b, c] = false := by with_unfolding_all rfl) : ME X W (.Compare a [op, op'] [b, c] pos) (mChain g g' ta tb tc) := fun B => (pe_chain ho ho' (ha B) (hb B) (hc B) hm).impM fun σ H Q ⟨F, E, h, Kn, Kx, R, ht, hx, hn⟩ => by
  refine ⟨F, E, h, _, Kx, R, ht, hx, fun x h1 F1 H1 v l1 R1 r1 k1 => ?_⟩
  refine ⟨F1, E, h1, _, Kx, R1, k1, hx.up l1, fun y h2 F2 H2 u l2 R2 r2 k2 => ?_⟩
  refine hg B F2 E h2 σ H2 x y v u _ _ R2 (r1.mono l2) r2 k2 fun r h3 F3 H3 w l3 R3 q3 k3 => ?_
  obtain ⟨F4, l4, R4, rp⟩ := q3.frz R3
  obtain ⟨b, rfl, e, k3⟩ := bl_of rp k3
  refine ⟨b, rfl, ?_⟩
  have l4 := ((l1.trans l2).trans l3).trans l4
  cases b with
  | false => exact hn (.d (.bl false)) h3 F4 H3 _ l4 R4 (.bl _) k3
  | true =>
    refine ⟨F4, E, h3, _, Kx, R4, k3, hx.up l4, fun z h5 F5 H5 w l5 R5 r5 k5 => ?_⟩
    exact hg' B F5 E h5 σ H5 y z u w Q Kn R5 ((r2.mono l3).mono ((show Le F3 F4 by assumption).trans l5)) r5 k5 fun r h' F' H' w l6 => hn r h' F' H' w ((l4.trans l5).trans l6)
end
end M3
set_option Elab.async false
set_option linter.all false
set_option maxRecDepth 100000
set_option maxHeartbeats 4000000
namespace M3
open PySem PySem.Spec PyProof.Rows L2
/-! ### == of data -/
mutual
def toP : D → PyData
  | .non => .none
  | .bl b => .bool b
  | .int i => .int i
  | .str x => .str x
  | .tup xs => .tuple (toPs xs)
  | .lst xs => .list (toPs xs)
  | _ => .none
def toPs : List D → List PyData
  | [] => []
  | x :: xs => toP x :: toPs xs
end
/-- plain data of at most that depth -/
def plD : Nat → D → Bool
  | _, .non | _, .bl _ | _, .int _ => true
  | _, .str x => PyData.strOk x
  | n + 1, .tup xs => xs.all (plD n)
  | n + 1, .lst xs => xs.all (plD n)
  | _, _ => false
def eqD (d e : D) : Bool := PyData.eqv (toP d) (toP e)
/-- what stands at a cell that is a list -/
def res (h : MH) (d : D) : D := match d with
  | .ref p => (match h p with
    | some (.lst xs) => .lst xs
    | _ => .ref p)
  | d => d
mutual
theorem dp_of {K : Kf} {F H : Hp} (sT : ∀ a xs, SqT K F a xs → SqT K H a xs) (sL : ∀ a xs, F a = some (.lst xs) → SqL K H a xs) : ∀ (n : Nat) (d : D) (v : V), Rep K F d v → plD n d = true → Dp K H v (toP d)
  | _, .non, _, .non, _ => by simp only [toP]; exact .non
  | _, .bl b, _, .bl _, _ => by simp only [toP]; exact .bl b
  | _, .int i, _, .int _, _ => by simp only [toP]; exact .int i
  | _, .str x, _, .str _, _ => by simp only [toP]; exact .str x
  | n + 1, .tup xs, _, .tup e rs, h => by
    simp only [toP]
    exact .tup (sT _ _ e) (dps_of sT sL n xs _ rs (by simpa [plD] using h))
  | n + 1, .lst xs, _, .lst e rs, h => by
    simp only [toP]
    exact .lst (sL _ _ e) (dps_of sT sL n xs _ rs (by simpa [plD] using h))
  | 0, .tup xs, _, _, h => by simp [plD] at h
  | 0, .lst xs, _, _, h => by simp [plD] at h
  | n, .dct _, _, _, h => by cases n <;> simp [plD] at h
  | n, .ref _, _, _, h => by cases n <;> simp [plD] at h
  | n, .scr _, _, _, h => by cases n <;> simp [plD] at h
theorem dps_of {K : Kf} {F H : Hp} (sT : ∀ a xs, SqT K F a xs → SqT K H a xs) (sL : ∀ a xs, F a = some (.lst xs) → SqL K H a xs) : ∀ (n : Nat) (ds : List D) (vs : List V), Reps K F ds vs → (∀ x ∈ ds, plD n x = true) → DpAll K H vs (toPs ds)
  | _, [], _, .nil, _ => by simp only [toPs]; exact .nil
  | n, d :: ds, _, .cons r rs, h => by
    simp only [toPs]
    exact .cons (dp_of sT sL n d _ r (h d List.mem_cons_self)) (dps_of sT sL n ds _ rs fun x hx => h x (List.mem_cons_of_mem _ hx))
end
mutual
theorem canLay_pl : ∀ (n : Nat) (d : D), plD n d = true → (toP d).canLay0 = true
  | _, .non, _ => by simp [toP, PyData.canLay0]
  | _, .bl b, _ => by simp [toP, PyData.canLay0]
  | _, .int i, _ => by simp [toP, PyData.canLay0]
  | n, .str x, h => by cases n <;> (simp only [plD] at h; simpa [toP, PyData.canLay0] using h)
  | n + 1, .tup xs, h => by
    simp only [toP, PyData.canLay0]
    exact canLays_pl n xs (by simpa [plD] using h)
  | n + 1, .lst xs, h => by
    simp only [toP, PyData.canLay0]
    exact canLays_pl n xs (by simpa [plD] using h)
  | 0, .tup xs, h => by simp [plD] at h
  | 0, .lst xs, h => by simp [plD] at h
  | n, .dct _, h => by cases n <;> simp [plD] at h
  | n, .ref _, h => by cases n <;> simp [plD] at h
  | n, .scr _, h => by cases n <;> simp [plD] at h
theorem canLays_pl : ∀ (n : Nat) (ds : List D), (∀ x ∈ ds, plD n x = true) → PyData.canLayAll0 (toPs ds) = true
  | _, [], _ => by simp [toPs, PyData.canLayAll0]
  | n, d :: ds, h => by
    simp only [toPs, PyData.canLayAll0, Bool.and_eq_true]
    exact ⟨canLay_pl n d (h d List.mem_cons_self), canLays_pl n ds fun x hx => h x (List.mem_cons_of_mem _ hx)⟩
end
mutual
theorem depth_pl : ∀ (n : Nat) (d : D), plD n d = true → (toP d).depth ≤ n + 1
  | _, .non, _ => by simp [toP, PyData.depth]
  | _, .bl b, _ => by simp [toP, PyData.depth]
  | _, .int i, _ => by simp [toP, PyData.depth]
  | n, .str x, h => by simp [toP, PyData.depth]
  | n + 1, .tup xs, h => by
    simp only [toP, PyData.depth]
    have := depths_pl n xs (by simpa [plD] using h)
    omega
  | n + 1, .lst xs, h => by
    simp only [toP, PyData.depth]
    have := depths_pl n xs (by simpa [plD] using h)
    omega
  | 0, .tup xs, h => by simp [plD] at h
  | 0, .lst xs, h => by simp [plD] at h
  | n, .dct _, h => by cases n <;> simp [plD] at h
  | n, .ref _, h => by cases n <;> simp [plD] at h
  | n, .scr _, h => by cases n <;> simp [plD] at h
theorem depths_pl : ∀ (n : Nat) (ds : List D), (∀ x ∈ ds, plD n x = true) → PyData.depthAll (toPs ds) ≤ n + 1
  | n, [], _ => by simp [toPs, PyData.depthAll]
  | n, d :: ds, h => by
    simp only [toPs, PyData.depthAll]
    have h1 := depth_pl n d (h d List.mem_cons_self)
    have h2 := depths_pl n ds fun x hx => h x (List.mem_cons_of_mem _ hx)
    omega
end
def eqOk (d : D) : Prop := ∃ n, n ≤ 60 ∧ plD n d = true
theorem shaped_pl {d : D} (h : eqOk d) : SeqAt.shaped (toP d) = true := by
  obtain ⟨n, hn, h⟩ := h
  have h1 := canLay_pl n d h
  have h2 := depth_pl n d h
  exact Bool.and_eq_true_iff.mpr ⟨h1, decide_eq_true (by omega)⟩
theorem res_rep {K : Kf} {B F : Hp} {E : En} {h : MH} {σ : L2.St} {H : Hp} {d : D} {v : V} (R : Rel K B F E h σ H) (r : Rep K F d v) (q : eqOk (res h d)) : Dp K H v (toP (res h d)) := by
  obtain ⟨n, _, q⟩ := q
  have go : ∀ {d : D} {v : V}, Rep K F d v → plD n d = true → Dp K H v (toP d) := fun r q => dp_of (fun a xs => R.sqT) (fun a xs e => .of (R.frz _ _ e).1) n _ _ r q
  cases r with
  | ref a =>
    show Dp K H _ (toP (match h a with
      | some (.lst xs) => .lst xs
      | _ => .ref a))
    have q : plD n (match h a with
      | some (.lst xs) => .lst xs
      | _ => .ref a) = true := q
    cases e : h a with
    | none => rw [e] at q; cases n <;> simp [plD] at q
    | some m =>
      rw [e] at q
      cases m with
      | lst xs =>
        obtain ⟨vs, e2, rs⟩ := R.cel a _ e
        cases n with
        | zero => simp [plD] at q
        | succ n =>
          simp only [toP]
          exact .lst (.of e2) (dps_of (fun a xs => R.sqT) (fun a xs e => .of (R.frz _ _ e).1) n xs _ rs (by simpa [plD] using q))
      | dct xs => cases n <;> simp [plD] at q
      | ins C fs => cases n <;> simp [plD] at q
  | non => exact go .non q
  | bl b => exact go (.bl b) q
  | int b => exact go (.int b) q
  | str b => exact go (.str b) q
  | tup e rs => exact go (.tup e rs) q
  | lst e rs => exact go (.lst e rs) q
  | dct e rs => exact go (.dct e rs) q
  | scr e => exact go (.scr e) q
def gEq : G2 := fun x y h Kn => eqOk (res h x) ∧ eqOk (res h y) ∧ Kn (.d (.bl (eqD (res h x) (res h y)))) h
def gNe : G2 := fun x y h Kn => eqOk (res h x) ∧ eqOk (res h y) ∧ Kn (.d (.bl (!eqD (res h x) (res h y)))) h
theorem has_eq {K : Kf} : Has2 K (rEqD K) gEq := fun B F E h σ H x y vx vy Q Kn R rx ry ⟨q1, q2, q⟩ hn =>
  ⟨_, _, res_rep R rx q1, res_rep R ry q2, shaped_pl q1, shaped_pl q2, hn (.d (.bl _)) h F H _ (Le.refl F) R (.bl _) q⟩
theorem has_ne {K : Kf} : Has2 K (rNeD K) gNe := fun B F E h σ H x y vx vy Q Kn R rx ry ⟨q1, q2, q⟩ hn =>
  ⟨_, _, res_rep R rx q1, res_rep R ry q2, shaped_pl q1, shaped_pl q2, hn (.d (.bl _)) h F H _ (Le.refl F) R (.bl _) q⟩
section
variable {X : Cx} {W : WX} {a b : Expr} {pos : Pos} {ta tb : TVm}
theorem mt_cmp {op : CmpOp} {r : R2} {g : G2} (ho : OpR X (compareOp op) r) (hg : Has2 X.K r g) (ha : MV X W a ta) (hb : MV X W b tb) (hm : behindInMarks op b = false) : MT X W (.Compare a [op] [b] pos) (mTst (frzV (mOp g ta tb))) := fun B => (pt_cmpR ho (ha B) (hb B) hm).impM fun σ H Q ⟨F, E, h, Kn, Kx, R, ht, hx, hn⟩ => by
  refine two hg (W := W) ⟨F, E, h, _, Kx, R, ht, hx, fun r h' F' H' v l R' q k => ?_⟩
  obtain ⟨F2, l2, R2, rp⟩ := q.frz R'
  obtain ⟨b, rfl, e, k⟩ := bl_of rp k
  exact ⟨b, rfl, hn b h' F2 H' (l.trans l2) R2 k⟩
theorem mt_chain {op op' : CmpOp} {r r' : R2} {g g' : G2} {c : Expr} {tc : TVm} (ho : OpR X (compareOp op) r) (ho' : OpR X (compareOp op') r') (hg : Has2 X.K r g) (hg' : Has2 X.K r' g') (ha : MV X W a ta) (hb : MV X W b tb) (hc : MV X W c tc)
    (hm : lastMarks [op, op'] [b, c] = false := by with_unfolding_all rfl) : MT X W (.Compare a [op, op'] [b, c] pos) (mTst (frzV (mChain g g' ta tb tc))) := fun B => (pt_chain ho ho' (ha B) (hb B) (hc B) hm).impM fun σ H Q ⟨F, E, h, Kn, Kx, R, ht, hx, hn⟩ => by
  refine ⟨F, E, h, _, Kx, R, ht, hx, fun x h1 F1 H1 v l1 R1 r1 k1 => ?_⟩
  refine ⟨F1, E, h1, _, Kx, R1, k1, hx.up l1, fun y h2 F2 H2 u l2 R2 r2 k2 => ?_⟩
  refine hg B F2 E h2 σ H2 x y v u _ _ R2 (r1.mono l2) r2 k2 fun r h3 F3 H3 w l3 R3 q3 k3 => ?_
  obtain ⟨F4, l4', R4, rp⟩ := q3.frz R3
  obtain ⟨b, rfl, e, k3⟩ := bl_of rp k3
  refine ⟨b, rfl, ?_⟩
  have l4 := ((l1.trans l2).trans l3).trans l4'
  cases b with
  | false => exact ⟨false, rfl, hn false h3 F4 H3 l4 R4 k3⟩
  | true =>
    refine ⟨F4, E, h3, _, Kx, R4, k3, hx.up l4, fun z h5 F5 H5 w l5 R5 r5 k5 => ?_⟩
    refine hg' B F5 E h5 σ H5 y z u w _ _ R5 ((r2.mono l3).mono (l4'.trans l5)) r5 k5 fun r h' F' H' w l6 R6 q6 k6 => ?_
    obtain ⟨F7, l7, R7, rp7⟩ := q6.frz R6
    obtain ⟨b, rfl, e, k6⟩ := bl_of rp7 k6
    exact ⟨b, rfl, hn b h' F7 H' (((l4.trans l5).trans l6).trans l7) R7 k6⟩
theorem mw_and1 {t : TTm} (h : MT X W a t) : MW X W (.BoolOp .And [a] pos) t := fun B => pw_and1 (h B)
theorem mw_or1 {t : TTm} (h : MT X W a t) : MW X W (.BoolOp .Or [a] pos) t := fun B => pw_or1 (h B)
theorem mw_and {rest : List Expr} {t u : TTm} (h : MT X W a t) (h2 : MW X W (.BoolOp .And (b :: rest) pos) u) : MW X W (.BoolOp .And (a :: b :: rest) pos) (mAndT t u) := fun B => (pw_and (h B) (h2 B)).impM fun _ _ _ q => andT_ok q
theorem mw_or {rest : List Expr} {t u : TTm} (h : MT X W a t) (h2 : MW X W (.BoolOp .Or (b :: rest) pos) u) : MW X W (.BoolOp .Or (a :: b :: rest) pos) (mOrT t u) := fun B => (pw_or (h B) (h2 B)).impM fun _ _ _ q => orT_ok q
theorem MW.mt {t : TTm} (h : MW X W a t) : MT X W a t := fun B => (h B).pt
theorem mv_one {op} {t : TVm} (h : MV X W a t) : MV X W (.BoolOp op [a] pos) t := fun B => pe_one (h B)
theorem mv_and {rest : List Expr} (h : MV X W a ta) (h2 : MV X W (.BoolOp .And (b :: rest) pos) tb) : MV X W (.BoolOp .And (a :: b :: rest) pos) (mAndV ta tb) := fun B => (pe_and (h B) (h2 B)).impM fun _ _ _ q => andV_ok q
theorem mv_or {rest : List Expr} (h : MV X W a ta) (h2 : MV X W (.BoolOp .Or (b :: rest) pos) tb) : MV X W (.BoolOp .Or (a :: b :: rest) pos) (mOrV ta tb) := fun B => (pe_or (h B) (h2 B)).impM fun _ _ _ q => orV_ok q
/-! ### is None -/
def isNon : D → Bool
  | .non => true
  | _ => false
theorem isNon_rep {K : Kf} {F : Hp} {d : D} {v : V} (r : Rep K F d v) : decide (v = .non) = isNon d := by
  cases r <;> simp [isNon]
def gIsN (p : Bool → Bool) : G2 := fun x y h Kn => y = .non ∧ Kn (.d (.bl (p (isNon x)))) h
theorem has_isN {K : Kf} {p : Bool → Bool} : Has2 K (fun x y H Q => y = .non ∧ Q (.bl (p (decide (x = .non)))) H) (gIsN p) := by
  intro B F E h σ H x y vx vy Q Kn R rx ry q hn
  obtain ⟨rfl, q⟩ := q
  cases ry
  exact ⟨rfl, hn (.d (.bl _)) h F H _ (Le.refl F) R (by rw [isNon_rep rx]; exact .bl _) q⟩
/-! ### in -/
def flD : D → Bool
  | .non | .bl _ | .int _ | .str _ => true
  | _ => false
def eqF : D → D → Bool
  | .non, .non => true
  | .bl a, .bl b => a == b
  | .bl a, .int j => (if a then 1 else 0) == j
  | .int i, .bl b => i == (if b then 1 else 0)
  | .int i, .int j => i == j
  | .str x, .str y => x == y
  | _, _ => false
theorem fl_rep {K : Kf} {F : Hp} {d : D} {v : V} (r : Rep K F d v) (q : flD d = true) : flatV v = true := by
  cases r <;> first | rfl | (simp [flD] at q)
theorem eqF_rep {K : Kf} {F : Hp} {d e : D} {v u : V} (r : Rep K F d v) (r2 : Rep K F e u) (q : flD d = true) (q2 : flD e = true) : eqV v u = eqF d e := by
  cases r <;> first | (simp [flD] at q; done) | (cases r2 <;> first | rfl | (simp [flD] at q2; done))
def inD (x : D) (xs : List D) : Bool := xs.any fun y => eqF y x
theorem in_rep {K : Kf} {F : Hp} {x : D} {v : V} (r : Rep K F x v) (q : flD x = true) : ∀ {xs : List D} {vs : List V}, Reps K F xs vs → xs.all flD = true → vs.all flatV = true ∧ inV v vs = inD x xs
  | _, _, .nil, _ => ⟨rfl, rfl⟩
  | _, _, .cons a rs, h => by
    simp only [List.all_cons, Bool.and_eq_true] at h ⊢
    obtain ⟨h1, h2⟩ := in_rep r q rs h.2
    refine ⟨⟨fl_rep a h.1, h1⟩, ?_⟩
    show (eqV _ v || inV v _) = (eqF _ x || inD x _)
    rw [h2, eqF_rep a r h.1 q]
/-- a key -/
def keyD : D → Option Key
  | .int i => some (.inl i)
  | .str x => some (.inr x)
  | _ => none
theorem key_rep {K : Kf} {F : Hp} {d : D} {v : V} {k : Key} (r : Rep K F d v) (q : keyD d = some k) : v = kV k := by
  cases r <;> first | (simp [keyD] at q; done) | (simp only [keyD, Option.some.injEq] at q; subst q; rfl)
def valD (kvs : List (Key × D)) (k : Key) : Option D := (kvs.find? fun kv => decide (kv.1 = k)).map (·.2)
def putKD (kvs : List (Key × D)) (k : Key) (v : D) : List (Key × D) :=
  if (kvs.any fun kv => decide (kv.1 = k)) = true then kvs.map (fun kv => if kv.1 = k then (kv.1, v) else kv) else kvs ++ [(k, v)]
theorem RepK.val {K : Kf} {F : Hp} {k : Key} : ∀ {xs : List (Key × D)} {vs : List (Key × V)}, RepK K F xs vs → (valD xs k = none ∧ valV vs k = none) ∨ ∃ d v, valD xs k = some d ∧ valV vs k = some v ∧ Rep K F d v
  | _, _, .nil => .inl ⟨rfl, rfl⟩
  | _, _, .cons (k := k') a r => by
    unfold valD valV
    by_cases e : k' = k
    · refine .inr ⟨_, _, ?_, ?_, a⟩ <;> simp [List.find?_cons, e]
    · simp only [List.find?_cons, e, decide_false]
      exact RepK.val r
theorem RepK.any {K : Kf} {F : Hp} {k : Key} : ∀ {xs : List (Key × D)} {vs : List (Key × V)}, RepK K F xs vs → (xs.any fun kv => decide (kv.1 = k)) = vs.any fun kv => decide (kv.1 = k)
  | _, _, .nil => rfl
  | _, _, .cons a r => by
    simp only [List.any_cons]
    rw [RepK.any r]
theorem RepK.map {K : Kf} {F : Hp} {k : Key} {d : D} {v : V} (a : Rep K F d v) : ∀ {xs : List (Key × D)} {vs : List (Key × V)}, RepK K F xs vs → RepK K F (xs.map (fun kv => if kv.1 = k then (kv.1, d) else kv)) (vs.map (fun kv => if kv.1 = k then (kv.1, v) else kv))
  | _, _, .nil => .nil
  | _, _, .cons (k := k') b r => by
    simp only [List.map_cons]
    by_cases e : k' = k
    · rw [if_pos e, if_pos e]
      exact .cons a (RepK.map a r)
    · rw [if_neg e, if_neg e]
      exact .cons b (RepK.map a r)
theorem RepK.app {K : Kf} {F : Hp} : ∀ {xs ys : List (Key × D)} {vs ws : List (Key × V)}, RepK K F xs vs → RepK K F ys ws → RepK K F (xs ++ ys) (vs ++ ws)
  | _, _, _, _, .nil, r => r
  | _, _, _, _, .cons a r, s => .cons a (RepK.app r s)
theorem RepK.put {K : Kf} {F : Hp} {k : Key} {d : D} {v : V} (a : Rep K F d v) {xs : List (Key × D)} {vs : List (Key × V)} (r : RepK K F xs vs) : RepK K F (putKD xs k d) (putK vs k v) := by
  unfold putKD putK
  rw [r.any]
  split
  · exact r.map a
  · exact r.app (.cons a .nil)
theorem dget_ok {K : Kf} {B F : Hp} {E : En} {h : MH} {σ : L2.St} {H : Hp} {d y : D} {v u : V} {p : Option D → Prop} (R : Rel K B F E h σ H) (r : Rep K F d v) (ry : Rep K F y u) (q : onD h d fun kvs => match keyD y with
    | some k => p (valD kvs k)
    | none => False) : ∃ a o o', v = .ref a ∧ DGet H a u o' ∧ p o ∧ ((o = none ∧ o' = none) ∨ ∃ d v, o = some d ∧ o' = some v ∧ Rep K F d v) := by
  obtain ⟨a, xs, vs, rfl, e, rs, q⟩ := dct_of R r q
  cases ek : keyD y with
  | none => rw [ek] at q; exact q.elim
  | some k =>
    rw [ek] at q
    obtain rfl := key_rep ry ek
    exact ⟨a, _, _, rfl, .inl ⟨vs, k, e, rfl, rfl⟩, q, rs.val⟩
/-- x in what: a list, a tuple, a dict, a text -/
def gIn (p : Bool → Bool) : G2 := fun x y h Kn => match y with
  | .str z => onStr x fun c => Kn (.d (.bl (p (!(Builtin.Str.occurrences z c 0 z.length 1).isEmpty)))) h
  | .dct _ => onD h y fun kvs => match keyD x with
    | some k => Kn (.d (.bl (p (valD kvs k).isSome))) h
    | none => False
  | .ref a => (match h a with
    | some (.dct kvs) => (match keyD x with
      | some k => Kn (.d (.bl (p (valD kvs k).isSome))) h
      | none => False)
    | _ => onQ h y fun xs => flD x = true ∧ xs.all flD = true ∧ Kn (.d (.bl (p (inD x xs)))) h)
  | _ => onQ h y fun xs => flD x = true ∧ xs.all flD = true ∧ Kn (.d (.bl (p (inD x xs)))) h
def rDIn (p : Bool → Bool) : R2 := fun y x H Q => ∃ a o, x = .ref a ∧ DGet H a y o ∧ Q (.bl (p o.isSome)) H
theorem op_inD (hu : X.A.units + 1 < cLine) : OpR X (compareOp .In) (rDIn id) := by
  intro pins s σ H x y v u Q I rx ry h
  obtain ⟨a, o, rfl, g, q⟩ := h
  obtain rfl : u = Value.ref a := ry
  exact d_in hu I g rx fun s3 I3 => ⟨.bl o.isSome, H, I3, rfl, q⟩
theorem op_notInD (hu : X.A.units + 1 < cLine) : OpR X (compareOp .NotIn) (rDIn not) := by
  intro pins s σ H x y v u Q I rx ry h
  obtain ⟨a, o, rfl, g, q⟩ := h
  obtain rfl : u = Value.ref a := ry
  exact d_notIn hu I g rx fun s3 I3 => ⟨.bl (!o.isSome), H, I3, rfl, q⟩
abbrev rInA (K : Kf) (p : Bool → Bool) : R2 := fun x y H Q => (∃ i j, x = .str i ∧ y = .str j ∧ Q (.bl (p (!(Builtin.Str.occurrences j i 0 j.length 1).isEmpty))) H) ∨ ((∃ a xs, y = .ref a ∧ (SqL K H a xs ∨ SqT K H a xs) ∧ flatV x = true ∧ xs.all flatV = true ∧ Q (.bl (p (inV x xs))) H) ∨ rDIn p x y H Q)
theorem op_inA (hu : X.A.units + 1 < cLine) : OpR X (compareOp .In) (rInA X.K id) := op_in_str.or (op_in_seq.or (op_inD hu))
theorem op_notInA (hu : X.A.units + 1 < cLine) : OpR X (compareOp .NotIn) (rInA X.K not) := L2.op_notIn_str.or (op_notIn_seq.or (op_notInD hu))
theorem has_in {K : Kf} {p : Bool → Bool} : Has2 K (rInA K p) (gIn p) := by
  intro B F E h σ H x y vx vy Q Kn R rx ry q hn
  have sq : (onQ h y fun xs => flD x = true ∧ xs.all flD = true ∧ Kn (.d (.bl (p (inD x xs)))) h) → rInA K p vx vy H Q := fun q => by
    obtain ⟨a, xs, vs, rfl, e, rs, q1, q2, q⟩ := seq_of R ry q
    obtain ⟨z1, z2⟩ := in_rep rx q1 rs q2
    exact .inr (.inl ⟨a, vs, rfl, e, fl_rep rx q1, z1, by rw [z2]; exact hn (.d (.bl _)) h F H _ (Le.refl F) R (.bl _) q⟩)
  have dc : (onD h y fun kvs => match keyD x with
    | some k => Kn (.d (.bl (p (valD kvs k).isSome))) h
    | none => False) → rInA K p vx vy H Q := fun q => by
    obtain ⟨a, o, o', rfl, g, q, z⟩ := dget_ok (p := fun o => Kn (.d (.bl (p o.isSome))) h) R ry rx q
    have e : o'.isSome = o.isSome := by
      rcases z with ⟨rfl, rfl⟩ | ⟨_, _, rfl, rfl, _⟩ <;> rfl
    exact .inr (.inr ⟨a, o', rfl, g, by rw [e]; exact hn (.d (.bl _)) h F H _ (Le.refl F) R (.bl _) q⟩)
  cases ry with
  | str z =>
    obtain ⟨i, rfl, rfl, q⟩ := str_of rx q
    exact .inl ⟨i, z, rfl, rfl, hn (.d (.bl _)) h F H _ (Le.refl F) R (.bl _) q⟩
  | dct e rs => exact dc q
  | tup e rs => exact sq q
  | lst e rs => exact sq q
  | scr e => exact sq q
  | ref a =>
    have q' : (match h a with
    | some (.dct kvs) => (match keyD x with
      | some k => Kn (.d (.bl (p (valD kvs k).isSome))) h
      | none => False)
    | _ => onQ h (.ref a) fun xs => flD x = true ∧ xs.all flD = true ∧ Kn (.d (.bl (p (inD x xs)))) h) := q
    cases e : h a with
    | none =>
      rw [e] at q'
      exact sq q'
    | some m =>
      rw [e] at q'
      cases m with
      | lst xs => exact sq q'
      | ins C fs => exact sq q'
      | dct kvs =>
        refine dc ?_
        show (match h a with
          | some (.dct xs) => (match keyD x with
            | some k => Kn (.d (.bl (p (valD xs k).isSome))) h
            | none => False)
          | _ => False)
        rw [e]
        exact q'
  | non => exact sq q
  | bl b => exact sq q
  | int b => exact sq q
end
end M3
set_option Elab.async false
set_option linter.all false
set_option maxRecDepth 100000
set_option maxHeartbeats 4000000
namespace M3
open PySem PySem.Spec PyProof.Rows L2
section
variable {X : Cx} {W : WX} {a b e : Expr} {pos pos' : Pos} {ta tb tv : TVm}
/-! ### o[i] -/
def rIxD : R2 := fun x y H Q => ∃ a v, x = .ref a ∧ DGet H a y (some v) ∧ Q v H
theorem ix_dict (hu : X.A.units + 1 < cLine) : IxR X rIxD := by
  intro value slice pins s σ H x y v u Q I rx ry h hs
  obtain ⟨a, z, rfl, g, q⟩ := h
  obtain rfl : v = Value.ref a := rx
  have hT := dict_typeIs I g
  have h₂ : wpAny (model X.prog X.w) X.A (getItem (.ref a) u) (EP X pins σ Q) X.xe s := d_getItem hu I g ry fun w' s3 I3 rw' => ⟨z, H, I3, rw', q⟩
  unfold subscriptTail
  refine wpAny_bind ?_
  rw [getitemInPython_of_ne hT.not_modules]
  refine wpAny_bind (wpAny_specialOf hT PySem.F.slot_dict_getitem.lookup ?_)
  have fin : wpAny (model X.prog X.w) X.A (subscripted slice false (.ref a) u) (fun r s₃ => wpAny (model X.prog X.w) X.A (letTemporaryGo value (.ref a) r >>= fun _ => pure r) (EP X pins σ Q) X.xe s₃) X.xe s := by
    rw [hs]
    exact wpAny_operating (wpAny_mono h₂ (fun r s₃ h₃ => wpAny_bind (wpAny_letTemporaryGo (wpAny_pure h₃))) fun _ _ x => x)
  first
    | exact wpAny_pure (wpAny_bind fin)
    | exact wpAny_bind (wpAny_pure (wpAny_bind fin))
    | exact wpAny_bind fin
def atD (xs : List D) (i : Int) : Option D := (ixN xs.length i).bind fun j => xs[j]?
def gIxQ (h : MH) (x : D) (i : Int) (k : D → Prop) : Prop := onQ h x fun xs => match atD xs i with
  | some d => k d
  | none => False
def gIxD (h : MH) (x y : D) (k : D → Prop) : Prop := onD h x fun kvs => match keyD y with
  | some key => (match valD kvs key with
    | some d => k d
    | none => False)
  | none => False
def gIx : G2 := fun x y h Kn => match x with
  | .str z => onInt y fun i => z.length ≤ sizeLine ∧ (match atI z.cps.toList i with
    | some c => Kn (.d (.str ⟨#[c]⟩)) h
    | none => False)
  | .dct _ => gIxD h x y fun d => Kn (.d d) h
  | .ref a => (match h a with
    | some (.dct _) => gIxD h x y fun d => Kn (.d d) h
    | _ => onInt y fun i => gIxQ h x i fun d => Kn (.d d) h)
  | _ => onInt y fun i => gIxQ h x i fun d => Kn (.d d) h
theorem at_rep {K : Kf} {F : Hp} {xs : List D} {vs : List V} {i : Int} {d : D} (r : Reps K F xs vs) (e : atD xs i = some d) : ∃ v, atI vs i = some v ∧ Rep K F d v := by
  unfold atD at e
  unfold atI
  rw [← r.len]
  cases q : ixN xs.length i with
  | none => rw [q] at e; cases e
  | some j =>
    rw [q] at e
    exact r.get (i := j) e
theorem has_ix {K : Kf} : Has2 K (fun x y H Q => rIx K x y H Q ∨ rIxD x y H Q) gIx := by
  intro B F E h σ H x y vx vy Q Kn R rx ry q hn
  have sq : (onInt y fun i => gIxQ h x i fun d => Kn (.d d) h) → (rIx K vx vy H Q ∨ rIxD vx vy H Q) := fun q => by
    obtain ⟨i, rfl, rfl, q⟩ := int_of ry q
    obtain ⟨a, xs, vs, rfl, e, rs, q⟩ := seq_of R rx q
    cases ea : atD xs i with
    | none => rw [ea] at q; exact q.elim
    | some d =>
      rw [ea] at q
      obtain ⟨v, ev, rv⟩ := at_rep rs ea
      have fin := hn (.d d) h F H v (Le.refl F) R rv q
      rcases e with e | e
      · exact .inl (.inl ⟨a, vs, i, v, rfl, rfl, e, ev, fin⟩)
      · exact .inl (.inr (.inl ⟨a, vs, i, v, rfl, rfl, e, ev, fin⟩))
  have dc : (gIxD h x y fun d => Kn (.d d) h) → (rIx K vx vy H Q ∨ rIxD vx vy H Q) := fun q => by
    obtain ⟨a, xs, vs, rfl, e, rs, q⟩ := dct_of R rx q
    cases ek : keyD y with
    | none => rw [ek] at q; exact q.elim
    | some k =>
      rw [ek] at q
      obtain rfl := key_rep ry ek
      have q : (match valD xs k with
        | some d => Kn (.d d) h
        | none => False) := q
      rcases rs.val (k := k) with ⟨z1, z2⟩ | ⟨d, v, z1, z2, rv⟩
      · rw [z1] at q; exact q.elim
      · rw [z1] at q
        exact .inr ⟨a, v, rfl, .inl ⟨vs, k, e, rfl, z2.symm⟩, hn (.d d) h F H v (Le.refl F) R rv q⟩
  cases rx with
  | str z =>
    obtain ⟨i, rfl, rfl, q⟩ := int_of ry q
    obtain ⟨hz, q⟩ := q
    cases ea : atI z.cps.toList i with
    | none => rw [ea] at q; exact q.elim
    | some c =>
      rw [ea] at q
      exact .inl (.inr (.inr ⟨z, i, c, rfl, rfl, hz, ea, hn (.d (.str _)) h F H _ (Le.refl F) R (.str _) q⟩))
  | dct e rs => exact dc q
  | tup e rs => exact sq q
  | lst e rs => exact sq q
  | scr e => exact sq q
  | non => exact sq q
  | bl b => exact sq q
  | int b => exact sq q
  | ref a =>
    have q' : (match h a with
    | some (.dct _) => gIxD h (.ref a) y fun d => Kn (.d d) h
    | _ => onInt y fun i => gIxQ h (.ref a) i fun d => Kn (.d d) h) := q
    cases e : h a with
    | none => rw [e] at q'; exact sq q'
    | some m =>
      rw [e] at q'
      cases m with
      | lst xs => exact sq q'
      | ins C fs => exact sq q'
      | dct kvs => exact dc q'
theorem me_ix (hu : X.A.units + 1 < cLine) (ha : MV X W a ta) (hb : MV X W b tb) (hs : PlainIx b := by exact fun _ _ => rfl) : ME X W (.Subscript a b pos) (mOp gIx ta tb) := fun B => (pe_ix (ix_seq.or (ix_dict hu)) (ha B) (hb B) hs).impM fun _ _ _ q => two has_ix q
/-! ### o[i] = v -/
def rSetD : TSet := fun o i v H Q => ∃ a H4, o = .ref a ∧ DPut H a i v H4 ∧ Q H4
theorem set_dict (hu : X.A.units + 1 < cLine) : PSet X rSetD := by
  intro pins s σ H o i v ov iv u Q I ro ri rv h
  obtain ⟨a, H4, rfl, g, q⟩ := h
  obtain rfl : ov = Value.ref a := ro
  exact d_setItem hu I g ri rv fun s4 I4 => ⟨H4, I4, q⟩
abbrev rSetA : TSet := fun o i v H Q => rSetL o i v H Q ∨ rSetD o i v H Q
theorem set_any (hu : X.A.units + 1 < cLine) : PSet X rSetA := by
  intro pins s σ H o i v ov iv u Q I ro ri rv h
  rcases h with h | h
  · exact set_list pins s σ H o i v ov iv u Q I ro ri rv h
  · exact set_dict hu pins s σ H o i v ov iv u Q I ro ri rv h
def onSet (h : MH) (o i v : D) (k : MH → Prop) : Prop := match o with
  | .ref p => (match h p with
    | some (.lst xs) => onInt i fun j => (match ixN xs.length j with
      | some n => k (put h p (.lst (xs.set n v)))
      | none => False)
    | some (.dct kvs) => (match keyD i with
      | some key => kvs.length < sizeLine ∧ k (put h p (.dct (putKD kvs key v)))
      | none => False)
    | _ => False)
  | _ => False
theorem set_ok2 {K : Kf} {B F : Hp} {E : En} {h : MH} {σ : L2.St} {H : Hp} {o i v : D} {vo vi vv : V} {k : MH → Prop} {Q : Hp → Prop} (R : Rel K B F E h σ H) (ro : Rep K F o vo) (ri : Rep K F i vi) (rv : Rep K F v vv) (q : onSet h o i v k)
    (hn : ∀ h' H', Rel K B F E h' σ H' → k h' → Q H') : rSetA vo vi vv H Q := by
  cases ro with
  | ref a =>
    have q : (match h a with
      | some (.lst xs) => onInt i fun j => (match ixN xs.length j with
        | some n => k (put h a (.lst (xs.set n v)))
        | none => False)
      | some (.dct kvs) => (match keyD i with
        | some key => kvs.length < sizeLine ∧ k (put h a (.dct (putKD kvs key v)))
        | none => False)
      | _ => False) := q
    cases e : h a with
    | none => rw [e] at q; exact q.elim
    | some m =>
      rw [e] at q
      cases m with
      | lst xs =>
        obtain ⟨j, rfl, rfl, q2⟩ := int_of ri q
        obtain ⟨vs, e2, rs⟩ := R.cel a _ e
        cases ej : ixN xs.length j with
        | none => rw [ej] at q2; exact q2.elim
        | some n =>
          rw [ej] at q2
          exact .inl ⟨a, vs, j, n, rfl, rfl, e2, by rw [← rs.len]; exact ej, hn _ _ (R.write (m' := .lst (xs.set n v)) e ⟨_, upd_same, rs.set rv n⟩) q2⟩
      | dct kvs =>
        obtain ⟨vs, e2, rs⟩ := R.cel a _ e
        cases ek : keyD i with
        | none => rw [ek] at q; exact q.elim
        | some key =>
          rw [ek] at q
          obtain rfl := key_rep ri ek
          exact .inr ⟨a, _, rfl, .inl ⟨vs, key, e2, rfl, by rw [← rs.len]; exact q.1, rfl⟩, hn _ _ (R.write (m' := .dct (putKD kvs key v)) e ⟨_, upd_same, RepK.put rv rs⟩) q.2⟩
      | ins C fs => exact q.elim
  | _ => exact q.elim
def sSetI (to ti tv : TVm) : TSm := fun N E h => tv E h (fun v h1 => to E h1 (fun o h2 => ti E h2 (fun i h3 => onSet h3 o i v fun h4 => N.nx E h4) N.xs) N.xs) N.xs
theorem ms_setI {o i : Expr} {to ti : TVm} (hu : X.A.units + 1 < cLine) (ho : MV X W o to) (hi : MV X W i ti) (hv : MV X W e tv)
    (ha : ∀ v, assign (.Subscript o i pos') X.env v = (do
      let ov ← holding [v] (eval o X.env)
      let iv ← holding [v, ov] (eval i X.env)
      standAt pos'
      holding [v, ov, iv] (setItem ov iv v)
      release [v, ov, iv] []) := by intro _; rfl)
    (hs : swapsWithSole [.Subscript o i pos'] e pos.line X.env = pure false := by rfl) (hw : swappedStores [.Subscript o i pos'] e X.env = pure none := by rfl)
    (h1 : (assignEach [.Subscript o i pos'] X.env).map (·.2) = [assign (.Subscript o i pos') X.env] := by rfl) : MS X W (.Assign [.Subscript o i pos'] e pos) (sSetI to ti tv) := fun B =>
  (ps_asg (hv B) (pg_sub (ho B) (hi B) (set_any hu) ha) hs hw h1).impM fun D σ H ⟨F, E, h, N, R, ht, c⟩ => by
    refine ⟨F, E, h, _, N.xs, R, ht, fun x h' F' H' a dx l R' q k => c.2.2.2.2 x h' F' E σ H' a dx l R' q k, fun v h1 F1 H1 vv l1 R1 r1 k1 => ?_⟩
    refine ⟨F1, E, h1, _, N.xs, R1, k1, fun x h' F' H' a dx l R' q k => c.2.2.2.2 x h' F' E σ H' a dx (l1.trans l) R' q k, fun o h2 F2 H2 vo l2 R2 r2 k2 => ?_⟩
    refine ⟨F2, E, h2, _, N.xs, R2, k2, fun x h' F' H' a dx l R' q k => c.2.2.2.2 x h' F' E σ H' a dx ((l1.trans l2).trans l) R' q k, fun i h3 F3 H3 vi l3 R3 r3 k3 => ?_⟩
    exact set_ok2 R3 (r2.mono l3) r3 (r1.mono (l2.trans l3)) k3 fun h' H' R' k => c.1 E h' F3 σ H' ((l1.trans l2).trans l3) R' k
/-- xs[i] op= e -/
def rGetL (K : Kf) : V → V → Hp → VK → Prop := fun x y H Q => ∃ p xs i v, x = .ref p ∧ y = .int i ∧ 0 ≤ i ∧ SqL K H p xs ∧ atI xs i = some v ∧ Q v H
theorem get_list : PGet X (rGetL X.K) := by
  intro pins s σ H x y v u Q I rx ry h
  obtain ⟨p, xs, i, z, rfl, rfl, h0, hq, he, q⟩ := h
  cases rx
  obtain ⟨t, rfl⟩ := ry
  obtain ⟨its, r, pl, hz⟩ := I.list hq
  obtain ⟨j, h1, h2, h3, h4, h5⟩ := atI_get he
  obtain ⟨w, ew, rw'⟩ := r.get h2
  have hl := r.length
  have hn := line63
  have hj : i.toNat = j := by
    rw [seqIndex_of h0 h5] at h1
    exact Option.some.inj h1
  exact wpAny_getItem_list pl.isList h0 (by omega) (by rw [hj]; simpa using ew) ⟨z, H, I, rw', q⟩
def sAugI (to ti tv : TVm) (g : G2) : TSm := fun N E h => to E h (fun o h1 => ti E h1 (fun i h2 => onL h2 o fun xs => onInt i fun j => 0 ≤ j ∧ (match atD xs j with
  | some x => tv E h2 (fun y h3 => g x y h3 fun r h4 => onSet h4 o i r.frz fun h5 => N.nx E h5) N.xs
  | none => False)) N.xs) N.xs
theorem ms_augI {o i : Expr} {to ti : TVm} {op : Operator} {tip : TIp} {g : G2} {tpos : Pos} (hu : X.A.units + 1 < cLine) (ho : MV X W o to) (hi : MV X W i ti) (hv : MV X W e tv) (hp : PIp X op tip) (hg : Has2 X.K tip g)
    (ha : ∀ ov iv new, augStore i ov iv new = (do holding [new, ov, iv] (setItem ov iv new); release [new, ov, iv] []; pure .next) := by intros; rfl) : MS X W (.AugAssign (.Subscript o i tpos) op e pos) (sAugI to ti tv g) := fun B =>
  (ps_augS (ho B) (hi B) get_list (hv B) hp (set_any hu) ha).impM fun D σ H ⟨F, E, h, N, R, ht, c⟩ => by
    refine ⟨F, E, h, _, N.xs, R, ht, fun x h' F' H' a dx l R' q k => c.2.2.2.2 x h' F' E σ H' a dx l R' q k, fun o h1 F1 H1 vo l1 R1 r1 k1 => ?_⟩
    refine ⟨F1, E, h1, _, N.xs, R1, k1, fun x h' F' H' a dx l R' q k => c.2.2.2.2 x h' F' E σ H' a dx (l1.trans l) R' q k, fun i h2 F2 H2 vi l2 R2 r2 k2 => ?_⟩
    obtain ⟨a, xs, vs, rfl, e, rs, k2⟩ := lst_of R2 (r1.mono l2) k2
    obtain ⟨j, rfl, rfl, h0, k2⟩ := int_of r2 k2
    cases ea : atD xs j with
    | none => rw [ea] at k2; exact k2.elim
    | some x =>
      rw [ea] at k2
      obtain ⟨v, ev, rv⟩ := at_rep rs ea
      refine ⟨a, vs, j, v, rfl, rfl, h0, .of e, ev, F2, E, h2, _, N.xs, R2, k2, fun x h' F' H' a dx l R' q k => c.2.2.2.2 x h' F' E σ H' a dx ((l1.trans l2).trans l) R' q k, fun y h3 F3 H3 vy l3 R3 r3 k3 => ?_⟩
      refine hg B F3 E h3 σ H3 x y v vy _ _ R3 (rv.mono l3) r3 k3 fun r h4 F4 H4 z l4 R4 q4 k4 => ?_
      obtain ⟨F5, l5, R5, rp⟩ := q4.frz R4
      exact set_ok2 R5 (r1.mono (((l2.trans l3).trans l4).trans l5)) (.int j) rp k4 fun h' H' R' k => c.1 E h' F5 σ H' ((((l1.trans l2).trans l3).trans l4).trans l5) R' k
/-! ### slices -/
abbrev TOm := En → MH → (Option Int → MH → Prop) → XKm → Prop
def LO (K : Kf) (B : Hp) (W : WX) (t : TOm) : TO := fun σ H Q => ∃ F E h Kn Kx, Rel K B F E h σ H ∧ t E h Kn Kx ∧ XFin K B F E σ W Kx ∧
  ∀ o h' F' H', Le F F' → Rel K B F' E h' σ H' → Kn o h' → Q o H'
def MO_ (X : Cx) (W : WX) (e : Option Expr) (t : TOm) : Prop := ∀ B, PO X e (LO X.K B W t)
def oNo : TOm := fun _ h Kn _ => Kn none h
def oSome (t : TVm) : TOm := fun E h Kn Kx => t E h (fun d h' => onInt d fun i => Kn (some i) h') Kx
theorem _root_.L2.PO.impM {X : Cx} {e : Option Expr} {t t' : TO} (p : PO X e t) (h : ∀ σ H Q, t' σ H Q → t σ H Q) : PO X e t' := by
  obtain ⟨p⟩ := p
  exact ⟨fun pins s σ H Q I q => p pins s σ H Q I (h σ H Q q)⟩
theorem mo_none : MO_ X W none oNo := fun B => po_none.impM fun σ H Q ⟨F, E, h, Kn, Kx, R, ht, hx, hn⟩ => hn none h F H (Le.refl F) R ht
theorem mo_some (p : MV X W e tv) : MO_ X W (some e) (oSome tv) := fun B => (po_some (p B)).impM fun σ H Q ⟨F, E, h, Kn, Kx, R, ht, hx, hn⟩ =>
  ⟨F, E, h, _, Kx, R, ht, hx, fun d h' F' H' v l R' r k => by
    obtain ⟨i, rfl, rfl, k⟩ := int_of r k
    exact ⟨i, rfl, hn (some i) h' F' H' l R' k⟩⟩
def cutD (xs : List D) (lo hi : Option Int) : List D := (xs.drop (HT.sIx xs.length 0 lo)).take (HT.sIx xs.length xs.length hi - HT.sIx xs.length 0 lo)
theorem cut_rep {K : Kf} {F : Hp} {xs : List D} {vs : List V} (lo hi : Option Int) (r : Reps K F xs vs) : Reps K F (cutD xs lo hi) (cutV vs lo hi) := by
  unfold cutD cutV
  rw [r.len]
  exact (r.drop _).take _
def gSl (h : MH) (x : D) (lo hi : Option Int) (Kn : RV → Prop) : Prop := match x with
  | .str z => z.length ≤ sizeLine ∧ Kn (.d (.str (cutS z lo hi)))
  | .tup xs => Kn (.d (.tup (cutD xs lo hi)))
  | _ => onL h x fun xs => Kn (.ol (cutD xs lo hi))
def mSl (te : TVm) (tl th : TOm) : TEm := fun E h Kn Kx => te E h (fun x h1 => tl E h1 (fun l h2 => th E h2 (fun u h3 => gSl h3 x l u fun r => Kn r h3) Kx) Kx) Kx
theorem me_slice {lo hi : Option Expr} {tl th : TOm} {p2 : Pos} (he : MV X W e ta) (hl : MO_ X W lo tl) (hh : MO_ X W hi th) : ME X W (.Subscript e (.Slice lo hi none p2) pos) (mSl ta tl th) := fun B => (pe_slice (sl_tupA.or (sl_list.or sl_str)) (he B) (hl B) (hh B)).impM fun σ H Q ⟨F, E, h, Kn, Kx, R, ht, hx, hn⟩ => by
  refine ⟨F, E, h, _, Kx, R, ht, hx, fun x h1 F1 H1 v l1 R1 r1 k1 => ?_⟩
  refine ⟨F1, E, h1, _, Kx, R1, k1, hx.up l1, fun lo h2 F2 H2 l2 R2 k2 => ?_⟩
  refine ⟨F2, E, h2, _, Kx, R2, k2, (hx.up l1).up l2, fun hi h3 F3 H3 l3 R3 k3 => ?_⟩
  have r3 := (r1.mono l2).mono l3
  have ll := (l1.trans l2).trans l3
  have lists : (onL h3 x fun xs => Kn (.ol (cutD xs lo hi)) h3) → rSlL X.K v lo hi H3 Q := fun q => by
    obtain ⟨a, xs, vs, rfl, e, rs, q⟩ := lst_of R3 r3 q
    refine ⟨a, vs, rfl, .of e, fun p hp => ?_⟩
    exact hn (.ol _) h3 F3 _ _ ll (R3.newO hp) ⟨p, _, rfl, upd_same, cut_rep lo hi rs, R3.noB hp, R3.noF hp, R3.noh hp⟩ q
  cases r3 with
  | str z => exact .inr (.inr ⟨z, rfl, k3.1, hn (.d (.str _)) h3 F3 H3 _ ll R3 (.str _) k3.2⟩)
  | @tup a vs ds e rs =>
    refine .inl ⟨a, vs, rfl, R3.sqT e, fun z => ?_, fun _ p hp => ?_⟩
    · have e2 : cutV vs lo hi = vs := by
        unfold cutV
        rw [z.1, z.2]
        simp
      exact hn (.d (.tup _)) h3 F3 H3 _ ll R3 (.tup e (by have := cut_rep lo hi rs; rw [e2] at this; exact this)) k3
    · have l4 : Le F3 (upd F3 p (.tup (cutV vs lo hi))) := Le.new (R3.noF hp)
      exact hn (.d (.tup _)) h3 _ _ _ (ll.trans l4) (R3.newF hp) (.tup (.inl (.inl upd_same)) ((cut_rep lo hi rs).mono l4)) k3
  | ref a => exact .inr (.inl (lists k3))
  | lst e rs => exact .inr (.inl (lists k3))
  | non => exact .inr (.inl (lists k3))
  | bl b => exact .inr (.inl (lists k3))
  | int b => exact .inr (.inl (lists k3))
  | dct e rs => exact .inr (.inl (lists k3))
  | scr e => exact .inr (.inl (lists k3))
/-! ### built-in calls by name -/
variable {x : Str} {bid bty : String} {p : Pos} {es : List Expr} {t : TAm}
theorem me_callB {r : List V → Hp → VK → Prop} {g : GA} (hc : CallR X (.builtin bid) r) (hh : HasA X.K r g) (hg : Gl X x) (hm : X.mg x = none) (hv : bootBuiltins x = some (.builtin bid)) (ha : MA X W (e :: es) t) (hn : x ≠ "__name__" := by decide) (hdb : (x == ("__debug__" : Str)) = false := by decide)
    (he : starEach (e :: es) X.env = (false, eval e X.env) :: starEach es X.env := by rfl) (hpl : (backTo pos (starEach es X.env)).any (·.1) = false := by rfl) : ME X W (.Call (.Name x p) (e :: es) [] pos) (mCall g t) := fun B => (pe_callB hc hg hm hv (ha B) hn hdb he hpl).impM fun _ _ _ q => many hh q
theorem me_callT {r : List V → Hp → VK → Prop} {g : GA} (hc : CallR X (.type bty) r) (hh : HasA X.K r g) (hg : Gl X x) (hm : X.mg x = none) (hv : bootBuiltins x = some (.type bty)) (ha : MA X W (e :: es) t) (hn : x ≠ "__name__" := by decide) (hdb : (x == ("__debug__" : Str)) = false := by decide)
    (he : starEach (e :: es) X.env = (false, eval e X.env) :: starEach es X.env := by rfl) (hpl : (backTo pos (starEach es X.env)).any (·.1) = false := by rfl) : ME X W (.Call (.Name x p) (e :: es) [] pos) (mCall g t) := fun B => (pe_callTy hc hg hm hv (ha B) hn hdb he hpl).impM fun _ _ _ q => many hh q
def on1 (ds : List D) (k : D → Prop) : Prop := match ds with
  | [d] => k d
  | _ => False
def on2 (ds : List D) (k : D → D → Prop) : Prop := match ds with
  | [d, e] => k d e
  | _ => False
theorem one_of {K : Kf} {F : Hp} {ds : List D} {vs : List V} {k : D → Prop} (r : Reps K F ds vs) (q : on1 ds k) : ∃ d v, ds = [d] ∧ vs = [v] ∧ Rep K F d v ∧ k d := by
  match ds, vs, r, q with
  | [d], [v], .cons a .nil, q => exact ⟨d, v, rfl, rfl, a, q⟩
theorem two_of {K : Kf} {F : Hp} {ds : List D} {vs : List V} {k : D → D → Prop} (r : Reps K F ds vs) (q : on2 ds k) : ∃ d e v u, ds = [d, e] ∧ vs = [v, u] ∧ Rep K F d v ∧ Rep K F e u ∧ k d e := by
  match ds, vs, r, q with
  | [d, e], [v, u], .cons a (.cons b .nil), q => exact ⟨d, e, v, u, rfl, rfl, a, b, q⟩
/-! len -/
def gLen : GA := fun ds h Kn => on1 ds fun x => match x with
  | .str z => z.length ≤ sizeLine ∧ Kn (.d (.int z.length)) h
  | .dct kvs => Kn (.d (.int kvs.length)) h
  | .ref a => (match h a with
    | some (.dct kvs) => Kn (.d (.int kvs.length)) h
    | _ => onQ h x fun xs => Kn (.d (.int xs.length)) h)
  | _ => onQ h x fun xs => Kn (.d (.int xs.length)) h
theorem call_lenR : CallR X (.builtin "len") (fun xs H Q => ∃ a kvs, xs = [V.ref a] ∧ Rd H a (.dK kvs) ∧ Q (.int kvs.length) H) := by
  intro pins s σ H xs us Q I r h
  obtain ⟨a, kvs, rfl, ha, q⟩ := h
  obtain ⟨u, rfl, ru⟩ := vals1 r
  cases ru
  exact d_len I ha fun t s' I' => ⟨.int kvs.length, H, I', ⟨t, rfl⟩, q⟩
theorem has_len {K : Kf} : HasA K (fun xs H Q => (∃ x n, xs = [x] ∧ LenV K x H n ∧ Q (.int n) H) ∨ ∃ a kvs, xs = [V.ref a] ∧ Rd H a (.dK kvs) ∧ Q (.int kvs.length) H) gLen := by
  intro B F E h σ H xs vs Q Kn R r q hn
  obtain ⟨d, v, rfl, rfl, rp, q⟩ := one_of r q
  have sq : (onQ h d fun xs => Kn (.d (.int xs.length)) h) → ∃ x n, [v] = [x] ∧ LenV K x H n ∧ Q (.int n) H := fun q => by
    obtain ⟨a, xs, vs, rfl, e, rs, q⟩ := seq_of R rp q
    refine ⟨_, vs.length, rfl, ?_, by rw [← rs.len]; exact hn (.d (.int _)) h F H _ (Le.refl F) R (.int _) q⟩
    rcases e with e | e
    · exact .inl ⟨vs, e, rfl⟩
    · exact .inr ⟨vs, e, rfl⟩
  cases rp with
  | str z => exact .inl ⟨_, z.length, rfl, ⟨q.1, rfl⟩, hn (.d (.int _)) h F H _ (Le.refl F) R (.int _) q.2⟩
  | dct e rs => exact .inr ⟨_, _, rfl, R.rd e, by rw [← rs.len]; exact hn (.d (.int _)) h F H _ (Le.refl F) R (.int _) q⟩
  | ref a =>
    have q' : (match h a with
    | some (.dct kvs) => Kn (.d (.int kvs.length)) h
    | _ => onQ h (.ref a) fun xs => Kn (.d (.int xs.length)) h) := q
    cases e : h a with
    | none => rw [e] at q'; exact .inl (sq q')
    | some m =>
      rw [e] at q'
      cases m with
      | lst xs => exact .inl (sq q')
      | ins C fs => exact .inl (sq q')
      | dct kvs =>
        obtain ⟨ws, e2, rs⟩ := R.cel a _ e
        exact .inr ⟨a, ws, rfl, .inl e2, by rw [← rs.len]; exact hn (.d (.int _)) h F H _ (Le.refl F) R (.int _) q'⟩
  | non => exact .inl (sq q)
  | bl b => exact .inl (sq q)
  | int b => exact .inl (sq q)
  | tup e rs => exact .inl (sq q)
  | lst e rs => exact .inl (sq q)
  | scr e => exact .inl (sq q)
theorem call_lenA : CallR X (.builtin "len") (fun xs H Q => (∃ x n, xs = [x] ∧ LenV X.K x H n ∧ Q (.int n) H) ∨ ∃ a kvs, xs = [V.ref a] ∧ Rd H a (.dK kvs) ∧ Q (.int kvs.length) H) := call_len.or call_lenR
/-! list(..), tuple(..) of a list or a tuple -/
def gList : GA := fun ds h Kn => on1 ds fun x => onQ h x fun xs => Kn (.ol xs) h
theorem has_list {K : Kf} : HasA K (fun xs H Q => ∃ p ys, xs = [.ref p] ∧ (SqL K H p ys ∨ SqT K H p ys) ∧ ∀ l, H l = none → Q (.ref l) (upd H l (.lst ys))) gList := by
  intro B F E h σ H xs vs Q Kn R r q hn
  obtain ⟨d, v, rfl, rfl, rp, q⟩ := one_of r q
  obtain ⟨a, xs, vs, rfl, e, rs, q⟩ := seq_of R rp q
  exact ⟨a, vs, rfl, e, fun p hp => hn (.ol xs) h F _ _ (Le.refl F) (R.newO hp) ⟨p, _, rfl, upd_same, rs, R.noB hp, R.noF hp, R.noh hp⟩ q⟩
def gTuple : GA := fun ds h Kn => on1 ds fun x => onQ h x fun xs => Kn (.d (.tup xs)) h
theorem has_tuple {K : Kf} : HasA K (fun xs H Q => ∃ p ys, xs = [.ref p] ∧ ((SqL K H p ys ∧ ∀ l, H l = none → Q (.ref l) (upd H l (.tup ys))) ∨ (SqT K H p ys ∧ Q (.ref p) H))) gTuple := by
  intro B F E h σ H xs vs Q Kn R r q hn
  obtain ⟨d, v, rfl, rfl, rp, q⟩ := one_of r q
  have lst : ∀ {a : Addr} {xs : List D} {vs : List V}, SqL K H a vs → Reps K F xs vs → Kn (.d (.tup xs)) h → (∃ p ys, [V.ref a] = [.ref p] ∧ ((SqL K H p ys ∧ ∀ l, H l = none → Q (.ref l) (upd H l (.tup ys))) ∨ (SqT K H p ys ∧ Q (.ref p) H))) := fun e rs q =>
    ⟨_, _, rfl, .inl ⟨e, fun p hp => hn (.d (.tup _)) h _ _ _ (Le.new (R.noF hp)) (R.newF hp) (.tup (.inl (.inl upd_same)) (rs.mono (Le.new (R.noF hp)))) q⟩⟩
  cases rp with
  | tup e rs => exact ⟨_, _, rfl, .inr ⟨R.sqT e, hn (.d (.tup _)) h F H _ (Le.refl F) R (.tup e rs) q⟩⟩
  | lst e rs => exact lst (.of (R.frz _ _ e).1) rs q
  | scr e => exact lst (R.sqL e) (Reps.ints _) q
  | ref a =>
    have q' : (match h a with
      | some (.lst xs) => Kn (.d (.tup xs)) h
      | _ => False) := q
    cases e : h a with
    | none => rw [e] at q'; exact q'.elim
    | some m =>
      rw [e] at q'
      cases m with
      | lst xs =>
        obtain ⟨vs, e2, rs⟩ := R.cel a _ e
        exact lst (.of e2) rs q'
      | ins C fs => exact q'.elim
      | dct kvs => exact q'.elim
  | _ => exact q.elim
/-! sums, bounds, all -/
def intsD : List D → Option (List Int)
  | [] => some []
  | .int i :: r => (intsD r).map (i :: ·)
  | _ => none
theorem ints_eq : ∀ {xs : List D} {ns : List Int}, intsD xs = some ns → xs = ns.map D.int
  | [], ns, h => by cases h; rfl
  | .int i :: r, ns, h => by
    simp only [intsD, Option.map_eq_some_iff] at h
    obtain ⟨ms, h, rfl⟩ := h
    rw [ints_eq h]
    rfl
  | .non :: _, _, h | .bl _ :: _, _, h | .str _ :: _, _, h | .tup _ :: _, _, h | .lst _ :: _, _, h | .dct _ :: _, _, h | .ref _ :: _, _, h | .scr _ :: _, _, h => by cases h
theorem ints_map (ns : List Int) : intsD (ns.map D.int) = some ns := by
  induction ns with
  | nil => rfl
  | cons n r ih =>
    show (intsD (r.map D.int)).map (n :: ·) = _
    rw [ih]
    rfl
def blsD : List D → Option (List Bool)
  | [] => some []
  | .bl i :: r => (blsD r).map (i :: ·)
  | _ => none
theorem bls_eq : ∀ {xs : List D} {ns : List Bool}, blsD xs = some ns → xs = ns.map D.bl
  | [], ns, h => by cases h; rfl
  | .bl i :: r, ns, h => by
    simp only [blsD, Option.map_eq_some_iff] at h
    obtain ⟨ms, h, rfl⟩ := h
    rw [bls_eq h]
    rfl
  | .non :: _, _, h | .int _ :: _, _, h | .str _ :: _, _, h | .tup _ :: _, _, h | .lst _ :: _, _, h | .dct _ :: _, _, h | .ref _ :: _, _, h | .scr _ :: _, _, h => by cases h
theorem bls_map (ns : List Bool) : blsD (ns.map D.bl) = some ns := by
  induction ns with
  | nil => rfl
  | cons n r ih =>
    show (blsD (r.map D.bl)).map (n :: ·) = _
    rw [ih]
    rfl
def onInts (xs : List D) (k : List Int → Prop) : Prop := match intsD xs with
  | some ns => k ns
  | none => False
def onBls (xs : List D) (k : List Bool → Prop) : Prop := match blsD xs with
  | some ns => k ns
  | none => False
theorem onInts_of {xs : List D} {k : List Int → Prop} (q : onInts xs k) : ∃ ns, xs = ns.map D.int ∧ k ns := by
  unfold onInts at q
  cases e : intsD xs with
  | none => rw [e] at q; exact q.elim
  | some ns => rw [e] at q; exact ⟨ns, ints_eq e, q⟩
theorem onBls_of {xs : List D} {k : List Bool → Prop} (q : onBls xs k) : ∃ ns, xs = ns.map D.bl ∧ k ns := by
  unfold onBls at q
  cases e : blsD xs with
  | none => rw [e] at q; exact q.elim
  | some ns => rw [e] at q; exact ⟨ns, bls_eq e, q⟩
/-- lists alone (no tuple) -/
def onLs (h : MH) (d : D) (k : List D → Prop) : Prop := match d with
  | .tup _ => False
  | d => onQ h d k
theorem lsq_of {K : Kf} {B F : Hp} {E : En} {h : MH} {σ : L2.St} {H : Hp} {d : D} {v : V} {k : List D → Prop} (R : Rel K B F E h σ H) (r : Rep K F d v) (q : onLs h d k) : ∃ a xs vs, v = .ref a ∧ SqL K H a vs ∧ Reps K F xs vs ∧ k xs := by
  cases r with
  | lst e rs => exact ⟨_, _, _, rfl, .of (R.frz _ _ e).1, rs, q⟩
  | tup e rs => exact q.elim
  | scr e => exact ⟨_, _, _, rfl, R.sqL e, Reps.ints _, q⟩
  | ref a =>
    have q : (match h a with
      | some (.lst xs) => k xs
      | _ => False) := q
    cases e : h a with
    | none => rw [e] at q; exact q.elim
    | some m =>
      rw [e] at q
      cases m with
      | lst xs =>
        obtain ⟨vs, e2, rs⟩ := R.cel a _ e
        exact ⟨a, xs, vs, rfl, .of e2, rs, q⟩
      | dct xs => exact q.elim
      | ins C fs => exact q.elim
  | _ => exact q.elim
def gSum : GA := fun ds h Kn => on1 ds fun x => onLs h x fun xs => onInts xs fun ns => Kn (.d (.int ns.sum)) h
theorem has_sum {K : Kf} : HasA K (rSum K) gSum := by
  intro B F E h σ H xs vs Q Kn R r q hn
  obtain ⟨d, v, rfl, rfl, rp, q⟩ := one_of r q
  obtain ⟨a, xs, vs, rfl, e, rs, q⟩ := lsq_of R rp q
  obtain ⟨ns, rfl, q2⟩ := onInts_of q
  rw [rs.of_ints] at e
  exact ⟨a, ns, rfl, e, hn (.d (.int _)) h F H _ (Le.refl F) R (.int _) q2⟩
def gMin : GA := fun ds h Kn => on1 ds fun x => onLs h x fun xs => onInts xs fun ns => 0 < ns.length ∧ ∀ m, m ∈ ns → (∀ y, y ∈ ns → m ≤ y) → Kn (.d (.int m)) h
theorem has_min {K : Kf} : HasA K (rMin K) gMin := by
  intro B F E h σ H xs vs Q Kn R r q hn
  obtain ⟨d, v, rfl, rfl, rp, q⟩ := one_of r q
  obtain ⟨a, xs, vs, rfl, e, rs, q⟩ := lsq_of R rp q
  obtain ⟨ns, rfl, q1, q2⟩ := onInts_of q
  rw [rs.of_ints] at e
  exact ⟨a, ns, rfl, e, q1, fun m hm hy => hn (.d (.int m)) h F H _ (Le.refl F) R (.int _) (q2 m hm hy)⟩
def gMax : GA := fun ds h Kn => on1 ds fun x => onLs h x fun xs => onInts xs fun ns => 0 < ns.length ∧ ∀ m, m ∈ ns → (∀ y, y ∈ ns → y ≤ m) → Kn (.d (.int m)) h
theorem has_max {K : Kf} : HasA K (rMax K) gMax := by
  intro B F E h σ H xs vs Q Kn R r q hn
  obtain ⟨d, v, rfl, rfl, rp, q⟩ := one_of r q
  obtain ⟨a, xs, vs, rfl, e, rs, q⟩ := lsq_of R rp q
  obtain ⟨ns, rfl, q1, q2⟩ := onInts_of q
  rw [rs.of_ints] at e
  exact ⟨a, ns, rfl, e, q1, fun m hm hy => hn (.d (.int m)) h F H _ (Le.refl F) R (.int _) (q2 m hm hy)⟩
def gAll : GA := fun ds h Kn => on1 ds fun x => onLs h x fun xs => onBls xs fun bs => Kn (.d (.bl (bs.all id))) h
theorem has_all {K : Kf} : HasA K (rAll K) gAll := by
  intro B F E h σ H xs vs Q Kn R r q hn
  obtain ⟨d, v, rfl, rfl, rp, q⟩ := one_of r q
  obtain ⟨a, xs, vs, rfl, e, rs, q⟩ := lsq_of R rp q
  obtain ⟨ns, rfl, q2⟩ := onBls_of q
  rw [rs.of_bls] at e
  exact ⟨a, ns, rfl, e, hn (.d (.bl _)) h F H _ (Le.refl F) R (.bl _) q2⟩
def gAny : GA := fun ds h Kn => on1 ds fun x => onLs h x fun xs => onBls xs fun bs => Kn (.d (.bl (bs.any id))) h
theorem has_any {K : Kf} : HasA K (rAny K) gAny := by
  intro B F E h σ H xs vs Q Kn R r q hn
  obtain ⟨d, v, rfl, rfl, rp, q⟩ := one_of r q
  obtain ⟨a, xs, vs, rfl, e, rs, q⟩ := lsq_of R rp q
  obtain ⟨ns, rfl, q2⟩ := onBls_of q
  rw [rs.of_bls] at e
  exact ⟨a, ns, rfl, e, hn (.d (.bl _)) h F H _ (Le.refl F) R (.bl _) q2⟩
/-- max(i, j), min(i, j) -/
def gMax2 : GA := fun ds h Kn => on2 ds fun x y => onInt x fun i => onInt y fun j => Kn (.d (.int (if j > i then j else i))) h
theorem has_max2 {K : Kf} : HasA K (fun xs H Q => ∃ i j, xs = [.int i, .int j] ∧ Q (.int (if j > i then j else i)) H) gMax2 := by
  intro B F E h σ H xs vs Q Kn R r q hn
  obtain ⟨d, e, v, u, rfl, rfl, rp, rq, q⟩ := two_of r q
  obtain ⟨i, rfl, rfl, q⟩ := int_of rp q
  obtain ⟨j, rfl, rfl, q⟩ := int_of rq q
  exact ⟨i, j, rfl, hn (.d (.int _)) h F H _ (Le.refl F) R (.int _) q⟩
def gMin2 : GA := fun ds h Kn => on2 ds fun x y => onInt x fun i => onInt y fun j => Kn (.d (.int (if j < i then j else i))) h
theorem has_min2 {K : Kf} : HasA K (fun xs H Q => ∃ i j, xs = [.int i, .int j] ∧ Q (.int (if j < i then j else i)) H) gMin2 := by
  intro B F E h σ H xs vs Q Kn R r q hn
  obtain ⟨d, e, v, u, rfl, rfl, rp, rq, q⟩ := two_of r q
  obtain ⟨i, rfl, rfl, q⟩ := int_of rp q
  obtain ⟨j, rfl, rfl, q⟩ := int_of rq q
  exact ⟨i, j, rfl, hn (.d (.int _)) h F H _ (Le.refl F) R (.int _) q⟩
def gAbs : GA := fun ds h Kn => on1 ds fun x => onInt x fun i => Kn (.d (.int (if i < 0 then -i else i))) h
theorem has_abs {K : Kf} : HasA K (fun xs H Q => ∃ i, xs = [.int i] ∧ Q (.int (if i < 0 then -i else i)) H) gAbs := by
  intro B F E h σ H xs vs Q Kn R r q hn
  obtain ⟨d, v, rfl, rfl, rp, q⟩ := one_of r q
  obtain ⟨i, rfl, rfl, q⟩ := int_of rp q
  exact ⟨i, rfl, hn (.d (.int _)) h F H _ (Le.refl F) R (.int _) q⟩
/-- int(b), int(i) -/
def gInt : GA := fun ds h Kn => on1 ds fun x => match x with
  | .int i => Kn (.d (.int i)) h
  | .bl b => Kn (.d (.int (if b then 1 else 0))) h
  | _ => False
theorem has_intC {K : Kf} : HasA K (fun xs H Q => (∃ i, xs = [.int i] ∧ Q (.int i) H) ∨ ∃ k, xs = [.bl k] ∧ Q (.int (if k then 1 else 0)) H) gInt := by
  intro B F E h σ H xs vs Q Kn R r q hn
  obtain ⟨d, v, rfl, rfl, rp, q⟩ := one_of r q
  cases rp with
  | int i => exact .inl ⟨i, rfl, hn (.d (.int _)) h F H _ (Le.refl F) R (.int _) q⟩
  | bl b => exact .inr ⟨b, rfl, hn (.d (.int _)) h F H _ (Le.refl F) R (.int _) q⟩
  | _ => exact q.elim
/-- sorted(list of ints) -/
def gSorted : GA := fun ds h Kn => on1 ds fun x => onLs h x fun xs => onInts xs fun ns => ∀ ms : List Int, ms.Perm ns → ms.Pairwise (· ≤ ·) → Kn (.ol (ms.map D.int)) h
theorem has_sorted {K : Kf} : HasA K (rSortedI K) gSorted := by
  intro B F E h σ H xs vs Q Kn R r q hn
  obtain ⟨d, v, rfl, rfl, rp, q⟩ := one_of r q
  obtain ⟨a, xs, vs, rfl, e, rs, q⟩ := lsq_of R rp q
  obtain ⟨ns, rfl, q2⟩ := onInts_of q
  rw [rs.of_ints] at e
  exact ⟨a, ns, rfl, e, fun ms p h1 h2 hp => hn (.ol (ms.map D.int)) h F _ _ (Le.refl F) (R.newO hp) ⟨p, _, rfl, upd_same, Reps.ints ms, R.noB hp, R.noF hp, R.noh hp⟩ (q2 ms h1 h2)⟩
end
end M3
set_option Elab.async false
set_option linter.all false
set_option maxRecDepth 100000
set_option maxHeartbeats 4000000
namespace PySem
open Sem (wp)
theorem m3_enumerate_newB1 {v : Value} {o : Obj} {H : Heap → Prop} (B : Begins v o H) :
    Meets (Builtin.«enumerate.__new__» ⟨[.type "enumerate", v], []⟩) (fun _ R s => H s.heap ∧
      R (.ok (.ret (.ref (s.heap.push o).objs.size))) { s with heap := (s.heap.push o).push { cls := .type "enumerate", data := .fields #[.none, .bool false, .ref s.heap.objs.size, rawInt 0, .none, .none] } }) :=
  .of_wp fun prog w A R s h => by
    obtain ⟨hp, g, d, tk, os⟩ := s; obtain ⟨h1, h⟩ := h
    have hsub := sub_enumerate
    have q1 : ∀ {A' : Around} {E : Value → Shared → Prop} {Q : Value → Shared → Prop}, Q (.ref hp.objs.size) ⟨hp.push o, g, d, tk, os⟩ → wpAny (model prog w) A' (pyIter v) Q E ⟨hp, g, d, tk, os⟩ :=
      fun q => B.iter prog w _ _ ⟨hp, g, d, tk, os⟩ _ h1 q
    wp_walk using q1
    refine wpAny_stack_any fun st => wpAny_pure ?_
    split
    · rename_i c _ _ _ _ _
      cases (c == Value.type "enumerate")
      · wp_walk using q1
        exact ⟨_, rfl, h⟩
      · wp_walk using q1
        exact ⟨_, rfl, h⟩
    · wp_walk using q1
      exact ⟨_, rfl, h⟩
theorem m3_enum_begins1 {prog : Program} {w : World} {A : Around} {E : Value → Shared → Prop} {s : Shared} {v : Value} {o : Obj} {H : Heap → Prop} {Q : Value → Shared → Prop} (B : Begins v o H) (h1 : H s.heap)
    (h : ∀ h', IsEnum h' (s.heap.objs.size + 1) s.heap.objs.size 0 .none → h'.get? s.heap.objs.size = some o → h'.objs.size = s.heap.objs.size + 2 →
      (∀ b o, s.heap.get? b = some o → h'.get? b = some o) → Q (.ref (s.heap.objs.size + 1)) { s with heap := h' }) :
    wpAny (model prog w) A (call (.type "enumerate") [v]) Q E s := by
  refine callType_new F.called_enumerate (by decide) (F.typeCall_enumerate_1 _) (F.newCall_enumerate_1 _) (fun obj => F.args_object_init_2 obj _) F.entry_enumerate_new
    (m3_enumerate_newB1 B) ⟨h1, ?_⟩
  have hz : (s.heap.push o).objs.size = s.heap.objs.size + 1 := Heap.size_push ..
  show _ ∧ _
  rw [hz]
  have he : IsEnum ((s.heap.push o).push { cls := .type "enumerate", data := .fields #[.none, .bool false, .ref s.heap.objs.size, rawInt 0, .none, .none] }) (s.heap.objs.size + 1) s.heap.objs.size 0 .none := by
    have := Heap.get?_push_size (s.heap.push o) (o := { cls := .type "enumerate", data := .fields #[.none, .bool false, .ref s.heap.objs.size, rawInt 0, .none, .none] }) rfl
    rw [hz] at this; exact this
  refine ⟨⟨_, he, rfl⟩, h _ he (Heap.get?_push_of_some _ (Heap.get?_push_size _ B.free)) (by rw [Heap.size_push, hz]) fun b o x => Heap.get?_push_of_some _ (Heap.get?_push_of_some _ x)⟩
end PySem
namespace M3
open PySem PySem.Spec PyProof.Rows L2
/-! ### enumerate of a tuple -/
def IteT (K : PySem.W.Frag) (a : Addr) : It :=
  ⟨fun i H => ∃ (xs : List V) (x : V), SqT K H a xs ∧ xs[i]? = some x, fun i H v H' => ∃ T x, v = .ref T ∧ H T = none ∧ H' = upd H T (.tup [.int (i : Nat), x]) ∧ ∀ xs, SqT K H a xs → xs[i]? = some x, fun i H => ∃ xs : List V, SqT K H a xs ∧ xs.length ≤ i⟩
theorem turn_enumT {P : Program} {w : World} {K : PySem.W.Frag} {elts : List Expr} {kk : Nat} {tpos : Pos} (a e it : Addr) (hae : a ≠ e) (hai : a ≠ it) :
    Turn P w K (.Tuple elts kk tpos) (IteT K a) [e, it] e (fun i h => (∃ old, IsEnum h e it ((i : Nat) : Int) old) ∧ h.IsTupleIter it a i ∧ e ≠ it) where
  mem := by simp
  obj := fun i h st b hb => by
    obtain ⟨⟨old, he⟩, ⟨o, ho, hc, hd⟩, _⟩ := st
    have e' : b = e ∨ b = it := by simpa using hb
    rcases e' with z | z
    · rw [z]; exact ⟨_, he, fun v q => nomatch q⟩
    · rw [z]; exact ⟨o, ho, fun v q => by rw [hd] at q; cases q⟩
  keep := fun i h h' st k => let ⟨⟨old, he⟩, hi, hne⟩ := st; ⟨⟨old, k e (by simp) _ he⟩, hi.at fun o q => k it (by simp) o q, hne⟩
  item := by
    intro X hP hw hK hc i pins s σ H E I hf st hg
    subst hP hw hK
    obtain ⟨⟨old, he⟩, hit, hne⟩ := st
    obtain ⟨xs, x, hq, hx⟩ := hg
    obtain ⟨its, rv, p, hz⟩ := I.tuple hq
    obtain ⟨u, hu, ru⟩ := rv.get hx
    have hel : e < s.heap.objs.size := Heap.lt_size he
    have hil : it < s.heap.objs.size := by obtain ⟨_, q, _⟩ := hit; exact Heap.lt_size q
    have hlen : i < its.toArray.size := by
      rw [List.size_toArray]
      exact (List.getElem?_eq_some_iff.mp hu).1
    refine wpAny_pyNext_enum_itemD (D := Draws.tuple (A := X.A.in1) (I.ok.hd hc) it a hai its.toArray) he ⟨hit, (show s.heap.IsTuple a its.toArray from p)⟩ hlen hne (by simp [hne, Ne.symm hae]) fun y h' tk hy ho hst' hT hsz hk => ?_
    have ey : y = u := by
      have h1 : its[i]? = some y := by simpa using hy
      rw [h1] at hu
      exact Option.some.inj hu
    subst ey
    refine ⟨_, rfl, wpAny_letOwnedTupleGo_enum (s := { s with heap := h', toks := tk + 1 }) ho fun h'' he' sb => ?_⟩
    have hT2 : h''.get? s.heap.objs.size = some { cls := .type "tuple", data := .seq #[.int i tk, y] } := (sb.2 _ (Nat.ne_of_gt hel)).trans hT
    have new : ObjOk X.prog X.w (upd H s.heap.objs.size (.tup [.int (i : Nat), x])) h'' s.heap.objs.size (.tup [.int (i : Nat), x]) :=
      ⟨by show 2 ≤ sizeLine; decide, [.int i tk, y], .cons ⟨_, rfl⟩ (.cons ru .nil), ⟨_, hT2, rfl, _, rfl⟩⟩
    have I1 : Inv X pins σ (upd H s.heap.objs.size (.tup [.int (i : Nat), x])) { s with heap := h'', toks := tk + 1 } :=
      I.turnedNew (ch := [e, it]) (fun b ob hb q => (sb.2 b (fun z => hb (by simp [z]))).trans (hk b ob (fun z => hb (by simp [z])) (fun z => hb (by simp [z])) q)) hf (Nat.le_refl _) new
    refine ⟨.ref s.heap.objs.size, _, I1, rfl, ⟨_, x, rfl, I.hok.fresh (Nat.le_refl _), rfl, fun ys hy => by rw [I.tuple_inj hy hq]; exact hx⟩, ⟨⟨y, ?_⟩, hst'.1.at fun o q => (sb.2 it (Ne.symm hne)).trans q, hne⟩, fun b hb => ?_⟩
    · have e1 : ((i + 1 : Nat) : Int) = (i : Int) + 1 := by omega
      rw [e1]; exact he'
    · have hb' : b < s.heap.objs.size := by
        have e' : b = e ∨ b = it := by simpa using hb
        rcases e' with z | z
        · rw [z]; exact hel
        · rw [z]; exact hil
      rw [upd_ne (Nat.ne_of_lt hb')]
      exact (hf b hb).1
  done := by
    intro X hP hw hK hc i pins s σ H E I hf st hg
    subst hP hw hK
    obtain ⟨⟨old, he⟩, hit, hne⟩ := st
    obtain ⟨xs, hq, hx⟩ := hg
    obtain ⟨its, rv, p, hz⟩ := I.tuple hq
    obtain ⟨f0, f1, f2, f3, f4, f5⟩ := hf it (by simp)
    have hl := rv.length
    have hT : s.TypeIs (.ref e) "enumerate" := ⟨_, he, rfl⟩
    unfold pyNext
    refine wpAny_bind (wpAny_attempt (wpAny_callSpecial?_slot (name := Str.ofString "__next__") hT F.slot_enumerate_next
      (wpAny_call_entry F.slot_enumerate_next hT F.entry_enumerate_next ?_ (F.args_enumerate_next_1 _))))
    show wpAny _ _ (field (.ref e) 2 >>= _) _ _ _
    refine wpAny_bind (wpAny_field he rfl (x := .ref it) rfl ?_)
    refine wpAny_bind (wpAny_nextOf_tuple_end (I.ok.hd hc) hit (show s.heap.IsTuple a its.toArray from p) (by simp; omega) fun h' x he' hx' => ?_)
    obtain ⟨o, ho, hc2⟩ := hx'
    refine wpAny_bind (wpAny_isInstance (T := "StopIteration") (b := true) ⟨o, ho, hc2⟩ isSubtype_stop ?_)
    exact wpAny_pure ⟨rfl, I.turned (t' := s.toks) (fun b o hb q => he' b o hb q) f0 f1 f3 f4 f5⟩
  self := fun A i s Q E st h => let ⟨⟨_, he⟩, _⟩ := st; wpAny_pyIter_enum he h
def iEnumA (K : PySem.W.Frag) (ta : TA) : TI := fun σ H R => ta σ H fun vs H1 => ∃ a xs, vs = [.ref a] ∧ ((SqL K H1 a xs ∧ R (Ite K a) H1) ∨ (SqT K H1 a xs ∧ R (IteT K a) H1))
theorem pi_enumA {X : Cx} {e : Expr} {ta : TA} {p pos tpos : Pos} {elts : List Expr} {kk : Nat} (hg : Gl X "enumerate") (hm : X.mg "enumerate" = none) (ha : PA X [e] ta) (hs : starEach [e] X.env = [(false, eval e X.env)] := by rfl) :
    PI X (.Tuple elts kk tpos) (.Call (.Name "enumerate" p) [e] [] pos) (iEnumA X.K ta) := by
  refine ⟨fun pins s σ H R I h => ?_⟩
  refine Call_ (ld_blt I hg hm boot_enumerate (PyProof.Rows.callWith_type1 (thn (ha.run pos pins s σ H _ I h) fun us s1 ⟨vs, H1, I1, r1, q1⟩ => ?_) hs rfl))
  obtain ⟨a, xs, ex, q⟩ := q1
  subst ex
  have fr : ∀ b ∈ [s1.heap.objs.size + 1, s1.heap.objs.size], FpOk X pins H1 b := fun b hb => by
    have e' : b = s1.heap.objs.size + 1 ∨ b = s1.heap.objs.size := by simpa using hb
    have hle : s1.heap.objs.size ≤ b := by
      rcases e' with z | z
      · rw [z]; exact Nat.le_add_right _ _
      · rw [z]; exact Nat.le_refl _
    exact I1.fpOk hle (I1.hok.fresh hle)
  cases r1 with
  | cons r rr =>
    cases rr
    cases r
    rcases q with ⟨hq, q⟩ | ⟨hq, q⟩
    · obtain ⟨its, rv, p', hz⟩ := I1.list hq
      refine call_enumerate_list p'.isList fun h' he hit hsz hk => wpAny_pyIter_enum he ?_
      have I2 : Inv X pins σ H1 { s1 with heap := h' } := I1.kept (t' := s1.toks) hk
      exact ⟨s1.heap.objs.size + 1, [s1.heap.objs.size + 1, s1.heap.objs.size], _, _, H1, rfl, I2, turn_enum a (s1.heap.objs.size + 1) s1.heap.objs.size, ⟨⟨.none, he⟩, hit, Nat.succ_ne_self _⟩, fr, q⟩
    · obtain ⟨its, rv, p', hz⟩ := I1.tuple hq
      have hal : a < s1.heap.objs.size := by
        obtain ⟨_, e, _⟩ := id p'
        exact Heap.lt_size e
      refine m3_enum_begins1 (begins_tuple a its.toArray) (show s1.heap.IsTuple a its.toArray from p') fun h' he hit hsz hk => wpAny_pyIter_enum he ?_
      have I2 : Inv X pins σ H1 { s1 with heap := h' } := I1.kept (t' := s1.toks) hk
      exact ⟨s1.heap.objs.size + 1, [s1.heap.objs.size + 1, s1.heap.objs.size], _, _, H1, rfl, I2, turn_enumT a (s1.heap.objs.size + 1) s1.heap.objs.size (Nat.ne_of_lt (Nat.lt_succ_of_lt hal)) (Nat.ne_of_lt hal), ⟨⟨.none, he⟩, ⟨_, hit, rfl, rfl⟩, Nat.succ_ne_self _⟩, fr, q⟩
theorem walk_enumT {K : PySem.W.Frag} {a : Addr} {xs : List V} : Walk (IteT K a) xs.length (fun H => SqT K H a xs) (YPair (fun i => some (.int (i : Nat))) (fun i => xs[i]?)) := by
  refine ⟨fun i _ hi q => ⟨xs, xs[i], q, by simp [hi]⟩, fun _ q => ⟨xs, q, Nat.le_refl _⟩, fun i H v H' _ q y => ?_⟩
  obtain ⟨T, x, h1, h2, h3, h4⟩ := y
  exact ⟨T, .int (i : Nat), x, h1, h2, h3, rfl, h4 xs q⟩
/-- a walk that makes a new pair each turn -/
theorem Src.pairs {K : Kf} {B F : Hp} {items : List D} {J : It} {f g : Nat → Option V} {G : Hp → Prop} (w : Walk J items.length G (YPair f g)) (r : ∀ i x y, i < items.length → f i = some x → g i = some y → ∃ d e, items[i]? = some (.tup [d, e]) ∧ Rep K F d x ∧ Rep K F e y)
    (hG : ∀ B2 F2 E2 h2 σ2 H2, (∀ a o, B a = some o → B2 a = some o) → Le F F2 → Rel K B2 F2 E2 h2 σ2 H2 → G H2) {back : MH → MH} {B0 : Hp}
    (bk : ∀ F2 E2 h2 σ2 H2, Le F F2 → Rel K B F2 E2 h2 σ2 H2 → Rel K B0 F2 E2 (back h2) σ2 H2) (vl : ∀ F2 h2 H2 r v, Le F F2 → RvOk K B F2 h2 H2 r v → RvOk K B0 F2 (back h2) H2 r v) : Src K B0 F items B back J := by
  refine ⟨⟨G, _, w, hG, ?_⟩, bk, vl⟩
  rintro B2 F2 E2 h2 σ2 H2 i x H3 sb l R hi ⟨T, x, y, rfl, nT, rfl, e1, e2⟩
  obtain ⟨d, e, ed, r1, r2⟩ := r i x y hi e1 e2
  have l2 : Le F2 (upd F2 T (.tup [x, y])) := Le.new (R.noF nT)
  exact ⟨_, _, ed, l2, R.newF nT, .tup (.inl (.inl upd_same)) (.cons (r1.mono (l.trans l2)) (.cons (r2.mono (l.trans l2)) .nil))⟩
def enumD (xs : List D) : List D := (List.range xs.length).zipWith (fun i x => D.tup [.int (i : Nat), x]) xs
theorem enumD_len (xs : List D) : (enumD xs).length = xs.length := by simp [enumD]
theorem enumD_get {K : Kf} {F : Hp} {xs : List D} {vs : List V} (rs : Reps K F xs vs) (i : Nat) (x y : V) (hi : i < (enumD xs).length) (h1 : some (V.int (i : Nat)) = some x) (h2 : vs[i]? = some y) : ∃ d e, (enumD xs)[i]? = some (.tup [d, e]) ∧ Rep K F d x ∧ Rep K F e y := by
  rw [enumD_len] at hi
  obtain ⟨d, ed, rd⟩ := rs.getV h2
  cases h1
  refine ⟨.int (i : Nat), d, ?_, .int _, rd⟩
  have e2 : xs[i] = d := by
    rw [List.getElem?_eq_getElem hi] at ed
    exact Option.some.inj ed
  simp [enumD, hi, e2]
def mEnum (ta : TAm) : TIm := fun E h Kn Kx => ta E h (fun ds h' => on1 ds fun d => match d with
  | .tup xs => Kn (enumD xs) h' id
  | .lst xs => Kn (enumD xs) h' id
  | .ref p => (match h' p with
    | some (.lst xs) => Kn (enumD xs) (del h' p) (fun h2 => put h2 p (.lst xs))
    | _ => False)
  | _ => False) Kx
theorem mi_enum {X : Cx} {W : WX} {e : Expr} {ta : TAm} {p pos tpos : Pos} {elts : List Expr} {kk : Nat} (hg : Gl X "enumerate") (hm : X.mg "enumerate" = none) (ha : MA X W [e] ta) (hs : starEach [e] X.env = [(false, eval e X.env)] := by rfl) :
    MI X W (.Tuple elts kk tpos) (.Call (.Name "enumerate" p) [e] [] pos) (mEnum ta) := fun B => (pi_enumA hg hm (ha B) hs).impM fun σ H Rr ⟨F, E, h, Kn, Kx, R, ht, hx, hn⟩ => by
  refine ⟨F, E, h, _, Kx, R, ht, hx, fun ds h' F' H' vs l R' r k => ?_⟩
  obtain ⟨d, v, rfl, rfl, rp, k⟩ := one_of r k
  cases rp with
  | @tup a vs ds q rs => exact ⟨_, _, rfl, .inr ⟨R'.sqT q, hn (enumD ds) h' id F' H' B _ l R' (Src.pairs (by rw [enumD_len, rs.len]; exact walk_enumT) (enumD_get rs) (fun B2 F2 _ _ _ _ _ l2 R2 => R2.sqT (l2.sqT q)) (fun _ _ _ _ _ _ R => R) (fun _ _ _ _ _ _ q => q)) k⟩⟩
  | @lst a vs ds q rs => exact ⟨_, _, rfl, .inl ⟨.of (R'.frz _ _ q).1, hn (enumD ds) h' id F' H' B _ l R' (Src.pairs (by rw [enumD_len, rs.len]; exact walk_enum) (enumD_get rs) (fun B2 F2 _ _ _ _ _ l2 R2 => SqL.of (R2.frz _ _ (l2.ls _ _ q)).1) (fun _ _ _ _ _ _ R => R) (fun _ _ _ _ _ _ q => q)) k⟩⟩
  | ref a =>
    have k : (match h' a with
      | some (.lst xs) => Kn (enumD xs) (del h' a) (fun h2 => put h2 a (.lst xs))
      | _ => False) := k
    cases e : h' a with
    | none => rw [e] at k; exact k.elim
    | some m =>
      rw [e] at k
      cases m with
      | lst xs =>
        obtain ⟨vs, e2, rs⟩ := R'.cel a _ e
        have b := R'.Bh e
        refine ⟨a, vs, rfl, .inl ⟨.of e2, hn (enumD xs) (del h' a) _ F' H' (upd B a (.lst vs)) _ l (R'.hide e e2) (Src.pairs (by rw [enumD_len, rs.len]; exact walk_enum) (enumD_get rs) (fun B2 F2 _ _ _ _ sb _ R2 => SqL.of (R2.out a _ (sb _ _ upd_same)).1) ?_ ?_) k⟩⟩
        · intro F2 E2 h2 σ2 H2 l2 R2
          exact R2.show b fun z => ⟨vs, z, rs.mono l2⟩
        · intro F2 h2 H2 r v l2 q
          exact q.show b
      | dct xs => exact k.elim
      | ins C fs => exact k.elim
  | _ => exact k.elim
/-! ### isinstance by built-in classes -/
inductive Ty5 where
  | int | bool | str | tuple | list
def Ty5.nm : Ty5 → String
  | .int => "int"
  | .bool => "bool"
  | .str => "str"
  | .tuple => "tuple"
  | .list => "list"
inductive Kd where
  | non | bl | int | str | tup | lst | dct
def Kd.nm : Kd → String
  | .non => "NoneType"
  | .bl => "bool"
  | .int => "int"
  | .str => "str"
  | .tup => "tuple"
  | .lst => "list"
  | .dct => "dict"
def isK : Ty5 → Kd → Bool
  | .int, .int => true
  | .int, .bl => true
  | .bool, .bl => true
  | .str, .str => true
  | .tuple, .tup => true
  | .list, .lst => true
  | _, _ => false
theorem kit5 (T : Ty5) (k : Kd) : kitB k.nm T.nm = some (isK T k) := by
  cases T <;> cases k <;> decide +kernel
def kindD (h : MH) : D → Option Kd
  | .non => some .non
  | .bl _ => some .bl
  | .int _ => some .int
  | .str _ => some .str
  | .tup _ => some .tup
  | .lst _ => some .lst
  | .scr _ => some .lst
  | .dct _ => some .dct
  | .ref p => match h p with
    | some (.lst _) => some .lst
    | some (.dct _) => some .dct
    | _ => none
theorem kind_of {K : Kf} {B F : Hp} {E : En} {h : MH} {σ : L2.St} {H : Hp} {d : D} {v : V} {k : Kd} (R : Rel K B F E h σ H) (r : Rep K F d v) (q : kindD h d = some k) : TyX K H v (.type k.nm) := by
  have tT : ∀ {a : Addr} {vs : List V}, SqT K H a vs → TyX K H (.ref a) (.type "tuple") := fun e => by
    rcases e with (e | ⟨o, e⟩) | ⟨o, its, n, e, c, _⟩
    · exact .base (.tup e)
    · exact .fTuple e
    · exact .kTuple e c
  have tL : ∀ {a : Addr} {vs : List V}, SqL K H a vs → TyX K H (.ref a) (.type "list") := fun e => by
    rcases e with (e | ⟨o, e⟩) | ⟨o, its, n, e, c, _⟩
    · exact .base (.lst e)
    · exact .base (.frz e)
    · exact .kList e c
  have tD : ∀ {a : Addr} {vs : List (Key × V)}, Rd H a (.dK vs) → TyX K H (.ref a) (.type "dict") := fun e => by
    rcases e with e | ⟨o, e⟩
    · exact .base (.dK e)
    · exact .fDict e
  cases r with
  | non => cases q; exact .base .non
  | bl b => cases q; exact .base (.bl b)
  | int b => cases q; exact .base (.int b)
  | str b => cases q; exact .base (.str b)
  | tup e rs => cases q; exact tT (R.sqT e)
  | lst e rs => cases q; exact tL (.of (R.frz _ _ e).1)
  | scr e => cases q; exact tL (R.sqL e)
  | dct e rs => cases q; exact tD (R.rd e)
  | ref a =>
    have q : (match h a with
      | some (.lst _) => some Kd.lst
      | some (.dct _) => some Kd.dct
      | _ => none) = some k := q
    cases e : h a with
    | none => rw [e] at q; cases q
    | some m =>
      rw [e] at q
      cases m with
      | lst xs =>
        cases q
        obtain ⟨vs, e2, rs⟩ := R.cel a _ e
        exact tL (.of e2)
      | dct xs =>
        cases q
        obtain ⟨vs, e2, rs⟩ := R.cel a _ e
        exact tD (.inl e2)
      | ins C fs => cases q
def mIsi (Ts : List Ty5) (t : TVm) : TVm := fun E h Kn Kx => t E h (fun d h' => match kindD h' d with
  | some k => Kn (.bl (Ts.any fun T => isK T k)) h'
  | none => False) Kx
section
variable {X : Cx} {W : WX} {e : Expr} {t : TVm}
theorem isi_ok {K : Kf} {B : Hp} {Ts : List Ty5} {σ : L2.St} {H : Hp} {Q : VK} {r : V → Hp → VK → Prop} (hr : ∀ v H k Q, TyX K H v (.type k.nm) → Q (.bl (Ts.any fun T => isK T k)) H → r v H Q) (q : LV K B W (mIsi Ts t) σ H Q) : LV K B W t σ H fun v H1 => r v H1 Q := by
  obtain ⟨F, E, h, Kn, Kx, R, ht, hx, hn⟩ := q
  refine ⟨F, E, h, _, Kx, R, ht, hx, fun d h' F' H' v l R' rp k => ?_⟩
  cases ek : kindD h' d with
  | none => rw [ek] at k; exact k.elim
  | some kd =>
    rw [ek] at k
    exact hr v H' kd Q (kind_of R' rp ek) (hn (.bl _) h' F' H' _ l R' (.bl _) k)
theorem mv_isi (T : Ty5) {x2 : Str} {p p2 pos : Pos} (hg : Gl X "isinstance") (hm : X.mg "isinstance" = none) (hg2 : Gl X x2) (hm2 : X.mg x2 = none) (hv2 : bootBuiltins x2 = some (.type T.nm)) (h : MV X W e t) (hn2 : x2 ≠ "__name__" := by decide) (hd2 : (x2 == ("__debug__" : Str)) = false := by decide)
    (na : starEach [e, .Name x2 p2] X.env = (false, eval e X.env) :: starEach [.Name x2 p2] X.env := by rfl) (nb : starEach [.Name x2 p2] X.env = (false, eval (.Name x2 p2) X.env) :: starEach [] X.env := by rfl) (hpl : (backTo pos (starEach [.Name x2 p2] X.env)).any (·.1) = false := by rfl) :
    MV X W (.Call (.Name "isinstance" p) [e, .Name x2 p2] [] pos) (mIsi [T] t) := fun B =>
  (pe_callB call_isi hg hm (by decide +kernel) (pa_cons (h B) (pa_cons (pe_bltn (v := .ty T.nm) hg2 hm2 hv2 rfl hn2 hd2) pa_nil nb) na) (by decide) (by decide) na hpl).impM fun σ H Q q =>
    isi_ok (r := fun v H1 Q => rIsi X.K [v, .ty T.nm] H1 Q) (fun v H k Q ty z => ⟨v, .ty T.nm, .type k.nm, .type T.nm, isK T k, rfl, .ty _, ty, kit_ty (kit5 T k), by
      have e : ([T].any fun T => isK T k) = isK T k := by simp
      rw [e] at z
      exact z⟩) q
theorem mv_isi2 (T U : Ty5) {x2 x3 : Str} {k : Nat} {p p2 p3 p4 pos : Pos} (hg : Gl X "isinstance") (hm : X.mg "isinstance" = none) (hg2 : Gl X x2) (hm2 : X.mg x2 = none) (hv2 : bootBuiltins x2 = some (.type T.nm)) (hg3 : Gl X x3) (hm3 : X.mg x3 = none) (hv3 : bootBuiltins x3 = some (.type U.nm)) (h : MV X W e t)
    (hn2 : x2 ≠ "__name__" := by decide) (hd2 : (x2 == ("__debug__" : Str)) = false := by decide) (hn3 : x3 ≠ "__name__" := by decide) (hd3 : (x3 == ("__debug__" : Str)) = false := by decide)
    (nc : starEach [.Name x2 p2, .Name x3 p3] X.env = (false, eval (.Name x2 p2) X.env) :: starEach [.Name x3 p3] X.env := by rfl) (nd : starEach [.Name x3 p3] X.env = (false, eval (.Name x3 p3) X.env) :: starEach [] X.env := by rfl)
    (na : starEach [e, .Tuple [.Name x2 p2, .Name x3 p3] k p4] X.env = (false, eval e X.env) :: starEach [.Tuple [.Name x2 p2, .Name x3 p3] k p4] X.env := by rfl) (nb : starEach [.Tuple [.Name x2 p2, .Name x3 p3] k p4] X.env = (false, eval (.Tuple [.Name x2 p2, .Name x3 p3] k p4) X.env) :: starEach [] X.env := by rfl) (hpl : (backTo pos (starEach [.Tuple [.Name x2 p2, .Name x3 p3] k p4] X.env)).any (·.1) = false := by rfl) :
    MV X W (.Call (.Name "isinstance" p) [e, .Tuple [.Name x2 p2, .Name x3 p3] k p4] [] pos) (mIsi [T, U] t) := fun B =>
  (pe_callB call_isiT hg hm (by decide +kernel) (pa_cons (h B) (pa_cons (pe_tup (pa_cons (pe_bltn (v := .ty T.nm) hg2 hm2 hv2 rfl hn2 hd2) (pa_cons (pe_bltn (v := .ty U.nm) hg3 hm3 hv3 rfl hn3 hd3) pa_nil nd) nc)) pa_nil nb) na) (by decide) (by decide) na hpl).impM fun σ H Q ⟨F, E, h, Kn, Kx, R, ht, hx, hn⟩ => by
    refine ⟨F, E, h, _, Kx, R, ht, hx, fun d h' F' H' v l R' rp kk => ?_⟩
    cases ek : kindD h' d with
    | none => rw [ek] at kk; exact kk.elim
    | some kd =>
      rw [ek] at kk
      refine ⟨by show 2 ≤ sizeLine; decide, fun q hq => ?_⟩
      have R2 := R'.newO (o := .tup [.ty T.nm, .ty U.nm]) hq
      refine ⟨v, q, [.ty T.nm, .ty U.nm], .type kd.nm, [.type T.nm, .type U.nm], _, rfl, upd_same, .cons (.ty _) (.cons (.ty _) .nil), kind_of R2 rp ek, ?_, hn (.bl _) h' F' _ _ l R2 (.bl _) kk⟩
      have k1 := kit_ty (K := X.K) (kit5 T kd)
      have k2 := kit_ty (K := X.K) (kit5 U kd)
      refine kitAny_cons k1 (fun e => kitAny_cons k2 (fun e2 => ?_) (fun e2 => ?_)) (fun e => ?_)
      · simp [e, e2, kitAny_nil]
      · simp [e2]
      · simp [e]
end
end M3
set_option Elab.async false
set_option linter.all false
set_option maxRecDepth 100000
set_option maxHeartbeats 4000000
namespace M3
open PySem PySem.Spec PyProof.Rows L2
section
variable {X : Cx} {W : WX}
theorem mb_forget {st : List Stmt} {t : TSm} (ws : List Nat) (a : MB X W st t) : MB X W st (sForget ws t) := fun B => (a B).impM fun D σ H ⟨F, E, h, N, R, ht, c⟩ =>
  ⟨F, E, h, { N with nx := fun E' h' => N.nx (wipeE E' ws) h' }, R, ht, fun E' h' F' σ' H' l R' k => c.1 _ h' F' σ' H' l (R'.slots (R'.slot.wiped' ws)) k, c.2⟩
theorem mv_gint {x : Str} {i : Int} {pos : Pos} (hg : Gl X x) (hm : ∃ t, X.mg x = some (.int i t)) (hd : (x == ("__debug__" : Str)) = false := by decide) : MV X W (.Name x pos) (mC (.int i)) := by
  obtain ⟨t, hm⟩ := hm
  exact mv_const (pe_glob (v := .int i) hg hm ⟨t, rfl⟩ hd) fun _ _ => .int _
theorem mv_gstr {x : Str} {i : Str} {pos : Pos} (hg : Gl X x) (hm : ∃ t, X.mg x = some (.str i t)) (hd : (x == ("__debug__" : Str)) = false := by decide) : MV X W (.Name x pos) (mC (.str i)) := by
  obtain ⟨t, hm⟩ := hm
  exact mv_const (pe_glob (v := .str i) hg hm ⟨t, rfl⟩ hd) fun _ _ => .str _
end
/-! ### the classes' addresses -/
structure Ad where
  Filter : Addr
  Counter : Addr
  Signed : Addr
  Heavy : Addr
  Fewest : Addr
  Desk : Addr
  CellError : Addr
  BadPlan : Addr
  BadKey : Addr
  BadCounts : Addr
  BadNumber : Addr
  BadMeet : Addr
  BadDeed : Addr
  Halted : Addr
  BadText : Addr
theorem bodyN_rt {Kn : RV → MH → Prop} {Kx : XKm} {r : RV} {h h2 : MH} (k : Kn r h2) (s : ∀ a m, h2 a = some m → h a = some m) : (bodyN Kn Kx).rt r h := ⟨h2, s, k⟩
theorem bodyN_rt0 {Kn : RV → MH → Prop} {Kx : XKm} {r : RV} {h : MH} (k : Kn r h) : (bodyN Kn Kx).rt r h := ⟨h, fun _ _ e => e, k⟩
theorem bodyN_nx0 {Kn : RV → MH → Prop} {Kx : XKm} {E : En} {h : MH} (k : Kn (.d .non) h) : (bodyN Kn Kx).nx E h := ⟨h, fun _ _ e => e, k⟩
/-! ### heaps -/
theorem put_same {h : MH} {p : Addr} {m : MO} : put h p m p = some m := if_pos rfl
theorem put_ne {h : MH} {p q : Addr} {m : MO} (n : q ≠ p) : put h p m q = h q := if_neg n
theorem del_ne {h : MH} {p q : Addr} (n : q ≠ p) : del h p q = h q := if_neg n
theorem put_put {h : MH} {p : Addr} {m m' : MO} : put (put h p m) p m' = put h p m' := by
  funext b
  show (if b = p then some m' else if b = p then some m else h b) = if b = p then some m' else h b
  split <;> rfl
theorem put_comm {h : MH} {p q : Addr} {m m' : MO} (n : p ≠ q) : put (put h p m) q m' = put (put h q m') p m := by
  funext b
  unfold put
  by_cases h1 : b = p
  · subst h1
    simp [n]
  · simp [h1]
theorem put_del {h : MH} {p : Addr} {m : MO} : put (del h p) p m = put h p m := by
  funext b
  show (if b = p then some m else if b = p then none else h b) = if b = p then some m else h b
  split <;> rfl
theorem del_put {h : MH} {p : Addr} {m : MO} : del (put h p m) p = del h p := by
  funext b
  show (if b = p then none else if b = p then some m else h b) = if b = p then none else h b
  split <;> rfl
theorem put_self {h : MH} {p : Addr} {m : MO} (e : h p = some m) : put h p m = h := by
  funext b
  unfold put
  by_cases n : b = p
  · subst n
    simp [e]
  · simp [n]
theorem del_none {h : MH} {p : Addr} (e : h p = none) : del h p = h := by
  funext b
  unfold del
  by_cases n : b = p
  · subst n
    simp [e]
  · simp [n]
theorem ne_new {h : MH} {p q : Addr} {m : MO} (e : h q = some m) (n : h p = none) : q ≠ p := by
  rintro rfl
  rw [e] at n
  cases n
end M3
set_option Elab.async false
set_option linter.all false
set_option maxRecDepth 100000
set_option maxHeartbeats 4000000
namespace M3
open PySem PySem.Spec PyProof.Rows L2
/-! ### equations by kind -/
section
variable {h : MH} {Kn : RV → MH → Prop} {k : D → Prop} {i j : Int} {a b : Addr} {xs ys : List D} {x y z : Str} {kb : Bool → Prop} {ki : Int → Prop} {kl : List D → Prop} {kd : List (Key × D) → Prop} {kvs : List (Key × D)} {ns : List Int} {d e : D} {bb : Bool}
theorem onBl_b : onBl (.bl bb) kb = kb bb := rfl
theorem onInt_i : onInt (.int i) ki = ki i := rfl
theorem onTup_t : onTup (.tup xs) kl = kl xs := rfl
theorem on1_1 : on1 [d] k = k d := rfl
theorem on2_2 {k : D → D → Prop} : on2 [d, e] k = k d e := rfl
theorem onQ_l : onQ h (.lst xs) kl = kl xs := rfl
theorem onQ_t : onQ h (.tup xs) kl = kl xs := rfl
theorem onQ_s : onQ h (.scr ns) kl = kl (ns.map D.int) := rfl
theorem onQ_r (q : h a = some (.lst xs)) : onQ h (.ref a) kl = kl xs := by
  show (match h a with
    | some (.lst xs) => kl xs
    | _ => False) = kl xs
  rw [q]
theorem onL_l : onL h (.lst xs) kl = kl xs := rfl
theorem onL_r (q : h a = some (.lst xs)) : onL h (.ref a) kl = kl xs := by
  show (match h a with
    | some (.lst xs) => kl xs
    | _ => False) = kl xs
  rw [q]
theorem onLs_l : onLs h (.lst xs) kl = kl xs := rfl
theorem onLs_s : onLs h (.scr ns) kl = kl (ns.map D.int) := rfl
theorem onLs_r (q : h a = some (.lst xs)) : onLs h (.ref a) kl = kl xs := onQ_r q
theorem onD_d : onD h (.dct kvs) kd = kd kvs := rfl
theorem onD_r (q : h a = some (.dct kvs)) : onD h (.ref a) kd = kd kvs := by
  show (match h a with
    | some (.dct xs) => kd xs
    | _ => False) = kd kvs
  rw [q]
theorem onIns_r {C : Addr} {fs : List (Str × D)} {k : Addr → List (Str × D) → Prop} (q : h a = some (.ins C fs)) : onIns h (.ref a) C k = k a fs := by
  show (match h a with
    | some (.ins C' fs) => C' = C ∧ k a fs
    | _ => False) = k a fs
  rw [q]
  simp
theorem gAdd_i : gAdd (.int i) (.int j) h Kn = Kn (.d (.int (i + j))) h := rfl
theorem gAdd_s : gAdd (.str x) (.str y) h Kn = (x.length + y.length ≤ sizeLine ∧ Kn (.d (.str (x ++ y))) h) := rfl
theorem gAdd_t : gAdd (.tup xs) (.tup ys) h Kn = (xs.length + ys.length ≤ sizeLine ∧ Kn (.d (.tup (xs ++ ys))) h) := rfl
theorem gAdd_l : gAdd (.lst xs) (.lst ys) h Kn = (xs.length + ys.length ≤ sizeLine ∧ Kn (.ol (xs ++ ys)) h) := rfl
theorem gMul_i : gMul (.int i) (.int j) h Kn = (MulOk i j ∧ Kn (.d (.int (i * j))) h) := rfl
theorem gMul_l : gMul (.lst xs) (.int i) h Kn = ((-(2 ^ 63) ≤ i ∧ i < 2 ^ 63 ∧ xs.length * i.toNat ≤ sizeLine) ∧ Kn (.ol (List.replicate i.toNat xs).flatten) h) := rfl
theorem gMul_t : gMul (.tup xs) (.int i) h Kn = ((xs ≠ [] ∧ 1 ≤ i ∧ i ≤ 1000 ∧ xs.length ≤ 1000) ∧ Kn (.d (.tup (List.replicate i.toNat xs).flatten)) h) := rfl
def onOpt {α : Type} (o : Option α) (k : α → Prop) : Prop := match o with
  | some x => k x
  | none => False
theorem onOpt_s {α : Type} {x : α} {k : α → Prop} : onOpt (some x) k = k x := rfl
theorem gIxQ_o {k : D → Prop} {x : D} : gIxQ h x i k = onQ h x fun xs => onOpt (atD xs i) k := by
  unfold gIxQ onOpt
  congr 1
  funext xs
  cases atD xs i <;> rfl
theorem gIx_l : gIx (.lst xs) (.int i) h Kn = onOpt (atD xs i) fun d => Kn (.d d) h := (gIxQ_o (h := h) (x := .lst xs) (i := i) (k := fun d => Kn (.d d) h))
theorem gIx_t : gIx (.tup xs) (.int i) h Kn = onOpt (atD xs i) fun d => Kn (.d d) h := (gIxQ_o (h := h) (x := .tup xs) (i := i) (k := fun d => Kn (.d d) h))
theorem gIx_s : gIx (.scr ns) (.int i) h Kn = onOpt (atD (ns.map D.int) i) fun d => Kn (.d d) h := (gIxQ_o (h := h) (x := .scr ns) (i := i) (k := fun d => Kn (.d d) h))
theorem gIx_r (q : h a = some (.lst xs)) : gIx (.ref a) (.int i) h Kn = onOpt (atD xs i) fun d => Kn (.d d) h := by
  show (match h a with
    | some (.dct _) => gIxD h (.ref a) (.int i) fun d => Kn (.d d) h
    | _ => onInt (.int i) fun i => gIxQ h (.ref a) i fun d => Kn (.d d) h) = _
  rw [q]
  show (gIxQ h (.ref a) i fun d => Kn (.d d) h) = _
  rw [gIxQ_o, onQ_r q]
theorem gLen_l : gLen [.lst xs] h Kn = Kn (.d (.int xs.length)) h := rfl
theorem gLen_t : gLen [.tup xs] h Kn = Kn (.d (.int xs.length)) h := rfl
theorem gLen_s : gLen [.scr ns] h Kn = Kn (.d (.int ns.length)) h := by
  show Kn (.d (.int (ns.map D.int).length)) h = _
  rw [List.length_map]
theorem gLen_d : gLen [.dct kvs] h Kn = Kn (.d (.int kvs.length)) h := rfl
theorem gLen_r (q : h a = some (.lst xs)) : gLen [.ref a] h Kn = Kn (.d (.int xs.length)) h := by
  show (match h a with
    | some (.dct kvs) => Kn (.d (.int kvs.length)) h
    | _ => onQ h (.ref a) fun xs => Kn (.d (.int xs.length)) h) = _
  rw [q]
  exact onQ_r q
theorem gLen_rd (q : h a = some (.dct kvs)) : gLen [.ref a] h Kn = Kn (.d (.int kvs.length)) h := by
  show (match h a with
    | some (.dct kvs) => Kn (.d (.int kvs.length)) h
    | _ => onQ h (.ref a) fun xs => Kn (.d (.int xs.length)) h) = _
  rw [q]
theorem onSet_l {v : D} {k : MH → Prop} (q : h a = some (.lst xs)) : onSet h (.ref a) (.int i) v k = onOpt (ixN xs.length i) fun n => k (put h a (.lst (xs.set n v))) := by
  show (match h a with
    | some (.lst xs) => onInt (.int i) fun j => (match ixN xs.length j with
      | some n => k (put h a (.lst (xs.set n v)))
      | none => False)
    | some (.dct kvs) => (match keyD (.int i) with
      | some key => kvs.length < sizeLine ∧ k (put h a (.dct (putKD kvs key v)))
      | none => False)
    | _ => False) = _
  rw [q]
  show (match ixN xs.length i with
      | some n => k (put h a (.lst (xs.set n v)))
      | none => False) = _
  cases ixN xs.length i <;> rfl
theorem onSet_d {v : D} {k : MH → Prop} {key : Key} {y : D} (q : h a = some (.dct kvs)) (e : keyD y = some key) : onSet h (.ref a) y v k = (kvs.length < sizeLine ∧ k (put h a (.dct (putKD kvs key v)))) := by
  show (match h a with
    | some (.lst xs) => onInt y fun j => (match ixN xs.length j with
      | some n => k (put h a (.lst (xs.set n v)))
      | none => False)
    | some (.dct kvs) => (match keyD y with
      | some key => kvs.length < sizeLine ∧ k (put h a (.dct (putKD kvs key v)))
      | none => False)
    | _ => False) = _
  rw [q]
  simp only [e]
def iterD (h : MH) (d : D) (Kn : List D → MH → (MH → MH) → Prop) : Prop := match d with
  | .tup xs => Kn xs h id
  | .lst xs => Kn xs h id
  | .scr ns => Kn (ns.map D.int) h id
  | .ref p => (match h p with
    | some (.lst xs) => Kn xs (del h p) (fun h2 => put h2 p (.lst xs))
    | _ => False)
  | _ => False
theorem mIter_ap {t : TVm} {E : En} {K : List D → MH → (MH → MH) → Prop} {Kx : XKm} : mIter t E h K Kx = t E h (fun d h' => iterD h' d K) Kx := rfl
theorem iterD_t {K : List D → MH → (MH → MH) → Prop} : iterD h (.tup xs) K = K xs h id := rfl
theorem iterD_l {K : List D → MH → (MH → MH) → Prop} : iterD h (.lst xs) K = K xs h id := rfl
theorem iterD_s {K : List D → MH → (MH → MH) → Prop} : iterD h (.scr ns) K = K (ns.map D.int) h id := rfl
theorem iterD_r {K : List D → MH → (MH → MH) → Prop} (q : h a = some (.lst xs)) : iterD h (.ref a) K = K xs (del h a) (fun h2 => put h2 a (.lst xs)) := by
  show (match h a with
    | some (.lst xs) => K xs (del h a) (fun h2 => put h2 a (.lst xs))
    | _ => False) = _
  rw [q]
theorem kind_i : kindD h (.int i) = some .int := rfl
theorem kind_b : kindD h (.bl bb) = some .bl := rfl
theorem kind_s : kindD h (.str x) = some .str := rfl
theorem kind_n : kindD h .non = some .non := rfl
theorem kind_t : kindD h (.tup xs) = some .tup := rfl
theorem kind_l : kindD h (.lst xs) = some .lst := rfl
theorem kind_r (q : h a = some (.lst xs)) : kindD h (.ref a) = some .lst := by
  show (match h a with
    | some (.lst _) => some Kd.lst
    | some (.dct _) => some Kd.dct
    | _ => none) = _
  rw [q]
theorem mIsi_ap {Ts : List Ty5} {t : TVm} {E : En} {K : D → MH → Prop} {Kx : XKm} : mIsi Ts t E h K Kx = t E h (fun d h' => onOpt (kindD h' d) fun k => K (.bl (Ts.any fun T => isK T k)) h') Kx := by
  unfold mIsi
  congr 1
  funext d h'
  cases kindD h' d <;> rfl
theorem atD_0 : atD (d :: xs) 0 = some d := by simp [atD, ixN]
theorem ixN_nat {n m : Nat} (h : m < n) : ixN n (m : Int) = some m := by
  unfold ixN
  have h1 : (0 : Int) ≤ m := by omega
  have h2 : (m : Int) < n := by omega
  simp [h1, h2]
theorem atD_nat {m : Nat} (q : xs[m]? = some d) : atD xs (m : Int) = some d := by
  have hm : m < xs.length := (List.getElem?_eq_some_iff.mp q).1
  unfold atD
  rw [ixN_nat hm]
  exact q
theorem ixN_int {n : Nat} {i : Int} (h0 : 0 ≤ i) (h : i < n) : ixN n i = some i.toNat := by
  unfold ixN
  simp [h0, h]
theorem atD_int {i : Int} (h0 : 0 ≤ i) (q : xs[i.toNat]? = some d) : atD xs i = some d := by
  have hm : i.toNat < xs.length := (List.getElem?_eq_some_iff.mp q).1
  unfold atD
  rw [ixN_int h0 (by omega)]
  exact q
end
/-! ### equations behind a store; small places -/
section
variable {h : MH} {Kn : RV → MH → Prop} {i : Int} {a : Addr} {xs ys : List D} {kl : List D → Prop} {kvs : List (Key × D)} {m : MO}
theorem gIx_p : gIx (.ref a) (.int i) (put h a (.lst xs)) Kn = onOpt (atD xs i) fun d => Kn (.d d) (put h a (.lst xs)) := gIx_r put_same
theorem onSet_p {v : D} {k : MH → Prop} : onSet (put h a (.lst xs)) (.ref a) (.int i) v k = onOpt (ixN xs.length i) fun n => k (put h a (.lst (xs.set n v))) := by
  rw [onSet_l put_same]
  simp only [put_put]
theorem onQ_p : onQ (put h a (.lst xs)) (.ref a) kl = kl xs := onQ_r put_same
theorem onL_p : onL (put h a (.lst xs)) (.ref a) kl = kl xs := onL_r put_same
theorem gLen_p : gLen [.ref a] (put h a (.lst xs)) Kn = Kn (.d (.int xs.length)) (put h a (.lst xs)) := gLen_r put_same
theorem onIns_p {C : Addr} {fs : List (Str × D)} {k : Addr → List (Str × D) → Prop} : onIns (put h a (.ins C fs)) (.ref a) C k = k a fs := onIns_r put_same
theorem frz_d {x : D} : RV.frz (.d x) = x := rfl
theorem frz_l : RV.frz (.ol xs) = .lst xs := rfl
theorem frz_k : RV.frz (.od kvs) = .dct kvs := rfl
variable {d0 d1 d2 d3 d4 : D}
theorem atD_1 : atD (d0 :: d1 :: xs) 1 = some d1 := atD_nat (m := 1) rfl
theorem atD_2 : atD (d0 :: d1 :: d2 :: xs) 2 = some d2 := atD_nat (m := 2) rfl
theorem atD_3 : atD (d0 :: d1 :: d2 :: d3 :: xs) 3 = some d3 := atD_nat (m := 3) rfl
theorem atD_4 : atD (d0 :: d1 :: d2 :: d3 :: d4 :: xs) 4 = some d4 := atD_nat (m := 4) rfl
theorem ixN_0 {n : Nat} : ixN (n + 1) 0 = some 0 := ixN_nat (m := 0) (by omega)
theorem ixN_1 {n : Nat} : ixN (n + 1 + 1) 1 = some 1 := ixN_nat (m := 1) (by omega)
theorem ixN_2 {n : Nat} : ixN (n + 1 + 1 + 1) 2 = some 2 := ixN_nat (m := 2) (by omega)
theorem ixN_3 {n : Nat} : ixN (n + 1 + 1 + 1 + 1) 3 = some 3 := ixN_nat (m := 3) (by omega)
theorem ixN_4 {n : Nat} : ixN (n + 1 + 1 + 1 + 1 + 1) 4 = some 4 := ixN_nat (m := 4) (by omega)
theorem log2_lt {m : Int} (h : m < 10 ^ 9) (h0 : 0 < m) : m.natAbs.log2 < 9000 := by
  have h1 : m.natAbs < 2 ^ 9000 := Nat.lt_of_lt_of_le (show m.natAbs < 10 ^ 9 by omega) (by decide +kernel)
  exact PySem.Flt.log2_lt_of (by decide) h1
end
/-! ### loops -/
theorem forL_nil {g : TGm} {tb : TSm} {N : Nd} {E : En} {h : MH} : forL g tb [] N E h = N.nx E h := rfl
theorem forL_inv {g : TGm} {tb : TSm} {N : Nd} (I : Nat → En → MH → Prop) : ∀ (items : List D) (c : Nat) (E : En) (h : MH), I c E h →
    (∀ i d E h (k : En → MH → Prop), items[i]? = some d → I (c + i) E h → (∀ E h, I (c + i + 1) E h → k E h) → g d E h fun E2 h2 => tb { nx := k, rt := N.rt, bk := N.nx, ct := k, xs := N.xs } E2 h2) →
    (∀ E h, I (c + items.length) E h → N.nx E h) → forL g tb items N E h
  | [], c, E, h, h0, _, hd => hd E h h0
  | d :: ds, c, E, h, h0, hs, hd => by
    show g d E h fun E2 h2 => tb { nx := fun E3 h3 => forL g tb ds N E3 h3, rt := N.rt, bk := N.nx, ct := fun E3 h3 => forL g tb ds N E3 h3, xs := N.xs } E2 h2
    refine hs 0 d E h _ rfl h0 fun E2 h2 h1 => ?_
    refine forL_inv I ds (c + 1) E2 h2 h1 (fun i d E h k e hi hk => ?_) fun E h he => ?_
    · have e1 : c + 1 + i = c + (i + 1) := by omega
      rw [e1] at hi hk
      exact hs (i + 1) d E h k (by simpa using e) hi hk
    · refine hd E h ?_
      have e1 : c + (d :: ds).length = c + 1 + ds.length := by simp; omega
      rw [e1]
      exact he
/-- a loop from turn 0 -/
theorem for_inv {g : TGm} {tb : TSm} {N : Nd} {items : List D} {E : En} {h : MH} (I : Nat → En → MH → Prop) (h0 : I 0 E h)
    (hs : ∀ i d E h (k : En → MH → Prop), items[i]? = some d → I i E h → (∀ E h, I (i + 1) E h → k E h) → g d E h fun E2 h2 => tb { nx := k, rt := N.rt, bk := N.nx, ct := k, xs := N.xs } E2 h2)
    (hd : ∀ E h, I items.length E h → N.nx E h) : forL g tb items N E h :=
  forL_inv I items 0 E h h0 (fun i d E h k e hi hk => hs i d E h k e (by rw [Nat.zero_add] at hi; exact hi) (by rw [Nat.zero_add] at hk; exact hk)) fun E h he => hd E h (by rw [Nat.zero_add] at he; exact he)
/-- a state that is a fold -/
theorem for_fold {α : Type} {g : TGm} {tb : TSm} {N : Nd} (S : α → En) (Hh : α → MH) (f : α → D → α) : ∀ (items : List D) (s : α),
    (∀ d ∈ items, ∀ s (k : En → MH → Prop), k (S (f s d)) (Hh (f s d)) → g d (S s) (Hh s) fun E2 h2 => tb { nx := k, rt := N.rt, bk := N.nx, ct := k, xs := N.xs } E2 h2) →
    N.nx (S (items.foldl f s)) (Hh (items.foldl f s)) → forL g tb items N (S s) (Hh s)
  | [], s, _, hd => hd
  | d :: ds, s, hs, hd => hs d List.mem_cons_self s _ (for_fold S Hh f ds (f s d) (fun d hd => hs d (List.mem_cons_of_mem _ hd)) hd)
theorem lcL_inv {g : TGm} {tt : TTm} {te : TVm} {E : En} {K : List D → MH → Prop} (I : Nat → List D → MH → Prop) : ∀ (items : List D) (c : Nat) (acc : List D) (h : MH), I c acc h →
    (∀ i d acc h (k : List D → MH → Prop), items[i]? = some d → I (c + i) acc h → (∀ acc h, I (c + i + 1) acc h → k acc h) → g d E h fun E2 h2 => tt E2 h2 (fun b h3 => if b = true then te E2 h3 (fun y h4 => acc.length < sizeLine ∧ k (acc ++ [y]) h4) xNo else k acc h3) xNo) →
    (∀ acc h, I (c + items.length) acc h → K acc h) → lcL g tt te E items acc h K
  | [], c, acc, h, h0, _, hd => hd acc h h0
  | d :: ds, c, acc, h, h0, hs, hd => by
    refine hs 0 d acc h (fun acc h => lcL g tt te E ds acc h K) rfl h0 fun acc2 h2 h1 => ?_
    refine lcL_inv I ds (c + 1) acc2 h2 h1 (fun i d acc h k e hi hk => ?_) fun acc h he => ?_
    · have e1 : c + 1 + i = c + (i + 1) := by omega
      rw [e1] at hi hk
      exact hs (i + 1) d acc h k (by simpa using e) hi hk
    · refine hd acc h ?_
      have e1 : c + (d :: ds).length = c + 1 + ds.length := by simp; omega
      rw [e1]
      exact he
theorem lc_inv {g : TGm} {tt : TTm} {te : TVm} {E : En} {K : List D → MH → Prop} {items : List D} {h : MH} (I : Nat → List D → MH → Prop) (h0 : I 0 [] h)
    (hs : ∀ i d acc h (k : List D → MH → Prop), items[i]? = some d → I i acc h → (∀ acc h, I (i + 1) acc h → k acc h) → g d E h fun E2 h2 => tt E2 h2 (fun b h3 => if b = true then te E2 h3 (fun y h4 => acc.length < sizeLine ∧ k (acc ++ [y]) h4) xNo else k acc h3) xNo)
    (hd : ∀ acc h, I items.length acc h → K acc h) : lcL g tt te E items [] h K :=
  lcL_inv I items 0 [] h h0 (fun i d acc h k e hi hk => hs i d acc h k e (by rw [Nat.zero_add] at hi; exact hi) (by rw [Nat.zero_add] at hk; exact hk)) fun acc h he => hd acc h (by rw [Nat.zero_add] at he; exact he)
/-- items that are kept or left out, each by itself, the heap as it is -/
theorem lc_fm {g : TGm} {tt : TTm} {te : TVm} {E : En} {h : MH} {K : List D → MH → Prop} (f : D → Option D) {items : List D} (hl : items.length ≤ sizeLine)
    (hs : ∀ d ∈ items, ∀ (acc : List D) (k : List D → MH → Prop), acc.length < sizeLine → (match f d with
      | some y => k (acc ++ [y]) h
      | none => k acc h) → g d E h fun E2 h2 => tt E2 h2 (fun b h3 => if b = true then te E2 h3 (fun y h4 => acc.length < sizeLine ∧ k (acc ++ [y]) h4) xNo else k acc h3) xNo)
    (hd : K (items.filterMap f) h) : lcL g tt te E items [] h K := by
  have go : ∀ (items acc : List D), acc.length + items.length ≤ sizeLine → (∀ d ∈ items, ∀ (acc : List D) (k : List D → MH → Prop), acc.length < sizeLine → (match f d with
      | some y => k (acc ++ [y]) h
      | none => k acc h) → g d E h fun E2 h2 => tt E2 h2 (fun b h3 => if b = true then te E2 h3 (fun y h4 => acc.length < sizeLine ∧ k (acc ++ [y]) h4) xNo else k acc h3) xNo) → K (acc ++ items.filterMap f) h → lcL g tt te E items acc h K := by
    intro items
    induction items with
    | nil =>
      intro acc _ _ hd
      rw [List.filterMap_nil, List.append_nil] at hd
      exact hd
    | cons d ds ih =>
      intro acc hl hs hd
      simp only [List.length_cons] at hl
      refine hs d List.mem_cons_self acc (fun acc h => lcL g tt te E ds acc h K) (by omega) ?_
      cases e : f d with
      | none =>
        rw [List.filterMap_cons_none e] at hd
        exact ih acc (by omega) (fun d hd => hs d (List.mem_cons_of_mem _ hd)) hd
      | some y =>
        rw [List.filterMap_cons_some e] at hd
        refine ih (acc ++ [y]) (by rw [List.length_append]; simp; omega) (fun d hd => hs d (List.mem_cons_of_mem _ hd)) ?_
        rw [List.append_assoc]
        exact hd
  exact go items [] (by simpa using hl) hs (by simpa using hd)
theorem lc_map {g : TGm} {tt : TTm} {te : TVm} {E : En} {h : MH} {K : List D → MH → Prop} (f : D → D) {items : List D} (hl : items.length ≤ sizeLine)
    (hs : ∀ d ∈ items, ∀ (acc : List D) (k : List D → MH → Prop), acc.length < sizeLine → k (acc ++ [f d]) h → g d E h fun E2 h2 => tt E2 h2 (fun b h3 => if b = true then te E2 h3 (fun y h4 => acc.length < sizeLine ∧ k (acc ++ [y]) h4) xNo else k acc h3) xNo)
    (hd : K (items.map f) h) : lcL g tt te E items [] h K := by
  refine lc_fm (fun d => some (f d)) hl (fun d hm acc k ha q => hs d hm acc k ha q) ?_
  have e : items.filterMap (fun d => some (f d)) = items.map f := by
    induction items with
    | nil => rfl
    | cons d ds ih => simp
  rw [e]
  exact hd
end M3
set_option Elab.async false
set_option linter.all false
set_option maxRecDepth 100000
set_option maxHeartbeats 4000000
namespace M3
open PySem PySem.Spec PyProof.Rows L2
/-! ### promises of what the laws share -/
def isNum (p : D) (lo hi : Int) : Bool := match p with
  | .int i => decide (lo ≤ i) && decide (i ≤ hi)
  | _ => false
def sp_is_number (a : Ad) : MSp := fun ds h Kn Kx => ∃ p lo hi, ds = [p, .int lo, .int hi] ∧ kindD h p ≠ none ∧ Kn (.d (.bl (isNum p lo hi))) h
def RowAt (h : MH) (r : Addr) : Prop := ∃ ns pos ex mx, h r = some (.lst [.scr ns, .int pos, .int ex, .int mx]) ∧ 0 ≤ pos
def sp_law_row (a : Ad) : MSp := fun ds h Kn Kx => ∃ ns : List Int, ds = [.scr ns] ∧ ∀ mx, Kn (.ol [.scr ns, .int 0, .int 0, .int mx]) h
def sp_law_taken (a : Ad) : MSp := fun ds h Kn Kx => ∃ r m, ds = [.ref r, .int m] ∧ 0 < m ∧ m < 10 ^ 9 ∧ RowAt h r ∧ ∀ v h', 0 ≤ v → v < m → (∀ b, b ≠ r → h' b = h b) → RowAt h' r → Kn (.d (.int v)) h'
/-! ### mirrors -/
def t_law_row (a : Ad) : TSm :=
  (sSeq (sSet 1 (mC (.int 7)))
  (sSeq (sForget [2] (sFor (mIter (mVar 0)) (gN 2)
   (sForget [2] (sSet 1 (frzV (mOp gMod (frzV (mOp gAdd (frzV (mOp gAdd (frzV (mOp gMul (mVar 1) (mC (.int 48271)))) (mVar 2))) (mC (.int 11)))) (mC (.int 2147483647))))))))
  (sRet (mLst (mCons (mVar 0) (mCons (mC (.int 0)) (mCons (mC (.int 0)) (mCons (mVar 1) mNil))))))))
def t_is_number (a : Ad) : TSm :=
  (sRet (valE (mAndV (mIsi [.int] (mVar 0)) (mAndV (mNotV (mTst (mIsi [.bool] (mVar 0)))) (frzV (mChain (gB fun i j => decide (i ≤ j)) (gB fun i j => decide (i ≤ j)) (mVar 1) (mVar 0) (mVar 2)))))))
def t_law_taken (a : Ad) : TSm :=
  (sSeq (sForget [2] (sIf (mTst (frzV (mOp (gB fun i j => decide (j < i)) (frzV (mOp gIx (mVar 0) (mC (.int 2)))) (mC (.int 0))))) (sSeq (sSet 2 (frzV (mOp gMod (frzV (mOp gIx (mVar 0) (mC (.int 2)))) (mVar 1))))
  (sSeq (sSetI (mVar 0) (mC (.int 2)) (frzV (mOp gDiv (frzV (mOp gIx (mVar 0) (mC (.int 2)))) (mVar 1))))
  (sRet (valE (mVar 2))))) sSkip))
  (sSeq (sForget [3] (sIf (mTst (frzV (mOp (gB fun i j => decide (i < j)) (frzV (mOp gIx (mVar 0) (mC (.int 1)))) (frzV (mCall gLen (mCons (frzV (mOp gIx (mVar 0) (mC (.int 0)))) mNil)))))) (sSeq (sSet 3 (frzV (mOp gIx (frzV (mOp gIx (mVar 0) (mC (.int 0)))) (frzV (mOp gIx (mVar 0) (mC (.int 1)))))))
  (sSeq (sSetI (mVar 0) (mC (.int 1)) (frzV (mOp gAdd (frzV (mOp gIx (mVar 0) (mC (.int 1)))) (mC (.int 1)))))
  (sSeq (sIf (mTst (frzV (mOp (gB fun i j => decide (j ≤ i)) (mVar 3) (frzV (mOp gPow (mC (.int 10)) (mC (.int 18))))))) (sSetI (mVar 0) (mC (.int 2)) (frzV (mOp gDiv (mVar 3) (mVar 1)))) sSkip)
  (sRet (mOp gMod (mVar 3) (mVar 1)))))) sSkip))
  (sSeq (sSetI (mVar 0) (mC (.int 3)) (frzV (mOp gMod (frzV (mOp gAdd (frzV (mOp gMul (frzV (mOp gIx (mVar 0) (mC (.int 3)))) (mC (.int 48271)))) (mC (.int 12345)))) (mC (.int 2147483647)))))
  (sRet (mOp gMod (frzV (mOp gDiv (frzV (mOp gIx (mVar 0) (mC (.int 3)))) (mC (.int 1009)))) (mVar 1))))))
theorem rd_is_number {a : Ad} (ds : List D) (h : MH) (Kn : RV → MH → Prop) (Kx : XKm) (q : sp_is_number a ds h Kn Kx) : t_is_number a (bodyN Kn Kx) (startE ["part", "low", "high"] ds) h := by
  obtain ⟨p, lo, hi, rfl, hk, k⟩ := q
  show t_is_number a (bodyN Kn Kx) [some p, some (.int lo), some (.int hi)] h
  have fin : ∀ {b : Bool}, isNum p lo hi = b → (bodyN Kn Kx).rt (.d (.bl b)) h := fun e => bodyN_rt0 (by rw [← e]; exact k)
  unfold t_is_number
  cases p with
  | int i =>
    simp only [sSeq, sSet, sSkip, sForget, sFor, sIf, sRet, sRetN, sDrop, sSetI, sAsg, sPar, sFldM, sAug, frzV, valE, mVar, mC, mOp, mUn, mCall, mFun, mMeth, mMake, mFld, mTst, mNotT, mNotV, mAndV, mOrV, mAndT, mOrT, mIte, mNil, mCons, mTup, mLst, mChain, mIter_ap, mIsi_ap, mRng1, mRng2, mLc, mYes, mCell, mRel, mSl, oNo, oSome,
  gN, gT, gsCons, gsNil, frz_d, frz_l, frz_k, gIx_p, onSet_p, onQ_p, onL_p, gLen_p, onIns_p, put_put, atD_0, atD_1, atD_2, atD_3, atD_4, ixN_0, ixN_1, ixN_2, ixN_3, ixN_4, List.length_cons, List.length_nil, onBl_b, onInt_i, onTup_t, on1_1, on2_2, onQ_l, onQ_t, onQ_s, onL_l, onLs_l, onLs_s, onD_d, onOpt_s, gII, gB, gAdd_i, gAdd_s, gAdd_t, gAdd_l, gMul_i, gMul_l, gMul_t, gSub, gMod, gDiv, gPow, gNeg, gIx_l, gIx_t, gIx_s, gLen_l, gLen_t, gLen_s, gLen_d, iterD_t, iterD_l, iterD_s,
  kind_i, kind_b, kind_s, kind_n, kind_t, kind_l, gIsN, isNon, gTuple, gList, gAll, gAny, gSum, gMin, gMax, gMin2, gMax2, gAbs, gInt, gSorted,
  List.getElem?_cons_zero, List.getElem?_cons_succ, List.getElem?_nil, List.set_cons_zero, List.set_cons_succ, List.cons_append, List.nil_append, List.append_nil, wipeE, List.any_cons, List.any_nil, isK, Bool.or_false, Bool.false_or, Bool.or_true, Bool.true_or, Bool.not_true, Bool.not_false, if_true, if_false, Bool.false_eq_true, true_and, and_true, decide_eq_true_eq, id, reduceCtorEq]
    split
    · rename_i h1
      exact fin (by simp [isNum, h1])
    · rename_i h1
      exact fin (by simp [isNum, h1])
  | ref p =>
    cases e : kindD h (.ref p) with
    | none => exact absurd e hk
    | some k =>
      have e' : k = .lst ∨ k = .dct := by
        have e : (match h p with
          | some (.lst _) => some Kd.lst
          | some (.dct _) => some Kd.dct
          | _ => none) = some k := e
        split at e <;> simp_all
      rcases e' with rfl | rfl <;> (simp only [sSeq, sSet, sSkip, sForget, sFor, sIf, sRet, sRetN, sDrop, sSetI, sAsg, sPar, sFldM, sAug, frzV, valE, mVar, mC, mOp, mUn, mCall, mFun, mMeth, mMake, mFld, mTst, mNotT, mNotV, mAndV, mOrV, mAndT, mOrT, mIte, mNil, mCons, mTup, mLst, mChain, mIter_ap, mIsi_ap, mRng1, mRng2, mLc, mYes, mCell, mRel, mSl, oNo, oSome,
  gN, gT, gsCons, gsNil, frz_d, frz_l, frz_k, gIx_p, onSet_p, onQ_p, onL_p, gLen_p, onIns_p, put_put, atD_0, atD_1, atD_2, atD_3, atD_4, ixN_0, ixN_1, ixN_2, ixN_3, ixN_4, List.length_cons, List.length_nil, onBl_b, onInt_i, onTup_t, on1_1, on2_2, onQ_l, onQ_t, onQ_s, onL_l, onLs_l, onLs_s, onD_d, onOpt_s, gII, gB, gAdd_i, gAdd_s, gAdd_t, gAdd_l, gMul_i, gMul_l, gMul_t, gSub, gMod, gDiv, gPow, gNeg, gIx_l, gIx_t, gIx_s, gLen_l, gLen_t, gLen_s, gLen_d, iterD_t, iterD_l, iterD_s,
  kind_i, kind_b, kind_s, kind_n, kind_t, kind_l, gIsN, isNon, gTuple, gList, gAll, gAny, gSum, gMin, gMax, gMin2, gMax2, gAbs, gInt, gSorted,
  List.getElem?_cons_zero, List.getElem?_cons_succ, List.getElem?_nil, List.set_cons_zero, List.set_cons_succ, List.cons_append, List.nil_append, List.append_nil, wipeE, List.any_cons, List.any_nil, isK, Bool.or_false, Bool.false_or, Bool.or_true, Bool.true_or, Bool.not_true, Bool.not_false, if_true, if_false, Bool.false_eq_true, true_and, and_true, decide_eq_true_eq, id, reduceCtorEq, e]; exact fin rfl)
  | dct kvs => simp only [sSeq, sSet, sSkip, sForget, sFor, sIf, sRet, sRetN, sDrop, sSetI, sAsg, sPar, sFldM, sAug, frzV, valE, mVar, mC, mOp, mUn, mCall, mFun, mMeth, mMake, mFld, mTst, mNotT, mNotV, mAndV, mOrV, mAndT, mOrT, mIte, mNil, mCons, mTup, mLst, mChain, mIter_ap, mIsi_ap, mRng1, mRng2, mLc, mYes, mCell, mRel, mSl, oNo, oSome,
  gN, gT, gsCons, gsNil, frz_d, frz_l, frz_k, gIx_p, onSet_p, onQ_p, onL_p, gLen_p, onIns_p, put_put, atD_0, atD_1, atD_2, atD_3, atD_4, ixN_0, ixN_1, ixN_2, ixN_3, ixN_4, List.length_cons, List.length_nil, onBl_b, onInt_i, onTup_t, on1_1, on2_2, onQ_l, onQ_t, onQ_s, onL_l, onLs_l, onLs_s, onD_d, onOpt_s, gII, gB, gAdd_i, gAdd_s, gAdd_t, gAdd_l, gMul_i, gMul_l, gMul_t, gSub, gMod, gDiv, gPow, gNeg, gIx_l, gIx_t, gIx_s, gLen_l, gLen_t, gLen_s, gLen_d, iterD_t, iterD_l, iterD_s,
  kind_i, kind_b, kind_s, kind_n, kind_t, kind_l, gIsN, isNon, gTuple, gList, gAll, gAny, gSum, gMin, gMax, gMin2, gMax2, gAbs, gInt, gSorted,
  List.getElem?_cons_zero, List.getElem?_cons_succ, List.getElem?_nil, List.set_cons_zero, List.set_cons_succ, List.cons_append, List.nil_append, List.append_nil, wipeE, List.any_cons, List.any_nil, isK, Bool.or_false, Bool.false_or, Bool.or_true, Bool.true_or, Bool.not_true, Bool.not_false, if_true, if_false, Bool.false_eq_true, true_and, and_true, decide_eq_true_eq, id, reduceCtorEq, show kindD h (.dct kvs) = some .dct from rfl]; exact fin rfl
  | scr kvs => simp only [sSeq, sSet, sSkip, sForget, sFor, sIf, sRet, sRetN, sDrop, sSetI, sAsg, sPar, sFldM, sAug, frzV, valE, mVar, mC, mOp, mUn, mCall, mFun, mMeth, mMake, mFld, mTst, mNotT, mNotV, mAndV, mOrV, mAndT, mOrT, mIte, mNil, mCons, mTup, mLst, mChain, mIter_ap, mIsi_ap, mRng1, mRng2, mLc, mYes, mCell, mRel, mSl, oNo, oSome,
  gN, gT, gsCons, gsNil, frz_d, frz_l, frz_k, gIx_p, onSet_p, onQ_p, onL_p, gLen_p, onIns_p, put_put, atD_0, atD_1, atD_2, atD_3, atD_4, ixN_0, ixN_1, ixN_2, ixN_3, ixN_4, List.length_cons, List.length_nil, onBl_b, onInt_i, onTup_t, on1_1, on2_2, onQ_l, onQ_t, onQ_s, onL_l, onLs_l, onLs_s, onD_d, onOpt_s, gII, gB, gAdd_i, gAdd_s, gAdd_t, gAdd_l, gMul_i, gMul_l, gMul_t, gSub, gMod, gDiv, gPow, gNeg, gIx_l, gIx_t, gIx_s, gLen_l, gLen_t, gLen_s, gLen_d, iterD_t, iterD_l, iterD_s,
  kind_i, kind_b, kind_s, kind_n, kind_t, kind_l, gIsN, isNon, gTuple, gList, gAll, gAny, gSum, gMin, gMax, gMin2, gMax2, gAbs, gInt, gSorted,
  List.getElem?_cons_zero, List.getElem?_cons_succ, List.getElem?_nil, List.set_cons_zero, List.set_cons_succ, List.cons_append, List.nil_append, List.append_nil, wipeE, List.any_cons, List.any_nil, isK, Bool.or_false, Bool.false_or, Bool.or_true, Bool.true_or, Bool.not_true, Bool.not_false, if_true, if_false, Bool.false_eq_true, true_and, and_true, decide_eq_true_eq, id, reduceCtorEq, show kindD h (.scr kvs) = some .lst from rfl]; exact fin rfl
  | _ => simp only [sSeq, sSet, sSkip, sForget, sFor, sIf, sRet, sRetN, sDrop, sSetI, sAsg, sPar, sFldM, sAug, frzV, valE, mVar, mC, mOp, mUn, mCall, mFun, mMeth, mMake, mFld, mTst, mNotT, mNotV, mAndV, mOrV, mAndT, mOrT, mIte, mNil, mCons, mTup, mLst, mChain, mIter_ap, mIsi_ap, mRng1, mRng2, mLc, mYes, mCell, mRel, mSl, oNo, oSome,
  gN, gT, gsCons, gsNil, frz_d, frz_l, frz_k, gIx_p, onSet_p, onQ_p, onL_p, gLen_p, onIns_p, put_put, atD_0, atD_1, atD_2, atD_3, atD_4, ixN_0, ixN_1, ixN_2, ixN_3, ixN_4, List.length_cons, List.length_nil, onBl_b, onInt_i, onTup_t, on1_1, on2_2, onQ_l, onQ_t, onQ_s, onL_l, onLs_l, onLs_s, onD_d, onOpt_s, gII, gB, gAdd_i, gAdd_s, gAdd_t, gAdd_l, gMul_i, gMul_l, gMul_t, gSub, gMod, gDiv, gPow, gNeg, gIx_l, gIx_t, gIx_s, gLen_l, gLen_t, gLen_s, gLen_d, iterD_t, iterD_l, iterD_s,
  kind_i, kind_b, kind_s, kind_n, kind_t, kind_l, gIsN, isNon, gTuple, gList, gAll, gAny, gSum, gMin, gMax, gMin2, gMax2, gAbs, gInt, gSorted,
  List.getElem?_cons_zero, List.getElem?_cons_succ, List.getElem?_nil, List.set_cons_zero, List.set_cons_succ, List.cons_append, List.nil_append, List.append_nil, wipeE, List.any_cons, List.any_nil, isK, Bool.or_false, Bool.false_or, Bool.or_true, Bool.true_or, Bool.not_true, Bool.not_false, if_true, if_false, Bool.false_eq_true, true_and, and_true, decide_eq_true_eq, id, reduceCtorEq]; exact fin rfl
theorem mulok_r {i j : Int} (h1 : -(2 ^ 64) < j) (h2 : j < 2 ^ 64) : MulOk i j := .inl (.inr ⟨h1, h2⟩)
theorem rd_law_row {a : Ad} (ds : List D) (h : MH) (Kn : RV → MH → Prop) (Kx : XKm) (q : sp_law_row a ds h Kn Kx) : t_law_row a (bodyN Kn Kx) (startE ["_law_script", "_law_mixed", "_law_cell"] ds) h := by
  obtain ⟨ns, rfl, k⟩ := q
  show t_law_row a (bodyN Kn Kx) [some (.scr ns), none, none] h
  unfold t_law_row
  simp only [sSeq, sSet, sSkip, sForget, sFor, sIf, sRet, sRetN, sDrop, sSetI, sAsg, sPar, sFldM, sAug, frzV, valE, mVar, mC, mOp, mUn, mCall, mFun, mMeth, mMake, mFld, mTst, mNotT, mNotV, mAndV, mOrV, mAndT, mOrT, mIte, mNil, mCons, mTup, mLst, mChain, mIter_ap, mIsi_ap, mRng1, mRng2, mLc, mYes, mCell, mRel, mSl, oNo, oSome,
  gN, gT, gsCons, gsNil, frz_d, frz_l, frz_k, gIx_p, onSet_p, onQ_p, onL_p, gLen_p, onIns_p, put_put, atD_0, atD_1, atD_2, atD_3, atD_4, ixN_0, ixN_1, ixN_2, ixN_3, ixN_4, List.length_cons, List.length_nil, onBl_b, onInt_i, onTup_t, on1_1, on2_2, onQ_l, onQ_t, onQ_s, onL_l, onLs_l, onLs_s, onD_d, onOpt_s, gII, gB, gAdd_i, gAdd_s, gAdd_t, gAdd_l, gMul_i, gMul_l, gMul_t, gSub, gMod, gDiv, gPow, gNeg, gIx_l, gIx_t, gIx_s, gLen_l, gLen_t, gLen_s, gLen_d, iterD_t, iterD_l, iterD_s,
  kind_i, kind_b, kind_s, kind_n, kind_t, kind_l, gIsN, isNon, gTuple, gList, gAll, gAny, gSum, gMin, gMax, gMin2, gMax2, gAbs, gInt, gSorted,
  List.getElem?_cons_zero, List.getElem?_cons_succ, List.getElem?_nil, List.set_cons_zero, List.set_cons_succ, List.cons_append, List.nil_append, List.append_nil, wipeE, List.any_cons, List.any_nil, isK, Bool.or_false, Bool.false_or, Bool.or_true, Bool.true_or, Bool.not_true, Bool.not_false, if_true, if_false, Bool.false_eq_true, true_and, and_true, decide_eq_true_eq, id, reduceCtorEq]
  refine for_inv (fun _ E h' => h' = h ∧ ∃ mx, E = [some (.scr ns), some (.int mx), none]) ⟨rfl, 7, rfl⟩ ?_ ?_
  · rintro i d E h2 k hi ⟨rfl, mx, rfl⟩ hk
    obtain ⟨c, rfl⟩ : ∃ c, d = .int c := by
      rw [List.getElem?_map] at hi
      cases e : ns[i]? with
      | none => rw [e] at hi; cases hi
      | some c => rw [e] at hi; exact ⟨c, (Option.some.inj hi).symm⟩
    simp only [sSeq, sSet, sSkip, sForget, sFor, sIf, sRet, sRetN, sDrop, sSetI, sAsg, sPar, sFldM, sAug, frzV, valE, mVar, mC, mOp, mUn, mCall, mFun, mMeth, mMake, mFld, mTst, mNotT, mNotV, mAndV, mOrV, mAndT, mOrT, mIte, mNil, mCons, mTup, mLst, mChain, mIter_ap, mIsi_ap, mRng1, mRng2, mLc, mYes, mCell, mRel, mSl, oNo, oSome,
  gN, gT, gsCons, gsNil, frz_d, frz_l, frz_k, gIx_p, onSet_p, onQ_p, onL_p, gLen_p, onIns_p, put_put, atD_0, atD_1, atD_2, atD_3, atD_4, ixN_0, ixN_1, ixN_2, ixN_3, ixN_4, List.length_cons, List.length_nil, onBl_b, onInt_i, onTup_t, on1_1, on2_2, onQ_l, onQ_t, onQ_s, onL_l, onLs_l, onLs_s, onD_d, onOpt_s, gII, gB, gAdd_i, gAdd_s, gAdd_t, gAdd_l, gMul_i, gMul_l, gMul_t, gSub, gMod, gDiv, gPow, gNeg, gIx_l, gIx_t, gIx_s, gLen_l, gLen_t, gLen_s, gLen_d, iterD_t, iterD_l, iterD_s,
  kind_i, kind_b, kind_s, kind_n, kind_t, kind_l, gIsN, isNon, gTuple, gList, gAll, gAny, gSum, gMin, gMax, gMin2, gMax2, gAbs, gInt, gSorted,
  List.getElem?_cons_zero, List.getElem?_cons_succ, List.getElem?_nil, List.set_cons_zero, List.set_cons_succ, List.cons_append, List.nil_append, List.append_nil, wipeE, List.any_cons, List.any_nil, isK, Bool.or_false, Bool.false_or, Bool.or_true, Bool.true_or, Bool.not_true, Bool.not_false, if_true, if_false, Bool.false_eq_true, true_and, and_true, decide_eq_true_eq, id, reduceCtorEq]
    refine ⟨mulok_r (by decide) (by decide), by decide, hk _ _ ⟨rfl, _, rfl⟩⟩
  · rintro E h2 ⟨rfl, mx, rfl⟩
    simp only [sSeq, sSet, sSkip, sForget, sFor, sIf, sRet, sRetN, sDrop, sSetI, sAsg, sPar, sFldM, sAug, frzV, valE, mVar, mC, mOp, mUn, mCall, mFun, mMeth, mMake, mFld, mTst, mNotT, mNotV, mAndV, mOrV, mAndT, mOrT, mIte, mNil, mCons, mTup, mLst, mChain, mIter_ap, mIsi_ap, mRng1, mRng2, mLc, mYes, mCell, mRel, mSl, oNo, oSome,
  gN, gT, gsCons, gsNil, frz_d, frz_l, frz_k, gIx_p, onSet_p, onQ_p, onL_p, gLen_p, onIns_p, put_put, atD_0, atD_1, atD_2, atD_3, atD_4, ixN_0, ixN_1, ixN_2, ixN_3, ixN_4, List.length_cons, List.length_nil, onBl_b, onInt_i, onTup_t, on1_1, on2_2, onQ_l, onQ_t, onQ_s, onL_l, onLs_l, onLs_s, onD_d, onOpt_s, gII, gB, gAdd_i, gAdd_s, gAdd_t, gAdd_l, gMul_i, gMul_l, gMul_t, gSub, gMod, gDiv, gPow, gNeg, gIx_l, gIx_t, gIx_s, gLen_l, gLen_t, gLen_s, gLen_d, iterD_t, iterD_l, iterD_s,
  kind_i, kind_b, kind_s, kind_n, kind_t, kind_l, gIsN, isNon, gTuple, gList, gAll, gAny, gSum, gMin, gMax, gMin2, gMax2, gAbs, gInt, gSorted,
  List.getElem?_cons_zero, List.getElem?_cons_succ, List.getElem?_nil, List.set_cons_zero, List.set_cons_succ, List.cons_append, List.nil_append, List.append_nil, wipeE, List.any_cons, List.any_nil, isK, Bool.or_false, Bool.false_or, Bool.or_true, Bool.true_or, Bool.not_true, Bool.not_false, if_true, if_false, Bool.false_eq_true, true_and, and_true, decide_eq_true_eq, id, reduceCtorEq]
    exact ⟨by show 4 ≤ sizeLine; decide, bodyN_rt0 (k mx)⟩
theorem rd_law_taken {a : Ad} (ds : List D) (h : MH) (Kn : RV → MH → Prop) (Kx : XKm) (q : sp_law_taken a ds h Kn Kx) : t_law_taken a (bodyN Kn Kx) (startE ["_law_row_here", "_law_many", "_law_found", "_law_cell"] ds) h := by
  obtain ⟨r, m, rfl, h0, h9, ⟨ns, pos, ex, mx, e, hp⟩, k⟩ := q
  show t_law_taken a (bodyN Kn Kx) [some (.ref r), some (.int m), none, none] h
  have lg : m.natAbs.log2 < 9000 := log2_lt h9 h0
  unfold t_law_taken
  have fin : ∀ {v pos' ex' mx' : Int}, 0 ≤ v → v < m → 0 ≤ pos' → (bodyN Kn Kx).rt (.d (.int v)) (put h r (.lst [.scr ns, .int pos', .int ex', .int mx'])) := fun h1 h2 h3 =>
    bodyN_rt0 (k _ _ h1 h2 (fun b hb => put_ne hb) ⟨_, _, _, _, put_same, h3⟩)
  have m0 : ∀ x : Int, 0 ≤ x % m := fun x => Int.emod_nonneg x (by omega)
  have m1 : ∀ x : Int, x % m < m := fun x => Int.emod_lt_of_pos x h0
  simp only [sSeq, sSet, sSkip, sForget, sFor, sIf, sRet, sRetN, sDrop, sSetI, sAsg, sPar, sFldM, sAug, frzV, valE, mVar, mC, mOp, mUn, mCall, mFun, mMeth, mMake, mFld, mTst, mNotT, mNotV, mAndV, mOrV, mAndT, mOrT, mIte, mNil, mCons, mTup, mLst, mChain, mIter_ap, mIsi_ap, mRng1, mRng2, mLc, mYes, mCell, mRel, mSl, oNo, oSome,
  gN, gT, gsCons, gsNil, frz_d, frz_l, frz_k, gIx_p, onSet_p, onQ_p, onL_p, gLen_p, onIns_p, put_put, atD_0, atD_1, atD_2, atD_3, atD_4, ixN_0, ixN_1, ixN_2, ixN_3, ixN_4, List.length_cons, List.length_nil, onBl_b, onInt_i, onTup_t, on1_1, on2_2, onQ_l, onQ_t, onQ_s, onL_l, onLs_l, onLs_s, onD_d, onOpt_s, gII, gB, gAdd_i, gAdd_s, gAdd_t, gAdd_l, gMul_i, gMul_l, gMul_t, gSub, gMod, gDiv, gPow, gNeg, gIx_l, gIx_t, gIx_s, gLen_l, gLen_t, gLen_s, gLen_d, iterD_t, iterD_l, iterD_s,
  kind_i, kind_b, kind_s, kind_n, kind_t, kind_l, gIsN, isNon, gTuple, gList, gAll, gAny, gSum, gMin, gMax, gMin2, gMax2, gAbs, gInt, gSorted,
  List.getElem?_cons_zero, List.getElem?_cons_succ, List.getElem?_nil, List.set_cons_zero, List.set_cons_succ, List.cons_append, List.nil_append, List.append_nil, wipeE, List.any_cons, List.any_nil, isK, Bool.or_false, Bool.false_or, Bool.or_true, Bool.true_or, Bool.not_true, Bool.not_false, if_true, if_false, Bool.false_eq_true, true_and, and_true, decide_eq_true_eq, id, reduceCtorEq, gIx_r e, onSet_l e]
  split
  · exact ⟨h0, ⟨h0, lg⟩, fin (m0 _) (m1 _) hp⟩
  split
  · rename_i h1 h2
    obtain ⟨c, ec⟩ : ∃ c, ns[pos.toNat]? = some c := ⟨_, List.getElem?_eq_getElem (by omega)⟩
    have ea : atD (ns.map D.int) pos = some (.int c) := atD_int hp (by rw [List.getElem?_map, ec]; rfl)
    simp only [sSeq, sSet, sSkip, sForget, sFor, sIf, sRet, sRetN, sDrop, sSetI, sAsg, sPar, sFldM, sAug, frzV, valE, mVar, mC, mOp, mUn, mCall, mFun, mMeth, mMake, mFld, mTst, mNotT, mNotV, mAndV, mOrV, mAndT, mOrT, mIte, mNil, mCons, mTup, mLst, mChain, mIter_ap, mIsi_ap, mRng1, mRng2, mLc, mYes, mCell, mRel, mSl, oNo, oSome,
  gN, gT, gsCons, gsNil, frz_d, frz_l, frz_k, gIx_p, onSet_p, onQ_p, onL_p, gLen_p, onIns_p, put_put, atD_0, atD_1, atD_2, atD_3, atD_4, ixN_0, ixN_1, ixN_2, ixN_3, ixN_4, List.length_cons, List.length_nil, onBl_b, onInt_i, onTup_t, on1_1, on2_2, onQ_l, onQ_t, onQ_s, onL_l, onLs_l, onLs_s, onD_d, onOpt_s, gII, gB, gAdd_i, gAdd_s, gAdd_t, gAdd_l, gMul_i, gMul_l, gMul_t, gSub, gMod, gDiv, gPow, gNeg, gIx_l, gIx_t, gIx_s, gLen_l, gLen_t, gLen_s, gLen_d, iterD_t, iterD_l, iterD_s,
  kind_i, kind_b, kind_s, kind_n, kind_t, kind_l, gIsN, isNon, gTuple, gList, gAll, gAny, gSum, gMin, gMax, gMin2, gMax2, gAbs, gInt, gSorted,
  List.getElem?_cons_zero, List.getElem?_cons_succ, List.getElem?_nil, List.set_cons_zero, List.set_cons_succ, List.cons_append, List.nil_append, List.append_nil, wipeE, List.any_cons, List.any_nil, isK, Bool.or_false, Bool.false_or, Bool.or_true, Bool.true_or, Bool.not_true, Bool.not_false, if_true, if_false, Bool.false_eq_true, true_and, and_true, decide_eq_true_eq, id, reduceCtorEq, ea]
    refine ⟨⟨by decide, by decide, by decide⟩, ?_⟩
    split
    · exact ⟨⟨h0, lg⟩, h0, fin (m0 _) (m1 _) (by omega)⟩
    · exact ⟨h0, fin (m0 _) (m1 _) (by omega)⟩
  · exact ⟨mulok_r (by decide) (by decide), by decide, ⟨by decide, by decide +kernel⟩, h0, fin (m0 _) (m1 _) hp⟩
end M3
set_option Elab.async false
set_option linter.all false
set_option maxRecDepth 100000
set_option maxHeartbeats 4000000
namespace M3
open PySem PySem.Spec PyProof.Rows L2
/-! ### equality, told by kind -/
theorem plD_zero : ∀ {n : Nat} {i : Int}, plD n (.int i) = true
  | 0, _ => rfl
  | _ + 1, _ => rfl
theorem plD_mono : ∀ {n : Nat} {d : D}, plD n d = true → plD (n + 1) d = true
  | 0, .non, _ => rfl
  | 0, .bl _, _ => rfl
  | 0, .int _, _ => rfl
  | 0, .str _, h => h
  | 0, .tup _, h => by cases h
  | 0, .lst _, h => by cases h
  | 0, .dct _, h => by cases h
  | 0, .ref _, h => by cases h
  | 0, .scr _, h => by cases h
  | _ + 1, .non, _ => rfl
  | _ + 1, .bl _, _ => rfl
  | _ + 1, .int _, _ => rfl
  | _ + 1, .str _, h => h
  | n + 1, .tup xs, h => by
    simp only [plD, List.all_eq_true] at h ⊢
    exact fun x hx => plD_mono (h x hx)
  | n + 1, .lst xs, h => by
    simp only [plD, List.all_eq_true] at h ⊢
    exact fun x hx => plD_mono (h x hx)
  | _ + 1, .dct _, h => by cases h
  | _ + 1, .ref _, h => by cases h
  | _ + 1, .scr _, h => by cases h
theorem plD_le {n m : Nat} {d : D} (h : plD n d = true) (l : n ≤ m) : plD m d = true := by
  induction l with
  | refl => exact h
  | step _ ih => exact plD_mono ih
theorem eqOk_i {i : Int} : eqOk (.int i) := ⟨0, by omega, rfl⟩
theorem eqOk_b {i : Bool} : eqOk (.bl i) := ⟨0, by omega, rfl⟩
theorem eqOk_n : eqOk .non := ⟨0, by omega, rfl⟩
theorem pl_ints {ns : List Int} : (ns.map D.int).all (plD 0) = true := by
  rw [List.all_eq_true]
  intro x hx
  obtain ⟨i, _, rfl⟩ := List.mem_map.mp hx
  rfl
theorem eqOk_li {ns : List Int} : eqOk (.lst (ns.map D.int)) := ⟨1, by omega, pl_ints⟩
theorem eqOk_ti {ns : List Int} : eqOk (.tup (ns.map D.int)) := ⟨1, by omega, pl_ints⟩
theorem eqvAll_ints : ∀ {xs ys : List Int}, PyData.eqvAll (toPs (xs.map D.int)) (toPs (ys.map D.int)) = decide (xs = ys)
  | [], [] => by simp [toPs, PyData.eqvAll]
  | [], _ :: _ => by simp [toPs, PyData.eqvAll]
  | _ :: _, [] => by simp [toPs, PyData.eqvAll]
  | x :: xs, y :: ys => by
    show (PyData.eqv (.int x) (.int y) && PyData.eqvAll (toPs (xs.map D.int)) (toPs (ys.map D.int))) = _
    rw [eqvAll_ints, PyData.eqv]
    by_cases h : x = y <;> simp [h]
theorem eqD_i {i j : Int} : eqD (.int i) (.int j) = decide (i = j) := by
  show PyData.eqv (.int i) (.int j) = _
  rw [PyData.eqv]
  by_cases h : i = j <;> simp [h]
theorem eqD_b {i j : Bool} : eqD (.bl i) (.bl j) = (i == j) := by
  show PyData.eqv (.bool i) (.bool j) = _
  rw [PyData.eqv]
theorem eqD_li {xs ys : List Int} : eqD (.lst (xs.map D.int)) (.lst (ys.map D.int)) = decide (xs = ys) := by
  show PyData.eqv (.list _) (.list _) = _
  rw [PyData.eqv]
  exact eqvAll_ints
theorem eqD_ti {xs ys : List Int} : eqD (.tup (xs.map D.int)) (.tup (ys.map D.int)) = decide (xs = ys) := by
  show PyData.eqv (.tuple _) (.tuple _) = _
  rw [PyData.eqv]
  exact eqvAll_ints
mutual
theorem eqv_pl : ∀ {n : Nat} {d : D}, plD n d = true → PyData.eqv (toP d) (toP d) = true
  | _, .non, _ => by simp [toP, PyData.eqv]
  | _, .bl _, _ => by simp [toP, PyData.eqv]
  | _, .int _, _ => by simp [toP, PyData.eqv]
  | _, .str _, _ => by simp [toP, PyData.eqv]
  | n + 1, .tup xs, h => by
    simp only [plD, List.all_eq_true] at h
    simp only [toP, PyData.eqv]
    exact eqvs_pl xs h
  | n + 1, .lst xs, h => by
    simp only [plD, List.all_eq_true] at h
    simp only [toP, PyData.eqv]
    exact eqvs_pl xs h
  | 0, .tup _, h => by cases h
  | 0, .lst _, h => by cases h
  | 0, .dct _, h => by cases h
  | 0, .ref _, h => by cases h
  | 0, .scr _, h => by cases h
  | _ + 1, .dct _, h => by cases h
  | _ + 1, .ref _, h => by cases h
  | _ + 1, .scr _, h => by cases h
theorem eqvs_pl : ∀ {n : Nat} (ds : List D), (∀ x ∈ ds, plD n x = true) → PyData.eqvAll (toPs ds) (toPs ds) = true
  | _, [], _ => by simp [toPs, PyData.eqvAll]
  | _, d :: ds, h => by
    show (PyData.eqv (toP d) (toP d) && PyData.eqvAll (toPs ds) (toPs ds)) = true
    rw [eqv_pl (h d List.mem_cons_self), eqvs_pl ds fun x hx => h x (List.mem_cons_of_mem _ hx)]
    rfl
end
theorem eqD_refl {n : Nat} {d : D} (h : plD n d = true) : eqD d d = true := eqv_pl h
section
variable {h : MH} {Kn : RV → MH → Prop} {i j : Int} {a b : Addr} {xs ys : List D} {ns ms : List Int} {p q : Bool}
theorem gEq_ok {x y : D} (hx : eqOk (res h x)) (hy : eqOk (res h y)) : gEq x y h Kn = Kn (.d (.bl (eqD (res h x) (res h y)))) h := by
  unfold gEq
  simp [hx, hy]
theorem gNe_ok {x y : D} (hx : eqOk (res h x)) (hy : eqOk (res h y)) : gNe x y h Kn = Kn (.d (.bl (!eqD (res h x) (res h y)))) h := by
  unfold gNe
  simp [hx, hy]
theorem res_i : res h (.int i) = .int i := rfl
theorem res_b : res h (.bl p) = .bl p := rfl
theorem res_n : res h .non = .non := rfl
theorem res_l : res h (.lst xs) = .lst xs := rfl
theorem res_t : res h (.tup xs) = .tup xs := rfl
theorem res_s {x : Str} : res h (.str x) = .str x := rfl
theorem res_r (e : h a = some (.lst xs)) : res h (.ref a) = .lst xs := by
  show (match h a with
    | some (.lst xs) => D.lst xs
    | _ => .ref a) = _
  rw [e]
theorem gEq_i : gEq (.int i) (.int j) h Kn = Kn (.d (.bl (decide (i = j)))) h := by rw [gEq_ok (x := .int i) (y := .int j) eqOk_i eqOk_i, res_i, res_i, eqD_i]
theorem gNe_i : gNe (.int i) (.int j) h Kn = Kn (.d (.bl (!decide (i = j)))) h := by rw [gNe_ok (x := .int i) (y := .int j) eqOk_i eqOk_i, res_i, res_i, eqD_i]
theorem gEq_b : gEq (.bl p) (.bl q) h Kn = Kn (.d (.bl (p == q))) h := by rw [gEq_ok (x := .bl p) (y := .bl q) eqOk_b eqOk_b, res_b, res_b, eqD_b]
theorem gNe_b : gNe (.bl p) (.bl q) h Kn = Kn (.d (.bl (!(p == q)))) h := by rw [gNe_ok (x := .bl p) (y := .bl q) eqOk_b eqOk_b, res_b, res_b, eqD_b]
theorem gEq_li : gEq (.lst (ns.map D.int)) (.lst (ms.map D.int)) h Kn = Kn (.d (.bl (decide (ns = ms)))) h := by rw [gEq_ok (x := .lst (ns.map D.int)) (y := .lst (ms.map D.int)) eqOk_li eqOk_li, res_l, res_l, eqD_li]
theorem gNe_li : gNe (.lst (ns.map D.int)) (.lst (ms.map D.int)) h Kn = Kn (.d (.bl (!decide (ns = ms)))) h := by rw [gNe_ok (x := .lst (ns.map D.int)) (y := .lst (ms.map D.int)) eqOk_li eqOk_li, res_l, res_l, eqD_li]
theorem gEq_l0 : gEq (.lst (ns.map D.int)) (.lst []) h Kn = Kn (.d (.bl (decide (ns = [])))) h := gEq_li (ms := [])
theorem gNe_l0 : gNe (.lst (ns.map D.int)) (.lst []) h Kn = Kn (.d (.bl (!decide (ns = [])))) h := gNe_li (ms := [])
theorem gEq_00 : gEq (.lst []) (.lst []) h Kn = Kn (.d (.bl true)) h := gEq_li (ns := []) (ms := [])
theorem gNe_00 : gNe (.lst []) (.lst []) h Kn = Kn (.d (.bl false)) h := gNe_li (ns := []) (ms := [])
theorem gEq_ti : gEq (.tup (ns.map D.int)) (.tup (ms.map D.int)) h Kn = Kn (.d (.bl (decide (ns = ms)))) h := by rw [gEq_ok (x := .tup (ns.map D.int)) (y := .tup (ms.map D.int)) eqOk_ti eqOk_ti, res_t, res_t, eqD_ti]
theorem gNe_ti : gNe (.tup (ns.map D.int)) (.tup (ms.map D.int)) h Kn = Kn (.d (.bl (!decide (ns = ms)))) h := by rw [gNe_ok (x := .tup (ns.map D.int)) (y := .tup (ms.map D.int)) eqOk_ti eqOk_ti, res_t, res_t, eqD_ti]
end
/-- what a list of items answers where it stands -/
theorem seq_onQ {h : MH} {x : D} {xs : List D} {k : List D → Prop} (e : res h x = .lst xs ∨ res h x = .tup xs) : onQ h x k = k xs := by
  cases x with
  | ref p =>
    rcases e with e | e
    · cases q : h p with
      | none => rw [show res h (.ref p) = (match h p with
          | some (.lst xs) => D.lst xs
          | _ => .ref p) from rfl, q] at e; cases e
      | some m =>
        cases m with
        | lst ys => rw [res_r q] at e; cases e; exact onQ_r q
        | dct ys => rw [show res h (.ref p) = (match h p with
          | some (.lst xs) => D.lst xs
          | _ => .ref p) from rfl, q] at e; cases e
        | ins C ys => rw [show res h (.ref p) = (match h p with
          | some (.lst xs) => D.lst xs
          | _ => .ref p) from rfl, q] at e; cases e
    · exfalso
      rw [show res h (.ref p) = (match h p with
          | some (.lst xs) => D.lst xs
          | _ => .ref p) from rfl] at e
      split at e <;> cases e
  | lst ys => rcases e with e | e <;> cases e; rfl
  | tup ys => rcases e with e | e <;> cases e; rfl
  | _ => rcases e with e | e <;> cases e
theorem seq_ref {h : MH} {p : Addr} {xs : List D} (e : res h (.ref p) = .lst xs ∨ res h (.ref p) = .tup xs) : h p = some (.lst xs) := by
  rw [show res h (.ref p) = (match h p with
          | some (.lst xs) => D.lst xs
          | _ => .ref p) from rfl] at e
  split at e
  · rcases e with e | e <;> cases e
    assumption
  · rcases e with e | e <;> cases e
theorem seq_kindL {h : MH} {x : D} {xs : List D} (e : res h x = .lst xs) : kindD h x = some .lst := by
  cases x with
  | ref p => exact kind_r (seq_ref (.inl e))
  | lst ys => rfl
  | _ => cases e
theorem seq_tup {h : MH} {x : D} {xs : List D} (e : res h x = .tup xs) : x = .tup xs := by
  cases x with
  | ref p =>
    rw [show res h (.ref p) = (match h p with
          | some (.lst xs) => D.lst xs
          | _ => .ref p) from rfl] at e
    split at e <;> cases e
  | lst ys => cases e
  | tup ys => cases e; rfl
  | _ => cases e
theorem seq_len {h : MH} {x : D} {xs : List D} {Kn : RV → MH → Prop} (e : res h x = .lst xs ∨ res h x = .tup xs) : gLen [x] h Kn = Kn (.d (.int xs.length)) h := by
  cases x with
  | ref p => exact gLen_r (seq_ref e)
  | lst ys => rcases e with e | e <;> cases e; rfl
  | tup ys => rcases e with e | e <;> cases e; rfl
  | _ => rcases e with e | e <;> cases e
theorem seq_ix {h : MH} {x : D} {i : Int} {xs : List D} {Kn : RV → MH → Prop} (e : res h x = .lst xs ∨ res h x = .tup xs) : gIx x (.int i) h Kn = onOpt (atD xs i) fun d => Kn (.d d) h := by
  cases x with
  | ref p => exact gIx_r (seq_ref e)
  | lst ys => rcases e with e | e <;> cases e; exact gIx_l
  | tup ys => rcases e with e | e <;> cases e; exact gIx_t
  | _ => rcases e with e | e <;> cases e
theorem pl_res {n : Nat} {h : MH} {d : D} (q : plD n d = true) : res h d = d := by
  cases d with
  | ref p => cases n <;> cases q
  | _ => rfl
theorem rng_len {lo : Int} {n : Nat} : (rngD lo n).length = n := by simp [rngD]
theorem rng_get {n i : Nat} {d : D} (h : (rngD 0 n)[i]? = some d) : i < n ∧ d = .int i := by
  unfold rngD at h
  rw [List.getElem?_map] at h
  cases e : (List.range n)[i]? with
  | none => rw [e] at h; cases h
  | some c =>
    rw [e] at h
    obtain ⟨hi, rfl⟩ := List.getElem?_eq_some_iff.mp e
    simp at hi h
    exact ⟨hi, by rw [← h]⟩
theorem sz1 : (1 ≤ sizeLine) = True := eq_true (by decide)
theorem sz2 : (2 ≤ sizeLine) = True := eq_true (by decide)
theorem sz3 : (3 ≤ sizeLine) = True := eq_true (by decide)
theorem sz4 : (4 ≤ sizeLine) = True := eq_true (by decide)
theorem sz5 : (5 ≤ sizeLine) = True := eq_true (by decide)
theorem sz6 : (6 ≤ sizeLine) = True := eq_true (by decide)
theorem line_big : (1000 : Nat) ≤ sizeLine := by decide
theorem enum_get {xs : List D} {i : Nat} {d : D} (h : (enumD xs)[i]? = some d) : ∃ x, xs[i]? = some x ∧ d = .tup [.int i, x] := by
  unfold enumD at h
  rw [List.getElem?_zipWith] at h
  cases e : xs[i]? with
  | none => rw [e] at h; cases e2 : (List.range xs.length)[i]? <;> rw [e2] at h <;> cases h
  | some x =>
    rw [e] at h
    cases e2 : (List.range xs.length)[i]? with
    | none => rw [e2] at h; cases h
    | some j =>
      rw [e2] at h
      obtain ⟨hi, rfl⟩ := List.getElem?_eq_some_iff.mp e2
      simp at h
      exact ⟨x, rfl, h.symm⟩
theorem num_yes {lo hi i : Int} (h1 : lo ≤ i) (h2 : i ≤ hi) : isNum (.int i) lo hi = true := by simp [isNum, h1, h2]
theorem is_num {a : Ad} {i lo hi : Int} {h : MH} {Kn : RV → MH → Prop} {Kx : XKm} (h1 : lo ≤ i) (h2 : i ≤ hi) (k : Kn (.d (.bl true)) h) : sp_is_number a [.int i, .int lo, .int hi] h Kn Kx := ⟨_, _, _, rfl, nofun, by rw [num_yes h1 h2]; exact k⟩
theorem gEq_t0 {xs : List D} {h : MH} {Kn : RV → MH → Prop} (e : eqOk (.tup xs)) : gEq (.tup xs) (.tup []) h Kn = Kn (.d (.bl xs.isEmpty)) h := by
  rw [gEq_ok (x := .tup xs) (y := .tup []) e ⟨1, by omega, rfl⟩]
  cases xs <;> rfl
theorem eqOk_rows {rows : List (List Int)} : eqOk (.tup (rows.map fun r => .tup (r.map D.int))) := ⟨2, by omega, by
  rw [show plD 2 (.tup (rows.map fun r => D.tup (r.map D.int))) = (rows.map fun r => D.tup (r.map D.int)).all (plD 1) from rfl, List.all_eq_true]
  intro x hx
  obtain ⟨i, _, rfl⟩ := List.mem_map.mp hx
  exact pl_ints⟩
theorem all_yes {xs : List D} (h : ∀ x ∈ xs, x = .bl true) : blsD xs = some (List.replicate xs.length true) := by
  induction xs with
  | nil => rfl
  | cons x xs ih =>
    obtain rfl := h x List.mem_cons_self
    rw [blsD, ih fun x hx => h x (List.mem_cons_of_mem _ hx)]
    rfl
theorem onBls_map {bs : List Bool} {k : List Bool → Prop} : onBls (bs.map D.bl) k = k bs := by
  unfold onBls
  rw [bls_map]

/-! ### loops over mapped lists -/
theorem for_foldA {α β : Type} {g : TGm} {tb : TSm} {N : Nd} {E : En} {h : MH} (S : α → En) (Hh : α → MH) (f : α → β → α) (P : α → Prop) (v : β → D) : ∀ (xs : List β) (s : α), E = S s → h = Hh s → P s →
    (∀ x ∈ xs, ∀ s (k : En → MH → Prop), P s → (P (f s x) → k (S (f s x)) (Hh (f s x))) → g (v x) (S s) (Hh s) fun E2 h2 => tb { nx := k, rt := N.rt, bk := N.nx, ct := k, xs := N.xs } E2 h2) →
    (∀ s x, x ∈ xs → P s → P (f s x)) →
    (P (xs.foldl f s) → N.nx (S (xs.foldl f s)) (Hh (xs.foldl f s))) → forL g tb (xs.map v) N E h
  | [], s, e1, e2, p, _, _, hd => by
    subst e1 e2
    exact hd p
  | x :: xs, s, e1, e2, p, hs, hp, hd => by
    subst e1 e2
    exact hs x List.mem_cons_self s _ p fun p2 => for_foldA S Hh f P v xs (f s x) rfl rfl p2 (fun d hd => hs d (List.mem_cons_of_mem _ hd)) (fun s x hx => hp s x (List.mem_cons_of_mem _ hx)) hd
theorem lc_fmA {α : Type} {g : TGm} {tt : TTm} {te : TVm} {E : En} {h : MH} {K : List D → MH → Prop} (xs : List α) (v : α → D) (f : α → Option D) (hl : xs.length ≤ sizeLine)
    (hs : ∀ x ∈ xs, ∀ (acc : List D) (k : List D → MH → Prop), acc.length < sizeLine → (match f x with
      | some y => k (acc ++ [y]) h
      | none => k acc h) → g (v x) E h fun E2 h2 => tt E2 h2 (fun b h3 => if b = true then te E2 h3 (fun y h4 => acc.length < sizeLine ∧ k (acc ++ [y]) h4) xNo else k acc h3) xNo)
    (hd : K (xs.filterMap f) h) : lcL g tt te E (xs.map v) [] h K := by
  have go : ∀ (xs : List α) (acc : List D), acc.length + xs.length ≤ sizeLine → (∀ x ∈ xs, ∀ (acc : List D) (k : List D → MH → Prop), acc.length < sizeLine → (match f x with
      | some y => k (acc ++ [y]) h
      | none => k acc h) → g (v x) E h fun E2 h2 => tt E2 h2 (fun b h3 => if b = true then te E2 h3 (fun y h4 => acc.length < sizeLine ∧ k (acc ++ [y]) h4) xNo else k acc h3) xNo) → K (acc ++ xs.filterMap f) h → lcL g tt te E (xs.map v) acc h K := by
    intro xs
    induction xs with
    | nil =>
      intro acc _ _ hd
      rw [List.filterMap_nil, List.append_nil] at hd
      exact hd
    | cons d ds ih =>
      intro acc hl hs hd
      simp only [List.length_cons] at hl
      refine hs d List.mem_cons_self acc (fun acc h => lcL g tt te E (ds.map v) acc h K) (by omega) ?_
      cases e : f d with
      | none =>
        rw [List.filterMap_cons_none e] at hd
        exact ih acc (by omega) (fun d hd => hs d (List.mem_cons_of_mem _ hd)) hd
      | some y =>
        rw [List.filterMap_cons_some e] at hd
        refine ih (acc ++ [y]) (by rw [List.length_append]; simp; omega) (fun d hd => hs d (List.mem_cons_of_mem _ hd)) ?_
        rw [List.append_assoc]
        exact hd
  exact go xs [] (by simpa using hl) hs (by simpa using hd)
theorem lc_mapA {α : Type} {g : TGm} {tt : TTm} {te : TVm} {E : En} {h : MH} {K : List D → MH → Prop} (xs : List α) (v : α → D) (f : α → D) (hl : xs.length ≤ sizeLine)
    (hs : ∀ x ∈ xs, ∀ (acc : List D) (k : List D → MH → Prop), acc.length < sizeLine → k (acc ++ [f x]) h → g (v x) E h fun E2 h2 => tt E2 h2 (fun b h3 => if b = true then te E2 h3 (fun y h4 => acc.length < sizeLine ∧ k (acc ++ [y]) h4) xNo else k acc h3) xNo)
    (hd : K (xs.map f) h) : lcL g tt te E (xs.map v) [] h K := by
  refine lc_fmA xs v (fun d => some (f d)) hl (fun d hm acc k ha q => hs d hm acc k ha q) ?_
  have e : xs.filterMap (fun d => some (f d)) = xs.map f := by
    induction xs with
    | nil => rfl
    | cons d ds ih => simp
  rw [e]
  exact hd
theorem lc_filA {α : Type} {g : TGm} {tt : TTm} {te : TVm} {E : En} {h : MH} {K : List D → MH → Prop} (xs : List α) (v : α → D) (p : α → Bool) (hl : xs.length ≤ sizeLine)
    (hs : ∀ x ∈ xs, ∀ (acc : List D) (k : List D → MH → Prop), acc.length < sizeLine → (if p x = true then k (acc ++ [v x]) h else k acc h) → g (v x) E h fun E2 h2 => tt E2 h2 (fun b h3 => if b = true then te E2 h3 (fun y h4 => acc.length < sizeLine ∧ k (acc ++ [y]) h4) xNo else k acc h3) xNo)
    (hd : K ((xs.filter p).map v) h) : lcL g tt te E (xs.map v) [] h K := by
  refine lc_fmA xs v (fun d => if p d = true then some (v d) else none) hl (fun d hm acc k ha q => hs d hm acc k ha ?_) ?_
  · by_cases e : p d = true
    · simp only [e, if_true] at q ⊢
      exact q
    · simp only [e] at q ⊢
      exact q
  · have e : xs.filterMap (fun d => if p d = true then some (v d) else none) = (xs.filter p).map v := by
      clear hs hd hl
      induction xs with
      | nil => rfl
      | cons d ds ih =>
        by_cases e : p d = true
        · simp [e, ih]
        · simp [e, ih]
    rw [e]
    exact hd
theorem atD_ints {cs : List Int} {c : Int} (h0 : 0 ≤ c) (h1 : c < cs.length) : atD (cs.map D.int) c = some (.int (cs.getD c.toNat 0)) := by
  refine atD_int h0 ?_
  rw [List.getElem?_map, List.getD_eq_getElem?_getD, List.getElem?_eq_getElem (by omega : c.toNat < cs.length)]
  rfl
theorem atD_map {α : Type} {xs : List α} {v : α → D} {i : Nat} (h : i < xs.length) : atD (xs.map v) (i : Int) = some (v (xs[i]'h)) := by
  refine atD_nat ?_
  rw [List.getElem?_map, List.getElem?_eq_getElem h]
  rfl
theorem rep_ints {n : Nat} {c : Int} : (List.replicate n [D.int c]).flatten = (List.replicate n c).map D.int := by
  induction n with
  | zero => rfl
  | succ n ih => rw [List.replicate_succ, List.flatten_cons, ih]; rfl
end M3
set_option Elab.async false
set_option linter.all false
set_option maxRecDepth 100000
set_option maxHeartbeats 4000000
namespace M3
open PySem PySem.Spec PyProof.Rows L2
structure Plan where
  k : Nat
  w : Nat
  rows : List (List Int)
def planD (p : Plan) : D := .tup [.int p.k, .int p.w, .tup (p.rows.map fun r => .tup (r.map D.int))]
structure PlanOk (p : Plan) : Prop where
  k1 : 1 ≤ p.k
  k2 : p.k ≤ 16
  w1 : 1 ≤ p.w
  w2 : p.w ≤ 32
  r1 : 1 ≤ p.rows.length
  r2 : p.rows.length ≤ 5
  len : ∀ r ∈ p.rows, r.length = p.k
  cell : ∀ r ∈ p.rows, ∀ c ∈ r, 0 ≤ c ∧ c < p.w
def sp_law_plan (a : Ad) : MSp := fun ds h Kn Kx => ∃ (r : Addr) (k w d : Int), ds = [.ref r, .int k, .int w, .int d] ∧ 1 ≤ k ∧ k ≤ 16 ∧ 1 ≤ w ∧ w ≤ 32 ∧ 1 ≤ d ∧ d ≤ 5 ∧ RowAt h r ∧ ∀ p h', PlanOk p → (p.k : Int) ≤ k → (p.w : Int) ≤ w → (p.rows.length : Int) ≤ d → (∀ b, b ≠ r → h' b = h b) → RowAt h' r → Kn (.d (planD p)) h'
def sp_need_plan (a : Ad) : MSp := fun ds h Kn Kx => ∃ p, ds = [planD p] ∧ PlanOk p ∧ Kn (.d .non) h
def sp_need_key (a : Ad) : MSp := fun ds h Kn Kx => ∃ (p : Plan) (k : Nat), ds = [planD p, .int k] ∧ PlanOk p ∧ k < p.k ∧ Kn (.d .non) h
/-- plain data of at most that depth, no list longer than sizeLine -/
def alD : Nat → D → Bool
  | _, .non | _, .bl _ | _, .int _ => true
  | _, .str x => PyData.strOk x
  | n + 1, .tup xs => decide (xs.length ≤ sizeLine) && xs.all (alD n)
  | n + 1, .lst xs => decide (xs.length ≤ sizeLine) && xs.all (alD n)
  | _, _ => false
theorem al_pl : ∀ {n : Nat} {d : D}, alD n d = true → plD n d = true
  | 0, .non, _ => rfl
  | 0, .bl _, _ => rfl
  | 0, .int _, _ => rfl
  | 0, .str _, h => h
  | 0, .tup _, h => by cases h
  | 0, .lst _, h => by cases h
  | 0, .dct _, h => by cases h
  | 0, .ref _, h => by cases h
  | 0, .scr _, h => by cases h
  | _ + 1, .non, _ => rfl
  | _ + 1, .bl _, _ => rfl
  | _ + 1, .int _, _ => rfl
  | _ + 1, .str _, h => h
  | n + 1, .tup xs, h => by
    simp only [alD, plD, Bool.and_eq_true, List.all_eq_true] at h ⊢
    exact fun x hx => al_pl (h.2 x hx)
  | n + 1, .lst xs, h => by
    simp only [alD, plD, Bool.and_eq_true, List.all_eq_true] at h ⊢
    exact fun x hx => al_pl (h.2 x hx)
  | _ + 1, .dct _, h => by cases h
  | _ + 1, .ref _, h => by cases h
  | _ + 1, .scr _, h => by cases h
theorem alD_mono : ∀ {n : Nat} {d : D}, alD n d = true → alD (n + 1) d = true
  | 0, .non, _ => rfl
  | 0, .bl _, _ => rfl
  | 0, .int _, _ => rfl
  | 0, .str _, h => h
  | 0, .tup _, h => by cases h
  | 0, .lst _, h => by cases h
  | 0, .dct _, h => by cases h
  | 0, .ref _, h => by cases h
  | 0, .scr _, h => by cases h
  | _ + 1, .non, _ => rfl
  | _ + 1, .bl _, _ => rfl
  | _ + 1, .int _, _ => rfl
  | _ + 1, .str _, h => h
  | n + 1, .tup xs, h => by
    simp only [alD, Bool.and_eq_true, List.all_eq_true] at h ⊢
    exact ⟨h.1, fun x hx => alD_mono (h.2 x hx)⟩
  | n + 1, .lst xs, h => by
    simp only [alD, Bool.and_eq_true, List.all_eq_true] at h ⊢
    exact ⟨h.1, fun x hx => alD_mono (h.2 x hx)⟩
  | _ + 1, .dct _, h => by cases h
  | _ + 1, .ref _, h => by cases h
  | _ + 1, .scr _, h => by cases h
theorem alD_le {n m : Nat} {d : D} (h : alD n d = true) (l : n ≤ m) : alD m d = true := by
  induction l with
  | refl => exact h
  | step _ ih => exact alD_mono ih
def sp_law_alike (a : Ad) : Nat → MSp
  | 0 => fun _ _ _ _ => False
  | n + 1 => fun ds h Kn Kx => ∃ x y, ds = [x, y] ∧ res h x = res h y ∧ n ≤ 50 ∧ alD n (res h x) = true ∧ Kn (.d (.bl true)) h
def t_law_plan (a : Ad) : TSm :=
  (sSeq (sAsg (mTup (mCons (frzV (mOp gAdd (mC (.int 1)) (frzV (mFun (sp_law_taken a) [] (mCons (mVar 0) (mCons (mVar 1) mNil)))))) (mCons (frzV (mOp gAdd (mC (.int 1)) (frzV (mFun (sp_law_taken a) [] (mCons (mVar 0) (mCons (mVar 2) mNil)))))) (mCons (mTup mNil) mNil)))) (gT 3 (gsCons (gN 4) (gsCons (gN 5) (gsCons (gN 6) gsNil)))))
  (sSeq (sForget [7] (sFor (mRng1 (mCons (frzV (mOp gAdd (mC (.int 1)) (frzV (mFun (sp_law_taken a) [] (mCons (mVar 0) (mCons (mVar 3) mNil)))))) mNil)) (gN 7)
   (sForget [7] (sSet 6 (frzV (mOp gAdd (mVar 6) (mTup (mCons (frzV (mCall gTuple (mCons (frzV (mLc (mRng1 (mCons (mVar 4) mNil)) (gN 8) mYes (frzV (mFun (sp_law_taken a) [] (mCons (mVar 0) (mCons (mVar 5) mNil)))) [8])) mNil))) mNil))))))))
  (sRet (valE (mTup (mCons (mVar 4) (mCons (mVar 5) (mCons (mVar 6) mNil))))))))
def t_need_plan (a : Ad) : TSm :=
  (sSeq (sIf (mOrT (mNotT (mTst (mIsi [.tuple] (mVar 0)))) (mTst (frzV (mOp gNe (frzV (mCall gLen (mCons (mVar 0) mNil))) (mC (.int 3)))))) sNever sSkip)
  (sSeq (sAsg (mVar 0) (gT 3 (gsCons (gN 1) (gsCons (gN 2) (gsCons (gN 3) gsNil)))))
  (sSeq (sIf (mNotT (mTst (frzV (mFun (sp_is_number a) [] (mCons (mVar 1) (mCons (mC (.int 1)) (mCons (mC (.int 16)) mNil))))))) sNever sSkip)
  (sSeq (sIf (mNotT (mTst (frzV (mFun (sp_is_number a) [] (mCons (mVar 2) (mCons (mC (.int 1)) (mCons (mC (.int 32)) mNil))))))) sNever sSkip)
  (sSeq (sIf (mOrT (mNotT (mTst (mIsi [.tuple] (mVar 3)))) (mTst (frzV (mOp gEq (mVar 3) (mTup mNil))))) sNever sSkip)
  (sForget [4, 5] (sFor (mEnum (mCons (mVar 3) mNil)) (gT 2 (gsCons (gN 4) (gsCons (gN 5) gsNil)))
   (sForget [4, 5] (sSeq (sIf (mOrT (mTst (frzV (mOp gEq (mVar 4) (mC (.int 5))))) (mOrT (mNotT (mTst (mIsi [.tuple] (mVar 5)))) (mTst (frzV (mOp gNe (frzV (mCall gLen (mCons (mVar 5) mNil))) (mVar 1)))))) sNever sSkip)
  (sIf (mNotT (mTst (frzV (mCall gAll (mCons (frzV (mLc (mIter (mVar 5)) (gN 6) mYes (frzV (mFun (sp_is_number a) [] (mCons (mVar 6) (mCons (mC (.int 0)) (mCons (frzV (mOp gSub (mVar 2) (mC (.int 1)))) mNil))))) [6])) mNil))))) sNever sSkip))))))))))
def t_need_key (a : Ad) : TSm :=
  (sIf (mNotT (mTst (frzV (mFun (sp_is_number a) [] (mCons (mVar 1) (mCons (mC (.int 0)) (mCons (frzV (mOp gSub (frzV (mOp gIx (mVar 0) (mC (.int 0)))) (mC (.int 1)))) mNil))))))) sNever sSkip)
def t_law_alike (a : Ad) (k : Nat) : TSm :=
  (sSeq (sIf (mTst (mIsi [.tuple, .list] (mVar 1))) (sSeq (sIf (mOrT (mTst (frzV (mOp gNe (mIsi [.tuple] (mVar 0)) (mIsi [.tuple] (mVar 1))))) (mNotT (mTst (mIsi [.tuple, .list] (mVar 0))))) (sRet (valE (mC (.bl false)))) sSkip)
  (sSeq (sIf (mTst (frzV (mOp gNe (frzV (mCall gLen (mCons (mVar 0) mNil))) (frzV (mCall gLen (mCons (mVar 1) mNil)))))) (sRet (valE (mC (.bl false)))) sSkip)
  (sRet (mOp gEq (frzV (mLc (mRng1 (mCons (frzV (mCall gLen (mCons (mVar 1) mNil))) mNil)) (gN 3) (mNotT (mTst (frzV (mFun (sp_law_alike a k) [] (mCons (frzV (mOp gIx (mVar 0) (mVar 3))) (mCons (frzV (mOp gIx (mVar 1) (mVar 3))) mNil)))))) (mVar 3) [3])) (frzV (mLst mNil)))))) sSkip)
  (sSeq (sIf (mOrT (mTst (frzV (mOp (gIsN id) (mVar 1) (mC .non)))) (mTst (frzV (mOp (gIsN id) (mVar 0) (mC .non))))) (sRet (valE (mAndV (frzV (mOp (gIsN id) (mVar 1) (mC .non))) (frzV (mOp (gIsN id) (mVar 0) (mC .non)))))) sSkip)
  (sSeq (sSet 2 (frzV (mOp gEq (mIsi [.str] (mVar 1)) (mIsi [.str] (mVar 0)))))
  (sRet (valE (mAndV (mVar 2) (mAndV (frzV (mOp gEq (mIsi [.bool] (mVar 1)) (mIsi [.bool] (mVar 0)))) (frzV (mOp gEq (mVar 0) (mVar 1))))))))))
theorem rd_law_plan {a : Ad} (ds : List D) (h : MH) (Kn : RV → MH → Prop) (Kx : XKm) (q : sp_law_plan a ds h Kn Kx) : t_law_plan a (bodyN Kn Kx) (startE ["_law_row_here", "_law_keys", "_law_wide", "_law_deep", "_law_many", "_law_cells", "_law_rows", "_law_k", "_law_key"] ds) h := by
  obtain ⟨r, kk, ww, dd, rfl, k1, k2, w1, w2, d1, d2, hr, k⟩ := q
  show t_law_plan a (bodyN Kn Kx) [some (.ref r), some (.int kk), some (.int ww), some (.int dd), none, none, none, none, none] h
  unfold t_law_plan
  have big := line_big
  simp only [sSeq, sSet, sSkip, sForget, sFor, sIf, sRet, sRetN, sDrop, sSetI, sAsg, sPar, sFldM, sAug, frzV, valE, mVar, mC, mOp, mUn, mCall, mFun, mMeth, mMake, mFld, mTst, mNotT, mNotV, mAndV, mOrV, mAndT, mOrT, mIte, mNil, mCons, mTup, mLst, mChain, mIter_ap, mIsi_ap, mRng1, mRng2, mLc, mYes, mCell, mRel, mSl, oNo, oSome,
  gN, gT, gsCons, gsNil, frz_d, frz_l, frz_k, gIx_p, onSet_p, onQ_p, onL_p, gLen_p, onIns_p, put_put, atD_0, atD_1, atD_2, atD_3, atD_4, ixN_0, ixN_1, ixN_2, ixN_3, ixN_4, List.length_cons, List.length_nil, onBl_b, onInt_i, onTup_t, on1_1, on2_2, onQ_l, onQ_t, onQ_s, onL_l, onLs_l, onLs_s, onD_d, onOpt_s, gII, gB, gAdd_i, gAdd_s, gAdd_t, gAdd_l, gMul_i, gMul_l, gMul_t, gSub, gMod, gDiv, gPow, gNeg, gIx_l, gIx_t, gIx_s, gLen_l, gLen_t, gLen_s, gLen_d, iterD_t, iterD_l, iterD_s,
  kind_i, kind_b, kind_s, kind_n, kind_t, kind_l, gIsN, isNon, gTuple, gList, gAll, gAny, gSum, gMin, gMax, gMin2, gMax2, gAbs, gInt, gSorted,
  List.getElem?_cons_zero, List.getElem?_cons_succ, List.getElem?_nil, List.set_cons_zero, List.set_cons_succ, List.cons_append, List.nil_append, List.append_nil, wipeE, List.any_cons, List.any_nil, isK, Bool.or_false, Bool.false_or, Bool.or_true, Bool.true_or, Bool.not_true, Bool.not_false, if_true, if_false, Bool.false_eq_true, true_and, and_true, decide_eq_true_eq, id, reduceCtorEq]
  refine ⟨r, kk, rfl, by omega, by omega, hr, fun kn h1 a1 a2 f1 r1 => ?_⟩
  simp only [sSeq, sSet, sSkip, sForget, sFor, sIf, sRet, sRetN, sDrop, sSetI, sAsg, sPar, sFldM, sAug, frzV, valE, mVar, mC, mOp, mUn, mCall, mFun, mMeth, mMake, mFld, mTst, mNotT, mNotV, mAndV, mOrV, mAndT, mOrT, mIte, mNil, mCons, mTup, mLst, mChain, mIter_ap, mIsi_ap, mRng1, mRng2, mLc, mYes, mCell, mRel, mSl, oNo, oSome,
  gN, gT, gsCons, gsNil, frz_d, frz_l, frz_k, gIx_p, onSet_p, onQ_p, onL_p, gLen_p, onIns_p, put_put, atD_0, atD_1, atD_2, atD_3, atD_4, ixN_0, ixN_1, ixN_2, ixN_3, ixN_4, List.length_cons, List.length_nil, onBl_b, onInt_i, onTup_t, on1_1, on2_2, onQ_l, onQ_t, onQ_s, onL_l, onLs_l, onLs_s, onD_d, onOpt_s, gII, gB, gAdd_i, gAdd_s, gAdd_t, gAdd_l, gMul_i, gMul_l, gMul_t, gSub, gMod, gDiv, gPow, gNeg, gIx_l, gIx_t, gIx_s, gLen_l, gLen_t, gLen_s, gLen_d, iterD_t, iterD_l, iterD_s,
  kind_i, kind_b, kind_s, kind_n, kind_t, kind_l, gIsN, isNon, gTuple, gList, gAll, gAny, gSum, gMin, gMax, gMin2, gMax2, gAbs, gInt, gSorted,
  List.getElem?_cons_zero, List.getElem?_cons_succ, List.getElem?_nil, List.set_cons_zero, List.set_cons_succ, List.cons_append, List.nil_append, List.append_nil, wipeE, List.any_cons, List.any_nil, isK, Bool.or_false, Bool.false_or, Bool.or_true, Bool.true_or, Bool.not_true, Bool.not_false, if_true, if_false, Bool.false_eq_true, true_and, and_true, decide_eq_true_eq, id, reduceCtorEq]
  refine ⟨r, ww, rfl, by omega, by omega, r1, fun wn h2 b1 b2 f2 r2 => ?_⟩
  simp only [sSeq, sSet, sSkip, sForget, sFor, sIf, sRet, sRetN, sDrop, sSetI, sAsg, sPar, sFldM, sAug, frzV, valE, mVar, mC, mOp, mUn, mCall, mFun, mMeth, mMake, mFld, mTst, mNotT, mNotV, mAndV, mOrV, mAndT, mOrT, mIte, mNil, mCons, mTup, mLst, mChain, mIter_ap, mIsi_ap, mRng1, mRng2, mLc, mYes, mCell, mRel, mSl, oNo, oSome,
  gN, gT, gsCons, gsNil, frz_d, frz_l, frz_k, gIx_p, onSet_p, onQ_p, onL_p, gLen_p, onIns_p, put_put, atD_0, atD_1, atD_2, atD_3, atD_4, ixN_0, ixN_1, ixN_2, ixN_3, ixN_4, List.length_cons, List.length_nil, onBl_b, onInt_i, onTup_t, on1_1, on2_2, onQ_l, onQ_t, onQ_s, onL_l, onLs_l, onLs_s, onD_d, onOpt_s, gII, gB, gAdd_i, gAdd_s, gAdd_t, gAdd_l, gMul_i, gMul_l, gMul_t, gSub, gMod, gDiv, gPow, gNeg, gIx_l, gIx_t, gIx_s, gLen_l, gLen_t, gLen_s, gLen_d, iterD_t, iterD_l, iterD_s,
  kind_i, kind_b, kind_s, kind_n, kind_t, kind_l, gIsN, isNon, gTuple, gList, gAll, gAny, gSum, gMin, gMax, gMin2, gMax2, gAbs, gInt, gSorted,
  List.getElem?_cons_zero, List.getElem?_cons_succ, List.getElem?_nil, List.set_cons_zero, List.set_cons_succ, List.cons_append, List.nil_append, List.append_nil, wipeE, List.any_cons, List.any_nil, isK, Bool.or_false, Bool.false_or, Bool.or_true, Bool.true_or, Bool.not_true, Bool.not_false, if_true, if_false, Bool.false_eq_true, true_and, and_true, decide_eq_true_eq, id, reduceCtorEq]
  refine ⟨by omega, by omega, r, dd, rfl, by omega, by omega, r2, fun dn h3 c1 c2 f3 r3 => ?_⟩
  simp only [sSeq, sSet, sSkip, sForget, sFor, sIf, sRet, sRetN, sDrop, sSetI, sAsg, sPar, sFldM, sAug, frzV, valE, mVar, mC, mOp, mUn, mCall, mFun, mMeth, mMake, mFld, mTst, mNotT, mNotV, mAndV, mOrV, mAndT, mOrT, mIte, mNil, mCons, mTup, mLst, mChain, mIter_ap, mIsi_ap, mRng1, mRng2, mLc, mYes, mCell, mRel, mSl, oNo, oSome,
  gN, gT, gsCons, gsNil, frz_d, frz_l, frz_k, gIx_p, onSet_p, onQ_p, onL_p, gLen_p, onIns_p, put_put, atD_0, atD_1, atD_2, atD_3, atD_4, ixN_0, ixN_1, ixN_2, ixN_3, ixN_4, List.length_cons, List.length_nil, onBl_b, onInt_i, onTup_t, on1_1, on2_2, onQ_l, onQ_t, onQ_s, onL_l, onLs_l, onLs_s, onD_d, onOpt_s, gII, gB, gAdd_i, gAdd_s, gAdd_t, gAdd_l, gMul_i, gMul_l, gMul_t, gSub, gMod, gDiv, gPow, gNeg, gIx_l, gIx_t, gIx_s, gLen_l, gLen_t, gLen_s, gLen_d, iterD_t, iterD_l, iterD_s,
  kind_i, kind_b, kind_s, kind_n, kind_t, kind_l, gIsN, isNon, gTuple, gList, gAll, gAny, gSum, gMin, gMax, gMin2, gMax2, gAbs, gInt, gSorted,
  List.getElem?_cons_zero, List.getElem?_cons_succ, List.getElem?_nil, List.set_cons_zero, List.set_cons_succ, List.cons_append, List.nil_append, List.append_nil, wipeE, List.any_cons, List.any_nil, isK, Bool.or_false, Bool.false_or, Bool.or_true, Bool.true_or, Bool.not_true, Bool.not_false, if_true, if_false, Bool.false_eq_true, true_and, and_true, decide_eq_true_eq, id, reduceCtorEq]
  refine ⟨by omega, ?_⟩
  obtain ⟨kn, rfl⟩ := Int.eq_ofNat_of_zero_le a1
  obtain ⟨wn, rfl⟩ := Int.eq_ofNat_of_zero_le b1
  obtain ⟨dn, rfl⟩ := Int.eq_ofNat_of_zero_le c1
  have e1 : (1 + (dn : Int)).toNat = dn + 1 := by omega
  rw [e1]
  refine for_inv (fun i E h' => ∃ rows : List (List Int), rows.length = i ∧ (∀ r ∈ rows, r.length = kn + 1) ∧ (∀ r ∈ rows, ∀ c ∈ r, 0 ≤ c ∧ c < (wn : Int) + 1) ∧ RowAt h' r ∧ (∀ b, b ≠ r → h' b = h b) ∧
      E = [some (.ref r), some (.int kk), some (.int ww), some (.int dd), some (.int (1 + kn)), some (.int (1 + wn)), some (.tup (rows.map fun r => .tup (r.map D.int))), none, none]) ⟨[], rfl, by simp, by simp, r3, fun b hb => by rw [f3 b hb, f2 b hb, f1 b hb], rfl⟩ ?_ ?_
  · rintro i d E h4 kc hi ⟨rows, li, lr, lc, rh, fr, rfl⟩ hk
    obtain ⟨hi, rfl⟩ := rng_get hi
    simp only [sSeq, sSet, sSkip, sForget, sFor, sIf, sRet, sRetN, sDrop, sSetI, sAsg, sPar, sFldM, sAug, frzV, valE, mVar, mC, mOp, mUn, mCall, mFun, mMeth, mMake, mFld, mTst, mNotT, mNotV, mAndV, mOrV, mAndT, mOrT, mIte, mNil, mCons, mTup, mLst, mChain, mIter_ap, mIsi_ap, mRng1, mRng2, mLc, mYes, mCell, mRel, mSl, oNo, oSome,
  gN, gT, gsCons, gsNil, frz_d, frz_l, frz_k, gIx_p, onSet_p, onQ_p, onL_p, gLen_p, onIns_p, put_put, atD_0, atD_1, atD_2, atD_3, atD_4, ixN_0, ixN_1, ixN_2, ixN_3, ixN_4, List.length_cons, List.length_nil, onBl_b, onInt_i, onTup_t, on1_1, on2_2, onQ_l, onQ_t, onQ_s, onL_l, onLs_l, onLs_s, onD_d, onOpt_s, gII, gB, gAdd_i, gAdd_s, gAdd_t, gAdd_l, gMul_i, gMul_l, gMul_t, gSub, gMod, gDiv, gPow, gNeg, gIx_l, gIx_t, gIx_s, gLen_l, gLen_t, gLen_s, gLen_d, iterD_t, iterD_l, iterD_s,
  kind_i, kind_b, kind_s, kind_n, kind_t, kind_l, gIsN, isNon, gTuple, gList, gAll, gAny, gSum, gMin, gMax, gMin2, gMax2, gAbs, gInt, gSorted,
  List.getElem?_cons_zero, List.getElem?_cons_succ, List.getElem?_nil, List.set_cons_zero, List.set_cons_succ, List.cons_append, List.nil_append, List.append_nil, wipeE, List.any_cons, List.any_nil, isK, Bool.or_false, Bool.false_or, Bool.or_true, Bool.true_or, Bool.not_true, Bool.not_false, if_true, if_false, Bool.false_eq_true, true_and, and_true, decide_eq_true_eq, id, reduceCtorEq]
    refine ⟨by omega, ?_⟩
    have e2 : (1 + (kn : Int)).toNat = kn + 1 := by omega
    rw [e2]
    refine lc_inv (fun j acc h' => ∃ cs : List Int, acc = cs.map D.int ∧ cs.length = j ∧ (∀ c ∈ cs, 0 ≤ c ∧ c < (wn : Int) + 1) ∧ RowAt h' r ∧ (∀ b, b ≠ r → h' b = h b)) ⟨[], rfl, rfl, by simp, rh, fr⟩ ?_ ?_
    · rintro j d acc h5 kc2 hj ⟨cs, rfl, lj, cb, rh5, fr5⟩ hk2
      obtain ⟨hj, rfl⟩ := rng_get hj
      simp only [sSeq, sSet, sSkip, sForget, sFor, sIf, sRet, sRetN, sDrop, sSetI, sAsg, sPar, sFldM, sAug, frzV, valE, mVar, mC, mOp, mUn, mCall, mFun, mMeth, mMake, mFld, mTst, mNotT, mNotV, mAndV, mOrV, mAndT, mOrT, mIte, mNil, mCons, mTup, mLst, mChain, mIter_ap, mIsi_ap, mRng1, mRng2, mLc, mYes, mCell, mRel, mSl, oNo, oSome,
  gN, gT, gsCons, gsNil, frz_d, frz_l, frz_k, gIx_p, onSet_p, onQ_p, onL_p, gLen_p, onIns_p, put_put, atD_0, atD_1, atD_2, atD_3, atD_4, ixN_0, ixN_1, ixN_2, ixN_3, ixN_4, List.length_cons, List.length_nil, onBl_b, onInt_i, onTup_t, on1_1, on2_2, onQ_l, onQ_t, onQ_s, onL_l, onLs_l, onLs_s, onD_d, onOpt_s, gII, gB, gAdd_i, gAdd_s, gAdd_t, gAdd_l, gMul_i, gMul_l, gMul_t, gSub, gMod, gDiv, gPow, gNeg, gIx_l, gIx_t, gIx_s, gLen_l, gLen_t, gLen_s, gLen_d, iterD_t, iterD_l, iterD_s,
  kind_i, kind_b, kind_s, kind_n, kind_t, kind_l, gIsN, isNon, gTuple, gList, gAll, gAny, gSum, gMin, gMax, gMin2, gMax2, gAbs, gInt, gSorted,
  List.getElem?_cons_zero, List.getElem?_cons_succ, List.getElem?_nil, List.set_cons_zero, List.set_cons_succ, List.cons_append, List.nil_append, List.append_nil, wipeE, List.any_cons, List.any_nil, isK, Bool.or_false, Bool.false_or, Bool.or_true, Bool.true_or, Bool.not_true, Bool.not_false, if_true, if_false, Bool.false_eq_true, true_and, and_true, decide_eq_true_eq, id, reduceCtorEq]
      refine ⟨r, 1 + wn, rfl, by omega, by omega, rh5, fun v h6 v1 v2 f6 r6 => ⟨by simp only [List.length_map]; omega, hk2 _ _ ⟨cs ++ [v], by simp [RV.frz], by simp [lj], ?_, r6, fun b hb => by rw [f6 b hb, fr5 b hb]⟩⟩⟩
      intro c hc
      rcases List.mem_append.mp hc with hc | hc
      · exact cb c hc
      · simp at hc
        omega
    · rintro acc h5 ⟨cs, rfl, lj, cb, rh5, fr5⟩
      rw [rng_len] at lj
      have e5 : rows.length < dn + 1 := by omega
      refine ⟨by omega, by simp; omega, hk _ _ ⟨rows ++ [cs], by simp [li], ?_, ?_, rh5, fr5, by simp⟩⟩
      · intro c hc
        rcases List.mem_append.mp hc with hc | hc
        · exact lr c hc
        · simp at hc
          rw [hc]
          omega
      · intro c hc
        rcases List.mem_append.mp hc with hc | hc
        · exact lc c hc
        · simp at hc
          rw [hc]
          exact cb
  · rintro E h4 ⟨rows, li, lr, lc, rh, fr, rfl⟩
    rw [rng_len] at li
    simp only [sSeq, sSet, sSkip, sForget, sFor, sIf, sRet, sRetN, sDrop, sSetI, sAsg, sPar, sFldM, sAug, frzV, valE, mVar, mC, mOp, mUn, mCall, mFun, mMeth, mMake, mFld, mTst, mNotT, mNotV, mAndV, mOrV, mAndT, mOrT, mIte, mNil, mCons, mTup, mLst, mChain, mIter_ap, mIsi_ap, mRng1, mRng2, mLc, mYes, mCell, mRel, mSl, oNo, oSome,
  gN, gT, gsCons, gsNil, frz_d, frz_l, frz_k, gIx_p, onSet_p, onQ_p, onL_p, gLen_p, onIns_p, put_put, atD_0, atD_1, atD_2, atD_3, atD_4, ixN_0, ixN_1, ixN_2, ixN_3, ixN_4, List.length_cons, List.length_nil, onBl_b, onInt_i, onTup_t, on1_1, on2_2, onQ_l, onQ_t, onQ_s, onL_l, onLs_l, onLs_s, onD_d, onOpt_s, gII, gB, gAdd_i, gAdd_s, gAdd_t, gAdd_l, gMul_i, gMul_l, gMul_t, gSub, gMod, gDiv, gPow, gNeg, gIx_l, gIx_t, gIx_s, gLen_l, gLen_t, gLen_s, gLen_d, iterD_t, iterD_l, iterD_s,
  kind_i, kind_b, kind_s, kind_n, kind_t, kind_l, gIsN, isNon, gTuple, gList, gAll, gAny, gSum, gMin, gMax, gMin2, gMax2, gAbs, gInt, gSorted,
  List.getElem?_cons_zero, List.getElem?_cons_succ, List.getElem?_nil, List.set_cons_zero, List.set_cons_succ, List.cons_append, List.nil_append, List.append_nil, wipeE, List.any_cons, List.any_nil, isK, Bool.or_false, Bool.false_or, Bool.or_true, Bool.true_or, Bool.not_true, Bool.not_false, if_true, if_false, Bool.false_eq_true, true_and, and_true, decide_eq_true_eq, id, reduceCtorEq]
    have e3 : (1 + (kn : Int)) = ((kn + 1 : Nat) : Int) := by omega
    have e4 : (1 + (wn : Int)) = ((wn + 1 : Nat) : Int) := by omega
    rw [e3, e4]
    refine ⟨by omega, bodyN_rt0 (k ⟨kn + 1, wn + 1, rows⟩ h4 ⟨by show 1 ≤ kn + 1; omega, by show kn + 1 ≤ 16; omega, by show 1 ≤ wn + 1; omega, by show wn + 1 ≤ 32; omega, by show 1 ≤ rows.length; omega, by show rows.length ≤ 5; omega, lr, fun r hr c hc => by have := lc r hr c hc; show 0 ≤ c ∧ c < ((wn + 1 : Nat) : Int); omega⟩ ?_ ?_ ?_ fr rh)⟩
    · show ((kn + 1 : Nat) : Int) ≤ kk; omega
    · show ((wn + 1 : Nat) : Int) ≤ ww; omega
    · show (rows.length : Int) ≤ dd; omega

theorem rd_need_plan {a : Ad} (ds : List D) (h : MH) (Kn : RV → MH → Prop) (Kx : XKm) (q : sp_need_plan a ds h Kn Kx) : t_need_plan a (bodyN Kn Kx) (startE ["plan", "keys", "wide", "rows", "number", "row", "cell"] ds) h := by
  obtain ⟨p, rfl, ok, k⟩ := q
  show t_need_plan a (bodyN Kn Kx) [some (planD p), none, none, none, none, none, none] h
  have big := line_big
  obtain ⟨k1, k2, w1, w2, r1, r2, len, cell⟩ := ok
  unfold t_need_plan planD
  simp only [sSeq, sSet, sSkip, sForget, sFor, sIf, sRet, sRetN, sDrop, sSetI, sAsg, sPar, sFldM, sAug, frzV, valE, mVar, mC, mOp, mUn, mCall, mFun, mMeth, mMake, mFld, mTst, mNotT, mNotV, mAndV, mOrV, mAndT, mOrT, mIte, mNil, mCons, mTup, mLst, mChain, mIter_ap, mIsi_ap, mRng1, mRng2, mLc, mYes, mCell, mRel, mSl, oNo, oSome,
  gN, gT, gsCons, gsNil, frz_d, frz_l, frz_k, gIx_p, onSet_p, onQ_p, onL_p, gLen_p, onIns_p, put_put, atD_0, atD_1, atD_2, atD_3, atD_4, ixN_0, ixN_1, ixN_2, ixN_3, ixN_4, List.length_cons, List.length_nil, onBl_b, onInt_i, onTup_t, on1_1, on2_2, onQ_l, onQ_t, onQ_s, onL_l, onLs_l, onLs_s, onD_d, onOpt_s, gII, gB, gAdd_i, gAdd_s, gAdd_t, gAdd_l, gMul_i, gMul_l, gMul_t, gSub, gMod, gDiv, gPow, gNeg, gIx_l, gIx_t, gIx_s, gLen_l, gLen_t, gLen_s, gLen_d, iterD_t, iterD_l, iterD_s,
  kind_i, kind_b, kind_s, kind_n, kind_t, kind_l, gIsN, isNon, gTuple, gList, gAll, gAny, gSum, gMin, gMax, gMin2, gMax2, gAbs, gInt, gSorted,
  List.getElem?_cons_zero, List.getElem?_cons_succ, List.getElem?_nil, List.set_cons_zero, List.set_cons_succ, List.cons_append, List.nil_append, List.append_nil, wipeE, List.any_cons, List.any_nil, isK, Bool.or_false, Bool.false_or, Bool.or_true, Bool.true_or, Bool.not_true, Bool.not_false, if_true, if_false, Bool.false_eq_true, true_and, and_true, decide_eq_true_eq, id, reduceCtorEq, gEq_i, gNe_i, gEq_b, gNe_b, gEq_li, gNe_li, gEq_l0, gNe_l0, gEq_00, gNe_00, gEq_ti, gNe_ti, mEnum, Nat.zero_add, Nat.reduceAdd, Int.reduceEq, Int.cast_ofNat_Int, Nat.zero_le, sz1, sz2, sz3, sz4, sz5, sz6, decide_true, decide_false]
  refine is_num (by omega) (by omega) ?_
  simp only [sSeq, sSet, sSkip, sForget, sFor, sIf, sRet, sRetN, sDrop, sSetI, sAsg, sPar, sFldM, sAug, frzV, valE, mVar, mC, mOp, mUn, mCall, mFun, mMeth, mMake, mFld, mTst, mNotT, mNotV, mAndV, mOrV, mAndT, mOrT, mIte, mNil, mCons, mTup, mLst, mChain, mIter_ap, mIsi_ap, mRng1, mRng2, mLc, mYes, mCell, mRel, mSl, oNo, oSome,
  gN, gT, gsCons, gsNil, frz_d, frz_l, frz_k, gIx_p, onSet_p, onQ_p, onL_p, gLen_p, onIns_p, put_put, atD_0, atD_1, atD_2, atD_3, atD_4, ixN_0, ixN_1, ixN_2, ixN_3, ixN_4, List.length_cons, List.length_nil, onBl_b, onInt_i, onTup_t, on1_1, on2_2, onQ_l, onQ_t, onQ_s, onL_l, onLs_l, onLs_s, onD_d, onOpt_s, gII, gB, gAdd_i, gAdd_s, gAdd_t, gAdd_l, gMul_i, gMul_l, gMul_t, gSub, gMod, gDiv, gPow, gNeg, gIx_l, gIx_t, gIx_s, gLen_l, gLen_t, gLen_s, gLen_d, iterD_t, iterD_l, iterD_s,
  kind_i, kind_b, kind_s, kind_n, kind_t, kind_l, gIsN, isNon, gTuple, gList, gAll, gAny, gSum, gMin, gMax, gMin2, gMax2, gAbs, gInt, gSorted,
  List.getElem?_cons_zero, List.getElem?_cons_succ, List.getElem?_nil, List.set_cons_zero, List.set_cons_succ, List.cons_append, List.nil_append, List.append_nil, wipeE, List.any_cons, List.any_nil, isK, Bool.or_false, Bool.false_or, Bool.or_true, Bool.true_or, Bool.not_true, Bool.not_false, if_true, if_false, Bool.false_eq_true, true_and, and_true, decide_eq_true_eq, id, reduceCtorEq, gEq_i, gNe_i, gEq_b, gNe_b, gEq_li, gNe_li, gEq_l0, gNe_l0, gEq_00, gNe_00, gEq_ti, gNe_ti, mEnum, Nat.zero_add, Nat.reduceAdd, Int.reduceEq, Int.cast_ofNat_Int, Nat.zero_le, sz1, sz2, sz3, sz4, sz5, sz6, decide_true, decide_false]
  refine is_num (by omega) (by omega) ?_
  simp only [sSeq, sSet, sSkip, sForget, sFor, sIf, sRet, sRetN, sDrop, sSetI, sAsg, sPar, sFldM, sAug, frzV, valE, mVar, mC, mOp, mUn, mCall, mFun, mMeth, mMake, mFld, mTst, mNotT, mNotV, mAndV, mOrV, mAndT, mOrT, mIte, mNil, mCons, mTup, mLst, mChain, mIter_ap, mIsi_ap, mRng1, mRng2, mLc, mYes, mCell, mRel, mSl, oNo, oSome,
  gN, gT, gsCons, gsNil, frz_d, frz_l, frz_k, gIx_p, onSet_p, onQ_p, onL_p, gLen_p, onIns_p, put_put, atD_0, atD_1, atD_2, atD_3, atD_4, ixN_0, ixN_1, ixN_2, ixN_3, ixN_4, List.length_cons, List.length_nil, onBl_b, onInt_i, onTup_t, on1_1, on2_2, onQ_l, onQ_t, onQ_s, onL_l, onLs_l, onLs_s, onD_d, onOpt_s, gII, gB, gAdd_i, gAdd_s, gAdd_t, gAdd_l, gMul_i, gMul_l, gMul_t, gSub, gMod, gDiv, gPow, gNeg, gIx_l, gIx_t, gIx_s, gLen_l, gLen_t, gLen_s, gLen_d, iterD_t, iterD_l, iterD_s,
  kind_i, kind_b, kind_s, kind_n, kind_t, kind_l, gIsN, isNon, gTuple, gList, gAll, gAny, gSum, gMin, gMax, gMin2, gMax2, gAbs, gInt, gSorted,
  List.getElem?_cons_zero, List.getElem?_cons_succ, List.getElem?_nil, List.set_cons_zero, List.set_cons_succ, List.cons_append, List.nil_append, List.append_nil, wipeE, List.any_cons, List.any_nil, isK, Bool.or_false, Bool.false_or, Bool.or_true, Bool.true_or, Bool.not_true, Bool.not_false, if_true, if_false, Bool.false_eq_true, true_and, and_true, decide_eq_true_eq, id, reduceCtorEq, gEq_i, gNe_i, gEq_b, gNe_b, gEq_li, gNe_li, gEq_l0, gNe_l0, gEq_00, gNe_00, gEq_ti, gNe_ti, mEnum, Nat.zero_add, Nat.reduceAdd, Int.reduceEq, Int.cast_ofNat_Int, Nat.zero_le, sz1, sz2, sz3, sz4, sz5, sz6, decide_true, decide_false, gEq_t0 eqOk_rows]
  have e0 : (p.rows.map fun r => D.tup (r.map D.int)).isEmpty = false := by
    rw [List.isEmpty_map]
    cases e : p.rows with
    | nil => rw [e] at r1; simp at r1
    | cons _ _ => rfl
  rw [e0]
  simp only [sSeq, sSet, sSkip, sForget, sFor, sIf, sRet, sRetN, sDrop, sSetI, sAsg, sPar, sFldM, sAug, frzV, valE, mVar, mC, mOp, mUn, mCall, mFun, mMeth, mMake, mFld, mTst, mNotT, mNotV, mAndV, mOrV, mAndT, mOrT, mIte, mNil, mCons, mTup, mLst, mChain, mIter_ap, mIsi_ap, mRng1, mRng2, mLc, mYes, mCell, mRel, mSl, oNo, oSome,
  gN, gT, gsCons, gsNil, frz_d, frz_l, frz_k, gIx_p, onSet_p, onQ_p, onL_p, gLen_p, onIns_p, put_put, atD_0, atD_1, atD_2, atD_3, atD_4, ixN_0, ixN_1, ixN_2, ixN_3, ixN_4, List.length_cons, List.length_nil, onBl_b, onInt_i, onTup_t, on1_1, on2_2, onQ_l, onQ_t, onQ_s, onL_l, onLs_l, onLs_s, onD_d, onOpt_s, gII, gB, gAdd_i, gAdd_s, gAdd_t, gAdd_l, gMul_i, gMul_l, gMul_t, gSub, gMod, gDiv, gPow, gNeg, gIx_l, gIx_t, gIx_s, gLen_l, gLen_t, gLen_s, gLen_d, iterD_t, iterD_l, iterD_s,
  kind_i, kind_b, kind_s, kind_n, kind_t, kind_l, gIsN, isNon, gTuple, gList, gAll, gAny, gSum, gMin, gMax, gMin2, gMax2, gAbs, gInt, gSorted,
  List.getElem?_cons_zero, List.getElem?_cons_succ, List.getElem?_nil, List.set_cons_zero, List.set_cons_succ, List.cons_append, List.nil_append, List.append_nil, wipeE, List.any_cons, List.any_nil, isK, Bool.or_false, Bool.false_or, Bool.or_true, Bool.true_or, Bool.not_true, Bool.not_false, if_true, if_false, Bool.false_eq_true, true_and, and_true, decide_eq_true_eq, id, reduceCtorEq, gEq_i, gNe_i, gEq_b, gNe_b, gEq_li, gNe_li, gEq_l0, gNe_l0, gEq_00, gNe_00, gEq_ti, gNe_ti, mEnum, Nat.zero_add, Nat.reduceAdd, Int.reduceEq, Int.cast_ofNat_Int, Nat.zero_le, sz1, sz2, sz3, sz4, sz5, sz6, decide_true, decide_false]
  refine for_inv (fun i E h' => h' = h ∧ E = [some (planD p), some (.int p.k), some (.int p.w), some (.tup (p.rows.map fun r => .tup (r.map D.int))), none, none, none]) ⟨rfl, rfl⟩ ?_ ?_
  · rintro i d E h2 kc hi ⟨rfl, rfl⟩ hk
    obtain ⟨x, hx, rfl⟩ := enum_get hi
    rw [List.getElem?_map] at hx
    cases er : p.rows[i]? with
    | none => rw [er] at hx; cases hx
    | some row =>
      rw [er] at hx
      obtain rfl := Option.some.inj hx
      obtain ⟨il, e⟩ := List.getElem?_eq_some_iff.mp er
      have mr : row ∈ p.rows := e ▸ List.getElem_mem il
      have l5 : ¬ ((i : Int) = 5) := by omega
      have lk : ((row.length : Nat) : Int) = p.k := by rw [len row mr]
      simp only [sSeq, sSet, sSkip, sForget, sFor, sIf, sRet, sRetN, sDrop, sSetI, sAsg, sPar, sFldM, sAug, frzV, valE, mVar, mC, mOp, mUn, mCall, mFun, mMeth, mMake, mFld, mTst, mNotT, mNotV, mAndV, mOrV, mAndT, mOrT, mIte, mNil, mCons, mTup, mLst, mChain, mIter_ap, mIsi_ap, mRng1, mRng2, mLc, mYes, mCell, mRel, mSl, oNo, oSome,
  gN, gT, gsCons, gsNil, frz_d, frz_l, frz_k, gIx_p, onSet_p, onQ_p, onL_p, gLen_p, onIns_p, put_put, atD_0, atD_1, atD_2, atD_3, atD_4, ixN_0, ixN_1, ixN_2, ixN_3, ixN_4, List.length_cons, List.length_nil, onBl_b, onInt_i, onTup_t, on1_1, on2_2, onQ_l, onQ_t, onQ_s, onL_l, onLs_l, onLs_s, onD_d, onOpt_s, gII, gB, gAdd_i, gAdd_s, gAdd_t, gAdd_l, gMul_i, gMul_l, gMul_t, gSub, gMod, gDiv, gPow, gNeg, gIx_l, gIx_t, gIx_s, gLen_l, gLen_t, gLen_s, gLen_d, iterD_t, iterD_l, iterD_s,
  kind_i, kind_b, kind_s, kind_n, kind_t, kind_l, gIsN, isNon, gTuple, gList, gAll, gAny, gSum, gMin, gMax, gMin2, gMax2, gAbs, gInt, gSorted,
  List.getElem?_cons_zero, List.getElem?_cons_succ, List.getElem?_nil, List.set_cons_zero, List.set_cons_succ, List.cons_append, List.nil_append, List.append_nil, wipeE, List.any_cons, List.any_nil, isK, Bool.or_false, Bool.false_or, Bool.or_true, Bool.true_or, Bool.not_true, Bool.not_false, if_true, if_false, Bool.false_eq_true, true_and, and_true, decide_eq_true_eq, id, reduceCtorEq, gEq_i, gNe_i, gEq_b, gNe_b, gEq_li, gNe_li, gEq_l0, gNe_l0, gEq_00, gNe_00, gEq_ti, gNe_ti, mEnum, Nat.zero_add, Nat.reduceAdd, Int.reduceEq, Int.cast_ofNat_Int, Nat.zero_le, sz1, sz2, sz3, sz4, sz5, sz6, decide_true, decide_false, l5, List.length_map, lk]
      refine lc_map (fun _ => .bl true) (by rw [List.length_map, len row mr]; omega) ?_ ?_
      · intro d hd acc kc2 ha q
        obtain ⟨c, hc, rfl⟩ := List.mem_map.mp hd
        have hcc := cell row mr c hc
        simp only [sSeq, sSet, sSkip, sForget, sFor, sIf, sRet, sRetN, sDrop, sSetI, sAsg, sPar, sFldM, sAug, frzV, valE, mVar, mC, mOp, mUn, mCall, mFun, mMeth, mMake, mFld, mTst, mNotT, mNotV, mAndV, mOrV, mAndT, mOrT, mIte, mNil, mCons, mTup, mLst, mChain, mIter_ap, mIsi_ap, mRng1, mRng2, mLc, mYes, mCell, mRel, mSl, oNo, oSome,
  gN, gT, gsCons, gsNil, frz_d, frz_l, frz_k, gIx_p, onSet_p, onQ_p, onL_p, gLen_p, onIns_p, put_put, atD_0, atD_1, atD_2, atD_3, atD_4, ixN_0, ixN_1, ixN_2, ixN_3, ixN_4, List.length_cons, List.length_nil, onBl_b, onInt_i, onTup_t, on1_1, on2_2, onQ_l, onQ_t, onQ_s, onL_l, onLs_l, onLs_s, onD_d, onOpt_s, gII, gB, gAdd_i, gAdd_s, gAdd_t, gAdd_l, gMul_i, gMul_l, gMul_t, gSub, gMod, gDiv, gPow, gNeg, gIx_l, gIx_t, gIx_s, gLen_l, gLen_t, gLen_s, gLen_d, iterD_t, iterD_l, iterD_s,
  kind_i, kind_b, kind_s, kind_n, kind_t, kind_l, gIsN, isNon, gTuple, gList, gAll, gAny, gSum, gMin, gMax, gMin2, gMax2, gAbs, gInt, gSorted,
  List.getElem?_cons_zero, List.getElem?_cons_succ, List.getElem?_nil, List.set_cons_zero, List.set_cons_succ, List.cons_append, List.nil_append, List.append_nil, wipeE, List.any_cons, List.any_nil, isK, Bool.or_false, Bool.false_or, Bool.or_true, Bool.true_or, Bool.not_true, Bool.not_false, if_true, if_false, Bool.false_eq_true, true_and, and_true, decide_eq_true_eq, id, reduceCtorEq, gEq_i, gNe_i, gEq_b, gNe_b, gEq_li, gNe_li, gEq_l0, gNe_l0, gEq_00, gNe_00, gEq_ti, gNe_ti, mEnum, Nat.zero_add, Nat.reduceAdd, Int.reduceEq, Int.cast_ofNat_Int, Nat.zero_le, sz1, sz2, sz3, sz4, sz5, sz6, decide_true, decide_false]
        refine is_num (by omega) (by omega) ⟨ha, q⟩
      · have e1 : (row.map D.int).map (fun _ => D.bl true) = (List.replicate row.length true).map D.bl := by
          rw [List.map_map, List.map_replicate]
          exact List.map_const' ..
        rw [e1]
        simp only [sSeq, sSet, sSkip, sForget, sFor, sIf, sRet, sRetN, sDrop, sSetI, sAsg, sPar, sFldM, sAug, frzV, valE, mVar, mC, mOp, mUn, mCall, mFun, mMeth, mMake, mFld, mTst, mNotT, mNotV, mAndV, mOrV, mAndT, mOrT, mIte, mNil, mCons, mTup, mLst, mChain, mIter_ap, mIsi_ap, mRng1, mRng2, mLc, mYes, mCell, mRel, mSl, oNo, oSome,
  gN, gT, gsCons, gsNil, frz_d, frz_l, frz_k, gIx_p, onSet_p, onQ_p, onL_p, gLen_p, onIns_p, put_put, atD_0, atD_1, atD_2, atD_3, atD_4, ixN_0, ixN_1, ixN_2, ixN_3, ixN_4, List.length_cons, List.length_nil, onBl_b, onInt_i, onTup_t, on1_1, on2_2, onQ_l, onQ_t, onQ_s, onL_l, onLs_l, onLs_s, onD_d, onOpt_s, gII, gB, gAdd_i, gAdd_s, gAdd_t, gAdd_l, gMul_i, gMul_l, gMul_t, gSub, gMod, gDiv, gPow, gNeg, gIx_l, gIx_t, gIx_s, gLen_l, gLen_t, gLen_s, gLen_d, iterD_t, iterD_l, iterD_s,
  kind_i, kind_b, kind_s, kind_n, kind_t, kind_l, gIsN, isNon, gTuple, gList, gAll, gAny, gSum, gMin, gMax, gMin2, gMax2, gAbs, gInt, gSorted,
  List.getElem?_cons_zero, List.getElem?_cons_succ, List.getElem?_nil, List.set_cons_zero, List.set_cons_succ, List.cons_append, List.nil_append, List.append_nil, wipeE, List.any_cons, List.any_nil, isK, Bool.or_false, Bool.false_or, Bool.or_true, Bool.true_or, Bool.not_true, Bool.not_false, if_true, if_false, Bool.false_eq_true, true_and, and_true, decide_eq_true_eq, id, reduceCtorEq, gEq_i, gNe_i, gEq_b, gNe_b, gEq_li, gNe_li, gEq_l0, gNe_l0, gEq_00, gNe_00, gEq_ti, gNe_ti, mEnum, Nat.zero_add, Nat.reduceAdd, Int.reduceEq, Int.cast_ofNat_Int, Nat.zero_le, sz1, sz2, sz3, sz4, sz5, sz6, decide_true, decide_false, onBls_map]
        have e2 : (List.replicate row.length true).all id = true := by simp
        rw [e2]
        simp only [sSeq, sSet, sSkip, sForget, sFor, sIf, sRet, sRetN, sDrop, sSetI, sAsg, sPar, sFldM, sAug, frzV, valE, mVar, mC, mOp, mUn, mCall, mFun, mMeth, mMake, mFld, mTst, mNotT, mNotV, mAndV, mOrV, mAndT, mOrT, mIte, mNil, mCons, mTup, mLst, mChain, mIter_ap, mIsi_ap, mRng1, mRng2, mLc, mYes, mCell, mRel, mSl, oNo, oSome,
  gN, gT, gsCons, gsNil, frz_d, frz_l, frz_k, gIx_p, onSet_p, onQ_p, onL_p, gLen_p, onIns_p, put_put, atD_0, atD_1, atD_2, atD_3, atD_4, ixN_0, ixN_1, ixN_2, ixN_3, ixN_4, List.length_cons, List.length_nil, onBl_b, onInt_i, onTup_t, on1_1, on2_2, onQ_l, onQ_t, onQ_s, onL_l, onLs_l, onLs_s, onD_d, onOpt_s, gII, gB, gAdd_i, gAdd_s, gAdd_t, gAdd_l, gMul_i, gMul_l, gMul_t, gSub, gMod, gDiv, gPow, gNeg, gIx_l, gIx_t, gIx_s, gLen_l, gLen_t, gLen_s, gLen_d, iterD_t, iterD_l, iterD_s,
  kind_i, kind_b, kind_s, kind_n, kind_t, kind_l, gIsN, isNon, gTuple, gList, gAll, gAny, gSum, gMin, gMax, gMin2, gMax2, gAbs, gInt, gSorted,
  List.getElem?_cons_zero, List.getElem?_cons_succ, List.getElem?_nil, List.set_cons_zero, List.set_cons_succ, List.cons_append, List.nil_append, List.append_nil, wipeE, List.any_cons, List.any_nil, isK, Bool.or_false, Bool.false_or, Bool.or_true, Bool.true_or, Bool.not_true, Bool.not_false, if_true, if_false, Bool.false_eq_true, true_and, and_true, decide_eq_true_eq, id, reduceCtorEq, gEq_i, gNe_i, gEq_b, gNe_b, gEq_li, gNe_li, gEq_l0, gNe_l0, gEq_00, gNe_00, gEq_ti, gNe_ti, mEnum, Nat.zero_add, Nat.reduceAdd, Int.reduceEq, Int.cast_ofNat_Int, Nat.zero_le, sz1, sz2, sz3, sz4, sz5, sz6, decide_true, decide_false]
        exact hk _ _ ⟨rfl, rfl⟩
  · rintro E h2 ⟨rfl, rfl⟩
    simp only [sSeq, sSet, sSkip, sForget, sFor, sIf, sRet, sRetN, sDrop, sSetI, sAsg, sPar, sFldM, sAug, frzV, valE, mVar, mC, mOp, mUn, mCall, mFun, mMeth, mMake, mFld, mTst, mNotT, mNotV, mAndV, mOrV, mAndT, mOrT, mIte, mNil, mCons, mTup, mLst, mChain, mIter_ap, mIsi_ap, mRng1, mRng2, mLc, mYes, mCell, mRel, mSl, oNo, oSome,
  gN, gT, gsCons, gsNil, frz_d, frz_l, frz_k, gIx_p, onSet_p, onQ_p, onL_p, gLen_p, onIns_p, put_put, atD_0, atD_1, atD_2, atD_3, atD_4, ixN_0, ixN_1, ixN_2, ixN_3, ixN_4, List.length_cons, List.length_nil, onBl_b, onInt_i, onTup_t, on1_1, on2_2, onQ_l, onQ_t, onQ_s, onL_l, onLs_l, onLs_s, onD_d, onOpt_s, gII, gB, gAdd_i, gAdd_s, gAdd_t, gAdd_l, gMul_i, gMul_l, gMul_t, gSub, gMod, gDiv, gPow, gNeg, gIx_l, gIx_t, gIx_s, gLen_l, gLen_t, gLen_s, gLen_d, iterD_t, iterD_l, iterD_s,
  kind_i, kind_b, kind_s, kind_n, kind_t, kind_l, gIsN, isNon, gTuple, gList, gAll, gAny, gSum, gMin, gMax, gMin2, gMax2, gAbs, gInt, gSorted,
  List.getElem?_cons_zero, List.getElem?_cons_succ, List.getElem?_nil, List.set_cons_zero, List.set_cons_succ, List.cons_append, List.nil_append, List.append_nil, wipeE, List.any_cons, List.any_nil, isK, Bool.or_false, Bool.false_or, Bool.or_true, Bool.true_or, Bool.not_true, Bool.not_false, if_true, if_false, Bool.false_eq_true, true_and, and_true, decide_eq_true_eq, id, reduceCtorEq, gEq_i, gNe_i, gEq_b, gNe_b, gEq_li, gNe_li, gEq_l0, gNe_l0, gEq_00, gNe_00, gEq_ti, gNe_ti, mEnum, Nat.zero_add, Nat.reduceAdd, Int.reduceEq, Int.cast_ofNat_Int, Nat.zero_le, sz1, sz2, sz3, sz4, sz5, sz6, decide_true, decide_false]
    exact bodyN_nx0 k
theorem rd_need_key {a : Ad} (ds : List D) (h : MH) (Kn : RV → MH → Prop) (Kx : XKm) (q : sp_need_key a ds h Kn Kx) : t_need_key a (bodyN Kn Kx) (startE ["plan", "key"] ds) h := by
  obtain ⟨p, k, rfl, ok, hk, kk⟩ := q
  show t_need_key a (bodyN Kn Kx) [some (planD p), some (.int k)] h
  unfold t_need_key planD
  simp only [sSeq, sSet, sSkip, sForget, sFor, sIf, sRet, sRetN, sDrop, sSetI, sAsg, sPar, sFldM, sAug, frzV, valE, mVar, mC, mOp, mUn, mCall, mFun, mMeth, mMake, mFld, mTst, mNotT, mNotV, mAndV, mOrV, mAndT, mOrT, mIte, mNil, mCons, mTup, mLst, mChain, mIter_ap, mIsi_ap, mRng1, mRng2, mLc, mYes, mCell, mRel, mSl, oNo, oSome,
  gN, gT, gsCons, gsNil, frz_d, frz_l, frz_k, gIx_p, onSet_p, onQ_p, onL_p, gLen_p, onIns_p, put_put, atD_0, atD_1, atD_2, atD_3, atD_4, ixN_0, ixN_1, ixN_2, ixN_3, ixN_4, List.length_cons, List.length_nil, onBl_b, onInt_i, onTup_t, on1_1, on2_2, onQ_l, onQ_t, onQ_s, onL_l, onLs_l, onLs_s, onD_d, onOpt_s, gII, gB, gAdd_i, gAdd_s, gAdd_t, gAdd_l, gMul_i, gMul_l, gMul_t, gSub, gMod, gDiv, gPow, gNeg, gIx_l, gIx_t, gIx_s, gLen_l, gLen_t, gLen_s, gLen_d, iterD_t, iterD_l, iterD_s,
  kind_i, kind_b, kind_s, kind_n, kind_t, kind_l, gIsN, isNon, gTuple, gList, gAll, gAny, gSum, gMin, gMax, gMin2, gMax2, gAbs, gInt, gSorted,
  List.getElem?_cons_zero, List.getElem?_cons_succ, List.getElem?_nil, List.set_cons_zero, List.set_cons_succ, List.cons_append, List.nil_append, List.append_nil, wipeE, List.any_cons, List.any_nil, isK, Bool.or_false, Bool.false_or, Bool.or_true, Bool.true_or, Bool.not_true, Bool.not_false, if_true, if_false, Bool.false_eq_true, true_and, and_true, decide_eq_true_eq, id, reduceCtorEq, gEq_i, gNe_i, gEq_b, gNe_b, gEq_li, gNe_li, gEq_l0, gNe_l0, gEq_00, gNe_00, gEq_ti, gNe_ti, mEnum, Nat.zero_add, Nat.reduceAdd, Int.reduceEq, Int.cast_ofNat_Int, Nat.zero_le, sz1, sz2, sz3, sz4, sz5, sz6, decide_true, decide_false]
  refine is_num (by omega) (by omega) ?_
  simp only [sSeq, sSet, sSkip, sForget, sFor, sIf, sRet, sRetN, sDrop, sSetI, sAsg, sPar, sFldM, sAug, frzV, valE, mVar, mC, mOp, mUn, mCall, mFun, mMeth, mMake, mFld, mTst, mNotT, mNotV, mAndV, mOrV, mAndT, mOrT, mIte, mNil, mCons, mTup, mLst, mChain, mIter_ap, mIsi_ap, mRng1, mRng2, mLc, mYes, mCell, mRel, mSl, oNo, oSome,
  gN, gT, gsCons, gsNil, frz_d, frz_l, frz_k, gIx_p, onSet_p, onQ_p, onL_p, gLen_p, onIns_p, put_put, atD_0, atD_1, atD_2, atD_3, atD_4, ixN_0, ixN_1, ixN_2, ixN_3, ixN_4, List.length_cons, List.length_nil, onBl_b, onInt_i, onTup_t, on1_1, on2_2, onQ_l, onQ_t, onQ_s, onL_l, onLs_l, onLs_s, onD_d, onOpt_s, gII, gB, gAdd_i, gAdd_s, gAdd_t, gAdd_l, gMul_i, gMul_l, gMul_t, gSub, gMod, gDiv, gPow, gNeg, gIx_l, gIx_t, gIx_s, gLen_l, gLen_t, gLen_s, gLen_d, iterD_t, iterD_l, iterD_s,
  kind_i, kind_b, kind_s, kind_n, kind_t, kind_l, gIsN, isNon, gTuple, gList, gAll, gAny, gSum, gMin, gMax, gMin2, gMax2, gAbs, gInt, gSorted,
  List.getElem?_cons_zero, List.getElem?_cons_succ, List.getElem?_nil, List.set_cons_zero, List.set_cons_succ, List.cons_append, List.nil_append, List.append_nil, wipeE, List.any_cons, List.any_nil, isK, Bool.or_false, Bool.false_or, Bool.or_true, Bool.true_or, Bool.not_true, Bool.not_false, if_true, if_false, Bool.false_eq_true, true_and, and_true, decide_eq_true_eq, id, reduceCtorEq, gEq_i, gNe_i, gEq_b, gNe_b, gEq_li, gNe_li, gEq_l0, gNe_l0, gEq_00, gNe_00, gEq_ti, gNe_ti, mEnum, Nat.zero_add, Nat.reduceAdd, Int.reduceEq, Int.cast_ofNat_Int, Nat.zero_le, sz1, sz2, sz3, sz4, sz5, sz6, decide_true, decide_false]
  exact bodyN_nx0 kk

theorem res_flat {h : MH} {x y : D} (q : x = .non ∨ (∃ b, x = .bl b) ∨ (∃ b, x = .int b) ∨ ∃ b, x = .str b) (e : res h x = res h y) : y = x := by
  have ex : res h x = x := by rcases q with rfl | ⟨_, rfl⟩ | ⟨_, rfl⟩ | ⟨_, rfl⟩ <;> rfl
  rw [ex] at e
  cases y with
  | ref p =>
    exfalso
    rw [show res h (.ref p) = (match h p with
          | some (.lst xs) => D.lst xs
          | _ => .ref p) from rfl] at e
    split at e <;> subst e <;> simp at q
  | _ => exact e.symm
theorem big62 : sizeLine < 2 ^ 62 := by decide
theorem rd_law_alike {a : Ad} {n : Nat} (ds : List D) (h : MH) (Kn : RV → MH → Prop) (Kx : XKm) (q : sp_law_alike a (n + 1) ds h Kn Kx) : t_law_alike a n (bodyN Kn Kx) (startE ["_law_found", "_law_due", "_law_same_kind", "_law_k"] ds) h := by
  obtain ⟨x, y, rfl, exy, hn, pl, k⟩ := q
  show t_law_alike a n (bodyN Kn Kx) [some x, some y, none, none] h
  have big := line_big
  have kk : ∀ b, b = true → (bodyN Kn Kx).rt (.d (.bl b)) h := fun b e => bodyN_rt0 (by rw [e]; exact k)
  have sq : ∀ (xs : List D) (kd : Kd), kd = .lst ∨ kd = .tup → kindD h x = some kd → kindD h y = some kd → (res h x = .lst xs ∨ res h x = .tup xs) → (res h y = .lst xs ∨ res h y = .tup xs) → xs.all (alD (n - 1)) = true → 0 < n → xs.length ≤ sizeLine →
      t_law_alike a n (bodyN Kn Kx) [some x, some y, none, none] h := by
    intro xs kd hkd kx ky rx ry pls n0 lb
    obtain ⟨m, rfl⟩ : ∃ m, n = m + 1 := ⟨n - 1, by omega⟩
    unfold t_law_alike
    have fin : lcL (gN 3) (mNotT (mTst (frzV (mFun (sp_law_alike a (m + 1)) [] (mCons (frzV (mOp gIx (mVar 0) (mVar 3))) (mCons (frzV (mOp gIx (mVar 1) (mVar 3))) mNil)))))) (mVar 3) [some x, some y, none, none] (rngD 0 xs.length) [] h fun acc h2 => gEq (.lst acc) (.lst []) h2 (bodyN Kn Kx).rt := by
      refine lc_inv (fun _ acc h' => h' = h ∧ acc = []) ⟨rfl, rfl⟩ ?_ ?_
      · rintro i d acc h2 kc hi ⟨rfl, rfl⟩ hk
        obtain ⟨hj, rfl⟩ := rng_get hi
        have e1 : atD xs (i : Int) = some (xs[i]'hj) := atD_nat (List.getElem?_eq_getElem hj)
        have p1 : alD m (xs[i]'hj) = true := by
          rw [List.all_eq_true] at pls
          exact pls _ (List.getElem_mem hj)
        simp only [sSeq, sSet, sSkip, sForget, sFor, sIf, sRet, sRetN, sDrop, sSetI, sAsg, sPar, sFldM, sAug, frzV, valE, mVar, mC, mOp, mUn, mCall, mFun, mMeth, mMake, mFld, mTst, mNotT, mNotV, mAndV, mOrV, mAndT, mOrT, mIte, mNil, mCons, mTup, mLst, mChain, mIter_ap, mIsi_ap, mRng1, mRng2, mLc, mYes, mCell, mRel, mSl, oNo, oSome,
  gN, gT, gsCons, gsNil, frz_d, frz_l, frz_k, gIx_p, onSet_p, onQ_p, onL_p, gLen_p, onIns_p, put_put, atD_0, atD_1, atD_2, atD_3, atD_4, ixN_0, ixN_1, ixN_2, ixN_3, ixN_4, List.length_cons, List.length_nil, onBl_b, onInt_i, onTup_t, on1_1, on2_2, onQ_l, onQ_t, onQ_s, onL_l, onLs_l, onLs_s, onD_d, onOpt_s, gII, gB, gAdd_i, gAdd_s, gAdd_t, gAdd_l, gMul_i, gMul_l, gMul_t, gSub, gMod, gDiv, gPow, gNeg, gIx_l, gIx_t, gIx_s, gLen_l, gLen_t, gLen_s, gLen_d, iterD_t, iterD_l, iterD_s,
  kind_i, kind_b, kind_s, kind_n, kind_t, kind_l, gIsN, isNon, gTuple, gList, gAll, gAny, gSum, gMin, gMax, gMin2, gMax2, gAbs, gInt, gSorted,
  List.getElem?_cons_zero, List.getElem?_cons_succ, List.getElem?_nil, List.set_cons_zero, List.set_cons_succ, List.cons_append, List.nil_append, List.append_nil, wipeE, List.any_cons, List.any_nil, isK, Bool.or_false, Bool.false_or, Bool.or_true, Bool.true_or, Bool.not_true, Bool.not_false, if_true, if_false, Bool.false_eq_true, true_and, and_true, decide_eq_true_eq, id, reduceCtorEq, gEq_i, gNe_i, gEq_b, gNe_b, gEq_li, gNe_li, gEq_l0, gNe_l0, gEq_00, gNe_00, gEq_ti, gNe_ti, mEnum, Nat.zero_add, Nat.reduceAdd, Int.reduceEq, Int.cast_ofNat_Int, Nat.zero_le, sz1, sz2, sz3, sz4, sz5, sz6, decide_true, decide_false, seq_ix rx, seq_ix ry, e1]
        refine ⟨_, _, rfl, rfl, by omega, by rw [pl_res (al_pl p1)]; exact p1, ?_⟩
        simp only [sSeq, sSet, sSkip, sForget, sFor, sIf, sRet, sRetN, sDrop, sSetI, sAsg, sPar, sFldM, sAug, frzV, valE, mVar, mC, mOp, mUn, mCall, mFun, mMeth, mMake, mFld, mTst, mNotT, mNotV, mAndV, mOrV, mAndT, mOrT, mIte, mNil, mCons, mTup, mLst, mChain, mIter_ap, mIsi_ap, mRng1, mRng2, mLc, mYes, mCell, mRel, mSl, oNo, oSome,
  gN, gT, gsCons, gsNil, frz_d, frz_l, frz_k, gIx_p, onSet_p, onQ_p, onL_p, gLen_p, onIns_p, put_put, atD_0, atD_1, atD_2, atD_3, atD_4, ixN_0, ixN_1, ixN_2, ixN_3, ixN_4, List.length_cons, List.length_nil, onBl_b, onInt_i, onTup_t, on1_1, on2_2, onQ_l, onQ_t, onQ_s, onL_l, onLs_l, onLs_s, onD_d, onOpt_s, gII, gB, gAdd_i, gAdd_s, gAdd_t, gAdd_l, gMul_i, gMul_l, gMul_t, gSub, gMod, gDiv, gPow, gNeg, gIx_l, gIx_t, gIx_s, gLen_l, gLen_t, gLen_s, gLen_d, iterD_t, iterD_l, iterD_s,
  kind_i, kind_b, kind_s, kind_n, kind_t, kind_l, gIsN, isNon, gTuple, gList, gAll, gAny, gSum, gMin, gMax, gMin2, gMax2, gAbs, gInt, gSorted,
  List.getElem?_cons_zero, List.getElem?_cons_succ, List.getElem?_nil, List.set_cons_zero, List.set_cons_succ, List.cons_append, List.nil_append, List.append_nil, wipeE, List.any_cons, List.any_nil, isK, Bool.or_false, Bool.false_or, Bool.or_true, Bool.true_or, Bool.not_true, Bool.not_false, if_true, if_false, Bool.false_eq_true, true_and, and_true, decide_eq_true_eq, id, reduceCtorEq, gEq_i, gNe_i, gEq_b, gNe_b, gEq_li, gNe_li, gEq_l0, gNe_l0, gEq_00, gNe_00, gEq_ti, gNe_ti, mEnum, Nat.zero_add, Nat.reduceAdd, Int.reduceEq, Int.cast_ofNat_Int, Nat.zero_le, sz1, sz2, sz3, sz4, sz5, sz6, decide_true, decide_false]
        exact hk _ _ ⟨rfl, rfl⟩
      · rintro acc h2 ⟨rfl, rfl⟩
        simp only [sSeq, sSet, sSkip, sForget, sFor, sIf, sRet, sRetN, sDrop, sSetI, sAsg, sPar, sFldM, sAug, frzV, valE, mVar, mC, mOp, mUn, mCall, mFun, mMeth, mMake, mFld, mTst, mNotT, mNotV, mAndV, mOrV, mAndT, mOrT, mIte, mNil, mCons, mTup, mLst, mChain, mIter_ap, mIsi_ap, mRng1, mRng2, mLc, mYes, mCell, mRel, mSl, oNo, oSome,
  gN, gT, gsCons, gsNil, frz_d, frz_l, frz_k, gIx_p, onSet_p, onQ_p, onL_p, gLen_p, onIns_p, put_put, atD_0, atD_1, atD_2, atD_3, atD_4, ixN_0, ixN_1, ixN_2, ixN_3, ixN_4, List.length_cons, List.length_nil, onBl_b, onInt_i, onTup_t, on1_1, on2_2, onQ_l, onQ_t, onQ_s, onL_l, onLs_l, onLs_s, onD_d, onOpt_s, gII, gB, gAdd_i, gAdd_s, gAdd_t, gAdd_l, gMul_i, gMul_l, gMul_t, gSub, gMod, gDiv, gPow, gNeg, gIx_l, gIx_t, gIx_s, gLen_l, gLen_t, gLen_s, gLen_d, iterD_t, iterD_l, iterD_s,
  kind_i, kind_b, kind_s, kind_n, kind_t, kind_l, gIsN, isNon, gTuple, gList, gAll, gAny, gSum, gMin, gMax, gMin2, gMax2, gAbs, gInt, gSorted,
  List.getElem?_cons_zero, List.getElem?_cons_succ, List.getElem?_nil, List.set_cons_zero, List.set_cons_succ, List.cons_append, List.nil_append, List.append_nil, wipeE, List.any_cons, List.any_nil, isK, Bool.or_false, Bool.false_or, Bool.or_true, Bool.true_or, Bool.not_true, Bool.not_false, if_true, if_false, Bool.false_eq_true, true_and, and_true, decide_eq_true_eq, id, reduceCtorEq, gEq_i, gNe_i, gEq_b, gNe_b, gEq_li, gNe_li, gEq_l0, gNe_l0, gEq_00, gNe_00, gEq_ti, gNe_ti, mEnum, Nat.zero_add, Nat.reduceAdd, Int.reduceEq, Int.cast_ofNat_Int, Nat.zero_le, sz1, sz2, sz3, sz4, sz5, sz6, decide_true, decide_false]
        exact kk _ rfl
    rcases hkd with rfl | rfl <;> simp only [sSeq, sSet, sSkip, sForget, sFor, sIf, sRet, sRetN, sDrop, sSetI, sAsg, sPar, sFldM, sAug, frzV, valE, mVar, mC, mOp, mUn, mCall, mFun, mMeth, mMake, mFld, mTst, mNotT, mNotV, mAndV, mOrV, mAndT, mOrT, mIte, mNil, mCons, mTup, mLst, mChain, mIter_ap, mIsi_ap, mRng1, mRng2, mLc, mYes, mCell, mRel, mSl, oNo, oSome,
  gN, gT, gsCons, gsNil, frz_d, frz_l, frz_k, gIx_p, onSet_p, onQ_p, onL_p, gLen_p, onIns_p, put_put, atD_0, atD_1, atD_2, atD_3, atD_4, ixN_0, ixN_1, ixN_2, ixN_3, ixN_4, List.length_cons, List.length_nil, onBl_b, onInt_i, onTup_t, on1_1, on2_2, onQ_l, onQ_t, onQ_s, onL_l, onLs_l, onLs_s, onD_d, onOpt_s, gII, gB, gAdd_i, gAdd_s, gAdd_t, gAdd_l, gMul_i, gMul_l, gMul_t, gSub, gMod, gDiv, gPow, gNeg, gIx_l, gIx_t, gIx_s, gLen_l, gLen_t, gLen_s, gLen_d, iterD_t, iterD_l, iterD_s,
  kind_i, kind_b, kind_s, kind_n, kind_t, kind_l, gIsN, isNon, gTuple, gList, gAll, gAny, gSum, gMin, gMax, gMin2, gMax2, gAbs, gInt, gSorted,
  List.getElem?_cons_zero, List.getElem?_cons_succ, List.getElem?_nil, List.set_cons_zero, List.set_cons_succ, List.cons_append, List.nil_append, List.append_nil, wipeE, List.any_cons, List.any_nil, isK, Bool.or_false, Bool.false_or, Bool.or_true, Bool.true_or, Bool.not_true, Bool.not_false, if_true, if_false, Bool.false_eq_true, true_and, and_true, decide_eq_true_eq, id, reduceCtorEq, gEq_i, gNe_i, gEq_b, gNe_b, gEq_li, gNe_li, gEq_l0, gNe_l0, gEq_00, gNe_00, gEq_ti, gNe_ti, mEnum, Nat.zero_add, Nat.reduceAdd, Int.reduceEq, Int.cast_ofNat_Int, Nat.zero_le, sz1, sz2, sz3, sz4, sz5, sz6, decide_true, decide_false, kx, ky, seq_len rx, seq_len ry, beq_self_eq_true] <;> exact ⟨⟨by omega, by have := big62; omega⟩, fin⟩
  have sqL : ∀ xs, res h x = .lst xs → t_law_alike a n (bodyN Kn Kx) [some x, some y, none, none] h := by
    intro xs e
    have n0 : 0 < n := by
      cases n with
      | zero => rw [e] at pl; cases pl
      | succ _ => omega
    obtain ⟨m, rfl⟩ : ∃ m, n = m + 1 := ⟨n - 1, by omega⟩
    rw [e] at pl
    simp only [alD, Bool.and_eq_true, decide_eq_true_eq] at pl
    exact sq xs .lst (.inl rfl) (seq_kindL e) (seq_kindL (exy ▸ e)) (.inl e) (.inl (exy ▸ e)) pl.2 n0 pl.1
  cases x with
  | ref p =>
    cases q : h p with
    | none =>
      rw [show res h (.ref p) = (match h p with
          | some (.lst xs) => D.lst xs
          | _ => .ref p) from rfl, q] at pl
      cases n <;> cases pl
    | some m =>
      cases m with
      | lst ys => exact sqL ys (res_r q)
      | dct ys =>
        rw [show res h (.ref p) = (match h p with
          | some (.lst xs) => D.lst xs
          | _ => .ref p) from rfl, q] at pl
        cases n <;> cases pl
      | ins C ys =>
        rw [show res h (.ref p) = (match h p with
          | some (.lst xs) => D.lst xs
          | _ => .ref p) from rfl, q] at pl
        cases n <;> cases pl
  | lst xs => exact sqL xs rfl
  | tup xs =>
    have n0 : 0 < n := by
      cases n with
      | zero => cases pl
      | succ _ => omega
    obtain ⟨m, rfl⟩ : ∃ m, n = m + 1 := ⟨n - 1, by omega⟩
    rw [res_t] at pl
    simp only [alD, Bool.and_eq_true, decide_eq_true_eq] at pl
    obtain rfl := seq_tup (h := h) (x := y) (xs := xs) exy.symm
    exact sq xs .tup (.inr rfl) rfl rfl (.inr rfl) (.inr rfl) pl.2 n0 pl.1
  | dct _ => cases n <;> cases pl
  | scr _ => cases n <;> cases pl
  | non =>
    obtain rfl := res_flat (h := h) (y := y) (.inl rfl) exy
    unfold t_law_alike
    simp only [sSeq, sSet, sSkip, sForget, sFor, sIf, sRet, sRetN, sDrop, sSetI, sAsg, sPar, sFldM, sAug, frzV, valE, mVar, mC, mOp, mUn, mCall, mFun, mMeth, mMake, mFld, mTst, mNotT, mNotV, mAndV, mOrV, mAndT, mOrT, mIte, mNil, mCons, mTup, mLst, mChain, mIter_ap, mIsi_ap, mRng1, mRng2, mLc, mYes, mCell, mRel, mSl, oNo, oSome,
  gN, gT, gsCons, gsNil, frz_d, frz_l, frz_k, gIx_p, onSet_p, onQ_p, onL_p, gLen_p, onIns_p, put_put, atD_0, atD_1, atD_2, atD_3, atD_4, ixN_0, ixN_1, ixN_2, ixN_3, ixN_4, List.length_cons, List.length_nil, onBl_b, onInt_i, onTup_t, on1_1, on2_2, onQ_l, onQ_t, onQ_s, onL_l, onLs_l, onLs_s, onD_d, onOpt_s, gII, gB, gAdd_i, gAdd_s, gAdd_t, gAdd_l, gMul_i, gMul_l, gMul_t, gSub, gMod, gDiv, gPow, gNeg, gIx_l, gIx_t, gIx_s, gLen_l, gLen_t, gLen_s, gLen_d, iterD_t, iterD_l, iterD_s,
  kind_i, kind_b, kind_s, kind_n, kind_t, kind_l, gIsN, isNon, gTuple, gList, gAll, gAny, gSum, gMin, gMax, gMin2, gMax2, gAbs, gInt, gSorted,
  List.getElem?_cons_zero, List.getElem?_cons_succ, List.getElem?_nil, List.set_cons_zero, List.set_cons_succ, List.cons_append, List.nil_append, List.append_nil, wipeE, List.any_cons, List.any_nil, isK, Bool.or_false, Bool.false_or, Bool.or_true, Bool.true_or, Bool.not_true, Bool.not_false, if_true, if_false, Bool.false_eq_true, true_and, and_true, decide_eq_true_eq, id, reduceCtorEq, gEq_i, gNe_i, gEq_b, gNe_b, gEq_li, gNe_li, gEq_l0, gNe_l0, gEq_00, gNe_00, gEq_ti, gNe_ti, mEnum, Nat.zero_add, Nat.reduceAdd, Int.reduceEq, Int.cast_ofNat_Int, Nat.zero_le, sz1, sz2, sz3, sz4, sz5, sz6, decide_true, decide_false]
    exact kk _ rfl
  | bl b =>
    obtain rfl := res_flat (h := h) (y := y) (.inr (.inl ⟨_, rfl⟩)) exy
    unfold t_law_alike
    simp only [sSeq, sSet, sSkip, sForget, sFor, sIf, sRet, sRetN, sDrop, sSetI, sAsg, sPar, sFldM, sAug, frzV, valE, mVar, mC, mOp, mUn, mCall, mFun, mMeth, mMake, mFld, mTst, mNotT, mNotV, mAndV, mOrV, mAndT, mOrT, mIte, mNil, mCons, mTup, mLst, mChain, mIter_ap, mIsi_ap, mRng1, mRng2, mLc, mYes, mCell, mRel, mSl, oNo, oSome,
  gN, gT, gsCons, gsNil, frz_d, frz_l, frz_k, gIx_p, onSet_p, onQ_p, onL_p, gLen_p, onIns_p, put_put, atD_0, atD_1, atD_2, atD_3, atD_4, ixN_0, ixN_1, ixN_2, ixN_3, ixN_4, List.length_cons, List.length_nil, onBl_b, onInt_i, onTup_t, on1_1, on2_2, onQ_l, onQ_t, onQ_s, onL_l, onLs_l, onLs_s, onD_d, onOpt_s, gII, gB, gAdd_i, gAdd_s, gAdd_t, gAdd_l, gMul_i, gMul_l, gMul_t, gSub, gMod, gDiv, gPow, gNeg, gIx_l, gIx_t, gIx_s, gLen_l, gLen_t, gLen_s, gLen_d, iterD_t, iterD_l, iterD_s,
  kind_i, kind_b, kind_s, kind_n, kind_t, kind_l, gIsN, isNon, gTuple, gList, gAll, gAny, gSum, gMin, gMax, gMin2, gMax2, gAbs, gInt, gSorted,
  List.getElem?_cons_zero, List.getElem?_cons_succ, List.getElem?_nil, List.set_cons_zero, List.set_cons_succ, List.cons_append, List.nil_append, List.append_nil, wipeE, List.any_cons, List.any_nil, isK, Bool.or_false, Bool.false_or, Bool.or_true, Bool.true_or, Bool.not_true, Bool.not_false, if_true, if_false, Bool.false_eq_true, true_and, and_true, decide_eq_true_eq, id, reduceCtorEq, gEq_i, gNe_i, gEq_b, gNe_b, gEq_li, gNe_li, gEq_l0, gNe_l0, gEq_00, gNe_00, gEq_ti, gNe_ti, mEnum, Nat.zero_add, Nat.reduceAdd, Int.reduceEq, Int.cast_ofNat_Int, Nat.zero_le, sz1, sz2, sz3, sz4, sz5, sz6, decide_true, decide_false, beq_self_eq_true]
    exact kk _ rfl
  | int i =>
    obtain rfl := res_flat (h := h) (y := y) (.inr (.inr (.inl ⟨_, rfl⟩))) exy
    unfold t_law_alike
    simp only [sSeq, sSet, sSkip, sForget, sFor, sIf, sRet, sRetN, sDrop, sSetI, sAsg, sPar, sFldM, sAug, frzV, valE, mVar, mC, mOp, mUn, mCall, mFun, mMeth, mMake, mFld, mTst, mNotT, mNotV, mAndV, mOrV, mAndT, mOrT, mIte, mNil, mCons, mTup, mLst, mChain, mIter_ap, mIsi_ap, mRng1, mRng2, mLc, mYes, mCell, mRel, mSl, oNo, oSome,
  gN, gT, gsCons, gsNil, frz_d, frz_l, frz_k, gIx_p, onSet_p, onQ_p, onL_p, gLen_p, onIns_p, put_put, atD_0, atD_1, atD_2, atD_3, atD_4, ixN_0, ixN_1, ixN_2, ixN_3, ixN_4, List.length_cons, List.length_nil, onBl_b, onInt_i, onTup_t, on1_1, on2_2, onQ_l, onQ_t, onQ_s, onL_l, onLs_l, onLs_s, onD_d, onOpt_s, gII, gB, gAdd_i, gAdd_s, gAdd_t, gAdd_l, gMul_i, gMul_l, gMul_t, gSub, gMod, gDiv, gPow, gNeg, gIx_l, gIx_t, gIx_s, gLen_l, gLen_t, gLen_s, gLen_d, iterD_t, iterD_l, iterD_s,
  kind_i, kind_b, kind_s, kind_n, kind_t, kind_l, gIsN, isNon, gTuple, gList, gAll, gAny, gSum, gMin, gMax, gMin2, gMax2, gAbs, gInt, gSorted,
  List.getElem?_cons_zero, List.getElem?_cons_succ, List.getElem?_nil, List.set_cons_zero, List.set_cons_succ, List.cons_append, List.nil_append, List.append_nil, wipeE, List.any_cons, List.any_nil, isK, Bool.or_false, Bool.false_or, Bool.or_true, Bool.true_or, Bool.not_true, Bool.not_false, if_true, if_false, Bool.false_eq_true, true_and, and_true, decide_eq_true_eq, id, reduceCtorEq, gEq_i, gNe_i, gEq_b, gNe_b, gEq_li, gNe_li, gEq_l0, gNe_l0, gEq_00, gNe_00, gEq_ti, gNe_ti, mEnum, Nat.zero_add, Nat.reduceAdd, Int.reduceEq, Int.cast_ofNat_Int, Nat.zero_le, sz1, sz2, sz3, sz4, sz5, sz6, decide_true, decide_false, beq_self_eq_true]
    exact kk _ rfl
  | str i =>
    have ok : eqOk (res h (.str i)) := ⟨n, by omega, al_pl pl⟩
    have er : eqD (res h (.str i)) (res h (.str i)) = true := eqD_refl (al_pl pl)
    obtain rfl := res_flat (h := h) (y := y) (.inr (.inr (.inr ⟨_, rfl⟩))) exy
    unfold t_law_alike
    simp only [sSeq, sSet, sSkip, sForget, sFor, sIf, sRet, sRetN, sDrop, sSetI, sAsg, sPar, sFldM, sAug, frzV, valE, mVar, mC, mOp, mUn, mCall, mFun, mMeth, mMake, mFld, mTst, mNotT, mNotV, mAndV, mOrV, mAndT, mOrT, mIte, mNil, mCons, mTup, mLst, mChain, mIter_ap, mIsi_ap, mRng1, mRng2, mLc, mYes, mCell, mRel, mSl, oNo, oSome,
  gN, gT, gsCons, gsNil, frz_d, frz_l, frz_k, gIx_p, onSet_p, onQ_p, onL_p, gLen_p, onIns_p, put_put, atD_0, atD_1, atD_2, atD_3, atD_4, ixN_0, ixN_1, ixN_2, ixN_3, ixN_4, List.length_cons, List.length_nil, onBl_b, onInt_i, onTup_t, on1_1, on2_2, onQ_l, onQ_t, onQ_s, onL_l, onLs_l, onLs_s, onD_d, onOpt_s, gII, gB, gAdd_i, gAdd_s, gAdd_t, gAdd_l, gMul_i, gMul_l, gMul_t, gSub, gMod, gDiv, gPow, gNeg, gIx_l, gIx_t, gIx_s, gLen_l, gLen_t, gLen_s, gLen_d, iterD_t, iterD_l, iterD_s,
  kind_i, kind_b, kind_s, kind_n, kind_t, kind_l, gIsN, isNon, gTuple, gList, gAll, gAny, gSum, gMin, gMax, gMin2, gMax2, gAbs, gInt, gSorted,
  List.getElem?_cons_zero, List.getElem?_cons_succ, List.getElem?_nil, List.set_cons_zero, List.set_cons_succ, List.cons_append, List.nil_append, List.append_nil, wipeE, List.any_cons, List.any_nil, isK, Bool.or_false, Bool.false_or, Bool.or_true, Bool.true_or, Bool.not_true, Bool.not_false, if_true, if_false, Bool.false_eq_true, true_and, and_true, decide_eq_true_eq, id, reduceCtorEq, gEq_i, gNe_i, gEq_b, gNe_b, gEq_li, gNe_li, gEq_l0, gNe_l0, gEq_00, gNe_00, gEq_ti, gNe_ti, mEnum, Nat.zero_add, Nat.reduceAdd, Int.reduceEq, Int.cast_ofNat_Int, Nat.zero_le, sz1, sz2, sz3, sz4, sz5, sz6, decide_true, decide_false, gEq_ok ok ok, er, beq_self_eq_true]
    exact kk _ rfl
end M3
set_option Elab.async false
set_option linter.all false
set_option maxRecDepth 100000
set_option maxHeartbeats 4000000
namespace M3
open PySem PySem.Spec PyProof.Rows L2
/-! ### zip over lists and tuples, whichever stands where -/
def SqA (K : PySem.W.Frag) (tu : Bool) (H : Hp) (a : Addr) (xs : List V) : Prop := match tu with
  | true => SqT K H a xs
  | false => SqL K H a xs
def IsItA (h : Heap) (tu : Bool) (it a : Addr) (i : Nat) : Prop := match tu with
  | true => h.IsTupleIter it a i
  | false => h.IsListIter it a i
def IsA (h : Heap) (tu : Bool) (a : Addr) (its : Array Value) : Prop := match tu with
  | true => h.IsTuple a its
  | false => h.IsList a its
def itObj (tu : Bool) (a : Addr) : Obj := match tu with
  | true => { cls := .type "tuple_iterator", data := .fields #[.ref a, .int 0 0] }
  | false => { cls := .type "list_iterator", data := .fields #[.ref a, .int 0 0] }
theorem IsItA.obj {h : Heap} {tu : Bool} {it a : Addr} {i : Nat} (q : IsItA h tu it a i) : ∃ o fs, h.get? it = some o ∧ o.data = .fields fs := by
  cases tu with
  | true => obtain ⟨o, e, _, d⟩ := q; exact ⟨o, _, e, d⟩
  | false => obtain ⟨o, e, _, d⟩ := q; exact ⟨o, _, e, d⟩
theorem IsItA.at_ {h h' : Heap} {tu : Bool} {it a : Addr} {i : Nat} (q : IsItA h tu it a i) (k : ∀ o, h.get? it = some o → h'.get? it = some o) : IsItA h' tu it a i := by
  cases tu with
  | true => exact Heap.IsTupleIter.at q k
  | false => exact Heap.IsListIter.at q k
theorem IsA.lt {h : Heap} {tu : Bool} {a : Addr} {its : Array Value} (q : IsA h tu a its) : a < h.objs.size := by
  cases tu with
  | true => obtain ⟨_, e, _⟩ := q; exact Heap.lt_size e
  | false => obtain ⟨_, e, _⟩ := q; exact Heap.lt_size e
theorem isItA_new {h : Heap} {tu : Bool} {it a : Addr} (e : h.get? it = some (itObj tu a)) : IsItA h tu it a 0 := by
  cases tu with
  | true => exact ⟨_, e, rfl, rfl⟩
  | false => exact ⟨_, e, rfl, rfl⟩
theorem beginsA (tu : Bool) (a : Addr) (its : Array Value) : Begins (.ref a) (itObj tu a) fun h => IsA h tu a its := by
  cases tu with
  | true => exact begins_tuple a its
  | false => exact begins_list a its
theorem drawsA {prog : Program} {w : World} {A : Around} (hh : A.handled = none) (it a : Addr) (hne : a ≠ it) (its : Array Value) (tu : Bool) : Draws prog w A it [it, a] its.size (fun i v => its[i]? = some v) (fun i h => IsItA h tu it a i ∧ IsA h tu a its) := by
  cases tu with
  | true => exact Draws.tuple hh it a hne its
  | false => exact Draws.list hh it a hne its
section
variable {X : Cx} {pins : List (Addr × Obj)} {σ : L2.St} {H : Hp} {s : Shared} {tu : Bool} {a : Addr} {xs ys : List V}
theorem seqA_of (I : Inv X pins σ H s) (q : SqA X.K tu H a xs) : ∃ its, Vals xs its ∧ IsA s.heap tu a its.toArray := by
  cases tu with
  | true => obtain ⟨its, rv, p, _⟩ := I.tuple q; exact ⟨its, rv, p⟩
  | false => obtain ⟨its, rv, p, _⟩ := I.list q; exact ⟨its, rv, p.isList⟩
theorem seqA_inj (I : Inv X pins σ H s) (q : SqA X.K tu H a xs) (q' : SqA X.K tu H a ys) : xs = ys := by
  cases tu with
  | true => exact I.tuple_inj q q'
  | false => exact I.list_inj q q'
theorem lt_of_some {α : Type} {l : List α} {i : Nat} {u : α} (e : l[i]? = some u) : i < l.toArray.size := by
  rw [List.size_toArray]
  exact (List.getElem?_eq_some_iff.mp e).1
end
theorem nne {x y : Nat} (h : x < y ∨ y < x) : (x : Addr) ≠ y := fun e => by
  have e' : (x : Nat) = y := e
  omega
theorem nmem {x y z : Nat} (h1 : x < y ∨ y < x) (h2 : x < z ∨ z < x) : (x : Addr) ∉ ([y, z] : List Addr) := fun e => by
  rcases List.mem_cons.mp e with e | e
  · exact nne h1 e
  · rcases List.mem_cons.mp e with e | e
    · exact nne h2 e
    · cases e
def Itg2 (K : PySem.W.Frag) (t1 t2 : Bool) (a1 a2 : Addr) : It :=
  ⟨fun i H => ∃ (l1 l2 : List V) (x1 x2 : V), SqA K t1 H a1 l1 ∧ SqA K t2 H a2 l2 ∧ l1[i]? = some x1 ∧ l2[i]? = some x2,
    fun i H v H' => ∃ T x1 x2, v = .ref T ∧ H T = none ∧ H' = upd H T (.tup [x1, x2]) ∧ (∀ l, SqA K t1 H a1 l → l[i]? = some x1) ∧ (∀ l, SqA K t2 H a2 l → l[i]? = some x2),
    fun i H => ∃ (l1 l2 : List V), SqA K t1 H a1 l1 ∧ SqA K t2 H a2 l2 ∧ (i ≤ l1.length ∧ i ≤ l2.length) ∧ (i = l1.length ∨ i = l2.length)⟩
theorem turn_g2 {P : Program} {w : World} {K : PySem.W.Frag} {elts : List Expr} {kk : Nat} {tpos : Pos} {t1 t2 : Bool} {z TI TO i1 i2 a1 a2 : Addr} (S : ZipSep2 z TI TO i1 i2 [i1, a1] [i2, a2]) (n1 : a1 ≠ i1) (n2 : a2 ≠ i2) :
    Turn P w K (.Tuple elts kk tpos) (Itg2 K t1 t2 a1 a2) [z, TI, TO, i1, i2] z (fun i h => IsZip h z TI TO .none ∧ IsTupOf2 h TI (.ref i1) (.ref i2) ∧ (∃ y1 y2, IsTupOf2 h TO y1 y2) ∧ IsItA h t1 i1 a1 i ∧ IsItA h t2 i2 a2 i) where
  mem := by simp
  obj := fun i h st c hc => by
    obtain ⟨hz, hTI, ⟨y1, y2, hTO⟩, h1, h2⟩ := st
    have e' : c = z ∨ c = TI ∨ c = TO ∨ c = i1 ∨ c = i2 := by simpa using hc
    rcases e' with q | q | q | q | q
    · rw [q]; exact ⟨_, hz, fun v q => nomatch q⟩
    · rw [q]; exact ⟨_, hTI, fun v q => nomatch q⟩
    · rw [q]; exact ⟨_, hTO, fun v q => nomatch q⟩
    · rw [q]; obtain ⟨o, fs, e, d⟩ := h1.obj; exact ⟨o, e, fun v q => by rw [d] at q; cases q⟩
    · rw [q]; obtain ⟨o, fs, e, d⟩ := h2.obj; exact ⟨o, e, fun v q => by rw [d] at q; cases q⟩
  keep := fun i h h' st k => by
    obtain ⟨hz, hTI, ⟨y1, y2, hTO⟩, h1, h2⟩ := st
    exact ⟨k z (by simp) _ hz, k TI (by simp) _ hTI, ⟨y1, y2, k TO (by simp) _ hTO⟩, h1.at_ fun o q => k i1 (by simp) o q, h2.at_ fun o q => k i2 (by simp) o q⟩
  item := by
    intro X hP hw hK hc i pins s σ H E I hf st hg
    subst hP hw hK
    obtain ⟨hz, hTI, ⟨y1, y2, hTO⟩, h1, h2⟩ := st
    obtain ⟨l1, l2, x1, x2, q1, q2, e1, e2⟩ := hg
    obtain ⟨s1, r1, p1⟩ := seqA_of I q1
    obtain ⟨u1, f1, v1⟩ := r1.get e1
    obtain ⟨s2, r2, p2⟩ := seqA_of I q2
    obtain ⟨u2, f2, v2⟩ := r2.get e2
    have hzl : z < s.heap.objs.size := Heap.lt_size hz
    refine wpAny_pyNext_zipD2_item S (drawsA (A := X.A.in1) (I.ok.hd hc) i1 a1 n1 s1.toArray t1) (drawsA (A := X.A.in1) (I.ok.hd hc) i2 a2 n2 s2.toArray t2) hz hTI hTO ⟨h1, p1⟩ ⟨h2, p2⟩ (lt_of_some f1) (lt_of_some f2) fun w1 w2 h' tk g1 g2 z' TO' d1 d2 hT hsz hk => ?_
    have ee1 : w1 = u1 := by
      have k1 : s1[i]? = some w1 := by simpa using g1
      rw [f1] at k1
      exact (Option.some.inj k1).symm
    subst ee1
    have ee2 : w2 = u2 := by
      have k1 : s2[i]? = some w2 := by simpa using g2
      rw [f2] at k1
      exact (Option.some.inj k1).symm
    subst ee2
    refine ⟨_, rfl, wpAny_letOwnedTupleGo_zip (s := { s with heap := h', toks := tk }) z' fun h'' z'' sb => ?_⟩
    have hT2 : h''.get? s.heap.objs.size = some { cls := .type "tuple", data := .seq #[w1, w2] } := (sb.2 _ (Nat.ne_of_gt hzl)).trans hT
    have new : ObjOk X.prog X.w (upd H s.heap.objs.size (.tup [x1, x2])) h'' s.heap.objs.size (.tup [x1, x2]) :=
      ⟨by show 2 ≤ sizeLine; decide, [w1, w2], .cons v1 (.cons v2 .nil), ⟨_, hT2, rfl, _, rfl⟩⟩
    have I1 : Inv X pins σ (upd H s.heap.objs.size (.tup [x1, x2])) { s with heap := h'', toks := tk } :=
      I.turnedNew (t' := tk) (ch := [z, TI, TO, i1, i2]) (fun c o hb q => (sb.2 c (fun q' => hb (by simp [q']))).trans (hk c o (fun q' => hb (by simp [q'])) (fun q' => hb (by simp [q'])) (fun q' => hb (by simp [q'])) (fun q' => hb (by simp [q'])) q)) hf (Nat.le_refl _) new
    refine ⟨.ref s.heap.objs.size, _, I1, rfl, ⟨_, x1, x2, rfl, I.hok.fresh (Nat.le_refl _), rfl, fun l hl => by rw [seqA_inj I hl q1]; exact e1, fun l hl => by rw [seqA_inj I hl q2]; exact e2⟩, ⟨z'', ?_, ⟨w1, w2, ?_⟩, ?_, ?_⟩, fun c hcm => ?_⟩
    · exact (sb.2 _ S.TIz).trans (hk _ _ S.TIz S.TITO S.TIi1 S.TIi2 hTI)
    · exact (sb.2 _ S.TOz).trans TO'
    · exact d1.1.at_ fun o q => (sb.2 _ (Ne.symm S.zi1)).trans q
    · exact d2.1.at_ fun o q => (sb.2 _ (Ne.symm S.zi2)).trans q
    · have hlt : c < s.heap.objs.size := by
        have e' : c = z ∨ c = TI ∨ c = TO ∨ c = i1 ∨ c = i2 := by simpa using hcm
        rcases e' with q | q | q | q | q
        · rw [q]; exact hzl
        · rw [q]; exact Heap.lt_size hTI
        · rw [q]; exact Heap.lt_size hTO
        · rw [q]; obtain ⟨o, fs, e, d⟩ := h1.obj; exact Heap.lt_size e
        · rw [q]; obtain ⟨o, fs, e, d⟩ := h2.obj; exact Heap.lt_size e
      rw [upd_ne (Nat.ne_of_lt hlt)]
      exact (hf c hcm).1
  done := by
    intro X hP hw hK hc i pins s σ H E I hf st hg
    subst hP hw hK
    obtain ⟨hz, hTI, ⟨y1, y2, hTO⟩, h1, h2⟩ := st
    obtain ⟨l1, l2, q1, q2, ⟨b1, b2⟩, hend⟩ := hg
    obtain ⟨s1, r1, p1⟩ := seqA_of I q1
    have k1 := r1.length
    obtain ⟨s2, r2, p2⟩ := seqA_of I q2
    have k2 := r2.length
    exact wpAny_pyNext_zipD2_end S (drawsA (A := X.A.in1) (I.ok.hd hc) i1 a1 n1 s1.toArray t1) (drawsA (A := X.A.in1) (I.ok.hd hc) i2 a2 n2 s2.toArray t2) hz hTI hTO ⟨h1, p1⟩ ⟨h2, p2⟩ (by simp; omega) (by simp; omega) (by simp; omega) fun h' tk hk => ⟨rfl, I.turnedL (t' := tk) (ch := [z, TI, TO, i1, i2]) (fun c o hb q => hk c o (fun q' => hb (by simp [q'])) (fun q' => hb (by simp [q'])) (fun q' => hb (by simp [q'])) (fun q' => hb (by simp [q'])) q) hf⟩
  self := fun A i s Q E st h => wpAny_pyIter_zip st.1 h
def iZg2 (K : PySem.W.Frag) (ta : TA) : TI := fun σ H R => ta σ H fun vs H1 => ∃ (t1 t2 : Bool) (a1 a2 : Addr) (l1 l2 : List V), vs = [.ref a1, .ref a2] ∧ SqA K t1 H1 a1 l1 ∧ SqA K t2 H1 a2 l2 ∧ R (Itg2 K t1 t2 a1 a2) H1
theorem pi_zg2 {X : Cx} {e1 e2 : Expr} {ta : TA} {p pos tpos : Pos} {elts : List Expr} {kk : Nat} (hg : Gl X "zip") (hm : X.mg "zip" = none) (ha : PA X [e1, e2] ta)
    (hs : starEach [e1, e2] X.env = (false, eval e1 X.env) :: starEach [e2] X.env := by rfl) (hpl : (backTo pos (starEach [e2] X.env)).any (·.1) = false := by rfl) :
    PI X (.Tuple elts kk tpos) (.Call (.Name "zip" p) [e1, e2] [] pos) (iZg2 X.K ta) := by
  refine ⟨fun pins s σ H R I h => ?_⟩
  refine Call_ (ld_blt I hg hm PyProof.Rows.boot_zip (PyProof.Rows.callWith_type1 (thn (ha.run pos pins s σ H _ I h) fun us sh ⟨vs, HH, II, rv, qq⟩ => ?_) hs hpl))
  obtain ⟨t1, t2, a1, a2, l1, l2, ex, q1, q2, q⟩ := qq
  subst ex
  obtain ⟨s1, r1, p1⟩ := seqA_of II q1
  have z1 : @LT.lt Nat _ a1 sh.heap.objs.size := p1.lt
  obtain ⟨s2, r2, p2⟩ := seqA_of II q2
  have z2 : @LT.lt Nat _ a2 sh.heap.objs.size := p2.lt
  cases rv with
  | cons w1 rv =>
    cases rv with
    | cons w2 rv =>
      cases rv
      cases w1
      cases w2
      refine zip_begins2 (beginsA t1 a1 s1.toArray) (beginsA t2 a2 s2.toArray) p1 p2 fun h' hz hTI hTO g1 g2 hsz hk => wpAny_pyIter_zip hz ?_
      have I2 : Inv X pins σ HH { sh with heap := h' } := II.kept (t' := sh.toks) hk
      refine ⟨sh.heap.objs.size + 4, [sh.heap.objs.size + 4, sh.heap.objs.size + 2, sh.heap.objs.size + 3, sh.heap.objs.size, sh.heap.objs.size + 1], _, _, HH, rfl, I2, turn_g2 (S := ?_) (nne (by omega)) (nne (by omega)), ⟨hz, hTI, ⟨_, _, hTO⟩, isItA_new g1, isItA_new g2⟩, fun c hcm => ?_, q⟩
      · exact ⟨nne (by omega), nne (by omega), nne (by omega), nne (by omega), List.mem_cons_self, nmem (by omega) (by omega), nmem (by omega) (by omega), nne (by omega), List.mem_cons_self, nmem (by omega) (by omega), nmem (by omega) (by omega), nmem (by omega) (by omega), nmem (by omega) (by omega)⟩
      · have e' : c = sh.heap.objs.size + 4 ∨ c = sh.heap.objs.size + 2 ∨ c = sh.heap.objs.size + 3 ∨ c = sh.heap.objs.size ∨ c = sh.heap.objs.size + 1 := by simpa using hcm
        have hle : sh.heap.objs.size ≤ c := by
          rcases e' with z | z | z | z | z <;> rw [z] <;> first | exact Nat.le_refl _ | exact Nat.le_add_right _ _
        exact II.fpOk hle (II.hok.fresh hle)
def Itg3 (K : PySem.W.Frag) (t1 t2 t3 : Bool) (a1 a2 a3 : Addr) : It :=
  ⟨fun i H => ∃ (l1 l2 l3 : List V) (x1 x2 x3 : V), SqA K t1 H a1 l1 ∧ SqA K t2 H a2 l2 ∧ SqA K t3 H a3 l3 ∧ l1[i]? = some x1 ∧ l2[i]? = some x2 ∧ l3[i]? = some x3,
    fun i H v H' => ∃ T x1 x2 x3, v = .ref T ∧ H T = none ∧ H' = upd H T (.tup [x1, x2, x3]) ∧ (∀ l, SqA K t1 H a1 l → l[i]? = some x1) ∧ (∀ l, SqA K t2 H a2 l → l[i]? = some x2) ∧ (∀ l, SqA K t3 H a3 l → l[i]? = some x3),
    fun i H => ∃ (l1 l2 l3 : List V), SqA K t1 H a1 l1 ∧ SqA K t2 H a2 l2 ∧ SqA K t3 H a3 l3 ∧ (i ≤ l1.length ∧ i ≤ l2.length ∧ i ≤ l3.length) ∧ (i = l1.length ∨ i = l2.length ∨ i = l3.length)⟩
theorem turn_g3 {P : Program} {w : World} {K : PySem.W.Frag} {elts : List Expr} {kk : Nat} {tpos : Pos} {t1 t2 t3 : Bool} {z TI TO i1 i2 i3 a1 a2 a3 : Addr} (S : ZipSep3 z TI TO i1 i2 i3 [i1, a1] [i2, a2] [i3, a3]) (n1 : a1 ≠ i1) (n2 : a2 ≠ i2) (n3 : a3 ≠ i3) :
    Turn P w K (.Tuple elts kk tpos) (Itg3 K t1 t2 t3 a1 a2 a3) [z, TI, TO, i1, i2, i3] z (fun i h => IsZip h z TI TO .none ∧ IsTupOf3 h TI (.ref i1) (.ref i2) (.ref i3) ∧ (∃ y1 y2 y3, IsTupOf3 h TO y1 y2 y3) ∧ IsItA h t1 i1 a1 i ∧ IsItA h t2 i2 a2 i ∧ IsItA h t3 i3 a3 i) where
  mem := by simp
  obj := fun i h st c hc => by
    obtain ⟨hz, hTI, ⟨y1, y2, y3, hTO⟩, h1, h2, h3⟩ := st
    have e' : c = z ∨ c = TI ∨ c = TO ∨ c = i1 ∨ c = i2 ∨ c = i3 := by simpa using hc
    rcases e' with q | q | q | q | q | q
    · rw [q]; exact ⟨_, hz, fun v q => nomatch q⟩
    · rw [q]; exact ⟨_, hTI, fun v q => nomatch q⟩
    · rw [q]; exact ⟨_, hTO, fun v q => nomatch q⟩
    · rw [q]; obtain ⟨o, fs, e, d⟩ := h1.obj; exact ⟨o, e, fun v q => by rw [d] at q; cases q⟩
    · rw [q]; obtain ⟨o, fs, e, d⟩ := h2.obj; exact ⟨o, e, fun v q => by rw [d] at q; cases q⟩
    · rw [q]; obtain ⟨o, fs, e, d⟩ := h3.obj; exact ⟨o, e, fun v q => by rw [d] at q; cases q⟩
  keep := fun i h h' st k => by
    obtain ⟨hz, hTI, ⟨y1, y2, y3, hTO⟩, h1, h2, h3⟩ := st
    exact ⟨k z (by simp) _ hz, k TI (by simp) _ hTI, ⟨y1, y2, y3, k TO (by simp) _ hTO⟩, h1.at_ fun o q => k i1 (by simp) o q, h2.at_ fun o q => k i2 (by simp) o q, h3.at_ fun o q => k i3 (by simp) o q⟩
  item := by
    intro X hP hw hK hc i pins s σ H E I hf st hg
    subst hP hw hK
    obtain ⟨hz, hTI, ⟨y1, y2, y3, hTO⟩, h1, h2, h3⟩ := st
    obtain ⟨l1, l2, l3, x1, x2, x3, q1, q2, q3, e1, e2, e3⟩ := hg
    obtain ⟨s1, r1, p1⟩ := seqA_of I q1
    obtain ⟨u1, f1, v1⟩ := r1.get e1
    obtain ⟨s2, r2, p2⟩ := seqA_of I q2
    obtain ⟨u2, f2, v2⟩ := r2.get e2
    obtain ⟨s3, r3, p3⟩ := seqA_of I q3
    obtain ⟨u3, f3, v3⟩ := r3.get e3
    have hzl : z < s.heap.objs.size := Heap.lt_size hz
    refine wpAny_pyNext_zipD3_item S (drawsA (A := X.A.in1) (I.ok.hd hc) i1 a1 n1 s1.toArray t1) (drawsA (A := X.A.in1) (I.ok.hd hc) i2 a2 n2 s2.toArray t2) (drawsA (A := X.A.in1) (I.ok.hd hc) i3 a3 n3 s3.toArray t3) hz hTI hTO ⟨h1, p1⟩ ⟨h2, p2⟩ ⟨h3, p3⟩ (lt_of_some f1) (lt_of_some f2) (lt_of_some f3) fun w1 w2 w3 h' tk g1 g2 g3 z' TO' d1 d2 d3 hT hsz hk => ?_
    have ee1 : w1 = u1 := by
      have k1 : s1[i]? = some w1 := by simpa using g1
      rw [f1] at k1
      exact (Option.some.inj k1).symm
    subst ee1
    have ee2 : w2 = u2 := by
      have k1 : s2[i]? = some w2 := by simpa using g2
      rw [f2] at k1
      exact (Option.some.inj k1).symm
    subst ee2
    have ee3 : w3 = u3 := by
      have k1 : s3[i]? = some w3 := by simpa using g3
      rw [f3] at k1
      exact (Option.some.inj k1).symm
    subst ee3
    refine ⟨_, rfl, wpAny_letOwnedTupleGo_zip (s := { s with heap := h', toks := tk }) z' fun h'' z'' sb => ?_⟩
    have hT2 : h''.get? s.heap.objs.size = some { cls := .type "tuple", data := .seq #[w1, w2, w3] } := (sb.2 _ (Nat.ne_of_gt hzl)).trans hT
    have new : ObjOk X.prog X.w (upd H s.heap.objs.size (.tup [x1, x2, x3])) h'' s.heap.objs.size (.tup [x1, x2, x3]) :=
      ⟨by show 3 ≤ sizeLine; decide, [w1, w2, w3], .cons v1 (.cons v2 (.cons v3 .nil)), ⟨_, hT2, rfl, _, rfl⟩⟩
    have I1 : Inv X pins σ (upd H s.heap.objs.size (.tup [x1, x2, x3])) { s with heap := h'', toks := tk } :=
      I.turnedNew (t' := tk) (ch := [z, TI, TO, i1, i2, i3]) (fun c o hb q => (sb.2 c (fun q' => hb (by simp [q']))).trans (hk c o (fun q' => hb (by simp [q'])) (fun q' => hb (by simp [q'])) (fun q' => hb (by simp [q'])) (fun q' => hb (by simp [q'])) (fun q' => hb (by simp [q'])) q)) hf (Nat.le_refl _) new
    refine ⟨.ref s.heap.objs.size, _, I1, rfl, ⟨_, x1, x2, x3, rfl, I.hok.fresh (Nat.le_refl _), rfl, fun l hl => by rw [seqA_inj I hl q1]; exact e1, fun l hl => by rw [seqA_inj I hl q2]; exact e2, fun l hl => by rw [seqA_inj I hl q3]; exact e3⟩, ⟨z'', ?_, ⟨w1, w2, w3, ?_⟩, ?_, ?_, ?_⟩, fun c hcm => ?_⟩
    · exact (sb.2 _ S.TIz).trans (hk _ _ S.TIz S.TITO S.TIi1 S.TIi2 S.TIi3 hTI)
    · exact (sb.2 _ S.TOz).trans TO'
    · exact d1.1.at_ fun o q => (sb.2 _ (Ne.symm S.zi1)).trans q
    · exact d2.1.at_ fun o q => (sb.2 _ (Ne.symm S.zi2)).trans q
    · exact d3.1.at_ fun o q => (sb.2 _ (Ne.symm S.zi3)).trans q
    · have hlt : c < s.heap.objs.size := by
        have e' : c = z ∨ c = TI ∨ c = TO ∨ c = i1 ∨ c = i2 ∨ c = i3 := by simpa using hcm
        rcases e' with q | q | q | q | q | q
        · rw [q]; exact hzl
        · rw [q]; exact Heap.lt_size hTI
        · rw [q]; exact Heap.lt_size hTO
        · rw [q]; obtain ⟨o, fs, e, d⟩ := h1.obj; exact Heap.lt_size e
        · rw [q]; obtain ⟨o, fs, e, d⟩ := h2.obj; exact Heap.lt_size e
        · rw [q]; obtain ⟨o, fs, e, d⟩ := h3.obj; exact Heap.lt_size e
      rw [upd_ne (Nat.ne_of_lt hlt)]
      exact (hf c hcm).1
  done := by
    intro X hP hw hK hc i pins s σ H E I hf st hg
    subst hP hw hK
    obtain ⟨hz, hTI, ⟨y1, y2, y3, hTO⟩, h1, h2, h3⟩ := st
    obtain ⟨l1, l2, l3, q1, q2, q3, ⟨b1, b2, b3⟩, hend⟩ := hg
    obtain ⟨s1, r1, p1⟩ := seqA_of I q1
    have k1 := r1.length
    obtain ⟨s2, r2, p2⟩ := seqA_of I q2
    have k2 := r2.length
    obtain ⟨s3, r3, p3⟩ := seqA_of I q3
    have k3 := r3.length
    exact wpAny_pyNext_zipD3_end S (drawsA (A := X.A.in1) (I.ok.hd hc) i1 a1 n1 s1.toArray t1) (drawsA (A := X.A.in1) (I.ok.hd hc) i2 a2 n2 s2.toArray t2) (drawsA (A := X.A.in1) (I.ok.hd hc) i3 a3 n3 s3.toArray t3) hz hTI hTO ⟨h1, p1⟩ ⟨h2, p2⟩ ⟨h3, p3⟩ (by simp; omega) (by simp; omega) (by simp; omega) (by simp; omega) fun h' tk hk => ⟨rfl, I.turnedL (t' := tk) (ch := [z, TI, TO, i1, i2, i3]) (fun c o hb q => hk c o (fun q' => hb (by simp [q'])) (fun q' => hb (by simp [q'])) (fun q' => hb (by simp [q'])) (fun q' => hb (by simp [q'])) (fun q' => hb (by simp [q'])) q) hf⟩
  self := fun A i s Q E st h => wpAny_pyIter_zip st.1 h
def iZg3 (K : PySem.W.Frag) (ta : TA) : TI := fun σ H R => ta σ H fun vs H1 => ∃ (t1 t2 t3 : Bool) (a1 a2 a3 : Addr) (l1 l2 l3 : List V), vs = [.ref a1, .ref a2, .ref a3] ∧ SqA K t1 H1 a1 l1 ∧ SqA K t2 H1 a2 l2 ∧ SqA K t3 H1 a3 l3 ∧ R (Itg3 K t1 t2 t3 a1 a2 a3) H1
theorem pi_zg3 {X : Cx} {e1 e2 e3 : Expr} {ta : TA} {p pos tpos : Pos} {elts : List Expr} {kk : Nat} (hg : Gl X "zip") (hm : X.mg "zip" = none) (ha : PA X [e1, e2, e3] ta)
    (hs : starEach [e1, e2, e3] X.env = (false, eval e1 X.env) :: starEach [e2, e3] X.env := by rfl) (hpl : (backTo pos (starEach [e2, e3] X.env)).any (·.1) = false := by rfl) :
    PI X (.Tuple elts kk tpos) (.Call (.Name "zip" p) [e1, e2, e3] [] pos) (iZg3 X.K ta) := by
  refine ⟨fun pins s σ H R I h => ?_⟩
  refine Call_ (ld_blt I hg hm PyProof.Rows.boot_zip (PyProof.Rows.callWith_type1 (thn (ha.run pos pins s σ H _ I h) fun us sh ⟨vs, HH, II, rv, qq⟩ => ?_) hs hpl))
  obtain ⟨t1, t2, t3, a1, a2, a3, l1, l2, l3, ex, q1, q2, q3, q⟩ := qq
  subst ex
  obtain ⟨s1, r1, p1⟩ := seqA_of II q1
  have z1 : @LT.lt Nat _ a1 sh.heap.objs.size := p1.lt
  obtain ⟨s2, r2, p2⟩ := seqA_of II q2
  have z2 : @LT.lt Nat _ a2 sh.heap.objs.size := p2.lt
  obtain ⟨s3, r3, p3⟩ := seqA_of II q3
  have z3 : @LT.lt Nat _ a3 sh.heap.objs.size := p3.lt
  cases rv with
  | cons w1 rv =>
    cases rv with
    | cons w2 rv =>
      cases rv with
      | cons w3 rv =>
        cases rv
        cases w1
        cases w2
        cases w3
        refine zip_begins3 (beginsA t1 a1 s1.toArray) (beginsA t2 a2 s2.toArray) (beginsA t3 a3 s3.toArray) p1 p2 p3 fun h' hz hTI hTO g1 g2 g3 hsz hk => wpAny_pyIter_zip hz ?_
        have I2 : Inv X pins σ HH { sh with heap := h' } := II.kept (t' := sh.toks) hk
        refine ⟨sh.heap.objs.size + 5, [sh.heap.objs.size + 5, sh.heap.objs.size + 3, sh.heap.objs.size + 4, sh.heap.objs.size, sh.heap.objs.size + 1, sh.heap.objs.size + 2], _, _, HH, rfl, I2, turn_g3 (S := ?_) (nne (by omega)) (nne (by omega)) (nne (by omega)), ⟨hz, hTI, ⟨_, _, _, hTO⟩, isItA_new g1, isItA_new g2, isItA_new g3⟩, fun c hcm => ?_, q⟩
        · exact ⟨nne (by omega), nne (by omega), nne (by omega), nne (by omega), List.mem_cons_self, nmem (by omega) (by omega), nmem (by omega) (by omega), nne (by omega), List.mem_cons_self, nmem (by omega) (by omega), nmem (by omega) (by omega), nne (by omega), List.mem_cons_self, nmem (by omega) (by omega), nmem (by omega) (by omega), nmem (by omega) (by omega), nmem (by omega) (by omega), nmem (by omega) (by omega), nmem (by omega) (by omega), nmem (by omega) (by omega), nmem (by omega) (by omega)⟩
        · have e' : c = sh.heap.objs.size + 5 ∨ c = sh.heap.objs.size + 3 ∨ c = sh.heap.objs.size + 4 ∨ c = sh.heap.objs.size ∨ c = sh.heap.objs.size + 1 ∨ c = sh.heap.objs.size + 2 := by simpa using hcm
          have hle : sh.heap.objs.size ≤ c := by
            rcases e' with z | z | z | z | z | z <;> rw [z] <;> first | exact Nat.le_refl _ | exact Nat.le_add_right _ _
          exact II.fpOk hle (II.hok.fresh hle)
end M3
set_option Elab.async false
set_option linter.all false
set_option maxRecDepth 100000
set_option maxHeartbeats 4000000
namespace M3
open PySem PySem.Spec PyProof.Rows L2
/-- a walked thing, laid aside while it is walked -/
structure Aside (K : Kf) (B F : Hp) (tu : Bool) (a : Addr) (vs : List V) (B1 : Hp) (back : MH → MH) : Prop where
  sub : ∀ b o, B b = some o → B1 b = some o
  stays : ∀ B2 F2 E2 h2 σ2 H2, (∀ b o, B1 b = some o → B2 b = some o) → Le F F2 → Rel K B2 F2 E2 h2 σ2 H2 → SqA K tu H2 a vs
  bak : ∀ F2 E2 h2 σ2 H2, Le F F2 → Rel K B1 F2 E2 h2 σ2 H2 → Rel K B F2 E2 (back h2) σ2 H2
  vl : ∀ F2 h2 H2 r v, Le F F2 → RvOk K B1 F2 h2 H2 r v → RvOk K B F2 (back h2) H2 r v
theorem aside_of {K : Kf} {B F : Hp} {E : En} {h : MH} {σ : L2.St} {H : Hp} {d : D} {v : V} {k : List D → MH → (MH → MH) → Prop} (R : Rel K B F E h σ H) (rp : Rep K F d v) (q : iterD h d k) :
    ∃ a tu xs vs B1 h1 back, v = .ref a ∧ Reps K F xs vs ∧ k xs h1 back ∧ Rel K B1 F E h1 σ H ∧ Aside K B F tu a vs B1 back ∧ SqA K tu H a vs := by
  cases rp with
  | @tup a vs ds q' rs => exact ⟨a, true, ds, vs, B, h, id, rfl, rs, q, R, ⟨fun _ _ e => e, fun _ F2 _ _ _ _ _ l2 R2 => R2.sqT (l2.sqT q'), fun _ _ _ _ _ _ R => R, fun _ _ _ _ _ _ q => q⟩, R.sqT q'⟩
  | @lst a vs ds q' rs => exact ⟨a, false, ds, vs, B, h, id, rfl, rs, q, R, ⟨fun _ _ e => e, fun _ F2 _ _ _ _ _ l2 R2 => .of (R2.frz _ _ (l2.ls _ _ q')).1, fun _ _ _ _ _ _ R => R, fun _ _ _ _ _ _ q => q⟩, .of (R.frz _ _ q').1⟩
  | @scr a ns q' => exact ⟨a, false, ns.map D.int, _, B, h, id, rfl, Reps.ints ns, q, R, ⟨fun _ _ e => e, fun _ F2 _ _ _ _ _ l2 R2 => R2.sqL (l2.sqL q'), fun _ _ _ _ _ _ R => R, fun _ _ _ _ _ _ q => q⟩, R.sqL q'⟩
  | ref a =>
    have q : (match h a with
      | some (.lst xs) => k xs (del h a) (fun h2 => put h2 a (.lst xs))
      | _ => False) := q
    cases e : h a with
    | none => rw [e] at q; exact q.elim
    | some m =>
      rw [e] at q
      cases m with
      | lst xs =>
        obtain ⟨vs, e2, rs⟩ := R.cel a _ e
        have b := R.Bh e
        refine ⟨a, false, xs, vs, upd B a (.lst vs), del h a, _, rfl, rs, q, R.hide e e2, ⟨fun c o ec => by rw [upd_ne (ne_of_none ec b)]; exact ec, fun B2 F2 _ _ _ _ sb _ R2 => .of (R2.out a _ (sb _ _ upd_same)).1, ?_, ?_⟩, .of e2⟩
        · intro F2 E2 h2 σ2 H2 l2 R2
          exact R2.show b fun z => ⟨vs, z, rs.mono l2⟩
        · intro F2 h2 H2 r v l2 q
          exact q.show b
      | dct xs => exact q.elim
      | ins C fs => exact q.elim
  | _ => exact q.elim
/-- each turn makes a new tuple -/
def YTup (f : Nat → List V → Prop) : Nat → Hp → V → Hp → Prop := fun i H v H' => ∃ T vs, v = .ref T ∧ H T = none ∧ H' = upd H T (.tup vs) ∧ f i vs
theorem Src.tups {K : Kf} {B F B0 : Hp} {items : List D} {J : It} {f : Nat → List V → Prop} {G : Hp → Prop} {back : MH → MH} (w : Walk J items.length G (YTup f)) (r : ∀ i vs, i < items.length → f i vs → ∃ ds, items[i]? = some (.tup ds) ∧ Reps K F ds vs)
    (hG : ∀ B2 F2 E2 h2 σ2 H2, (∀ a o, B a = some o → B2 a = some o) → Le F F2 → Rel K B2 F2 E2 h2 σ2 H2 → G H2)
    (bk : ∀ F2 E2 h2 σ2 H2, Le F F2 → Rel K B F2 E2 h2 σ2 H2 → Rel K B0 F2 E2 (back h2) σ2 H2) (vl : ∀ F2 h2 H2 r v, Le F F2 → RvOk K B F2 h2 H2 r v → RvOk K B0 F2 (back h2) H2 r v) : Src K B0 F items B back J := by
  refine ⟨⟨G, _, w, hG, ?_⟩, bk, vl⟩
  rintro B2 F2 E2 h2 σ2 H2 i x H3 sb l R hi ⟨T, vs, rfl, nT, rfl, e⟩
  obtain ⟨ds, ed, rs⟩ := r i vs hi e
  have l2 : Le F2 (upd F2 T (.tup vs)) := Le.new (R.noF nT)
  exact ⟨_, _, ed, l2, R.newF nT, .tup (.inl (.inl upd_same)) (rs.mono (l.trans l2))⟩
def zipD2 (xs ys : List D) : List D := List.zipWith (fun x y => D.tup [x, y]) xs ys
def zipD3 (xs ys zs : List D) : List D := List.zipWith (fun x yz => D.tup [x, yz.1, yz.2]) xs (ys.zip zs)
def mZip2 (ta : TAm) : TIm := fun E h Kn Kx => ta E h (fun ds h' => match ds with
  | [d1, d2] => iterD h' d1 fun xs h1 b1 => iterD h1 d2 fun ys h2 b2 => Kn (zipD2 xs ys) h2 fun h3 => b1 (b2 h3)
  | _ => False) Kx
def mZip3 (ta : TAm) : TIm := fun E h Kn Kx => ta E h (fun ds h' => match ds with
  | [d1, d2, d3] => iterD h' d1 fun xs h1 b1 => iterD h1 d2 fun ys h2 b2 => iterD h2 d3 fun zs h3 b3 => Kn (zipD3 xs ys zs) h3 fun h4 => b1 (b2 (b3 h4))
  | _ => False) Kx
theorem walk_g2 {K : Kf} {t1 t2 : Bool} {a1 a2 : Addr} {l1 l2 : List V} {n : Nat} (e1 : n = min l1.length l2.length) :
    Walk (Itg2 K t1 t2 a1 a2) n (fun H => SqA K t1 H a1 l1 ∧ SqA K t2 H a2 l2) (YTup fun i vs => ∃ x y, l1[i]? = some x ∧ l2[i]? = some y ∧ vs = [x, y]) where
  goes := fun i H hi q => ⟨l1, l2, l1[i]'(by omega), l2[i]'(by omega), q.1, q.2, List.getElem?_eq_getElem _, List.getElem?_eq_getElem _⟩
  stops := fun H q => ⟨l1, l2, q.1, q.2, ⟨by omega, by omega⟩, by omega⟩
  yields := fun i H v H' _ q ⟨T, x, y, h1, h2, h3, h4, h5⟩ => ⟨T, [x, y], h1, h2, h3, x, y, h4 l1 q.1, h5 l2 q.2, rfl⟩
theorem walk_g3 {K : Kf} {t1 t2 t3 : Bool} {a1 a2 a3 : Addr} {l1 l2 l3 : List V} {n : Nat} (e1 : n = min l1.length (min l2.length l3.length)) :
    Walk (Itg3 K t1 t2 t3 a1 a2 a3) n (fun H => SqA K t1 H a1 l1 ∧ SqA K t2 H a2 l2 ∧ SqA K t3 H a3 l3) (YTup fun i vs => ∃ x y z, l1[i]? = some x ∧ l2[i]? = some y ∧ l3[i]? = some z ∧ vs = [x, y, z]) where
  goes := fun i H hi q => ⟨l1, l2, l3, l1[i]'(by omega), l2[i]'(by omega), l3[i]'(by omega), q.1, q.2.1, q.2.2, List.getElem?_eq_getElem _, List.getElem?_eq_getElem _, List.getElem?_eq_getElem _⟩
  stops := fun H q => ⟨l1, l2, l3, q.1, q.2.1, q.2.2, ⟨by omega, by omega, by omega⟩, by omega⟩
  yields := fun i H v H' _ q ⟨T, x, y, z, h1, h2, h3, h4, h5, h6⟩ => ⟨T, [x, y, z], h1, h2, h3, x, y, z, h4 l1 q.1, h5 l2 q.2.1, h6 l3 q.2.2, rfl⟩
theorem mi_zip2 {X : Cx} {W : WX} {e1 e2 : Expr} {ta : TAm} {p pos tpos : Pos} {elts : List Expr} {kk : Nat} (hg : Gl X "zip") (hm : X.mg "zip" = none) (ha : MA X W [e1, e2] ta)
    (hs : starEach [e1, e2] X.env = (false, eval e1 X.env) :: starEach [e2] X.env := by rfl) (hpl : (backTo pos (starEach [e2] X.env)).any (·.1) = false := by rfl) :
    MI X W (.Tuple elts kk tpos) (.Call (.Name "zip" p) [e1, e2] [] pos) (mZip2 ta) := fun B => (pi_zg2 hg hm (ha B) hs hpl).impM fun σ H Rr ⟨F, E, h, Kn, Kx, R, ht, hx, hn⟩ => by
  refine ⟨F, E, h, _, Kx, R, ht, hx, fun ds h' F' H' vs l R' r k => ?_⟩
  match ds, vs, r, k with
  | [d1, d2], [v1, v2], .cons r1 (.cons r2 .nil), k =>
    obtain ⟨a1, t1, xs, us, B1, h1, b1, rfl, rs1, k, R1, A1, s1⟩ := aside_of R' r1 k
    obtain ⟨a2, t2, ys, ws, B2, h2, b2, rfl, rs2, k, R2, A2, s2⟩ := aside_of R1 r2 k
    refine ⟨t1, t2, a1, a2, us, ws, rfl, s1, s2, hn (zipD2 xs ys) h2 _ F' H' B2 _ l R2 (Src.tups (walk_g2 (l1 := us) (l2 := ws) (by simp [zipD2, rs1.len, rs2.len])) ?_ ?_ ?_ ?_) k⟩
    · rintro i vs hi ⟨x, y, e1, e2, rfl⟩
      obtain ⟨d, ed, rd⟩ := rs1.getV e1
      obtain ⟨e, ee, re⟩ := rs2.getV e2
      exact ⟨[d, e], by simp [zipD2, List.getElem?_zipWith, ed, ee], .cons rd (.cons re .nil)⟩
    · intro B3 F3 E3 h3 σ3 H3 sb l3 R3
      exact ⟨A1.stays B3 F3 E3 h3 σ3 H3 (fun b o e => sb b o (A2.sub b o e)) l3 R3, A2.stays B3 F3 E3 h3 σ3 H3 sb l3 R3⟩
    · intro F3 E3 h3 σ3 H3 l3 R3
      exact A1.bak F3 E3 _ σ3 H3 l3 (A2.bak F3 E3 h3 σ3 H3 l3 R3)
    · intro F3 h3 H3 r v l3 q
      exact A1.vl F3 _ H3 r v l3 (A2.vl F3 h3 H3 r v l3 q)
theorem mi_zip3 {X : Cx} {W : WX} {e1 e2 e3 : Expr} {ta : TAm} {p pos tpos : Pos} {elts : List Expr} {kk : Nat} (hg : Gl X "zip") (hm : X.mg "zip" = none) (ha : MA X W [e1, e2, e3] ta)
    (hs : starEach [e1, e2, e3] X.env = (false, eval e1 X.env) :: starEach [e2, e3] X.env := by rfl) (hpl : (backTo pos (starEach [e2, e3] X.env)).any (·.1) = false := by rfl) :
    MI X W (.Tuple elts kk tpos) (.Call (.Name "zip" p) [e1, e2, e3] [] pos) (mZip3 ta) := fun B => (pi_zg3 hg hm (ha B) hs hpl).impM fun σ H Rr ⟨F, E, h, Kn, Kx, R, ht, hx, hn⟩ => by
  refine ⟨F, E, h, _, Kx, R, ht, hx, fun ds h' F' H' vs l R' r k => ?_⟩
  match ds, vs, r, k with
  | [d1, d2, d3], [v1, v2, v3], .cons r1 (.cons r2 (.cons r3 .nil)), k =>
    obtain ⟨a1, t1, xs, us, B1, h1, b1, rfl, rs1, k, R1, A1, s1⟩ := aside_of R' r1 k
    obtain ⟨a2, t2, ys, ws, B2, h2, b2, rfl, rs2, k, R2, A2, s2⟩ := aside_of R1 r2 k
    obtain ⟨a3, t3, zs, us3, B3, h3, b3, rfl, rs3, k, R3, A3, s3⟩ := aside_of R2 r3 k
    refine ⟨t1, t2, t3, a1, a2, a3, us, ws, us3, rfl, s1, s2, s3, hn (zipD3 xs ys zs) h3 _ F' H' B3 _ l R3 (Src.tups (walk_g3 (l1 := us) (l2 := ws) (l3 := us3) (by simp [zipD3, rs1.len, rs2.len, rs3.len])) ?_ ?_ ?_ ?_) k⟩
    · rintro i vs hi ⟨x, y, z, e1, e2, e3, rfl⟩
      obtain ⟨d, ed, rd⟩ := rs1.getV e1
      obtain ⟨e, ee, re⟩ := rs2.getV e2
      obtain ⟨f, ef, rf⟩ := rs3.getV e3
      have ez : (ys.zip zs)[i]? = some (e, f) := by simp [List.getElem?_zip_eq_some, ee, ef]
      exact ⟨[d, e, f], by simp [zipD3, List.getElem?_zipWith, ed, ez], .cons rd (.cons re (.cons rf .nil))⟩
    · intro B4 F4 E4 h4 σ4 H4 sb l4 R4
      exact ⟨A1.stays B4 F4 E4 h4 σ4 H4 (fun b o e => sb b o (A3.sub b o (A2.sub b o e))) l4 R4, A2.stays B4 F4 E4 h4 σ4 H4 (fun b o e => sb b o (A3.sub b o e)) l4 R4, A3.stays B4 F4 E4 h4 σ4 H4 sb l4 R4⟩
    · intro F4 E4 h4 σ4 H4 l4 R4
      exact A1.bak F4 E4 _ σ4 H4 l4 (A2.bak F4 E4 _ σ4 H4 l4 (A3.bak F4 E4 h4 σ4 H4 l4 R4))
    · intro F4 h4 H4 r v l4 q
      exact A1.vl F4 _ H4 r v l4 (A2.vl F4 _ H4 r v l4 (A3.vl F4 h4 H4 r v l4 q))
end M3
set_option Elab.async false
set_option linter.all false
set_option maxRecDepth 100000
set_option maxHeartbeats 4000000
namespace M3
open PySem PySem.Spec PyProof.Rows L2
section
variable {X : Cx} {W : WX} {o e f : Expr} {to ty tx : TVm} {apos cpos pos : Pos}
/-! ### methods of a list at a cell -/
def cellL (h : MH) (d : D) (k : Addr → List D → Prop) : Prop := match d with
  | .ref p => (match h p with
    | some (.lst xs) => k p xs
    | _ => False)
  | _ => False
theorem cellL_of {K : Kf} {B F : Hp} {E : En} {h : MH} {σ : L2.St} {H : Hp} {d : D} {v : V} {k : Addr → List D → Prop} (R : Rel K B F E h σ H) (r : Rep K F d v) (q : cellL h d k) :
    ∃ p xs vs, v = .ref p ∧ d = .ref p ∧ h p = some (.lst xs) ∧ H p = some (.lst vs) ∧ Reps K F xs vs ∧ k p xs := by
  cases r with
  | ref a =>
    have q : (match h a with
      | some (.lst xs) => k a xs
      | _ => False) := q
    cases e : h a with
    | none => rw [e] at q; exact q.elim
    | some m =>
      rw [e] at q
      cases m with
      | lst xs =>
        obtain ⟨vs, e2, rs⟩ := R.cel a _ e
        exact ⟨a, xs, vs, rfl, rfl, e, e2, rs, q⟩
      | dct xs => exact q.elim
      | ins C fs => exact q.elim
  | _ => exact q.elim
theorem cellL_r {h : MH} {p : Addr} {xs : List D} {k : Addr → List D → Prop} (e : h p = some (.lst xs)) : cellL h (.ref p) k = k p xs := by
  show (match h p with
    | some (.lst xs) => k p xs
    | _ => False) = _
  rw [e]
theorem cellL_p {h : MH} {p : Addr} {xs : List D} {k : Addr → List D → Prop} : cellL (put h p (.lst xs)) (.ref p) k = k p xs := cellL_r put_same
def mApp (to tv : TVm) : TEm := fun E h Kn Kx => to E h (fun d h1 => cellL h1 d fun _ _ => tv E h1 (fun y h2 => cellL h2 d fun p xs => xs.length < sizeLine ∧ Kn (.d .non) (put h2 p (.lst (xs ++ [y])))) Kx) Kx
theorem me_append (ho : MV X W o to) (ha : MV X W e ty)
    (hbase : attributeBase o "append" X.env (eval o X.env) = eval o X.env := by rfl)
    (hfew : ((backTo cpos (starEach [e] X.env)).all (fun x => !x.1) && (backToKw cpos (keywordEach [] X.env)).all (fun x => x.1.isSome)
      && decide (([e] : List Expr).length + ([] : List Keyword).length + (if ([] : List Keyword).isEmpty then 0 else 1) < 30)) = true := by rfl)
    (hline : (apos.endLine == cpos.line) = true := by rfl) (hs : starEach [e] X.env = (false, eval e X.env) :: starEach [] X.env := by rfl) (hplain : (backTo cpos (starEach [] X.env)).any (·.1) = false := by rfl) :
    ME X W (.Call (.Attribute o "append" apos) [e] [] cpos) (mApp to ty) := fun B =>
  (pe_bm PySem.F.plainAttrs_list PySem.F.slot_list_append PySem.F.type_list_append mt_append (ho B) (pa_cons (ha B) pa_nil hs) hbase hfew hline hs hplain).impM fun σ H Q ⟨F, E, h, Kn, Kx, R, ht, hx, hn⟩ => by
    refine ⟨F, E, h, _, Kx, R, ht, hx, fun d h1 F1 H1 v l1 R1 r1 k1 => ?_⟩
    obtain ⟨p, xs, vs, rfl, rfl, ep, eH, rs, k1⟩ := cellL_of R1 r1 k1
    refine ⟨.inl ⟨rfl, vs, .of eH⟩, F1, E, h1, _, Kx, R1, k1, hx.up l1, fun y h2 F2 H2 u l2 R2 r2 k2 => ?_⟩
    obtain ⟨p, xs, vs, e1, e2, ep, eH, rs, k2⟩ := cellL_of R2 (r1.mono l2) k2
    cases e1
    exact ⟨p, vs, u, rfl, rfl, eH, by rw [← rs.len]; exact k2.1, hn (.d .non) _ F2 _ .non (l1.trans l2) (R2.write (m' := .lst (xs ++ [y])) ep ⟨_, upd_same, rs.app (.cons r2 .nil)⟩) .non k2.2⟩
def mPopAt (to tv : TVm) : TEm := fun E h Kn Kx => to E h (fun d h1 => cellL h1 d fun _ _ => tv E h1 (fun y h2 => cellL h2 d fun p xs => onInt y fun i => (-(2 ^ 63) ≤ i ∧ i < 2 ^ 63) ∧ (match ixN xs.length i with
  | some n => (match xs[n]? with
    | some z => Kn (.d z) (put h2 p (.lst (xs.eraseIdx n)))
    | none => False)
  | none => False)) Kx) Kx
theorem me_popAt (ho : MV X W o to) (ha : MV X W e ty)
    (hbase : attributeBase o "pop" X.env (eval o X.env) = eval o X.env := by rfl)
    (hfew : ((backTo cpos (starEach [e] X.env)).all (fun x => !x.1) && (backToKw cpos (keywordEach [] X.env)).all (fun x => x.1.isSome)
      && decide (([e] : List Expr).length + ([] : List Keyword).length + (if ([] : List Keyword).isEmpty then 0 else 1) < 30)) = true := by rfl)
    (hline : (apos.endLine == cpos.line) = true := by rfl) (hs : starEach [e] X.env = (false, eval e X.env) :: starEach [] X.env := by rfl) (hplain : (backTo cpos (starEach [] X.env)).any (·.1) = false := by rfl) :
    ME X W (.Call (.Attribute o "pop" apos) [e] [] cpos) (mPopAt to ty) := fun B =>
  (pe_bm PySem.F.plainAttrs_list PySem.F.slot_list_pop PySem.F.type_list_pop mt_popAt (ho B) (pa_cons (ha B) pa_nil hs) hbase hfew hline hs hplain).impM fun σ H Q ⟨F, E, h, Kn, Kx, R, ht, hx, hn⟩ => by
    refine ⟨F, E, h, _, Kx, R, ht, hx, fun d h1 F1 H1 v l1 R1 r1 k1 => ?_⟩
    obtain ⟨p, xs, vs, rfl, rfl, ep, eH, rs, k1⟩ := cellL_of R1 r1 k1
    refine ⟨.inl ⟨rfl, vs, .of eH⟩, F1, E, h1, _, Kx, R1, k1, hx.up l1, fun y h2 F2 H2 u l2 R2 r2 k2 => ?_⟩
    obtain ⟨p, xs, vs, e1, e2, ep, eH, rs, k2⟩ := cellL_of R2 (r1.mono l2) k2
    cases e1
    obtain ⟨i, rfl, rfl, k2, k3⟩ := int_of r2 k2
    cases en : ixN xs.length i with
    | none => rw [en] at k3; exact k3.elim
    | some n =>
      rw [en] at k3
      cases ez : xs[n]? with
      | none => simp only [ez] at k3
      | some z =>
        simp only [ez] at k3
        obtain ⟨w, ew, rw'⟩ := rs.get ez
        have q1 := (ixN_seq en).1
        rw [rs.len] at q1
        exact ⟨p, vs, i, n, w, rfl, rfl, eH, k2.1, k2.2, q1, ew, hn (.d z) _ F2 _ w (l1.trans l2) (R2.write (m' := .lst (xs.eraseIdx n)) ep ⟨_, upd_same, rs.erase n⟩) rw' k3⟩
def mExt (to tv : TVm) : TEm := fun E h Kn Kx => to E h (fun d h1 => cellL h1 d fun _ _ => tv E h1 (fun y h2 => onL h2 y fun zs => cellL h2 d fun p xs => xs.length + zs.length ≤ sizeLine ∧ Kn (.d .non) (put h2 p (.lst (xs ++ zs)))) Kx) Kx
theorem me_extend (ho : MV X W o to) (ha : MV X W e ty)
    (hbase : attributeBase o "extend" X.env (eval o X.env) = eval o X.env := by rfl)
    (hfew : ((backTo cpos (starEach [e] X.env)).all (fun x => !x.1) && (backToKw cpos (keywordEach [] X.env)).all (fun x => x.1.isSome)
      && decide (([e] : List Expr).length + ([] : List Keyword).length + (if ([] : List Keyword).isEmpty then 0 else 1) < 30)) = true := by rfl)
    (hline : (apos.endLine == cpos.line) = true := by rfl) (hs : starEach [e] X.env = (false, eval e X.env) :: starEach [] X.env := by rfl) (hplain : (backTo cpos (starEach [] X.env)).any (·.1) = false := by rfl) :
    ME X W (.Call (.Attribute o "extend" apos) [e] [] cpos) (mExt to ty) := fun B =>
  (pe_bm PySem.F.plainAttrs_list PySem.F.slot_list_extend PySem.F.type_list_extend mt_extend (ho B) (pa_cons (ha B) pa_nil hs) hbase hfew hline hs hplain).impM fun σ H Q ⟨F, E, h, Kn, Kx, R, ht, hx, hn⟩ => by
    refine ⟨F, E, h, _, Kx, R, ht, hx, fun d h1 F1 H1 v l1 R1 r1 k1 => ?_⟩
    obtain ⟨p, xs, vs, rfl, rfl, ep, eH, rs, k1⟩ := cellL_of R1 r1 k1
    refine ⟨.inl ⟨rfl, vs, .of eH⟩, F1, E, h1, _, Kx, R1, k1, hx.up l1, fun y h2 F2 H2 u l2 R2 r2 k2 => ?_⟩
    obtain ⟨b, zs, us, rfl, eb, rz, k2⟩ := lst_of R2 r2 k2
    obtain ⟨p, xs, vs, e1, e2, ep, eH, rs, k2⟩ := cellL_of R2 (r1.mono l2) k2
    cases e1
    exact ⟨p, b, vs, us, rfl, rfl, eH, eb, by rw [← rs.len, ← rz.len]; exact k2.1, hn (.d .non) _ F2 _ .non (l1.trans l2) (R2.write (m' := .lst (xs ++ zs)) ep ⟨_, upd_same, rs.app rz⟩) .non k2.2⟩
/-! ### dicts -/
def mGet (to ty tx : TVm) : TEm := fun E h Kn Kx => to E h (fun d h1 => onD h1 d fun _ => ty E h1 (fun y h2 => tx E h2 (fun z h3 => onD h3 d fun kvs => match keyD y with
  | some k => Kn (.d ((valD kvs k).getD z)) h3
  | none => False) Kx) Kx) Kx
theorem me_get (hu : X.A.units + 1 < cLine) (ho : MV X W o to) (he : MV X W e ty) (hf : MV X W f tx) (m : M2 X o "get" apos e f cpos := by exact ⟨by rfl, by rfl, by rfl, by rfl⟩) : ME X W (.Call (.Attribute o "get" apos) [e, f] [] cpos) (mGet to ty tx) := fun B =>
  (pe_dget2 hu (ho B) (he B) (hf B) m).impM fun σ H Q ⟨F, E, h, Kn, Kx, R, ht, hx, hn⟩ => by
    refine ⟨F, E, h, _, Kx, R, ht, hx, fun d h1 F1 H1 v l1 R1 r1 k1 => ?_⟩
    obtain ⟨a, kvs, vs, rfl, ed, rs, k1⟩ := dct_of R1 r1 k1
    refine ⟨a, rfl, .inl ⟨vs, ed⟩, F1, E, h1, _, Kx, R1, k1, hx.up l1, fun y h2 F2 H2 u l2 R2 r2 k2 => ?_⟩
    refine ⟨F2, E, h2, _, Kx, R2, k2, (hx.up l1).up l2, fun z h3 F3 H3 w l3 R3 r3 k3 => ?_⟩
    obtain ⟨a', o', o2, e1, g, q, zz⟩ := dget_ok (p := fun o => Kn (.d (o.getD z)) h3) R3 (r1.mono (l2.trans l3)) (r2.mono l3) k3
    cases e1
    refine ⟨o2, g, ?_⟩
    rcases zz with ⟨rfl, rfl⟩ | ⟨dd, vv, rfl, rfl, rr⟩
    · exact hn (.d z) h3 F3 H3 w ((l1.trans l2).trans l3) R3 r3 q
    · exact hn (.d dd) h3 F3 H3 vv ((l1.trans l2).trans l3) R3 rr q
def mDNew : TEm := fun _ h Kn _ => Kn (.od []) h
theorem me_dnew : ME X W (.Dict [] [] pos) mDNew := fun B => pe_dnewK.impM fun σ H Q ⟨F, E, h, Kn, Kx, R, ht, hx, hn⟩ => fun p hp =>
  hn (.od []) h F _ _ (Le.refl F) (R.newO hp) ⟨p, [], rfl, upd_same, .nil, R.noB hp, R.noF hp, R.noh hp⟩ ht
/-! ### a, b, c = x, y, z of local names -/
def sPar3 (i j l : Nat) (ta : TAm) : TSm := fun N E h => ta E h (fun ds h' => match ds with
  | [x, y, z] => N.nx (((E.set i (some x)).set j (some y)).set l (some z)) h'
  | _ => False) N.xs
theorem ms_par3 {i j l : Nat} {x y z : Str} {a b c : Expr} {ta : TAm} {px py pz pt pos : Pos} {kt k2 pt2} (hc : X.calm = true) (hN : X.N.Nodup) (hi : X.N[i]? = some x) (hj : X.N[j]? = some y) (hl : X.N[l]? = some z) (hij : i ≠ j) (hil : i ≠ l) (hjl : j ≠ l)
    (hx : X.env.scope.names.lookup x = some .local) (hy : X.env.scope.names.lookup y = some .local) (hz : X.env.scope.names.lookup z = some .local) (ha : MA X W [a, b, c] ta)
    (hw : swappedStores [.Tuple [.Name x px, .Name y py, .Name z pz] kt pt] (.Tuple [a, b, c] k2 pt2) X.env = pure (some [x, y, z]))
    (hs : swapsWithSole [.Tuple [.Name x px, .Name y py, .Name z pz] kt pt] (.Tuple [a, b, c] k2 pt2) pos.line X.env = pure false := by rfl) :
    MS X W (.Assign [.Tuple [.Name x px, .Name y py, .Name z pz] kt pt] (.Tuple [a, b, c] k2 pt2) pos) (sPar3 i j l ta) := fun B => (ps_par3 hc hN hi hj hl hij hil hjl hx hy hz (ha B) hw hs).impM fun D σ H ⟨F, E, h, N, R, ht, c⟩ => by
  refine ⟨F, E, h, _, N.xs, R, ht, fun x h' F' H' a dx l R' q k => c.2.2.2.2 x h' F' E σ H' a dx l R' q k, fun ds h' F' H' vs l R' r k => ?_⟩
  match ds, vs, r, k with
  | [_, _, _], [_, _, _], .cons r1 (.cons r2 (.cons r3 .nil)), k => exact ⟨_, _, _, rfl, c.1 _ h' F' _ H' l (((R'.set r1 i).set r2 j).set r3 _) k⟩
/-! ### e.f op= value -/
def HasIn (K : Kf) (rd : V → V → Hp → VK → Prop) (g : G2) : Prop := ∀ (B F : Hp) (E : En) (h : MH) (σ : L2.St) (H : Hp) (x y : D) (vx vy : V) (Q : VK) (Kn : RV → MH → Prop), Rel K B F E h σ H → Rep K F x vx → Rep K F y vy → g x y h Kn →
  (∀ r h' F' H' v, Le F F' → Rel K B F' E h' σ H' → RvOk K B F' h' H' r v → Kn r h' → Q v H') → rd vx vy H Q
def sFldAugM (C : Addr) (n : Str) (to tv : TVm) (g : G2) : TSm := fun N E h => to E h (fun d h1 => onIns h1 d C fun a fs => match fs.lookup n with
  | some x => tv E h1 (fun y h2 => g x y h2 fun r h3 => onIns h3 (.ref a) C fun _ fs' => fs'.length < 1000 ∧ N.nx E (put h3 a (.ins C (putD n r.frz fs')))) N.xs
  | none => False) N.xs
theorem ms_fldaug {value : Expr} {m : Str} {C : Addr} {tpos : Pos} {tv : TVm} {op : Operator} {rd : V → V → Hp → VK → Prop} {g : G2} (ha : MV X W o to) (hv : MV X W value tv) (c : Cls X.K C) (na : NoAttr X.K C m) (hop : InOp X op rd) (hg : HasIn X.K rd g) : MS X W (.AugAssign (.Attribute o m tpos) op value pos) (sFldAugM C m to tv g) := fun B =>
  (ps_fldaug (ha B) (hv B) hop).impM fun D σ H ⟨F, E, h, N, R, ht, cc⟩ => by
    refine ⟨F, E, h, _, N.xs, R, ht, fun x h' F' H' a dx l R' q k => cc.2.2.2.2 x h' F' E σ H' a dx l R' q k, fun d h1 F1 H1 v l1 R1 r1 k1 => ?_⟩
    obtain ⟨a, fs, dx, ws, rfl, rfl, ea, eH, rs, k1⟩ := ins_of R1 r1 k1
    cases el : fs.lookup m with
    | none => simp only [el] at k1
    | some x =>
      simp only [el] at k1
      obtain ⟨vx, ev, rx⟩ := rs.some el
      refine ⟨a, C, dx, ws, vx, rfl, eH, c, na, ev, F1, E, h1, _, N.xs, R1, k1, fun x h' F' H' a dx l R' q k => cc.2.2.2.2 x h' F' E σ H' a dx (l1.trans l) R' q k, fun y h2 F2 H2 u l2 R2 r2 k2 => ?_⟩
      refine hg B F2 E h2 σ H2 x y vx u _ _ R2 (rx.mono l2) r2 k2 fun r h3 F3 H3 w l3 R3 q3 k3 => ?_
      obtain ⟨F4, l4, R4, rp⟩ := q3.frz R3
      obtain ⟨a', fs', dx', ws', e1, e2, ea', eH', rs', hl, k3⟩ := ins_of (K := X.K) (F := F4) R4 (.ref a) k3
      cases e1
      refine ⟨dx', ws', eH', by rw [← rs'.len]; exact hl, ?_⟩
      exact cc.1 E _ F4 σ _ (((l1.trans l2).trans l3).trans l4) (R4.write (m' := .ins C (putD m r.frz fs')) ea' ⟨dx', _, upd_same, RepF.put rp rs'⟩) k3
theorem hin_add {K : Kf} : HasIn K rAdd (gII (fun _ _ => True) fun i j => .int (i + j)) := fun B F E h σ H x y vx vy Q Kn R rx ry q hn => by
  obtain ⟨i, rfl, rfl, q⟩ := int_of rx q
  obtain ⟨j, rfl, rfl, _, q⟩ := int_of ry q
  exact ⟨i, j, rfl, rfl, hn (.d (.int (i + j))) h F H _ (Le.refl F) R (.int _) q⟩
end
end M3
set_option Elab.async false
set_option linter.all false
set_option maxRecDepth 100000
set_option maxHeartbeats 4000000
namespace L2
open PySem PySem.Spec PyProof.Rows
/-! ### set(list of ints), the set in the layer's kind -/
abbrev m3Set0 (w : World) : Obj := { cls := .type "set", dict := none, data := .set #[] 0 (.fresh 0 0 (!w.params.followText "set-order")) }
section
variable {P : Program} {w : World} {A : Around} {E : Value → Shared → Prop} {s : Shared}
set_option maxHeartbeats 3200000 in
theorem m3_call_set {l : Addr} {items : Array Value} (ns : List Int) {Q : Value → Shared → Prop} (hh : A.handled = none) (hl : s.heap.IsList l items) (hit : IntsAre items.toList ns) (hb : ns.length + 1 < scanBound)
    (h : ∀ (hp : Heap) (tk c : Nat), SetR w hp s.heap.objs.size (fun j => decide (j ∈ ns)) c → c ≤ ns.length → (∀ b o, s.heap.get? b = some o → hp.get? b = some o) → Q (.ref s.heap.objs.size) { s with heap := hp, toks := tk }) : wpAny (model P w) A (call (.type "set") [.ref l]) Q E s := by
  have sz : items.size = ns.length := by simpa using IntsAre.length hit
  obtain ⟨c, tl, hmro⟩ := F.called_set.mro; have hmade := F.called_set.made; have hsub := F.called_set.sub
  refine wpAny_call (codeAny_of_tree ?_); show wpAny _ _ (callAny (.type "set") _) _ _ _
  refine wpAny_pure ⟨Code.quiet_builtin _ (by decide +kernel), codeAny_builtin F.entry_type_call ?_⟩; rw [Around.under_plain (weight_type_call_type "set" [.ref l] []) rfl]
  have n1 := F.called_set.notType; have n2 := F.called_set.canCreate; have n3 := F.typeCall_set_1 (.ref l)
  repeat (any_goals (first | assumption | wp_step))
  refine codeAny_mono (code_set_led1 (.ref l) (E := E) (Q₁ := fun ob sh => ob = .ref s.heap.objs.size ∧ sh = { s with heap := s.heap.push (m3Set0 w) }) ⟨rfl, rfl⟩) fun r s1 hr => ?_
  match r, hr with
  | .error e, hr => exact hr
  | .ok (.ret ob), hr =>
    obtain ⟨rfl, rfl⟩ := hr
    have g0 : (s.heap.push (m3Set0 w)).get? s.heap.objs.size = some (m3Set0 w) := Heap.get?_push_size _ rfl
    have ty : Shared.TypeIs { s with heap := s.heap.push (m3Set0 w) } (.ref s.heap.objs.size) "set" := ⟨_, g0, rfl⟩
    have i1 := F.called_set.init.lookup; have i2 := F.called_set.init.bind (.ref s.heap.objs.size)
    repeat (any_goals (first | assumption | wp_step))
    refine codeAny_mono (codeAny_call_builtin (R := wants (fun r sh => r = .none ∧ ∃ hp tk c, sh = { s with heap := hp, toks := tk } ∧ SetR w hp s.heap.objs.size (fun j => decide (j ∈ ns)) c ∧ c ≤ ns.length ∧ (∀ b o, s.heap.get? b = some o → hp.get? b = some o)) E) F.called_set.init.plain F.entry_set_init (check_set_init_1 ty ?_)) fun r2 s2 hr2 => ?_
    · obtain ⟨⟨kc, kd, kx, ks⟩, hol, hc, nl, hd⟩ := hl
      simp only at hc hd
      subst hc hd
      have hol2 : (s.heap.push (m3Set0 w)).get? l = some { cls := .type "list", dict := kd, data := .seq items nl, slots := ks } := Heap.get?_push_of_some _ hol
      have b1 := F.sub_list_set; have b2 := F.sub_list_frozenset
      have ne : (Value.type "list" == Value.type "dict") = false := by decide
      have il : (s.heap.push (m3Set0 w)).IsList l items := ⟨_, hol2, rfl, nl, rfl⟩
      unfold Builtin.«set.__init__» noKeywords Builtin.Frozenset.updateFrom
      generalize hPI : pyIter = PI
      wp_walk
      subst hPI
      refine wpAny_pyIter_list il (wpAny_bind (wpAny_runValue ?_))
      have lS : l < s.heap.objs.size := Heap.lt_size hol
      have hz : (s.heap.push (m3Set0 w)).objs.size = s.heap.objs.size + 1 := Heap.size_push ..
      have nI : l ≠ (s.heap.push (m3Set0 w)).objs.size := by rw [hz]; exact Nat.ne_of_lt (Nat.lt_succ_of_lt lS)
      have nf : s.heap.objs.size ∉ [(s.heap.push (m3Set0 w)).objs.size, l] := by
        rw [hz]; intro z
        rcases List.mem_cons.mp z with z | z
        · exact Nat.ne_of_lt (Nat.lt_succ_self _) z
        · rcases List.mem_cons.mp z with z | z
          · exact Nat.ne_of_gt lS z
          · cases z
      have vals : ∀ (i : Nat) (v : Value), items[i]? = some v → ∃ k t, ns[i]? = some k ∧ v = .int k t := fun i v hv => by
        have hi : i < ns.length := by rw [← sz]; exact (Array.getElem?_eq_some_iff.mp hv).1
        obtain ⟨t, e⟩ := PyProof.Rows.IntsAre.int_at hit i v (by rw [Array.getElem?_toList]; exact hv)
        exact ⟨ns[i], t, List.getElem?_eq_getElem hi, by rw [e, List.getD_eq_getElem?_getD, List.getElem?_eq_getElem hi]; rfl⟩
      refine set_update_ints ((Walks.list (by simp [hh] : A.in1.in1.in1.handled = none) _ l nI items).toS) s.heap.objs.size nf ns sz hb vals (items.size - 0) 0 _ (by omega) (Nat.zero_le _) ⟨⟨_, Heap.get?_push_size _ rfl, rfl, rfl⟩, (il.push _)⟩ ⟨0, Nat.le_refl 0, setR_new_at (Heap.get?_push_of_some _ g0)⟩ ?_
      rintro ⟨hp, g2, d2, tk2, os2⟩ c2 hm hc2 hS2
      obtain rfl : g2 = s.gens := hm.gens
      obtain rfl : d2 = s.drawn := hm.drawn
      obtain rfl : os2 = s.os := hm.os
      show wpAny _ _ _ _ _ _
      refine wpAny_pure ?_
      show wpAny _ _ (ret Value.none) _ _ _
      rw [sz] at hc2
      refine wpAny_pure ⟨rfl, hp, tk2, c2, rfl, hS2, hc2, fun b o e => ?_⟩
      have bl : b < s.heap.objs.size := Heap.lt_size e
      refine hm.heap b o (fun z => ?_) (Heap.get?_push_of_some _ (Heap.get?_push_of_some _ e))
      rcases List.mem_cons.mp z with z | z
      · exact Nat.ne_of_lt bl z
      · rcases List.mem_cons.mp z with z | z
        · rw [hz] at z; exact Nat.ne_of_lt (Nat.lt_succ_of_lt bl) z
        · cases z
    · match r2, hr2 with
      | .error e, hr2 => exact hr2
      | .ok (.ret r), hr2 =>
        obtain ⟨rfl, hp, tk, c2, rfl, q1, q2, q3⟩ := hr2
        repeat (any_goals (first | assumption | wp_step))
        exact h _ _ _ q1 q2 q3
      | .ok .next, hr2 => exact hr2.elim
      | .ok .brk, hr2 => exact hr2.elim
      | .ok .cont, hr2 => exact hr2.elim
  | .ok .next, hr => exact hr.elim
  | .ok .brk, hr => exact hr.elim
  | .ok .cont, hr => exact hr.elim
end
/-- set(xs), xs a list of ints -/
def m3RSet (K : PySem.W.Frag) (w : World) : List V → Hp → VK → Prop := fun xs H Q => ∃ (l : Addr) (ns : List Int), xs = [.ref l] ∧ SqL K H l (ns.map V.int) ∧ ns.length < 64 ∧ ∀ p c, H p = none → c ≤ ns.length → Q (.ref p) (upd H p (SetO w p (fun j => decide (j ∈ ns)) c))
theorem m3_setR {X : Cx} (hc : X.calm = true) : CallR X (.type "set") (m3RSet X.K X.w) := by
  intro pins s σ H vs us Q I r h
  obtain ⟨l, ns, rfl, hq, h64, q⟩ := h
  rw [Vals.ref1 r]
  obtain ⟨its, rv, p, hz⟩ := I.list hq
  refine m3_call_set ns (I.ok.hd hc) p.isList (by simpa using ints_of_vals rv) (by unfold scanBound; omega) fun hp tk c R hc2 k => ?_
  exact ⟨.ref s.heap.objs.size, _, I.laid (t' := tk) k (Nat.le_refl _) (setO_new R), rfl, q _ c (I.hok.fresh (Nat.le_refl _)) hc2⟩
end L2
set_option Elab.async false
set_option linter.all false
set_option maxRecDepth 100000
set_option maxHeartbeats 4000000
namespace M3
open PySem PySem.Spec PyProof.Rows L2
section
variable {X : Cx} {W : WX} {e : Expr} {t : TVm} {p p2 pos : Pos}
/-! ### sorted(set(list of ints)) -/
def mSortSet (t : TVm) : TEm := fun E h Kn Kx => t E h (fun d h' => onLs h' d fun xs => onInts xs fun ns => ns.length < 64 ∧ ∀ ms : List Int, ms.Pairwise (· < ·) → (∀ k, k ∈ ms ↔ k ∈ ns) → Kn (.ol (ms.map D.int)) h') Kx
theorem me_sortSet {q : Pos} (hc : X.calm = true) (hg : Gl X "sorted") (hm : X.mg "sorted" = none) (hg2 : Gl X "set") (hm2 : X.mg "set" = none) (h : MV X W e t)
    (n1 : starEach [e] X.env = (false, eval e X.env) :: starEach [] X.env := by rfl) (n2 : (backTo q (starEach [] X.env)).any (·.1) = false := by rfl)
    (n3 : starEach [.Call (.Name "set" p2) [e] [] q] X.env = (false, eval (.Call (.Name "set" p2) [e] [] q) X.env) :: starEach [] X.env := by rfl) (n4 : (backTo pos (starEach [] X.env)).any (·.1) = false := by rfl) :
    ME X W (.Call (.Name "sorted" p) [.Call (.Name "set" p2) [e] [] q] [] pos) (mSortSet t) := fun B =>
  (pe_callB (cr_sortedSet hc) hg hm (by decide +kernel) (pa_cons (pe_callTy (m3_setR hc) hg2 hm2 (by decide +kernel) (pa_cons (h B) pa_nil n1) (by decide) (by decide) n1 n2) pa_nil n3) (by decide) (by decide) n3 n4).impM fun σ H Q ⟨F, E, h, Kn, Kx, R, ht, hx, hn⟩ => by
    refine ⟨F, E, h, _, Kx, R, ht, hx, fun d h' F' H' v l R' r k => ?_⟩
    obtain ⟨a, xs, vs, rfl, eq_, rs, k⟩ := lsq_of R' r k
    obtain ⟨ns, rfl, h64, k⟩ := onInts_of k
    rw [rs.of_ints] at eq_
    refine ⟨a, ns, rfl, eq_, h64, fun p c hp hc2 => ⟨p, _, c, rfl, upd_same, by omega, fun ms q pw mem ln hq => ?_⟩⟩
    have R2 := R'.newO (o := SetO X.w p (fun j => decide (j ∈ ns)) c) hp
    exact hn (.ol (ms.map D.int)) h' F' _ _ l (R2.newO hq) ⟨q, _, rfl, upd_same, Reps.ints ms, R2.noB hq, R2.noF hq, R2.noh hq⟩ (k ms pw fun k => by rw [mem k]; simp)
/-! ### list(range(..)) -/
def mListRg (ta : TAm) : TEm := fun E h Kn Kx => ta E h (fun ds h' => match ds with
  | [.int j] => (0 ≤ j ∧ j ≤ 16777216) ∧ Kn (.ol (rngD 0 j.toNat)) h'
  | _ => False) Kx
theorem me_listRg {q : Pos} (hc : X.calm = true) (hg : Gl X "list") (hm : X.mg "list" = none) (hg2 : Gl X "range") (hm2 : X.mg "range" = none) (h : MV X W e t)
    (n1 : starEach [e] X.env = (false, eval e X.env) :: starEach [] X.env := by rfl)
    (n3 : starEach [.Call (.Name "range" p2) [e] [] q] X.env = (false, eval (.Call (.Name "range" p2) [e] [] q) X.env) :: starEach [] X.env := by rfl) :
    ME X W (.Call (.Name "list" p) [.Call (.Name "range" p2) [e] [] q] [] pos) (mListRg (mCons t mNil)) := fun B =>
  (pe_listRg hc hg hm (prg_1 hg2 hm2 (h B) n1) n3).impM fun σ H Q ⟨F, E, h, Kn, Kx, R, ht, hx, hn⟩ => by
    refine ⟨F, E, h, _, Kx, R, ht, hx, fun d h' F' H' v l R' r k => ?_⟩
    cases r with
    | int j =>
      obtain ⟨⟨j0, j1⟩, k⟩ := k
      refine ⟨j, rfl, RgOk.of_le (by omega) (by omega) (by omega) (by omega), fun q hq => ?_⟩
      have e1 : rgV 0 j = ((List.range j.toNat).map fun i : Nat => (i : Int)).map V.int := by
        unfold rgV
        rw [List.map_map, Int.sub_zero]
        congr 1
        funext i
        show V.int (0 + (i : Int)) = V.int i
        rw [Int.zero_add]
      have e2 : rngD 0 j.toNat = ((List.range j.toNat).map fun i : Nat => (i : Int)).map D.int := by
        unfold rngD
        rw [List.map_map]
        congr 1
        funext i
        show D.int (0 + (i : Int)) = D.int i
        rw [Int.zero_add]
      rw [e1]
      refine hn (.ol (rngD 0 j.toNat)) h' F' _ _ l (R'.newO hq) ⟨q, _, rfl, upd_same, ?_, R'.noB hq, R'.noF hq, R'.noh hq⟩ k
      rw [e2]
      exact Reps.ints _
    | _ => exact k.elim
/-! ### isinstance(x, C), C an own class without subclasses -/
def mIsO (C : Addr) (t : TVm) : TVm := fun E h Kn Kx => t E h (fun d h' => match kindD h' d with
  | some _ => Kn (.bl false) h'
  | none => onIns h' d C fun _ _ => Kn (.bl true) h') Kx
structure KitC (K : Kf) (C : Addr) : Prop where
  ty : ∀ k : Kd, PySem.W.kitOne K (.type k.nm) (.ref C) = some false
  cl : Cls K C
  ha : PySem.W.findIn K (.ref C) "__class__" = some (some (.builtin "object.__class__"))
  hn : PySem.W.specialIn K (.builtin "object.__class__") "__get__" = some (some (.builtin "getset_descriptor.__get__"))
  hk : PySem.W.takesIn K (.builtin "object.__class__") = some true
  hm : PySem.W.mroIn K C (.type "object") = some true
theorem kit_self {K : Kf} {C : Addr} : PySem.W.kitOne K (.ref C) (.ref C) = some true := by
  unfold PySem.W.kitOne
  simp
theorem mv_isO {x2 : Str} {C : Addr} (hg : Gl X "isinstance") (hm : X.mg "isinstance" = none) (hg2 : Gl X x2) (hm2 : X.mg x2 = some (.ref C)) (kc : KitC X.K C) (h : MV X W e t) (hd2 : (x2 == ("__debug__" : Str)) = false := by decide)
    (na : starEach [e, .Name x2 p2] X.env = (false, eval e X.env) :: starEach [.Name x2 p2] X.env := by rfl) (nb : starEach [.Name x2 p2] X.env = (false, eval (.Name x2 p2) X.env) :: starEach [] X.env := by rfl) (hpl : (backTo pos (starEach [.Name x2 p2] X.env)).any (·.1) = false := by rfl) :
    MV X W (.Call (.Name "isinstance" p) [e, .Name x2 p2] [] pos) (mIsO C t) := fun B =>
  (pe_callB call_isi hg hm (by decide +kernel) (pa_cons (h B) (pa_cons (pe_glob (v := .ref C) hg2 hm2 rfl hd2) pa_nil nb) na) (by decide) (by decide) na hpl).impM fun σ H Q ⟨F, E, h, Kn, Kx, R, ht, hx, hn⟩ => by
    refine ⟨F, E, h, _, Kx, R, ht, hx, fun d h' F' H' v l R' r k => ?_⟩
    cases ek : kindD h' d with
    | some kd =>
      simp only [ek] at k
      exact ⟨v, .ref C, .type kd.nm, .ref C, false, rfl, .own C, kind_of R' r ek, kc.ty kd, hn (.bl false) h' F' H' _ l R' (.bl _) k⟩
    | none =>
      simp only [ek] at k
      obtain ⟨a, fs, dx, ws, rfl, rfl, ea, eH, rs, k⟩ := ins_of R' r k
      exact ⟨.ref a, .ref C, .ref C, .ref C, true, rfl, .own C, .base (.ins eH kc.cl kc.ha kc.hn kc.hk kc.hm), kit_self, hn (.bl true) h' F' H' _ l R' (.bl _) k⟩
/-! ### C(e, .., k = v, ..) -/
def MK (X : Cx) (W : WX) (kws : List Keyword) (t : TAm) : Prop := ∀ B, PK X kws (LA X.K B W t)
theorem _root_.L2.PK.impM {X : Cx} {kws : List Keyword} {t t' : TA} (p : PK X kws t) (h : ∀ σ H Q, t' σ H Q → t σ H Q) : PK X kws t' := ⟨fun pos pins s σ H Q I q => p.run pos pins s σ H Q I (h σ H Q q)⟩
theorem mk_nil : MK X W [] mNil := fun B => pk_nil.impM fun σ H Q ⟨F, E, h, Kn, Kx, R, ht, hx, hn⟩ => hn [] h F H [] (Le.refl F) R .nil ht
theorem mk_cons {nm : Option Str} {kpos : Pos} {kws : List Keyword} {ta : TAm} (a : MV X W e t) (b : MK X W kws ta) : MK X W (⟨nm, e, kpos⟩ :: kws) (mCons t ta) := fun B => (pk_cons (a B) (b B)).impM fun σ H Q ⟨F, E, h, Kn, Kx, R, ht, hx, hn⟩ => by
  refine ⟨F, E, h, _, Kx, R, ht, hx, fun d h1 F1 H1 v l1 R1 r1 k1 => ?_⟩
  refine ⟨F1, E, h1, _, Kx, R1, k1, hx.up l1, fun ds h2 F2 H2 vs l2 R2 r2 k2 => ?_⟩
  exact hn (d :: ds) h2 F2 H2 (v :: vs) (l1.trans l2) R2 (.cons (r1.mono l2) r2) k2
variable {k n : Nat} {f C : Addr} {fd : FuncData} {ps ks : List Str} {x : Str} {es : List Expr} {kws : List Keyword}
def tMakeSK (C : Addr) (n m : Nat) (sp : Sp) (E : L2.St → XK) (t tk : TA) : TE := fun σ H Q => t σ H fun vs H1 => tk σ H1 fun zs H2 => vs.length = n ∧ zs.length = m ∧ ∀ x dx, H2 x = none → H2 dx = none → dx ≠ x →
  sp (.ref x :: (vs ++ zs)) (upd (upd H2 dx (.own x)) x (.ins C dx [])) (fun v H3 => v = .non ∧ Q (.ref x) H3) (E σ)
theorem make_SK {sp : Sp} {E : L2.St → XK} {t tk : TA} (M : Mk X.K C f) (F : FnOk X.prog X.w X.K X.mg X.base (L2.CX X.prog X.w) k f fd ps sp) (hr : Room (k + 1) X.A) (hg : Gl X x) (hm : X.mg x = some (.ref C)) (hb : KBn X.K fd ps (n + 1) ks (fun us ws => us ++ ws) (fun vs zs => vs ++ zs)) (hx : ∀ σ, PassesAt (L2.CX X.prog X.w) X σ (E σ))
    (ha : PA X (e :: es) t) (hkw : PK X kws tk)
    (hall : (backToKw pos (keywordEach kws X.env)).all (·.1.isSome) = true := by rfl) (hks : (backToKw pos (keywordEach kws X.env)).filterMap (·.1) = ks := by rfl) (hdb : (x == ("__debug__" : Str)) = false := by decide)
    (he : starEach (e :: es) X.env = (false, eval e X.env) :: starEach es X.env := by rfl) (hpl : ((backTo pos (starEach (e :: es) X.env)).any (·.1) || (backToKw pos (keywordEach kws X.env)).any (·.1.isNone)) = false := by rfl) :
    PE X (.Call (.Name x p) (e :: es) kws pos) (tMakeSK C n ks.length sp E t tk) := by
  refine ⟨fun pins s σ H Q I h => wpAny_Call_Name_kw (ld_glob I hg hm ?_ hdb)⟩
  refine PySem.W.callWith_KW (h₀ := X.base) I.ok.mod.kin M.kp hall (thn (ha.run pos pins s σ H _ I h) fun us s1 ⟨vs, H1, I1, r, q⟩ => thn (hkw.run pos pins s1 σ H1 _ I1 q) fun ws s2 ⟨zs, H2, I2, rz, l1, l2, q2⟩ => ⟨I2.kIn, ?_⟩) hpl he
  rw [hks]
  have hq := q2 (s2.heap.objs.size + 1) s2.heap.objs.size (I2.hok.fresh (Nat.le_succ _)) (I2.hok.fresh (Nat.le_refl _)) (Nat.ne_of_lt (Nat.lt_succ_self _))
  have J := Inv.made (C := C) I2
  have r1 : Vals (V.ref (s2.heap.objs.size + 1) :: vs) (Value.ref (s2.heap.objs.size + 1) :: us) := .cons rfl r
  have n1 : (Value.ref (s2.heap.objs.size + 1) :: us).length = n + 1 := by rw [List.length_cons, ← r.length, l1]
  refine wpAny_call (make_map (f := f) I2.kIn M.makes M.init (beq_iff_eq.mp M.fn) (codeAny_mono (F.run _ X.stack _ _ ⟨Value.ref (s2.heap.objs.size + 1) :: us, ks.zip ws⟩ ((Value.ref (s2.heap.objs.size + 1) :: us) ++ ws) _ _ (E σ) (hr.make C us (ks.zip ws))
    (J.env0.make C us (ks.zip ws)) (hb.to _ (Value.ref (s2.heap.objs.size + 1) :: us) ws J.kIn n1 (rz.length.symm.trans l2)) (hb.rel r1 rz) hq) fun r s' hq' => ?_))
  match r, hq' with
  | .error e, hq' => exact hx σ pins _ _ e s' J hq'
  | .ok (.ret u), hq' =>
    obtain ⟨v, H', I3, rv, ev, q3⟩ := J.after hq'
    subst ev
    exact ⟨rv, ⟨V.ref (s2.heap.objs.size + 1), H', I3, rfl, q3⟩⟩
  | .ok .next, hq' => exact False.elim hq'
  | .ok .brk, hq' => exact False.elim hq'
  | .ok .cont, hq' => exact False.elim hq'
def mMakeK (C : Addr) (n m : Nat) (sp : MSp) (t tk : TAm) : TEm := fun E h Kn Kx => t E h (fun ds h1 => tk E h1 (fun zs h' => ds.length = n ∧ zs.length = m ∧ ∀ x, h' x = none → sp (.ref x :: (ds ++ zs)) (put h' x (.ins C [])) (fun r h2 => Kn (.d (.ref x)) h2) Kx) Kx) Kx
theorem me_makeK {sp : MSp} {t tk : TAm} (M : Mk X.K C f) (F : FM X.prog X.w X.K X.mg X.base k f fd ps sp) (hnon : ∀ ds h Kn Kx, sp ds h Kn Kx → sp ds h (fun r h' => r = .d .non ∧ Kn r h') Kx) (hr : Room (k + 1) X.A) (hg : Gl X x) (hm : X.mg x = some (.ref C)) (hb : KBn X.K fd ps (n + 1) ks (fun us ws => us ++ ws) (fun vs zs => vs ++ zs)) (tt : Takes X W)
    (ha : MA X W (e :: es) t) (hkw : MK X W kws tk)
    (hall : (backToKw pos (keywordEach kws X.env)).all (·.1.isSome) = true := by rfl) (hks : (backToKw pos (keywordEach kws X.env)).filterMap (·.1) = ks := by rfl) (hdb : (x == ("__debug__" : Str)) = false := by decide)
    (he : starEach (e :: es) X.env = (false, eval e X.env) :: starEach es X.env := by rfl) (hpl : ((backTo pos (starEach (e :: es) X.env)).any (·.1) || (backToKw pos (keywordEach kws X.env)).any (·.1.isNone)) = false := by rfl) :
    ME X W (.Call (.Name x p) (e :: es) kws pos) (mMakeK C n ks.length sp t tk) := fun B => (make_SK (E := WE W) M F hr hg hm hb (fun σ => passAt tt σ) (ha B) (hkw B) hall hks hdb he hpl).impM fun σ H Q ⟨F, E, h, Kn, Kx, R, ht, hx, hn⟩ => by
  refine ⟨F, E, h, _, Kx, R, ht, hx, fun ds h1 F1 H1 vs l1 R1 r1 k1 => ?_⟩
  refine ⟨F1, E, h1, _, Kx, R1, k1, hx.up l1, fun zs h2 F2 H2 us l2 R2 r2 k2 => ?_⟩
  obtain ⟨e1, e2, k2⟩ := k2
  refine ⟨by rw [← r1.len]; exact e1, by rw [← r2.len]; exact e2, fun y dy nx ndx nex => ?_⟩
  have R3 : Rel X.K B F2 E h2 σ (upd H2 dy (.own y)) := R2.newO ndx
  have nx1 : (upd H2 dy (.own y)) y = none := by rw [upd_ne nex.symm]; exact nx
  have R4 : Rel X.K B F2 E h2 σ (upd (upd H2 dy (.own y)) y (.ins C dy [])) := R3.newO nx1
  have R5 := R4.toC (p := y) (m := .ins C []) ⟨dy, [], upd_same, .nil⟩ (R2.noB nx) (R2.noF nx)
  refine sp_ok R5 (.cons (.ref y) ((r1.mono l2).app r2)) (hnon _ _ _ _ (k2 y (R2.noh nx))) (hx.up (l1.trans l2)) fun r h4 F4 H4 v l4 R6 q2 k4 => ?_
  obtain ⟨rfl, k4⟩ := k4
  refine ⟨?_, hn (.d (.ref y)) h4 F4 H4 _ ((l1.trans l2).trans l4) R6 (.ref y) k4⟩
  cases q2
  rfl
end
end M3
set_option Elab.async false
set_option linter.all false
set_option maxRecDepth 100000
set_option maxHeartbeats 4000000
namespace SrtO
open PySem PyProof.Rows Srt
section
variable {prog : Program} {w : World} {A : Around} {E : Value → Shared → Prop} {s : Shared}
/-! ### sorted of a tuple -/
abbrev m3Mid (h : Heap) (vs : List Value) : Heap := (h.push (seqObj "list" #[] 0)).update h.objs.size (Obj.mapSeq (· ++ vs.toArray))
theorem m3_collectT {l : Addr} {vs : List Value} {Q : List Value → Shared → Prop} (hl : s.heap.IsTuple l vs.toArray) (h : Q vs { s with heap := m3Mid s.heap vs }) (hsz : vs.length ≤ sizeLine) : wpAny (model prog w) A (collect (.ref l)) Q E s := by
  obtain ⟨o, ho, hc, n, hd⟩ := id hl
  have o2 : (s.heap.push (seqObj "list" #[] 0)).get? l = some o := Heap.get?_push_of_some _ ho
  have t1 : (Value.type "tuple" == Value.type "list" || Value.type "tuple" == Value.type "tuple") = true := by rfl
  unfold collect
  refine wpAny_bind (wpAny_runValue (codeAny_builtin entry_proto_collect' ?_)); show wpAny _ _ (do again (.builtin "list.__iadd__" ⟨[← newList [], .ref l], []⟩)) _ _ s
  refine wpAny_bind (wpAny_newList (wpAny_pure ⟨Code.quiet_builtin _ (by decide +kernel), codeAny_builtin entry_list_iadd' ?_⟩)); show wpAny _ _ (Builtin.List.listExtendWith (.ref s.heap.objs.size) (.ref l) (.ref s.heap.objs.size)) _ _ { s with heap := s.heap.push (seqObj "list" #[] 0) }
  unfold Builtin.List.listExtendWith; refine wpAny_bind (wpAny_typeOf (T := "tuple") ⟨o, o2, hc⟩ ?_)
  rw [if_pos (by rw [Bool.or_assoc, t1, Bool.or_true])]; refine wpAny_bind (listItems_at o2 hd ?_)
  refine wpAny_bind (listItems_at (xs := #[]) (n := 0) (Heap.get?_push_size _ rfl) rfl ?_); rw [if_neg (by simp)]
  refine wpAny_bind (listUpdate_at (xs := #[]) (n := 0) (Heap.get?_push_size _ rfl) rfl ?_ (Nat.zero_le _) (by show (#[] ++ vs.toArray).size ≤ sizeLine + 1; simp; omega)); refine wpAny_pure ?_
  show wpAny (model prog w) A (do let o ← load s.heap.objs.size; match o.data with | .seq xs _ => pure xs.toList | _ => unsupported "internal:collect") Q E { s with heap := m3Mid s.heap vs }
  refine wpAny_bind (wpAny_load (get?_update_seq (Heap.get?_push_size _ rfl) _) ?_); show wpAny _ _ (pure ((#[] : Array Value) ++ vs.toArray).toList) Q E _
  rw [show ((#[] : Array Value) ++ vs.toArray).toList = vs by simp]; exact wpAny_pure h
theorem m3_sortedT {l : Addr} {vs : List Value} {ltv : Value → Value → Bool} {Q : Value → Shared → Prop} (O : Swo ltv) (hl : s.heap.IsTuple l vs.toArray) (hz : vs.length ≤ sizeLine)
    (hS : 2 ≤ vs.length → ∀ (g : Heap) (a : Addr), g.get? a = some (seqObj "list" vs.toArray 0) → (∀ b o, s.heap.get? b = some o → b ≠ a ∧ g.get? b = some o) → SortableO prog w A.in1.in1 { s with heap := g } a vs ltv)
    (h : ∀ out : List Value, Srtd ltv out → Stb ltv out vs → Q (.ref (s.heap.objs.size + 1)) { s with heap := sortedAll s.heap vs out.toArray }) : wpAny (model prog w) A (call (.builtin "sorted") [.ref l]) Q E s := by
  have z1 : (m3Mid s.heap vs).objs.size = s.heap.objs.size + 1 := by rw [Heap.size_update, size_push']
  have g1 : ((m3Mid s.heap vs).push (seqObj "list" vs.toArray 0)).get? (s.heap.objs.size + 1) = some (seqObj "list" vs.toArray 0) := by rw [← z1]; exact Heap.get?_push_size _ rfl
  have old : ∀ b o, s.heap.get? b = some o → b ≠ s.heap.objs.size + 1 ∧ ((m3Mid s.heap vs).push (seqObj "list" vs.toArray 0)).get? b = some o := fun b o q => by
    have lt : b < s.heap.objs.size := Heap.lt_size q
    exact ⟨Nat.ne_of_lt (Nat.lt_succ_of_lt lt), Heap.get?_push_of_some _ ((Heap.get?_update_ne _ _ _ _ (Nat.ne_of_lt lt)).trans (Heap.get?_push_of_some _ q))⟩
  refine Calls.call_function_entry kind_sorted plain_sorted entry_sorted (args_sorted1 _) ?_; unfold Builtin.«sorted»
  refine wpAny_bind (m := checkCount "sorted" 1 1 _) (wpAny_pure (wpAny_bind (m3_collectT hl (wpAny_bind (wpAny_newList ?_ hz)) hz)))
  show wpAny _ _ _ _ _ { s with heap := (m3Mid s.heap vs).push (seqObj "list" vs.toArray 0) }
  rw [z1]
  refine wpAny_bind (wpAny_holding (wpAny_call_entry slot_list_sort ⟨_, g1, rfl⟩ entry_list_sort (list_sort_ord O g1 hz (fun h2 => hS h2 _ _ g1 old) fun out a1 a2 => ⟨_, rfl, ?_⟩) (args_list_sort _)))
  exact wpAny_pure ⟨_, rfl, h out a1 a2⟩
end
end SrtO
namespace L2
open PySem PySem.Spec PyProof.Rows
def m3RSortT (K : PySem.W.Frag) : List V → Hp → VK → Prop := fun vs H Q => ∃ (a : Addr) (ns : List Int), vs = [V.ref a] ∧ SqT K H a (ns.map V.int) ∧ ∀ (ms : List Int) (p : Addr), ms.Perm ns → ms.Pairwise (· ≤ ·) → H p = none → Q (.ref p) (upd H p (.lst (ms.map V.int)))
theorem m3_cr_sortT {X : Cx} : CallR X (.builtin "sorted") (m3RSortT X.K) := by
  intro pins s σ H vs us Q I r h
  obtain ⟨a, ns, rfl, hs, q⟩ := h
  obtain ⟨its, rv, hl, hz⟩ := I.tuple hs
  rw [Vals.ref1 r]
  have hi := rv.ints
  refine SrtO.m3_sortedT SrtO.swo_int hl (by rw [← rv.length]; exact hz) (fun h2 g a' _ _ => SrtO.ints_sortable hi h2) fun out h1 h2 => ?_
  obtain ⟨k1, k2, k3⟩ := SrtO.ints_out hi h1 h2
  obtain ⟨ep, he⟩ := PyProof.Rows.sortedAll_at s.heap its out.toArray
  have ln : ((out.map SrtO.iv).map V.int).length ≤ sizeLine := by rw [List.length_map, k2.length_eq]; rw [List.length_map] at hz; exact hz
  exact ⟨.ref _, upd H (s.heap.objs.size + 1) (.lst ((out.map SrtO.iv).map V.int)), I.laid (t' := s.toks) (fun _ _ => PyProof.Rows.sortedAll_old) (Nat.le_succ _) ⟨ln, out, ep, vals_of_ints k1, he⟩, rfl, q _ _ k2 k3 (I.hok.fresh (Nat.le_succ _))⟩
end L2
namespace M3
open PySem PySem.Spec PyProof.Rows L2
def gSortT : GA := fun ds h Kn => on1 ds fun x => onTup x fun xs => onInts xs fun ns => ∀ ms : List Int, ms.Perm ns → ms.Pairwise (· ≤ ·) → Kn (.ol (ms.map D.int)) h
theorem has_sortT {K : Kf} : HasA K (m3RSortT K) gSortT := by
  intro B F E h σ H xs vs Q Kn R r q hn
  obtain ⟨d, v, rfl, rfl, rp, q⟩ := one_of r q
  cases rp with
  | tup e rs =>
    obtain ⟨ns, rfl, q2⟩ := onInts_of q
    rw [rs.of_ints] at e
    exact ⟨_, ns, rfl, R.sqT e, fun ms p h1 h2 hp => hn (.ol (ms.map D.int)) h F _ _ (Le.refl F) (R.newO hp) ⟨p, _, rfl, upd_same, Reps.ints ms, R.noB hp, R.noF hp, R.noh hp⟩ (q2 ms h1 h2)⟩
  | _ => exact q.elim
end M3
set_option Elab.async false
set_option linter.all false
set_option maxRecDepth 100000
set_option maxHeartbeats 4000000
namespace M3
open PySem PySem.Spec PyProof.Rows L2
theorem kit_types {K : Kf} {C : Addr} (h1 : PySem.W.isClsIn K C = true) (h2 : PySem.W.typeIn K (.ref C) = some (.type "type")) (k : Kd) : PySem.W.kitOne K (.type k.nm) (.ref C) = some false := by
  have e1 : ((PySem.W.clsIn K C).isSome && PySem.W.typeIn K (.ref C) == some (.type "type")) = true := by
    have h1' : (PySem.W.clsIn K C).isSome = true := h1
    rw [h1', h2]
    rfl
  have e0 : (Value.type k.nm == Value.ref C) = false := by rfl
  unfold PySem.W.kitOne PySem.W.kitCls
  rw [if_neg (by rw [e0]; exact Bool.false_ne_true)]
  show (if ((PySem.W.clsIn K C).isSome && PySem.W.typeIn K (.ref C) == some (.type "type")) = true then PySem.W.subIn K (.type k.nm) (.ref C) else none) = some false
  rw [if_pos e1]
  cases k <;> kernel_rfl
end M3
set_option Elab.async false
set_option linter.all false
set_option maxRecDepth 100000
set_option maxHeartbeats 4000000
namespace M3
open PySem PySem.Spec PyProof.Rows L2
/-! ### the fewest of a set of numbers -/
/-- hs: the k least of the numbers in S, rising -/
structure Kept (S : Int → Prop) (k : Nat) (hs : List Int) : Prop where
  up : hs.Pairwise (· < ·)
  mem : ∀ x ∈ hs, S x
  len : hs.length ≤ k
  all : ∀ x, S x → x ∈ hs ∨ (hs.length = k ∧ ∀ y ∈ hs, y < x)
structure NumOk (ns : List Int) (top size : Int) : Prop where
  t1 : 1 ≤ top
  t2 : top ≤ 999
  s1 : 1 ≤ size
  s2 : size ≤ 8
  l1 : 1 ≤ ns.length
  l2 : ns.length ≤ 16
  nd : ns.Nodup
  rg : ∀ n ∈ ns, 0 ≤ n ∧ n < top
def sp_law_numbers (a : Ad) : MSp := fun ds h Kn Kx => ∃ (r : Addr) (hi many : Int), ds = [.ref r, .int hi, .int many] ∧ 1 ≤ hi ∧ hi ≤ 1000 ∧ 1 ≤ many ∧ many ≤ 100 ∧ RowAt h r ∧ ∀ (ns : List Int) h', ns.Nodup → (∀ n ∈ ns, 0 ≤ n ∧ n < hi) → (ns.length : Int) = min hi many → (∀ b, b ≠ r → h' b = h b) → RowAt h' r → Kn (.d (.tup (ns.map D.int))) h'
def sp_need_fewest (a : Ad) : MSp := fun ds h Kn Kx => ∃ (ns : List Int) (top size : Int), ds = [.tup (ns.map D.int), .int top, .int size] ∧ NumOk ns top size ∧ Kn (.d .non) h
def fewF (ns : List Int) (top size : Int) (hs : List Int) : List (Str × D) := [("numbers", .tup (ns.map D.int)), ("top", .int top), ("size", .int size), ("held", .lst (hs.map D.int))]
structure FewAt (a : Ad) (h : MH) (x : Addr) (ns : List Int) (top size : Int) (hs : List Int) : Prop where
  ok : NumOk ns top size
  ins : h x = some (.ins a.Fewest (fewF ns top size hs))
def sp_Fewest_init (a : Ad) : MSp := fun ds h Kn Kx => ∃ (x : Addr) (ns : List Int) (top size : Int), ds = [.ref x, .tup (ns.map D.int), .int top, .int size] ∧ NumOk ns top size ∧ h x = some (.ins a.Fewest []) ∧ Kn (.d .non) (put h x (.ins a.Fewest (fewF ns top size [])))
def sp_Fewest_add (a : Ad) : MSp := fun ds h Kn Kx => ∃ (x : Addr) (ns : List Int) (top size : Int) (hs : List Int) (k : Nat) (S : Int → Prop) (n : Int), ds = [.ref x, .int k] ∧ FewAt a h x ns top size hs ∧ ns[k]? = some n ∧ Kept S size.toNat hs ∧ ∀ hs', Kept (fun y => S y ∨ y = n) size.toNat hs' → Kn (.d (.bl (!decide (hs' = hs)))) (put h x (.ins a.Fewest (fewF ns top size hs')))
def guessI (top size : Int) (hs : List Int) : Int := if (hs.length : Int) < size then hs.length else (if 1 < size then (size - 1) * top / (hs.getD (hs.length - 1) 0 + 1) else top / (hs.getD (hs.length - 1) 0 + 1))
def sp_law_guess (a : Ad) : MSp := fun ds h Kn Kx => ∃ (top size : Int) (x : D) (hs : List Int), ds = [.int top, .int size, x] ∧ res h x = .lst (hs.map D.int) ∧ 1 ≤ size ∧ size ≤ 8 ∧ 1 ≤ top ∧ top ≤ 999 ∧ (hs.length : Int) ≤ size ∧ (∀ n ∈ hs, 0 ≤ n ∧ n < top) ∧ Kn (.d (.int (guessI top size hs))) h
def sp_guess (a : Ad) : MSp := fun ds h Kn Kx => ∃ (top size : Int) (x : D) (hs : List Int), ds = [.int top, .int size, x] ∧ res h x = .lst (hs.map D.int) ∧ 1 ≤ size ∧ size ≤ 8 ∧ 1 ≤ top ∧ top ≤ 999 ∧ (hs.length : Int) ≤ size ∧ (∀ n ∈ hs, 0 ≤ n ∧ n < top) ∧ Kn (.d (.int (guessI top size hs))) h
def sp_Fewest_least (a : Ad) : MSp := fun ds h Kn Kx => ∃ x ns top size hs, ds = [.ref x] ∧ FewAt a h x ns top size hs ∧ Kn (.d (.tup (hs.map D.int))) h
def sp_Fewest_told (a : Ad) : MSp := fun ds h Kn Kx => ∃ x ns top size hs, ds = [.ref x] ∧ FewAt a h x ns top size hs ∧ (hs.length : Int) ≤ size ∧ (∀ n ∈ hs, n ∈ ns) ∧ Kn (.d (.int (guessI top size hs))) h
def sp_Fewest_merged (a : Ad) : MSp := fun ds h Kn Kx => ∃ (x y : Addr) (ns : List Int) (top size : Int) (h1 h2 : List Int) (S1 S2 : Int → Prop), ds = [.ref x, .ref y] ∧ FewAt a h x ns top size h1 ∧ FewAt a h y ns top size h2 ∧ Kept S1 size.toNat h1 ∧ Kept S2 size.toNat h2 ∧
  ∀ hs', Kept (fun y => S1 y ∨ S2 y) size.toNat hs' → ∀ z, h z = none → Kn (.d (.ref z)) (put h z (.ins a.Fewest (fewF ns top size hs')))
def sp_law (a : Ad) : MSp := fun ds h Kn Kx => ∃ ns : List Int, ds = [.scr ns] ∧ ∀ h', Kn (.d (.bl true)) h'
def t_law_numbers (a : Ad) : TSm :=
  (sSeq (sPar 3 4 (mCons (frzV (mCell (mListRg (mCons (mVar 1) mNil)))) (mCons (mTup mNil) mNil)))
  (sSeq (sForget [5] (sFor (mRng1 (mCons (frzV (mCall gMin2 (mCons (mVar 1) (mCons (mVar 2) mNil)))) mNil)) (gN 5)
   (sForget [5] (sSet 4 (frzV (mOp gAdd (mVar 4) (mTup (mCons (frzV (mPopAt (mVar 3) (frzV (mFun (sp_law_taken a) [] (mCons (mVar 0) (mCons (frzV (mCall gLen (mCons (mVar 3) mNil))) mNil)))))) mNil))))))))
  (sRet (valE (mVar 4)))))

def t_need_fewest (a : Ad) : TSm :=
  (sSeq (sIf (mNotT (mTst (frzV (mFun (sp_is_number a) [] (mCons (mVar 1) (mCons (mC (.int 1)) (mCons (mC (.int 999)) mNil))))))) sNever sSkip)
  (sSeq (sIf (mNotT (mTst (frzV (mFun (sp_is_number a) [] (mCons (mVar 2) (mCons (mC (.int 1)) (mCons (mC (.int 8)) mNil))))))) sNever sSkip)
  (sSeq (sIf (mOrT (mNotT (mTst (mIsi [.tuple] (mVar 0)))) (mNotT (mTst (frzV (mChain (gB fun i j => decide (i ≤ j)) (gB fun i j => decide (i ≤ j)) (mC (.int 1)) (frzV (mCall gLen (mCons (mVar 0) mNil))) (mC (.int 16))))))) sNever sSkip)
  (sForget [3, 4] (sFor (mEnum (mCons (mVar 0) mNil)) (gT 2 (gsCons (gN 3) (gsCons (gN 4) gsNil)))
   (sForget [3, 4] (sIf (mOrT (mNotT (mTst (frzV (mFun (sp_is_number a) [] (mCons (mVar 4) (mCons (mC (.int 0)) (mCons (frzV (mOp gSub (mVar 1) (mC (.int 1)))) mNil))))))) (mTst (frzV (mOp (gIn id) (mVar 4) (frzV (mSl (mVar 0) oNo (oSome (mVar 3)))))))) sNever sSkip)))))))

def t_Fewest_init (a : Ad) : TSm :=
  (sSeq (sDrop (mFun (sp_need_fewest a) [] (mCons (mVar 1) (mCons (mVar 2) (mCons (mVar 3) mNil)))))
  (sSeq (sFldM a.Fewest "numbers" (mVar 0) (mVar 1))
  (sSeq (sFldM a.Fewest "top" (mVar 0) (mVar 2))
  (sSeq (sFldM a.Fewest "size" (mVar 0) (mVar 3))
  (sFldM a.Fewest "held" (mVar 0) (frzV (mLst mNil)))))))

def t_Fewest_add (a : Ad) : TSm :=
  (sSeq (sIf (mNotT (mTst (frzV (mFun (sp_is_number a) [] (mCons (mVar 1) (mCons (mC (.int 0)) (mCons (frzV (mOp gSub (frzV (mCall gLen (mCons (mFld a.Fewest "numbers" (mVar 0)) mNil))) (mC (.int 1)))) mNil))))))) sNever sSkip)
  (sSeq (sSet 2 (frzV (mOp gIx (mFld a.Fewest "numbers" (mVar 0)) (mVar 1))))
  (sSeq (sSet 3 (frzV (mCall gList (mCons (mFld a.Fewest "held" (mVar 0)) mNil))))
  (sSeq (sIf (mTst (frzV (mOp (gIn not) (mVar 2) (mFld a.Fewest "held" (mVar 0))))) (sFldM a.Fewest "held" (mVar 0) (frzV (mSl (frzV (mCall gSorted (mCons (frzV (mOp gAdd (mFld a.Fewest "held" (mVar 0)) (frzV (mLst (mCons (mVar 2) mNil))))) mNil))) oNo (oSome (mFld a.Fewest "size" (mVar 0)))))) sSkip)
  (sRet (mOp gNe (mFld a.Fewest "held" (mVar 0)) (mVar 3)))))))

def t_law_guess (a : Ad) : TSm :=
  (sSeq (sIf (mTst (frzV (mOp (gB fun i j => decide (i < j)) (frzV (mCall gLen (mCons (mVar 2) mNil))) (mVar 1)))) (sRet (mCall gLen (mCons (mVar 2) mNil))) sSkip)
  (sRet (mOp gDiv (frzV (mOp gMul (frzV (mCall gMax2 (mCons (mC (.int 1)) (mCons (frzV (mOp gSub (mVar 1) (mC (.int 1)))) mNil)))) (mVar 0))) (frzV (mOp gAdd (frzV (mOp gIx (mVar 2) (frzV (mOp gSub (mVar 1) (mC (.int 1)))))) (mC (.int 1)))))))

def t_Fewest_least (a : Ad) : TSm :=
  (sRet (mCall gTuple (mCons (mFld a.Fewest "held" (mVar 0)) mNil)))

def t_guess (a : Ad) : TSm :=
  (sSeq (sIf (mTst (frzV (mOp (gB fun i j => decide (i < j)) (frzV (mCall gLen (mCons (mVar 2) mNil))) (mVar 1)))) (sRet (mCall gLen (mCons (mVar 2) mNil))) sSkip)
  (sRet (mIte (mTst (frzV (mOp (gB fun i j => decide (j < i)) (mVar 1) (mC (.int 1))))) (mOp gDiv (frzV (mOp gMul (frzV (mOp gSub (mVar 1) (mC (.int 1)))) (mVar 0))) (frzV (mOp gAdd (frzV (mOp gIx (mVar 2) (frzV (mUn gNeg (mC (.int 1)))))) (mC (.int 1))))) (mOp gDiv (mVar 0) (frzV (mOp gAdd (frzV (mOp gIx (mVar 2) (frzV (mUn gNeg (mC (.int 1)))))) (mC (.int 1))))))))

def t_Fewest_told (a : Ad) : TSm :=
  (sRet (mFun (sp_guess a) [] (mCons (mFld a.Fewest "top" (mVar 0)) (mCons (mFld a.Fewest "size" (mVar 0)) (mCons (mFld a.Fewest "held" (mVar 0)) mNil)))))

def t_Fewest_merged (a : Ad) : TSm :=
  (sSeq (sIf (mNotT (mTst (mIsO a.Fewest (mVar 1)))) sNever sSkip)
  (sSeq (sIf (mTst (frzV (mOp gNe (mTup (mCons (mFld a.Fewest "numbers" (mVar 1)) (mCons (mFld a.Fewest "top" (mVar 1)) (mCons (mFld a.Fewest "size" (mVar 1)) mNil)))) (mTup (mCons (mFld a.Fewest "numbers" (mVar 0)) (mCons (mFld a.Fewest "top" (mVar 0)) (mCons (mFld a.Fewest "size" (mVar 0)) mNil))))))) sNever sSkip)
  (sSeq (sSet 2 (frzV (mMakeK a.Fewest 1 2 (sp_Fewest_init a) (mCons (mFld a.Fewest "numbers" (mVar 0)) mNil) (mCons (mFld a.Fewest "top" (mVar 0)) (mCons (mFld a.Fewest "size" (mVar 0)) mNil)))))
  (sSeq (sFldM a.Fewest "held" (mVar 2) (frzV (mSl (frzV (mSortSet (frzV (mOp gAdd (mFld a.Fewest "held" (mVar 0)) (mFld a.Fewest "held" (mVar 1)))))) oNo (oSome (mFld a.Fewest "size" (mVar 0))))))
  (sRet (valE (mVar 2)))))))

def t_law (a : Ad) : TSm :=
  (sSeq (sSet 1 (frzV (mCell (mFun (sp_law_row a) [] (mCons (mVar 0) mNil)))))
  (sSeq (sPar 2 3 (mCons (frzV (mOp gIx (frzV (mLst (mCons (mC (.int 1)) (mCons (mC (.int 5)) (mCons (mC (.int 20)) (mCons (mC (.int 60)) (mCons (mC (.int 60)) mNil))))))) (frzV (mFun (sp_law_taken a) [] (mCons (mVar 1) (mCons (mC (.int 5)) mNil)))))) (mCons (frzV (mOp gAdd (mC (.int 1)) (frzV (mFun (sp_law_taken a) [] (mCons (mVar 1) (mCons (mC (.int 4)) mNil)))))) mNil)))
  (sSeq (sSet 4 (frzV (mFun (sp_law_numbers a) [] (mCons (mVar 1) (mCons (mVar 2) (mCons (frzV (mOp gAdd (mC (.int 1)) (frzV (mFun (sp_law_taken a) [] (mCons (mVar 1) (mCons (mC (.int 9)) mNil)))))) mNil))))))
  (sSeq (sPar 5 6 (mCons (frzV (mLst (mCons (frzV (mMakeK a.Fewest 1 2 (sp_Fewest_init a) (mCons (mVar 4) mNil) (mCons (mVar 2) (mCons (mVar 3) mNil)))) (mCons (frzV (mMakeK a.Fewest 1 2 (sp_Fewest_init a) (mCons (mVar 4) mNil) (mCons (mVar 2) (mCons (mVar 3) mNil)))) mNil)))) (mCons (frzV (mCell (mLst (mCons (frzV (mLst mNil)) (mCons (frzV (mLst mNil)) mNil))))) mNil)))
  (sSeq (sForget [7, 8, 9, 10, 11] (sFor (mRng1 (mCons (frzV (mFun (sp_law_taken a) [] (mCons (mVar 1) (mCons (mC (.int 16)) mNil)))) mNil)) (gN 7)
   (sForget [7, 8, 9, 10, 11] (sSeq (sPar 8 9 (mCons (frzV (mFun (sp_law_taken a) [] (mCons (mVar 1) (mCons (mC (.int 2)) mNil)))) (mCons (frzV (mFun (sp_law_taken a) [] (mCons (mVar 1) (mCons (frzV (mCall gLen (mCons (mVar 4) mNil))) mNil)))) mNil)))
  (sSeq (sSet 10 (frzV (mOp gIx (mVar 6) (mVar 8))))
  (sSeq (sSetI (mVar 6) (mVar 8) (frzV (mSl (frzV (mSortSet (frzV (mOp gAdd (mVar 10) (frzV (mLst (mCons (frzV (mOp gIx (mVar 4) (mVar 9))) mNil))))))) oNo (oSome (mVar 3)))))
  (sSeq (sIf (mNotT (mTst (frzV (mFun (sp_law_alike a 6) [] (mCons (frzV (mMeth a.Fewest "add" (sp_Fewest_add a) [] (frzV (mOp gIx (mVar 5) (mVar 8))) (mCons (mVar 9) mNil))) (mCons (frzV (mOp gNe (frzV (mOp gIx (mVar 6) (mVar 8))) (mVar 10))) mNil)))))) (sRet (valE (mC (.bl false)))) sSkip)
  (sSeq (sSet 11 (frzV (mLst (mCons (frzV (mCall gTuple (mCons (frzV (mOp gIx (mVar 6) (mVar 8))) mNil))) (mCons (frzV (mFun (sp_law_guess a) [] (mCons (mVar 2) (mCons (mVar 3) (mCons (frzV (mOp gIx (mVar 6) (mVar 8))) mNil))))) mNil)))))
  (sIf (mNotT (mTst (frzV (mFun (sp_law_alike a 6) [] (mCons (frzV (mLst (mCons (frzV (mMeth a.Fewest "least" (sp_Fewest_least a) [] (frzV (mOp gIx (mVar 5) (mVar 8))) mNil)) (mCons (frzV (mMeth a.Fewest "told" (sp_Fewest_told a) [] (frzV (mOp gIx (mVar 5) (mVar 8))) mNil)) mNil)))) (mCons (mVar 11) mNil)))))) (sRet (valE (mC (.bl false)))) sSkip)))))))))
  (sSeq (sPar 12 11 (mCons (frzV (mMeth a.Fewest "merged" (sp_Fewest_merged a) [] (frzV (mOp gIx (mVar 5) (mC (.int 0)))) (mCons (frzV (mOp gIx (mVar 5) (mC (.int 1)))) mNil))) (mCons (frzV (mSl (frzV (mSortSet (frzV (mOp gAdd (frzV (mOp gIx (mVar 6) (mC (.int 0)))) (frzV (mOp gIx (mVar 6) (mC (.int 1)))))))) oNo (oSome (mVar 3)))) mNil)))
  (sSeq (sIf (mNotT (mTst (frzV (mFun (sp_law_alike a 6) [] (mCons (frzV (mLst (mCons (frzV (mMeth a.Fewest "least" (sp_Fewest_least a) [] (mVar 12) mNil)) (mCons (frzV (mMeth a.Fewest "told" (sp_Fewest_told a) [] (mVar 12) mNil)) mNil)))) (mCons (frzV (mLst (mCons (frzV (mCall gTuple (mCons (mVar 11) mNil))) (mCons (frzV (mFun (sp_law_guess a) [] (mCons (mVar 2) (mCons (mVar 3) (mCons (mVar 11) mNil))))) mNil)))) mNil)))))) (sRet (valE (mC (.bl false)))) sSkip)
  (sSeq (sForget [9] (sFor (mRng1 (mCons (frzV (mCall gLen (mCons (mVar 4) mNil))) mNil)) (gN 9)
   (sForget [9] (sDrop (mMeth a.Fewest "add" (sp_Fewest_add a) [] (mVar 12) (mCons (mVar 9) mNil))))))
  (sSeq (sIf (mTst (frzV (mOp gNe (frzV (mMeth a.Fewest "least" (sp_Fewest_least a) [] (mVar 12) mNil)) (frzV (mCall gTuple (mCons (frzV (mSl (frzV (mCall gSortT (mCons (mVar 4) mNil))) oNo (oSome (mVar 3)))) mNil)))))) (sRet (valE (mC (.bl false)))) sSkip)
  (sRet (mOp gEq (frzV (mLc (mIter (mVar 5)) (gN 13) mYes (frzV (mMeth a.Fewest "least" (sp_Fewest_least a) [] (mVar 13) mNil)) [13])) (frzV (mLc (mIter (mVar 6)) (gN 14) mYes (frzV (mCall gTuple (mCons (mVar 14) mNil))) [14])))))))))))))

end M3
set_option Elab.async false
set_option linter.all false
set_option maxRecDepth 100000
set_option maxHeartbeats 4000000
namespace M3
open PySem PySem.Spec PyProof.Rows L2
theorem nd_le {α : Type} [DecidableEq α] : ∀ {l m : List α}, l.Nodup → (∀ x ∈ l, x ∈ m) → l.length ≤ m.length
  | [], _, _, _ => Nat.zero_le _
  | x :: l, m, nd, sub => by
    have hx := sub x List.mem_cons_self
    obtain ⟨n1, n2⟩ := List.nodup_cons.mp nd
    have ih := nd_le (l := l) (m := m.erase x) n2 fun y hy => (List.mem_erase_of_ne (fun e : y = x => n1 (by rw [← e]; exact hy))).mpr (sub y (List.mem_cons_of_mem _ hy))
    rw [List.length_erase_of_mem hx] at ih
    have := List.length_pos_of_mem hx
    simp only [List.length_cons]
    omega
theorem up_nd {l : List Int} (h : l.Pairwise (· < ·)) : l.Nodup := h.imp fun h e => by omega
theorem in_take {ms : List Int} {k : Nat} {y z : Int} (pw : ms.Pairwise (· < ·)) (hz : z ∈ ms) (hy : y ∈ ms.take k) (lt : z < y) : z ∈ ms.take k := by
  rw [← List.take_append_drop k ms] at pw hz
  rcases List.mem_append.mp hz with hz | hz
  · exact hz
  · have := (List.pairwise_append.mp pw).2.2 y hy z hz
    omega
theorem Kept.one {k : Nat} {n : Int} (hk : 1 ≤ k) : Kept (fun y => y = n) k [n] := ⟨by simp, fun x hx => by simpa using hx, by simpa using hk, fun x hx => .inl (by simpa using hx)⟩
theorem Kept.nil {k : Nat} : Kept (fun _ => False) k [] := ⟨.nil, fun _ h => (List.not_mem_nil h).elim, Nat.zero_le _, fun _ h => h.elim⟩
theorem Kept.ext {S T : Int → Prop} {k : Nat} {hs : List Int} (h : Kept S k hs) (e : ∀ x, S x ↔ T x) : Kept T k hs := ⟨h.up, fun x hx => (e x).mp (h.mem x hx), h.len, fun x hx => h.all x ((e x).mpr hx)⟩
theorem Kept.have {S : Int → Prop} {k : Nat} {hs : List Int} {n : Int} (h : Kept S k hs) (hn : n ∈ hs) : Kept (fun y => S y ∨ y = n) k hs := ⟨h.up, fun x hx => .inl (h.mem x hx), h.len, fun x hx => by
  rcases hx with hx | rfl
  · exact h.all x hx
  · exact .inl hn⟩
theorem Kept.side {S : Int → Prop} {k : Nat} {hs ms : List Int} (h : Kept S k hs) (pw : ms.Pairwise (· < ·)) (sub : ∀ x ∈ hs, x ∈ ms) (x : Int) (hx : S x) : x ∈ ms.take k ∨ ((ms.take k).length = k ∧ ∀ y ∈ ms.take k, y < x) := by
  rcases h.all x hx with hx | ⟨hl, hx⟩
  · have hm := sub x hx
    rw [← List.take_append_drop k ms] at hm
    rcases List.mem_append.mp hm with hm | hm
    · exact .inl hm
    · refine .inr ⟨?_, fun y hy => ?_⟩
      · have := List.length_pos_of_mem hm
        rw [List.length_drop] at this
        rw [List.length_take]
        omega
      · rw [← List.take_append_drop k ms] at pw
        exact (List.pairwise_append.mp pw).2.2 y hy x hm
  · have l1 := nd_le (up_nd h.up) sub
    refine .inr ⟨by rw [List.length_take]; omega, fun y hy => ?_⟩
    by_cases c : y < x
    · exact c
    · have nd : (y :: hs).Nodup := List.nodup_cons.mpr ⟨fun hm => c (hx y hm), up_nd h.up⟩
      have := nd_le nd (m := ms.take k) fun z hz => by
        rcases List.mem_cons.mp hz with rfl | hz
        · exact hy
        · exact in_take pw (sub z hz) hy (by have := hx z hz; omega)
      simp only [List.length_cons, List.length_take] at this
      omega
theorem Kept.join {S1 S2 : Int → Prop} {k : Nat} {h1 h2 ms : List Int} (a : Kept S1 k h1) (b : Kept S2 k h2) (pw : ms.Pairwise (· < ·)) (mem : ∀ x, x ∈ ms ↔ x ∈ h1 ++ h2) : Kept (fun y => S1 y ∨ S2 y) k (ms.take k) := by
  refine ⟨pw.sublist (List.take_sublist _ _), fun x hx => ?_, by rw [List.length_take]; omega, fun x hx => ?_⟩
  · rcases List.mem_append.mp ((mem x).mp (List.mem_of_mem_take hx)) with hx | hx
    · exact .inl (a.mem x hx)
    · exact .inr (b.mem x hx)
  · rcases hx with hx | hx
    · exact a.side pw (fun x hx => (mem x).mpr (List.mem_append_left _ hx)) x hx
    · exact b.side pw (fun x hx => (mem x).mpr (List.mem_append_right _ hx)) x hx
theorem up_ext : ∀ {l m : List Int}, l.Pairwise (· < ·) → m.Pairwise (· < ·) → (∀ x, x ∈ l ↔ x ∈ m) → l = m
  | [], [], _, _, _ => rfl
  | [], y :: m, _, _, e => absurd ((e y).mpr List.mem_cons_self) (by simp)
  | x :: l, [], _, _, e => absurd ((e x).mp List.mem_cons_self) (by simp)
  | x :: l, y :: m, p, q, e => by
    obtain ⟨p1, p2⟩ := List.pairwise_cons.mp p
    obtain ⟨q1, q2⟩ := List.pairwise_cons.mp q
    have exy : x = y := by
      rcases List.mem_cons.mp ((e x).mp List.mem_cons_self) with h | h
      · exact h
      · rcases List.mem_cons.mp ((e y).mpr List.mem_cons_self) with h2 | h2
        · exact h2.symm
        · have a := q1 x h
          have b := p1 y h2
          omega
    subst exy
    rw [up_ext p2 q2 fun z => ?_]
    constructor
    · intro hz
      rcases List.mem_cons.mp ((e z).mp (List.mem_cons_of_mem _ hz)) with h | h
      · have := p1 z hz
        omega
      · exact h
    · intro hz
      rcases List.mem_cons.mp ((e z).mpr (List.mem_cons_of_mem _ hz)) with h | h
      · have := q1 z hz
        omega
      · exact h
theorem Kept.sub {S : Int → Prop} {k : Nat} {h1 h2 : List Int} (a : Kept S k h1) (b : Kept S k h2) (x : Int) (hx : x ∈ h1) : x ∈ h2 := by
  rcases b.all x (a.mem x hx) with h | ⟨hl, h⟩
  · exact h
  · exfalso
    have sub : ∀ y ∈ h2, y ∈ h1 := fun y hy => by
      rcases a.all y (b.mem y hy) with q | ⟨_, q⟩
      · exact q
      · have a1 := h y hy
        have a2 := q x hx
        omega
    have nd : (x :: h2).Nodup := List.nodup_cons.mpr ⟨fun hm => by have := h x hm; omega, up_nd b.up⟩
    have := nd_le nd (m := h1) fun z hz => by
      rcases List.mem_cons.mp hz with rfl | hz
      · exact hx
      · exact sub z hz
    have l1 := a.len
    simp only [List.length_cons] at this
    omega
theorem Kept.uniq {S : Int → Prop} {k : Nat} {h1 h2 : List Int} (a : Kept S k h1) (b : Kept S k h2) : h1 = h2 := up_ext a.up b.up fun x => ⟨a.sub b x, b.sub a x⟩
end M3
set_option Elab.async false
set_option linter.all false
set_option maxRecDepth 100000
set_option maxHeartbeats 4000000
namespace M3
open PySem PySem.Spec PyProof.Rows L2
theorem intsD_m {ns : List Int} {k : List Int → Prop} : onInts (ns.map D.int) k = k ns := by
  unfold onInts
  rw [ints_map]
theorem gIn_t {p : Bool → Bool} {x : D} {xs : List D} {h : MH} {Kn : RV → MH → Prop} : gIn p x (.tup xs) h Kn = (flD x = true ∧ xs.all flD = true ∧ Kn (.d (.bl (p (inD x xs)))) h) := rfl
theorem gIn_l {p : Bool → Bool} {x : D} {xs : List D} {h : MH} {Kn : RV → MH → Prop} : gIn p x (.lst xs) h Kn = (flD x = true ∧ xs.all flD = true ∧ Kn (.d (.bl (p (inD x xs)))) h) := rfl
theorem fl_ints {xs : List Int} : (xs.map D.int).all flD = true := by
  rw [List.all_eq_true]
  intro x hx
  obtain ⟨_, _, rfl⟩ := List.mem_map.mp hx
  rfl
theorem inD_ints {i : Int} : ∀ {xs : List Int}, inD (.int i) (xs.map D.int) = decide (i ∈ xs)
  | [] => rfl
  | x :: xs => by
    show (eqF (.int x) (.int i) || inD (.int i) (xs.map D.int)) = decide (i ∈ x :: xs)
    rw [inD_ints]
    show ((x == i) || decide (i ∈ xs)) = _
    by_cases e : x = i
    · simp [e]
    · have e2 : ¬ i = x := fun z => e z.symm
      simp [e, e2]
theorem gSl_t {h : MH} {xs : List D} {lo hi : Option Int} {Kn : RV → Prop} : gSl h (.tup xs) lo hi Kn = Kn (.d (.tup (cutD xs lo hi))) := rfl
theorem gSl_l {h : MH} {xs : List D} {lo hi : Option Int} {Kn : RV → Prop} : gSl h (.lst xs) lo hi Kn = Kn (.ol (cutD xs lo hi)) := rfl
theorem cut_to {xs : List D} {n : Nat} : cutD xs none (some (n : Int)) = xs.take n := by
  unfold cutD
  rw [HT.sIx_none, HT.sIx_nat, List.drop_zero, Nat.sub_zero]
  by_cases h : n ≤ xs.length
  · rw [Nat.min_eq_left h]
  · rw [Nat.min_eq_right (by omega), List.take_of_length_le (Nat.le_refl _), List.take_of_length_le (by omega)]
theorem cut_toI {xs : List D} {n : Int} (h : 0 ≤ n) : cutD xs none (some n) = xs.take n.toNat := by
  obtain ⟨m, rfl⟩ := Int.eq_ofNat_of_zero_le h
  exact cut_to
theorem rd_need_fewest {a : Ad} (ds : List D) (h : MH) (Kn : RV → MH → Prop) (Kx : XKm) (q : sp_need_fewest a ds h Kn Kx) : t_need_fewest a (bodyN Kn Kx) (startE ["numbers", "top", "size", "at", "number"] ds) h := by
  obtain ⟨ns, top, size, rfl, ⟨t1, t2, s1, s2, l1, l2, nd, rg⟩, k⟩ := q
  show t_need_fewest a (bodyN Kn Kx) [some (.tup (ns.map D.int)), some (.int top), some (.int size), none, none] h
  unfold t_need_fewest
  simp only [sSeq, sSet, sSkip, sForget, sFor, sIf, sRet, sRetN, sDrop, sSetI, sAsg, sPar, sFldM, sAug, frzV, valE, mVar, mC, mOp, mUn, mCall, mFun, mMeth, mMake, mFld, mTst, mNotT, mNotV, mAndV, mOrV, mAndT, mOrT, mIte, mNil, mCons, mTup, mLst, mChain, mIter_ap, mIsi_ap, mRng1, mRng2, mLc, mYes, mCell, mRel, mSl, oNo, oSome,
  gN, gT, gsCons, gsNil, frz_d, frz_l, frz_k, gIx_p, onSet_p, onQ_p, onL_p, gLen_p, onIns_p, put_put, atD_0, atD_1, atD_2, atD_3, atD_4, ixN_0, ixN_1, ixN_2, ixN_3, ixN_4, List.length_cons, List.length_nil, onBl_b, onInt_i, onTup_t, on1_1, on2_2, onQ_l, onQ_t, onQ_s, onL_l, onLs_l, onLs_s, onD_d, onOpt_s, gII, gB, gAdd_i, gAdd_s, gAdd_t, gAdd_l, gMul_i, gMul_l, gMul_t, gSub, gMod, gDiv, gPow, gNeg, gIx_l, gIx_t, gIx_s, gLen_l, gLen_t, gLen_s, gLen_d, iterD_t, iterD_l, iterD_s,
  kind_i, kind_b, kind_s, kind_n, kind_t, kind_l, gIsN, isNon, gTuple, gList, gAll, gAny, gSum, gMin, gMax, gMin2, gMax2, gAbs, gInt, gSorted,
  List.getElem?_cons_zero, List.getElem?_cons_succ, List.getElem?_nil, List.set_cons_zero, List.set_cons_succ, List.cons_append, List.nil_append, List.append_nil, wipeE, List.any_cons, List.any_nil, isK, Bool.or_false, Bool.false_or, Bool.or_true, Bool.true_or, Bool.not_true, Bool.not_false, if_true, if_false, Bool.false_eq_true, true_and, and_true, decide_eq_true_eq, id, reduceCtorEq, gEq_i, gNe_i, gEq_b, gNe_b, gEq_li, gNe_li, gEq_l0, gNe_l0, gEq_00, gNe_00, gEq_ti, gNe_ti, mEnum, Nat.zero_add, Nat.reduceAdd, Int.reduceEq, Int.cast_ofNat_Int, Nat.zero_le, sz1, sz2, sz3, sz4, sz5, sz6, decide_true, decide_false]
  refine is_num t1 t2 ?_
  simp only [sSeq, sSet, sSkip, sForget, sFor, sIf, sRet, sRetN, sDrop, sSetI, sAsg, sPar, sFldM, sAug, frzV, valE, mVar, mC, mOp, mUn, mCall, mFun, mMeth, mMake, mFld, mTst, mNotT, mNotV, mAndV, mOrV, mAndT, mOrT, mIte, mNil, mCons, mTup, mLst, mChain, mIter_ap, mIsi_ap, mRng1, mRng2, mLc, mYes, mCell, mRel, mSl, oNo, oSome,
  gN, gT, gsCons, gsNil, frz_d, frz_l, frz_k, gIx_p, onSet_p, onQ_p, onL_p, gLen_p, onIns_p, put_put, atD_0, atD_1, atD_2, atD_3, atD_4, ixN_0, ixN_1, ixN_2, ixN_3, ixN_4, List.length_cons, List.length_nil, onBl_b, onInt_i, onTup_t, on1_1, on2_2, onQ_l, onQ_t, onQ_s, onL_l, onLs_l, onLs_s, onD_d, onOpt_s, gII, gB, gAdd_i, gAdd_s, gAdd_t, gAdd_l, gMul_i, gMul_l, gMul_t, gSub, gMod, gDiv, gPow, gNeg, gIx_l, gIx_t, gIx_s, gLen_l, gLen_t, gLen_s, gLen_d, iterD_t, iterD_l, iterD_s,
  kind_i, kind_b, kind_s, kind_n, kind_t, kind_l, gIsN, isNon, gTuple, gList, gAll, gAny, gSum, gMin, gMax, gMin2, gMax2, gAbs, gInt, gSorted,
  List.getElem?_cons_zero, List.getElem?_cons_succ, List.getElem?_nil, List.set_cons_zero, List.set_cons_succ, List.cons_append, List.nil_append, List.append_nil, wipeE, List.any_cons, List.any_nil, isK, Bool.or_false, Bool.false_or, Bool.or_true, Bool.true_or, Bool.not_true, Bool.not_false, if_true, if_false, Bool.false_eq_true, true_and, and_true, decide_eq_true_eq, id, reduceCtorEq, gEq_i, gNe_i, gEq_b, gNe_b, gEq_li, gNe_li, gEq_l0, gNe_l0, gEq_00, gNe_00, gEq_ti, gNe_ti, mEnum, Nat.zero_add, Nat.reduceAdd, Int.reduceEq, Int.cast_ofNat_Int, Nat.zero_le, sz1, sz2, sz3, sz4, sz5, sz6, decide_true, decide_false]
  refine is_num s1 s2 ?_
  have c1 : (1 : Int) ≤ (ns.length : Int) := by omega
  have c2 : (ns.length : Int) ≤ 16 := by omega
  simp only [sSeq, sSet, sSkip, sForget, sFor, sIf, sRet, sRetN, sDrop, sSetI, sAsg, sPar, sFldM, sAug, frzV, valE, mVar, mC, mOp, mUn, mCall, mFun, mMeth, mMake, mFld, mTst, mNotT, mNotV, mAndV, mOrV, mAndT, mOrT, mIte, mNil, mCons, mTup, mLst, mChain, mIter_ap, mIsi_ap, mRng1, mRng2, mLc, mYes, mCell, mRel, mSl, oNo, oSome,
  gN, gT, gsCons, gsNil, frz_d, frz_l, frz_k, gIx_p, onSet_p, onQ_p, onL_p, gLen_p, onIns_p, put_put, atD_0, atD_1, atD_2, atD_3, atD_4, ixN_0, ixN_1, ixN_2, ixN_3, ixN_4, List.length_cons, List.length_nil, onBl_b, onInt_i, onTup_t, on1_1, on2_2, onQ_l, onQ_t, onQ_s, onL_l, onLs_l, onLs_s, onD_d, onOpt_s, gII, gB, gAdd_i, gAdd_s, gAdd_t, gAdd_l, gMul_i, gMul_l, gMul_t, gSub, gMod, gDiv, gPow, gNeg, gIx_l, gIx_t, gIx_s, gLen_l, gLen_t, gLen_s, gLen_d, iterD_t, iterD_l, iterD_s,
  kind_i, kind_b, kind_s, kind_n, kind_t, kind_l, gIsN, isNon, gTuple, gList, gAll, gAny, gSum, gMin, gMax, gMin2, gMax2, gAbs, gInt, gSorted,
  List.getElem?_cons_zero, List.getElem?_cons_succ, List.getElem?_nil, List.set_cons_zero, List.set_cons_succ, List.cons_append, List.nil_append, List.append_nil, wipeE, List.any_cons, List.any_nil, isK, Bool.or_false, Bool.false_or, Bool.or_true, Bool.true_or, Bool.not_true, Bool.not_false, if_true, if_false, Bool.false_eq_true, true_and, and_true, decide_eq_true_eq, id, reduceCtorEq, gEq_i, gNe_i, gEq_b, gNe_b, gEq_li, gNe_li, gEq_l0, gNe_l0, gEq_00, gNe_00, gEq_ti, gNe_ti, mEnum, Nat.zero_add, Nat.reduceAdd, Int.reduceEq, Int.cast_ofNat_Int, Nat.zero_le, sz1, sz2, sz3, sz4, sz5, sz6, decide_true, decide_false, List.length_map, c1, c2, decide_true, if_true]
  refine for_inv (fun i E h' => h' = h ∧ E = [some (.tup (ns.map D.int)), some (.int top), some (.int size), none, none]) ⟨rfl, rfl⟩ ?_ ?_
  · rintro i d E h2 kc hi ⟨rfl, rfl⟩ hk
    obtain ⟨x, hx, rfl⟩ := enum_get hi
    rw [List.getElem?_map] at hx
    cases er : ns[i]? with
    | none => rw [er] at hx; cases hx
    | some n =>
      rw [er] at hx
      obtain rfl := Option.some.inj hx
      obtain ⟨il, e⟩ := List.getElem?_eq_some_iff.mp er
      have rn := rg n (e ▸ List.getElem_mem il)
      simp only [sSeq, sSet, sSkip, sForget, sFor, sIf, sRet, sRetN, sDrop, sSetI, sAsg, sPar, sFldM, sAug, frzV, valE, mVar, mC, mOp, mUn, mCall, mFun, mMeth, mMake, mFld, mTst, mNotT, mNotV, mAndV, mOrV, mAndT, mOrT, mIte, mNil, mCons, mTup, mLst, mChain, mIter_ap, mIsi_ap, mRng1, mRng2, mLc, mYes, mCell, mRel, mSl, oNo, oSome,
  gN, gT, gsCons, gsNil, frz_d, frz_l, frz_k, gIx_p, onSet_p, onQ_p, onL_p, gLen_p, onIns_p, put_put, atD_0, atD_1, atD_2, atD_3, atD_4, ixN_0, ixN_1, ixN_2, ixN_3, ixN_4, List.length_cons, List.length_nil, onBl_b, onInt_i, onTup_t, on1_1, on2_2, onQ_l, onQ_t, onQ_s, onL_l, onLs_l, onLs_s, onD_d, onOpt_s, gII, gB, gAdd_i, gAdd_s, gAdd_t, gAdd_l, gMul_i, gMul_l, gMul_t, gSub, gMod, gDiv, gPow, gNeg, gIx_l, gIx_t, gIx_s, gLen_l, gLen_t, gLen_s, gLen_d, iterD_t, iterD_l, iterD_s,
  kind_i, kind_b, kind_s, kind_n, kind_t, kind_l, gIsN, isNon, gTuple, gList, gAll, gAny, gSum, gMin, gMax, gMin2, gMax2, gAbs, gInt, gSorted,
  List.getElem?_cons_zero, List.getElem?_cons_succ, List.getElem?_nil, List.set_cons_zero, List.set_cons_succ, List.cons_append, List.nil_append, List.append_nil, wipeE, List.any_cons, List.any_nil, isK, Bool.or_false, Bool.false_or, Bool.or_true, Bool.true_or, Bool.not_true, Bool.not_false, if_true, if_false, Bool.false_eq_true, true_and, and_true, decide_eq_true_eq, id, reduceCtorEq, gEq_i, gNe_i, gEq_b, gNe_b, gEq_li, gNe_li, gEq_l0, gNe_l0, gEq_00, gNe_00, gEq_ti, gNe_ti, mEnum, Nat.zero_add, Nat.reduceAdd, Int.reduceEq, Int.cast_ofNat_Int, Nat.zero_le, sz1, sz2, sz3, sz4, sz5, sz6, decide_true, decide_false]
      refine is_num rn.1 (by omega) ?_
      have hn : decide (n ∈ ns.take i) = false := by
        rw [decide_eq_false_iff_not]
        intro hm
        obtain ⟨j, hj, ej⟩ := List.getElem_of_mem hm
        rw [List.length_take] at hj
        rw [List.getElem_take] at ej
        have := List.pairwise_iff_getElem.mp nd j i (by omega) il (by omega)
        rw [ej, e] at this
        exact this rfl
      simp only [sSeq, sSet, sSkip, sForget, sFor, sIf, sRet, sRetN, sDrop, sSetI, sAsg, sPar, sFldM, sAug, frzV, valE, mVar, mC, mOp, mUn, mCall, mFun, mMeth, mMake, mFld, mTst, mNotT, mNotV, mAndV, mOrV, mAndT, mOrT, mIte, mNil, mCons, mTup, mLst, mChain, mIter_ap, mIsi_ap, mRng1, mRng2, mLc, mYes, mCell, mRel, mSl, oNo, oSome,
  gN, gT, gsCons, gsNil, frz_d, frz_l, frz_k, gIx_p, onSet_p, onQ_p, onL_p, gLen_p, onIns_p, put_put, atD_0, atD_1, atD_2, atD_3, atD_4, ixN_0, ixN_1, ixN_2, ixN_3, ixN_4, List.length_cons, List.length_nil, onBl_b, onInt_i, onTup_t, on1_1, on2_2, onQ_l, onQ_t, onQ_s, onL_l, onLs_l, onLs_s, onD_d, onOpt_s, gII, gB, gAdd_i, gAdd_s, gAdd_t, gAdd_l, gMul_i, gMul_l, gMul_t, gSub, gMod, gDiv, gPow, gNeg, gIx_l, gIx_t, gIx_s, gLen_l, gLen_t, gLen_s, gLen_d, iterD_t, iterD_l, iterD_s,
  kind_i, kind_b, kind_s, kind_n, kind_t, kind_l, gIsN, isNon, gTuple, gList, gAll, gAny, gSum, gMin, gMax, gMin2, gMax2, gAbs, gInt, gSorted,
  List.getElem?_cons_zero, List.getElem?_cons_succ, List.getElem?_nil, List.set_cons_zero, List.set_cons_succ, List.cons_append, List.nil_append, List.append_nil, wipeE, List.any_cons, List.any_nil, isK, Bool.or_false, Bool.false_or, Bool.or_true, Bool.true_or, Bool.not_true, Bool.not_false, if_true, if_false, Bool.false_eq_true, true_and, and_true, decide_eq_true_eq, id, reduceCtorEq, gEq_i, gNe_i, gEq_b, gNe_b, gEq_li, gNe_li, gEq_l0, gNe_l0, gEq_00, gNe_00, gEq_ti, gNe_ti, mEnum, Nat.zero_add, Nat.reduceAdd, Int.reduceEq, Int.cast_ofNat_Int, Nat.zero_le, sz1, sz2, sz3, sz4, sz5, sz6, decide_true, decide_false, gSl_t, cut_to, ← List.map_take, gIn_t, inD_ints, hn]
      exact ⟨rfl, fl_ints, hk _ _ ⟨rfl, rfl⟩⟩
  · rintro E h2 ⟨rfl, rfl⟩
    simp only [sSeq, sSet, sSkip, sForget, sFor, sIf, sRet, sRetN, sDrop, sSetI, sAsg, sPar, sFldM, sAug, frzV, valE, mVar, mC, mOp, mUn, mCall, mFun, mMeth, mMake, mFld, mTst, mNotT, mNotV, mAndV, mOrV, mAndT, mOrT, mIte, mNil, mCons, mTup, mLst, mChain, mIter_ap, mIsi_ap, mRng1, mRng2, mLc, mYes, mCell, mRel, mSl, oNo, oSome,
  gN, gT, gsCons, gsNil, frz_d, frz_l, frz_k, gIx_p, onSet_p, onQ_p, onL_p, gLen_p, onIns_p, put_put, atD_0, atD_1, atD_2, atD_3, atD_4, ixN_0, ixN_1, ixN_2, ixN_3, ixN_4, List.length_cons, List.length_nil, onBl_b, onInt_i, onTup_t, on1_1, on2_2, onQ_l, onQ_t, onQ_s, onL_l, onLs_l, onLs_s, onD_d, onOpt_s, gII, gB, gAdd_i, gAdd_s, gAdd_t, gAdd_l, gMul_i, gMul_l, gMul_t, gSub, gMod, gDiv, gPow, gNeg, gIx_l, gIx_t, gIx_s, gLen_l, gLen_t, gLen_s, gLen_d, iterD_t, iterD_l, iterD_s,
  kind_i, kind_b, kind_s, kind_n, kind_t, kind_l, gIsN, isNon, gTuple, gList, gAll, gAny, gSum, gMin, gMax, gMin2, gMax2, gAbs, gInt, gSorted,
  List.getElem?_cons_zero, List.getElem?_cons_succ, List.getElem?_nil, List.set_cons_zero, List.set_cons_succ, List.cons_append, List.nil_append, List.append_nil, wipeE, List.any_cons, List.any_nil, isK, Bool.or_false, Bool.false_or, Bool.or_true, Bool.true_or, Bool.not_true, Bool.not_false, if_true, if_false, Bool.false_eq_true, true_and, and_true, decide_eq_true_eq, id, reduceCtorEq, gEq_i, gNe_i, gEq_b, gNe_b, gEq_li, gNe_li, gEq_l0, gNe_l0, gEq_00, gNe_00, gEq_ti, gNe_ti, mEnum, Nat.zero_add, Nat.reduceAdd, Int.reduceEq, Int.cast_ofNat_Int, Nat.zero_le, sz1, sz2, sz3, sz4, sz5, sz6, decide_true, decide_false]
    exact bodyN_nx0 k
theorem fw_n {ns : List Int} {t s : Int} {hs : List Int} : List.lookup ("numbers" : Str) (fewF ns t s hs) = some (.tup (ns.map D.int)) := rfl
theorem fw_t {ns : List Int} {t s : Int} {hs : List Int} : List.lookup ("top" : Str) (fewF ns t s hs) = some (.int t) := rfl
theorem fw_s {ns : List Int} {t s : Int} {hs : List Int} : List.lookup ("size" : Str) (fewF ns t s hs) = some (.int s) := rfl
theorem fw_h {ns : List Int} {t s : Int} {hs : List Int} : List.lookup ("held" : Str) (fewF ns t s hs) = some (.lst (hs.map D.int)) := rfl
theorem fw_1 {ns : List Int} {t s : Int} {hs : List Int} : List.lookup ("add" : Str) (fewF ns t s hs) = none := rfl
theorem fw_2 {ns : List Int} {t s : Int} {hs : List Int} : List.lookup ("told" : Str) (fewF ns t s hs) = none := rfl
theorem fw_3 {ns : List Int} {t s : Int} {hs : List Int} : List.lookup ("least" : Str) (fewF ns t s hs) = none := rfl
theorem fw_4 {ns : List Int} {t s : Int} {hs : List Int} : List.lookup ("merged" : Str) (fewF ns t s hs) = none := rfl
theorem fw_l {ns : List Int} {t s : Int} {hs : List Int} : (fewF ns t s hs).length < 1000 := by show 4 < 1000; decide
theorem fw_p {ns : List Int} {t s : Int} {hs hs' : List Int} : putD ("held" : Str) (.lst (hs'.map D.int)) (fewF ns t s hs) = fewF ns t s hs' := rfl
theorem rd_Fewest_init {a : Ad} (ds : List D) (h : MH) (Kn : RV → MH → Prop) (Kx : XKm) (q : sp_Fewest_init a ds h Kn Kx) : t_Fewest_init a (bodyN Kn Kx) (startE ["self", "numbers", "top", "size"] ds) h := by
  obtain ⟨x, ns, top, size, rfl, ok, e, k⟩ := q
  show t_Fewest_init a (bodyN Kn Kx) [some (.ref x), some (.tup (ns.map D.int)), some (.int top), some (.int size)] h
  unfold t_Fewest_init
  simp only [sSeq, sSet, sSkip, sForget, sFor, sIf, sRet, sRetN, sDrop, sSetI, sAsg, sPar, sFldM, sAug, frzV, valE, mVar, mC, mOp, mUn, mCall, mFun, mMeth, mMake, mFld, mTst, mNotT, mNotV, mAndV, mOrV, mAndT, mOrT, mIte, mNil, mCons, mTup, mLst, mChain, mIter_ap, mIsi_ap, mRng1, mRng2, mLc, mYes, mCell, mRel, mSl, oNo, oSome,
  gN, gT, gsCons, gsNil, frz_d, frz_l, frz_k, gIx_p, onSet_p, onQ_p, onL_p, gLen_p, onIns_p, put_put, atD_0, atD_1, atD_2, atD_3, atD_4, ixN_0, ixN_1, ixN_2, ixN_3, ixN_4, List.length_cons, List.length_nil, onBl_b, onInt_i, onTup_t, on1_1, on2_2, onQ_l, onQ_t, onQ_s, onL_l, onLs_l, onLs_s, onD_d, onOpt_s, gII, gB, gAdd_i, gAdd_s, gAdd_t, gAdd_l, gMul_i, gMul_l, gMul_t, gSub, gMod, gDiv, gPow, gNeg, gIx_l, gIx_t, gIx_s, gLen_l, gLen_t, gLen_s, gLen_d, iterD_t, iterD_l, iterD_s,
  kind_i, kind_b, kind_s, kind_n, kind_t, kind_l, gIsN, isNon, gTuple, gList, gAll, gAny, gSum, gMin, gMax, gMin2, gMax2, gAbs, gInt, gSorted,
  List.getElem?_cons_zero, List.getElem?_cons_succ, List.getElem?_nil, List.set_cons_zero, List.set_cons_succ, List.cons_append, List.nil_append, List.append_nil, wipeE, List.any_cons, List.any_nil, isK, Bool.or_false, Bool.false_or, Bool.or_true, Bool.true_or, Bool.not_true, Bool.not_false, if_true, if_false, Bool.false_eq_true, true_and, and_true, decide_eq_true_eq, id, reduceCtorEq, gEq_i, gNe_i, gEq_b, gNe_b, gEq_li, gNe_li, gEq_l0, gNe_l0, gEq_00, gNe_00, gEq_ti, gNe_ti, mEnum, Nat.zero_add, Nat.reduceAdd, Int.reduceEq, Int.cast_ofNat_Int, Nat.zero_le, sz1, sz2, sz3, sz4, sz5, sz6, decide_true, decide_false]
  refine ⟨ns, top, size, rfl, ok, ?_⟩
  simp only [sSeq, sSet, sSkip, sForget, sFor, sIf, sRet, sRetN, sDrop, sSetI, sAsg, sPar, sFldM, sAug, frzV, valE, mVar, mC, mOp, mUn, mCall, mFun, mMeth, mMake, mFld, mTst, mNotT, mNotV, mAndV, mOrV, mAndT, mOrT, mIte, mNil, mCons, mTup, mLst, mChain, mIter_ap, mIsi_ap, mRng1, mRng2, mLc, mYes, mCell, mRel, mSl, oNo, oSome,
  gN, gT, gsCons, gsNil, frz_d, frz_l, frz_k, gIx_p, onSet_p, onQ_p, onL_p, gLen_p, onIns_p, put_put, atD_0, atD_1, atD_2, atD_3, atD_4, ixN_0, ixN_1, ixN_2, ixN_3, ixN_4, List.length_cons, List.length_nil, onBl_b, onInt_i, onTup_t, on1_1, on2_2, onQ_l, onQ_t, onQ_s, onL_l, onLs_l, onLs_s, onD_d, onOpt_s, gII, gB, gAdd_i, gAdd_s, gAdd_t, gAdd_l, gMul_i, gMul_l, gMul_t, gSub, gMod, gDiv, gPow, gNeg, gIx_l, gIx_t, gIx_s, gLen_l, gLen_t, gLen_s, gLen_d, iterD_t, iterD_l, iterD_s,
  kind_i, kind_b, kind_s, kind_n, kind_t, kind_l, gIsN, isNon, gTuple, gList, gAll, gAny, gSum, gMin, gMax, gMin2, gMax2, gAbs, gInt, gSorted,
  List.getElem?_cons_zero, List.getElem?_cons_succ, List.getElem?_nil, List.set_cons_zero, List.set_cons_succ, List.cons_append, List.nil_append, List.append_nil, wipeE, List.any_cons, List.any_nil, isK, Bool.or_false, Bool.false_or, Bool.or_true, Bool.true_or, Bool.not_true, Bool.not_false, if_true, if_false, Bool.false_eq_true, true_and, and_true, decide_eq_true_eq, id, reduceCtorEq, gEq_i, gNe_i, gEq_b, gNe_b, gEq_li, gNe_li, gEq_l0, gNe_l0, gEq_00, gNe_00, gEq_ti, gNe_ti, mEnum, Nat.zero_add, Nat.reduceAdd, Int.reduceEq, Int.cast_ofNat_Int, Nat.zero_le, sz1, sz2, sz3, sz4, sz5, sz6, decide_true, decide_false, onIns_r e]
  exact ⟨by decide, by show 1 < 1000; decide, by show 2 < 1000; decide, by show 3 < 1000; decide, bodyN_nx0 k⟩
theorem rd_Fewest_least {a : Ad} (ds : List D) (h : MH) (Kn : RV → MH → Prop) (Kx : XKm) (q : sp_Fewest_least a ds h Kn Kx) : t_Fewest_least a (bodyN Kn Kx) (startE ["self"] ds) h := by
  obtain ⟨x, ns, top, size, hs, rfl, F, k⟩ := q
  show t_Fewest_least a (bodyN Kn Kx) [some (.ref x)] h
  unfold t_Fewest_least
  simp only [sSeq, sSet, sSkip, sForget, sFor, sIf, sRet, sRetN, sDrop, sSetI, sAsg, sPar, sFldM, sAug, frzV, valE, mVar, mC, mOp, mUn, mCall, mFun, mMeth, mMake, mFld, mTst, mNotT, mNotV, mAndV, mOrV, mAndT, mOrT, mIte, mNil, mCons, mTup, mLst, mChain, mIter_ap, mIsi_ap, mRng1, mRng2, mLc, mYes, mCell, mRel, mSl, oNo, oSome,
  gN, gT, gsCons, gsNil, frz_d, frz_l, frz_k, gIx_p, onSet_p, onQ_p, onL_p, gLen_p, onIns_p, put_put, atD_0, atD_1, atD_2, atD_3, atD_4, ixN_0, ixN_1, ixN_2, ixN_3, ixN_4, List.length_cons, List.length_nil, onBl_b, onInt_i, onTup_t, on1_1, on2_2, onQ_l, onQ_t, onQ_s, onL_l, onLs_l, onLs_s, onD_d, onOpt_s, gII, gB, gAdd_i, gAdd_s, gAdd_t, gAdd_l, gMul_i, gMul_l, gMul_t, gSub, gMod, gDiv, gPow, gNeg, gIx_l, gIx_t, gIx_s, gLen_l, gLen_t, gLen_s, gLen_d, iterD_t, iterD_l, iterD_s,
  kind_i, kind_b, kind_s, kind_n, kind_t, kind_l, gIsN, isNon, gTuple, gList, gAll, gAny, gSum, gMin, gMax, gMin2, gMax2, gAbs, gInt, gSorted,
  List.getElem?_cons_zero, List.getElem?_cons_succ, List.getElem?_nil, List.set_cons_zero, List.set_cons_succ, List.cons_append, List.nil_append, List.append_nil, wipeE, List.any_cons, List.any_nil, isK, Bool.or_false, Bool.false_or, Bool.or_true, Bool.true_or, Bool.not_true, Bool.not_false, if_true, if_false, Bool.false_eq_true, true_and, and_true, decide_eq_true_eq, id, reduceCtorEq, gEq_i, gNe_i, gEq_b, gNe_b, gEq_li, gNe_li, gEq_l0, gNe_l0, gEq_00, gNe_00, gEq_ti, gNe_ti, mEnum, Nat.zero_add, Nat.reduceAdd, Int.reduceEq, Int.cast_ofNat_Int, Nat.zero_le, sz1, sz2, sz3, sz4, sz5, sz6, decide_true, decide_false, onIns_r F.ins, fw_h]
  exact bodyN_rt0 k
theorem rd_Fewest_told {a : Ad} (ds : List D) (h : MH) (Kn : RV → MH → Prop) (Kx : XKm) (q : sp_Fewest_told a ds h Kn Kx) : t_Fewest_told a (bodyN Kn Kx) (startE ["self"] ds) h := by
  obtain ⟨x, ns, top, size, hs, rfl, F, hl, hm, k⟩ := q
  show t_Fewest_told a (bodyN Kn Kx) [some (.ref x)] h
  unfold t_Fewest_told
  simp only [sSeq, sSet, sSkip, sForget, sFor, sIf, sRet, sRetN, sDrop, sSetI, sAsg, sPar, sFldM, sAug, frzV, valE, mVar, mC, mOp, mUn, mCall, mFun, mMeth, mMake, mFld, mTst, mNotT, mNotV, mAndV, mOrV, mAndT, mOrT, mIte, mNil, mCons, mTup, mLst, mChain, mIter_ap, mIsi_ap, mRng1, mRng2, mLc, mYes, mCell, mRel, mSl, oNo, oSome,
  gN, gT, gsCons, gsNil, frz_d, frz_l, frz_k, gIx_p, onSet_p, onQ_p, onL_p, gLen_p, onIns_p, put_put, atD_0, atD_1, atD_2, atD_3, atD_4, ixN_0, ixN_1, ixN_2, ixN_3, ixN_4, List.length_cons, List.length_nil, onBl_b, onInt_i, onTup_t, on1_1, on2_2, onQ_l, onQ_t, onQ_s, onL_l, onLs_l, onLs_s, onD_d, onOpt_s, gII, gB, gAdd_i, gAdd_s, gAdd_t, gAdd_l, gMul_i, gMul_l, gMul_t, gSub, gMod, gDiv, gPow, gNeg, gIx_l, gIx_t, gIx_s, gLen_l, gLen_t, gLen_s, gLen_d, iterD_t, iterD_l, iterD_s,
  kind_i, kind_b, kind_s, kind_n, kind_t, kind_l, gIsN, isNon, gTuple, gList, gAll, gAny, gSum, gMin, gMax, gMin2, gMax2, gAbs, gInt, gSorted,
  List.getElem?_cons_zero, List.getElem?_cons_succ, List.getElem?_nil, List.set_cons_zero, List.set_cons_succ, List.cons_append, List.nil_append, List.append_nil, wipeE, List.any_cons, List.any_nil, isK, Bool.or_false, Bool.false_or, Bool.or_true, Bool.true_or, Bool.not_true, Bool.not_false, if_true, if_false, Bool.false_eq_true, true_and, and_true, decide_eq_true_eq, id, reduceCtorEq, gEq_i, gNe_i, gEq_b, gNe_b, gEq_li, gNe_li, gEq_l0, gNe_l0, gEq_00, gNe_00, gEq_ti, gNe_ti, mEnum, Nat.zero_add, Nat.reduceAdd, Int.reduceEq, Int.cast_ofNat_Int, Nat.zero_le, sz1, sz2, sz3, sz4, sz5, sz6, decide_true, decide_false, onIns_r F.ins, fw_h, fw_t, fw_s]
  have ok := F.ok
  exact ⟨top, size, _, hs, rfl, rfl, ok.s1, ok.s2, ok.t1, ok.t2, hl, fun n hn => ok.rg n (hm n hn), bodyN_rt0 k⟩
theorem last_at {hs : List Int} (h : 0 < hs.length) : atD (hs.map D.int) (-1) = some (.int (hs.getD (hs.length - 1) 0)) := by
  unfold atD
  have e : ixN (hs.map D.int).length (-1) = some (hs.length - 1) := by
    unfold ixN
    rw [List.length_map]
    have : ¬ (0 : Int) ≤ -1 := by omega
    simp only [this, if_false]
    have : -(hs.length : Int) ≤ -1 := by omega
    simp only [this, if_true]
    congr 1
    omega
  rw [e]
  show (hs.map D.int)[hs.length - 1]? = _
  rw [List.getElem?_map, List.getD_eq_getElem?_getD, List.getElem?_eq_getElem (by omega : hs.length - 1 < hs.length)]
  rfl
theorem getD_rg {hs : List Int} {t : Int} (h : ∀ n ∈ hs, 0 ≤ n ∧ n < t) {i : Nat} (hi : i < hs.length) : 0 ≤ hs.getD i 0 ∧ hs.getD i 0 < t := by
  rw [List.getD_eq_getElem?_getD, List.getElem?_eq_getElem hi]
  exact h _ (List.getElem_mem hi)
theorem rd_guess {a : Ad} (ds : List D) (h : MH) (Kn : RV → MH → Prop) (Kx : XKm) (q : sp_guess a ds h Kn Kx) : t_guess a (bodyN Kn Kx) (startE ["top", "size", "least"] ds) h := by
  obtain ⟨top, size, x, hs, rfl, rx, s1, s2, t1, t2, hl, rg, k⟩ := q
  show t_guess a (bodyN Kn Kx) [some (.int top), some (.int size), some x] h
  unfold t_guess
  simp only [sSeq, sSet, sSkip, sForget, sFor, sIf, sRet, sRetN, sDrop, sSetI, sAsg, sPar, sFldM, sAug, frzV, valE, mVar, mC, mOp, mUn, mCall, mFun, mMeth, mMake, mFld, mTst, mNotT, mNotV, mAndV, mOrV, mAndT, mOrT, mIte, mNil, mCons, mTup, mLst, mChain, mIter_ap, mIsi_ap, mRng1, mRng2, mLc, mYes, mCell, mRel, mSl, oNo, oSome,
  gN, gT, gsCons, gsNil, frz_d, frz_l, frz_k, gIx_p, onSet_p, onQ_p, onL_p, gLen_p, onIns_p, put_put, atD_0, atD_1, atD_2, atD_3, atD_4, ixN_0, ixN_1, ixN_2, ixN_3, ixN_4, List.length_cons, List.length_nil, onBl_b, onInt_i, onTup_t, on1_1, on2_2, onQ_l, onQ_t, onQ_s, onL_l, onLs_l, onLs_s, onD_d, onOpt_s, gII, gB, gAdd_i, gAdd_s, gAdd_t, gAdd_l, gMul_i, gMul_l, gMul_t, gSub, gMod, gDiv, gPow, gNeg, gIx_l, gIx_t, gIx_s, gLen_l, gLen_t, gLen_s, gLen_d, iterD_t, iterD_l, iterD_s,
  kind_i, kind_b, kind_s, kind_n, kind_t, kind_l, gIsN, isNon, gTuple, gList, gAll, gAny, gSum, gMin, gMax, gMin2, gMax2, gAbs, gInt, gSorted,
  List.getElem?_cons_zero, List.getElem?_cons_succ, List.getElem?_nil, List.set_cons_zero, List.set_cons_succ, List.cons_append, List.nil_append, List.append_nil, wipeE, List.any_cons, List.any_nil, isK, Bool.or_false, Bool.false_or, Bool.or_true, Bool.true_or, Bool.not_true, Bool.not_false, if_true, if_false, Bool.false_eq_true, true_and, and_true, decide_eq_true_eq, id, reduceCtorEq, gEq_i, gNe_i, gEq_b, gNe_b, gEq_li, gNe_li, gEq_l0, gNe_l0, gEq_00, gNe_00, gEq_ti, gNe_ti, mEnum, Nat.zero_add, Nat.reduceAdd, Int.reduceEq, Int.cast_ofNat_Int, Nat.zero_le, sz1, sz2, sz3, sz4, sz5, sz6, decide_true, decide_false, seq_len (.inl rx), List.length_map]
  unfold guessI at k
  split
  · rename_i c
    rw [if_pos c] at k
    exact bodyN_rt0 k
  · rename_i c
    rw [if_neg c] at k
    have g := getD_rg rg (i := hs.length - 1) (by omega)
    simp only [sSeq, sSet, sSkip, sForget, sFor, sIf, sRet, sRetN, sDrop, sSetI, sAsg, sPar, sFldM, sAug, frzV, valE, mVar, mC, mOp, mUn, mCall, mFun, mMeth, mMake, mFld, mTst, mNotT, mNotV, mAndV, mOrV, mAndT, mOrT, mIte, mNil, mCons, mTup, mLst, mChain, mIter_ap, mIsi_ap, mRng1, mRng2, mLc, mYes, mCell, mRel, mSl, oNo, oSome,
  gN, gT, gsCons, gsNil, frz_d, frz_l, frz_k, gIx_p, onSet_p, onQ_p, onL_p, gLen_p, onIns_p, put_put, atD_0, atD_1, atD_2, atD_3, atD_4, ixN_0, ixN_1, ixN_2, ixN_3, ixN_4, List.length_cons, List.length_nil, onBl_b, onInt_i, onTup_t, on1_1, on2_2, onQ_l, onQ_t, onQ_s, onL_l, onLs_l, onLs_s, onD_d, onOpt_s, gII, gB, gAdd_i, gAdd_s, gAdd_t, gAdd_l, gMul_i, gMul_l, gMul_t, gSub, gMod, gDiv, gPow, gNeg, gIx_l, gIx_t, gIx_s, gLen_l, gLen_t, gLen_s, gLen_d, iterD_t, iterD_l, iterD_s,
  kind_i, kind_b, kind_s, kind_n, kind_t, kind_l, gIsN, isNon, gTuple, gList, gAll, gAny, gSum, gMin, gMax, gMin2, gMax2, gAbs, gInt, gSorted,
  List.getElem?_cons_zero, List.getElem?_cons_succ, List.getElem?_nil, List.set_cons_zero, List.set_cons_succ, List.cons_append, List.nil_append, List.append_nil, wipeE, List.any_cons, List.any_nil, isK, Bool.or_false, Bool.false_or, Bool.or_true, Bool.true_or, Bool.not_true, Bool.not_false, if_true, if_false, Bool.false_eq_true, true_and, and_true, decide_eq_true_eq, id, reduceCtorEq, gEq_i, gNe_i, gEq_b, gNe_b, gEq_li, gNe_li, gEq_l0, gNe_l0, gEq_00, gNe_00, gEq_ti, gNe_ti, mEnum, Nat.zero_add, Nat.reduceAdd, Int.reduceEq, Int.cast_ofNat_Int, Nat.zero_le, sz1, sz2, sz3, sz4, sz5, sz6, decide_true, decide_false, seq_ix (.inl rx), last_at (hs := hs) (by omega)]
    have lg : (hs.getD (hs.length - 1) 0 + 1).natAbs.log2 < 9000 := log2_lt (by omega) (by omega)
    by_cases c2 : 1 < size
    · simp only [c2, if_true] at k ⊢
      exact ⟨mulok_r (by omega) (by omega), ⟨by omega, lg⟩, bodyN_rt0 k⟩
    · simp only [c2, if_false] at k ⊢
      exact ⟨⟨by omega, lg⟩, bodyN_rt0 k⟩
theorem rd_law_guess {a : Ad} (ds : List D) (h : MH) (Kn : RV → MH → Prop) (Kx : XKm) (q : sp_law_guess a ds h Kn Kx) : t_law_guess a (bodyN Kn Kx) (startE ["_law_high_end", "_law_room", "_law_least"] ds) h := by
  obtain ⟨top, size, x, hs, rfl, rx, s1, s2, t1, t2, hl, rg, k⟩ := q
  show t_law_guess a (bodyN Kn Kx) [some (.int top), some (.int size), some x] h
  unfold t_law_guess
  simp only [sSeq, sSet, sSkip, sForget, sFor, sIf, sRet, sRetN, sDrop, sSetI, sAsg, sPar, sFldM, sAug, frzV, valE, mVar, mC, mOp, mUn, mCall, mFun, mMeth, mMake, mFld, mTst, mNotT, mNotV, mAndV, mOrV, mAndT, mOrT, mIte, mNil, mCons, mTup, mLst, mChain, mIter_ap, mIsi_ap, mRng1, mRng2, mLc, mYes, mCell, mRel, mSl, oNo, oSome,
  gN, gT, gsCons, gsNil, frz_d, frz_l, frz_k, gIx_p, onSet_p, onQ_p, onL_p, gLen_p, onIns_p, put_put, atD_0, atD_1, atD_2, atD_3, atD_4, ixN_0, ixN_1, ixN_2, ixN_3, ixN_4, List.length_cons, List.length_nil, onBl_b, onInt_i, onTup_t, on1_1, on2_2, onQ_l, onQ_t, onQ_s, onL_l, onLs_l, onLs_s, onD_d, onOpt_s, gII, gB, gAdd_i, gAdd_s, gAdd_t, gAdd_l, gMul_i, gMul_l, gMul_t, gSub, gMod, gDiv, gPow, gNeg, gIx_l, gIx_t, gIx_s, gLen_l, gLen_t, gLen_s, gLen_d, iterD_t, iterD_l, iterD_s,
  kind_i, kind_b, kind_s, kind_n, kind_t, kind_l, gIsN, isNon, gTuple, gList, gAll, gAny, gSum, gMin, gMax, gMin2, gMax2, gAbs, gInt, gSorted,
  List.getElem?_cons_zero, List.getElem?_cons_succ, List.getElem?_nil, List.set_cons_zero, List.set_cons_succ, List.cons_append, List.nil_append, List.append_nil, wipeE, List.any_cons, List.any_nil, isK, Bool.or_false, Bool.false_or, Bool.or_true, Bool.true_or, Bool.not_true, Bool.not_false, if_true, if_false, Bool.false_eq_true, true_and, and_true, decide_eq_true_eq, id, reduceCtorEq, gEq_i, gNe_i, gEq_b, gNe_b, gEq_li, gNe_li, gEq_l0, gNe_l0, gEq_00, gNe_00, gEq_ti, gNe_ti, mEnum, Nat.zero_add, Nat.reduceAdd, Int.reduceEq, Int.cast_ofNat_Int, Nat.zero_le, sz1, sz2, sz3, sz4, sz5, sz6, decide_true, decide_false, seq_len (.inl rx), List.length_map]
  unfold guessI at k
  split
  · rename_i c
    rw [if_pos c] at k
    exact bodyN_rt0 k
  · rename_i c
    rw [if_neg c] at k
    have g := getD_rg rg (i := hs.length - 1) (by omega)
    have es : size - 1 = ((hs.length - 1 : Nat) : Int) := by omega
    have ea : atD (hs.map D.int) (size - 1) = some (.int (hs.getD (hs.length - 1) 0)) := by
      rw [es, atD_ints (by omega) (by omega), Int.toNat_natCast]
    have lg : (hs.getD (hs.length - 1) 0 + 1).natAbs.log2 < 9000 := log2_lt (by omega) (by omega)
    simp only [sSeq, sSet, sSkip, sForget, sFor, sIf, sRet, sRetN, sDrop, sSetI, sAsg, sPar, sFldM, sAug, frzV, valE, mVar, mC, mOp, mUn, mCall, mFun, mMeth, mMake, mFld, mTst, mNotT, mNotV, mAndV, mOrV, mAndT, mOrT, mIte, mNil, mCons, mTup, mLst, mChain, mIter_ap, mIsi_ap, mRng1, mRng2, mLc, mYes, mCell, mRel, mSl, oNo, oSome,
  gN, gT, gsCons, gsNil, frz_d, frz_l, frz_k, gIx_p, onSet_p, onQ_p, onL_p, gLen_p, onIns_p, put_put, atD_0, atD_1, atD_2, atD_3, atD_4, ixN_0, ixN_1, ixN_2, ixN_3, ixN_4, List.length_cons, List.length_nil, onBl_b, onInt_i, onTup_t, on1_1, on2_2, onQ_l, onQ_t, onQ_s, onL_l, onLs_l, onLs_s, onD_d, onOpt_s, gII, gB, gAdd_i, gAdd_s, gAdd_t, gAdd_l, gMul_i, gMul_l, gMul_t, gSub, gMod, gDiv, gPow, gNeg, gIx_l, gIx_t, gIx_s, gLen_l, gLen_t, gLen_s, gLen_d, iterD_t, iterD_l, iterD_s,
  kind_i, kind_b, kind_s, kind_n, kind_t, kind_l, gIsN, isNon, gTuple, gList, gAll, gAny, gSum, gMin, gMax, gMin2, gMax2, gAbs, gInt, gSorted,
  List.getElem?_cons_zero, List.getElem?_cons_succ, List.getElem?_nil, List.set_cons_zero, List.set_cons_succ, List.cons_append, List.nil_append, List.append_nil, wipeE, List.any_cons, List.any_nil, isK, Bool.or_false, Bool.false_or, Bool.or_true, Bool.true_or, Bool.not_true, Bool.not_false, if_true, if_false, Bool.false_eq_true, true_and, and_true, decide_eq_true_eq, id, reduceCtorEq, gEq_i, gNe_i, gEq_b, gNe_b, gEq_li, gNe_li, gEq_l0, gNe_l0, gEq_00, gNe_00, gEq_ti, gNe_ti, mEnum, Nat.zero_add, Nat.reduceAdd, Int.reduceEq, Int.cast_ofNat_Int, Nat.zero_le, sz1, sz2, sz3, sz4, sz5, sz6, decide_true, decide_false, seq_ix (.inl rx), ea]
    have em : (if size - 1 > 1 then size - 1 else 1) * top = if 1 < size then (size - 1) * top else top := by
      by_cases c2 : 1 < size
      · rw [if_pos c2]
        by_cases c3 : size - 1 > 1
        · rw [if_pos c3]
        · rw [if_neg c3]
          have : size - 1 = 1 := by omega
          rw [this]
      · rw [if_neg c2, if_neg (by omega), Int.one_mul]
    refine ⟨mulok_r (by omega) (by omega), ⟨by omega, lg⟩, bodyN_rt0 ?_⟩
    rw [em]
    by_cases c2 : 1 < size
    · simp only [c2, if_true] at k ⊢
      exact k
    · simp only [c2, if_false] at k ⊢
      exact k
theorem le_lt {ms : List Int} (pw : ms.Pairwise (· ≤ ·)) (nd : ms.Nodup) : ms.Pairwise (· < ·) := by
  have := List.pairwise_and_iff.mpr ⟨pw, nd⟩
  exact this.imp fun ⟨h1, h2⟩ => by omega
theorem rd_Fewest_add {a : Ad} (ds : List D) (h : MH) (Kn : RV → MH → Prop) (Kx : XKm) (q : sp_Fewest_add a ds h Kn Kx) : t_Fewest_add a (bodyN Kn Kx) (startE ["self", "key", "number", "ahead"] ds) h := by
  obtain ⟨x, ns, top, size, hs, kk, S, n, rfl, F, en, kp, k⟩ := q
  show t_Fewest_add a (bodyN Kn Kx) [some (.ref x), some (.int kk), none, none] h
  have ok := F.ok
  have s1 := ok.s1
  have s2 := ok.s2
  obtain ⟨il, _⟩ := List.getElem?_eq_some_iff.mp en
  have ea : atD (ns.map D.int) (kk : Int) = some (.int n) := atD_nat (by rw [List.getElem?_map, en]; rfl)
  have kl := kp.len
  unfold t_Fewest_add
  simp only [sSeq, sSet, sSkip, sForget, sFor, sIf, sRet, sRetN, sDrop, sSetI, sAsg, sPar, sFldM, sAug, frzV, valE, mVar, mC, mOp, mUn, mCall, mFun, mMeth, mMake, mFld, mTst, mNotT, mNotV, mAndV, mOrV, mAndT, mOrT, mIte, mNil, mCons, mTup, mLst, mChain, mIter_ap, mIsi_ap, mRng1, mRng2, mLc, mYes, mCell, mRel, mSl, oNo, oSome,
  gN, gT, gsCons, gsNil, frz_d, frz_l, frz_k, gIx_p, onSet_p, onQ_p, onL_p, gLen_p, onIns_p, put_put, atD_0, atD_1, atD_2, atD_3, atD_4, ixN_0, ixN_1, ixN_2, ixN_3, ixN_4, List.length_cons, List.length_nil, onBl_b, onInt_i, onTup_t, on1_1, on2_2, onQ_l, onQ_t, onQ_s, onL_l, onLs_l, onLs_s, onD_d, onOpt_s, gII, gB, gAdd_i, gAdd_s, gAdd_t, gAdd_l, gMul_i, gMul_l, gMul_t, gSub, gMod, gDiv, gPow, gNeg, gIx_l, gIx_t, gIx_s, gLen_l, gLen_t, gLen_s, gLen_d, iterD_t, iterD_l, iterD_s,
  kind_i, kind_b, kind_s, kind_n, kind_t, kind_l, gIsN, isNon, gTuple, gList, gAll, gAny, gSum, gMin, gMax, gMin2, gMax2, gAbs, gInt, gSorted,
  List.getElem?_cons_zero, List.getElem?_cons_succ, List.getElem?_nil, List.set_cons_zero, List.set_cons_succ, List.cons_append, List.nil_append, List.append_nil, wipeE, List.any_cons, List.any_nil, isK, Bool.or_false, Bool.false_or, Bool.or_true, Bool.true_or, Bool.not_true, Bool.not_false, if_true, if_false, Bool.false_eq_true, true_and, and_true, decide_eq_true_eq, id, reduceCtorEq, gEq_i, gNe_i, gEq_b, gNe_b, gEq_li, gNe_li, gEq_l0, gNe_l0, gEq_00, gNe_00, gEq_ti, gNe_ti, mEnum, Nat.zero_add, Nat.reduceAdd, Int.reduceEq, Int.cast_ofNat_Int, Nat.zero_le, sz1, sz2, sz3, sz4, sz5, sz6, decide_true, decide_false, onIns_r F.ins, fw_n, List.length_map]
  refine is_num (by omega) (by omega) ?_
  simp only [sSeq, sSet, sSkip, sForget, sFor, sIf, sRet, sRetN, sDrop, sSetI, sAsg, sPar, sFldM, sAug, frzV, valE, mVar, mC, mOp, mUn, mCall, mFun, mMeth, mMake, mFld, mTst, mNotT, mNotV, mAndV, mOrV, mAndT, mOrT, mIte, mNil, mCons, mTup, mLst, mChain, mIter_ap, mIsi_ap, mRng1, mRng2, mLc, mYes, mCell, mRel, mSl, oNo, oSome,
  gN, gT, gsCons, gsNil, frz_d, frz_l, frz_k, gIx_p, onSet_p, onQ_p, onL_p, gLen_p, onIns_p, put_put, atD_0, atD_1, atD_2, atD_3, atD_4, ixN_0, ixN_1, ixN_2, ixN_3, ixN_4, List.length_cons, List.length_nil, onBl_b, onInt_i, onTup_t, on1_1, on2_2, onQ_l, onQ_t, onQ_s, onL_l, onLs_l, onLs_s, onD_d, onOpt_s, gII, gB, gAdd_i, gAdd_s, gAdd_t, gAdd_l, gMul_i, gMul_l, gMul_t, gSub, gMod, gDiv, gPow, gNeg, gIx_l, gIx_t, gIx_s, gLen_l, gLen_t, gLen_s, gLen_d, iterD_t, iterD_l, iterD_s,
  kind_i, kind_b, kind_s, kind_n, kind_t, kind_l, gIsN, isNon, gTuple, gList, gAll, gAny, gSum, gMin, gMax, gMin2, gMax2, gAbs, gInt, gSorted,
  List.getElem?_cons_zero, List.getElem?_cons_succ, List.getElem?_nil, List.set_cons_zero, List.set_cons_succ, List.cons_append, List.nil_append, List.append_nil, wipeE, List.any_cons, List.any_nil, isK, Bool.or_false, Bool.false_or, Bool.or_true, Bool.true_or, Bool.not_true, Bool.not_false, if_true, if_false, Bool.false_eq_true, true_and, and_true, decide_eq_true_eq, id, reduceCtorEq, gEq_i, gNe_i, gEq_b, gNe_b, gEq_li, gNe_li, gEq_l0, gNe_l0, gEq_00, gNe_00, gEq_ti, gNe_ti, mEnum, Nat.zero_add, Nat.reduceAdd, Int.reduceEq, Int.cast_ofNat_Int, Nat.zero_le, sz1, sz2, sz3, sz4, sz5, sz6, decide_true, decide_false, onIns_r F.ins, fw_n, fw_h, ea, gIn_l, inD_ints]
  refine ⟨rfl, fl_ints, ?_⟩
  by_cases hn : n ∈ hs
  · simp only [sSeq, sSet, sSkip, sForget, sFor, sIf, sRet, sRetN, sDrop, sSetI, sAsg, sPar, sFldM, sAug, frzV, valE, mVar, mC, mOp, mUn, mCall, mFun, mMeth, mMake, mFld, mTst, mNotT, mNotV, mAndV, mOrV, mAndT, mOrT, mIte, mNil, mCons, mTup, mLst, mChain, mIter_ap, mIsi_ap, mRng1, mRng2, mLc, mYes, mCell, mRel, mSl, oNo, oSome,
  gN, gT, gsCons, gsNil, frz_d, frz_l, frz_k, gIx_p, onSet_p, onQ_p, onL_p, gLen_p, onIns_p, put_put, atD_0, atD_1, atD_2, atD_3, atD_4, ixN_0, ixN_1, ixN_2, ixN_3, ixN_4, List.length_cons, List.length_nil, onBl_b, onInt_i, onTup_t, on1_1, on2_2, onQ_l, onQ_t, onQ_s, onL_l, onLs_l, onLs_s, onD_d, onOpt_s, gII, gB, gAdd_i, gAdd_s, gAdd_t, gAdd_l, gMul_i, gMul_l, gMul_t, gSub, gMod, gDiv, gPow, gNeg, gIx_l, gIx_t, gIx_s, gLen_l, gLen_t, gLen_s, gLen_d, iterD_t, iterD_l, iterD_s,
  kind_i, kind_b, kind_s, kind_n, kind_t, kind_l, gIsN, isNon, gTuple, gList, gAll, gAny, gSum, gMin, gMax, gMin2, gMax2, gAbs, gInt, gSorted,
  List.getElem?_cons_zero, List.getElem?_cons_succ, List.getElem?_nil, List.set_cons_zero, List.set_cons_succ, List.cons_append, List.nil_append, List.append_nil, wipeE, List.any_cons, List.any_nil, isK, Bool.or_false, Bool.false_or, Bool.or_true, Bool.true_or, Bool.not_true, Bool.not_false, if_true, if_false, Bool.false_eq_true, true_and, and_true, decide_eq_true_eq, id, reduceCtorEq, gEq_i, gNe_i, gEq_b, gNe_b, gEq_li, gNe_li, gEq_l0, gNe_l0, gEq_00, gNe_00, gEq_ti, gNe_ti, mEnum, Nat.zero_add, Nat.reduceAdd, Int.reduceEq, Int.cast_ofNat_Int, Nat.zero_le, sz1, sz2, sz3, sz4, sz5, sz6, decide_true, decide_false, hn, gNe_li, onIns_r F.ins, fw_h]
    have e2 : put h x (.ins a.Fewest (fewF ns top size hs)) = h := put_self F.ins
    have := k hs (kp.have hn)
    rw [e2] at this
    exact bodyN_rt0 (by simpa using this)
  · simp only [sSeq, sSet, sSkip, sForget, sFor, sIf, sRet, sRetN, sDrop, sSetI, sAsg, sPar, sFldM, sAug, frzV, valE, mVar, mC, mOp, mUn, mCall, mFun, mMeth, mMake, mFld, mTst, mNotT, mNotV, mAndV, mOrV, mAndT, mOrT, mIte, mNil, mCons, mTup, mLst, mChain, mIter_ap, mIsi_ap, mRng1, mRng2, mLc, mYes, mCell, mRel, mSl, oNo, oSome,
  gN, gT, gsCons, gsNil, frz_d, frz_l, frz_k, gIx_p, onSet_p, onQ_p, onL_p, gLen_p, onIns_p, put_put, atD_0, atD_1, atD_2, atD_3, atD_4, ixN_0, ixN_1, ixN_2, ixN_3, ixN_4, List.length_cons, List.length_nil, onBl_b, onInt_i, onTup_t, on1_1, on2_2, onQ_l, onQ_t, onQ_s, onL_l, onLs_l, onLs_s, onD_d, onOpt_s, gII, gB, gAdd_i, gAdd_s, gAdd_t, gAdd_l, gMul_i, gMul_l, gMul_t, gSub, gMod, gDiv, gPow, gNeg, gIx_l, gIx_t, gIx_s, gLen_l, gLen_t, gLen_s, gLen_d, iterD_t, iterD_l, iterD_s,
  kind_i, kind_b, kind_s, kind_n, kind_t, kind_l, gIsN, isNon, gTuple, gList, gAll, gAny, gSum, gMin, gMax, gMin2, gMax2, gAbs, gInt, gSorted,
  List.getElem?_cons_zero, List.getElem?_cons_succ, List.getElem?_nil, List.set_cons_zero, List.set_cons_succ, List.cons_append, List.nil_append, List.append_nil, wipeE, List.any_cons, List.any_nil, isK, Bool.or_false, Bool.false_or, Bool.or_true, Bool.true_or, Bool.not_true, Bool.not_false, if_true, if_false, Bool.false_eq_true, true_and, and_true, decide_eq_true_eq, id, reduceCtorEq, gEq_i, gNe_i, gEq_b, gNe_b, gEq_li, gNe_li, gEq_l0, gNe_l0, gEq_00, gNe_00, gEq_ti, gNe_ti, mEnum, Nat.zero_add, Nat.reduceAdd, Int.reduceEq, Int.cast_ofNat_Int, Nat.zero_le, sz1, sz2, sz3, sz4, sz5, sz6, decide_true, decide_false, hn, onIns_r F.ins, fw_h, fw_s]
    have big := line_big
    refine ⟨by rw [List.length_map]; omega, ?_⟩
    have e1 : hs.map D.int ++ [D.int n] = (hs ++ [n]).map D.int := by simp
    simp only [onLs_l, e1, intsD_m]
    intro ms pm pw
    simp only [sSeq, sSet, sSkip, sForget, sFor, sIf, sRet, sRetN, sDrop, sSetI, sAsg, sPar, sFldM, sAug, frzV, valE, mVar, mC, mOp, mUn, mCall, mFun, mMeth, mMake, mFld, mTst, mNotT, mNotV, mAndV, mOrV, mAndT, mOrT, mIte, mNil, mCons, mTup, mLst, mChain, mIter_ap, mIsi_ap, mRng1, mRng2, mLc, mYes, mCell, mRel, mSl, oNo, oSome,
  gN, gT, gsCons, gsNil, frz_d, frz_l, frz_k, gIx_p, onSet_p, onQ_p, onL_p, gLen_p, onIns_p, put_put, atD_0, atD_1, atD_2, atD_3, atD_4, ixN_0, ixN_1, ixN_2, ixN_3, ixN_4, List.length_cons, List.length_nil, onBl_b, onInt_i, onTup_t, on1_1, on2_2, onQ_l, onQ_t, onQ_s, onL_l, onLs_l, onLs_s, onD_d, onOpt_s, gII, gB, gAdd_i, gAdd_s, gAdd_t, gAdd_l, gMul_i, gMul_l, gMul_t, gSub, gMod, gDiv, gPow, gNeg, gIx_l, gIx_t, gIx_s, gLen_l, gLen_t, gLen_s, gLen_d, iterD_t, iterD_l, iterD_s,
  kind_i, kind_b, kind_s, kind_n, kind_t, kind_l, gIsN, isNon, gTuple, gList, gAll, gAny, gSum, gMin, gMax, gMin2, gMax2, gAbs, gInt, gSorted,
  List.getElem?_cons_zero, List.getElem?_cons_succ, List.getElem?_nil, List.set_cons_zero, List.set_cons_succ, List.cons_append, List.nil_append, List.append_nil, wipeE, List.any_cons, List.any_nil, isK, Bool.or_false, Bool.false_or, Bool.or_true, Bool.true_or, Bool.not_true, Bool.not_false, if_true, if_false, Bool.false_eq_true, true_and, and_true, decide_eq_true_eq, id, reduceCtorEq, gEq_i, gNe_i, gEq_b, gNe_b, gEq_li, gNe_li, gEq_l0, gNe_l0, gEq_00, gNe_00, gEq_ti, gNe_ti, mEnum, Nat.zero_add, Nat.reduceAdd, Int.reduceEq, Int.cast_ofNat_Int, Nat.zero_le, sz1, sz2, sz3, sz4, sz5, sz6, decide_true, decide_false, gSl_l, cut_toI (by omega : 0 ≤ size), ← List.map_take, onIns_r F.ins, fw_p]
    refine ⟨fw_l, ?_⟩
    have nd : ms.Nodup := pm.nodup_iff.mpr (List.nodup_append.mpr ⟨up_nd kp.up, by simp, fun y hy z hz e => by
      simp at hz
      subst hz e
      exact hn hy⟩)
    have kp2 := kp.join (Kept.one (k := size.toNat) (n := n) (by omega)) (le_lt pw nd) fun y => pm.mem_iff
    have e3 : onIns (put h x (.ins a.Fewest (fewF ns top size (ms.take size.toNat)))) (.ref x) a.Fewest = onIns (put h x (.ins a.Fewest (fewF ns top size (ms.take size.toNat)))) (.ref x) a.Fewest := rfl
    simp only [sSeq, sSet, sSkip, sForget, sFor, sIf, sRet, sRetN, sDrop, sSetI, sAsg, sPar, sFldM, sAug, frzV, valE, mVar, mC, mOp, mUn, mCall, mFun, mMeth, mMake, mFld, mTst, mNotT, mNotV, mAndV, mOrV, mAndT, mOrT, mIte, mNil, mCons, mTup, mLst, mChain, mIter_ap, mIsi_ap, mRng1, mRng2, mLc, mYes, mCell, mRel, mSl, oNo, oSome,
  gN, gT, gsCons, gsNil, frz_d, frz_l, frz_k, gIx_p, onSet_p, onQ_p, onL_p, gLen_p, onIns_p, put_put, atD_0, atD_1, atD_2, atD_3, atD_4, ixN_0, ixN_1, ixN_2, ixN_3, ixN_4, List.length_cons, List.length_nil, onBl_b, onInt_i, onTup_t, on1_1, on2_2, onQ_l, onQ_t, onQ_s, onL_l, onLs_l, onLs_s, onD_d, onOpt_s, gII, gB, gAdd_i, gAdd_s, gAdd_t, gAdd_l, gMul_i, gMul_l, gMul_t, gSub, gMod, gDiv, gPow, gNeg, gIx_l, gIx_t, gIx_s, gLen_l, gLen_t, gLen_s, gLen_d, iterD_t, iterD_l, iterD_s,
  kind_i, kind_b, kind_s, kind_n, kind_t, kind_l, gIsN, isNon, gTuple, gList, gAll, gAny, gSum, gMin, gMax, gMin2, gMax2, gAbs, gInt, gSorted,
  List.getElem?_cons_zero, List.getElem?_cons_succ, List.getElem?_nil, List.set_cons_zero, List.set_cons_succ, List.cons_append, List.nil_append, List.append_nil, wipeE, List.any_cons, List.any_nil, isK, Bool.or_false, Bool.false_or, Bool.or_true, Bool.true_or, Bool.not_true, Bool.not_false, if_true, if_false, Bool.false_eq_true, true_and, and_true, decide_eq_true_eq, id, reduceCtorEq, gEq_i, gNe_i, gEq_b, gNe_b, gEq_li, gNe_li, gEq_l0, gNe_l0, gEq_00, gNe_00, gEq_ti, gNe_ti, mEnum, Nat.zero_add, Nat.reduceAdd, Int.reduceEq, Int.cast_ofNat_Int, Nat.zero_le, sz1, sz2, sz3, sz4, sz5, sz6, decide_true, decide_false, fw_h, gNe_li]
    exact bodyN_rt0 (k _ kp2)
theorem rd_Fewest_merged {a : Ad} (ds : List D) (h : MH) (Kn : RV → MH → Prop) (Kx : XKm) (q : sp_Fewest_merged a ds h Kn Kx) : t_Fewest_merged a (bodyN Kn Kx) (startE ["self", "other", "found"] ds) h := by
  obtain ⟨x, y, ns, top, size, h1, h2, S1, S2, rfl, F1, F2, k1, k2, k⟩ := q
  show t_Fewest_merged a (bodyN Kn Kx) [some (.ref x), some (.ref y), none] h
  have ok := F1.ok
  have s1 := ok.s1
  have s2 := ok.s2
  have kn : kindD h (.ref y) = none := by
    show (match h y with
      | some (.lst _) => some Kd.lst
      | some (.dct _) => some Kd.dct
      | _ => none) = none
    rw [F2.ins]
  have l1 := k1.len
  have l2 := k2.len
  have big := line_big
  have pl : eqOk (.tup [.tup (ns.map D.int), .int top, .int size]) := ⟨2, by omega, by
    show ((plD 1 (.tup (ns.map D.int))) && (plD 1 (.int top) && (plD 1 (.int size) && true))) = true
    rw [show plD 1 (.tup (ns.map D.int)) = (ns.map D.int).all (plD 0) from rfl, pl_ints]
    rfl⟩
  have er : eqD (.tup [.tup (ns.map D.int), .int top, .int size]) (.tup [.tup (ns.map D.int), .int top, .int size]) = true := by
    obtain ⟨n, _, h⟩ := pl
    exact eqD_refl h
  unfold t_Fewest_merged
  simp only [sSeq, sSet, sSkip, sForget, sFor, sIf, sRet, sRetN, sDrop, sSetI, sAsg, sPar, sFldM, sAug, frzV, valE, mVar, mC, mOp, mUn, mCall, mFun, mMeth, mMake, mFld, mTst, mNotT, mNotV, mAndV, mOrV, mAndT, mOrT, mIte, mNil, mCons, mTup, mLst, mChain, mIter_ap, mIsi_ap, mRng1, mRng2, mLc, mYes, mCell, mRel, mSl, oNo, oSome,
  gN, gT, gsCons, gsNil, frz_d, frz_l, frz_k, gIx_p, onSet_p, onQ_p, onL_p, gLen_p, onIns_p, put_put, atD_0, atD_1, atD_2, atD_3, atD_4, ixN_0, ixN_1, ixN_2, ixN_3, ixN_4, List.length_cons, List.length_nil, onBl_b, onInt_i, onTup_t, on1_1, on2_2, onQ_l, onQ_t, onQ_s, onL_l, onLs_l, onLs_s, onD_d, onOpt_s, gII, gB, gAdd_i, gAdd_s, gAdd_t, gAdd_l, gMul_i, gMul_l, gMul_t, gSub, gMod, gDiv, gPow, gNeg, gIx_l, gIx_t, gIx_s, gLen_l, gLen_t, gLen_s, gLen_d, iterD_t, iterD_l, iterD_s,
  kind_i, kind_b, kind_s, kind_n, kind_t, kind_l, gIsN, isNon, gTuple, gList, gAll, gAny, gSum, gMin, gMax, gMin2, gMax2, gAbs, gInt, gSorted,
  List.getElem?_cons_zero, List.getElem?_cons_succ, List.getElem?_nil, List.set_cons_zero, List.set_cons_succ, List.cons_append, List.nil_append, List.append_nil, wipeE, List.any_cons, List.any_nil, isK, Bool.or_false, Bool.false_or, Bool.or_true, Bool.true_or, Bool.not_true, Bool.not_false, if_true, if_false, Bool.false_eq_true, true_and, and_true, decide_eq_true_eq, id, reduceCtorEq, gEq_i, gNe_i, gEq_b, gNe_b, gEq_li, gNe_li, gEq_l0, gNe_l0, gEq_00, gNe_00, gEq_ti, gNe_ti, mEnum, Nat.zero_add, Nat.reduceAdd, Int.reduceEq, Int.cast_ofNat_Int, Nat.zero_le, sz1, sz2, sz3, sz4, sz5, sz6, decide_true, decide_false, mIsO, kn, onIns_r F1.ins, onIns_r F2.ins, fw_n, fw_t, fw_s, gNe_ok (x := .tup [.tup (ns.map D.int), .int top, .int size]) (y := .tup [.tup (ns.map D.int), .int top, .int size]) pl pl, res_t, er, mMakeK]
  intro z hz
  have xz : x ≠ z := ne_new F1.ins hz
  have yz : y ≠ z := ne_new F2.ins hz
  refine ⟨z, ns, top, size, rfl, ok, put_same, ?_⟩
  rw [put_put]
  have F1' : put h z (.ins a.Fewest (fewF ns top size [])) x = some (.ins a.Fewest (fewF ns top size h1)) := (put_ne xz).trans F1.ins
  have F2' : put h z (.ins a.Fewest (fewF ns top size [])) y = some (.ins a.Fewest (fewF ns top size h2)) := (put_ne yz).trans F2.ins
  simp only [sSeq, sSet, sSkip, sForget, sFor, sIf, sRet, sRetN, sDrop, sSetI, sAsg, sPar, sFldM, sAug, frzV, valE, mVar, mC, mOp, mUn, mCall, mFun, mMeth, mMake, mFld, mTst, mNotT, mNotV, mAndV, mOrV, mAndT, mOrT, mIte, mNil, mCons, mTup, mLst, mChain, mIter_ap, mIsi_ap, mRng1, mRng2, mLc, mYes, mCell, mRel, mSl, oNo, oSome,
  gN, gT, gsCons, gsNil, frz_d, frz_l, frz_k, gIx_p, onSet_p, onQ_p, onL_p, gLen_p, onIns_p, put_put, atD_0, atD_1, atD_2, atD_3, atD_4, ixN_0, ixN_1, ixN_2, ixN_3, ixN_4, List.length_cons, List.length_nil, onBl_b, onInt_i, onTup_t, on1_1, on2_2, onQ_l, onQ_t, onQ_s, onL_l, onLs_l, onLs_s, onD_d, onOpt_s, gII, gB, gAdd_i, gAdd_s, gAdd_t, gAdd_l, gMul_i, gMul_l, gMul_t, gSub, gMod, gDiv, gPow, gNeg, gIx_l, gIx_t, gIx_s, gLen_l, gLen_t, gLen_s, gLen_d, iterD_t, iterD_l, iterD_s,
  kind_i, kind_b, kind_s, kind_n, kind_t, kind_l, gIsN, isNon, gTuple, gList, gAll, gAny, gSum, gMin, gMax, gMin2, gMax2, gAbs, gInt, gSorted,
  List.getElem?_cons_zero, List.getElem?_cons_succ, List.getElem?_nil, List.set_cons_zero, List.set_cons_succ, List.cons_append, List.nil_append, List.append_nil, wipeE, List.any_cons, List.any_nil, isK, Bool.or_false, Bool.false_or, Bool.or_true, Bool.true_or, Bool.not_true, Bool.not_false, if_true, if_false, Bool.false_eq_true, true_and, and_true, decide_eq_true_eq, id, reduceCtorEq, gEq_i, gNe_i, gEq_b, gNe_b, gEq_li, gNe_li, gEq_l0, gNe_l0, gEq_00, gNe_00, gEq_ti, gNe_ti, mEnum, Nat.zero_add, Nat.reduceAdd, Int.reduceEq, Int.cast_ofNat_Int, Nat.zero_le, sz1, sz2, sz3, sz4, sz5, sz6, decide_true, decide_false, onIns_r F1', onIns_r F2', fw_h, fw_s, mSortSet, List.length_map]
  refine ⟨by omega, ?_⟩
  rw [← List.map_append]
  simp only [onLs_l, intsD_m]
  refine ⟨by rw [List.length_append]; omega, fun ms pw mem => ?_⟩
  simp only [sSeq, sSet, sSkip, sForget, sFor, sIf, sRet, sRetN, sDrop, sSetI, sAsg, sPar, sFldM, sAug, frzV, valE, mVar, mC, mOp, mUn, mCall, mFun, mMeth, mMake, mFld, mTst, mNotT, mNotV, mAndV, mOrV, mAndT, mOrT, mIte, mNil, mCons, mTup, mLst, mChain, mIter_ap, mIsi_ap, mRng1, mRng2, mLc, mYes, mCell, mRel, mSl, oNo, oSome,
  gN, gT, gsCons, gsNil, frz_d, frz_l, frz_k, gIx_p, onSet_p, onQ_p, onL_p, gLen_p, onIns_p, put_put, atD_0, atD_1, atD_2, atD_3, atD_4, ixN_0, ixN_1, ixN_2, ixN_3, ixN_4, List.length_cons, List.length_nil, onBl_b, onInt_i, onTup_t, on1_1, on2_2, onQ_l, onQ_t, onQ_s, onL_l, onLs_l, onLs_s, onD_d, onOpt_s, gII, gB, gAdd_i, gAdd_s, gAdd_t, gAdd_l, gMul_i, gMul_l, gMul_t, gSub, gMod, gDiv, gPow, gNeg, gIx_l, gIx_t, gIx_s, gLen_l, gLen_t, gLen_s, gLen_d, iterD_t, iterD_l, iterD_s,
  kind_i, kind_b, kind_s, kind_n, kind_t, kind_l, gIsN, isNon, gTuple, gList, gAll, gAny, gSum, gMin, gMax, gMin2, gMax2, gAbs, gInt, gSorted,
  List.getElem?_cons_zero, List.getElem?_cons_succ, List.getElem?_nil, List.set_cons_zero, List.set_cons_succ, List.cons_append, List.nil_append, List.append_nil, wipeE, List.any_cons, List.any_nil, isK, Bool.or_false, Bool.false_or, Bool.or_true, Bool.true_or, Bool.not_true, Bool.not_false, if_true, if_false, Bool.false_eq_true, true_and, and_true, decide_eq_true_eq, id, reduceCtorEq, gEq_i, gNe_i, gEq_b, gNe_b, gEq_li, gNe_li, gEq_l0, gNe_l0, gEq_00, gNe_00, gEq_ti, gNe_ti, mEnum, Nat.zero_add, Nat.reduceAdd, Int.reduceEq, Int.cast_ofNat_Int, Nat.zero_le, sz1, sz2, sz3, sz4, sz5, sz6, decide_true, decide_false, gSl_l, cut_toI (by omega : 0 ≤ size), ← List.map_take, onIns_p, fw_p]
  exact ⟨fw_l, bodyN_rt0 (k _ (k1.join k2 pw mem) z hz)⟩
theorem RowAt.ne {h : MH} {r q : Addr} {m : MO} (R : RowAt h r) (n : r ≠ q) : RowAt (put h q m) r := by
  obtain ⟨ns, pos, ex, mx, e, hp⟩ := R
  exact ⟨ns, pos, ex, mx, (put_ne n).trans e, hp⟩
theorem RowAt.del {h : MH} {r q : Addr} (R : RowAt h r) (n : r ≠ q) : RowAt (del h q) r := by
  obtain ⟨ns, pos, ex, mx, e, hp⟩ := R
  exact ⟨ns, pos, ex, mx, (del_ne n).trans e, hp⟩
theorem perm_erase {α : Type} : ∀ {l : List α} {i : Nat} (h : i < l.length), (l[i] :: l.eraseIdx i).Perm l
  | x :: l, 0, _ => List.Perm.refl _
  | x :: l, i + 1, h => by
    have ih := perm_erase (l := l) (i := i) (by simpa using h)
    exact (List.Perm.swap x _ _).trans (ih.cons x)
theorem map_erase {α β : Type} {f : α → β} : ∀ {l : List α} {i : Nat}, (l.map f).eraseIdx i = (l.eraseIdx i).map f
  | [], _ => rfl
  | _ :: _, 0 => rfl
  | x :: l, i + 1 => congrArg (f x :: ·) (map_erase (l := l) (i := i))
theorem rng_ints {n : Nat} : rngD 0 n = ((List.range n).map fun i : Nat => (i : Int)).map D.int := by
  unfold rngD
  rw [List.map_map]
  congr 1
  funext i
  show D.int (0 + (i : Int)) = D.int i
  rw [Int.zero_add]
theorem rd_law_numbers {a : Ad} (ds : List D) (h : MH) (Kn : RV → MH → Prop) (Kx : XKm) (q : sp_law_numbers a ds h Kn Kx) : t_law_numbers a (bodyN Kn Kx) (startE ["_law_row_here", "_law_high_end", "_law_many", "_law_left", "_law_found", "_law_k"] ds) h := by
  obtain ⟨r, hi, many, rfl, h1, h2, m1, m2, R, k⟩ := q
  show t_law_numbers a (bodyN Kn Kx) [some (.ref r), some (.int hi), some (.int many), none, none, none] h
  have big := line_big
  obtain ⟨n, rfl⟩ := Int.eq_ofNat_of_zero_le (by omega : 0 ≤ hi)
  unfold t_law_numbers
  simp only [sSeq, sSet, sSkip, sForget, sFor, sIf, sRet, sRetN, sDrop, sSetI, sAsg, sPar, sFldM, sAug, frzV, valE, mVar, mC, mOp, mUn, mCall, mFun, mMeth, mMake, mFld, mTst, mNotT, mNotV, mAndV, mOrV, mAndT, mOrT, mIte, mNil, mCons, mTup, mLst, mChain, mIter_ap, mIsi_ap, mRng1, mRng2, mLc, mYes, mCell, mRel, mSl, oNo, oSome,
  gN, gT, gsCons, gsNil, frz_d, frz_l, frz_k, gIx_p, onSet_p, onQ_p, onL_p, gLen_p, onIns_p, put_put, atD_0, atD_1, atD_2, atD_3, atD_4, ixN_0, ixN_1, ixN_2, ixN_3, ixN_4, List.length_cons, List.length_nil, onBl_b, onInt_i, onTup_t, on1_1, on2_2, onQ_l, onQ_t, onQ_s, onL_l, onLs_l, onLs_s, onD_d, onOpt_s, gII, gB, gAdd_i, gAdd_s, gAdd_t, gAdd_l, gMul_i, gMul_l, gMul_t, gSub, gMod, gDiv, gPow, gNeg, gIx_l, gIx_t, gIx_s, gLen_l, gLen_t, gLen_s, gLen_d, iterD_t, iterD_l, iterD_s,
  kind_i, kind_b, kind_s, kind_n, kind_t, kind_l, gIsN, isNon, gTuple, gList, gAll, gAny, gSum, gMin, gMax, gMin2, gMax2, gAbs, gInt, gSorted,
  List.getElem?_cons_zero, List.getElem?_cons_succ, List.getElem?_nil, List.set_cons_zero, List.set_cons_succ, List.cons_append, List.nil_append, List.append_nil, wipeE, List.any_cons, List.any_nil, isK, Bool.or_false, Bool.false_or, Bool.or_true, Bool.true_or, Bool.not_true, Bool.not_false, if_true, if_false, Bool.false_eq_true, true_and, and_true, decide_eq_true_eq, id, reduceCtorEq, gEq_i, gNe_i, gEq_b, gNe_b, gEq_li, gNe_li, gEq_l0, gNe_l0, gEq_00, gNe_00, gEq_ti, gNe_ti, mEnum, Nat.zero_add, Nat.reduceAdd, Int.reduceEq, Int.cast_ofNat_Int, Nat.zero_le, sz1, sz2, sz3, sz4, sz5, sz6, decide_true, decide_false, mListRg]
  refine ⟨⟨by omega, by omega⟩, fun l hl => ?_⟩
  have rl : r ≠ l := by
    obtain ⟨_, _, _, _, e, _⟩ := R
    exact ne_new e hl
  refine ⟨⟨by split <;> omega, by split <;> omega⟩, ?_⟩
  have em : ((if many < (n : Int) then many else (n : Int)).toNat : Int) = min (n : Int) many := by split <;> omega
  refine for_inv (fun i E h' => ∃ left found : List Int, found.length = i ∧ left.length + i = n ∧ (found ++ left).Nodup ∧ (∀ x ∈ found ++ left, 0 ≤ x ∧ x < (n : Int)) ∧ h' l = some (.lst (left.map D.int)) ∧ RowAt h' r ∧ (∀ b, b ≠ r → b ≠ l → h' b = h b) ∧
      E = [some (.ref r), some (.int n), some (.int many), some (.ref l), some (.tup (found.map D.int)), none]) ?_ ?_ ?_
  · refine ⟨(List.range n).map fun i : Nat => (i : Int), [], rfl, by simp, ?_, ?_, ?_, R.ne rl, fun b _ hb => put_ne hb, rfl⟩
    · rw [List.nil_append]
      exact List.pairwise_map.mpr (List.nodup_range.imp fun h e => h (by omega))
    · intro x hx
      simp at hx
      omega
    · rw [put_same, Int.toNat_natCast, rng_ints]
  · rintro i d E h' kc hi' ⟨left, found, e1, e2, nd, rg, el, R', fr, rfl⟩ hk
    obtain ⟨ii, rfl⟩ := rng_get hi'
    have il : i < n := by omega
    simp only [sSeq, sSet, sSkip, sForget, sFor, sIf, sRet, sRetN, sDrop, sSetI, sAsg, sPar, sFldM, sAug, frzV, valE, mVar, mC, mOp, mUn, mCall, mFun, mMeth, mMake, mFld, mTst, mNotT, mNotV, mAndV, mOrV, mAndT, mOrT, mIte, mNil, mCons, mTup, mLst, mChain, mIter_ap, mIsi_ap, mRng1, mRng2, mLc, mYes, mCell, mRel, mSl, oNo, oSome,
  gN, gT, gsCons, gsNil, frz_d, frz_l, frz_k, gIx_p, onSet_p, onQ_p, onL_p, gLen_p, onIns_p, put_put, atD_0, atD_1, atD_2, atD_3, atD_4, ixN_0, ixN_1, ixN_2, ixN_3, ixN_4, List.length_cons, List.length_nil, onBl_b, onInt_i, onTup_t, on1_1, on2_2, onQ_l, onQ_t, onQ_s, onL_l, onLs_l, onLs_s, onD_d, onOpt_s, gII, gB, gAdd_i, gAdd_s, gAdd_t, gAdd_l, gMul_i, gMul_l, gMul_t, gSub, gMod, gDiv, gPow, gNeg, gIx_l, gIx_t, gIx_s, gLen_l, gLen_t, gLen_s, gLen_d, iterD_t, iterD_l, iterD_s,
  kind_i, kind_b, kind_s, kind_n, kind_t, kind_l, gIsN, isNon, gTuple, gList, gAll, gAny, gSum, gMin, gMax, gMin2, gMax2, gAbs, gInt, gSorted,
  List.getElem?_cons_zero, List.getElem?_cons_succ, List.getElem?_nil, List.set_cons_zero, List.set_cons_succ, List.cons_append, List.nil_append, List.append_nil, wipeE, List.any_cons, List.any_nil, isK, Bool.or_false, Bool.false_or, Bool.or_true, Bool.true_or, Bool.not_true, Bool.not_false, if_true, if_false, Bool.false_eq_true, true_and, and_true, decide_eq_true_eq, id, reduceCtorEq, gEq_i, gNe_i, gEq_b, gNe_b, gEq_li, gNe_li, gEq_l0, gNe_l0, gEq_00, gNe_00, gEq_ti, gNe_ti, mEnum, Nat.zero_add, Nat.reduceAdd, Int.reduceEq, Int.cast_ofNat_Int, Nat.zero_le, sz1, sz2, sz3, sz4, sz5, sz6, decide_true, decide_false, mPopAt, cellL_r el, gLen_r el, List.length_map]
    refine ⟨r, left.length, rfl, by omega, by omega, R', fun v h2 v0 v1 f2 R2 => ?_⟩
    have el2 : h2 l = some (.lst (left.map D.int)) := (f2 l rl.symm).trans el
    obtain ⟨v, rfl⟩ := Int.eq_ofNat_of_zero_le v0
    have vl : v < left.length := by omega
    simp only [sSeq, sSet, sSkip, sForget, sFor, sIf, sRet, sRetN, sDrop, sSetI, sAsg, sPar, sFldM, sAug, frzV, valE, mVar, mC, mOp, mUn, mCall, mFun, mMeth, mMake, mFld, mTst, mNotT, mNotV, mAndV, mOrV, mAndT, mOrT, mIte, mNil, mCons, mTup, mLst, mChain, mIter_ap, mIsi_ap, mRng1, mRng2, mLc, mYes, mCell, mRel, mSl, oNo, oSome,
  gN, gT, gsCons, gsNil, frz_d, frz_l, frz_k, gIx_p, onSet_p, onQ_p, onL_p, gLen_p, onIns_p, put_put, atD_0, atD_1, atD_2, atD_3, atD_4, ixN_0, ixN_1, ixN_2, ixN_3, ixN_4, List.length_cons, List.length_nil, onBl_b, onInt_i, onTup_t, on1_1, on2_2, onQ_l, onQ_t, onQ_s, onL_l, onLs_l, onLs_s, onD_d, onOpt_s, gII, gB, gAdd_i, gAdd_s, gAdd_t, gAdd_l, gMul_i, gMul_l, gMul_t, gSub, gMod, gDiv, gPow, gNeg, gIx_l, gIx_t, gIx_s, gLen_l, gLen_t, gLen_s, gLen_d, iterD_t, iterD_l, iterD_s,
  kind_i, kind_b, kind_s, kind_n, kind_t, kind_l, gIsN, isNon, gTuple, gList, gAll, gAny, gSum, gMin, gMax, gMin2, gMax2, gAbs, gInt, gSorted,
  List.getElem?_cons_zero, List.getElem?_cons_succ, List.getElem?_nil, List.set_cons_zero, List.set_cons_succ, List.cons_append, List.nil_append, List.append_nil, wipeE, List.any_cons, List.any_nil, isK, Bool.or_false, Bool.false_or, Bool.or_true, Bool.true_or, Bool.not_true, Bool.not_false, if_true, if_false, Bool.false_eq_true, true_and, and_true, decide_eq_true_eq, id, reduceCtorEq, gEq_i, gNe_i, gEq_b, gNe_b, gEq_li, gNe_li, gEq_l0, gNe_l0, gEq_00, gNe_00, gEq_ti, gNe_ti, mEnum, Nat.zero_add, Nat.reduceAdd, Int.reduceEq, Int.cast_ofNat_Int, Nat.zero_le, sz1, sz2, sz3, sz4, sz5, sz6, decide_true, decide_false, cellL_r el2, List.length_map, ixN_nat vl]
    refine ⟨⟨by omega, by omega⟩, ?_⟩
    have eg : (left.map D.int)[v]? = some (.int left[v]) := by rw [List.getElem?_map, List.getElem?_eq_getElem vl]; rfl
    simp only [sSeq, sSet, sSkip, sForget, sFor, sIf, sRet, sRetN, sDrop, sSetI, sAsg, sPar, sFldM, sAug, frzV, valE, mVar, mC, mOp, mUn, mCall, mFun, mMeth, mMake, mFld, mTst, mNotT, mNotV, mAndV, mOrV, mAndT, mOrT, mIte, mNil, mCons, mTup, mLst, mChain, mIter_ap, mIsi_ap, mRng1, mRng2, mLc, mYes, mCell, mRel, mSl, oNo, oSome,
  gN, gT, gsCons, gsNil, frz_d, frz_l, frz_k, gIx_p, onSet_p, onQ_p, onL_p, gLen_p, onIns_p, put_put, atD_0, atD_1, atD_2, atD_3, atD_4, ixN_0, ixN_1, ixN_2, ixN_3, ixN_4, List.length_cons, List.length_nil, onBl_b, onInt_i, onTup_t, on1_1, on2_2, onQ_l, onQ_t, onQ_s, onL_l, onLs_l, onLs_s, onD_d, onOpt_s, gII, gB, gAdd_i, gAdd_s, gAdd_t, gAdd_l, gMul_i, gMul_l, gMul_t, gSub, gMod, gDiv, gPow, gNeg, gIx_l, gIx_t, gIx_s, gLen_l, gLen_t, gLen_s, gLen_d, iterD_t, iterD_l, iterD_s,
  kind_i, kind_b, kind_s, kind_n, kind_t, kind_l, gIsN, isNon, gTuple, gList, gAll, gAny, gSum, gMin, gMax, gMin2, gMax2, gAbs, gInt, gSorted,
  List.getElem?_cons_zero, List.getElem?_cons_succ, List.getElem?_nil, List.set_cons_zero, List.set_cons_succ, List.cons_append, List.nil_append, List.append_nil, wipeE, List.any_cons, List.any_nil, isK, Bool.or_false, Bool.false_or, Bool.or_true, Bool.true_or, Bool.not_true, Bool.not_false, if_true, if_false, Bool.false_eq_true, true_and, and_true, decide_eq_true_eq, id, reduceCtorEq, gEq_i, gNe_i, gEq_b, gNe_b, gEq_li, gNe_li, gEq_l0, gNe_l0, gEq_00, gNe_00, gEq_ti, gNe_ti, mEnum, Nat.zero_add, Nat.reduceAdd, Int.reduceEq, Int.cast_ofNat_Int, Nat.zero_le, sz1, sz2, sz3, sz4, sz5, sz6, decide_true, decide_false, eg]
    have pm : (found ++ [left[v]] ++ left.eraseIdx v).Perm (found ++ left) := by
      rw [List.append_assoc]
      exact List.Perm.append_left _ (perm_erase vl)
    refine ⟨by omega, hk _ _ ⟨left.eraseIdx v, found ++ [left[v]], by simp [e1], by rw [List.length_eraseIdx_of_lt vl]; omega, pm.nodup_iff.mpr nd, fun x hx => rg x (pm.mem_iff.mp hx), ?_, R2.ne rl, fun b hb hb2 => ?_, by simp⟩⟩
    · rw [put_same, map_erase]
    · rw [put_ne hb2, f2 b hb, fr b hb hb2]
  · rintro E h' ⟨left, found, e1, e2, nd, rg, el, R', fr, rfl⟩
    rw [rng_len] at e1 e2
    simp only [sSeq, sSet, sSkip, sForget, sFor, sIf, sRet, sRetN, sDrop, sSetI, sAsg, sPar, sFldM, sAug, frzV, valE, mVar, mC, mOp, mUn, mCall, mFun, mMeth, mMake, mFld, mTst, mNotT, mNotV, mAndV, mOrV, mAndT, mOrT, mIte, mNil, mCons, mTup, mLst, mChain, mIter_ap, mIsi_ap, mRng1, mRng2, mLc, mYes, mCell, mRel, mSl, oNo, oSome,
  gN, gT, gsCons, gsNil, frz_d, frz_l, frz_k, gIx_p, onSet_p, onQ_p, onL_p, gLen_p, onIns_p, put_put, atD_0, atD_1, atD_2, atD_3, atD_4, ixN_0, ixN_1, ixN_2, ixN_3, ixN_4, List.length_cons, List.length_nil, onBl_b, onInt_i, onTup_t, on1_1, on2_2, onQ_l, onQ_t, onQ_s, onL_l, onLs_l, onLs_s, onD_d, onOpt_s, gII, gB, gAdd_i, gAdd_s, gAdd_t, gAdd_l, gMul_i, gMul_l, gMul_t, gSub, gMod, gDiv, gPow, gNeg, gIx_l, gIx_t, gIx_s, gLen_l, gLen_t, gLen_s, gLen_d, iterD_t, iterD_l, iterD_s,
  kind_i, kind_b, kind_s, kind_n, kind_t, kind_l, gIsN, isNon, gTuple, gList, gAll, gAny, gSum, gMin, gMax, gMin2, gMax2, gAbs, gInt, gSorted,
  List.getElem?_cons_zero, List.getElem?_cons_succ, List.getElem?_nil, List.set_cons_zero, List.set_cons_succ, List.cons_append, List.nil_append, List.append_nil, wipeE, List.any_cons, List.any_nil, isK, Bool.or_false, Bool.false_or, Bool.or_true, Bool.true_or, Bool.not_true, Bool.not_false, if_true, if_false, Bool.false_eq_true, true_and, and_true, decide_eq_true_eq, id, reduceCtorEq, gEq_i, gNe_i, gEq_b, gNe_b, gEq_li, gNe_li, gEq_l0, gNe_l0, gEq_00, gNe_00, gEq_ti, gNe_ti, mEnum, Nat.zero_add, Nat.reduceAdd, Int.reduceEq, Int.cast_ofNat_Int, Nat.zero_le, sz1, sz2, sz3, sz4, sz5, sz6, decide_true, decide_false]
    refine bodyN_rt (h2 := del h' l) (k found (del h' l) (List.nodup_append.mp nd).1 (fun x hx => rg x (List.mem_append_left _ hx)) (by rw [← em]; omega) (fun b hb => ?_) (R'.del rl)) fun b m e => ?_
    · by_cases hb2 : b = l
      · rw [hb2, hl]
        exact if_pos rfl
      · rw [del_ne hb2, fr b hb hb2]
    · by_cases hb2 : b = l
      · rw [hb2] at e
        rw [show del h' l l = none from if_pos rfl] at e
        cases e
      · rw [del_ne hb2] at e
        exact e
end M3
set_option Elab.async false
set_option linter.all false
set_option maxRecDepth 100000
set_option maxHeartbeats 8000000
namespace M3
open PySem PySem.Spec PyProof.Rows L2
structure LF (a : Ad) (h : MH) (r m : Addr) (xx : Nat → Addr) (ns : List Int) (hi room : Int) (hh : Nat → List Int) (SS : Nat → Int → Prop) : Prop where
  row : RowAt h r
  few : ∀ i, i < 2 → FewAt a h (xx i) ns hi room (hh i)
  kp : ∀ i, i < 2 → Kept (SS i) room.toNat (hh i)
  sub : ∀ i, i < 2 → ∀ x, SS i x → x ∈ ns
  mo : h m = some (.lst [.lst ((hh 0).map D.int), .lst ((hh 1).map D.int)])
  xr : ∀ i, i < 2 → xx i ≠ r
  xm : ∀ i, i < 2 → xx i ≠ m
  mr : m ≠ r
  x01 : xx 0 ≠ xx 1
theorem FewAt.mono {a : Ad} {h h' : MH} {x : Addr} {ns : List Int} {t s : Int} {hs : List Int} (F : FewAt a h x ns t s hs) (e : h' x = h x) : FewAt a h' x ns t s hs := ⟨F.ok, e.trans F.ins⟩
theorem LF.mono {a : Ad} {h h' : MH} {r m : Addr} {xx : Nat → Addr} {ns : List Int} {hi room : Int} {hh : Nat → List Int} {SS : Nat → Int → Prop} (L : LF a h r m xx ns hi room hh SS) (f : ∀ b, b ≠ r → h' b = h b) (R : RowAt h' r) : LF a h' r m xx ns hi room hh SS :=
  ⟨R, fun i hi => (L.few i hi).mono (f _ (L.xr i hi)), L.kp, L.sub, (f _ L.mr).trans L.mo, L.xr, L.xm, L.mr, L.x01⟩
theorem two_at {f : Nat → D} {i : Nat} (h : i < 2) : atD [f 0, f 1] (i : Int) = some (f i) := by
  match i, h with
  | 0, _ => exact atD_0
  | 1, _ => exact atD_1
theorem two_set {f : Nat → D} {i : Nat} {v : D} (h : i < 2) : [f 0, f 1].set i v = [if 0 = i then v else f 0, if 1 = i then v else f 1] := by
  match i, h with
  | 0, _ => rfl
  | 1, _ => rfl
theorem al_due {h : MH} {hs : List Int} {g : Int} (l : hs.length ≤ sizeLine) : alD 5 (res h (.lst [.tup (hs.map D.int), .int g])) = true := by
  show (decide (2 ≤ sizeLine) && (alD 4 (.tup (hs.map D.int)) && (alD 4 (.int g) && true))) = true
  have e : alD 4 (.tup (hs.map D.int)) = true := by
    show (decide ((hs.map D.int).length ≤ sizeLine) && (hs.map D.int).all (alD 3)) = true
    rw [List.length_map, decide_eq_true l, Bool.true_and, List.all_eq_true]
    intro x hx
    obtain ⟨_, _, rfl⟩ := List.mem_map.mp hx
    rfl
  rw [e, decide_eq_true (by decide : 2 ≤ sizeLine)]
  rfl
theorem Kept.whole {S : Int → Prop} {k : Nat} {ms : List Int} (pw : ms.Pairwise (· < ·)) (mem : ∀ x, x ∈ ms ↔ S x) : Kept S k (ms.take k) := by
  refine ⟨pw.sublist (List.take_sublist _ _), fun x hx => (mem x).mp (List.mem_of_mem_take hx), by rw [List.length_take]; omega, fun x hx => ?_⟩
  have hm := (mem x).mpr hx
  rw [← List.take_append_drop k ms] at hm
  rcases List.mem_append.mp hm with hm | hm
  · exact .inl hm
  · refine .inr ⟨?_, fun y hy => ?_⟩
    · have := List.length_pos_of_mem hm
      rw [List.length_drop] at this
      rw [List.length_take]
      omega
    · rw [← List.take_append_drop k ms] at pw
      exact (List.pairwise_append.mp pw).2.2 y hy x hm
theorem five_at {v : Int} (h0 : 0 ≤ v) (h1 : v < 5) : ∃ hi : Int, atD [.int 1, .int 5, .int 20, .int 60, .int 60] v = some (.int hi) ∧ 1 ≤ hi ∧ hi ≤ 60 := by
  have : v = 0 ∨ v = 1 ∨ v = 2 ∨ v = 3 ∨ v = 4 := by omega
  rcases this with rfl | rfl | rfl | rfl | rfl
  · exact ⟨1, atD_0, by decide, by decide⟩
  · exact ⟨5, atD_1, by decide, by decide⟩
  · exact ⟨20, atD_2, by decide, by decide⟩
  · exact ⟨60, atD_3, by decide, by decide⟩
  · exact ⟨60, atD_4, by decide, by decide⟩
theorem rd_law {a : Ad} (ds : List D) (h : MH) (Kn : RV → MH → Prop) (Kx : XKm) (q : sp_law a ds h Kn Kx) : t_law a (bodyN Kn Kx) (startE ["_law_script", "_law_row_here", "_law_high_end", "_law_room", "_law_numbers_here", "_law_pair", "_law_kept", "_law_k", "_law_side", "_law_key", "_law_ahead", "_law_due", "_law_both", "_law_one", "_law_some"] ds) h := by
  obtain ⟨ns0, rfl, k⟩ := q
  show t_law a (bodyN Kn Kx) [some (.scr ns0), none, none, none, none, none, none, none, none, none, none, none, none, none, none] h
  have big := line_big
  unfold t_law
  simp only [sSeq, sSet, sSkip, sForget, sFor, sIf, sRet, sRetN, sDrop, sSetI, sAsg, sPar, sFldM, sAug, frzV, valE, mVar, mC, mOp, mUn, mCall, mFun, mMeth, mMake, mFld, mTst, mNotT, mNotV, mAndV, mOrV, mAndT, mOrT, mIte, mNil, mCons, mTup, mLst, mChain, mIter_ap, mIsi_ap, mRng1, mRng2, mLc, mYes, mCell, mRel, mSl, oNo, oSome,
  gN, gT, gsCons, gsNil, frz_d, frz_l, frz_k, gIx_p, onSet_p, onQ_p, onL_p, gLen_p, onIns_p, put_put, atD_0, atD_1, atD_2, atD_3, atD_4, ixN_0, ixN_1, ixN_2, ixN_3, ixN_4, List.length_cons, List.length_nil, onBl_b, onInt_i, onTup_t, on1_1, on2_2, onQ_l, onQ_t, onQ_s, onL_l, onLs_l, onLs_s, onD_d, onOpt_s, gII, gB, gAdd_i, gAdd_s, gAdd_t, gAdd_l, gMul_i, gMul_l, gMul_t, gSub, gMod, gDiv, gPow, gNeg, gIx_l, gIx_t, gIx_s, gLen_l, gLen_t, gLen_s, gLen_d, iterD_t, iterD_l, iterD_s,
  kind_i, kind_b, kind_s, kind_n, kind_t, kind_l, gIsN, isNon, gTuple, gList, gAll, gAny, gSum, gMin, gMax, gMin2, gMax2, gAbs, gInt, gSorted,
  List.getElem?_cons_zero, List.getElem?_cons_succ, List.getElem?_nil, List.set_cons_zero, List.set_cons_succ, List.cons_append, List.nil_append, List.append_nil, wipeE, List.any_cons, List.any_nil, isK, Bool.or_false, Bool.false_or, Bool.or_true, Bool.true_or, Bool.not_true, Bool.not_false, if_true, if_false, Bool.false_eq_true, true_and, and_true, decide_eq_true_eq, id, reduceCtorEq, gEq_i, gNe_i, gEq_b, gNe_b, gEq_li, gNe_li, gEq_l0, gNe_l0, gEq_00, gNe_00, gEq_ti, gNe_ti, mEnum, Nat.zero_add, Nat.reduceAdd, Int.reduceEq, Int.cast_ofNat_Int, Nat.zero_le, sz1, sz2, sz3, sz4, sz5, sz6, decide_true, decide_false]
  refine ⟨ns0, rfl, fun mx => ?_⟩
  simp only [sSeq, sSet, sSkip, sForget, sFor, sIf, sRet, sRetN, sDrop, sSetI, sAsg, sPar, sFldM, sAug, frzV, valE, mVar, mC, mOp, mUn, mCall, mFun, mMeth, mMake, mFld, mTst, mNotT, mNotV, mAndV, mOrV, mAndT, mOrT, mIte, mNil, mCons, mTup, mLst, mChain, mIter_ap, mIsi_ap, mRng1, mRng2, mLc, mYes, mCell, mRel, mSl, oNo, oSome,
  gN, gT, gsCons, gsNil, frz_d, frz_l, frz_k, gIx_p, onSet_p, onQ_p, onL_p, gLen_p, onIns_p, put_put, atD_0, atD_1, atD_2, atD_3, atD_4, ixN_0, ixN_1, ixN_2, ixN_3, ixN_4, List.length_cons, List.length_nil, onBl_b, onInt_i, onTup_t, on1_1, on2_2, onQ_l, onQ_t, onQ_s, onL_l, onLs_l, onLs_s, onD_d, onOpt_s, gII, gB, gAdd_i, gAdd_s, gAdd_t, gAdd_l, gMul_i, gMul_l, gMul_t, gSub, gMod, gDiv, gPow, gNeg, gIx_l, gIx_t, gIx_s, gLen_l, gLen_t, gLen_s, gLen_d, iterD_t, iterD_l, iterD_s,
  kind_i, kind_b, kind_s, kind_n, kind_t, kind_l, gIsN, isNon, gTuple, gList, gAll, gAny, gSum, gMin, gMax, gMin2, gMax2, gAbs, gInt, gSorted,
  List.getElem?_cons_zero, List.getElem?_cons_succ, List.getElem?_nil, List.set_cons_zero, List.set_cons_succ, List.cons_append, List.nil_append, List.append_nil, wipeE, List.any_cons, List.any_nil, isK, Bool.or_false, Bool.false_or, Bool.or_true, Bool.true_or, Bool.not_true, Bool.not_false, if_true, if_false, Bool.false_eq_true, true_and, and_true, decide_eq_true_eq, id, reduceCtorEq, gEq_i, gNe_i, gEq_b, gNe_b, gEq_li, gNe_li, gEq_l0, gNe_l0, gEq_00, gNe_00, gEq_ti, gNe_ti, mEnum, Nat.zero_add, Nat.reduceAdd, Int.reduceEq, Int.cast_ofNat_Int, Nat.zero_le, sz1, sz2, sz3, sz4, sz5, sz6, decide_true, decide_false]
  intro r hr
  have R0 : RowAt (put h r (.lst [.scr ns0, .int 0, .int 0, .int mx])) r := ⟨_, _, _, _, put_same, by decide⟩
  generalize put h r (.lst [.scr ns0, .int 0, .int 0, .int mx]) = h0 at R0 ⊢
  refine ⟨r, 5, rfl, by decide, by decide, R0, fun v h1 v0 v1 _ R1 => ?_⟩
  obtain ⟨hi, ehi, hi1, hi2⟩ := five_at v0 v1
  simp only [sSeq, sSet, sSkip, sForget, sFor, sIf, sRet, sRetN, sDrop, sSetI, sAsg, sPar, sFldM, sAug, frzV, valE, mVar, mC, mOp, mUn, mCall, mFun, mMeth, mMake, mFld, mTst, mNotT, mNotV, mAndV, mOrV, mAndT, mOrT, mIte, mNil, mCons, mTup, mLst, mChain, mIter_ap, mIsi_ap, mRng1, mRng2, mLc, mYes, mCell, mRel, mSl, oNo, oSome,
  gN, gT, gsCons, gsNil, frz_d, frz_l, frz_k, gIx_p, onSet_p, onQ_p, onL_p, gLen_p, onIns_p, put_put, atD_0, atD_1, atD_2, atD_3, atD_4, ixN_0, ixN_1, ixN_2, ixN_3, ixN_4, List.length_cons, List.length_nil, onBl_b, onInt_i, onTup_t, on1_1, on2_2, onQ_l, onQ_t, onQ_s, onL_l, onLs_l, onLs_s, onD_d, onOpt_s, gII, gB, gAdd_i, gAdd_s, gAdd_t, gAdd_l, gMul_i, gMul_l, gMul_t, gSub, gMod, gDiv, gPow, gNeg, gIx_l, gIx_t, gIx_s, gLen_l, gLen_t, gLen_s, gLen_d, iterD_t, iterD_l, iterD_s,
  kind_i, kind_b, kind_s, kind_n, kind_t, kind_l, gIsN, isNon, gTuple, gList, gAll, gAny, gSum, gMin, gMax, gMin2, gMax2, gAbs, gInt, gSorted,
  List.getElem?_cons_zero, List.getElem?_cons_succ, List.getElem?_nil, List.set_cons_zero, List.set_cons_succ, List.cons_append, List.nil_append, List.append_nil, wipeE, List.any_cons, List.any_nil, isK, Bool.or_false, Bool.false_or, Bool.or_true, Bool.true_or, Bool.not_true, Bool.not_false, if_true, if_false, Bool.false_eq_true, true_and, and_true, decide_eq_true_eq, id, reduceCtorEq, gEq_i, gNe_i, gEq_b, gNe_b, gEq_li, gNe_li, gEq_l0, gNe_l0, gEq_00, gNe_00, gEq_ti, gNe_ti, mEnum, Nat.zero_add, Nat.reduceAdd, Int.reduceEq, Int.cast_ofNat_Int, Nat.zero_le, sz1, sz2, sz3, sz4, sz5, sz6, decide_true, decide_false, ehi]
  refine ⟨r, 4, rfl, by decide, by decide, R1, fun v h2 v0 v1 _ R2 => ?_⟩
  simp only [sSeq, sSet, sSkip, sForget, sFor, sIf, sRet, sRetN, sDrop, sSetI, sAsg, sPar, sFldM, sAug, frzV, valE, mVar, mC, mOp, mUn, mCall, mFun, mMeth, mMake, mFld, mTst, mNotT, mNotV, mAndV, mOrV, mAndT, mOrT, mIte, mNil, mCons, mTup, mLst, mChain, mIter_ap, mIsi_ap, mRng1, mRng2, mLc, mYes, mCell, mRel, mSl, oNo, oSome,
  gN, gT, gsCons, gsNil, frz_d, frz_l, frz_k, gIx_p, onSet_p, onQ_p, onL_p, gLen_p, onIns_p, put_put, atD_0, atD_1, atD_2, atD_3, atD_4, ixN_0, ixN_1, ixN_2, ixN_3, ixN_4, List.length_cons, List.length_nil, onBl_b, onInt_i, onTup_t, on1_1, on2_2, onQ_l, onQ_t, onQ_s, onL_l, onLs_l, onLs_s, onD_d, onOpt_s, gII, gB, gAdd_i, gAdd_s, gAdd_t, gAdd_l, gMul_i, gMul_l, gMul_t, gSub, gMod, gDiv, gPow, gNeg, gIx_l, gIx_t, gIx_s, gLen_l, gLen_t, gLen_s, gLen_d, iterD_t, iterD_l, iterD_s,
  kind_i, kind_b, kind_s, kind_n, kind_t, kind_l, gIsN, isNon, gTuple, gList, gAll, gAny, gSum, gMin, gMax, gMin2, gMax2, gAbs, gInt, gSorted,
  List.getElem?_cons_zero, List.getElem?_cons_succ, List.getElem?_nil, List.set_cons_zero, List.set_cons_succ, List.cons_append, List.nil_append, List.append_nil, wipeE, List.any_cons, List.any_nil, isK, Bool.or_false, Bool.false_or, Bool.or_true, Bool.true_or, Bool.not_true, Bool.not_false, if_true, if_false, Bool.false_eq_true, true_and, and_true, decide_eq_true_eq, id, reduceCtorEq, gEq_i, gNe_i, gEq_b, gNe_b, gEq_li, gNe_li, gEq_l0, gNe_l0, gEq_00, gNe_00, gEq_ti, gNe_ti, mEnum, Nat.zero_add, Nat.reduceAdd, Int.reduceEq, Int.cast_ofNat_Int, Nat.zero_le, sz1, sz2, sz3, sz4, sz5, sz6, decide_true, decide_false]
  have ro1 : 1 ≤ 1 + v := by omega
  have ro2 : 1 + v ≤ 4 := by omega
  generalize 1 + v = room at ro1 ro2 ⊢
  refine ⟨r, 9, rfl, by decide, by decide, R2, fun v h3 v0 v1 _ R3 => ?_⟩
  simp only [sSeq, sSet, sSkip, sForget, sFor, sIf, sRet, sRetN, sDrop, sSetI, sAsg, sPar, sFldM, sAug, frzV, valE, mVar, mC, mOp, mUn, mCall, mFun, mMeth, mMake, mFld, mTst, mNotT, mNotV, mAndV, mOrV, mAndT, mOrT, mIte, mNil, mCons, mTup, mLst, mChain, mIter_ap, mIsi_ap, mRng1, mRng2, mLc, mYes, mCell, mRel, mSl, oNo, oSome,
  gN, gT, gsCons, gsNil, frz_d, frz_l, frz_k, gIx_p, onSet_p, onQ_p, onL_p, gLen_p, onIns_p, put_put, atD_0, atD_1, atD_2, atD_3, atD_4, ixN_0, ixN_1, ixN_2, ixN_3, ixN_4, List.length_cons, List.length_nil, onBl_b, onInt_i, onTup_t, on1_1, on2_2, onQ_l, onQ_t, onQ_s, onL_l, onLs_l, onLs_s, onD_d, onOpt_s, gII, gB, gAdd_i, gAdd_s, gAdd_t, gAdd_l, gMul_i, gMul_l, gMul_t, gSub, gMod, gDiv, gPow, gNeg, gIx_l, gIx_t, gIx_s, gLen_l, gLen_t, gLen_s, gLen_d, iterD_t, iterD_l, iterD_s,
  kind_i, kind_b, kind_s, kind_n, kind_t, kind_l, gIsN, isNon, gTuple, gList, gAll, gAny, gSum, gMin, gMax, gMin2, gMax2, gAbs, gInt, gSorted,
  List.getElem?_cons_zero, List.getElem?_cons_succ, List.getElem?_nil, List.set_cons_zero, List.set_cons_succ, List.cons_append, List.nil_append, List.append_nil, wipeE, List.any_cons, List.any_nil, isK, Bool.or_false, Bool.false_or, Bool.or_true, Bool.true_or, Bool.not_true, Bool.not_false, if_true, if_false, Bool.false_eq_true, true_and, and_true, decide_eq_true_eq, id, reduceCtorEq, gEq_i, gNe_i, gEq_b, gNe_b, gEq_li, gNe_li, gEq_l0, gNe_l0, gEq_00, gNe_00, gEq_ti, gNe_ti, mEnum, Nat.zero_add, Nat.reduceAdd, Int.reduceEq, Int.cast_ofNat_Int, Nat.zero_le, sz1, sz2, sz3, sz4, sz5, sz6, decide_true, decide_false]
  refine ⟨r, hi, 1 + v, rfl, by omega, by omega, by omega, by omega, R3, fun ns h4 nd rg ln _ R4 => ?_⟩
  have ok : NumOk ns hi room := ⟨by omega, by omega, by omega, by omega, by omega, by omega, nd, rg⟩
  have n9 := ok.l2
  simp only [sSeq, sSet, sSkip, sForget, sFor, sIf, sRet, sRetN, sDrop, sSetI, sAsg, sPar, sFldM, sAug, frzV, valE, mVar, mC, mOp, mUn, mCall, mFun, mMeth, mMake, mFld, mTst, mNotT, mNotV, mAndV, mOrV, mAndT, mOrT, mIte, mNil, mCons, mTup, mLst, mChain, mIter_ap, mIsi_ap, mRng1, mRng2, mLc, mYes, mCell, mRel, mSl, oNo, oSome,
  gN, gT, gsCons, gsNil, frz_d, frz_l, frz_k, gIx_p, onSet_p, onQ_p, onL_p, gLen_p, onIns_p, put_put, atD_0, atD_1, atD_2, atD_3, atD_4, ixN_0, ixN_1, ixN_2, ixN_3, ixN_4, List.length_cons, List.length_nil, onBl_b, onInt_i, onTup_t, on1_1, on2_2, onQ_l, onQ_t, onQ_s, onL_l, onLs_l, onLs_s, onD_d, onOpt_s, gII, gB, gAdd_i, gAdd_s, gAdd_t, gAdd_l, gMul_i, gMul_l, gMul_t, gSub, gMod, gDiv, gPow, gNeg, gIx_l, gIx_t, gIx_s, gLen_l, gLen_t, gLen_s, gLen_d, iterD_t, iterD_l, iterD_s,
  kind_i, kind_b, kind_s, kind_n, kind_t, kind_l, gIsN, isNon, gTuple, gList, gAll, gAny, gSum, gMin, gMax, gMin2, gMax2, gAbs, gInt, gSorted,
  List.getElem?_cons_zero, List.getElem?_cons_succ, List.getElem?_nil, List.set_cons_zero, List.set_cons_succ, List.cons_append, List.nil_append, List.append_nil, wipeE, List.any_cons, List.any_nil, isK, Bool.or_false, Bool.false_or, Bool.or_true, Bool.true_or, Bool.not_true, Bool.not_false, if_true, if_false, Bool.false_eq_true, true_and, and_true, decide_eq_true_eq, id, reduceCtorEq, gEq_i, gNe_i, gEq_b, gNe_b, gEq_li, gNe_li, gEq_l0, gNe_l0, gEq_00, gNe_00, gEq_ti, gNe_ti, mEnum, Nat.zero_add, Nat.reduceAdd, Int.reduceEq, Int.cast_ofNat_Int, Nat.zero_le, sz1, sz2, sz3, sz4, sz5, sz6, decide_true, decide_false, mSortSet, mListRg, mMakeK, mPopAt, mIsO, mApp, mExt, mGet, mDNew, sPar3, sFldAugM, mZip2, mZip3, gSortT]
  intro x hx
  refine ⟨x, ns, hi, room, rfl, ok, put_same, ?_⟩
  rw [put_put]
  simp only [sSeq, sSet, sSkip, sForget, sFor, sIf, sRet, sRetN, sDrop, sSetI, sAsg, sPar, sFldM, sAug, frzV, valE, mVar, mC, mOp, mUn, mCall, mFun, mMeth, mMake, mFld, mTst, mNotT, mNotV, mAndV, mOrV, mAndT, mOrT, mIte, mNil, mCons, mTup, mLst, mChain, mIter_ap, mIsi_ap, mRng1, mRng2, mLc, mYes, mCell, mRel, mSl, oNo, oSome,
  gN, gT, gsCons, gsNil, frz_d, frz_l, frz_k, gIx_p, onSet_p, onQ_p, onL_p, gLen_p, onIns_p, put_put, atD_0, atD_1, atD_2, atD_3, atD_4, ixN_0, ixN_1, ixN_2, ixN_3, ixN_4, List.length_cons, List.length_nil, onBl_b, onInt_i, onTup_t, on1_1, on2_2, onQ_l, onQ_t, onQ_s, onL_l, onLs_l, onLs_s, onD_d, onOpt_s, gII, gB, gAdd_i, gAdd_s, gAdd_t, gAdd_l, gMul_i, gMul_l, gMul_t, gSub, gMod, gDiv, gPow, gNeg, gIx_l, gIx_t, gIx_s, gLen_l, gLen_t, gLen_s, gLen_d, iterD_t, iterD_l, iterD_s,
  kind_i, kind_b, kind_s, kind_n, kind_t, kind_l, gIsN, isNon, gTuple, gList, gAll, gAny, gSum, gMin, gMax, gMin2, gMax2, gAbs, gInt, gSorted,
  List.getElem?_cons_zero, List.getElem?_cons_succ, List.getElem?_nil, List.set_cons_zero, List.set_cons_succ, List.cons_append, List.nil_append, List.append_nil, wipeE, List.any_cons, List.any_nil, isK, Bool.or_false, Bool.false_or, Bool.or_true, Bool.true_or, Bool.not_true, Bool.not_false, if_true, if_false, Bool.false_eq_true, true_and, and_true, decide_eq_true_eq, id, reduceCtorEq, gEq_i, gNe_i, gEq_b, gNe_b, gEq_li, gNe_li, gEq_l0, gNe_l0, gEq_00, gNe_00, gEq_ti, gNe_ti, mEnum, Nat.zero_add, Nat.reduceAdd, Int.reduceEq, Int.cast_ofNat_Int, Nat.zero_le, sz1, sz2, sz3, sz4, sz5, sz6, decide_true, decide_false]
  intro y hy
  have xy : x ≠ y := by
    rintro rfl
    rw [put_same] at hy
    cases hy
  rw [put_ne xy.symm] at hy
  refine ⟨y, ns, hi, room, rfl, ok, put_same, ?_⟩
  rw [put_put]
  simp only [sSeq, sSet, sSkip, sForget, sFor, sIf, sRet, sRetN, sDrop, sSetI, sAsg, sPar, sFldM, sAug, frzV, valE, mVar, mC, mOp, mUn, mCall, mFun, mMeth, mMake, mFld, mTst, mNotT, mNotV, mAndV, mOrV, mAndT, mOrT, mIte, mNil, mCons, mTup, mLst, mChain, mIter_ap, mIsi_ap, mRng1, mRng2, mLc, mYes, mCell, mRel, mSl, oNo, oSome,
  gN, gT, gsCons, gsNil, frz_d, frz_l, frz_k, gIx_p, onSet_p, onQ_p, onL_p, gLen_p, onIns_p, put_put, atD_0, atD_1, atD_2, atD_3, atD_4, ixN_0, ixN_1, ixN_2, ixN_3, ixN_4, List.length_cons, List.length_nil, onBl_b, onInt_i, onTup_t, on1_1, on2_2, onQ_l, onQ_t, onQ_s, onL_l, onLs_l, onLs_s, onD_d, onOpt_s, gII, gB, gAdd_i, gAdd_s, gAdd_t, gAdd_l, gMul_i, gMul_l, gMul_t, gSub, gMod, gDiv, gPow, gNeg, gIx_l, gIx_t, gIx_s, gLen_l, gLen_t, gLen_s, gLen_d, iterD_t, iterD_l, iterD_s,
  kind_i, kind_b, kind_s, kind_n, kind_t, kind_l, gIsN, isNon, gTuple, gList, gAll, gAny, gSum, gMin, gMax, gMin2, gMax2, gAbs, gInt, gSorted,
  List.getElem?_cons_zero, List.getElem?_cons_succ, List.getElem?_nil, List.set_cons_zero, List.set_cons_succ, List.cons_append, List.nil_append, List.append_nil, wipeE, List.any_cons, List.any_nil, isK, Bool.or_false, Bool.false_or, Bool.or_true, Bool.true_or, Bool.not_true, Bool.not_false, if_true, if_false, Bool.false_eq_true, true_and, and_true, decide_eq_true_eq, id, reduceCtorEq, gEq_i, gNe_i, gEq_b, gNe_b, gEq_li, gNe_li, gEq_l0, gNe_l0, gEq_00, gNe_00, gEq_ti, gNe_ti, mEnum, Nat.zero_add, Nat.reduceAdd, Int.reduceEq, Int.cast_ofNat_Int, Nat.zero_le, sz1, sz2, sz3, sz4, sz5, sz6, decide_true, decide_false]
  intro m hm
  have mx_ : m ≠ x := by
    rintro rfl
    rw [put_ne xy, put_same] at hm
    cases hm
  have my_ : m ≠ y := by
    rintro rfl
    rw [put_same] at hm
    cases hm
  rw [put_ne my_, put_ne mx_] at hm
  have R4' := R4
  obtain ⟨_, _, _, _, e4, _⟩ := R4'
  have xr : x ≠ r := (ne_new e4 hx).symm
  have yr : y ≠ r := (ne_new e4 hy).symm
  have mr : m ≠ r := (ne_new e4 hm).symm
  have L0 : LF a (put (put (put h4 x (.ins a.Fewest (fewF ns hi room []))) y (.ins a.Fewest (fewF ns hi room []))) m (.lst [.lst [], .lst []])) r m (fun i => if i = 0 then x else y) ns hi room (fun _ => []) (fun _ _ => False) := by
    refine ⟨((R4.ne xr.symm).ne yr.symm).ne mr.symm, fun i _ => ⟨ok, ?_⟩, fun _ _ => Kept.nil, fun _ _ _ h => h.elim, put_same, fun i _ => ?_, fun i _ => ?_, mr, xy⟩
    · by_cases h : i = 0
      · simp only [h, if_true]
        rw [put_ne mx_.symm, put_ne xy, put_same]
      · simp only [h, if_false]
        rw [put_ne my_.symm, put_same]
    · by_cases h : i = 0 <;> simp only [h, if_true, if_false] <;> assumption
    · by_cases h : i = 0 <;> simp only [h, if_true, if_false]
      · exact mx_.symm
      · exact my_.symm
  generalize put (put (put h4 x (.ins a.Fewest (fewF ns hi room []))) y (.ins a.Fewest (fewF ns hi room []))) m (.lst [.lst [], .lst []]) = H0 at L0 ⊢
  have exy : ([D.ref x, D.ref y] : List D) = [D.ref ((fun i => if i = 0 then x else y) 0), D.ref ((fun i => if i = 0 then x else y) 1)] := rfl
  rw [exy]
  generalize (fun i => if i = 0 then x else y) = xx at L0 ⊢
  refine ⟨r, 16, rfl, by decide, by decide, L0.row, fun v h5 v0 v1 f5 R5 => ?_⟩
  replace L0 := L0.mono f5 R5
  simp only [sSeq, sSet, sSkip, sForget, sFor, sIf, sRet, sRetN, sDrop, sSetI, sAsg, sPar, sFldM, sAug, frzV, valE, mVar, mC, mOp, mUn, mCall, mFun, mMeth, mMake, mFld, mTst, mNotT, mNotV, mAndV, mOrV, mAndT, mOrT, mIte, mNil, mCons, mTup, mLst, mChain, mIter_ap, mIsi_ap, mRng1, mRng2, mLc, mYes, mCell, mRel, mSl, oNo, oSome,
  gN, gT, gsCons, gsNil, frz_d, frz_l, frz_k, gIx_p, onSet_p, onQ_p, onL_p, gLen_p, onIns_p, put_put, atD_0, atD_1, atD_2, atD_3, atD_4, ixN_0, ixN_1, ixN_2, ixN_3, ixN_4, List.length_cons, List.length_nil, onBl_b, onInt_i, onTup_t, on1_1, on2_2, onQ_l, onQ_t, onQ_s, onL_l, onLs_l, onLs_s, onD_d, onOpt_s, gII, gB, gAdd_i, gAdd_s, gAdd_t, gAdd_l, gMul_i, gMul_l, gMul_t, gSub, gMod, gDiv, gPow, gNeg, gIx_l, gIx_t, gIx_s, gLen_l, gLen_t, gLen_s, gLen_d, iterD_t, iterD_l, iterD_s,
  kind_i, kind_b, kind_s, kind_n, kind_t, kind_l, gIsN, isNon, gTuple, gList, gAll, gAny, gSum, gMin, gMax, gMin2, gMax2, gAbs, gInt, gSorted,
  List.getElem?_cons_zero, List.getElem?_cons_succ, List.getElem?_nil, List.set_cons_zero, List.set_cons_succ, List.cons_append, List.nil_append, List.append_nil, wipeE, List.any_cons, List.any_nil, isK, Bool.or_false, Bool.false_or, Bool.or_true, Bool.true_or, Bool.not_true, Bool.not_false, if_true, if_false, Bool.false_eq_true, true_and, and_true, decide_eq_true_eq, id, reduceCtorEq, gEq_i, gNe_i, gEq_b, gNe_b, gEq_li, gNe_li, gEq_l0, gNe_l0, gEq_00, gNe_00, gEq_ti, gNe_ti, mEnum, Nat.zero_add, Nat.reduceAdd, Int.reduceEq, Int.cast_ofNat_Int, Nat.zero_le, sz1, sz2, sz3, sz4, sz5, sz6, decide_true, decide_false]
  refine ⟨⟨by omega, by omega⟩, ?_⟩
  clear f5 R5 hx hy hm e4 R4 R3 R2 R1 R0 exy mx_ my_ xr yr
  refine for_inv (fun _ E h' => (∃ hh SS, LF a h' r m xx ns hi room hh SS) ∧ E = [some (.scr ns0), some (.ref r), some (.int hi), some (.int room), some (.tup (ns.map D.int)), some (.lst [.ref (xx 0), .ref (xx 1)]), some (.ref m), none, none, none, none, none, none, none, none]) ⟨⟨_, _, L0⟩, rfl⟩ ?_ ?_
  · rintro j d E h6 kc hj ⟨⟨hh, SS, L⟩, rfl⟩ hk
    obtain ⟨hj6, rfl⟩ := rng_get hj
    simp only [sSeq, sSet, sSkip, sForget, sFor, sIf, sRet, sRetN, sDrop, sSetI, sAsg, sPar, sFldM, sAug, frzV, valE, mVar, mC, mOp, mUn, mCall, mFun, mMeth, mMake, mFld, mTst, mNotT, mNotV, mAndV, mOrV, mAndT, mOrT, mIte, mNil, mCons, mTup, mLst, mChain, mIter_ap, mIsi_ap, mRng1, mRng2, mLc, mYes, mCell, mRel, mSl, oNo, oSome,
  gN, gT, gsCons, gsNil, frz_d, frz_l, frz_k, gIx_p, onSet_p, onQ_p, onL_p, gLen_p, onIns_p, put_put, atD_0, atD_1, atD_2, atD_3, atD_4, ixN_0, ixN_1, ixN_2, ixN_3, ixN_4, List.length_cons, List.length_nil, onBl_b, onInt_i, onTup_t, on1_1, on2_2, onQ_l, onQ_t, onQ_s, onL_l, onLs_l, onLs_s, onD_d, onOpt_s, gII, gB, gAdd_i, gAdd_s, gAdd_t, gAdd_l, gMul_i, gMul_l, gMul_t, gSub, gMod, gDiv, gPow, gNeg, gIx_l, gIx_t, gIx_s, gLen_l, gLen_t, gLen_s, gLen_d, iterD_t, iterD_l, iterD_s,
  kind_i, kind_b, kind_s, kind_n, kind_t, kind_l, gIsN, isNon, gTuple, gList, gAll, gAny, gSum, gMin, gMax, gMin2, gMax2, gAbs, gInt, gSorted,
  List.getElem?_cons_zero, List.getElem?_cons_succ, List.getElem?_nil, List.set_cons_zero, List.set_cons_succ, List.cons_append, List.nil_append, List.append_nil, wipeE, List.any_cons, List.any_nil, isK, Bool.or_false, Bool.false_or, Bool.or_true, Bool.true_or, Bool.not_true, Bool.not_false, if_true, if_false, Bool.false_eq_true, true_and, and_true, decide_eq_true_eq, id, reduceCtorEq, gEq_i, gNe_i, gEq_b, gNe_b, gEq_li, gNe_li, gEq_l0, gNe_l0, gEq_00, gNe_00, gEq_ti, gNe_ti, mEnum, Nat.zero_add, Nat.reduceAdd, Int.reduceEq, Int.cast_ofNat_Int, Nat.zero_le, sz1, sz2, sz3, sz4, sz5, sz6, decide_true, decide_false]
    refine ⟨r, 2, rfl, by decide, by decide, L.row, fun side h7 v0 v1 f7 R7 => ?_⟩
    replace L := L.mono f7 R7
    clear f7 R7
    simp only [sSeq, sSet, sSkip, sForget, sFor, sIf, sRet, sRetN, sDrop, sSetI, sAsg, sPar, sFldM, sAug, frzV, valE, mVar, mC, mOp, mUn, mCall, mFun, mMeth, mMake, mFld, mTst, mNotT, mNotV, mAndV, mOrV, mAndT, mOrT, mIte, mNil, mCons, mTup, mLst, mChain, mIter_ap, mIsi_ap, mRng1, mRng2, mLc, mYes, mCell, mRel, mSl, oNo, oSome,
  gN, gT, gsCons, gsNil, frz_d, frz_l, frz_k, gIx_p, onSet_p, onQ_p, onL_p, gLen_p, onIns_p, put_put, atD_0, atD_1, atD_2, atD_3, atD_4, ixN_0, ixN_1, ixN_2, ixN_3, ixN_4, List.length_cons, List.length_nil, onBl_b, onInt_i, onTup_t, on1_1, on2_2, onQ_l, onQ_t, onQ_s, onL_l, onLs_l, onLs_s, onD_d, onOpt_s, gII, gB, gAdd_i, gAdd_s, gAdd_t, gAdd_l, gMul_i, gMul_l, gMul_t, gSub, gMod, gDiv, gPow, gNeg, gIx_l, gIx_t, gIx_s, gLen_l, gLen_t, gLen_s, gLen_d, iterD_t, iterD_l, iterD_s,
  kind_i, kind_b, kind_s, kind_n, kind_t, kind_l, gIsN, isNon, gTuple, gList, gAll, gAny, gSum, gMin, gMax, gMin2, gMax2, gAbs, gInt, gSorted,
  List.getElem?_cons_zero, List.getElem?_cons_succ, List.getElem?_nil, List.set_cons_zero, List.set_cons_succ, List.cons_append, List.nil_append, List.append_nil, wipeE, List.any_cons, List.any_nil, isK, Bool.or_false, Bool.false_or, Bool.or_true, Bool.true_or, Bool.not_true, Bool.not_false, if_true, if_false, Bool.false_eq_true, true_and, and_true, decide_eq_true_eq, id, reduceCtorEq, gEq_i, gNe_i, gEq_b, gNe_b, gEq_li, gNe_li, gEq_l0, gNe_l0, gEq_00, gNe_00, gEq_ti, gNe_ti, mEnum, Nat.zero_add, Nat.reduceAdd, Int.reduceEq, Int.cast_ofNat_Int, Nat.zero_le, sz1, sz2, sz3, sz4, sz5, sz6, decide_true, decide_false, List.length_map]
    refine ⟨r, ns.length, rfl, by omega, by omega, L.row, fun key h8 w0 w1 f8 R8 => ?_⟩
    replace L := L.mono f8 R8
    clear f8 R8
    obtain ⟨side, rfl⟩ := Int.eq_ofNat_of_zero_le v0
    obtain ⟨key, rfl⟩ := Int.eq_ofNat_of_zero_le w0
    have s2 : side < 2 := by omega
    have kl : key < ns.length := by omega
    have eA := two_at (f := fun i => D.lst ((hh i).map D.int)) s2
    have eX := two_at (f := fun i => D.ref (xx i)) s2
    have eK : atD (ns.map D.int) (key : Int) = some (.int ns[key]) := atD_map kl
    have kp := L.kp side s2
    have kl2 := kp.len
    simp only [sSeq, sSet, sSkip, sForget, sFor, sIf, sRet, sRetN, sDrop, sSetI, sAsg, sPar, sFldM, sAug, frzV, valE, mVar, mC, mOp, mUn, mCall, mFun, mMeth, mMake, mFld, mTst, mNotT, mNotV, mAndV, mOrV, mAndT, mOrT, mIte, mNil, mCons, mTup, mLst, mChain, mIter_ap, mIsi_ap, mRng1, mRng2, mLc, mYes, mCell, mRel, mSl, oNo, oSome,
  gN, gT, gsCons, gsNil, frz_d, frz_l, frz_k, gIx_p, onSet_p, onQ_p, onL_p, gLen_p, onIns_p, put_put, atD_0, atD_1, atD_2, atD_3, atD_4, ixN_0, ixN_1, ixN_2, ixN_3, ixN_4, List.length_cons, List.length_nil, onBl_b, onInt_i, onTup_t, on1_1, on2_2, onQ_l, onQ_t, onQ_s, onL_l, onLs_l, onLs_s, onD_d, onOpt_s, gII, gB, gAdd_i, gAdd_s, gAdd_t, gAdd_l, gMul_i, gMul_l, gMul_t, gSub, gMod, gDiv, gPow, gNeg, gIx_l, gIx_t, gIx_s, gLen_l, gLen_t, gLen_s, gLen_d, iterD_t, iterD_l, iterD_s,
  kind_i, kind_b, kind_s, kind_n, kind_t, kind_l, gIsN, isNon, gTuple, gList, gAll, gAny, gSum, gMin, gMax, gMin2, gMax2, gAbs, gInt, gSorted,
  List.getElem?_cons_zero, List.getElem?_cons_succ, List.getElem?_nil, List.set_cons_zero, List.set_cons_succ, List.cons_append, List.nil_append, List.append_nil, wipeE, List.any_cons, List.any_nil, isK, Bool.or_false, Bool.false_or, Bool.or_true, Bool.true_or, Bool.not_true, Bool.not_false, if_true, if_false, Bool.false_eq_true, true_and, and_true, decide_eq_true_eq, id, reduceCtorEq, gEq_i, gNe_i, gEq_b, gNe_b, gEq_li, gNe_li, gEq_l0, gNe_l0, gEq_00, gNe_00, gEq_ti, gNe_ti, mEnum, Nat.zero_add, Nat.reduceAdd, Int.reduceEq, Int.cast_ofNat_Int, Nat.zero_le, sz1, sz2, sz3, sz4, sz5, sz6, decide_true, decide_false, mSortSet, mListRg, mMakeK, mPopAt, mIsO, mApp, mExt, mGet, mDNew, sPar3, sFldAugM, mZip2, mZip3, gSortT, gIx_r L.mo, eA, eK]
    refine ⟨by rw [List.length_map]; omega, ?_⟩
    have e1 : (hh side).map D.int ++ [D.int ns[key]] = (hh side ++ [ns[key]]).map D.int := by simp
    simp only [sSeq, sSet, sSkip, sForget, sFor, sIf, sRet, sRetN, sDrop, sSetI, sAsg, sPar, sFldM, sAug, frzV, valE, mVar, mC, mOp, mUn, mCall, mFun, mMeth, mMake, mFld, mTst, mNotT, mNotV, mAndV, mOrV, mAndT, mOrT, mIte, mNil, mCons, mTup, mLst, mChain, mIter_ap, mIsi_ap, mRng1, mRng2, mLc, mYes, mCell, mRel, mSl, oNo, oSome,
  gN, gT, gsCons, gsNil, frz_d, frz_l, frz_k, gIx_p, onSet_p, onQ_p, onL_p, gLen_p, onIns_p, put_put, atD_0, atD_1, atD_2, atD_3, atD_4, ixN_0, ixN_1, ixN_2, ixN_3, ixN_4, List.length_cons, List.length_nil, onBl_b, onInt_i, onTup_t, on1_1, on2_2, onQ_l, onQ_t, onQ_s, onL_l, onLs_l, onLs_s, onD_d, onOpt_s, gII, gB, gAdd_i, gAdd_s, gAdd_t, gAdd_l, gMul_i, gMul_l, gMul_t, gSub, gMod, gDiv, gPow, gNeg, gIx_l, gIx_t, gIx_s, gLen_l, gLen_t, gLen_s, gLen_d, iterD_t, iterD_l, iterD_s,
  kind_i, kind_b, kind_s, kind_n, kind_t, kind_l, gIsN, isNon, gTuple, gList, gAll, gAny, gSum, gMin, gMax, gMin2, gMax2, gAbs, gInt, gSorted,
  List.getElem?_cons_zero, List.getElem?_cons_succ, List.getElem?_nil, List.set_cons_zero, List.set_cons_succ, List.cons_append, List.nil_append, List.append_nil, wipeE, List.any_cons, List.any_nil, isK, Bool.or_false, Bool.false_or, Bool.or_true, Bool.true_or, Bool.not_true, Bool.not_false, if_true, if_false, Bool.false_eq_true, true_and, and_true, decide_eq_true_eq, id, reduceCtorEq, gEq_i, gNe_i, gEq_b, gNe_b, gEq_li, gNe_li, gEq_l0, gNe_l0, gEq_00, gNe_00, gEq_ti, gNe_ti, mEnum, Nat.zero_add, Nat.reduceAdd, Int.reduceEq, Int.cast_ofNat_Int, Nat.zero_le, sz1, sz2, sz3, sz4, sz5, sz6, decide_true, decide_false, mSortSet, mListRg, mMakeK, mPopAt, mIsO, mApp, mExt, mGet, mDNew, sPar3, sFldAugM, mZip2, mZip3, gSortT, e1, intsD_m]
    refine ⟨by rw [List.length_append, List.length_singleton]; omega, fun ms pw mem => ?_⟩
    have kp2 := kp.join (Kept.one (k := room.toNat) (n := ns[key]) (by omega)) pw mem
    generalize hnew : ms.take room.toNat = new at kp2
    simp only [sSeq, sSet, sSkip, sForget, sFor, sIf, sRet, sRetN, sDrop, sSetI, sAsg, sPar, sFldM, sAug, frzV, valE, mVar, mC, mOp, mUn, mCall, mFun, mMeth, mMake, mFld, mTst, mNotT, mNotV, mAndV, mOrV, mAndT, mOrT, mIte, mNil, mCons, mTup, mLst, mChain, mIter_ap, mIsi_ap, mRng1, mRng2, mLc, mYes, mCell, mRel, mSl, oNo, oSome,
  gN, gT, gsCons, gsNil, frz_d, frz_l, frz_k, gIx_p, onSet_p, onQ_p, onL_p, gLen_p, onIns_p, put_put, atD_0, atD_1, atD_2, atD_3, atD_4, ixN_0, ixN_1, ixN_2, ixN_3, ixN_4, List.length_cons, List.length_nil, onBl_b, onInt_i, onTup_t, on1_1, on2_2, onQ_l, onQ_t, onQ_s, onL_l, onLs_l, onLs_s, onD_d, onOpt_s, gII, gB, gAdd_i, gAdd_s, gAdd_t, gAdd_l, gMul_i, gMul_l, gMul_t, gSub, gMod, gDiv, gPow, gNeg, gIx_l, gIx_t, gIx_s, gLen_l, gLen_t, gLen_s, gLen_d, iterD_t, iterD_l, iterD_s,
  kind_i, kind_b, kind_s, kind_n, kind_t, kind_l, gIsN, isNon, gTuple, gList, gAll, gAny, gSum, gMin, gMax, gMin2, gMax2, gAbs, gInt, gSorted,
  List.getElem?_cons_zero, List.getElem?_cons_succ, List.getElem?_nil, List.set_cons_zero, List.set_cons_succ, List.cons_append, List.nil_append, List.append_nil, wipeE, List.any_cons, List.any_nil, isK, Bool.or_false, Bool.false_or, Bool.or_true, Bool.true_or, Bool.not_true, Bool.not_false, if_true, if_false, Bool.false_eq_true, true_and, and_true, decide_eq_true_eq, id, reduceCtorEq, gEq_i, gNe_i, gEq_b, gNe_b, gEq_li, gNe_li, gEq_l0, gNe_l0, gEq_00, gNe_00, gEq_ti, gNe_ti, mEnum, Nat.zero_add, Nat.reduceAdd, Int.reduceEq, Int.cast_ofNat_Int, Nat.zero_le, sz1, sz2, sz3, sz4, sz5, sz6, decide_true, decide_false, mSortSet, mListRg, mMakeK, mPopAt, mIsO, mApp, mExt, mGet, mDNew, sPar3, sFldAugM, mZip2, mZip3, gSortT, gSl_l, cut_toI (by omega : 0 ≤ room), ← List.map_take, hnew, onSet_l L.mo, ixN_nat (show side < 2 from s2), two_set (f := fun i => D.lst ((hh i).map D.int)) s2, eX]
    have F9 : FewAt a (put h8 m (.lst [if 0 = side then .lst (new.map D.int) else .lst ((hh 0).map D.int), if 1 = side then .lst (new.map D.int) else .lst ((hh 1).map D.int)])) (xx side) ns hi room (hh side) := (L.few side s2).mono (put_ne (L.xm side s2))
    simp only [onIns_r F9.ins, fw_1]
    refine ⟨trivial, xx side, ns, hi, room, hh side, key, SS side, ns[key], rfl, F9, List.getElem?_eq_getElem kl, kp, fun hs' kp' => ?_⟩
    obtain rfl := kp'.uniq kp2
    have L10 : LF a (put (put h8 m (.lst [if 0 = side then .lst (hs'.map D.int) else .lst ((hh 0).map D.int), if 1 = side then .lst (hs'.map D.int) else .lst ((hh 1).map D.int)])) (xx side) (.ins a.Fewest (fewF ns hi room hs'))) r m xx ns hi room (fun i => if i = side then hs' else hh i) (fun i => if i = side then fun y => SS side y ∨ y = ns[key] else SS i) := by
      refine ⟨(L.row.ne L.mr.symm).ne (L.xr side s2).symm, fun i i2 => ?_, fun i i2 => ?_, fun i i2 x hx => ?_, ?_, L.xr, L.xm, L.mr, L.x01⟩
      · by_cases c : i = side
        · subst c
          simp only [if_true]
          exact ⟨ok, put_same⟩
        · simp only [c, if_false]
          have nx : xx i ≠ xx side := by
            have x01 := L.x01
            match i, side, i2, s2, c with
            | 0, 1, _, _, _ => exact x01
            | 1, 0, _, _, _ => exact x01.symm
            | 0, 0, _, _, c => exact absurd rfl c
            | 1, 1, _, _, c => exact absurd rfl c
          exact (L.few i i2).mono ((put_ne nx).trans (put_ne (L.xm i i2)))
      · by_cases c : i = side
        · subst c
          simp only [if_true]
          exact kp'
        · simp only [c, if_false]
          exact L.kp i i2
      · by_cases c : i = side
        · subst c
          simp only [if_true] at hx
          rcases hx with hx | rfl
          · exact L.sub i i2 x hx
          · exact List.getElem_mem kl
        · simp only [c, if_false] at hx
          exact L.sub i i2 x hx
      · rw [put_ne (L.xm side s2).symm, put_same]
        match side, s2 with
        | 0, _ => rfl
        | 1, _ => rfl
    have eB := two_at (f := fun i => D.lst ((if i = side then hs' else hh i).map D.int)) s2
    simp only [if_true] at eB
    have F10 := L10.few side s2
    simp only [if_true] at F10
    have lh := kp'.len
    have mh : ∀ n ∈ hs', n ∈ ns := fun n hn => by
      rcases kp'.mem n hn with h | rfl
      · exact L.sub side s2 n h
      · exact List.getElem_mem kl
    generalize put (put h8 m (.lst [if 0 = side then .lst (hs'.map D.int) else .lst ((hh 0).map D.int), if 1 = side then .lst (hs'.map D.int) else .lst ((hh 1).map D.int)])) (xx side) (.ins a.Fewest (fewF ns hi room hs')) = H10 at L10 F10 ⊢
    simp only [sSeq, sSet, sSkip, sForget, sFor, sIf, sRet, sRetN, sDrop, sSetI, sAsg, sPar, sFldM, sAug, frzV, valE, mVar, mC, mOp, mUn, mCall, mFun, mMeth, mMake, mFld, mTst, mNotT, mNotV, mAndV, mOrV, mAndT, mOrT, mIte, mNil, mCons, mTup, mLst, mChain, mIter_ap, mIsi_ap, mRng1, mRng2, mLc, mYes, mCell, mRel, mSl, oNo, oSome,
  gN, gT, gsCons, gsNil, frz_d, frz_l, frz_k, gIx_p, onSet_p, onQ_p, onL_p, gLen_p, onIns_p, put_put, atD_0, atD_1, atD_2, atD_3, atD_4, ixN_0, ixN_1, ixN_2, ixN_3, ixN_4, List.length_cons, List.length_nil, onBl_b, onInt_i, onTup_t, on1_1, on2_2, onQ_l, onQ_t, onQ_s, onL_l, onLs_l, onLs_s, onD_d, onOpt_s, gII, gB, gAdd_i, gAdd_s, gAdd_t, gAdd_l, gMul_i, gMul_l, gMul_t, gSub, gMod, gDiv, gPow, gNeg, gIx_l, gIx_t, gIx_s, gLen_l, gLen_t, gLen_s, gLen_d, iterD_t, iterD_l, iterD_s,
  kind_i, kind_b, kind_s, kind_n, kind_t, kind_l, gIsN, isNon, gTuple, gList, gAll, gAny, gSum, gMin, gMax, gMin2, gMax2, gAbs, gInt, gSorted,
  List.getElem?_cons_zero, List.getElem?_cons_succ, List.getElem?_nil, List.set_cons_zero, List.set_cons_succ, List.cons_append, List.nil_append, List.append_nil, wipeE, List.any_cons, List.any_nil, isK, Bool.or_false, Bool.false_or, Bool.or_true, Bool.true_or, Bool.not_true, Bool.not_false, if_true, if_false, Bool.false_eq_true, true_and, and_true, decide_eq_true_eq, id, reduceCtorEq, gEq_i, gNe_i, gEq_b, gNe_b, gEq_li, gNe_li, gEq_l0, gNe_l0, gEq_00, gNe_00, gEq_ti, gNe_ti, mEnum, Nat.zero_add, Nat.reduceAdd, Int.reduceEq, Int.cast_ofNat_Int, Nat.zero_le, sz1, sz2, sz3, sz4, sz5, sz6, decide_true, decide_false, mSortSet, mListRg, mMakeK, mPopAt, mIsO, mApp, mExt, mGet, mDNew, sPar3, sFldAugM, mZip2, mZip3, gSortT, gIx_r L10.mo, eB, gNe_li]
    refine ⟨_, _, rfl, rfl, by decide, rfl, ?_⟩
    simp only [sSeq, sSet, sSkip, sForget, sFor, sIf, sRet, sRetN, sDrop, sSetI, sAsg, sPar, sFldM, sAug, frzV, valE, mVar, mC, mOp, mUn, mCall, mFun, mMeth, mMake, mFld, mTst, mNotT, mNotV, mAndV, mOrV, mAndT, mOrT, mIte, mNil, mCons, mTup, mLst, mChain, mIter_ap, mIsi_ap, mRng1, mRng2, mLc, mYes, mCell, mRel, mSl, oNo, oSome,
  gN, gT, gsCons, gsNil, frz_d, frz_l, frz_k, gIx_p, onSet_p, onQ_p, onL_p, gLen_p, onIns_p, put_put, atD_0, atD_1, atD_2, atD_3, atD_4, ixN_0, ixN_1, ixN_2, ixN_3, ixN_4, List.length_cons, List.length_nil, onBl_b, onInt_i, onTup_t, on1_1, on2_2, onQ_l, onQ_t, onQ_s, onL_l, onLs_l, onLs_s, onD_d, onOpt_s, gII, gB, gAdd_i, gAdd_s, gAdd_t, gAdd_l, gMul_i, gMul_l, gMul_t, gSub, gMod, gDiv, gPow, gNeg, gIx_l, gIx_t, gIx_s, gLen_l, gLen_t, gLen_s, gLen_d, iterD_t, iterD_l, iterD_s,
  kind_i, kind_b, kind_s, kind_n, kind_t, kind_l, gIsN, isNon, gTuple, gList, gAll, gAny, gSum, gMin, gMax, gMin2, gMax2, gAbs, gInt, gSorted,
  List.getElem?_cons_zero, List.getElem?_cons_succ, List.getElem?_nil, List.set_cons_zero, List.set_cons_succ, List.cons_append, List.nil_append, List.append_nil, wipeE, List.any_cons, List.any_nil, isK, Bool.or_false, Bool.false_or, Bool.or_true, Bool.true_or, Bool.not_true, Bool.not_false, if_true, if_false, Bool.false_eq_true, true_and, and_true, decide_eq_true_eq, id, reduceCtorEq, gEq_i, gNe_i, gEq_b, gNe_b, gEq_li, gNe_li, gEq_l0, gNe_l0, gEq_00, gNe_00, gEq_ti, gNe_ti, mEnum, Nat.zero_add, Nat.reduceAdd, Int.reduceEq, Int.cast_ofNat_Int, Nat.zero_le, sz1, sz2, sz3, sz4, sz5, sz6, decide_true, decide_false, mSortSet, mListRg, mMakeK, mPopAt, mIsO, mApp, mExt, mGet, mDNew, sPar3, sFldAugM, mZip2, mZip3, gSortT, gIx_r L10.mo, eB]
    refine ⟨hi, room, _, hs', rfl, rfl, by omega, by omega, by omega, by omega, by omega, fun n hn => rg n (mh n hn), ?_⟩
    simp only [sSeq, sSet, sSkip, sForget, sFor, sIf, sRet, sRetN, sDrop, sSetI, sAsg, sPar, sFldM, sAug, frzV, valE, mVar, mC, mOp, mUn, mCall, mFun, mMeth, mMake, mFld, mTst, mNotT, mNotV, mAndV, mOrV, mAndT, mOrT, mIte, mNil, mCons, mTup, mLst, mChain, mIter_ap, mIsi_ap, mRng1, mRng2, mLc, mYes, mCell, mRel, mSl, oNo, oSome,
  gN, gT, gsCons, gsNil, frz_d, frz_l, frz_k, gIx_p, onSet_p, onQ_p, onL_p, gLen_p, onIns_p, put_put, atD_0, atD_1, atD_2, atD_3, atD_4, ixN_0, ixN_1, ixN_2, ixN_3, ixN_4, List.length_cons, List.length_nil, onBl_b, onInt_i, onTup_t, on1_1, on2_2, onQ_l, onQ_t, onQ_s, onL_l, onLs_l, onLs_s, onD_d, onOpt_s, gII, gB, gAdd_i, gAdd_s, gAdd_t, gAdd_l, gMul_i, gMul_l, gMul_t, gSub, gMod, gDiv, gPow, gNeg, gIx_l, gIx_t, gIx_s, gLen_l, gLen_t, gLen_s, gLen_d, iterD_t, iterD_l, iterD_s,
  kind_i, kind_b, kind_s, kind_n, kind_t, kind_l, gIsN, isNon, gTuple, gList, gAll, gAny, gSum, gMin, gMax, gMin2, gMax2, gAbs, gInt, gSorted,
  List.getElem?_cons_zero, List.getElem?_cons_succ, List.getElem?_nil, List.set_cons_zero, List.set_cons_succ, List.cons_append, List.nil_append, List.append_nil, wipeE, List.any_cons, List.any_nil, isK, Bool.or_false, Bool.false_or, Bool.or_true, Bool.true_or, Bool.not_true, Bool.not_false, if_true, if_false, Bool.false_eq_true, true_and, and_true, decide_eq_true_eq, id, reduceCtorEq, gEq_i, gNe_i, gEq_b, gNe_b, gEq_li, gNe_li, gEq_l0, gNe_l0, gEq_00, gNe_00, gEq_ti, gNe_ti, mEnum, Nat.zero_add, Nat.reduceAdd, Int.reduceEq, Int.cast_ofNat_Int, Nat.zero_le, sz1, sz2, sz3, sz4, sz5, sz6, decide_true, decide_false, mSortSet, mListRg, mMakeK, mPopAt, mIsO, mApp, mExt, mGet, mDNew, sPar3, sFldAugM, mZip2, mZip3, gSortT, eX, onIns_r F10.ins, fw_3]
    refine ⟨xx side, ns, hi, room, hs', rfl, F10, ?_⟩
    simp only [sSeq, sSet, sSkip, sForget, sFor, sIf, sRet, sRetN, sDrop, sSetI, sAsg, sPar, sFldM, sAug, frzV, valE, mVar, mC, mOp, mUn, mCall, mFun, mMeth, mMake, mFld, mTst, mNotT, mNotV, mAndV, mOrV, mAndT, mOrT, mIte, mNil, mCons, mTup, mLst, mChain, mIter_ap, mIsi_ap, mRng1, mRng2, mLc, mYes, mCell, mRel, mSl, oNo, oSome,
  gN, gT, gsCons, gsNil, frz_d, frz_l, frz_k, gIx_p, onSet_p, onQ_p, onL_p, gLen_p, onIns_p, put_put, atD_0, atD_1, atD_2, atD_3, atD_4, ixN_0, ixN_1, ixN_2, ixN_3, ixN_4, List.length_cons, List.length_nil, onBl_b, onInt_i, onTup_t, on1_1, on2_2, onQ_l, onQ_t, onQ_s, onL_l, onLs_l, onLs_s, onD_d, onOpt_s, gII, gB, gAdd_i, gAdd_s, gAdd_t, gAdd_l, gMul_i, gMul_l, gMul_t, gSub, gMod, gDiv, gPow, gNeg, gIx_l, gIx_t, gIx_s, gLen_l, gLen_t, gLen_s, gLen_d, iterD_t, iterD_l, iterD_s,
  kind_i, kind_b, kind_s, kind_n, kind_t, kind_l, gIsN, isNon, gTuple, gList, gAll, gAny, gSum, gMin, gMax, gMin2, gMax2, gAbs, gInt, gSorted,
  List.getElem?_cons_zero, List.getElem?_cons_succ, List.getElem?_nil, List.set_cons_zero, List.set_cons_succ, List.cons_append, List.nil_append, List.append_nil, wipeE, List.any_cons, List.any_nil, isK, Bool.or_false, Bool.false_or, Bool.or_true, Bool.true_or, Bool.not_true, Bool.not_false, if_true, if_false, Bool.false_eq_true, true_and, and_true, decide_eq_true_eq, id, reduceCtorEq, gEq_i, gNe_i, gEq_b, gNe_b, gEq_li, gNe_li, gEq_l0, gNe_l0, gEq_00, gNe_00, gEq_ti, gNe_ti, mEnum, Nat.zero_add, Nat.reduceAdd, Int.reduceEq, Int.cast_ofNat_Int, Nat.zero_le, sz1, sz2, sz3, sz4, sz5, sz6, decide_true, decide_false, mSortSet, mListRg, mMakeK, mPopAt, mIsO, mApp, mExt, mGet, mDNew, sPar3, sFldAugM, mZip2, mZip3, gSortT, eX, onIns_r F10.ins, fw_2]
    refine ⟨xx side, ns, hi, room, hs', rfl, F10, by omega, mh, ?_⟩
    simp only [sSeq, sSet, sSkip, sForget, sFor, sIf, sRet, sRetN, sDrop, sSetI, sAsg, sPar, sFldM, sAug, frzV, valE, mVar, mC, mOp, mUn, mCall, mFun, mMeth, mMake, mFld, mTst, mNotT, mNotV, mAndV, mOrV, mAndT, mOrT, mIte, mNil, mCons, mTup, mLst, mChain, mIter_ap, mIsi_ap, mRng1, mRng2, mLc, mYes, mCell, mRel, mSl, oNo, oSome,
  gN, gT, gsCons, gsNil, frz_d, frz_l, frz_k, gIx_p, onSet_p, onQ_p, onL_p, gLen_p, onIns_p, put_put, atD_0, atD_1, atD_2, atD_3, atD_4, ixN_0, ixN_1, ixN_2, ixN_3, ixN_4, List.length_cons, List.length_nil, onBl_b, onInt_i, onTup_t, on1_1, on2_2, onQ_l, onQ_t, onQ_s, onL_l, onLs_l, onLs_s, onD_d, onOpt_s, gII, gB, gAdd_i, gAdd_s, gAdd_t, gAdd_l, gMul_i, gMul_l, gMul_t, gSub, gMod, gDiv, gPow, gNeg, gIx_l, gIx_t, gIx_s, gLen_l, gLen_t, gLen_s, gLen_d, iterD_t, iterD_l, iterD_s,
  kind_i, kind_b, kind_s, kind_n, kind_t, kind_l, gIsN, isNon, gTuple, gList, gAll, gAny, gSum, gMin, gMax, gMin2, gMax2, gAbs, gInt, gSorted,
  List.getElem?_cons_zero, List.getElem?_cons_succ, List.getElem?_nil, List.set_cons_zero, List.set_cons_succ, List.cons_append, List.nil_append, List.append_nil, wipeE, List.any_cons, List.any_nil, isK, Bool.or_false, Bool.false_or, Bool.or_true, Bool.true_or, Bool.not_true, Bool.not_false, if_true, if_false, Bool.false_eq_true, true_and, and_true, decide_eq_true_eq, id, reduceCtorEq, gEq_i, gNe_i, gEq_b, gNe_b, gEq_li, gNe_li, gEq_l0, gNe_l0, gEq_00, gNe_00, gEq_ti, gNe_ti, mEnum, Nat.zero_add, Nat.reduceAdd, Int.reduceEq, Int.cast_ofNat_Int, Nat.zero_le, sz1, sz2, sz3, sz4, sz5, sz6, decide_true, decide_false, mSortSet, mListRg, mMakeK, mPopAt, mIsO, mApp, mExt, mGet, mDNew, sPar3, sFldAugM, mZip2, mZip3, gSortT]
    refine ⟨_, _, rfl, rfl, by decide, al_due (by omega), ?_⟩
    simp only [sSeq, sSet, sSkip, sForget, sFor, sIf, sRet, sRetN, sDrop, sSetI, sAsg, sPar, sFldM, sAug, frzV, valE, mVar, mC, mOp, mUn, mCall, mFun, mMeth, mMake, mFld, mTst, mNotT, mNotV, mAndV, mOrV, mAndT, mOrT, mIte, mNil, mCons, mTup, mLst, mChain, mIter_ap, mIsi_ap, mRng1, mRng2, mLc, mYes, mCell, mRel, mSl, oNo, oSome,
  gN, gT, gsCons, gsNil, frz_d, frz_l, frz_k, gIx_p, onSet_p, onQ_p, onL_p, gLen_p, onIns_p, put_put, atD_0, atD_1, atD_2, atD_3, atD_4, ixN_0, ixN_1, ixN_2, ixN_3, ixN_4, List.length_cons, List.length_nil, onBl_b, onInt_i, onTup_t, on1_1, on2_2, onQ_l, onQ_t, onQ_s, onL_l, onLs_l, onLs_s, onD_d, onOpt_s, gII, gB, gAdd_i, gAdd_s, gAdd_t, gAdd_l, gMul_i, gMul_l, gMul_t, gSub, gMod, gDiv, gPow, gNeg, gIx_l, gIx_t, gIx_s, gLen_l, gLen_t, gLen_s, gLen_d, iterD_t, iterD_l, iterD_s,
  kind_i, kind_b, kind_s, kind_n, kind_t, kind_l, gIsN, isNon, gTuple, gList, gAll, gAny, gSum, gMin, gMax, gMin2, gMax2, gAbs, gInt, gSorted,
  List.getElem?_cons_zero, List.getElem?_cons_succ, List.getElem?_nil, List.set_cons_zero, List.set_cons_succ, List.cons_append, List.nil_append, List.append_nil, wipeE, List.any_cons, List.any_nil, isK, Bool.or_false, Bool.false_or, Bool.or_true, Bool.true_or, Bool.not_true, Bool.not_false, if_true, if_false, Bool.false_eq_true, true_and, and_true, decide_eq_true_eq, id, reduceCtorEq, gEq_i, gNe_i, gEq_b, gNe_b, gEq_li, gNe_li, gEq_l0, gNe_l0, gEq_00, gNe_00, gEq_ti, gNe_ti, mEnum, Nat.zero_add, Nat.reduceAdd, Int.reduceEq, Int.cast_ofNat_Int, Nat.zero_le, sz1, sz2, sz3, sz4, sz5, sz6, decide_true, decide_false, mSortSet, mListRg, mMakeK, mPopAt, mIsO, mApp, mExt, mGet, mDNew, sPar3, sFldAugM, mZip2, mZip3, gSortT]
    exact hk _ _ ⟨⟨_, _, L10⟩, rfl⟩
  · rintro E h6 ⟨⟨hh, SS, L⟩, rfl⟩
    have F0 := L.few 0 (by decide)
    have F1 := L.few 1 (by decide)
    have K0 := L.kp 0 (by decide)
    have K1 := L.kp 1 (by decide)
    have k0l := K0.len
    have k1l := K1.len
    simp only [sSeq, sSet, sSkip, sForget, sFor, sIf, sRet, sRetN, sDrop, sSetI, sAsg, sPar, sFldM, sAug, frzV, valE, mVar, mC, mOp, mUn, mCall, mFun, mMeth, mMake, mFld, mTst, mNotT, mNotV, mAndV, mOrV, mAndT, mOrT, mIte, mNil, mCons, mTup, mLst, mChain, mIter_ap, mIsi_ap, mRng1, mRng2, mLc, mYes, mCell, mRel, mSl, oNo, oSome,
  gN, gT, gsCons, gsNil, frz_d, frz_l, frz_k, gIx_p, onSet_p, onQ_p, onL_p, gLen_p, onIns_p, put_put, atD_0, atD_1, atD_2, atD_3, atD_4, ixN_0, ixN_1, ixN_2, ixN_3, ixN_4, List.length_cons, List.length_nil, onBl_b, onInt_i, onTup_t, on1_1, on2_2, onQ_l, onQ_t, onQ_s, onL_l, onLs_l, onLs_s, onD_d, onOpt_s, gII, gB, gAdd_i, gAdd_s, gAdd_t, gAdd_l, gMul_i, gMul_l, gMul_t, gSub, gMod, gDiv, gPow, gNeg, gIx_l, gIx_t, gIx_s, gLen_l, gLen_t, gLen_s, gLen_d, iterD_t, iterD_l, iterD_s,
  kind_i, kind_b, kind_s, kind_n, kind_t, kind_l, gIsN, isNon, gTuple, gList, gAll, gAny, gSum, gMin, gMax, gMin2, gMax2, gAbs, gInt, gSorted,
  List.getElem?_cons_zero, List.getElem?_cons_succ, List.getElem?_nil, List.set_cons_zero, List.set_cons_succ, List.cons_append, List.nil_append, List.append_nil, wipeE, List.any_cons, List.any_nil, isK, Bool.or_false, Bool.false_or, Bool.or_true, Bool.true_or, Bool.not_true, Bool.not_false, if_true, if_false, Bool.false_eq_true, true_and, and_true, decide_eq_true_eq, id, reduceCtorEq, gEq_i, gNe_i, gEq_b, gNe_b, gEq_li, gNe_li, gEq_l0, gNe_l0, gEq_00, gNe_00, gEq_ti, gNe_ti, mEnum, Nat.zero_add, Nat.reduceAdd, Int.reduceEq, Int.cast_ofNat_Int, Nat.zero_le, sz1, sz2, sz3, sz4, sz5, sz6, decide_true, decide_false, mSortSet, mListRg, mMakeK, mPopAt, mIsO, mApp, mExt, mGet, mDNew, sPar3, sFldAugM, mZip2, mZip3, gSortT, onIns_r F0.ins, fw_4]
    refine ⟨xx 0, xx 1, ns, hi, room, hh 0, hh 1, SS 0, SS 1, rfl, F0, F1, K0, K1, fun hs kp z hz => ?_⟩
    have zm : m ≠ z := ne_new L.mo hz
    have mo' : put h6 z (.ins a.Fewest (fewF ns hi room hs)) m = some (.lst [.lst ((hh 0).map D.int), .lst ((hh 1).map D.int)]) := (put_ne zm).trans L.mo
    have Fz : FewAt a (put h6 z (.ins a.Fewest (fewF ns hi room hs))) z ns hi room hs := ⟨ok, put_same⟩
    have x0z : xx 0 ≠ z := ne_new F0.ins hz
    have x1z : xx 1 ≠ z := ne_new F1.ins hz
    simp only [sSeq, sSet, sSkip, sForget, sFor, sIf, sRet, sRetN, sDrop, sSetI, sAsg, sPar, sFldM, sAug, frzV, valE, mVar, mC, mOp, mUn, mCall, mFun, mMeth, mMake, mFld, mTst, mNotT, mNotV, mAndV, mOrV, mAndT, mOrT, mIte, mNil, mCons, mTup, mLst, mChain, mIter_ap, mIsi_ap, mRng1, mRng2, mLc, mYes, mCell, mRel, mSl, oNo, oSome,
  gN, gT, gsCons, gsNil, frz_d, frz_l, frz_k, gIx_p, onSet_p, onQ_p, onL_p, gLen_p, onIns_p, put_put, atD_0, atD_1, atD_2, atD_3, atD_4, ixN_0, ixN_1, ixN_2, ixN_3, ixN_4, List.length_cons, List.length_nil, onBl_b, onInt_i, onTup_t, on1_1, on2_2, onQ_l, onQ_t, onQ_s, onL_l, onLs_l, onLs_s, onD_d, onOpt_s, gII, gB, gAdd_i, gAdd_s, gAdd_t, gAdd_l, gMul_i, gMul_l, gMul_t, gSub, gMod, gDiv, gPow, gNeg, gIx_l, gIx_t, gIx_s, gLen_l, gLen_t, gLen_s, gLen_d, iterD_t, iterD_l, iterD_s,
  kind_i, kind_b, kind_s, kind_n, kind_t, kind_l, gIsN, isNon, gTuple, gList, gAll, gAny, gSum, gMin, gMax, gMin2, gMax2, gAbs, gInt, gSorted,
  List.getElem?_cons_zero, List.getElem?_cons_succ, List.getElem?_nil, List.set_cons_zero, List.set_cons_succ, List.cons_append, List.nil_append, List.append_nil, wipeE, List.any_cons, List.any_nil, isK, Bool.or_false, Bool.false_or, Bool.or_true, Bool.true_or, Bool.not_true, Bool.not_false, if_true, if_false, Bool.false_eq_true, true_and, and_true, decide_eq_true_eq, id, reduceCtorEq, gEq_i, gNe_i, gEq_b, gNe_b, gEq_li, gNe_li, gEq_l0, gNe_l0, gEq_00, gNe_00, gEq_ti, gNe_ti, mEnum, Nat.zero_add, Nat.reduceAdd, Int.reduceEq, Int.cast_ofNat_Int, Nat.zero_le, sz1, sz2, sz3, sz4, sz5, sz6, decide_true, decide_false, mSortSet, mListRg, mMakeK, mPopAt, mIsO, mApp, mExt, mGet, mDNew, sPar3, sFldAugM, mZip2, mZip3, gSortT, gIx_r mo', List.length_map, ← List.map_append, intsD_m, List.length_append]
    refine ⟨by omega, by omega, fun ms pw mem => ?_⟩
    have kp2 := K0.join K1 pw mem
    simp only [sSeq, sSet, sSkip, sForget, sFor, sIf, sRet, sRetN, sDrop, sSetI, sAsg, sPar, sFldM, sAug, frzV, valE, mVar, mC, mOp, mUn, mCall, mFun, mMeth, mMake, mFld, mTst, mNotT, mNotV, mAndV, mOrV, mAndT, mOrT, mIte, mNil, mCons, mTup, mLst, mChain, mIter_ap, mIsi_ap, mRng1, mRng2, mLc, mYes, mCell, mRel, mSl, oNo, oSome,
  gN, gT, gsCons, gsNil, frz_d, frz_l, frz_k, gIx_p, onSet_p, onQ_p, onL_p, gLen_p, onIns_p, put_put, atD_0, atD_1, atD_2, atD_3, atD_4, ixN_0, ixN_1, ixN_2, ixN_3, ixN_4, List.length_cons, List.length_nil, onBl_b, onInt_i, onTup_t, on1_1, on2_2, onQ_l, onQ_t, onQ_s, onL_l, onLs_l, onLs_s, onD_d, onOpt_s, gII, gB, gAdd_i, gAdd_s, gAdd_t, gAdd_l, gMul_i, gMul_l, gMul_t, gSub, gMod, gDiv, gPow, gNeg, gIx_l, gIx_t, gIx_s, gLen_l, gLen_t, gLen_s, gLen_d, iterD_t, iterD_l, iterD_s,
  kind_i, kind_b, kind_s, kind_n, kind_t, kind_l, gIsN, isNon, gTuple, gList, gAll, gAny, gSum, gMin, gMax, gMin2, gMax2, gAbs, gInt, gSorted,
  List.getElem?_cons_zero, List.getElem?_cons_succ, List.getElem?_nil, List.set_cons_zero, List.set_cons_succ, List.cons_append, List.nil_append, List.append_nil, wipeE, List.any_cons, List.any_nil, isK, Bool.or_false, Bool.false_or, Bool.or_true, Bool.true_or, Bool.not_true, Bool.not_false, if_true, if_false, Bool.false_eq_true, true_and, and_true, decide_eq_true_eq, id, reduceCtorEq, gEq_i, gNe_i, gEq_b, gNe_b, gEq_li, gNe_li, gEq_l0, gNe_l0, gEq_00, gNe_00, gEq_ti, gNe_ti, mEnum, Nat.zero_add, Nat.reduceAdd, Int.reduceEq, Int.cast_ofNat_Int, Nat.zero_le, sz1, sz2, sz3, sz4, sz5, sz6, decide_true, decide_false, mSortSet, mListRg, mMakeK, mPopAt, mIsO, mApp, mExt, mGet, mDNew, sPar3, sFldAugM, mZip2, mZip3, gSortT, gSl_l, cut_toI (by omega : 0 ≤ room), ← List.map_take]
    obtain rfl := kp.uniq kp2
    have lh := kp.len
    have mh : ∀ n ∈ ms.take room.toNat, n ∈ ns := fun n hn => by
      rcases kp.mem n hn with h | h
      · exact L.sub 0 (by decide) n h
      · exact L.sub 1 (by decide) n h
    generalize ms.take room.toNat = hs at *
    simp only [sSeq, sSet, sSkip, sForget, sFor, sIf, sRet, sRetN, sDrop, sSetI, sAsg, sPar, sFldM, sAug, frzV, valE, mVar, mC, mOp, mUn, mCall, mFun, mMeth, mMake, mFld, mTst, mNotT, mNotV, mAndV, mOrV, mAndT, mOrT, mIte, mNil, mCons, mTup, mLst, mChain, mIter_ap, mIsi_ap, mRng1, mRng2, mLc, mYes, mCell, mRel, mSl, oNo, oSome,
  gN, gT, gsCons, gsNil, frz_d, frz_l, frz_k, gIx_p, onSet_p, onQ_p, onL_p, gLen_p, onIns_p, put_put, atD_0, atD_1, atD_2, atD_3, atD_4, ixN_0, ixN_1, ixN_2, ixN_3, ixN_4, List.length_cons, List.length_nil, onBl_b, onInt_i, onTup_t, on1_1, on2_2, onQ_l, onQ_t, onQ_s, onL_l, onLs_l, onLs_s, onD_d, onOpt_s, gII, gB, gAdd_i, gAdd_s, gAdd_t, gAdd_l, gMul_i, gMul_l, gMul_t, gSub, gMod, gDiv, gPow, gNeg, gIx_l, gIx_t, gIx_s, gLen_l, gLen_t, gLen_s, gLen_d, iterD_t, iterD_l, iterD_s,
  kind_i, kind_b, kind_s, kind_n, kind_t, kind_l, gIsN, isNon, gTuple, gList, gAll, gAny, gSum, gMin, gMax, gMin2, gMax2, gAbs, gInt, gSorted,
  List.getElem?_cons_zero, List.getElem?_cons_succ, List.getElem?_nil, List.set_cons_zero, List.set_cons_succ, List.cons_append, List.nil_append, List.append_nil, wipeE, List.any_cons, List.any_nil, isK, Bool.or_false, Bool.false_or, Bool.or_true, Bool.true_or, Bool.not_true, Bool.not_false, if_true, if_false, Bool.false_eq_true, true_and, and_true, decide_eq_true_eq, id, reduceCtorEq, gEq_i, gNe_i, gEq_b, gNe_b, gEq_li, gNe_li, gEq_l0, gNe_l0, gEq_00, gNe_00, gEq_ti, gNe_ti, mEnum, Nat.zero_add, Nat.reduceAdd, Int.reduceEq, Int.cast_ofNat_Int, Nat.zero_le, sz1, sz2, sz3, sz4, sz5, sz6, decide_true, decide_false, mSortSet, mListRg, mMakeK, mPopAt, mIsO, mApp, mExt, mGet, mDNew, sPar3, sFldAugM, mZip2, mZip3, gSortT, onIns_r Fz.ins, fw_3]
    refine ⟨z, ns, hi, room, hs, rfl, Fz, ?_⟩
    simp only [sSeq, sSet, sSkip, sForget, sFor, sIf, sRet, sRetN, sDrop, sSetI, sAsg, sPar, sFldM, sAug, frzV, valE, mVar, mC, mOp, mUn, mCall, mFun, mMeth, mMake, mFld, mTst, mNotT, mNotV, mAndV, mOrV, mAndT, mOrT, mIte, mNil, mCons, mTup, mLst, mChain, mIter_ap, mIsi_ap, mRng1, mRng2, mLc, mYes, mCell, mRel, mSl, oNo, oSome,
  gN, gT, gsCons, gsNil, frz_d, frz_l, frz_k, gIx_p, onSet_p, onQ_p, onL_p, gLen_p, onIns_p, put_put, atD_0, atD_1, atD_2, atD_3, atD_4, ixN_0, ixN_1, ixN_2, ixN_3, ixN_4, List.length_cons, List.length_nil, onBl_b, onInt_i, onTup_t, on1_1, on2_2, onQ_l, onQ_t, onQ_s, onL_l, onLs_l, onLs_s, onD_d, onOpt_s, gII, gB, gAdd_i, gAdd_s, gAdd_t, gAdd_l, gMul_i, gMul_l, gMul_t, gSub, gMod, gDiv, gPow, gNeg, gIx_l, gIx_t, gIx_s, gLen_l, gLen_t, gLen_s, gLen_d, iterD_t, iterD_l, iterD_s,
  kind_i, kind_b, kind_s, kind_n, kind_t, kind_l, gIsN, isNon, gTuple, gList, gAll, gAny, gSum, gMin, gMax, gMin2, gMax2, gAbs, gInt, gSorted,
  List.getElem?_cons_zero, List.getElem?_cons_succ, List.getElem?_nil, List.set_cons_zero, List.set_cons_succ, List.cons_append, List.nil_append, List.append_nil, wipeE, List.any_cons, List.any_nil, isK, Bool.or_false, Bool.false_or, Bool.or_true, Bool.true_or, Bool.not_true, Bool.not_false, if_true, if_false, Bool.false_eq_true, true_and, and_true, decide_eq_true_eq, id, reduceCtorEq, gEq_i, gNe_i, gEq_b, gNe_b, gEq_li, gNe_li, gEq_l0, gNe_l0, gEq_00, gNe_00, gEq_ti, gNe_ti, mEnum, Nat.zero_add, Nat.reduceAdd, Int.reduceEq, Int.cast_ofNat_Int, Nat.zero_le, sz1, sz2, sz3, sz4, sz5, sz6, decide_true, decide_false, mSortSet, mListRg, mMakeK, mPopAt, mIsO, mApp, mExt, mGet, mDNew, sPar3, sFldAugM, mZip2, mZip3, gSortT, onIns_r Fz.ins, fw_2]
    refine ⟨z, ns, hi, room, hs, rfl, Fz, by omega, mh, ?_⟩
    simp only [sSeq, sSet, sSkip, sForget, sFor, sIf, sRet, sRetN, sDrop, sSetI, sAsg, sPar, sFldM, sAug, frzV, valE, mVar, mC, mOp, mUn, mCall, mFun, mMeth, mMake, mFld, mTst, mNotT, mNotV, mAndV, mOrV, mAndT, mOrT, mIte, mNil, mCons, mTup, mLst, mChain, mIter_ap, mIsi_ap, mRng1, mRng2, mLc, mYes, mCell, mRel, mSl, oNo, oSome,
  gN, gT, gsCons, gsNil, frz_d, frz_l, frz_k, gIx_p, onSet_p, onQ_p, onL_p, gLen_p, onIns_p, put_put, atD_0, atD_1, atD_2, atD_3, atD_4, ixN_0, ixN_1, ixN_2, ixN_3, ixN_4, List.length_cons, List.length_nil, onBl_b, onInt_i, onTup_t, on1_1, on2_2, onQ_l, onQ_t, onQ_s, onL_l, onLs_l, onLs_s, onD_d, onOpt_s, gII, gB, gAdd_i, gAdd_s, gAdd_t, gAdd_l, gMul_i, gMul_l, gMul_t, gSub, gMod, gDiv, gPow, gNeg, gIx_l, gIx_t, gIx_s, gLen_l, gLen_t, gLen_s, gLen_d, iterD_t, iterD_l, iterD_s,
  kind_i, kind_b, kind_s, kind_n, kind_t, kind_l, gIsN, isNon, gTuple, gList, gAll, gAny, gSum, gMin, gMax, gMin2, gMax2, gAbs, gInt, gSorted,
  List.getElem?_cons_zero, List.getElem?_cons_succ, List.getElem?_nil, List.set_cons_zero, List.set_cons_succ, List.cons_append, List.nil_append, List.append_nil, wipeE, List.any_cons, List.any_nil, isK, Bool.or_false, Bool.false_or, Bool.or_true, Bool.true_or, Bool.not_true, Bool.not_false, if_true, if_false, Bool.false_eq_true, true_and, and_true, decide_eq_true_eq, id, reduceCtorEq, gEq_i, gNe_i, gEq_b, gNe_b, gEq_li, gNe_li, gEq_l0, gNe_l0, gEq_00, gNe_00, gEq_ti, gNe_ti, mEnum, Nat.zero_add, Nat.reduceAdd, Int.reduceEq, Int.cast_ofNat_Int, Nat.zero_le, sz1, sz2, sz3, sz4, sz5, sz6, decide_true, decide_false, mSortSet, mListRg, mMakeK, mPopAt, mIsO, mApp, mExt, mGet, mDNew, sPar3, sFldAugM, mZip2, mZip3, gSortT]
    refine ⟨hi, room, _, hs, rfl, rfl, by omega, by omega, by omega, by omega, by omega, fun n hn => rg n (mh n hn), ?_⟩
    simp only [sSeq, sSet, sSkip, sForget, sFor, sIf, sRet, sRetN, sDrop, sSetI, sAsg, sPar, sFldM, sAug, frzV, valE, mVar, mC, mOp, mUn, mCall, mFun, mMeth, mMake, mFld, mTst, mNotT, mNotV, mAndV, mOrV, mAndT, mOrT, mIte, mNil, mCons, mTup, mLst, mChain, mIter_ap, mIsi_ap, mRng1, mRng2, mLc, mYes, mCell, mRel, mSl, oNo, oSome,
  gN, gT, gsCons, gsNil, frz_d, frz_l, frz_k, gIx_p, onSet_p, onQ_p, onL_p, gLen_p, onIns_p, put_put, atD_0, atD_1, atD_2, atD_3, atD_4, ixN_0, ixN_1, ixN_2, ixN_3, ixN_4, List.length_cons, List.length_nil, onBl_b, onInt_i, onTup_t, on1_1, on2_2, onQ_l, onQ_t, onQ_s, onL_l, onLs_l, onLs_s, onD_d, onOpt_s, gII, gB, gAdd_i, gAdd_s, gAdd_t, gAdd_l, gMul_i, gMul_l, gMul_t, gSub, gMod, gDiv, gPow, gNeg, gIx_l, gIx_t, gIx_s, gLen_l, gLen_t, gLen_s, gLen_d, iterD_t, iterD_l, iterD_s,
  kind_i, kind_b, kind_s, kind_n, kind_t, kind_l, gIsN, isNon, gTuple, gList, gAll, gAny, gSum, gMin, gMax, gMin2, gMax2, gAbs, gInt, gSorted,
  List.getElem?_cons_zero, List.getElem?_cons_succ, List.getElem?_nil, List.set_cons_zero, List.set_cons_succ, List.cons_append, List.nil_append, List.append_nil, wipeE, List.any_cons, List.any_nil, isK, Bool.or_false, Bool.false_or, Bool.or_true, Bool.true_or, Bool.not_true, Bool.not_false, if_true, if_false, Bool.false_eq_true, true_and, and_true, decide_eq_true_eq, id, reduceCtorEq, gEq_i, gNe_i, gEq_b, gNe_b, gEq_li, gNe_li, gEq_l0, gNe_l0, gEq_00, gNe_00, gEq_ti, gNe_ti, mEnum, Nat.zero_add, Nat.reduceAdd, Int.reduceEq, Int.cast_ofNat_Int, Nat.zero_le, sz1, sz2, sz3, sz4, sz5, sz6, decide_true, decide_false, mSortSet, mListRg, mMakeK, mPopAt, mIsO, mApp, mExt, mGet, mDNew, sPar3, sFldAugM, mZip2, mZip3, gSortT]
    refine ⟨_, _, rfl, rfl, by decide, al_due (by omega), ?_⟩
    simp only [sSeq, sSet, sSkip, sForget, sFor, sIf, sRet, sRetN, sDrop, sSetI, sAsg, sPar, sFldM, sAug, frzV, valE, mVar, mC, mOp, mUn, mCall, mFun, mMeth, mMake, mFld, mTst, mNotT, mNotV, mAndV, mOrV, mAndT, mOrT, mIte, mNil, mCons, mTup, mLst, mChain, mIter_ap, mIsi_ap, mRng1, mRng2, mLc, mYes, mCell, mRel, mSl, oNo, oSome,
  gN, gT, gsCons, gsNil, frz_d, frz_l, frz_k, gIx_p, onSet_p, onQ_p, onL_p, gLen_p, onIns_p, put_put, atD_0, atD_1, atD_2, atD_3, atD_4, ixN_0, ixN_1, ixN_2, ixN_3, ixN_4, List.length_cons, List.length_nil, onBl_b, onInt_i, onTup_t, on1_1, on2_2, onQ_l, onQ_t, onQ_s, onL_l, onLs_l, onLs_s, onD_d, onOpt_s, gII, gB, gAdd_i, gAdd_s, gAdd_t, gAdd_l, gMul_i, gMul_l, gMul_t, gSub, gMod, gDiv, gPow, gNeg, gIx_l, gIx_t, gIx_s, gLen_l, gLen_t, gLen_s, gLen_d, iterD_t, iterD_l, iterD_s,
  kind_i, kind_b, kind_s, kind_n, kind_t, kind_l, gIsN, isNon, gTuple, gList, gAll, gAny, gSum, gMin, gMax, gMin2, gMax2, gAbs, gInt, gSorted,
  List.getElem?_cons_zero, List.getElem?_cons_succ, List.getElem?_nil, List.set_cons_zero, List.set_cons_succ, List.cons_append, List.nil_append, List.append_nil, wipeE, List.any_cons, List.any_nil, isK, Bool.or_false, Bool.false_or, Bool.or_true, Bool.true_or, Bool.not_true, Bool.not_false, if_true, if_false, Bool.false_eq_true, true_and, and_true, decide_eq_true_eq, id, reduceCtorEq, gEq_i, gNe_i, gEq_b, gNe_b, gEq_li, gNe_li, gEq_l0, gNe_l0, gEq_00, gNe_00, gEq_ti, gNe_ti, mEnum, Nat.zero_add, Nat.reduceAdd, Int.reduceEq, Int.cast_ofNat_Int, Nat.zero_le, sz1, sz2, sz3, sz4, sz5, sz6, decide_true, decide_false, mSortSet, mListRg, mMakeK, mPopAt, mIsO, mApp, mExt, mGet, mDNew, sPar3, sFldAugM, mZip2, mZip3, gSortT, List.length_map]
    refine ⟨⟨by omega, by omega⟩, ?_⟩
    have mr := L.mr
    refine for_inv (fun i E h' => ∃ hs', Kept (fun y => (SS 0 y ∨ SS 1 y) ∨ ∃ j, j < i ∧ ns[j]? = some y) room.toNat hs' ∧ h' = put h6 z (.ins a.Fewest (fewF ns hi room hs')) ∧
      E = [some (.scr ns0), some (.ref r), some (.int hi), some (.int room), some (.tup (ns.map D.int)), some (.lst [.ref (xx 0), .ref (xx 1)]), some (.ref m), none, none, none, none, some (.lst (hs.map D.int)), some (.ref z), none, none]) ⟨hs, kp.ext fun x => ⟨.inl, fun h => h.elim id fun ⟨j, hj, _⟩ => absurd hj (Nat.not_lt_zero j)⟩, rfl, rfl⟩ ?_ ?_
    · rintro i d E h7 kc hi7 ⟨hs', kp7, rfl, rfl⟩ hk7
      obtain ⟨il, rfl⟩ := rng_get hi7
      rw [Int.toNat_natCast] at il
      have Fz7 : FewAt a (put h6 z (.ins a.Fewest (fewF ns hi room hs'))) z ns hi room hs' := ⟨ok, put_same⟩
      simp only [sSeq, sSet, sSkip, sForget, sFor, sIf, sRet, sRetN, sDrop, sSetI, sAsg, sPar, sFldM, sAug, frzV, valE, mVar, mC, mOp, mUn, mCall, mFun, mMeth, mMake, mFld, mTst, mNotT, mNotV, mAndV, mOrV, mAndT, mOrT, mIte, mNil, mCons, mTup, mLst, mChain, mIter_ap, mIsi_ap, mRng1, mRng2, mLc, mYes, mCell, mRel, mSl, oNo, oSome,
  gN, gT, gsCons, gsNil, frz_d, frz_l, frz_k, gIx_p, onSet_p, onQ_p, onL_p, gLen_p, onIns_p, put_put, atD_0, atD_1, atD_2, atD_3, atD_4, ixN_0, ixN_1, ixN_2, ixN_3, ixN_4, List.length_cons, List.length_nil, onBl_b, onInt_i, onTup_t, on1_1, on2_2, onQ_l, onQ_t, onQ_s, onL_l, onLs_l, onLs_s, onD_d, onOpt_s, gII, gB, gAdd_i, gAdd_s, gAdd_t, gAdd_l, gMul_i, gMul_l, gMul_t, gSub, gMod, gDiv, gPow, gNeg, gIx_l, gIx_t, gIx_s, gLen_l, gLen_t, gLen_s, gLen_d, iterD_t, iterD_l, iterD_s,
  kind_i, kind_b, kind_s, kind_n, kind_t, kind_l, gIsN, isNon, gTuple, gList, gAll, gAny, gSum, gMin, gMax, gMin2, gMax2, gAbs, gInt, gSorted,
  List.getElem?_cons_zero, List.getElem?_cons_succ, List.getElem?_nil, List.set_cons_zero, List.set_cons_succ, List.cons_append, List.nil_append, List.append_nil, wipeE, List.any_cons, List.any_nil, isK, Bool.or_false, Bool.false_or, Bool.or_true, Bool.true_or, Bool.not_true, Bool.not_false, if_true, if_false, Bool.false_eq_true, true_and, and_true, decide_eq_true_eq, id, reduceCtorEq, gEq_i, gNe_i, gEq_b, gNe_b, gEq_li, gNe_li, gEq_l0, gNe_l0, gEq_00, gNe_00, gEq_ti, gNe_ti, mEnum, Nat.zero_add, Nat.reduceAdd, Int.reduceEq, Int.cast_ofNat_Int, Nat.zero_le, sz1, sz2, sz3, sz4, sz5, sz6, decide_true, decide_false, mSortSet, mListRg, mMakeK, mPopAt, mIsO, mApp, mExt, mGet, mDNew, sPar3, sFldAugM, mZip2, mZip3, gSortT, onIns_r Fz7.ins, fw_1]
      refine ⟨z, ns, hi, room, hs', i, _, ns[i], rfl, Fz7, List.getElem?_eq_getElem il, kp7, fun hs2 kp8 => ?_⟩
      rw [put_put]
      refine hk7 _ _ ⟨hs2, kp8.ext fun x => ?_, rfl, rfl⟩
      constructor
      · rintro ((h | ⟨j, hj, e⟩) | rfl)
        · exact .inl h
        · exact .inr ⟨j, by omega, e⟩
        · exact .inr ⟨i, by omega, List.getElem?_eq_getElem il⟩
      · rintro (h | ⟨j, hj, e⟩)
        · exact .inl (.inl h)
        · by_cases c : j = i
          · subst c
            rw [List.getElem?_eq_getElem il] at e
            exact .inr (Option.some.inj e).symm
          · exact .inl (.inr ⟨j, by omega, e⟩)
    · rintro E h7 ⟨hs', kp7, rfl, rfl⟩
      rw [rng_len, Int.toNat_natCast] at kp7
      have Fz7 : FewAt a (put h6 z (.ins a.Fewest (fewF ns hi room hs'))) z ns hi room hs' := ⟨ok, put_same⟩
      simp only [sSeq, sSet, sSkip, sForget, sFor, sIf, sRet, sRetN, sDrop, sSetI, sAsg, sPar, sFldM, sAug, frzV, valE, mVar, mC, mOp, mUn, mCall, mFun, mMeth, mMake, mFld, mTst, mNotT, mNotV, mAndV, mOrV, mAndT, mOrT, mIte, mNil, mCons, mTup, mLst, mChain, mIter_ap, mIsi_ap, mRng1, mRng2, mLc, mYes, mCell, mRel, mSl, oNo, oSome,
  gN, gT, gsCons, gsNil, frz_d, frz_l, frz_k, gIx_p, onSet_p, onQ_p, onL_p, gLen_p, onIns_p, put_put, atD_0, atD_1, atD_2, atD_3, atD_4, ixN_0, ixN_1, ixN_2, ixN_3, ixN_4, List.length_cons, List.length_nil, onBl_b, onInt_i, onTup_t, on1_1, on2_2, onQ_l, onQ_t, onQ_s, onL_l, onLs_l, onLs_s, onD_d, onOpt_s, gII, gB, gAdd_i, gAdd_s, gAdd_t, gAdd_l, gMul_i, gMul_l, gMul_t, gSub, gMod, gDiv, gPow, gNeg, gIx_l, gIx_t, gIx_s, gLen_l, gLen_t, gLen_s, gLen_d, iterD_t, iterD_l, iterD_s,
  kind_i, kind_b, kind_s, kind_n, kind_t, kind_l, gIsN, isNon, gTuple, gList, gAll, gAny, gSum, gMin, gMax, gMin2, gMax2, gAbs, gInt, gSorted,
  List.getElem?_cons_zero, List.getElem?_cons_succ, List.getElem?_nil, List.set_cons_zero, List.set_cons_succ, List.cons_append, List.nil_append, List.append_nil, wipeE, List.any_cons, List.any_nil, isK, Bool.or_false, Bool.false_or, Bool.or_true, Bool.true_or, Bool.not_true, Bool.not_false, if_true, if_false, Bool.false_eq_true, true_and, and_true, decide_eq_true_eq, id, reduceCtorEq, gEq_i, gNe_i, gEq_b, gNe_b, gEq_li, gNe_li, gEq_l0, gNe_l0, gEq_00, gNe_00, gEq_ti, gNe_ti, mEnum, Nat.zero_add, Nat.reduceAdd, Int.reduceEq, Int.cast_ofNat_Int, Nat.zero_le, sz1, sz2, sz3, sz4, sz5, sz6, decide_true, decide_false, mSortSet, mListRg, mMakeK, mPopAt, mIsO, mApp, mExt, mGet, mDNew, sPar3, sFldAugM, mZip2, mZip3, gSortT, onIns_r Fz7.ins, fw_3]
      refine ⟨z, ns, hi, room, hs', rfl, Fz7, ?_⟩
      simp only [sSeq, sSet, sSkip, sForget, sFor, sIf, sRet, sRetN, sDrop, sSetI, sAsg, sPar, sFldM, sAug, frzV, valE, mVar, mC, mOp, mUn, mCall, mFun, mMeth, mMake, mFld, mTst, mNotT, mNotV, mAndV, mOrV, mAndT, mOrT, mIte, mNil, mCons, mTup, mLst, mChain, mIter_ap, mIsi_ap, mRng1, mRng2, mLc, mYes, mCell, mRel, mSl, oNo, oSome,
  gN, gT, gsCons, gsNil, frz_d, frz_l, frz_k, gIx_p, onSet_p, onQ_p, onL_p, gLen_p, onIns_p, put_put, atD_0, atD_1, atD_2, atD_3, atD_4, ixN_0, ixN_1, ixN_2, ixN_3, ixN_4, List.length_cons, List.length_nil, onBl_b, onInt_i, onTup_t, on1_1, on2_2, onQ_l, onQ_t, onQ_s, onL_l, onLs_l, onLs_s, onD_d, onOpt_s, gII, gB, gAdd_i, gAdd_s, gAdd_t, gAdd_l, gMul_i, gMul_l, gMul_t, gSub, gMod, gDiv, gPow, gNeg, gIx_l, gIx_t, gIx_s, gLen_l, gLen_t, gLen_s, gLen_d, iterD_t, iterD_l, iterD_s,
  kind_i, kind_b, kind_s, kind_n, kind_t, kind_l, gIsN, isNon, gTuple, gList, gAll, gAny, gSum, gMin, gMax, gMin2, gMax2, gAbs, gInt, gSorted,
  List.getElem?_cons_zero, List.getElem?_cons_succ, List.getElem?_nil, List.set_cons_zero, List.set_cons_succ, List.cons_append, List.nil_append, List.append_nil, wipeE, List.any_cons, List.any_nil, isK, Bool.or_false, Bool.false_or, Bool.or_true, Bool.true_or, Bool.not_true, Bool.not_false, if_true, if_false, Bool.false_eq_true, true_and, and_true, decide_eq_true_eq, id, reduceCtorEq, gEq_i, gNe_i, gEq_b, gNe_b, gEq_li, gNe_li, gEq_l0, gNe_l0, gEq_00, gNe_00, gEq_ti, gNe_ti, mEnum, Nat.zero_add, Nat.reduceAdd, Int.reduceEq, Int.cast_ofNat_Int, Nat.zero_le, sz1, sz2, sz3, sz4, sz5, sz6, decide_true, decide_false, mSortSet, mListRg, mMakeK, mPopAt, mIsO, mApp, mExt, mGet, mDNew, sPar3, sFldAugM, mZip2, mZip3, gSortT, intsD_m]
      intro ms2 pm pw2
      simp only [sSeq, sSet, sSkip, sForget, sFor, sIf, sRet, sRetN, sDrop, sSetI, sAsg, sPar, sFldM, sAug, frzV, valE, mVar, mC, mOp, mUn, mCall, mFun, mMeth, mMake, mFld, mTst, mNotT, mNotV, mAndV, mOrV, mAndT, mOrT, mIte, mNil, mCons, mTup, mLst, mChain, mIter_ap, mIsi_ap, mRng1, mRng2, mLc, mYes, mCell, mRel, mSl, oNo, oSome,
  gN, gT, gsCons, gsNil, frz_d, frz_l, frz_k, gIx_p, onSet_p, onQ_p, onL_p, gLen_p, onIns_p, put_put, atD_0, atD_1, atD_2, atD_3, atD_4, ixN_0, ixN_1, ixN_2, ixN_3, ixN_4, List.length_cons, List.length_nil, onBl_b, onInt_i, onTup_t, on1_1, on2_2, onQ_l, onQ_t, onQ_s, onL_l, onLs_l, onLs_s, onD_d, onOpt_s, gII, gB, gAdd_i, gAdd_s, gAdd_t, gAdd_l, gMul_i, gMul_l, gMul_t, gSub, gMod, gDiv, gPow, gNeg, gIx_l, gIx_t, gIx_s, gLen_l, gLen_t, gLen_s, gLen_d, iterD_t, iterD_l, iterD_s,
  kind_i, kind_b, kind_s, kind_n, kind_t, kind_l, gIsN, isNon, gTuple, gList, gAll, gAny, gSum, gMin, gMax, gMin2, gMax2, gAbs, gInt, gSorted,
  List.getElem?_cons_zero, List.getElem?_cons_succ, List.getElem?_nil, List.set_cons_zero, List.set_cons_succ, List.cons_append, List.nil_append, List.append_nil, wipeE, List.any_cons, List.any_nil, isK, Bool.or_false, Bool.false_or, Bool.or_true, Bool.true_or, Bool.not_true, Bool.not_false, if_true, if_false, Bool.false_eq_true, true_and, and_true, decide_eq_true_eq, id, reduceCtorEq, gEq_i, gNe_i, gEq_b, gNe_b, gEq_li, gNe_li, gEq_l0, gNe_l0, gEq_00, gNe_00, gEq_ti, gNe_ti, mEnum, Nat.zero_add, Nat.reduceAdd, Int.reduceEq, Int.cast_ofNat_Int, Nat.zero_le, sz1, sz2, sz3, sz4, sz5, sz6, decide_true, decide_false, mSortSet, mListRg, mMakeK, mPopAt, mIsO, mApp, mExt, mGet, mDNew, sPar3, sFldAugM, mZip2, mZip3, gSortT, gSl_l, cut_toI (by omega : 0 ≤ room), ← List.map_take]
      have kpw : Kept (fun y => y ∈ ns) room.toNat (ms2.take room.toNat) := Kept.whole (le_lt pw2 (pm.nodup_iff.mpr nd)) fun x => pm.mem_iff
      have ee : hs' = ms2.take room.toNat := kp7.uniq (kpw.ext fun x => by
        constructor
        · intro hx
          obtain ⟨j, hj, e⟩ := List.getElem_of_mem hx
          exact .inr ⟨j, hj, by rw [List.getElem?_eq_getElem hj, e]⟩
        · rintro ((h | h) | ⟨j, hj, e⟩)
          · exact L.sub 0 (by decide) x h
          · exact L.sub 1 (by decide) x h
          · exact List.mem_of_getElem? e)
      have mo7 : put h6 z (.ins a.Fewest (fewF ns hi room hs')) m = some (.lst [.lst ((hh 0).map D.int), .lst ((hh 1).map D.int)]) := (put_ne zm).trans L.mo
      have F07 : FewAt a (put h6 z (.ins a.Fewest (fewF ns hi room hs'))) (xx 0) ns hi room (hh 0) := F0.mono (put_ne x0z)
      have F17 : FewAt a (put h6 z (.ins a.Fewest (fewF ns hi room hs'))) (xx 1) ns hi room (hh 1) := F1.mono (put_ne x1z)
      rw [← ee]
      generalize put h6 z (.ins a.Fewest (fewF ns hi room hs')) = H7 at mo7 F07 F17 ⊢
      simp only [sSeq, sSet, sSkip, sForget, sFor, sIf, sRet, sRetN, sDrop, sSetI, sAsg, sPar, sFldM, sAug, frzV, valE, mVar, mC, mOp, mUn, mCall, mFun, mMeth, mMake, mFld, mTst, mNotT, mNotV, mAndV, mOrV, mAndT, mOrT, mIte, mNil, mCons, mTup, mLst, mChain, mIter_ap, mIsi_ap, mRng1, mRng2, mLc, mYes, mCell, mRel, mSl, oNo, oSome,
  gN, gT, gsCons, gsNil, frz_d, frz_l, frz_k, gIx_p, onSet_p, onQ_p, onL_p, gLen_p, onIns_p, put_put, atD_0, atD_1, atD_2, atD_3, atD_4, ixN_0, ixN_1, ixN_2, ixN_3, ixN_4, List.length_cons, List.length_nil, onBl_b, onInt_i, onTup_t, on1_1, on2_2, onQ_l, onQ_t, onQ_s, onL_l, onLs_l, onLs_s, onD_d, onOpt_s, gII, gB, gAdd_i, gAdd_s, gAdd_t, gAdd_l, gMul_i, gMul_l, gMul_t, gSub, gMod, gDiv, gPow, gNeg, gIx_l, gIx_t, gIx_s, gLen_l, gLen_t, gLen_s, gLen_d, iterD_t, iterD_l, iterD_s,
  kind_i, kind_b, kind_s, kind_n, kind_t, kind_l, gIsN, isNon, gTuple, gList, gAll, gAny, gSum, gMin, gMax, gMin2, gMax2, gAbs, gInt, gSorted,
  List.getElem?_cons_zero, List.getElem?_cons_succ, List.getElem?_nil, List.set_cons_zero, List.set_cons_succ, List.cons_append, List.nil_append, List.append_nil, wipeE, List.any_cons, List.any_nil, isK, Bool.or_false, Bool.false_or, Bool.or_true, Bool.true_or, Bool.not_true, Bool.not_false, if_true, if_false, Bool.false_eq_true, true_and, and_true, decide_eq_true_eq, id, reduceCtorEq, gEq_i, gNe_i, gEq_b, gNe_b, gEq_li, gNe_li, gEq_l0, gNe_l0, gEq_00, gNe_00, gEq_ti, gNe_ti, mEnum, Nat.zero_add, Nat.reduceAdd, Int.reduceEq, Int.cast_ofNat_Int, Nat.zero_le, sz1, sz2, sz3, sz4, sz5, sz6, decide_true, decide_false, mSortSet, mListRg, mMakeK, mPopAt, mIsO, mApp, mExt, mGet, mDNew, sPar3, sFldAugM, mZip2, mZip3, gSortT, gNe_ti, lcL, onIns_r F07.ins, fw_3]
      refine ⟨xx 0, ns, hi, room, hh 0, rfl, F07, ?_⟩
      simp only [sSeq, sSet, sSkip, sForget, sFor, sIf, sRet, sRetN, sDrop, sSetI, sAsg, sPar, sFldM, sAug, frzV, valE, mVar, mC, mOp, mUn, mCall, mFun, mMeth, mMake, mFld, mTst, mNotT, mNotV, mAndV, mOrV, mAndT, mOrT, mIte, mNil, mCons, mTup, mLst, mChain, mIter_ap, mIsi_ap, mRng1, mRng2, mLc, mYes, mCell, mRel, mSl, oNo, oSome,
  gN, gT, gsCons, gsNil, frz_d, frz_l, frz_k, gIx_p, onSet_p, onQ_p, onL_p, gLen_p, onIns_p, put_put, atD_0, atD_1, atD_2, atD_3, atD_4, ixN_0, ixN_1, ixN_2, ixN_3, ixN_4, List.length_cons, List.length_nil, onBl_b, onInt_i, onTup_t, on1_1, on2_2, onQ_l, onQ_t, onQ_s, onL_l, onLs_l, onLs_s, onD_d, onOpt_s, gII, gB, gAdd_i, gAdd_s, gAdd_t, gAdd_l, gMul_i, gMul_l, gMul_t, gSub, gMod, gDiv, gPow, gNeg, gIx_l, gIx_t, gIx_s, gLen_l, gLen_t, gLen_s, gLen_d, iterD_t, iterD_l, iterD_s,
  kind_i, kind_b, kind_s, kind_n, kind_t, kind_l, gIsN, isNon, gTuple, gList, gAll, gAny, gSum, gMin, gMax, gMin2, gMax2, gAbs, gInt, gSorted,
  List.getElem?_cons_zero, List.getElem?_cons_succ, List.getElem?_nil, List.set_cons_zero, List.set_cons_succ, List.cons_append, List.nil_append, List.append_nil, wipeE, List.any_cons, List.any_nil, isK, Bool.or_false, Bool.false_or, Bool.or_true, Bool.true_or, Bool.not_true, Bool.not_false, if_true, if_false, Bool.false_eq_true, true_and, and_true, decide_eq_true_eq, id, reduceCtorEq, gEq_i, gNe_i, gEq_b, gNe_b, gEq_li, gNe_li, gEq_l0, gNe_l0, gEq_00, gNe_00, gEq_ti, gNe_ti, mEnum, Nat.zero_add, Nat.reduceAdd, Int.reduceEq, Int.cast_ofNat_Int, Nat.zero_le, sz1, sz2, sz3, sz4, sz5, sz6, decide_true, decide_false, mSortSet, mListRg, mMakeK, mPopAt, mIsO, mApp, mExt, mGet, mDNew, sPar3, sFldAugM, mZip2, mZip3, gSortT, lcL, onIns_r F17.ins, fw_3]
      refine ⟨by decide, xx 1, ns, hi, room, hh 1, rfl, F17, ?_⟩
      have d1 : 1 < sizeLine := by decide
      have d0 : 0 < sizeLine := by decide
      simp only [sSeq, sSet, sSkip, sForget, sFor, sIf, sRet, sRetN, sDrop, sSetI, sAsg, sPar, sFldM, sAug, frzV, valE, mVar, mC, mOp, mUn, mCall, mFun, mMeth, mMake, mFld, mTst, mNotT, mNotV, mAndV, mOrV, mAndT, mOrT, mIte, mNil, mCons, mTup, mLst, mChain, mIter_ap, mIsi_ap, mRng1, mRng2, mLc, mYes, mCell, mRel, mSl, oNo, oSome,
  gN, gT, gsCons, gsNil, frz_d, frz_l, frz_k, gIx_p, onSet_p, onQ_p, onL_p, gLen_p, onIns_p, put_put, atD_0, atD_1, atD_2, atD_3, atD_4, ixN_0, ixN_1, ixN_2, ixN_3, ixN_4, List.length_cons, List.length_nil, onBl_b, onInt_i, onTup_t, on1_1, on2_2, onQ_l, onQ_t, onQ_s, onL_l, onLs_l, onLs_s, onD_d, onOpt_s, gII, gB, gAdd_i, gAdd_s, gAdd_t, gAdd_l, gMul_i, gMul_l, gMul_t, gSub, gMod, gDiv, gPow, gNeg, gIx_l, gIx_t, gIx_s, gLen_l, gLen_t, gLen_s, gLen_d, iterD_t, iterD_l, iterD_s,
  kind_i, kind_b, kind_s, kind_n, kind_t, kind_l, gIsN, isNon, gTuple, gList, gAll, gAny, gSum, gMin, gMax, gMin2, gMax2, gAbs, gInt, gSorted,
  List.getElem?_cons_zero, List.getElem?_cons_succ, List.getElem?_nil, List.set_cons_zero, List.set_cons_succ, List.cons_append, List.nil_append, List.append_nil, wipeE, List.any_cons, List.any_nil, isK, Bool.or_false, Bool.false_or, Bool.or_true, Bool.true_or, Bool.not_true, Bool.not_false, if_true, if_false, Bool.false_eq_true, true_and, and_true, decide_eq_true_eq, id, reduceCtorEq, gEq_i, gNe_i, gEq_b, gNe_b, gEq_li, gNe_li, gEq_l0, gNe_l0, gEq_00, gNe_00, gEq_ti, gNe_ti, mEnum, Nat.zero_add, Nat.reduceAdd, Int.reduceEq, Int.cast_ofNat_Int, Nat.zero_le, sz1, sz2, sz3, sz4, sz5, sz6, decide_true, decide_false, mSortSet, mListRg, mMakeK, mPopAt, mIsO, mApp, mExt, mGet, mDNew, sPar3, sFldAugM, mZip2, mZip3, gSortT, lcL, iterD_r mo7, d1, d0]
      have pl : eqOk (.lst [.tup ((hh 0).map D.int), .tup ((hh 1).map D.int)]) := ⟨2, by omega, by
        show (((hh 0).map D.int).all (plD 0) && (((hh 1).map D.int).all (plD 0) && true)) = true
        rw [pl_ints, pl_ints]
        rfl⟩
      have er : eqD (.lst [.tup ((hh 0).map D.int), .tup ((hh 1).map D.int)]) (.lst [.tup ((hh 0).map D.int), .tup ((hh 1).map D.int)]) = true := by
        obtain ⟨n, _, h⟩ := pl
        exact eqD_refl h
      rw [gEq_ok (x := .lst [.tup ((hh 0).map D.int), .tup ((hh 1).map D.int)]) (y := .lst [.tup ((hh 0).map D.int), .tup ((hh 1).map D.int)]) pl pl, res_l, er]
      exact bodyN_rt0 (k _)
end M3
set_option Elab.async false
set_option linter.all false
set_option maxRecDepth 100000
set_option maxHeartbeats 4000000
namespace M3
open PySem PySem.Spec PyProof.Rows L2
theorem hn_Fewest_init {a : Ad} : ∀ ds h Kn Kx, sp_Fewest_init a ds h Kn Kx → sp_Fewest_init a ds h (fun r h' => r = .d .non ∧ Kn r h') Kx := fun _ _ _ _ ⟨x, ns, t, s, e, ok, hx, k⟩ => ⟨x, ns, t, s, e, ok, hx, rfl, k⟩
def top (i : Nat) : Stmt := PySem.Challenge.pw_fewcells_k15_the_fewest_key_by_key.main.body.getD i (.Pass ⟨0, 0, 0, 0⟩)
abbrev s_law_row : Stmt := top 16
theorem sc_law_row : FnScope ["_law_script", "_law_mixed", "_law_cell"] ["_law_script"] (defScope s_law_row) := ⟨rfl, rfl, rfl, by decide +kernel, rfl, by decide +kernel, by decide +kernel⟩
abbrev s_law_taken : Stmt := top 17
theorem sc_law_taken : FnScope ["_law_row_here", "_law_many", "_law_found", "_law_cell"] ["_law_row_here", "_law_many"] (defScope s_law_taken) := ⟨rfl, rfl, rfl, by decide +kernel, rfl, by decide +kernel, by decide +kernel⟩
abbrev s_law_numbers : Stmt := top 18
theorem sc_law_numbers : FnScope ["_law_row_here", "_law_high_end", "_law_many", "_law_left", "_law_found", "_law_k"] ["_law_row_here", "_law_high_end", "_law_many"] (defScope s_law_numbers) := ⟨rfl, rfl, rfl, by decide +kernel, rfl, by decide +kernel, by decide +kernel⟩
abbrev s_is_number : Stmt := top 8
theorem sc_is_number : FnScope ["part", "low", "high"] ["part", "low", "high"] (defScope s_is_number) := ⟨rfl, rfl, rfl, by decide +kernel, rfl, by decide +kernel, by decide +kernel⟩
abbrev s_need_fewest : Stmt := top 12
theorem sc_need_fewest : FnScope ["numbers", "top", "size", "at", "number"] ["numbers", "top", "size"] (defScope s_need_fewest) := ⟨rfl, rfl, rfl, by decide +kernel, rfl, by decide +kernel, by decide +kernel⟩
abbrev s_Fewest_init : Stmt := inClass (top 14) 0
theorem sc_Fewest_init : FnScope ["self", "numbers", "top", "size"] ["self", "numbers", "top", "size"] (defScope s_Fewest_init) := ⟨rfl, rfl, rfl, by decide +kernel, rfl, by decide +kernel, by decide +kernel⟩
abbrev s_Fewest_add : Stmt := inClass (top 14) 1
theorem sc_Fewest_add : FnScope ["self", "key", "number", "ahead"] ["self", "key"] (defScope s_Fewest_add) := ⟨rfl, rfl, rfl, by decide +kernel, rfl, by decide +kernel, by decide +kernel⟩
abbrev s_law_alike : Stmt := top 19
theorem sc_law_alike : FnScope ["_law_found", "_law_due", "_law_same_kind", "_law_k"] ["_law_found", "_law_due"] (defScope s_law_alike) := ⟨rfl, rfl, rfl, by decide +kernel, rfl, by decide +kernel, by decide +kernel⟩
abbrev s_law_guess : Stmt := top 20
theorem sc_law_guess : FnScope ["_law_high_end", "_law_room", "_law_least"] ["_law_high_end", "_law_room", "_law_least"] (defScope s_law_guess) := ⟨rfl, rfl, rfl, by decide +kernel, rfl, by decide +kernel, by decide +kernel⟩
abbrev s_Fewest_least : Stmt := inClass (top 14) 3
theorem sc_Fewest_least : FnScope ["self"] ["self"] (defScope s_Fewest_least) := ⟨rfl, rfl, rfl, by decide +kernel, rfl, by decide +kernel, by decide +kernel⟩
abbrev s_guess : Stmt := top 13
theorem sc_guess : FnScope ["top", "size", "least"] ["top", "size", "least"] (defScope s_guess) := ⟨rfl, rfl, rfl, by decide +kernel, rfl, by decide +kernel, by decide +kernel⟩
abbrev s_Fewest_told : Stmt := inClass (top 14) 2
theorem sc_Fewest_told : FnScope ["self"] ["self"] (defScope s_Fewest_told) := ⟨rfl, rfl, rfl, by decide +kernel, rfl, by decide +kernel, by decide +kernel⟩
abbrev s_Fewest_merged : Stmt := inClass (top 14) 4
theorem sc_Fewest_merged : FnScope ["self", "other", "found"] ["self", "other"] (defScope s_Fewest_merged) := ⟨rfl, rfl, rfl, by decide +kernel, rfl, by decide +kernel, by decide +kernel⟩
abbrev s_law : Stmt := top 21
theorem sc_law : FnScope ["_law_script", "_law_row_here", "_law_high_end", "_law_room", "_law_numbers_here", "_law_pair", "_law_kept", "_law_k", "_law_side", "_law_key", "_law_ahead", "_law_due", "_law_both", "_law_one", "_law_some"] ["_law_script"] (defScope s_law) := ⟨rfl, rfl, rfl, by decide +kernel, rfl, by decide +kernel, by decide +kernel⟩
structure Fns where
  f_law_row : Addr
  fd_law_row : FuncData
  f_law_taken : Addr
  fd_law_taken : FuncData
  f_law_numbers : Addr
  fd_law_numbers : FuncData
  f_is_number : Addr
  fd_is_number : FuncData
  f_need_fewest : Addr
  fd_need_fewest : FuncData
  f_Fewest_init : Addr
  fd_Fewest_init : FuncData
  f_Fewest_add : Addr
  fd_Fewest_add : FuncData
  f_law_alike : Addr
  fd_law_alike : FuncData
  f_law_guess : Addr
  fd_law_guess : FuncData
  f_Fewest_least : Addr
  fd_Fewest_least : FuncData
  f_guess : Addr
  fd_guess : FuncData
  f_Fewest_told : Addr
  fd_Fewest_told : FuncData
  f_Fewest_merged : Addr
  fd_Fewest_merged : FuncData
  f_law : Addr
  fd_law : FuncData
structure Txt (K : Kf) (mg : Str → Option Value) (a : Ad) (n : Fns) : Prop where
  F_law_row : Fun K "_law_row" "_law_row" s_law_row n.f_law_row n.fd_law_row
  b_law_row : Binds K n.fd_law_row ["_law_script"] []
  g_law_row : mg "_law_row" = some (.ref n.f_law_row)
  F_law_taken : Fun K "_law_taken" "_law_taken" s_law_taken n.f_law_taken n.fd_law_taken
  b_law_taken : Binds K n.fd_law_taken ["_law_row_here", "_law_many"] []
  g_law_taken : mg "_law_taken" = some (.ref n.f_law_taken)
  F_law_numbers : Fun K "_law_numbers" "_law_numbers" s_law_numbers n.f_law_numbers n.fd_law_numbers
  b_law_numbers : Binds K n.fd_law_numbers ["_law_row_here", "_law_high_end", "_law_many"] []
  g_law_numbers : mg "_law_numbers" = some (.ref n.f_law_numbers)
  F_is_number : Fun K "is_number" "is_number" s_is_number n.f_is_number n.fd_is_number
  b_is_number : Binds K n.fd_is_number ["part", "low", "high"] []
  g_is_number : mg "is_number" = some (.ref n.f_is_number)
  F_need_fewest : Fun K "need_fewest" "need_fewest" s_need_fewest n.f_need_fewest n.fd_need_fewest
  b_need_fewest : Binds K n.fd_need_fewest ["numbers", "top", "size"] []
  g_need_fewest : mg "need_fewest" = some (.ref n.f_need_fewest)
  F_Fewest_init : Fun K "__init__" "Fewest.__init__" s_Fewest_init n.f_Fewest_init n.fd_Fewest_init
  kb_Fewest_init : KBn K n.fd_Fewest_init ["self", "numbers", "top", "size"] 2 ["top", "size"] (fun us ws => us ++ ws) (fun vs zs => vs ++ zs)
  F_Fewest_add : Fun K "add" "Fewest.add" s_Fewest_add n.f_Fewest_add n.fd_Fewest_add
  b_Fewest_add : Binds K n.fd_Fewest_add ["self", "key"] []
  F_law_alike : Fun K "_law_alike" "_law_alike" s_law_alike n.f_law_alike n.fd_law_alike
  b_law_alike : Binds K n.fd_law_alike ["_law_found", "_law_due"] []
  g_law_alike : mg "_law_alike" = some (.ref n.f_law_alike)
  F_law_guess : Fun K "_law_guess" "_law_guess" s_law_guess n.f_law_guess n.fd_law_guess
  b_law_guess : Binds K n.fd_law_guess ["_law_high_end", "_law_room", "_law_least"] []
  g_law_guess : mg "_law_guess" = some (.ref n.f_law_guess)
  F_Fewest_least : Fun K "least" "Fewest.least" s_Fewest_least n.f_Fewest_least n.fd_Fewest_least
  b_Fewest_least : Binds K n.fd_Fewest_least ["self"] []
  F_guess : Fun K "guess" "guess" s_guess n.f_guess n.fd_guess
  b_guess : Binds K n.fd_guess ["top", "size", "least"] []
  g_guess : mg "guess" = some (.ref n.f_guess)
  F_Fewest_told : Fun K "told" "Fewest.told" s_Fewest_told n.f_Fewest_told n.fd_Fewest_told
  b_Fewest_told : Binds K n.fd_Fewest_told ["self"] []
  F_Fewest_merged : Fun K "merged" "Fewest.merged" s_Fewest_merged n.f_Fewest_merged n.fd_Fewest_merged
  b_Fewest_merged : Binds K n.fd_Fewest_merged ["self", "other"] []
  F_law : Fun K "law" "law" s_law n.f_law n.fd_law
  b_law : Binds K n.fd_law ["_law_script"] []
  g_law : mg "law" = some (.ref n.f_law)
  z_bool : mg "bool" = none
  z_enumerate : mg "enumerate" = none
  na_Fewest_held : NoAttr K a.Fewest "held"
  na_Fewest_numbers : NoAttr K a.Fewest "numbers"
  na_Fewest_size : NoAttr K a.Fewest "size"
  na_Fewest_top : NoAttr K a.Fewest "top"
  z_int : mg "int" = none
  z_isinstance : mg "isinstance" = none
  k_MOST_KEYS : ∃ t, mg "MOST_KEYS" = some (.int 16 t)
  k_MOST_SIZE : ∃ t, mg "MOST_SIZE" = some (.int 8 t)
  k_MOST_TOP : ∃ t, mg "MOST_TOP" = some (.int 999 t)
  ki_Fewest : KitC K a.Fewest
  z_len : mg "len" = none
  z_list : mg "list" = none
  z_max : mg "max" = none
  m_Fewest_add : Meth K a.Fewest "add" n.f_Fewest_add
  m_Fewest_least : Meth K a.Fewest "least" n.f_Fewest_least
  m_Fewest_merged : Meth K a.Fewest "merged" n.f_Fewest_merged
  m_Fewest_told : Meth K a.Fewest "told" n.f_Fewest_told
  z_min : mg "min" = none
  mk_Fewest : Mk K a.Fewest n.f_Fewest_init
  z_range : mg "range" = none
  z_set : mg "set" = none
  z_sorted : mg "sorted" = none
  z_str : mg "str" = none
  z_tuple : mg "tuple" = none
  gc_Fewest : mg "Fewest" = some (.ref a.Fewest)
  cl_Fewest : Cls K a.Fewest
section
variable {P : Program} {w : World} {K : Kf} {mg : Str → Option Value} {base : Heap} {a : Ad} {n : Fns}
set_option maxHeartbeats 4000000 in
theorem d_law_row  (T : Txt K mg a n)  (cdv : Value) (A : Around) (outer : List Env) (s : Shared) (H : Hp) (E : XK) (hr : Room 0 (A.deeper (envOfC "_law_row" (defScope s_law_row) s.heap.objs.size n.f_law_row cdv))) : MB (cxOf (L2.CX P w) P w K mg base ["_law_script", "_law_mixed", "_law_cell"] "_law_row" (defScope s_law_row) n.f_law_row cdv A outer s H E) (WB E) (defBody s_law_row) (t_law_row a) := by
  have tk := takes_of (X := cxOf (L2.CX P w) P w K mg base ["_law_script", "_law_mixed", "_law_cell"] "_law_row" (defScope s_law_row) n.f_law_row cdv A outer s H E) rfl rfl rfl rfl
  exact mb_cons (ms_set (i := 1) sc_law_row.nd rfl (Or.inl rfl) (mv_int)) (
  mb_cons (ms_forget [2] (ms_for (ws := [2]) (passes_of rfl) rfl (mi_seq (mv_var (pv 0))) (mg_name (pg_name (i := 2) sc_law_row.nd rfl (Or.inl rfl))) (
   mb_forget [2] (mb_one (ms_set (i := 1) sc_law_row.nd rfl (Or.inl rfl) (mv (me_mod (mv (me_add (mv (me_add (mv (me_mul (mv_var (pv 1)) (mv_int))) (mv_var (pv 2)))) (mv_int))) (mv_int)))))))) (
  mb_one (ms_ret (me_lst (ma_cons (mv_var (pv 0)) (ma_cons (mv_int) (ma_cons (mv_int) (ma_cons (mv_var (pv 1)) (ma_nil)))))))))
set_option maxHeartbeats 4000000 in
theorem d_law_taken  (T : Txt K mg a n)  (cdv : Value) (A : Around) (outer : List Env) (s : Shared) (H : Hp) (E : XK) (hr : Room 0 (A.deeper (envOfC "_law_taken" (defScope s_law_taken) s.heap.objs.size n.f_law_taken cdv))) : MB (cxOf (L2.CX P w) P w K mg base ["_law_row_here", "_law_many", "_law_found", "_law_cell"] "_law_taken" (defScope s_law_taken) n.f_law_taken cdv A outer s H E) (WB E) (defBody s_law_taken) (t_law_taken a) := by
  have tk := takes_of (X := cxOf (L2.CX P w) P w K mg base ["_law_row_here", "_law_many", "_law_found", "_law_cell"] "_law_taken" (defScope s_law_taken) n.f_law_taken cdv A outer s H E) rfl rfl rfl rfl
  exact mb_cons (ms_forget [2] (ms_if (mt_cmp op_gt (has_int0 fun _ _ _ => .bl _) (mv (me_ix (hu_of hr) (mv_var (pv 0)) (mv_int))) (mv_int) (nomark _)) (mb_cons (ms_set (i := 2) sc_law_taken.nd rfl (Or.inl rfl) (mv (me_mod (mv (me_ix (hu_of hr) (mv_var (pv 0)) (mv_int))) (mv_var (pv 1))))) (
  mb_cons (ms_setI (hu_of hr) (mv_var (pv 0)) (mv_int) (mv (me_fdiv (mv (me_ix (hu_of hr) (mv_var (pv 0)) (mv_int))) (mv_var (pv 1))))) (
  mb_one (ms_ret (me (mv_var (pv 2))))))) (mb_nil))) (
  mb_cons (ms_forget [3] (ms_if (mt_cmp op_lt (has_int0 fun _ _ _ => .bl _) (mv (me_ix (hu_of hr) (mv_var (pv 0)) (mv_int))) (mv (me_callB call_lenA has_len (by rfl) T.z_len (by decide +kernel) (ma_cons (mv (me_ix (hu_of hr) (mv_var (pv 0)) (mv_int))) (ma_nil)))) (nomark _)) (mb_cons (ms_set (i := 3) sc_law_taken.nd rfl (Or.inl rfl) (mv (me_ix (hu_of hr) (mv (me_ix (hu_of hr) (mv_var (pv 0)) (mv_int))) (mv (me_ix (hu_of hr) (mv_var (pv 0)) (mv_int)))))) (
  mb_cons (ms_setI (hu_of hr) (mv_var (pv 0)) (mv_int) (mv (me_add (mv (me_ix (hu_of hr) (mv_var (pv 0)) (mv_int))) (mv_int)))) (
  mb_cons (ms_if (mt_cmp op_ge (has_int0 fun _ _ _ => .bl _) (mv_var (pv 3)) (mv (me_pow (mv_int) (mv_int))) (nomark _)) (mb_one (ms_setI (hu_of hr) (mv_var (pv 0)) (mv_int) (mv (me_fdiv (mv_var (pv 3)) (mv_var (pv 1)))))) (mb_nil)) (
  mb_one (ms_ret (me_mod (mv_var (pv 3)) (mv_var (pv 1)))))))) (mb_nil))) (
  mb_cons (ms_setI (hu_of hr) (mv_var (pv 0)) (mv_int) (mv (me_mod (mv (me_add (mv (me_mul (mv (me_ix (hu_of hr) (mv_var (pv 0)) (mv_int))) (mv_int))) (mv_int))) (mv_int)))) (
  mb_one (ms_ret (me_mod (mv (me_fdiv (mv (me_ix (hu_of hr) (mv_var (pv 0)) (mv_int))) (mv_int))) (mv_var (pv 1)))))))
set_option maxHeartbeats 4000000 in
theorem d_law_numbers  (T : Txt K mg a n) (G_law_taken : FM P w K mg base 1 n.f_law_taken n.fd_law_taken ["_law_row_here", "_law_many"] (sp_law_taken a)) (cdv : Value) (A : Around) (outer : List Env) (s : Shared) (H : Hp) (E : XK) (hr : Room 1 (A.deeper (envOfC "_law_numbers" (defScope s_law_numbers) s.heap.objs.size n.f_law_numbers cdv))) : MB (cxOf (L2.CX P w) P w K mg base ["_law_row_here", "_law_high_end", "_law_many", "_law_left", "_law_found", "_law_k"] "_law_numbers" (defScope s_law_numbers) n.f_law_numbers cdv A outer s H E) (WB E) (defBody s_law_numbers) (t_law_numbers a) := by
  have tk := takes_of (X := cxOf (L2.CX P w) P w K mg base ["_law_row_here", "_law_high_end", "_law_many", "_law_left", "_law_found", "_law_k"] "_law_numbers" (defScope s_law_numbers) n.f_law_numbers cdv A outer s H E) rfl rfl rfl rfl
  exact mb_cons (ms_par (i := 3) (j := 4) rfl sc_law_numbers.nd rfl rfl (by decide) rfl rfl (ma_cons (mv (me_cell (me_listRg rfl (by rfl) T.z_list (by rfl) T.z_range (mv_var (pv 1))))) (ma_cons (mv_tup (ma_nil)) (ma_nil))) (by rfl)) (
  mb_cons (ms_forget [5] (ms_for (ws := [5]) (passes_of rfl) rfl (mi_range1 (by rfl) T.z_range (ma_cons (mv (me_callB (call_min2 rfl) has_min2 (by rfl) T.z_min (by decide +kernel) (ma_cons (mv_var (pv 1)) (ma_cons (mv_var (pv 2)) (ma_nil))))) (ma_nil))) (mg_name (pg_name (i := 5) sc_law_numbers.nd rfl (Or.inl rfl))) (
   mb_forget [5] (mb_one (ms_set (i := 4) sc_law_numbers.nd rfl (Or.inl rfl) (mv (me_add (mv_var (pv 4)) (mv_tup (ma_cons (mv (me_popAt (mv_var (pv 3)) (mv (me_call G_law_taken (hr.mono (by first | decide | omega)) (by rfl) T.g_law_taken T.F_law_taken.kp T.b_law_taken .nil (fun _ _ => .nil) tk (ma_cons (mv_var (pv 0)) (ma_cons (mv (me_callB call_lenA has_len (by rfl) T.z_len (by decide +kernel) (ma_cons (mv_var (pv 3)) (ma_nil)))) (ma_nil))))))) (ma_nil)))))))))) (
  mb_one (ms_ret (me (mv_var (pv 4))))))
set_option maxHeartbeats 4000000 in
theorem d_is_number  (T : Txt K mg a n)  (cdv : Value) (A : Around) (outer : List Env) (s : Shared) (H : Hp) (E : XK) (hr : Room 0 (A.deeper (envOfC "is_number" (defScope s_is_number) s.heap.objs.size n.f_is_number cdv))) : MB (cxOf (L2.CX P w) P w K mg base ["part", "low", "high"] "is_number" (defScope s_is_number) n.f_is_number cdv A outer s H E) (WB E) (defBody s_is_number) (t_is_number a) := by
  have tk := takes_of (X := cxOf (L2.CX P w) P w K mg base ["part", "low", "high"] "is_number" (defScope s_is_number) n.f_is_number cdv A outer s H E) rfl rfl rfl rfl
  exact mb_one (ms_ret (me (mv_and (mv_isi .int (by rfl) T.z_isinstance (by rfl) T.z_int (by decide +kernel) (mv_var (pv 0))) (mv_and (mv_notV (mv_isi .bool (by rfl) T.z_isinstance (by rfl) T.z_bool (by decide +kernel) (mv_var (pv 0)))) (mv_one (mv (me_chain op_le op_le (has_int0 fun _ _ _ => .bl _) (has_int0 fun _ _ _ => .bl _) (mv_var (pv 1)) (mv_var (pv 0)) (mv_var (pv 2)))))))))
set_option maxHeartbeats 4000000 in
theorem d_need_fewest  (T : Txt K mg a n) (G_is_number : FM P w K mg base 1 n.f_is_number n.fd_is_number ["part", "low", "high"] (sp_is_number a)) (cdv : Value) (A : Around) (outer : List Env) (s : Shared) (H : Hp) (E : XK) (hr : Room 1 (A.deeper (envOfC "need_fewest" (defScope s_need_fewest) s.heap.objs.size n.f_need_fewest cdv))) : MB (cxOf (L2.CX P w) P w K mg base ["numbers", "top", "size", "at", "number"] "need_fewest" (defScope s_need_fewest) n.f_need_fewest cdv A outer s H E) (WB E) (defBody s_need_fewest) (t_need_fewest a) := by
  have tk := takes_of (X := cxOf (L2.CX P w) P w K mg base ["numbers", "top", "size", "at", "number"] "need_fewest" (defScope s_need_fewest) n.f_need_fewest cdv A outer s H E) rfl rfl rfl rfl
  exact mb_cons (ms_if (mt_not (mt_of (mv (me_call G_is_number (hr.mono (by first | decide | omega)) (by rfl) T.g_is_number T.F_is_number.kp T.b_is_number .nil (fun _ _ => .nil) tk (ma_cons (mv_var (pv 1)) (ma_cons (mv_int) (ma_cons (mv_gint (by rfl) T.k_MOST_TOP) (ma_nil)))))))) (mb_one (ms_never)) (mb_nil)) (
  mb_cons (ms_if (mt_not (mt_of (mv (me_call G_is_number (hr.mono (by first | decide | omega)) (by rfl) T.g_is_number T.F_is_number.kp T.b_is_number .nil (fun _ _ => .nil) tk (ma_cons (mv_var (pv 2)) (ma_cons (mv_int) (ma_cons (mv_gint (by rfl) T.k_MOST_SIZE) (ma_nil)))))))) (mb_one (ms_never)) (mb_nil)) (
  mb_cons (ms_if (MW.mt (mw_or (mt_not (mt_of (mv_isi .tuple (by rfl) T.z_isinstance (by rfl) T.z_tuple (by decide +kernel) (mv_var (pv 0))))) (mw_or1 (mt_not (mt_chain op_le op_le (has_int0 fun _ _ _ => .bl _) (has_int0 fun _ _ _ => .bl _) (mv_int) (mv (me_callB call_lenA has_len (by rfl) T.z_len (by decide +kernel) (ma_cons (mv_var (pv 0)) (ma_nil)))) (mv_gint (by rfl) T.k_MOST_KEYS)))))) (mb_one (ms_never)) (mb_nil)) (
  mb_one (ms_forget [3, 4] (ms_for (ws := [3, 4]) (passes_of rfl) rfl (mi_enum (by rfl) T.z_enumerate (ma_cons (mv_var (pv 0)) (ma_nil))) (mg_tup rfl (mgs_cons (mg_name (pg_name (i := 3) sc_need_fewest.nd rfl (Or.inl rfl))) (mgs_cons (mg_name (pg_name (i := 4) sc_need_fewest.nd rfl (Or.inl rfl))) (mgs_nil)))) (
   mb_forget [3, 4] (mb_one (ms_if (MW.mt (mw_or (mt_not (mt_of (mv (me_call G_is_number (hr.mono (by first | decide | omega)) (by rfl) T.g_is_number T.F_is_number.kp T.b_is_number .nil (fun _ _ => .nil) tk (ma_cons (mv_var (pv 4)) (ma_cons (mv_int) (ma_cons (mv (me_sub (mv_var (pv 1)) (mv_int))) (ma_nil)))))))) (mw_or1 (mt_cmp (op_inA (hu_of hr)) has_in (mv_var (pv 4)) (mv (me_slice (mv_var (pv 0)) (mo_none) (mo_some (mv_var (pv 3))))) (by rfl))))) (mb_one (ms_never)) (mb_nil)))))))))
set_option maxHeartbeats 4000000 in
theorem d_Fewest_init  (T : Txt K mg a n) (G_need_fewest : FM P w K mg base 2 n.f_need_fewest n.fd_need_fewest ["numbers", "top", "size"] (sp_need_fewest a)) (cdv : Value) (A : Around) (outer : List Env) (s : Shared) (H : Hp) (E : XK) (hr : Room 2 (A.deeper (envOfC "Fewest.__init__" (defScope s_Fewest_init) s.heap.objs.size n.f_Fewest_init cdv))) : MB (cxOf (L2.CX P w) P w K mg base ["self", "numbers", "top", "size"] "Fewest.__init__" (defScope s_Fewest_init) n.f_Fewest_init cdv A outer s H E) (WB E) (defBody s_Fewest_init) (t_Fewest_init a) := by
  have tk := takes_of (X := cxOf (L2.CX P w) P w K mg base ["self", "numbers", "top", "size"] "Fewest.__init__" (defScope s_Fewest_init) n.f_Fewest_init cdv A outer s H E) rfl rfl rfl rfl
  exact mb_cons (ms_expr (me_call G_need_fewest (hr.mono (by first | decide | omega)) (by rfl) T.g_need_fewest T.F_need_fewest.kp T.b_need_fewest .nil (fun _ _ => .nil) tk (ma_cons (mv_var (pv 1)) (ma_cons (mv_var (pv 2)) (ma_cons (mv_var (pv 3)) (ma_nil)))))) (
  mb_cons (ms_fld (mv_var (pv 0)) (mv_var (pv 1)) T.cl_Fewest T.na_Fewest_numbers) (
  mb_cons (ms_fld (mv_var (pv 0)) (mv_var (pv 2)) T.cl_Fewest T.na_Fewest_top) (
  mb_cons (ms_fld (mv_var (pv 0)) (mv_var (pv 3)) T.cl_Fewest T.na_Fewest_size) (
  mb_one (ms_fld (mv_var (pv 0)) (mv (me_lst (ma_nil))) T.cl_Fewest T.na_Fewest_held)))))
set_option maxHeartbeats 4000000 in
theorem d_Fewest_add  (T : Txt K mg a n) (G_is_number : FM P w K mg base 1 n.f_is_number n.fd_is_number ["part", "low", "high"] (sp_is_number a)) (cdv : Value) (A : Around) (outer : List Env) (s : Shared) (H : Hp) (E : XK) (hr : Room 1 (A.deeper (envOfC "Fewest.add" (defScope s_Fewest_add) s.heap.objs.size n.f_Fewest_add cdv))) : MB (cxOf (L2.CX P w) P w K mg base ["self", "key", "number", "ahead"] "Fewest.add" (defScope s_Fewest_add) n.f_Fewest_add cdv A outer s H E) (WB E) (defBody s_Fewest_add) (t_Fewest_add a) := by
  have tk := takes_of (X := cxOf (L2.CX P w) P w K mg base ["self", "key", "number", "ahead"] "Fewest.add" (defScope s_Fewest_add) n.f_Fewest_add cdv A outer s H E) rfl rfl rfl rfl
  exact mb_cons (ms_if (mt_not (mt_of (mv (me_call G_is_number (hr.mono (by first | decide | omega)) (by rfl) T.g_is_number T.F_is_number.kp T.b_is_number .nil (fun _ _ => .nil) tk (ma_cons (mv_var (pv 1)) (ma_cons (mv_int) (ma_cons (mv (me_sub (mv (me_callB call_lenA has_len (by rfl) T.z_len (by decide +kernel) (ma_cons (mv_fld (mv_var (pv 0)) T.cl_Fewest T.na_Fewest_numbers) (ma_nil)))) (mv_int))) (ma_nil)))))))) (mb_one (ms_never)) (mb_nil)) (
  mb_cons (ms_set (i := 2) sc_Fewest_add.nd rfl (Or.inl rfl) (mv (me_ix (hu_of hr) (mv_fld (mv_var (pv 0)) T.cl_Fewest T.na_Fewest_numbers) (mv_var (pv 1))))) (
  mb_cons (ms_set (i := 3) sc_Fewest_add.nd rfl (Or.inl rfl) (mv (me_callT call_list_of has_list (by rfl) T.z_list (by decide +kernel) (ma_cons (mv_fld (mv_var (pv 0)) T.cl_Fewest T.na_Fewest_held) (ma_nil))))) (
  mb_cons (ms_if (mt_cmp (op_notInA (hu_of hr)) has_in (mv_var (pv 2)) (mv_fld (mv_var (pv 0)) T.cl_Fewest T.na_Fewest_held) (by rfl)) (mb_one (ms_fld (mv_var (pv 0)) (mv (me_slice (mv (me_callB cr_sortedI has_sorted (by rfl) T.z_sorted (by decide +kernel) (ma_cons (mv (me_add (mv_fld (mv_var (pv 0)) T.cl_Fewest T.na_Fewest_held) (mv (me_lst (ma_cons (mv_var (pv 2)) (ma_nil)))))) (ma_nil)))) (mo_none) (mo_some (mv_fld (mv_var (pv 0)) T.cl_Fewest T.na_Fewest_size)))) T.cl_Fewest T.na_Fewest_held)) (mb_nil)) (
  mb_one (ms_ret (me_cmp (op_neD hr.units) has_ne (mv_fld (mv_var (pv 0)) T.cl_Fewest T.na_Fewest_held) (mv_var (pv 3)) (nomark _)))))))
set_option maxHeartbeats 4000000 in
theorem d_law_alike (k : Nat) (T : Txt K mg a n) (G_law_alike : FM P w K mg base k n.f_law_alike n.fd_law_alike ["_law_found", "_law_due"] (sp_law_alike a k)) (cdv : Value) (A : Around) (outer : List Env) (s : Shared) (H : Hp) (E : XK) (hr : Room k (A.deeper (envOfC "_law_alike" (defScope s_law_alike) s.heap.objs.size n.f_law_alike cdv))) : MB (cxOf (L2.CX P w) P w K mg base ["_law_found", "_law_due", "_law_same_kind", "_law_k"] "_law_alike" (defScope s_law_alike) n.f_law_alike cdv A outer s H E) (WB E) (defBody s_law_alike) (t_law_alike a k) := by
  have tk := takes_of (X := cxOf (L2.CX P w) P w K mg base ["_law_found", "_law_due", "_law_same_kind", "_law_k"] "_law_alike" (defScope s_law_alike) n.f_law_alike cdv A outer s H E) rfl rfl rfl rfl
  exact mb_cons (ms_if (mt_of (mv_isi2 .tuple .list (by rfl) T.z_isinstance (by rfl) T.z_tuple (by decide +kernel) (by rfl) T.z_list (by decide +kernel) (mv_var (pv 1)))) (mb_cons (ms_if (MW.mt (mw_or (mt_cmp (op_neD hr.units) has_ne (mv_isi .tuple (by rfl) T.z_isinstance (by rfl) T.z_tuple (by decide +kernel) (mv_var (pv 0))) (mv_isi .tuple (by rfl) T.z_isinstance (by rfl) T.z_tuple (by decide +kernel) (mv_var (pv 1))) (nomark _)) (mw_or1 (mt_not (mt_of (mv_isi2 .tuple .list (by rfl) T.z_isinstance (by rfl) T.z_tuple (by decide +kernel) (by rfl) T.z_list (by decide +kernel) (mv_var (pv 0)))))))) (mb_one (ms_ret (me (mv_bl)))) (mb_nil)) (
  mb_cons (ms_if (mt_cmp (op_neD hr.units) has_ne (mv (me_callB call_lenA has_len (by rfl) T.z_len (by decide +kernel) (ma_cons (mv_var (pv 0)) (ma_nil)))) (mv (me_callB call_lenA has_len (by rfl) T.z_len (by decide +kernel) (ma_cons (mv_var (pv 1)) (ma_nil)))) (nomark _)) (mb_one (ms_ret (me (mv_bl)))) (mb_nil)) (
  mb_one (ms_ret (me_cmp (op_eqD hr.units) has_eq (mv (me_lc (own := [("_law_k", 3)]) rfl sc_law_alike.nd (mi_range1 (by rfl) T.z_range (ma_cons (mv (me_callB call_lenA has_len (by rfl) T.z_len (by decide +kernel) (ma_cons (mv_var (pv 1)) (ma_nil)))) (ma_nil))) (blkOk_by (N := ["_law_found", "_law_due", "_law_same_kind", "_law_k"]) (sc := defScope s_law_alike) (own := [("_law_k", 3)]) (by decide +kernel)) (fun _ _ _ _ _ => mg_name (pg_name (i := 3) sc_law_alike.nd rfl (Or.inl rfl))) (fun _ _ _ _ _ => mts_one (mt_not (mt_of (mv (me_call G_law_alike (hr.mono (by first | decide | omega)) (by rfl) T.g_law_alike T.F_law_alike.kp T.b_law_alike .nil (fun _ _ => .nil) takes0 (ma_cons (mv (me_ix (hu_of hr) (mv_var (pv 0)) (mv_var (pv 3)))) (ma_cons (mv (me_ix (hu_of hr) (mv_var (pv 1)) (mv_var (pv 3)))) (ma_nil)))))))) (fun _ _ _ _ _ => mv_var (pv 3)))) (mv (me_lst (ma_nil))) (nomark _)))))) (mb_nil)) (
  mb_cons (ms_if (MW.mt (mw_or (mt_cmp op_isN (has_isN (p := id)) (mv_var (pv 1)) (mv_non) (nomark _)) (mw_or1 (mt_cmp op_isN (has_isN (p := id)) (mv_var (pv 0)) (mv_non) (nomark _))))) (mb_one (ms_ret (me (mv_and (mv (me_cmp op_isN (has_isN (p := id)) (mv_var (pv 1)) (mv_non) (nomark _))) (mv_one (mv (me_cmp op_isN (has_isN (p := id)) (mv_var (pv 0)) (mv_non) (nomark _)))))))) (mb_nil)) (
  mb_cons (ms_set (i := 2) sc_law_alike.nd rfl (Or.inl rfl) (mv (me_cmp (op_eqD hr.units) has_eq (mv_isi .str (by rfl) T.z_isinstance (by rfl) T.z_str (by decide +kernel) (mv_var (pv 1))) (mv_isi .str (by rfl) T.z_isinstance (by rfl) T.z_str (by decide +kernel) (mv_var (pv 0))) (nomark _)))) (
  mb_one (ms_ret (me (mv_and (mv_var (pv 2)) (mv_and (mv (me_cmp (op_eqD hr.units) has_eq (mv_isi .bool (by rfl) T.z_isinstance (by rfl) T.z_bool (by decide +kernel) (mv_var (pv 1))) (mv_isi .bool (by rfl) T.z_isinstance (by rfl) T.z_bool (by decide +kernel) (mv_var (pv 0))) (nomark _))) (mv_one (mv (me_cmp (op_eqD hr.units) has_eq (mv_var (pv 0)) (mv_var (pv 1)) (nomark _)))))))))))
set_option maxHeartbeats 4000000 in
theorem d_law_guess  (T : Txt K mg a n)  (cdv : Value) (A : Around) (outer : List Env) (s : Shared) (H : Hp) (E : XK) (hr : Room 0 (A.deeper (envOfC "_law_guess" (defScope s_law_guess) s.heap.objs.size n.f_law_guess cdv))) : MB (cxOf (L2.CX P w) P w K mg base ["_law_high_end", "_law_room", "_law_least"] "_law_guess" (defScope s_law_guess) n.f_law_guess cdv A outer s H E) (WB E) (defBody s_law_guess) (t_law_guess a) := by
  have tk := takes_of (X := cxOf (L2.CX P w) P w K mg base ["_law_high_end", "_law_room", "_law_least"] "_law_guess" (defScope s_law_guess) n.f_law_guess cdv A outer s H E) rfl rfl rfl rfl
  exact mb_cons (ms_if (mt_cmp op_lt (has_int0 fun _ _ _ => .bl _) (mv (me_callB call_lenA has_len (by rfl) T.z_len (by decide +kernel) (ma_cons (mv_var (pv 2)) (ma_nil)))) (mv_var (pv 1)) (nomark _)) (mb_one (ms_ret (me_callB call_lenA has_len (by rfl) T.z_len (by decide +kernel) (ma_cons (mv_var (pv 2)) (ma_nil))))) (mb_nil)) (
  mb_one (ms_ret (me_fdiv (mv (me_mul (mv (me_callB (call_max2 rfl) has_max2 (by rfl) T.z_max (by decide +kernel) (ma_cons (mv_int) (ma_cons (mv (me_sub (mv_var (pv 1)) (mv_int))) (ma_nil))))) (mv_var (pv 0)))) (mv (me_add (mv (me_ix (hu_of hr) (mv_var (pv 2)) (mv (me_sub (mv_var (pv 1)) (mv_int))))) (mv_int))))))
set_option maxHeartbeats 4000000 in
theorem d_Fewest_least  (T : Txt K mg a n)  (cdv : Value) (A : Around) (outer : List Env) (s : Shared) (H : Hp) (E : XK) (hr : Room 0 (A.deeper (envOfC "Fewest.least" (defScope s_Fewest_least) s.heap.objs.size n.f_Fewest_least cdv))) : MB (cxOf (L2.CX P w) P w K mg base ["self"] "Fewest.least" (defScope s_Fewest_least) n.f_Fewest_least cdv A outer s H E) (WB E) (defBody s_Fewest_least) (t_Fewest_least a) := by
  have tk := takes_of (X := cxOf (L2.CX P w) P w K mg base ["self"] "Fewest.least" (defScope s_Fewest_least) n.f_Fewest_least cdv A outer s H E) rfl rfl rfl rfl
  exact mb_one (ms_ret (me_callT call_tuple_of has_tuple (by rfl) T.z_tuple (by decide +kernel) (ma_cons (mv_fld (mv_var (pv 0)) T.cl_Fewest T.na_Fewest_held) (ma_nil))))
set_option maxHeartbeats 4000000 in
theorem d_guess  (T : Txt K mg a n)  (cdv : Value) (A : Around) (outer : List Env) (s : Shared) (H : Hp) (E : XK) (hr : Room 0 (A.deeper (envOfC "guess" (defScope s_guess) s.heap.objs.size n.f_guess cdv))) : MB (cxOf (L2.CX P w) P w K mg base ["top", "size", "least"] "guess" (defScope s_guess) n.f_guess cdv A outer s H E) (WB E) (defBody s_guess) (t_guess a) := by
  have tk := takes_of (X := cxOf (L2.CX P w) P w K mg base ["top", "size", "least"] "guess" (defScope s_guess) n.f_guess cdv A outer s H E) rfl rfl rfl rfl
  exact mb_cons (ms_if (mt_cmp op_lt (has_int0 fun _ _ _ => .bl _) (mv (me_callB call_lenA has_len (by rfl) T.z_len (by decide +kernel) (ma_cons (mv_var (pv 2)) (ma_nil)))) (mv_var (pv 1)) (nomark _)) (mb_one (ms_ret (me_callB call_lenA has_len (by rfl) T.z_len (by decide +kernel) (ma_cons (mv_var (pv 2)) (ma_nil))))) (mb_nil)) (
  mb_one (ms_ret (me_ite (mt_cmp op_gt (has_int0 fun _ _ _ => .bl _) (mv_var (pv 1)) (mv_int) (nomark _)) (me_fdiv (mv (me_mul (mv (me_sub (mv_var (pv 1)) (mv_int))) (mv_var (pv 0)))) (mv (me_add (mv (me_ix (hu_of hr) (mv_var (pv 2)) (mv (me_neg (mv_int))))) (mv_int)))) (me_fdiv (mv_var (pv 0)) (mv (me_add (mv (me_ix (hu_of hr) (mv_var (pv 2)) (mv (me_neg (mv_int))))) (mv_int)))))))
set_option maxHeartbeats 4000000 in
theorem d_Fewest_told  (T : Txt K mg a n) (G_guess : FM P w K mg base 1 n.f_guess n.fd_guess ["top", "size", "least"] (sp_guess a)) (cdv : Value) (A : Around) (outer : List Env) (s : Shared) (H : Hp) (E : XK) (hr : Room 1 (A.deeper (envOfC "Fewest.told" (defScope s_Fewest_told) s.heap.objs.size n.f_Fewest_told cdv))) : MB (cxOf (L2.CX P w) P w K mg base ["self"] "Fewest.told" (defScope s_Fewest_told) n.f_Fewest_told cdv A outer s H E) (WB E) (defBody s_Fewest_told) (t_Fewest_told a) := by
  have tk := takes_of (X := cxOf (L2.CX P w) P w K mg base ["self"] "Fewest.told" (defScope s_Fewest_told) n.f_Fewest_told cdv A outer s H E) rfl rfl rfl rfl
  exact mb_one (ms_ret (me_call G_guess (hr.mono (by first | decide | omega)) (by rfl) T.g_guess T.F_guess.kp T.b_guess .nil (fun _ _ => .nil) tk (ma_cons (mv_fld (mv_var (pv 0)) T.cl_Fewest T.na_Fewest_top) (ma_cons (mv_fld (mv_var (pv 0)) T.cl_Fewest T.na_Fewest_size) (ma_cons (mv_fld (mv_var (pv 0)) T.cl_Fewest T.na_Fewest_held) (ma_nil))))))
set_option maxHeartbeats 4000000 in
theorem d_Fewest_merged  (T : Txt K mg a n) (G_Fewest_init : FM P w K mg base 3 n.f_Fewest_init n.fd_Fewest_init ["self", "numbers", "top", "size"] (sp_Fewest_init a)) (cdv : Value) (A : Around) (outer : List Env) (s : Shared) (H : Hp) (E : XK) (hr : Room 4 (A.deeper (envOfC "Fewest.merged" (defScope s_Fewest_merged) s.heap.objs.size n.f_Fewest_merged cdv))) : MB (cxOf (L2.CX P w) P w K mg base ["self", "other", "found"] "Fewest.merged" (defScope s_Fewest_merged) n.f_Fewest_merged cdv A outer s H E) (WB E) (defBody s_Fewest_merged) (t_Fewest_merged a) := by
  have tk := takes_of (X := cxOf (L2.CX P w) P w K mg base ["self", "other", "found"] "Fewest.merged" (defScope s_Fewest_merged) n.f_Fewest_merged cdv A outer s H E) rfl rfl rfl rfl
  exact mb_cons (ms_if (mt_not (mt_of (mv_isO (by rfl) T.z_isinstance (by rfl) T.gc_Fewest T.ki_Fewest (mv_var (pv 1))))) (mb_one (ms_never)) (mb_nil)) (
  mb_cons (ms_if (mt_cmp (op_neD hr.units) has_ne (mv_tup (ma_cons (mv_fld (mv_var (pv 1)) T.cl_Fewest T.na_Fewest_numbers) (ma_cons (mv_fld (mv_var (pv 1)) T.cl_Fewest T.na_Fewest_top) (ma_cons (mv_fld (mv_var (pv 1)) T.cl_Fewest T.na_Fewest_size) (ma_nil))))) (mv_tup (ma_cons (mv_fld (mv_var (pv 0)) T.cl_Fewest T.na_Fewest_numbers) (ma_cons (mv_fld (mv_var (pv 0)) T.cl_Fewest T.na_Fewest_top) (ma_cons (mv_fld (mv_var (pv 0)) T.cl_Fewest T.na_Fewest_size) (ma_nil))))) (nomark _)) (mb_one (ms_never)) (mb_nil)) (
  mb_cons (ms_set (i := 2) sc_Fewest_merged.nd rfl (Or.inl rfl) (mv (me_makeK T.mk_Fewest G_Fewest_init hn_Fewest_init (hr.mono (by first | decide | omega)) (by rfl) T.gc_Fewest T.kb_Fewest_init tk (ma_cons (mv_fld (mv_var (pv 0)) T.cl_Fewest T.na_Fewest_numbers) (ma_nil)) (mk_cons (mv_fld (mv_var (pv 0)) T.cl_Fewest T.na_Fewest_top) (mk_cons (mv_fld (mv_var (pv 0)) T.cl_Fewest T.na_Fewest_size) (mk_nil)))))) (
  mb_cons (ms_fld (mv_var (pv 2)) (mv (me_slice (mv (me_sortSet rfl (by rfl) T.z_sorted (by rfl) T.z_set (mv (me_add (mv_fld (mv_var (pv 0)) T.cl_Fewest T.na_Fewest_held) (mv_fld (mv_var (pv 1)) T.cl_Fewest T.na_Fewest_held))))) (mo_none) (mo_some (mv_fld (mv_var (pv 0)) T.cl_Fewest T.na_Fewest_size)))) T.cl_Fewest T.na_Fewest_held) (
  mb_one (ms_ret (me (mv_var (pv 2))))))))
set_option maxHeartbeats 4000000 in
theorem d_law  (T : Txt K mg a n) (G_law_row : FM P w K mg base 1 n.f_law_row n.fd_law_row ["_law_script"] (sp_law_row a)) (G_law_taken : FM P w K mg base 1 n.f_law_taken n.fd_law_taken ["_law_row_here", "_law_many"] (sp_law_taken a)) (G_law_numbers : FM P w K mg base 2 n.f_law_numbers n.fd_law_numbers ["_law_row_here", "_law_high_end", "_law_many"] (sp_law_numbers a)) (G_Fewest_init : FM P w K mg base 3 n.f_Fewest_init n.fd_Fewest_init ["self", "numbers", "top", "size"] (sp_Fewest_init a)) (G_Fewest_add : FM P w K mg base 2 n.f_Fewest_add n.fd_Fewest_add ["self", "key"] (sp_Fewest_add a)) (G_law_alike : FM P w K mg base 6 n.f_law_alike n.fd_law_alike ["_law_found", "_law_due"] (sp_law_alike a 6)) (G_law_guess : FM P w K mg base 1 n.f_law_guess n.fd_law_guess ["_law_high_end", "_law_room", "_law_least"] (sp_law_guess a)) (G_Fewest_least : FM P w K mg base 1 n.f_Fewest_least n.fd_Fewest_least ["self"] (sp_Fewest_least a)) (G_Fewest_told : FM P w K mg base 2 n.f_Fewest_told n.fd_Fewest_told ["self"] (sp_Fewest_told a)) (G_Fewest_merged : FM P w K mg base 5 n.f_Fewest_merged n.fd_Fewest_merged ["self", "other"] (sp_Fewest_merged a)) (cdv : Value) (A : Around) (outer : List Env) (s : Shared) (H : Hp) (E : XK) (hr : Room 6 (A.deeper (envOfC "law" (defScope s_law) s.heap.objs.size n.f_law cdv))) : MB (cxOf (L2.CX P w) P w K mg base ["_law_script", "_law_row_here", "_law_high_end", "_law_room", "_law_numbers_here", "_law_pair", "_law_kept", "_law_k", "_law_side", "_law_key", "_law_ahead", "_law_due", "_law_both", "_law_one", "_law_some"] "law" (defScope s_law) n.f_law cdv A outer s H E) (WB E) (defBody s_law) (t_law a) := by
  have tk := takes_of (X := cxOf (L2.CX P w) P w K mg base ["_law_script", "_law_row_here", "_law_high_end", "_law_room", "_law_numbers_here", "_law_pair", "_law_kept", "_law_k", "_law_side", "_law_key", "_law_ahead", "_law_due", "_law_both", "_law_one", "_law_some"] "law" (defScope s_law) n.f_law cdv A outer s H E) rfl rfl rfl rfl
  exact mb_cons (ms_set (i := 1) sc_law.nd rfl (Or.inl rfl) (mv (me_cell (me_call G_law_row (hr.mono (by first | decide | omega)) (by rfl) T.g_law_row T.F_law_row.kp T.b_law_row .nil (fun _ _ => .nil) tk (ma_cons (mv_var (pv 0)) (ma_nil)))))) (
  mb_cons (ms_par (i := 2) (j := 3) rfl sc_law.nd rfl rfl (by decide) rfl rfl (ma_cons (mv (me_ix (hu_of hr) (mv (me_lst (ma_cons (mv_int) (ma_cons (mv_int) (ma_cons (mv_int) (ma_cons (mv_int) (ma_cons (mv_int) (ma_nil)))))))) (mv (me_call G_law_taken (hr.mono (by first | decide | omega)) (by rfl) T.g_law_taken T.F_law_taken.kp T.b_law_taken .nil (fun _ _ => .nil) tk (ma_cons (mv_var (pv 1)) (ma_cons (mv_int) (ma_nil))))))) (ma_cons (mv (me_add (mv_int) (mv (me_call G_law_taken (hr.mono (by first | decide | omega)) (by rfl) T.g_law_taken T.F_law_taken.kp T.b_law_taken .nil (fun _ _ => .nil) tk (ma_cons (mv_var (pv 1)) (ma_cons (mv_int) (ma_nil))))))) (ma_nil))) (by rfl)) (
  mb_cons (ms_set (i := 4) sc_law.nd rfl (Or.inl rfl) (mv (me_call G_law_numbers (hr.mono (by first | decide | omega)) (by rfl) T.g_law_numbers T.F_law_numbers.kp T.b_law_numbers .nil (fun _ _ => .nil) tk (ma_cons (mv_var (pv 1)) (ma_cons (mv_var (pv 2)) (ma_cons (mv (me_add (mv_int) (mv (me_call G_law_taken (hr.mono (by first | decide | omega)) (by rfl) T.g_law_taken T.F_law_taken.kp T.b_law_taken .nil (fun _ _ => .nil) tk (ma_cons (mv_var (pv 1)) (ma_cons (mv_int) (ma_nil))))))) (ma_nil))))))) (
  mb_cons (ms_par (i := 5) (j := 6) rfl sc_law.nd rfl rfl (by decide) rfl rfl (ma_cons (mv (me_lst (ma_cons (mv (me_makeK T.mk_Fewest G_Fewest_init hn_Fewest_init (hr.mono (by first | decide | omega)) (by rfl) T.gc_Fewest T.kb_Fewest_init tk (ma_cons (mv_var (pv 4)) (ma_nil)) (mk_cons (mv_var (pv 2)) (mk_cons (mv_var (pv 3)) (mk_nil))))) (ma_cons (mv (me_makeK T.mk_Fewest G_Fewest_init hn_Fewest_init (hr.mono (by first | decide | omega)) (by rfl) T.gc_Fewest T.kb_Fewest_init tk (ma_cons (mv_var (pv 4)) (ma_nil)) (mk_cons (mv_var (pv 2)) (mk_cons (mv_var (pv 3)) (mk_nil))))) (ma_nil))))) (ma_cons (mv (me_cell (me_lst (ma_cons (mv (me_lst (ma_nil))) (ma_cons (mv (me_lst (ma_nil))) (ma_nil)))))) (ma_nil))) (by rfl)) (
  mb_cons (ms_forget [7, 8, 9, 10, 11] (ms_for (ws := [7]) (passes_of rfl) rfl (mi_range1 (by rfl) T.z_range (ma_cons (mv (me_call G_law_taken (hr.mono (by first | decide | omega)) (by rfl) T.g_law_taken T.F_law_taken.kp T.b_law_taken .nil (fun _ _ => .nil) tk (ma_cons (mv_var (pv 1)) (ma_cons (mv_int) (ma_nil))))) (ma_nil))) (mg_name (pg_name (i := 7) sc_law.nd rfl (Or.inl rfl))) (
   mb_forget [7, 8, 9, 10, 11] (mb_cons (ms_par (i := 8) (j := 9) rfl sc_law.nd rfl rfl (by decide) rfl rfl (ma_cons (mv (me_call G_law_taken (hr.mono (by first | decide | omega)) (by rfl) T.g_law_taken T.F_law_taken.kp T.b_law_taken .nil (fun _ _ => .nil) tk (ma_cons (mv_var (pv 1)) (ma_cons (mv_int) (ma_nil))))) (ma_cons (mv (me_call G_law_taken (hr.mono (by first | decide | omega)) (by rfl) T.g_law_taken T.F_law_taken.kp T.b_law_taken .nil (fun _ _ => .nil) tk (ma_cons (mv_var (pv 1)) (ma_cons (mv (me_callB call_lenA has_len (by rfl) T.z_len (by decide +kernel) (ma_cons (mv_var (pv 4)) (ma_nil)))) (ma_nil))))) (ma_nil))) (by rfl)) (
  mb_cons (ms_set (i := 10) sc_law.nd rfl (Or.inl rfl) (mv (me_ix (hu_of hr) (mv_var (pv 6)) (mv_var (pv 8))))) (
  mb_cons (ms_setI (hu_of hr) (mv_var (pv 6)) (mv_var (pv 8)) (mv (me_slice (mv (me_sortSet rfl (by rfl) T.z_sorted (by rfl) T.z_set (mv (me_add (mv_var (pv 10)) (mv (me_lst (ma_cons (mv (me_ix (hu_of hr) (mv_var (pv 4)) (mv_var (pv 9)))) (ma_nil)))))))) (mo_none) (mo_some (mv_var (pv 3)))))) (
  mb_cons (ms_if (mt_not (mt_of (mv (me_call G_law_alike (hr.mono (by first | decide | omega)) (by rfl) T.g_law_alike T.F_law_alike.kp T.b_law_alike .nil (fun _ _ => .nil) tk (ma_cons (mv (me_meth (mv (me_ix (hu_of hr) (mv_var (pv 5)) (mv_var (pv 8)))) T.cl_Fewest T.m_Fewest_add G_Fewest_add (hr.mono (by first | decide | omega)) T.b_Fewest_add .nil (fun _ _ => .nil) tk (ma_cons (mv_var (pv 9)) (ma_nil)))) (ma_cons (mv (me_cmp (op_neD hr.units) has_ne (mv (me_ix (hu_of hr) (mv_var (pv 6)) (mv_var (pv 8)))) (mv_var (pv 10)) (nomark _))) (ma_nil))))))) (mb_one (ms_ret (me (mv_bl)))) (mb_nil)) (
  mb_cons (ms_set (i := 11) sc_law.nd rfl (Or.inl rfl) (mv (me_lst (ma_cons (mv (me_callT call_tuple_of has_tuple (by rfl) T.z_tuple (by decide +kernel) (ma_cons (mv (me_ix (hu_of hr) (mv_var (pv 6)) (mv_var (pv 8)))) (ma_nil)))) (ma_cons (mv (me_call G_law_guess (hr.mono (by first | decide | omega)) (by rfl) T.g_law_guess T.F_law_guess.kp T.b_law_guess .nil (fun _ _ => .nil) tk (ma_cons (mv_var (pv 2)) (ma_cons (mv_var (pv 3)) (ma_cons (mv (me_ix (hu_of hr) (mv_var (pv 6)) (mv_var (pv 8)))) (ma_nil)))))) (ma_nil)))))) (
  mb_one (ms_if (mt_not (mt_of (mv (me_call G_law_alike (hr.mono (by first | decide | omega)) (by rfl) T.g_law_alike T.F_law_alike.kp T.b_law_alike .nil (fun _ _ => .nil) tk (ma_cons (mv (me_lst (ma_cons (mv (me_meth0 (mv (me_ix (hu_of hr) (mv_var (pv 5)) (mv_var (pv 8)))) T.cl_Fewest T.m_Fewest_least G_Fewest_least (hr.mono (by first | decide | omega)) T.b_Fewest_least .nil (fun _ _ => .nil) tk)) (ma_cons (mv (me_meth0 (mv (me_ix (hu_of hr) (mv_var (pv 5)) (mv_var (pv 8)))) T.cl_Fewest T.m_Fewest_told G_Fewest_told (hr.mono (by first | decide | omega)) T.b_Fewest_told .nil (fun _ _ => .nil) tk)) (ma_nil))))) (ma_cons (mv_var (pv 11)) (ma_nil))))))) (mb_one (ms_ret (me (mv_bl)))) (mb_nil))))))))))) (
  mb_cons (ms_par (i := 12) (j := 11) rfl sc_law.nd rfl rfl (by decide) rfl rfl (ma_cons (mv (me_meth (mv (me_ix (hu_of hr) (mv_var (pv 5)) (mv_int))) T.cl_Fewest T.m_Fewest_merged G_Fewest_merged (hr.mono (by first | decide | omega)) T.b_Fewest_merged .nil (fun _ _ => .nil) tk (ma_cons (mv (me_ix (hu_of hr) (mv_var (pv 5)) (mv_int))) (ma_nil)))) (ma_cons (mv (me_slice (mv (me_sortSet rfl (by rfl) T.z_sorted (by rfl) T.z_set (mv (me_add (mv (me_ix (hu_of hr) (mv_var (pv 6)) (mv_int))) (mv (me_ix (hu_of hr) (mv_var (pv 6)) (mv_int))))))) (mo_none) (mo_some (mv_var (pv 3))))) (ma_nil))) (by rfl)) (
  mb_cons (ms_if (mt_not (mt_of (mv (me_call G_law_alike (hr.mono (by first | decide | omega)) (by rfl) T.g_law_alike T.F_law_alike.kp T.b_law_alike .nil (fun _ _ => .nil) tk (ma_cons (mv (me_lst (ma_cons (mv (me_meth0 (mv_var (pv 12)) T.cl_Fewest T.m_Fewest_least G_Fewest_least (hr.mono (by first | decide | omega)) T.b_Fewest_least .nil (fun _ _ => .nil) tk)) (ma_cons (mv (me_meth0 (mv_var (pv 12)) T.cl_Fewest T.m_Fewest_told G_Fewest_told (hr.mono (by first | decide | omega)) T.b_Fewest_told .nil (fun _ _ => .nil) tk)) (ma_nil))))) (ma_cons (mv (me_lst (ma_cons (mv (me_callT call_tuple_of has_tuple (by rfl) T.z_tuple (by decide +kernel) (ma_cons (mv_var (pv 11)) (ma_nil)))) (ma_cons (mv (me_call G_law_guess (hr.mono (by first | decide | omega)) (by rfl) T.g_law_guess T.F_law_guess.kp T.b_law_guess .nil (fun _ _ => .nil) tk (ma_cons (mv_var (pv 2)) (ma_cons (mv_var (pv 3)) (ma_cons (mv_var (pv 11)) (ma_nil)))))) (ma_nil))))) (ma_nil))))))) (mb_one (ms_ret (me (mv_bl)))) (mb_nil)) (
  mb_cons (ms_forget [9] (ms_for (ws := [9]) (passes_of rfl) rfl (mi_range1 (by rfl) T.z_range (ma_cons (mv (me_callB call_lenA has_len (by rfl) T.z_len (by decide +kernel) (ma_cons (mv_var (pv 4)) (ma_nil)))) (ma_nil))) (mg_name (pg_name (i := 9) sc_law.nd rfl (Or.inl rfl))) (
   mb_forget [9] (mb_one (ms_expr (me_meth (mv_var (pv 12)) T.cl_Fewest T.m_Fewest_add G_Fewest_add (hr.mono (by first | decide | omega)) T.b_Fewest_add .nil (fun _ _ => .nil) tk (ma_cons (mv_var (pv 9)) (ma_nil)))))))) (
  mb_cons (ms_if (mt_cmp (op_neD hr.units) has_ne (mv (me_meth0 (mv_var (pv 12)) T.cl_Fewest T.m_Fewest_least G_Fewest_least (hr.mono (by first | decide | omega)) T.b_Fewest_least .nil (fun _ _ => .nil) tk)) (mv (me_callT call_tuple_of has_tuple (by rfl) T.z_tuple (by decide +kernel) (ma_cons (mv (me_slice (mv (me_callB m3_cr_sortT has_sortT (by rfl) T.z_sorted (by decide +kernel) (ma_cons (mv_var (pv 4)) (ma_nil)))) (mo_none) (mo_some (mv_var (pv 3))))) (ma_nil)))) (nomark _)) (mb_one (ms_ret (me (mv_bl)))) (mb_nil)) (
  mb_one (ms_ret (me_cmp (op_eqD hr.units) has_eq (mv (me_lc (own := [("_law_one", 13)]) rfl sc_law.nd (mi_seq (mv_var (pv 5))) (blkOk_by (N := ["_law_script", "_law_row_here", "_law_high_end", "_law_room", "_law_numbers_here", "_law_pair", "_law_kept", "_law_k", "_law_side", "_law_key", "_law_ahead", "_law_due", "_law_both", "_law_one", "_law_some"]) (sc := defScope s_law) (own := [("_law_one", 13)]) (by decide +kernel)) (fun _ _ _ _ _ => mg_name (pg_name (i := 13) sc_law.nd rfl (Or.inl rfl))) (fun _ _ _ _ _ => mts_nil) (fun _ _ _ _ _ => mv (me_meth0 (mv_var (pv 13)) T.cl_Fewest T.m_Fewest_least G_Fewest_least (hr.mono (by first | decide | omega)) T.b_Fewest_least .nil (fun _ _ => .nil) takes0)))) (mv (me_lc (own := [("_law_some", 14)]) rfl sc_law.nd (mi_seq (mv_var (pv 6))) (blkOk_by (N := ["_law_script", "_law_row_here", "_law_high_end", "_law_room", "_law_numbers_here", "_law_pair", "_law_kept", "_law_k", "_law_side", "_law_key", "_law_ahead", "_law_due", "_law_both", "_law_one", "_law_some"]) (sc := defScope s_law) (own := [("_law_some", 14)]) (by decide +kernel)) (fun _ _ _ _ _ => mg_name (pg_name (i := 14) sc_law.nd rfl (Or.inl rfl))) (fun _ _ _ _ _ => mts_nil) (fun _ _ _ _ _ => mv (me_callT call_tuple_of has_tuple (by rfl) T.z_tuple (by decide +kernel) (ma_cons (mv_var (pv 14)) (ma_nil)))))) (nomark _))))))))))))
end
end M3
set_option Elab.async false
set_option linter.all false
set_option maxRecDepth 100000
set_option maxHeartbeats 4000000
namespace M3
open PySem PySem.Spec PyProof.Rows L2
theorem len_law_row {a : Ad} : ∀ ds h Kn Kx, sp_law_row a ds h Kn Kx → ds.length = (["_law_script"] : List Str).length := by
  intro ds h Kn Kx q
  unfold sp_law_row at q
  repeat (first | (obtain ⟨rfl, _⟩ := q; rfl) | (obtain ⟨_, q⟩ := q))
theorem len_law_taken {a : Ad} : ∀ ds h Kn Kx, sp_law_taken a ds h Kn Kx → ds.length = (["_law_row_here", "_law_many"] : List Str).length := by
  intro ds h Kn Kx q
  unfold sp_law_taken at q
  repeat (first | (obtain ⟨rfl, _⟩ := q; rfl) | (obtain ⟨_, q⟩ := q))
theorem len_law_numbers {a : Ad} : ∀ ds h Kn Kx, sp_law_numbers a ds h Kn Kx → ds.length = (["_law_row_here", "_law_high_end", "_law_many"] : List Str).length := by
  intro ds h Kn Kx q
  unfold sp_law_numbers at q
  repeat (first | (obtain ⟨rfl, _⟩ := q; rfl) | (obtain ⟨_, q⟩ := q))
theorem len_is_number {a : Ad} : ∀ ds h Kn Kx, sp_is_number a ds h Kn Kx → ds.length = (["part", "low", "high"] : List Str).length := by
  intro ds h Kn Kx q
  unfold sp_is_number at q
  repeat (first | (obtain ⟨rfl, _⟩ := q; rfl) | (obtain ⟨_, q⟩ := q))
theorem len_need_fewest {a : Ad} : ∀ ds h Kn Kx, sp_need_fewest a ds h Kn Kx → ds.length = (["numbers", "top", "size"] : List Str).length := by
  intro ds h Kn Kx q
  unfold sp_need_fewest at q
  repeat (first | (obtain ⟨rfl, _⟩ := q; rfl) | (obtain ⟨_, q⟩ := q))
theorem len_Fewest_init {a : Ad} : ∀ ds h Kn Kx, sp_Fewest_init a ds h Kn Kx → ds.length = (["self", "numbers", "top", "size"] : List Str).length := by
  intro ds h Kn Kx q
  unfold sp_Fewest_init at q
  repeat (first | (obtain ⟨rfl, _⟩ := q; rfl) | (obtain ⟨_, q⟩ := q))
theorem len_Fewest_add {a : Ad} : ∀ ds h Kn Kx, sp_Fewest_add a ds h Kn Kx → ds.length = (["self", "key"] : List Str).length := by
  intro ds h Kn Kx q
  unfold sp_Fewest_add at q
  repeat (first | (obtain ⟨rfl, _⟩ := q; rfl) | (obtain ⟨_, q⟩ := q))
theorem len_law_alike {a : Ad} {k : Nat} : ∀ ds h Kn Kx, sp_law_alike a (k + 1) ds h Kn Kx → ds.length = (["_law_found", "_law_due"] : List Str).length := by
  intro ds h Kn Kx q
  unfold sp_law_alike at q
  repeat (first | (obtain ⟨rfl, _⟩ := q; rfl) | (obtain ⟨_, q⟩ := q))
theorem len_law_guess {a : Ad} : ∀ ds h Kn Kx, sp_law_guess a ds h Kn Kx → ds.length = (["_law_high_end", "_law_room", "_law_least"] : List Str).length := by
  intro ds h Kn Kx q
  unfold sp_law_guess at q
  repeat (first | (obtain ⟨rfl, _⟩ := q; rfl) | (obtain ⟨_, q⟩ := q))
theorem len_Fewest_least {a : Ad} : ∀ ds h Kn Kx, sp_Fewest_least a ds h Kn Kx → ds.length = (["self"] : List Str).length := by
  intro ds h Kn Kx q
  unfold sp_Fewest_least at q
  repeat (first | (obtain ⟨rfl, _⟩ := q; rfl) | (obtain ⟨_, q⟩ := q))
theorem len_guess {a : Ad} : ∀ ds h Kn Kx, sp_guess a ds h Kn Kx → ds.length = (["top", "size", "least"] : List Str).length := by
  intro ds h Kn Kx q
  unfold sp_guess at q
  repeat (first | (obtain ⟨rfl, _⟩ := q; rfl) | (obtain ⟨_, q⟩ := q))
theorem len_Fewest_told {a : Ad} : ∀ ds h Kn Kx, sp_Fewest_told a ds h Kn Kx → ds.length = (["self"] : List Str).length := by
  intro ds h Kn Kx q
  unfold sp_Fewest_told at q
  repeat (first | (obtain ⟨rfl, _⟩ := q; rfl) | (obtain ⟨_, q⟩ := q))
theorem len_Fewest_merged {a : Ad} : ∀ ds h Kn Kx, sp_Fewest_merged a ds h Kn Kx → ds.length = (["self", "other"] : List Str).length := by
  intro ds h Kn Kx q
  unfold sp_Fewest_merged at q
  repeat (first | (obtain ⟨rfl, _⟩ := q; rfl) | (obtain ⟨_, q⟩ := q))
theorem len_law {a : Ad} : ∀ ds h Kn Kx, sp_law a ds h Kn Kx → ds.length = (["_law_script"] : List Str).length := by
  intro ds h Kn Kx q
  unfold sp_law at q
  repeat (first | (obtain ⟨rfl, _⟩ := q; rfl) | (obtain ⟨_, q⟩ := q))
section
variable {P : Program} {w : World} {K : Kf} {mg : Str → Option Value} {base : Heap} {a : Ad} {n : Fns}
theorem ok_law_row (T : Txt K mg a n) : FM P w K mg base 1 n.f_law_row n.fd_law_row ["_law_script"] (sp_law_row a) := fm_of T.F_law_row sc_law_row len_law_row fun cdv A outer s H E hr => ⟨_, d_law_row T  cdv A outer s H E hr, fun ds h Kn Kx q => rd_law_row ds h Kn Kx q⟩
theorem ok_law_taken (T : Txt K mg a n) : FM P w K mg base 1 n.f_law_taken n.fd_law_taken ["_law_row_here", "_law_many"] (sp_law_taken a) := fm_of T.F_law_taken sc_law_taken len_law_taken fun cdv A outer s H E hr => ⟨_, d_law_taken T  cdv A outer s H E hr, fun ds h Kn Kx q => rd_law_taken ds h Kn Kx q⟩
theorem ok_law_numbers (T : Txt K mg a n) : FM P w K mg base 2 n.f_law_numbers n.fd_law_numbers ["_law_row_here", "_law_high_end", "_law_many"] (sp_law_numbers a) := fm_of T.F_law_numbers sc_law_numbers len_law_numbers fun cdv A outer s H E hr => ⟨_, d_law_numbers T (ok_law_taken T) cdv A outer s H E hr, fun ds h Kn Kx q => rd_law_numbers ds h Kn Kx q⟩
theorem ok_is_number (T : Txt K mg a n) : FM P w K mg base 1 n.f_is_number n.fd_is_number ["part", "low", "high"] (sp_is_number a) := fm_of T.F_is_number sc_is_number len_is_number fun cdv A outer s H E hr => ⟨_, d_is_number T  cdv A outer s H E hr, fun ds h Kn Kx q => rd_is_number ds h Kn Kx q⟩
theorem ok_need_fewest (T : Txt K mg a n) : FM P w K mg base 2 n.f_need_fewest n.fd_need_fewest ["numbers", "top", "size"] (sp_need_fewest a) := fm_of T.F_need_fewest sc_need_fewest len_need_fewest fun cdv A outer s H E hr => ⟨_, d_need_fewest T (ok_is_number T) cdv A outer s H E hr, fun ds h Kn Kx q => rd_need_fewest ds h Kn Kx q⟩
theorem ok_Fewest_init (T : Txt K mg a n) : FM P w K mg base 3 n.f_Fewest_init n.fd_Fewest_init ["self", "numbers", "top", "size"] (sp_Fewest_init a) := fm_of T.F_Fewest_init sc_Fewest_init len_Fewest_init fun cdv A outer s H E hr => ⟨_, d_Fewest_init T (ok_need_fewest T) cdv A outer s H E hr, fun ds h Kn Kx q => rd_Fewest_init ds h Kn Kx q⟩
theorem ok_Fewest_add (T : Txt K mg a n) : FM P w K mg base 2 n.f_Fewest_add n.fd_Fewest_add ["self", "key"] (sp_Fewest_add a) := fm_of T.F_Fewest_add sc_Fewest_add len_Fewest_add fun cdv A outer s H E hr => ⟨_, d_Fewest_add T (ok_is_number T) cdv A outer s H E hr, fun ds h Kn Kx q => rd_Fewest_add ds h Kn Kx q⟩
theorem ok_law_alike (T : Txt K mg a n) : ∀ k, FM P w K mg base k n.f_law_alike n.fd_law_alike ["_law_found", "_law_due"] (sp_law_alike a k)
  | 0 => ⟨fun _ _ _ _ ⟨_, _, _, _, _, _, _, _, q, _⟩ => q.elim, fun _ _ _ _ _ _ _ _ _ _ _ _ _ ⟨_, _, _, _, _, _, _, _, q, _⟩ => q.elim⟩
  | k + 1 => fm_of T.F_law_alike sc_law_alike len_law_alike fun cdv A outer s H E hr => ⟨_, d_law_alike k T (ok_law_alike T k) cdv A outer s H E hr, fun ds h Kn Kx q => rd_law_alike ds h Kn Kx q⟩
theorem ok_law_guess (T : Txt K mg a n) : FM P w K mg base 1 n.f_law_guess n.fd_law_guess ["_law_high_end", "_law_room", "_law_least"] (sp_law_guess a) := fm_of T.F_law_guess sc_law_guess len_law_guess fun cdv A outer s H E hr => ⟨_, d_law_guess T  cdv A outer s H E hr, fun ds h Kn Kx q => rd_law_guess ds h Kn Kx q⟩
theorem ok_Fewest_least (T : Txt K mg a n) : FM P w K mg base 1 n.f_Fewest_least n.fd_Fewest_least ["self"] (sp_Fewest_least a) := fm_of T.F_Fewest_least sc_Fewest_least len_Fewest_least fun cdv A outer s H E hr => ⟨_, d_Fewest_least T  cdv A outer s H E hr, fun ds h Kn Kx q => rd_Fewest_least ds h Kn Kx q⟩
theorem ok_guess (T : Txt K mg a n) : FM P w K mg base 1 n.f_guess n.fd_guess ["top", "size", "least"] (sp_guess a) := fm_of T.F_guess sc_guess len_guess fun cdv A outer s H E hr => ⟨_, d_guess T  cdv A outer s H E hr, fun ds h Kn Kx q => rd_guess ds h Kn Kx q⟩
theorem ok_Fewest_told (T : Txt K mg a n) : FM P w K mg base 2 n.f_Fewest_told n.fd_Fewest_told ["self"] (sp_Fewest_told a) := fm_of T.F_Fewest_told sc_Fewest_told len_Fewest_told fun cdv A outer s H E hr => ⟨_, d_Fewest_told T (ok_guess T) cdv A outer s H E hr, fun ds h Kn Kx q => rd_Fewest_told ds h Kn Kx q⟩
theorem ok_Fewest_merged (T : Txt K mg a n) : FM P w K mg base 5 n.f_Fewest_merged n.fd_Fewest_merged ["self", "other"] (sp_Fewest_merged a) := fm_of T.F_Fewest_merged sc_Fewest_merged len_Fewest_merged fun cdv A outer s H E hr => ⟨_, d_Fewest_merged T (ok_Fewest_init T) cdv A outer s H E hr, fun ds h Kn Kx q => rd_Fewest_merged ds h Kn Kx q⟩
theorem ok_law (T : Txt K mg a n) : FM P w K mg base 7 n.f_law n.fd_law ["_law_script"] (sp_law a) := fm_of T.F_law sc_law len_law fun cdv A outer s H E hr => ⟨_, d_law T (ok_law_row T) (ok_law_taken T) (ok_law_numbers T) (ok_Fewest_init T) (ok_Fewest_add T) (ok_law_alike T 6) (ok_law_guess T) (ok_Fewest_least T) (ok_Fewest_told T) (ok_Fewest_merged T) cdv A outer s H E hr, fun ds h Kn Kx q => rd_law ds h Kn Kx q⟩
end
def a0 : Ad := { Filter := 0, Counter := 0, Signed := 0, Heavy := 0, Fewest := 0, Desk := 0, CellError := 0, BadPlan := 0, BadKey := 0, BadCounts := 0, BadNumber := 0, BadMeet := 0, BadDeed := 0, Halted := 0, BadText := 0 }
set_option maxHeartbeats 8000000 in
theorem all_mk {P : Program} {w : World} {K : PySem.W.Frag} {h : Heap} {mg : Str → Option Value} {fa : Addr} (X : K.In h) (G : h.Ns mainGlobals mg) (hfa : mg "law" = some (.ref fa))
    {f_law_row : Addr} {od_law_row an_law_row : Option Addr} {sl_law_row : Array (Option Value)} {oc_law_row kV_law_row dc_law_row pm_law_row cd_law_row ct_law_row : Value}
    {f_law_taken : Addr} {od_law_taken an_law_taken : Option Addr} {sl_law_taken : Array (Option Value)} {oc_law_taken kV_law_taken dc_law_taken pm_law_taken cd_law_taken ct_law_taken : Value}
    {f_law_numbers : Addr} {od_law_numbers an_law_numbers : Option Addr} {sl_law_numbers : Array (Option Value)} {oc_law_numbers kV_law_numbers dc_law_numbers pm_law_numbers cd_law_numbers ct_law_numbers : Value}
    {f_is_number : Addr} {od_is_number an_is_number : Option Addr} {sl_is_number : Array (Option Value)} {oc_is_number kV_is_number dc_is_number pm_is_number cd_is_number ct_is_number : Value}
    {f_need_fewest : Addr} {od_need_fewest an_need_fewest : Option Addr} {sl_need_fewest : Array (Option Value)} {oc_need_fewest kV_need_fewest dc_need_fewest pm_need_fewest cd_need_fewest ct_need_fewest : Value}
    {f_Fewest_init : Addr} {od_Fewest_init an_Fewest_init : Option Addr} {sl_Fewest_init : Array (Option Value)} {oc_Fewest_init kV_Fewest_init dc_Fewest_init pm_Fewest_init cd_Fewest_init ct_Fewest_init : Value}
    {f_Fewest_add : Addr} {od_Fewest_add an_Fewest_add : Option Addr} {sl_Fewest_add : Array (Option Value)} {oc_Fewest_add kV_Fewest_add dc_Fewest_add pm_Fewest_add cd_Fewest_add ct_Fewest_add : Value}
    {f_law_alike : Addr} {od_law_alike an_law_alike : Option Addr} {sl_law_alike : Array (Option Value)} {oc_law_alike kV_law_alike dc_law_alike pm_law_alike cd_law_alike ct_law_alike : Value}
    {f_law_guess : Addr} {od_law_guess an_law_guess : Option Addr} {sl_law_guess : Array (Option Value)} {oc_law_guess kV_law_guess dc_law_guess pm_law_guess cd_law_guess ct_law_guess : Value}
    {f_Fewest_least : Addr} {od_Fewest_least an_Fewest_least : Option Addr} {sl_Fewest_least : Array (Option Value)} {oc_Fewest_least kV_Fewest_least dc_Fewest_least pm_Fewest_least cd_Fewest_least ct_Fewest_least : Value}
    {f_guess : Addr} {od_guess an_guess : Option Addr} {sl_guess : Array (Option Value)} {oc_guess kV_guess dc_guess pm_guess cd_guess ct_guess : Value}
    {f_Fewest_told : Addr} {od_Fewest_told an_Fewest_told : Option Addr} {sl_Fewest_told : Array (Option Value)} {oc_Fewest_told kV_Fewest_told dc_Fewest_told pm_Fewest_told cd_Fewest_told ct_Fewest_told : Value}
    {f_Fewest_merged : Addr} {od_Fewest_merged an_Fewest_merged : Option Addr} {sl_Fewest_merged : Array (Option Value)} {oc_Fewest_merged kV_Fewest_merged dc_Fewest_merged pm_Fewest_merged cd_Fewest_merged ct_Fewest_merged : Value}
    {f_law : Addr} {od_law an_law : Option Addr} {sl_law : Array (Option Value)} {oc_law kV_law dc_law pm_law cd_law ct_law : Value}
    {C_Fewest : Addr}
    {t_MOST_KEYS : _}
    {t_MOST_SIZE : _}
    {t_MOST_TOP : _}
    (aC_Fewest : PySem.W.nsIn K mainGlobals "Fewest" = some (some (.ref C_Fewest)))
    (a_law_row : PySem.W.nsIn K mainGlobals "_law_row" = some (some (.ref f_law_row)))
    (l_law_row : K.lookup f_law_row = some ⟨oc_law_row, od_law_row, .func (PySem.W.fnOf "_law_row" "_law_row" (defArgs s_law_row) (defBody s_law_row) (defScope s_law_row) .none kV_law_row dc_law_row pm_law_row an_law_row cd_law_row ct_law_row), sl_law_row⟩)
    (c_law_row : PySem.W.codeIn K cd_law_row "_law_row" = true)
    (k_law_row : PySem.W.keepIn K (.ref f_law_row) = true)
    (a_law_taken : PySem.W.nsIn K mainGlobals "_law_taken" = some (some (.ref f_law_taken)))
    (l_law_taken : K.lookup f_law_taken = some ⟨oc_law_taken, od_law_taken, .func (PySem.W.fnOf "_law_taken" "_law_taken" (defArgs s_law_taken) (defBody s_law_taken) (defScope s_law_taken) .none kV_law_taken dc_law_taken pm_law_taken an_law_taken cd_law_taken ct_law_taken), sl_law_taken⟩)
    (c_law_taken : PySem.W.codeIn K cd_law_taken "_law_taken" = true)
    (k_law_taken : PySem.W.keepIn K (.ref f_law_taken) = true)
    (a_law_numbers : PySem.W.nsIn K mainGlobals "_law_numbers" = some (some (.ref f_law_numbers)))
    (l_law_numbers : K.lookup f_law_numbers = some ⟨oc_law_numbers, od_law_numbers, .func (PySem.W.fnOf "_law_numbers" "_law_numbers" (defArgs s_law_numbers) (defBody s_law_numbers) (defScope s_law_numbers) .none kV_law_numbers dc_law_numbers pm_law_numbers an_law_numbers cd_law_numbers ct_law_numbers), sl_law_numbers⟩)
    (c_law_numbers : PySem.W.codeIn K cd_law_numbers "_law_numbers" = true)
    (k_law_numbers : PySem.W.keepIn K (.ref f_law_numbers) = true)
    (a_is_number : PySem.W.nsIn K mainGlobals "is_number" = some (some (.ref f_is_number)))
    (l_is_number : K.lookup f_is_number = some ⟨oc_is_number, od_is_number, .func (PySem.W.fnOf "is_number" "is_number" (defArgs s_is_number) (defBody s_is_number) (defScope s_is_number) .none kV_is_number dc_is_number pm_is_number an_is_number cd_is_number ct_is_number), sl_is_number⟩)
    (c_is_number : PySem.W.codeIn K cd_is_number "is_number" = true)
    (k_is_number : PySem.W.keepIn K (.ref f_is_number) = true)
    (a_need_fewest : PySem.W.nsIn K mainGlobals "need_fewest" = some (some (.ref f_need_fewest)))
    (l_need_fewest : K.lookup f_need_fewest = some ⟨oc_need_fewest, od_need_fewest, .func (PySem.W.fnOf "need_fewest" "need_fewest" (defArgs s_need_fewest) (defBody s_need_fewest) (defScope s_need_fewest) .none kV_need_fewest dc_need_fewest pm_need_fewest an_need_fewest cd_need_fewest ct_need_fewest), sl_need_fewest⟩)
    (c_need_fewest : PySem.W.codeIn K cd_need_fewest "need_fewest" = true)
    (k_need_fewest : PySem.W.keepIn K (.ref f_need_fewest) = true)
    (a_Fewest_init : PySem.W.findIn K (.ref C_Fewest) "__init__" = some (some (.ref f_Fewest_init)))
    (i_Fewest_init : PySem.W.isFn K (.ref f_Fewest_init) = true)
    (l_Fewest_init : K.lookup f_Fewest_init = some ⟨oc_Fewest_init, od_Fewest_init, .func (PySem.W.fnOf "__init__" "Fewest.__init__" (defArgs s_Fewest_init) (defBody s_Fewest_init) (defScope s_Fewest_init) .none kV_Fewest_init dc_Fewest_init pm_Fewest_init an_Fewest_init cd_Fewest_init ct_Fewest_init), sl_Fewest_init⟩)
    (c_Fewest_init : PySem.W.codeIn K cd_Fewest_init "Fewest.__init__" = true)
    (k_Fewest_init : PySem.W.keepIn K (.ref f_Fewest_init) = true)
    (a_Fewest_add : PySem.W.findIn K (.ref C_Fewest) "add" = some (some (.ref f_Fewest_add)))
    (i_Fewest_add : PySem.W.isFn K (.ref f_Fewest_add) = true)
    (l_Fewest_add : K.lookup f_Fewest_add = some ⟨oc_Fewest_add, od_Fewest_add, .func (PySem.W.fnOf "add" "Fewest.add" (defArgs s_Fewest_add) (defBody s_Fewest_add) (defScope s_Fewest_add) .none kV_Fewest_add dc_Fewest_add pm_Fewest_add an_Fewest_add cd_Fewest_add ct_Fewest_add), sl_Fewest_add⟩)
    (c_Fewest_add : PySem.W.codeIn K cd_Fewest_add "Fewest.add" = true)
    (k_Fewest_add : PySem.W.keepIn K (.ref f_Fewest_add) = true)
    (a_law_alike : PySem.W.nsIn K mainGlobals "_law_alike" = some (some (.ref f_law_alike)))
    (l_law_alike : K.lookup f_law_alike = some ⟨oc_law_alike, od_law_alike, .func (PySem.W.fnOf "_law_alike" "_law_alike" (defArgs s_law_alike) (defBody s_law_alike) (defScope s_law_alike) .none kV_law_alike dc_law_alike pm_law_alike an_law_alike cd_law_alike ct_law_alike), sl_law_alike⟩)
    (c_law_alike : PySem.W.codeIn K cd_law_alike "_law_alike" = true)
    (k_law_alike : PySem.W.keepIn K (.ref f_law_alike) = true)
    (a_law_guess : PySem.W.nsIn K mainGlobals "_law_guess" = some (some (.ref f_law_guess)))
    (l_law_guess : K.lookup f_law_guess = some ⟨oc_law_guess, od_law_guess, .func (PySem.W.fnOf "_law_guess" "_law_guess" (defArgs s_law_guess) (defBody s_law_guess) (defScope s_law_guess) .none kV_law_guess dc_law_guess pm_law_guess an_law_guess cd_law_guess ct_law_guess), sl_law_guess⟩)
    (c_law_guess : PySem.W.codeIn K cd_law_guess "_law_guess" = true)
    (k_law_guess : PySem.W.keepIn K (.ref f_law_guess) = true)
    (a_Fewest_least : PySem.W.findIn K (.ref C_Fewest) "least" = some (some (.ref f_Fewest_least)))
    (i_Fewest_least : PySem.W.isFn K (.ref f_Fewest_least) = true)
    (l_Fewest_least : K.lookup f_Fewest_least = some ⟨oc_Fewest_least, od_Fewest_least, .func (PySem.W.fnOf "least" "Fewest.least" (defArgs s_Fewest_least) (defBody s_Fewest_least) (defScope s_Fewest_least) .none kV_Fewest_least dc_Fewest_least pm_Fewest_least an_Fewest_least cd_Fewest_least ct_Fewest_least), sl_Fewest_least⟩)
    (c_Fewest_least : PySem.W.codeIn K cd_Fewest_least "Fewest.least" = true)
    (k_Fewest_least : PySem.W.keepIn K (.ref f_Fewest_least) = true)
    (a_guess : PySem.W.nsIn K mainGlobals "guess" = some (some (.ref f_guess)))
    (l_guess : K.lookup f_guess = some ⟨oc_guess, od_guess, .func (PySem.W.fnOf "guess" "guess" (defArgs s_guess) (defBody s_guess) (defScope s_guess) .none kV_guess dc_guess pm_guess an_guess cd_guess ct_guess), sl_guess⟩)
    (c_guess : PySem.W.codeIn K cd_guess "guess" = true)
    (k_guess : PySem.W.keepIn K (.ref f_guess) = true)
    (a_Fewest_told : PySem.W.findIn K (.ref C_Fewest) "told" = some (some (.ref f_Fewest_told)))
    (i_Fewest_told : PySem.W.isFn K (.ref f_Fewest_told) = true)
    (l_Fewest_told : K.lookup f_Fewest_told = some ⟨oc_Fewest_told, od_Fewest_told, .func (PySem.W.fnOf "told" "Fewest.told" (defArgs s_Fewest_told) (defBody s_Fewest_told) (defScope s_Fewest_told) .none kV_Fewest_told dc_Fewest_told pm_Fewest_told an_Fewest_told cd_Fewest_told ct_Fewest_told), sl_Fewest_told⟩)
    (c_Fewest_told : PySem.W.codeIn K cd_Fewest_told "Fewest.told" = true)
    (k_Fewest_told : PySem.W.keepIn K (.ref f_Fewest_told) = true)
    (a_Fewest_merged : PySem.W.findIn K (.ref C_Fewest) "merged" = some (some (.ref f_Fewest_merged)))
    (i_Fewest_merged : PySem.W.isFn K (.ref f_Fewest_merged) = true)
    (l_Fewest_merged : K.lookup f_Fewest_merged = some ⟨oc_Fewest_merged, od_Fewest_merged, .func (PySem.W.fnOf "merged" "Fewest.merged" (defArgs s_Fewest_merged) (defBody s_Fewest_merged) (defScope s_Fewest_merged) .none kV_Fewest_merged dc_Fewest_merged pm_Fewest_merged an_Fewest_merged cd_Fewest_merged ct_Fewest_merged), sl_Fewest_merged⟩)
    (c_Fewest_merged : PySem.W.codeIn K cd_Fewest_merged "Fewest.merged" = true)
    (k_Fewest_merged : PySem.W.keepIn K (.ref f_Fewest_merged) = true)
    (a_law : PySem.W.nsIn K mainGlobals "law" = some (some (.ref f_law)))
    (l_law : K.lookup f_law = some ⟨oc_law, od_law, .func (PySem.W.fnOf "law" "law" (defArgs s_law) (defBody s_law) (defScope s_law) .none kV_law dc_law pm_law an_law cd_law ct_law), sl_law⟩)
    (c_law : PySem.W.codeIn K cd_law "law" = true)
    (k_law : PySem.W.keepIn K (.ref f_law) = true)
    (pg_Fewest : PySem.W.plainGet K C_Fewest Str.empty = true)
    (hd_Fewest : PySem.W.hasDictIn K C_Fewest = true)
    (po_Fewest : PySem.W.plainOver K C_Fewest = true)
    (sa_Fewest : PySem.W.findIn K (.ref C_Fewest) "__setattr__" = some (some (.builtin "object.__setattr__")))
    (mk_Fewest : PySem.W.makesIn K C_Fewest = true)
    (kc_Fewest : PySem.W.keepIn K (.ref C_Fewest) = true)
    (z_bool : PySem.W.nsIn K mainGlobals "bool" = some none)
    (z_enumerate : PySem.W.nsIn K mainGlobals "enumerate" = some none)
    (na_Fewest_held : PySem.W.findIn K (.ref C_Fewest) "held" = some none)
    (na_Fewest_numbers : PySem.W.findIn K (.ref C_Fewest) "numbers" = some none)
    (na_Fewest_size : PySem.W.findIn K (.ref C_Fewest) "size" = some none)
    (na_Fewest_top : PySem.W.findIn K (.ref C_Fewest) "top" = some none)
    (z_int : PySem.W.nsIn K mainGlobals "int" = some none)
    (z_isinstance : PySem.W.nsIn K mainGlobals "isinstance" = some none)
    (kc_MOST_KEYS : PySem.W.nsIn K mainGlobals "MOST_KEYS" = some (some (.int 16 t_MOST_KEYS)))
    (kc_MOST_SIZE : PySem.W.nsIn K mainGlobals "MOST_SIZE" = some (some (.int 8 t_MOST_SIZE)))
    (kc_MOST_TOP : PySem.W.nsIn K mainGlobals "MOST_TOP" = some (some (.int 999 t_MOST_TOP)))
    (kcl_Fewest : PySem.W.isClsIn K C_Fewest = true)
    (kty_Fewest : PySem.W.typeIn K (.ref C_Fewest) = some (.type "type"))
    (kh_Fewest : PySem.W.findIn K (.ref C_Fewest) "__class__" = some (some (.builtin "object.__class__")))
    (kn_Fewest : PySem.W.specialIn K (.builtin "object.__class__") "__get__" = some (some (.builtin "getset_descriptor.__get__")))
    (kk_Fewest : PySem.W.takesIn K (.builtin "object.__class__") = some true)
    (km_Fewest : PySem.W.mroIn K C_Fewest (.type "object") = some true)
    (z_len : PySem.W.nsIn K mainGlobals "len" = some none)
    (z_list : PySem.W.nsIn K mainGlobals "list" = some none)
    (z_max : PySem.W.nsIn K mainGlobals "max" = some none)
    (z_min : PySem.W.nsIn K mainGlobals "min" = some none)
    (z_range : PySem.W.nsIn K mainGlobals "range" = some none)
    (z_set : PySem.W.nsIn K mainGlobals "set" = some none)
    (z_sorted : PySem.W.nsIn K mainGlobals "sorted" = some none)
    (z_str : PySem.W.nsIn K mainGlobals "str" = some none)
    (z_tuple : PySem.W.nsIn K mainGlobals "tuple" = some none) :
    ∃ fd : FuncData, (∀ (s : Shared) (v : Value), BindsTo s fd ⟨[v], []⟩ [("_law_script", v)]) ∧ ∀ base : Heap, K.In base → base.Ns mainGlobals mg → FnOk P w K mg base (L2.CX P w) 7 fa fd ["_law_script"] (LSp K (sp_law a0)) := by
  have e := hfa.symm.trans (PySem.W.mg_of X G a_law)
  cases e
  have F_law_row := fun_mk (st := s_law_row) l_law_row c_law_row k_law_row
  have F_law_taken := fun_mk (st := s_law_taken) l_law_taken c_law_taken k_law_taken
  have F_law_numbers := fun_mk (st := s_law_numbers) l_law_numbers c_law_numbers k_law_numbers
  have F_is_number := fun_mk (st := s_is_number) l_is_number c_is_number k_is_number
  have F_need_fewest := fun_mk (st := s_need_fewest) l_need_fewest c_need_fewest k_need_fewest
  have F_Fewest_init := fun_mk (st := s_Fewest_init) l_Fewest_init c_Fewest_init k_Fewest_init
  have F_Fewest_add := fun_mk (st := s_Fewest_add) l_Fewest_add c_Fewest_add k_Fewest_add
  have F_law_alike := fun_mk (st := s_law_alike) l_law_alike c_law_alike k_law_alike
  have F_law_guess := fun_mk (st := s_law_guess) l_law_guess c_law_guess k_law_guess
  have F_Fewest_least := fun_mk (st := s_Fewest_least) l_Fewest_least c_Fewest_least k_Fewest_least
  have F_guess := fun_mk (st := s_guess) l_guess c_guess k_guess
  have F_Fewest_told := fun_mk (st := s_Fewest_told) l_Fewest_told c_Fewest_told k_Fewest_told
  have F_Fewest_merged := fun_mk (st := s_Fewest_merged) l_Fewest_merged c_Fewest_merged k_Fewest_merged
  have F_law := fun_mk (st := s_law) l_law c_law k_law
  have T : Txt K mg { Filter := fa, Counter := fa, Signed := fa, Heavy := fa, Fewest := C_Fewest, Desk := fa, CellError := fa, BadPlan := fa, BadKey := fa, BadCounts := fa, BadNumber := fa, BadMeet := fa, BadDeed := fa, Halted := fa, BadText := fa } { f_law_row := f_law_row, fd_law_row := PySem.W.fnOf "_law_row" "_law_row" (defArgs s_law_row) (defBody s_law_row) (defScope s_law_row) .none kV_law_row dc_law_row pm_law_row an_law_row cd_law_row ct_law_row, f_law_taken := f_law_taken, fd_law_taken := PySem.W.fnOf "_law_taken" "_law_taken" (defArgs s_law_taken) (defBody s_law_taken) (defScope s_law_taken) .none kV_law_taken dc_law_taken pm_law_taken an_law_taken cd_law_taken ct_law_taken, f_law_numbers := f_law_numbers, fd_law_numbers := PySem.W.fnOf "_law_numbers" "_law_numbers" (defArgs s_law_numbers) (defBody s_law_numbers) (defScope s_law_numbers) .none kV_law_numbers dc_law_numbers pm_law_numbers an_law_numbers cd_law_numbers ct_law_numbers, f_is_number := f_is_number, fd_is_number := PySem.W.fnOf "is_number" "is_number" (defArgs s_is_number) (defBody s_is_number) (defScope s_is_number) .none kV_is_number dc_is_number pm_is_number an_is_number cd_is_number ct_is_number, f_need_fewest := f_need_fewest, fd_need_fewest := PySem.W.fnOf "need_fewest" "need_fewest" (defArgs s_need_fewest) (defBody s_need_fewest) (defScope s_need_fewest) .none kV_need_fewest dc_need_fewest pm_need_fewest an_need_fewest cd_need_fewest ct_need_fewest, f_Fewest_init := f_Fewest_init, fd_Fewest_init := PySem.W.fnOf "__init__" "Fewest.__init__" (defArgs s_Fewest_init) (defBody s_Fewest_init) (defScope s_Fewest_init) .none kV_Fewest_init dc_Fewest_init pm_Fewest_init an_Fewest_init cd_Fewest_init ct_Fewest_init, f_Fewest_add := f_Fewest_add, fd_Fewest_add := PySem.W.fnOf "add" "Fewest.add" (defArgs s_Fewest_add) (defBody s_Fewest_add) (defScope s_Fewest_add) .none kV_Fewest_add dc_Fewest_add pm_Fewest_add an_Fewest_add cd_Fewest_add ct_Fewest_add, f_law_alike := f_law_alike, fd_law_alike := PySem.W.fnOf "_law_alike" "_law_alike" (defArgs s_law_alike) (defBody s_law_alike) (defScope s_law_alike) .none kV_law_alike dc_law_alike pm_law_alike an_law_alike cd_law_alike ct_law_alike, f_law_guess := f_law_guess, fd_law_guess := PySem.W.fnOf "_law_guess" "_law_guess" (defArgs s_law_guess) (defBody s_law_guess) (defScope s_law_guess) .none kV_law_guess dc_law_guess pm_law_guess an_law_guess cd_law_guess ct_law_guess, f_Fewest_least := f_Fewest_least, fd_Fewest_least := PySem.W.fnOf "least" "Fewest.least" (defArgs s_Fewest_least) (defBody s_Fewest_least) (defScope s_Fewest_least) .none kV_Fewest_least dc_Fewest_least pm_Fewest_least an_Fewest_least cd_Fewest_least ct_Fewest_least, f_guess := f_guess, fd_guess := PySem.W.fnOf "guess" "guess" (defArgs s_guess) (defBody s_guess) (defScope s_guess) .none kV_guess dc_guess pm_guess an_guess cd_guess ct_guess, f_Fewest_told := f_Fewest_told, fd_Fewest_told := PySem.W.fnOf "told" "Fewest.told" (defArgs s_Fewest_told) (defBody s_Fewest_told) (defScope s_Fewest_told) .none kV_Fewest_told dc_Fewest_told pm_Fewest_told an_Fewest_told cd_Fewest_told ct_Fewest_told, f_Fewest_merged := f_Fewest_merged, fd_Fewest_merged := PySem.W.fnOf "merged" "Fewest.merged" (defArgs s_Fewest_merged) (defBody s_Fewest_merged) (defScope s_Fewest_merged) .none kV_Fewest_merged dc_Fewest_merged pm_Fewest_merged an_Fewest_merged cd_Fewest_merged ct_Fewest_merged, f_law := fa, fd_law := PySem.W.fnOf "law" "law" (defArgs s_law) (defBody s_law) (defScope s_law) .none kV_law dc_law pm_law an_law cd_law ct_law } :=
    { F_law_row := F_law_row,
      b_law_row := F_law_row.binds (ps := ["_law_script"]) fun _ _ _ _ _ _ us hl => match us, hl with | [_], _ => rfl,
      g_law_row := PySem.W.mg_of X G a_law_row,
      F_law_taken := F_law_taken,
      b_law_taken := F_law_taken.binds (ps := ["_law_row_here", "_law_many"]) fun _ _ _ _ _ _ us hl => match us, hl with | [_, _], _ => rfl,
      g_law_taken := PySem.W.mg_of X G a_law_taken,
      F_law_numbers := F_law_numbers,
      b_law_numbers := F_law_numbers.binds (ps := ["_law_row_here", "_law_high_end", "_law_many"]) fun _ _ _ _ _ _ us hl => match us, hl with | [_, _, _], _ => rfl,
      g_law_numbers := PySem.W.mg_of X G a_law_numbers,
      F_is_number := F_is_number,
      b_is_number := F_is_number.binds (ps := ["part", "low", "high"]) fun _ _ _ _ _ _ us hl => match us, hl with | [_, _, _], _ => rfl,
      g_is_number := PySem.W.mg_of X G a_is_number,
      F_need_fewest := F_need_fewest,
      b_need_fewest := F_need_fewest.binds (ps := ["numbers", "top", "size"]) fun _ _ _ _ _ _ us hl => match us, hl with | [_, _, _], _ => rfl,
      g_need_fewest := PySem.W.mg_of X G a_need_fewest,
      F_Fewest_init := F_Fewest_init,
      kb_Fewest_init := ⟨fun s us ws _ l1 l2 => match us, ws, l1, l2 with | [_, _], [_, _], _, _ => .of_eq rfl, fun r1 r2 => r1.append r2⟩,
      F_Fewest_add := F_Fewest_add,
      b_Fewest_add := F_Fewest_add.binds (ps := ["self", "key"]) fun _ _ _ _ _ _ us hl => match us, hl with | [_, _], _ => rfl,
      F_law_alike := F_law_alike,
      b_law_alike := F_law_alike.binds (ps := ["_law_found", "_law_due"]) fun _ _ _ _ _ _ us hl => match us, hl with | [_, _], _ => rfl,
      g_law_alike := PySem.W.mg_of X G a_law_alike,
      F_law_guess := F_law_guess,
      b_law_guess := F_law_guess.binds (ps := ["_law_high_end", "_law_room", "_law_least"]) fun _ _ _ _ _ _ us hl => match us, hl with | [_, _, _], _ => rfl,
      g_law_guess := PySem.W.mg_of X G a_law_guess,
      F_Fewest_least := F_Fewest_least,
      b_Fewest_least := F_Fewest_least.binds (ps := ["self"]) fun _ _ _ _ _ _ us hl => match us, hl with | [_], _ => rfl,
      F_guess := F_guess,
      b_guess := F_guess.binds (ps := ["top", "size", "least"]) fun _ _ _ _ _ _ us hl => match us, hl with | [_, _, _], _ => rfl,
      g_guess := PySem.W.mg_of X G a_guess,
      F_Fewest_told := F_Fewest_told,
      b_Fewest_told := F_Fewest_told.binds (ps := ["self"]) fun _ _ _ _ _ _ us hl => match us, hl with | [_], _ => rfl,
      F_Fewest_merged := F_Fewest_merged,
      b_Fewest_merged := F_Fewest_merged.binds (ps := ["self", "other"]) fun _ _ _ _ _ _ us hl => match us, hl with | [_, _], _ => rfl,
      F_law := F_law,
      b_law := F_law.binds (ps := ["_law_script"]) fun _ _ _ _ _ _ us hl => match us, hl with | [_], _ => rfl,
      g_law := PySem.W.mg_of X G a_law,
      z_bool := PySem.W.mg_none_of X G z_bool,
      z_enumerate := PySem.W.mg_none_of X G z_enumerate,
      na_Fewest_held := na_Fewest_held,
      na_Fewest_numbers := na_Fewest_numbers,
      na_Fewest_size := na_Fewest_size,
      na_Fewest_top := na_Fewest_top,
      z_int := PySem.W.mg_none_of X G z_int,
      z_isinstance := PySem.W.mg_none_of X G z_isinstance,
      k_MOST_KEYS := ⟨_, PySem.W.mg_of X G kc_MOST_KEYS⟩,
      k_MOST_SIZE := ⟨_, PySem.W.mg_of X G kc_MOST_SIZE⟩,
      k_MOST_TOP := ⟨_, PySem.W.mg_of X G kc_MOST_TOP⟩,
      ki_Fewest := ⟨kit_types kcl_Fewest kty_Fewest, ⟨pg_Fewest, hd_Fewest, po_Fewest, sa_Fewest⟩, kh_Fewest, kn_Fewest, kk_Fewest, km_Fewest⟩,
      z_len := PySem.W.mg_none_of X G z_len,
      z_list := PySem.W.mg_none_of X G z_list,
      z_max := PySem.W.mg_none_of X G z_max,
      m_Fewest_add := ⟨a_Fewest_add, i_Fewest_add, k_Fewest_add⟩,
      m_Fewest_least := ⟨a_Fewest_least, i_Fewest_least, k_Fewest_least⟩,
      m_Fewest_merged := ⟨a_Fewest_merged, i_Fewest_merged, k_Fewest_merged⟩,
      m_Fewest_told := ⟨a_Fewest_told, i_Fewest_told, k_Fewest_told⟩,
      z_min := PySem.W.mg_none_of X G z_min,
      mk_Fewest := ⟨mk_Fewest, a_Fewest_init, i_Fewest_init, kc_Fewest⟩,
      z_range := PySem.W.mg_none_of X G z_range,
      z_set := PySem.W.mg_none_of X G z_set,
      z_sorted := PySem.W.mg_none_of X G z_sorted,
      z_str := PySem.W.mg_none_of X G z_str,
      z_tuple := PySem.W.mg_none_of X G z_tuple,
      gc_Fewest := PySem.W.mg_of X G aC_Fewest,
      cl_Fewest := ⟨pg_Fewest, hd_Fewest, po_Fewest, sa_Fewest⟩ }
  exact ⟨_, fun s v => .of_eq rfl, fun base _ _ => ok_law T⟩
theorem law_sp {K : Kf} {n : Nat} {H : Hp} {a : Addr} {ns : List Int} (hl : ns.length ≤ n) (hS : SqL K H a (ns.map V.int)) (hn : n ≤ 63) : LSp K (sp_law a0) [.ref a] H (fun v _ => v = .bl true) fun _ _ _ => False :=
  ⟨fun _ => none, H, fun _ => none, [.scr ns], fun r _ => r = .d (.bl true), fun _ _ => False, ⟨nofun, fun _ _ e => ⟨e, rfl⟩, nofun, .nil⟩, .cons (.scr hS) .nil, ⟨ns, rfl, fun _ => rfl⟩, fun r h' F' H' v _ _ q e => by
    subst e
    cases q
    rfl, fun _ _ _ _ _ _ _ _ _ q => q⟩
end M3
open PySem PySem.W PyProof.Rows in
set_option maxRecDepth 100000 in
set_option maxHeartbeats 0 in
theorem PySem.Challenge.cw_fewcells_k15_the_fewest_key_by_key_holds : PySem.Challenge.rw_fewcells_k15_the_fewest_key_by_key.Holds := by
  w_on; o_law; k_head; (case hw => w_witness2)
  k_fill
  refine L2.walk_of (l := PySem.Challenge.rw_fewcells_k15_the_fewest_key_by_key) (n := 63) (k := 7) (x := "_law_script") (CX := fun w => L2.CX PySem.Challenge.rw_fewcells_k15_the_fewest_key_by_key.prog w) (sp := fun w => M3.LSp _ (M3.sp_law M3.a0)) rfl (by decide) rfl ⟨rfl, by decide, by decide⟩ (fun w h Y => PySem.W.kIn_of Y) ?F (fun _ _ a ns hl _ hS => M3.law_sp hl hS (Nat.le_refl _)) (fun _ _ _ _ _ ⟨_, _, _, _, _, _, _, _, _, _, _, _, z⟩ => z)
  case F =>
    intro w mg fa h KX G hmg
    refine' M3.all_mk KX G hmg ?aC_Fewest ?a_law_row ?l_law_row ?c_law_row ?k_law_row ?a_law_taken ?l_law_taken ?c_law_taken ?k_law_taken ?a_law_numbers ?l_law_numbers ?c_law_numbers ?k_law_numbers ?a_is_number ?l_is_number ?c_is_number ?k_is_number ?a_need_fewest ?l_need_fewest ?c_need_fewest ?k_need_fewest ?a_Fewest_init ?i_Fewest_init ?l_Fewest_init ?c_Fewest_init ?k_Fewest_init ?a_Fewest_add ?i_Fewest_add ?l_Fewest_add ?c_Fewest_add ?k_Fewest_add ?a_law_alike ?l_law_alike ?c_law_alike ?k_law_alike ?a_law_guess ?l_law_guess ?c_law_guess ?k_law_guess ?a_Fewest_least ?i_Fewest_least ?l_Fewest_least ?c_Fewest_least ?k_Fewest_least ?a_guess ?l_guess ?c_guess ?k_guess ?a_Fewest_told ?i_Fewest_told ?l_Fewest_told ?c_Fewest_told ?k_Fewest_told ?a_Fewest_merged ?i_Fewest_merged ?l_Fewest_merged ?c_Fewest_merged ?k_Fewest_merged ?a_law ?l_law ?c_law ?k_law ?pg_Fewest ?hd_Fewest ?po_Fewest ?sa_Fewest ?mk_Fewest ?kc_Fewest ?z_bool ?z_enumerate ?na_Fewest_held ?na_Fewest_numbers ?na_Fewest_size ?na_Fewest_top ?z_int ?z_isinstance ?kc_MOST_KEYS ?kc_MOST_SIZE ?kc_MOST_TOP ?kcl_Fewest ?kty_Fewest ?kh_Fewest ?kn_Fewest ?kk_Fewest ?km_Fewest ?z_len ?z_list ?z_max ?z_min ?z_range ?z_set ?z_sorted ?z_str ?z_tuple
    (case aC_Fewest => k_is)
    (case a_law_row => k_is)
    (case l_law_row => k_is)
    (case c_law_row => k_is)
    (case k_law_row => k_is)
    (case a_law_taken => k_is)
    (case l_law_taken => k_is)
    (case c_law_taken => k_is)
    (case k_law_taken => k_is)
    (case a_law_numbers => k_is)
    (case l_law_numbers => k_is)
    (case c_law_numbers => k_is)
    (case k_law_numbers => k_is)
    (case a_is_number => k_is)
    (case l_is_number => k_is)
    (case c_is_number => k_is)
    (case k_is_number => k_is)
    (case a_need_fewest => k_is)
    (case l_need_fewest => k_is)
    (case c_need_fewest => k_is)
    (case k_need_fewest => k_is)
    (case a_Fewest_init => k_is)
    (case i_Fewest_init => k_is)
    (case l_Fewest_init => k_is)
    (case c_Fewest_init => k_is)
    (case k_Fewest_init => k_is)
    (case a_Fewest_add => k_is)
    (case i_Fewest_add => k_is)
    (case l_Fewest_add => k_is)
    (case c_Fewest_add => k_is)
    (case k_Fewest_add => k_is)
    (case a_law_alike => k_is)
    (case l_law_alike => k_is)
    (case c_law_alike => k_is)
    (case k_law_alike => k_is)
    (case a_law_guess => k_is)
    (case l_law_guess => k_is)
    (case c_law_guess => k_is)
    (case k_law_guess => k_is)
    (case a_Fewest_least => k_is)
    (case i_Fewest_least => k_is)
    (case l_Fewest_least => k_is)
    (case c_Fewest_least => k_is)
    (case k_Fewest_least => k_is)
    (case a_guess => k_is)
    (case l_guess => k_is)
    (case c_guess => k_is)
    (case k_guess => k_is)
    (case a_Fewest_told => k_is)
    (case i_Fewest_told => k_is)
    (case l_Fewest_told => k_is)
    (case c_Fewest_told => k_is)
    (case k_Fewest_told => k_is)
    (case a_Fewest_merged => k_is)
    (case i_Fewest_merged => k_is)
    (case l_Fewest_merged => k_is)
    (case c_Fewest_merged => k_is)
    (case k_Fewest_merged => k_is)
    (case a_law => k_is)
    (case l_law => k_is)
    (case c_law => k_is)
    (case k_law => k_is)
    (case pg_Fewest => k_is)
    (case hd_Fewest => k_is)
    (case po_Fewest => k_is)
    (case sa_Fewest => k_is)
    (case mk_Fewest => k_is)
    (case kc_Fewest => k_is)
    (case z_bool => k_is)
    (case z_enumerate => k_is)
    (case na_Fewest_held => k_is)
    (case na_Fewest_numbers => k_is)
    (case na_Fewest_size => k_is)
    (case na_Fewest_top => k_is)
    (case z_int => k_is)
    (case z_isinstance => k_is)
    (case kc_MOST_KEYS => k_is)
    (case kc_MOST_SIZE => k_is)
    (case kc_MOST_TOP => k_is)
    (case kcl_Fewest => k_is)
    (case kty_Fewest => k_is)
    (case kh_Fewest => k_is)
    (case kn_Fewest => k_is)
    (case kk_Fewest => k_is)
    (case km_Fewest => k_is)
    (case z_len => k_is)
    (case z_list => k_is)
    (case z_max => k_is)
    (case z_min => k_is)
    (case z_range => k_is)
    (case z_set => k_is)
    (case z_sorted => k_is)
    (case z_str => k_is)
    (case z_tuple => k_is)
