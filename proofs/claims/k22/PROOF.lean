import PyProof.Rows.All
import Wide.All
import OpenK.AllK
import Wide.FinOn
import HandS.ForMost
import HandS.ForExc
import HandS.CallSlots
import HandS.Walk
import HandS.Zip
import HandS.Conv
import HandS.TupAny
import HandS.DictComp
import HandS.IsInst
import HandS.SortInts
import HandS.Wide
import HandS.TupMul
import HandS.WordsDict
import KE.GoesEnum
import KE.GoesMore
import KE.GoesZip
import HandS.Style
import HandS.BoundList
import HandS.Codes
import PySem.Challenge.RW_fewcells_k22_written_and_read
set_option Elab.async false
set_option linter.all false
set_option maxRecDepth 100000
set_option maxHeartbeats 4000000
/-! M3: data of any depth, a small heap of cells, each construct's meaning on them. -/
namespace M3
open PySem L2
abbrev Kf := PySem.W.Frag
/-- what a program computes with, without the heap; ref: a cell that may change; scr: the script -/
inductive D where
  | non | bl (b : Bool) | int (i : Int) | str (x : Str)
  | tup (xs : List D) | lst (xs : List D) | dct (kvs : List (Key × D)) | ref (a : Addr) | scr (ns : List Int)
/-- a cell: a list, a dict, an instance -/
inductive MO where
  | lst (xs : List D) | dct (kvs : List (Key × D)) | ins (C : Addr) (fs : List (Str × D))
abbrev MH := Addr → Option MO
def put (h : MH) (a : Addr) (m : MO) : MH := fun b => if b = a then some m else h b
def del (h : MH) (a : Addr) : MH := fun b => if b = a then none else h b
abbrev En := List (Option D)
/-- a result: data, or a list, a dict that nobody else has -/
inductive RV where
  | d (x : D) | ol (xs : List D) | od (kvs : List (Key × D))
def RV.frz : RV → D
  | .d x => x
  | .ol xs => .lst xs
  | .od kvs => .dct kvs
structure EX where
  c : Addr
  fs : List (Str × D)
abbrev XKm := EX → MH → Prop
abbrev TEm := En → MH → (RV → MH → Prop) → XKm → Prop
abbrev TVm := En → MH → (D → MH → Prop) → XKm → Prop
abbrev TTm := En → MH → (Bool → MH → Prop) → XKm → Prop
abbrev TAm := En → MH → (List D → MH → Prop) → XKm → Prop
structure Nd where
  nx : En → MH → Prop
  rt : RV → MH → Prop
  bk : En → MH → Prop := fun _ _ => False
  ct : En → MH → Prop := fun _ _ => False
  xs : XKm := fun _ _ => False
abbrev TSm := Nd → En → MH → Prop

/-! ### how data lies in the heap -/
mutual
inductive Rep (K : Kf) (F : Hp) : D → V → Prop
  | non : Rep K F .non .non
  | bl (b : Bool) : Rep K F (.bl b) (.bl b)
  | int (i : Int) : Rep K F (.int i) (.int i)
  | str (x : Str) : Rep K F (.str x) (.str x)
  | ref (a : Addr) : Rep K F (.ref a) (.ref a)
  | tup {a : Addr} {vs : List V} {ds : List D} : SqT K F a vs → Reps K F ds vs → Rep K F (.tup ds) (.ref a)
  | lst {a : Addr} {vs : List V} {ds : List D} : F a = some (.lst vs) → Reps K F ds vs → Rep K F (.lst ds) (.ref a)
  | dct {a : Addr} {ws : List (Key × V)} {kvs : List (Key × D)} : Rd F a (.dK ws) → RepK K F kvs ws → Rep K F (.dct kvs) (.ref a)
  | scr {a : Addr} {ns : List Int} : SqL K F a (ns.map V.int) → Rep K F (.scr ns) (.ref a)
inductive Reps (K : Kf) (F : Hp) : List D → List V → Prop
  | nil : Reps K F [] []
  | cons {d : D} {v : V} {ds : List D} {vs : List V} : Rep K F d v → Reps K F ds vs → Reps K F (d :: ds) (v :: vs)
inductive RepK (K : Kf) (F : Hp) : List (Key × D) → List (Key × V) → Prop
  | nil : RepK K F [] []
  | cons {k : Key} {d : D} {v : V} {ds : List (Key × D)} {vs : List (Key × V)} : Rep K F d v → RepK K F ds vs → RepK K F ((k, d) :: ds) ((k, v) :: vs)
end
inductive RepF (K : Kf) (F : Hp) : List (Str × D) → List (Str × V) → Prop
  | nil : RepF K F [] []
  | cons {k : Str} {d : D} {v : V} {ds : List (Str × D)} {vs : List (Str × V)} : Rep K F d v → RepF K F ds vs → RepF K F ((k, d) :: ds) ((k, v) :: vs)
/-- what is read in F is read in F' -/
structure Le (F F' : Hp) : Prop where
  rd : ∀ a u, Rd F a u → Rd F' a u
  ls : ∀ a vs, F a = some (.lst vs) → F' a = some (.lst vs)
theorem Le.refl (F : Hp) : Le F F := ⟨fun _ _ h => h, fun _ _ h => h⟩
theorem Le.trans {F F1 F2 : Hp} (a : Le F F1) (b : Le F1 F2) : Le F F2 := ⟨fun x u h => b.rd x u (a.rd x u h), fun x u h => b.ls x u (a.ls x u h)⟩
theorem Le.new {F : Hp} {p : Addr} {o : HO} (h : F p = none) : Le F (upd F p o) := by
  refine ⟨fun a u q => ?_, fun a vs q => ?_⟩
  · rcases q with q | ⟨ob, q⟩
    · exact .inl (by rw [upd_ne (ne_of_none q h)]; exact q)
    · exact .inr ⟨ob, by rw [upd_ne (ne_of_none q h)]; exact q⟩
  · rw [upd_ne (ne_of_none q h)]; exact q
theorem Le.sqT {K : Kf} {F F' : Hp} {a : Addr} {xs : List V} (e : Le F F') (h : SqT K F a xs) : SqT K F' a xs := by
  rcases h with h | h
  · exact .inl (e.rd _ _ h)
  · exact .inr h
theorem Le.sqL {K : Kf} {F F' : Hp} {a : Addr} {xs : List V} (e : Le F F') (h : SqL K F a xs) : SqL K F' a xs := by
  rcases h with h | h
  · exact .inl (e.rd _ _ h)
  · exact .inr h
mutual
theorem Rep.mono {K : Kf} {F F' : Hp} (e : Le F F') : ∀ {d : D} {v : V}, Rep K F d v → Rep K F' d v
  | _, _, .non => .non
  | _, _, .bl b => .bl b
  | _, _, .int i => .int i
  | _, _, .str x => .str x
  | _, _, .ref a => .ref a
  | _, _, .tup h r => .tup (e.sqT h) (Reps.mono e r)
  | _, _, .lst h r => .lst (e.ls _ _ h) (Reps.mono e r)
  | _, _, .dct h r => .dct (e.rd _ _ h) (RepK.mono e r)
  | _, _, .scr h => .scr (e.sqL h)
theorem Reps.mono {K : Kf} {F F' : Hp} (e : Le F F') : ∀ {ds : List D} {vs : List V}, Reps K F ds vs → Reps K F' ds vs
  | _, _, .nil => .nil
  | _, _, .cons a r => .cons (Rep.mono e a) (Reps.mono e r)
theorem RepK.mono {K : Kf} {F F' : Hp} (e : Le F F') : ∀ {ds : List (Key × D)} {vs : List (Key × V)}, RepK K F ds vs → RepK K F' ds vs
  | _, _, .nil => .nil
  | _, _, .cons a r => .cons (Rep.mono e a) (RepK.mono e r)
end
theorem RepF.mono {K : Kf} {F F' : Hp} (e : Le F F') : ∀ {ds : List (Str × D)} {vs : List (Str × V)}, RepF K F ds vs → RepF K F' ds vs
  | _, _, .nil => .nil
  | _, _, .cons a r => .cons (Rep.mono e a) (RepF.mono e r)
section
variable {K : Kf} {F : Hp}
theorem Reps.len : ∀ {ds : List D} {vs : List V}, Reps K F ds vs → ds.length = vs.length
  | _, _, .nil => rfl
  | _, _, .cons _ r => congrArg (· + 1) r.len
theorem RepK.len : ∀ {ds : List (Key × D)} {vs : List (Key × V)}, RepK K F ds vs → ds.length = vs.length
  | _, _, .nil => rfl
  | _, _, .cons _ r => congrArg (· + 1) r.len
theorem RepF.len : ∀ {ds : List (Str × D)} {vs : List (Str × V)}, RepF K F ds vs → ds.length = vs.length
  | _, _, .nil => rfl
  | _, _, .cons _ r => congrArg (· + 1) r.len
theorem Reps.get : ∀ {ds : List D} {vs : List V} {i : Nat} {d : D}, Reps K F ds vs → ds[i]? = some d → ∃ v, vs[i]? = some v ∧ Rep K F d v
  | _, _, 0, _, .cons a _, e => by
    cases e
    exact ⟨_, rfl, a⟩
  | _, _, i + 1, d, .cons _ r, e => Reps.get (i := i) r e
theorem Reps.getV : ∀ {ds : List D} {vs : List V} {i : Nat} {v : V}, Reps K F ds vs → vs[i]? = some v → ∃ d, ds[i]? = some d ∧ Rep K F d v
  | _, _, 0, _, .cons a _, e => by
    cases e
    exact ⟨_, rfl, a⟩
  | _, _, i + 1, d, .cons _ r, e => Reps.getV (i := i) r e
theorem Reps.app : ∀ {ds es : List D} {vs ws : List V}, Reps K F ds vs → Reps K F es ws → Reps K F (ds ++ es) (vs ++ ws)
  | _, _, _, _, .nil, b => b
  | _, _, _, _, .cons a r, b => .cons a (Reps.app r b)
theorem Reps.set {d : D} {v : V} (a : Rep K F d v) : ∀ {ds : List D} {vs : List V} (i : Nat), Reps K F ds vs → Reps K F (ds.set i d) (vs.set i v)
  | _, _, _, .nil => .nil
  | _, _, 0, .cons _ r => .cons a r
  | _, _, i + 1, .cons b r => .cons b (Reps.set a i r)
theorem Reps.take : ∀ {ds : List D} {vs : List V} (n : Nat), Reps K F ds vs → Reps K F (ds.take n) (vs.take n)
  | _, _, 0, _ => .nil
  | _, _, _ + 1, .nil => .nil
  | _, _, n + 1, .cons a r => .cons a (Reps.take n r)
theorem Reps.drop : ∀ {ds : List D} {vs : List V} (n : Nat), Reps K F ds vs → Reps K F (ds.drop n) (vs.drop n)
  | _, _, 0, r => r
  | _, _, _ + 1, .nil => .nil
  | _, _, n + 1, .cons _ r => Reps.drop n r
theorem Reps.rev : ∀ {ds : List D} {vs : List V}, Reps K F ds vs → Reps K F ds.reverse vs.reverse
  | _, _, .nil => .nil
  | _, _, .cons a r => by
    rw [List.reverse_cons, List.reverse_cons]
    exact (Reps.rev r).app (.cons a .nil)
theorem Reps.erase : ∀ {ds : List D} {vs : List V} (i : Nat), Reps K F ds vs → Reps K F (ds.eraseIdx i) (vs.eraseIdx i)
  | _, _, _, .nil => .nil
  | _, _, 0, .cons _ r => r
  | _, _, i + 1, .cons a r => .cons a (Reps.erase i r)
theorem Reps.rep {ds : List D} {vs : List V} (r : Reps K F ds vs) : ∀ n, Reps K F (List.replicate n ds).flatten (List.replicate n vs).flatten
  | 0 => .nil
  | n + 1 => by
    rw [List.replicate_succ, List.replicate_succ, List.flatten_cons, List.flatten_cons]
    exact r.app (Reps.rep r n)
theorem Reps.of_ints : ∀ {ns : List Int} {vs : List V}, Reps K F (ns.map D.int) vs → vs = ns.map V.int
  | [], _, .nil => rfl
  | n :: ns, _, .cons (.int _) r => by
    show _ = V.int n :: ns.map V.int
    rw [Reps.of_ints r]
theorem Reps.ints : ∀ (ns : List Int), Reps K F (ns.map D.int) (ns.map V.int)
  | [] => .nil
  | _ :: ns => .cons (.int _) (Reps.ints ns)
theorem Reps.of_bls : ∀ {ns : List Bool} {vs : List V}, Reps K F (ns.map D.bl) vs → vs = ns.map V.bl
  | [], _, .nil => rfl
  | n :: ns, _, .cons (.bl _) r => by
    show _ = V.bl n :: ns.map V.bl
    rw [Reps.of_bls r]
theorem Reps.of_strs : ∀ {ns : List Str} {vs : List V}, Reps K F (ns.map D.str) vs → vs = ns.map V.str
  | [], _, .nil => rfl
  | n :: ns, _, .cons (.str _) r => by
    show _ = V.str n :: ns.map V.str
    rw [Reps.of_strs r]
theorem Reps.strs : ∀ (ns : List Str), Reps K F (ns.map D.str) (ns.map V.str)
  | [] => .nil
  | _ :: ns => .cons (.str _) (Reps.strs ns)
end

/-! ### a state of the mirror and a state of the layer -/
def Cel (K : Kf) (F H : Hp) (a : Addr) : MO → Prop
  | .lst xs => ∃ vs, H a = some (.lst vs) ∧ Reps K F xs vs
  | .dct kvs => ∃ ws, H a = some (.dK ws) ∧ RepK K F kvs ws
  | .ins C fs => ∃ dx ws, H a = some (.ins C dx ws) ∧ RepF K F fs ws
inductive Slots (K : Kf) (F : Hp) : En → St → Prop
  | nil : Slots K F [] []
  | non {w : Option V} {E : En} {σ : St} : Slots K F E σ → Slots K F (none :: E) (w :: σ)
  | val {d : D} {v : V} {E : En} {σ : St} : Rep K F d v → Slots K F E σ → Slots K F (some d :: E) (some v :: σ)
structure Rel (K : Kf) (B F : Hp) (E : En) (h : MH) (σ : St) (H : Hp) : Prop where
  out : ∀ a o, B a = some o → H a = some o ∧ F a = none ∧ h a = none
  frz : ∀ a o, F a = some o → H a = some o ∧ h a = none
  cel : ∀ a m, h a = some m → Cel K F H a m
  slot : Slots K F E σ
theorem Cel.some {K : Kf} {F H : Hp} {a : Addr} {m : MO} (c : Cel K F H a m) : ∃ o, H a = some o := by
  cases m with
  | lst xs => obtain ⟨_, e, _⟩ := c; exact ⟨_, e⟩
  | dct xs => obtain ⟨_, e, _⟩ := c; exact ⟨_, e⟩
  | ins xs => obtain ⟨_, _, e, _⟩ := c; exact ⟨_, e⟩
theorem Cel.mono {K : Kf} {F F' H H' : Hp} {a : Addr} {m : MO} (c : Cel K F H a m) (e : Le F F') (k : H' a = H a) : Cel K F' H' a m := by
  cases m with
  | lst xs => obtain ⟨vs, q, r⟩ := c; exact ⟨vs, k.trans q, r.mono e⟩
  | dct xs => obtain ⟨vs, q, r⟩ := c; exact ⟨vs, k.trans q, r.mono e⟩
  | ins xs => obtain ⟨dx, vs, q, r⟩ := c; exact ⟨dx, vs, k.trans q, r.mono e⟩
theorem Slots.mono {K : Kf} {F F' : Hp} (e : Le F F') : ∀ {E : En} {σ : St}, Slots K F E σ → Slots K F' E σ
  | _, _, .nil => .nil
  | _, _, .non r => .non (Slots.mono e r)
  | _, _, .val a r => .val (a.mono e) (Slots.mono e r)
theorem Slots.len {K : Kf} {F : Hp} : ∀ {E : En} {σ : St}, Slots K F E σ → E.length = σ.length
  | _, _, .nil => rfl
  | _, _, .non r => congrArg (· + 1) r.len
  | _, _, .val _ r => congrArg (· + 1) r.len
theorem Slots.get {K : Kf} {F : Hp} : ∀ {E : En} {σ : St} {i : Nat} {d : D}, Slots K F E σ → E[i]? = some (some d) → ∃ v, σ[i]? = some (some v) ∧ Rep K F d v
  | _, _, 0, _, .val a _, e => by
    cases e
    exact ⟨_, rfl, a⟩
  | _, _, 0, _, .non _, e => by cases e
  | _, _, i + 1, d, .non r, e => Slots.get (i := i) r e
  | _, _, i + 1, d, .val _ r, e => Slots.get (i := i) r e
theorem Slots.set {K : Kf} {F : Hp} {d : D} {v : V} (a : Rep K F d v) : ∀ {E : En} {σ : St} (i : Nat), Slots K F E σ → Slots K F (E.set i (some d)) (σ.set i (some v))
  | _, _, _, .nil => .nil
  | _, _, 0, .non r => .val a r
  | _, _, 0, .val _ r => .val a r
  | _, _, i + 1, .non r => .non (Slots.set a i r)
  | _, _, i + 1, .val b r => .val b (Slots.set a i r)
/-- forget a slot; what the layer has there may be anything -/
theorem Slots.gone {K : Kf} {F : Hp} {w : Option V} : ∀ {E : En} {σ : St} (i : Nat), Slots K F E σ → Slots K F (E.set i none) (σ.set i w)
  | _, _, _, .nil => .nil
  | _, _, 0, .non r => .non r
  | _, _, 0, .val _ r => .non r
  | _, _, i + 1, .non r => .non (Slots.gone i r)
  | _, _, i + 1, .val b r => .val b (Slots.gone i r)
theorem Slots.gone' {K : Kf} {F : Hp} : ∀ {E : En} {σ : St} (i : Nat), Slots K F E σ → Slots K F (E.set i none) σ
  | _, _, _, .nil => .nil
  | _, _, 0, .non r => .non r
  | _, _, 0, .val _ r => .non r
  | _, _, i + 1, .non r => .non (Slots.gone' i r)
  | _, _, i + 1, .val b r => .val b (Slots.gone' i r)
section
variable {K : Kf} {B F : Hp} {E : En} {h : MH} {σ : St} {H : Hp}
theorem Rel.noB (R : Rel K B F E h σ H) {p : Addr} (q : H p = none) : B p = none := by
  cases e : B p with
  | none => rfl
  | some o => rw [(R.out p o e).1] at q; cases q
theorem Rel.noF (R : Rel K B F E h σ H) {p : Addr} (q : H p = none) : F p = none := by
  cases e : F p with
  | none => rfl
  | some o => rw [(R.frz p o e).1] at q; cases q
theorem Rel.noh (R : Rel K B F E h σ H) {p : Addr} (q : H p = none) : h p = none := by
  cases e : h p with
  | none => rfl
  | some m =>
    obtain ⟨o, z⟩ := (R.cel p m e).some
    rw [z] at q; cases q
theorem Rel.Bh (R : Rel K B F E h σ H) {p : Addr} {m : MO} (q : h p = some m) : B p = none := by
  cases e : B p with
  | none => rfl
  | some o => rw [(R.out p o e).2.2] at q; cases q
theorem Rel.Fh (R : Rel K B F E h σ H) {p : Addr} {m : MO} (q : h p = some m) : F p = none := by
  cases e : F p with
  | none => rfl
  | some o => rw [(R.frz p o e).2] at q; cases q
theorem Rel.rd (R : Rel K B F E h σ H) {a : Addr} {u : HO} (q : Rd F a u) : Rd H a u := by
  rcases q with q | ⟨ob, q⟩
  · exact .inl (R.frz _ _ q).1
  · exact .inr ⟨ob, (R.frz _ _ q).1⟩
theorem Rel.sqT (R : Rel K B F E h σ H) {a : Addr} {xs : List V} (q : SqT K F a xs) : SqT K H a xs := by
  rcases q with q | q
  · exact .inl (R.rd q)
  · exact .inr q
theorem Rel.sqL (R : Rel K B F E h σ H) {a : Addr} {xs : List V} (q : SqL K F a xs) : SqL K H a xs := by
  rcases q with q | q
  · exact .inl (R.rd q)
  · exact .inr q
/-- a new object that nobody changes -/
theorem Rel.newF (R : Rel K B F E h σ H) {p : Addr} {o : HO} (q : H p = none) : Rel K B (upd F p o) E h σ (upd H p o) where
  out := fun a u e => by
    have z := R.out a u e
    have n : a ≠ p := ne_of_none z.1 q
    rw [upd_ne n, upd_ne n]
    exact z
  frz := fun a u e => by
    by_cases n : a = p
    · subst n
      rw [upd_same] at e ⊢
      exact ⟨e, R.noh q⟩
    · rw [upd_ne n] at e ⊢
      exact R.frz a u e
  cel := fun a m e => by
    have n : a ≠ p := fun z => by
      rw [z, R.noh q] at e
      cases e
    exact (R.cel a m e).mono (Le.new (R.noF q)) (upd_ne n)
  slot := R.slot.mono (Le.new (R.noF q))
/-- a new object that is not spoken of -/
theorem Rel.newO (R : Rel K B F E h σ H) {p : Addr} {o : HO} (q : H p = none) : Rel K B F E h σ (upd H p o) where
  out := fun a u e => by
    have z := R.out a u e
    rw [upd_ne (ne_of_none z.1 q)]
    exact z
  frz := fun a u e => by
    have z := R.frz a u e
    rw [upd_ne (ne_of_none z.1 q)]
    exact z
  cel := fun a m e => by
    have n : a ≠ p := fun z => by
      rw [z, R.noh q] at e
      cases e
    exact (R.cel a m e).mono (Le.refl F) (upd_ne n)
  slot := R.slot
/-- what nobody has may become frozen -/
theorem Rel.toF (R : Rel K B F E h σ H) {p : Addr} {o : HO} (q : H p = some o) (b : B p = none) (f : F p = none) (n : h p = none) : Rel K B (upd F p o) E h σ H where
  out := fun a u e => by
    have z := R.out a u e
    have nn : a ≠ p := ne_of_none e b
    rw [upd_ne nn]
    exact z
  frz := fun a u e => by
    by_cases nn : a = p
    · subst nn
      rw [upd_same] at e
      cases e
      exact ⟨q, n⟩
    · rw [upd_ne nn] at e
      exact R.frz a u e
  cel := fun a m e => (R.cel a m e).mono (Le.new f) rfl
  slot := R.slot.mono (Le.new f)
/-- .. or a cell -/
theorem Rel.toC (R : Rel K B F E h σ H) {p : Addr} {m : MO} (c : Cel K F H p m) (b : B p = none) (f : F p = none) : Rel K B F E (put h p m) σ H where
  out := fun a u e => by
    have z := R.out a u e
    have nn : a ≠ p := ne_of_none e b
    refine ⟨z.1, z.2.1, ?_⟩
    show (if a = p then _ else _) = _
    rw [if_neg nn]
    exact z.2.2
  frz := fun a u e => by
    have z := R.frz a u e
    have nn : a ≠ p := ne_of_none e f
    refine ⟨z.1, ?_⟩
    show (if a = p then _ else _) = _
    rw [if_neg nn]
    exact z.2
  cel := fun a m' e => by
    have e : (if a = p then some m else h a) = some m' := e
    by_cases nn : a = p
    · rw [if_pos nn] at e
      cases e
      rw [nn]
      exact c
    · rw [if_neg nn] at e
      exact R.cel a m' e
  slot := R.slot
/-- forget cells -/
theorem Rel.less (R : Rel K B F E h σ H) {h' : MH} (k : ∀ a m, h' a = some m → h a = some m) : Rel K B F E h' σ H where
  out := fun a u e => by
    have z := R.out a u e
    refine ⟨z.1, z.2.1, ?_⟩
    cases q : h' a with
    | none => rfl
    | some m =>
      have := k a m q
      rw [z.2.2] at this
      cases this
  frz := fun a u e => by
    have z := R.frz a u e
    refine ⟨z.1, ?_⟩
    cases q : h' a with
    | none => rfl
    | some m =>
      have := k a m q
      rw [z.2] at this
      cases this
  cel := fun a m e => R.cel a m (k a m e)
  slot := R.slot
theorem del_some {h : MH} {p a : Addr} {m : MO} (e : del h p a = some m) : h a = some m ∧ a ≠ p := by
  have e : (if a = p then none else h a) = some m := e
  by_cases n : a = p
  · rw [if_pos n] at e
    cases e
  · rw [if_neg n] at e
    exact ⟨e, n⟩
theorem del_same {h : MH} {p : Addr} : del h p p = none := if_pos rfl
/-- a cell changes -/
theorem Rel.write (R : Rel K B F E h σ H) {p : Addr} {m m' : MO} {o : HO} (c : h p = some m) (n : Cel K F (upd H p o) p m') : Rel K B F E (put h p m') σ (upd H p o) := by
  have b := R.Bh c
  have f := R.Fh c
  have R1 : Rel K B F E (del h p) σ (upd H p o) := by
    refine ⟨fun a u e => ?_, fun a u e => ?_, fun a m e => ?_, R.slot⟩
    · have z := R.out a u e
      rw [upd_ne (ne_of_none e b)]
      refine ⟨z.1, z.2.1, ?_⟩
      show (if a = p then _ else _) = _
      rw [if_neg (ne_of_none e b)]
      exact z.2.2
    · have z := R.frz a u e
      rw [upd_ne (ne_of_none e f)]
      refine ⟨z.1, ?_⟩
      show (if a = p then _ else _) = _
      rw [if_neg (ne_of_none e f)]
      exact z.2
    · obtain ⟨e, nn⟩ := del_some e
      exact (R.cel a m e).mono (Le.refl F) (upd_ne nn)
  have R2 := R1.toC n b f
  have eq : put (del h p) p m' = put h p m' := by
    funext a
    show (if a = p then _ else (if a = p then _ else _)) = if a = p then _ else _
    by_cases z : a = p
    · rw [if_pos z, if_pos z]
    · rw [if_neg z, if_neg z, if_neg z]
  rw [eq] at R2
  exact R2
theorem Rel.slots (R : Rel K B F E h σ H) {E' : En} {σ' : St} (s : Slots K F E' σ') : Rel K B F E' h σ' H := ⟨R.out, R.frz, R.cel, s⟩
theorem Rel.set (R : Rel K B F E h σ H) {d : D} {v : V} (a : Rep K F d v) (i : Nat) : Rel K B F (E.set i (some d)) h (σ.set i (some v)) H := R.slots (R.slot.set a i)
end

/-! ### the judgements -/
def RvOk (K : Kf) (B F : Hp) (h : MH) (H : Hp) : RV → V → Prop
  | .d x, v => Rep K F x v
  | .ol xs, v => ∃ l vs, v = .ref l ∧ H l = some (.lst vs) ∧ Reps K F xs vs ∧ B l = none ∧ F l = none ∧ h l = none
  | .od kvs, v => ∃ l ws, v = .ref l ∧ H l = some (.dK ws) ∧ RepK K F kvs ws ∧ B l = none ∧ F l = none ∧ h l = none
def XOk (K : Kf) (F : Hp) (x : EX) (c : Value) (dx : Option Addr) : Prop :=
  c = .ref x.c ∧ ((x.fs = [] ∧ dx = none) ∨ ∃ d ws, dx = some d ∧ F d = some (.xd ws) ∧ RepF K F x.fs ws)
/-- what is wanted behind an expression: of its result, of an exception -/
structure Fin (K : Kf) (B F : Hp) (E : En) (σ : St) (W : WX) (Kn : RV → MH → Prop) (Kx : XKm) (Q : VK) : Prop where
  ok : ∀ r h' F' H' v, Le F F' → Rel K B F' E h' σ H' → RvOk K B F' h' H' r v → Kn r h' → Q v H'
  ex : ∀ x h' F' H' c dx, Le F F' → Rel K B F' E h' σ H' → XOk K F' x c dx → Kx x h' → W c dx σ H'
/-- an exception that leaves: the wish about it -/
abbrev XFin (K : Kf) (B F : Hp) (E : En) (σ : St) (W : WX) (Kx : XKm) : Prop := ∀ x h' F' H' c dx, Le F F' → Rel K B F' E h' σ H' → XOk K F' x c dx → Kx x h' → W c dx σ H'
theorem XFin.up {K : Kf} {B F F' : Hp} {E : En} {σ : St} {W : WX} {Kx : XKm} (x : XFin K B F E σ W Kx) (e : Le F F') : XFin K B F' E σ W Kx := fun a h' F2 H' c dx l => x a h' F2 H' c dx (e.trans l)
def LE (K : Kf) (B : Hp) (W : WX) (t : TEm) : TE := fun σ H Q => ∃ F E h Kn Kx, Rel K B F E h σ H ∧ t E h Kn Kx ∧ XFin K B F E σ W Kx ∧
  ∀ r h' F' H' v, Le F F' → Rel K B F' E h' σ H' → RvOk K B F' h' H' r v → Kn r h' → Q v H'
def LV (K : Kf) (B : Hp) (W : WX) (t : TVm) : TE := fun σ H Q => ∃ F E h Kn Kx, Rel K B F E h σ H ∧ t E h Kn Kx ∧ XFin K B F E σ W Kx ∧
  ∀ d h' F' H' v, Le F F' → Rel K B F' E h' σ H' → Rep K F' d v → Kn d h' → Q v H'
def LT (K : Kf) (B : Hp) (W : WX) (t : TTm) : TT := fun σ H Q => ∃ F E h Kn Kx, Rel K B F E h σ H ∧ t E h Kn Kx ∧ XFin K B F E σ W Kx ∧
  ∀ b h' F' H', Le F F' → Rel K B F' E h' σ H' → Kn b h' → Q b H'
def LA (K : Kf) (B : Hp) (W : WX) (t : TAm) : TA := fun σ H Q => ∃ F E h Kn Kx, Rel K B F E h σ H ∧ t E h Kn Kx ∧ XFin K B F E σ W Kx ∧
  ∀ ds h' F' H' vs, Le F F' → Rel K B F' E h' σ H' → Reps K F' ds vs → Kn ds h' → Q vs H'
def LS (K : Kf) (B : Hp) (W : WX) (t : TSm) : TS := fun D σ H => ∃ (F : Hp) (E : En) (h : MH) (N : Nd), Rel K B F E h σ H ∧ t N E h ∧
  (∀ E' h' F' σ' H', Le F F' → Rel K B F' E' h' σ' H' → N.nx E' h' → D.nx σ' H') ∧
  (∀ r h' F' E' σ' H' v, Le F F' → Rel K B F' E' h' σ' H' → RvOk K B F' h' H' r v → N.rt r h' → D.rt v H') ∧
  (∀ E' h' F' σ' H', Le F F' → Rel K B F' E' h' σ' H' → N.bk E' h' → D.bk σ' H') ∧
  (∀ E' h' F' σ' H', Le F F' → Rel K B F' E' h' σ' H' → N.ct E' h' → D.ct σ' H') ∧
  (∀ x h' F' E' σ' H' c dx, Le F F' → Rel K B F' E' h' σ' H' → XOk K F' x c dx → N.xs x h' → W c dx σ' H')
/-- e means t (a result) -/
def ME (X : Cx) (W : WX) (e : Expr) (t : TEm) : Prop := ∀ B : Hp, PE X e (LE X.K B W t)
/-- e means t (data) -/
def MV (X : Cx) (W : WX) (e : Expr) (t : TVm) : Prop := ∀ B : Hp, PE X e (LV X.K B W t)
def MT (X : Cx) (W : WX) (e : Expr) (t : TTm) : Prop := ∀ B : Hp, PT X e (LT X.K B W t)
def MW (X : Cx) (W : WX) (e : Expr) (t : TTm) : Prop := ∀ B : Hp, PW X e (LT X.K B W t)
def MA (X : Cx) (W : WX) (es : List Expr) (t : TAm) : Prop := ∀ B : Hp, PA X es (LA X.K B W t)
def MS (X : Cx) (W : WX) (st : Stmt) (t : TSm) : Prop := ∀ B : Hp, PS X st (LS X.K B W t)
def MB (X : Cx) (W : WX) (st : List Stmt) (t : TSm) : Prop := ∀ B : Hp, PSs X st (LS X.K B W t)
theorem _root_.L2.PE.impM {X : Cx} {e : Expr} {t t' : TE} (p : PE X e t) (h : ∀ σ H Q, t' σ H Q → t σ H Q) : PE X e t' := ⟨fun pins s σ H Q I q => p.run pins s σ H Q I (h σ H Q q)⟩
theorem _root_.L2.PT.impM {X : Cx} {e : Expr} {t t' : TT} (p : PT X e t) (h : ∀ σ H Q, t' σ H Q → t σ H Q) : PT X e t' := ⟨fun pins s σ H Q I q => p.run pins s σ H Q I (h σ H Q q)⟩
theorem _root_.L2.PW.impM {X : Cx} {e : Expr} {t t' : TT} (p : PW X e t) (h : ∀ σ H Q, t' σ H Q → t σ H Q) : PW X e t' := ⟨fun w pins s σ H Q I q => p.run w pins s σ H Q I (h σ H Q q)⟩
theorem _root_.L2.PA.impM {X : Cx} {e : List Expr} {t t' : TA} (p : PA X e t) (h : ∀ σ H Q, t' σ H Q → t σ H Q) : PA X e t' := ⟨fun w pins s σ H Q I q => p.run w pins s σ H Q I (h σ H Q q)⟩
theorem _root_.L2.PS.impM {X : Cx} {e : Stmt} {t t' : TS} (p : PS X e t) (h : ∀ D σ H, t' D σ H → t D σ H) : PS X e t' := ⟨fun pins s σ H D I q => p.run pins s σ H D I (h D σ H q)⟩
theorem _root_.L2.PSs.impM {X : Cx} {e : List Stmt} {t t' : TS} (p : PSs X e t) (h : ∀ D σ H, t' D σ H → t D σ H) : PSs X e t' := ⟨fun pins s σ H D I q => p.run pins s σ H D I (h D σ H q)⟩

section
variable {X : Cx} {W : WX}
/-! ### coercions -/
def frzV (t : TEm) : TVm := fun E h Kn Kx => t E h (fun r h' => Kn r.frz h') Kx
def valE (t : TVm) : TEm := fun E h Kn Kx => t E h (fun x h' => Kn (.d x) h') Kx
theorem RvOk.frz {K : Kf} {B F : Hp} {E : En} {h : MH} {σ : St} {H : Hp} {r : RV} {v : V} (R : Rel K B F E h σ H) (q : RvOk K B F h H r v) : ∃ F', Le F F' ∧ Rel K B F' E h σ H ∧ Rep K F' r.frz v := by
  cases r with
  | d x => exact ⟨F, Le.refl F, R, q⟩
  | ol xs =>
    obtain ⟨l, vs, rfl, e, rs, b, f, n⟩ := q
    exact ⟨_, Le.new f, R.toF e b f n, .lst upd_same (rs.mono (Le.new f))⟩
  | od xs =>
    obtain ⟨l, vs, rfl, e, rs, b, f, n⟩ := q
    exact ⟨_, Le.new f, R.toF e b f n, .dct (.inl upd_same) (rs.mono (Le.new f))⟩
theorem mv {e : Expr} {t : TEm} (p : ME X W e t) : MV X W e (frzV t) := fun B => (p B).impM fun σ H Q ⟨F, E, h, Kn, Kx, R, ht, hx, hn⟩ =>
  ⟨F, E, h, _, Kx, R, ht, hx, fun r h' F' H' v l R' q k => by
    obtain ⟨F2, l2, R2, rp⟩ := q.frz R'
    exact hn _ h' F2 H' v (l.trans l2) R2 rp k⟩
theorem me {e : Expr} {t : TVm} (p : MV X W e t) : ME X W e (valE t) := fun B => (p B).impM fun σ H Q ⟨F, E, h, Kn, Kx, R, ht, hx, hn⟩ =>
  ⟨F, E, h, _, Kx, R, ht, hx, fun r h' F' H' v l R' q k => hn (.d r) h' F' H' v l R' q k⟩

/-! ### names, constants -/
def mVar (i : Nat) : TVm := fun E h Kn _ => match E[i]? with
  | some (some d) => Kn d h
  | _ => False
def mC (d : D) : TVm := fun _ h Kn _ => Kn d h
theorem mv_var {e : Expr} {i : Nat} (p : PE X e (tVar i)) : MV X W e (mVar i) := fun B => p.impM fun σ H Q ⟨F, E, h, Kn, Kx, R, ht, hx, hn⟩ => by
  unfold mVar at ht
  cases q : E[i]? with
  | none => rw [q] at ht; exact ht.elim
  | some o =>
    cases o with
    | none => rw [q] at ht; exact ht.elim
    | some d =>
      rw [q] at ht
      obtain ⟨v, e, rp⟩ := R.slot.get q
      exact ⟨v, e, hn d h F H v (Le.refl F) R rp ht⟩
theorem mv_const {e : Expr} {d : D} {v : V} (p : PE X e (tC v)) (r : ∀ K F, Rep K F d v) : MV X W e (mC d) := fun B => p.impM fun σ H Q ⟨F, E, h, Kn, Kx, R, ht, hx, hn⟩ =>
  hn d h F H v (Le.refl F) R (r _ _) ht
theorem mv_int {i j pos} : MV X W (.Constant (.int i) j pos) (mC (.int i)) := mv_const pe_int fun _ _ => .int _
theorem mv_bl {i j pos} : MV X W (.Constant (.bool i) j pos) (mC (.bl i)) := mv_const pe_bl fun _ _ => .bl _
theorem mv_non {j pos} : MV X W (.Constant .none j pos) (mC .non) := mv_const pe_non fun _ _ => .non
theorem mv_str {i j pos} : MV X W (.Constant (.str i) j pos) (mC (.str i)) := mv_const pe_str fun _ _ => .str _

/-! ### operations by values -/
/-- an operation on two things: what it asks and gives -/
abbrev G2 := D → D → MH → (RV → MH → Prop) → Prop
abbrev G1 := D → MH → (RV → MH → Prop) → Prop
abbrev GA := List D → MH → (RV → MH → Prop) → Prop
def Has2 (K : Kf) (r : R2) (g : G2) : Prop := ∀ B F E h σ H x y vx vy (Q : VK) Kn, Rel K B F E h σ H → Rep K F x vx → Rep K F y vy → g x y h Kn →
  (∀ r h' F' H' v, Le F F' → Rel K B F' E h' σ H' → RvOk K B F' h' H' r v → Kn r h' → Q v H') → r vx vy H Q
def Has1 (K : Kf) (r : V → Hp → VK → Prop) (g : G1) : Prop := ∀ B F E h σ H x vx (Q : VK) Kn, Rel K B F E h σ H → Rep K F x vx → g x h Kn →
  (∀ r h' F' H' v, Le F F' → Rel K B F' E h' σ H' → RvOk K B F' h' H' r v → Kn r h' → Q v H') → r vx H Q
def HasA (K : Kf) (r : List V → Hp → VK → Prop) (g : GA) : Prop := ∀ B F E h σ H xs vs (Q : VK) Kn, Rel K B F E h σ H → Reps K F xs vs → g xs h Kn →
  (∀ r h' F' H' v, Le F F' → Rel K B F' E h' σ H' → RvOk K B F' h' H' r v → Kn r h' → Q v H') → r vs H Q
def mOp (g : G2) (ta tb : TVm) : TEm := fun E h Kn Kx => ta E h (fun x h1 => tb E h1 (fun y h2 => g x y h2 Kn) Kx) Kx
def mUn (g : G1) (ta : TVm) : TEm := fun E h Kn Kx => ta E h (fun x h1 => g x h1 Kn) Kx
def mCall (g : GA) (ta : TAm) : TEm := fun E h Kn Kx => ta E h (fun xs h1 => g xs h1 Kn) Kx
theorem two {K : Kf} {B : Hp} {r : R2} {g : G2} (o : Has2 K r g) {ta tb : TVm} {σ : St} {H : Hp} {Q : VK} (q : LE K B W (mOp g ta tb) σ H Q) : tOp r (LV K B W ta) (LV K B W tb) σ H Q := by
  obtain ⟨F, E, h, Kn, Kx, R, ht, hx, hn⟩ := q
  refine ⟨F, E, h, _, Kx, R, ht, hx, fun x h1 F1 H1 v l1 R1 r1 k1 => ?_⟩
  refine ⟨F1, E, h1, _, Kx, R1, k1, hx.up l1, fun y h2 F2 H2 u l2 R2 r2 k2 => ?_⟩
  exact o B F2 E h2 σ H2 x y v u Q Kn R2 (r1.mono l2) r2 k2 fun r h' F' H' w l3 => hn r h' F' H' w ((l1.trans l2).trans l3)
theorem one {K : Kf} {B : Hp} {r : V → Hp → VK → Prop} {g : G1} (o : Has1 K r g) {ta : TVm} {σ : St} {H : Hp} {Q : VK} (q : LE K B W (mUn g ta) σ H Q) : tUn r (LV K B W ta) σ H Q := by
  obtain ⟨F, E, h, Kn, Kx, R, ht, hx, hn⟩ := q
  refine ⟨F, E, h, _, Kx, R, ht, hx, fun x h1 F1 H1 v l1 R1 r1 k1 => ?_⟩
  exact o B F1 E h1 σ H1 x v Q Kn R1 r1 k1 fun r h' F' H' w l3 => hn r h' F' H' w (l1.trans l3)
theorem many {K : Kf} {B : Hp} {r : List V → Hp → VK → Prop} {g : GA} (o : HasA K r g) {ta : TAm} {σ : St} {H : Hp} {Q : VK} (q : LE K B W (mCall g ta) σ H Q) : tCB r (LA K B W ta) σ H Q := by
  obtain ⟨F, E, h, Kn, Kx, R, ht, hx, hn⟩ := q
  refine ⟨F, E, h, _, Kx, R, ht, hx, fun x h1 F1 H1 v l1 R1 r1 k1 => ?_⟩
  exact o B F1 E h1 σ H1 x v Q Kn R1 r1 k1 fun r h' F' H' w l3 => hn r h' F' H' w (l1.trans l3)
/-! ### argument lists -/
def mNil : TAm := fun _ h Kn _ => Kn [] h
def mCons (ta : TVm) (tr : TAm) : TAm := fun E h Kn Kx => ta E h (fun x h1 => tr E h1 (fun xs h2 => Kn (x :: xs) h2) Kx) Kx
theorem ma_nil : MA X W [] mNil := fun B => pa_nil.impM fun σ H Q ⟨F, E, h, Kn, Kx, R, ht, hx, hn⟩ => hn [] h F H [] (Le.refl F) R .nil ht
theorem ma_cons {e : Expr} {es : List Expr} {ta : TVm} {tr : TAm} (a : MV X W e ta) (r : MA X W es tr) (hs : starEach (e :: es) X.env = (false, eval e X.env) :: starEach es X.env := by rfl) : MA X W (e :: es) (mCons ta tr) := fun B =>
  (pa_cons (a B) (r B) hs).impM fun σ H Q ⟨F, E, h, Kn, Kx, R, ht, hx, hn⟩ => by
    refine ⟨F, E, h, _, Kx, R, ht, hx, fun x h1 F1 H1 v l1 R1 r1 k1 => ?_⟩
    refine ⟨F1, E, h1, _, Kx, R1, k1, hx.up l1, fun y h2 F2 H2 u l2 R2 r2 k2 => ?_⟩
    exact hn (x :: y) h2 F2 H2 (v :: u) (l1.trans l2) R2 (.cons (r1.mono l2) r2) k2
def mTup (t : TAm) : TVm := fun E h Kn Kx => t E h (fun xs h' => xs.length ≤ sizeLine ∧ Kn (.tup xs) h') Kx
def mLst (t : TAm) : TEm := fun E h Kn Kx => t E h (fun xs h' => xs.length ≤ sizeLine ∧ Kn (.ol xs) h') Kx
theorem mv_tup {es : List Expr} {x1 pos} {t : TAm} (a : MA X W es t) : MV X W (.Tuple es x1 pos) (mTup t) := fun B => (pe_tup (a B)).impM fun σ H Q ⟨F, E, h, Kn, Kx, R, ht, hx, hn⟩ => by
  refine ⟨F, E, h, _, Kx, R, ht, hx, fun ds h1 F1 H1 vs l1 R1 r1 k1 => ⟨by rw [← r1.len]; exact k1.1, fun p hp => ?_⟩⟩
  have l2 : Le F1 (upd F1 p (.tup vs)) := Le.new (R1.noF hp)
  exact hn _ h1 _ _ _ (l1.trans l2) (R1.newF hp) (.tup (.inl (.inl upd_same)) (r1.mono l2)) k1.2
theorem me_lst {es : List Expr} {pos} {t : TAm} (a : MA X W es t) : ME X W (.List es pos) (mLst t) := fun B => (pe_lst (a B)).impM fun σ H Q ⟨F, E, h, Kn, Kx, R, ht, hx, hn⟩ => by
  refine ⟨F, E, h, _, Kx, R, ht, hx, fun ds h1 F1 H1 vs l1 R1 r1 k1 => ⟨by rw [← r1.len]; exact k1.1, fun p hp => ?_⟩⟩
  exact hn (.ol ds) h1 _ _ _ l1 (R1.newO hp) ⟨p, vs, rfl, upd_same, r1, R1.noB hp, R1.noF hp, R1.noh hp⟩ k1.2
end
end M3
set_option Elab.async false
set_option linter.all false
set_option maxRecDepth 100000
set_option maxHeartbeats 4000000
namespace M3
open PySem L2
section
variable {X : Cx} {W : WX}
/-! ### tests -/
def onBl (d : D) (p : Bool → Prop) : Prop := match d with
  | .bl b => p b
  | _ => False
def mTst (t : TVm) : TTm := fun E h Kn Kx => t E h (fun d h' => onBl d fun b => Kn b h') Kx
theorem bl_of {K : Kf} {F : Hp} {d : D} {v : V} {p : Bool → Prop} (r : Rep K F d v) (q : onBl d p) : ∃ b, v = .bl b ∧ d = .bl b ∧ p b := by
  cases r with
  | bl b => exact ⟨b, rfl, rfl, q⟩
  | _ => exact q.elim
/-- a truth value as a test -/
theorem mt_val {e : Expr} {t : TVm} (p : ∀ B, PT X e (tB (LV X.K B W t))) : MT X W e (mTst t) := fun B => (p B).impM fun σ H Q ⟨F, E, h, Kn, Kx, R, ht, hx, hn⟩ =>
  ⟨F, E, h, _, Kx, R, ht, hx, fun d h' F' H' v l R' q k => by
    obtain ⟨b, rfl, rfl, k⟩ := bl_of (p := fun b => Kn b h') q k
    exact ⟨b, rfl, hn b h' F' H' l R' k⟩⟩
/-- any expression that gives True or False -/
theorem mt_of {e : Expr} {t : TVm} (p : MV X W e t) (hb : ∀ te, PE X e te → PT X e (tB te) := by exact fun _ h => pt_val h) : MT X W e (mTst t) := mt_val fun B => hb _ (p B)
def mNotT (t : TTm) : TTm := fun E h Kn Kx => t E h (fun b h' => Kn (!b) h') Kx
theorem mt_not {e : Expr} {pos} {t : TTm} (p : MT X W e t) : MT X W (.UnaryOp .Not e pos) (mNotT t) := fun B => (pt_not (p B)).impM fun σ H Q ⟨F, E, h, Kn, Kx, R, ht, hx, hn⟩ =>
  ⟨F, E, h, _, Kx, R, ht, hx, fun b h' F' H' l R' k => hn (!b) h' F' H' l R' k⟩
def mAndT (t u : TTm) : TTm := fun E h Kn Kx => t E h (fun b h' => if b = true then u E h' Kn Kx else Kn false h') Kx
def mOrT (t u : TTm) : TTm := fun E h Kn Kx => t E h (fun b h' => if b = true then Kn true h' else u E h' Kn Kx) Kx
theorem andT_ok {K : Kf} {B : Hp} {t u : TTm} {σ : L2.St} {H : Hp} {Q : Bool → Hp → Prop} (q : LT K B W (mAndT t u) σ H Q) : tAnd (LT K B W t) (LT K B W u) σ H Q := by
  obtain ⟨F, E, h, Kn, Kx, R, ht, hx, hn⟩ := q
  refine ⟨F, E, h, _, Kx, R, ht, hx, fun b h' F' H' l R' k => ?_⟩
  cases b with
  | true => exact ⟨F', E, h', Kn, Kx, R', k, hx.up l, fun b h2 F2 H2 l2 => hn b h2 F2 H2 (l.trans l2)⟩
  | false => exact hn false h' F' H' l R' k
theorem orT_ok {K : Kf} {B : Hp} {t u : TTm} {σ : L2.St} {H : Hp} {Q : Bool → Hp → Prop} (q : LT K B W (mOrT t u) σ H Q) : tOr (LT K B W t) (LT K B W u) σ H Q := by
  obtain ⟨F, E, h, Kn, Kx, R, ht, hx, hn⟩ := q
  refine ⟨F, E, h, _, Kx, R, ht, hx, fun b h' F' H' l R' k => ?_⟩
  cases b with
  | true => exact hn true h' F' H' l R' k
  | false => exact ⟨F', E, h', Kn, Kx, R', k, hx.up l, fun b h2 F2 H2 l2 => hn b h2 F2 H2 (l.trans l2)⟩
/-! ### truth values -/
def mNotV (t : TTm) : TVm := fun E h Kn Kx => t E h (fun b h' => Kn (.bl (!b)) h') Kx
def mTV (t : TTm) : TVm := fun E h Kn Kx => t E h (fun b h' => Kn (.bl b) h') Kx
def LB (K : Kf) (B : Hp) (W : WX) (t : TTm) : TE := fun σ H Q => LT K B W t σ H fun b H' => Q (.bl b) H'
theorem lv_bl {K : Kf} {B : Hp} {t : TTm} {σ : L2.St} {H : Hp} {Q : VK} (q : LV K B W (mTV t) σ H Q) : LB K B W t σ H Q := by
  obtain ⟨F, E, h, Kn, Kx, R, ht, hx, hn⟩ := q
  exact ⟨F, E, h, _, Kx, R, ht, hx, fun b h' F' H' l R' k => hn (.bl b) h' F' H' (.bl b) l R' (.bl b) k⟩
theorem bl_lv {K : Kf} {B : Hp} {t : TVm} {σ : L2.St} {H : Hp} {Q : VK} (q : LB K B W (mTst t) σ H Q) : tB (LV K B W t) σ H fun b H' => Q (.bl b) H' := by
  obtain ⟨F, E, h, Kn, Kx, R, ht, hx, hn⟩ := q
  refine ⟨F, E, h, _, Kx, R, ht, hx, fun d h' F' H' v l R' r k => ?_⟩
  obtain ⟨b, rfl, rfl, k⟩ := bl_of (p := fun b => Kn b h') r k
  exact ⟨b, rfl, hn b h' F' H' l R' k⟩
theorem mv_notV {e : Expr} {pos} {t : TVm} (p : MV X W e t) : MV X W (.UnaryOp .Not e pos) (mNotV (mTst t)) := fun B => (pe_not (p B)).impM fun σ H Q ⟨F, E, h, Kn, Kx, R, ht, hx, hn⟩ => by
  refine ⟨F, E, h, _, Kx, R, ht, hx, fun d h' F' H' v l R' r k => ?_⟩
  obtain ⟨b, rfl, rfl, k⟩ := bl_of (p := fun b => Kn (.bl (!b)) h') r k
  exact ⟨b, rfl, hn (.bl (!b)) h' F' H' (.bl (!b)) l R' (.bl _) k⟩
def mAndV (ta tb : TVm) : TVm := fun E h Kn Kx => ta E h (fun d h' => onBl d fun b => if b = true then tb E h' Kn Kx else Kn (.bl false) h') Kx
def mOrV (ta tb : TVm) : TVm := fun E h Kn Kx => ta E h (fun d h' => onBl d fun b => if b = true then Kn (.bl true) h' else tb E h' Kn Kx) Kx
theorem andV_ok {K : Kf} {B : Hp} {ta tb : TVm} {σ : L2.St} {H : Hp} {Q : VK} (q : LV K B W (mAndV ta tb) σ H Q) : tAndV (LV K B W ta) (LV K B W tb) σ H Q := by
  obtain ⟨F, E, h, Kn, Kx, R, ht, hx, hn⟩ := q
  refine ⟨F, E, h, _, Kx, R, ht, hx, fun d h' F' H' v l R' r k => ?_⟩
  obtain ⟨b, rfl, rfl, k⟩ := bl_of (p := fun b => if b = true then tb E h' Kn Kx else Kn (.bl false) h') r k
  refine ⟨b, rfl, ?_⟩
  cases b with
  | true => exact ⟨F', E, h', Kn, Kx, R', k, hx.up l, fun b h2 F2 H2 v l2 => hn b h2 F2 H2 v (l.trans l2)⟩
  | false => exact hn (.bl false) h' F' H' (.bl false) l R' (.bl _) k
theorem orV_ok {K : Kf} {B : Hp} {ta tb : TVm} {σ : L2.St} {H : Hp} {Q : VK} (q : LV K B W (mOrV ta tb) σ H Q) : tOrV (LV K B W ta) (LV K B W tb) σ H Q := by
  obtain ⟨F, E, h, Kn, Kx, R, ht, hx, hn⟩ := q
  refine ⟨F, E, h, _, Kx, R, ht, hx, fun d h' F' H' v l R' r k => ?_⟩
  obtain ⟨b, rfl, rfl, k⟩ := bl_of (p := fun b => if b = true then Kn (.bl true) h' else tb E h' Kn Kx) r k
  refine ⟨b, rfl, ?_⟩
  cases b with
  | true => exact hn (.bl true) h' F' H' (.bl true) l R' (.bl _) k
  | false => exact ⟨F', E, h', Kn, Kx, R', k, hx.up l, fun b h2 F2 H2 v l2 => hn b h2 F2 H2 v (l.trans l2)⟩
def mIte (t : TTm) (ta tb : TEm) : TEm := fun E h Kn Kx => t E h (fun b h' => if b = true then ta E h' Kn Kx else tb E h' Kn Kx) Kx
theorem me_ite {c a b : Expr} {pos} {t : TTm} {ta tb : TEm} (hc : MT X W c t) (ha : ME X W a ta) (hb : ME X W b tb) : ME X W (.IfExp c a b pos) (mIte t ta tb) := fun B => (pe_ifExp (hc B) (ha B) (hb B)).impM fun σ H Q ⟨F, E, h, Kn, Kx, R, ht, hx, hn⟩ => by
  refine ⟨F, E, h, _, Kx, R, ht, hx, fun b h' F' H' l R' k => ?_⟩
  cases b with
  | true => exact ⟨F', E, h', Kn, Kx, R', k, hx.up l, fun b h2 F2 H2 v l2 => hn b h2 F2 H2 v (l.trans l2)⟩
  | false => exact ⟨F', E, h', Kn, Kx, R', k, hx.up l, fun b h2 F2 H2 v l2 => hn b h2 F2 H2 v (l.trans l2)⟩
end

/-! ### a cell of a fresh thing; a cell given away -/
section
variable {X : Cx} {W : WX}
def mCell (t : TEm) : TEm := fun E h Kn Kx => t E h (fun r h' => match r with
  | .d x => Kn (.d x) h'
  | .ol xs => ∀ p, h' p = none → Kn (.d (.ref p)) (put h' p (.lst xs))
  | .od kvs => ∀ p, h' p = none → Kn (.d (.ref p)) (put h' p (.dct kvs))) Kx
theorem me_cell {e : Expr} {t : TEm} (p : ME X W e t) : ME X W e (mCell t) := fun B => (p B).impM fun σ H Q ⟨F, E, h, Kn, Kx, R, ht, hx, hn⟩ =>
  ⟨F, E, h, _, Kx, R, ht, hx, fun r h' F' H' v l R' q k => by
    cases r with
    | d x => exact hn (.d x) h' F' H' v l R' q k
    | ol xs =>
      obtain ⟨a, vs, rfl, e, rs, b, f, n⟩ := q
      exact hn (.d (.ref a)) _ F' H' _ l (R'.toC (m := .lst xs) ⟨vs, e, rs⟩ b f) (.ref a) (k a n)
    | od xs =>
      obtain ⟨a, vs, rfl, e, rs, b, f, n⟩ := q
      exact hn (.d (.ref a)) _ F' H' _ l (R'.toC (m := .dct xs) ⟨vs, e, rs⟩ b f) (.ref a) (k a n)⟩
def mRel (t : TVm) : TEm := fun E h Kn Kx => t E h (fun d h' => match d with
  | .ref p => (match h' p with
    | some (.lst xs) => Kn (.ol xs) (del h' p)
    | some (.dct kvs) => Kn (.od kvs) (del h' p)
    | _ => False)
  | _ => False) Kx
theorem me_rel {e : Expr} {t : TVm} (p : MV X W e t) : ME X W e (mRel t) := fun B => (p B).impM fun σ H Q ⟨F, E, h, Kn, Kx, R, ht, hx, hn⟩ =>
  ⟨F, E, h, _, Kx, R, ht, hx, fun r h' F' H' v l R' q k => by
    cases q with
    | ref a =>
      have k : (match h' a with
        | some (.lst xs) => Kn (.ol xs) (del h' a)
        | some (.dct kvs) => Kn (.od kvs) (del h' a)
        | _ => False) := k
      have R2 : Rel X.K B F' E (del h' a) σ H' := R'.less fun b m z => (del_some z).1
      cases e : h' a with
      | none => rw [e] at k; exact k.elim
      | some m =>
        rw [e] at k
        cases m with
        | lst xs =>
          obtain ⟨vs, e2, rs⟩ := R'.cel a _ e
          exact hn (.ol xs) _ F' H' _ l R2 ⟨a, vs, rfl, e2, rs, R'.Bh e, R'.Fh e, del_same⟩ k
        | dct xs =>
          obtain ⟨vs, e2, rs⟩ := R'.cel a _ e
          exact hn (.od xs) _ F' H' _ l R2 ⟨a, vs, rfl, e2, rs, R'.Bh e, R'.Fh e, del_same⟩ k
        | ins C fs => exact k.elim
    | _ => exact k.elim⟩
end

/-! ### statements -/
section
variable {X : Cx} {W : WX}
def sSkip : TSm := fun N E h => N.nx E h
def sSeq (t u : TSm) : TSm := fun N E h => t { N with nx := u N } E h
theorem mb_nil : MB X W [] sSkip := fun B => pss_nil.impM fun D σ H ⟨F, E, h, N, R, ht, h1, _⟩ => h1 E h F σ H (Le.refl F) R ht
theorem LS.up {K : Kf} {B F F' : Hp} {E : En} {h : MH} {N : Nd} {D : Ends} {σ : L2.St} {H : Hp} {t : TSm} (l : Le F F') (R : Rel K B F' E h σ H) (ht : t N E h)
    (c : (∀ E' h' F' σ' H', Le F F' → Rel K B F' E' h' σ' H' → N.nx E' h' → D.nx σ' H') ∧
  (∀ r h' F' E' σ' H' v, Le F F' → Rel K B F' E' h' σ' H' → RvOk K B F' h' H' r v → N.rt r h' → D.rt v H') ∧
  (∀ E' h' F' σ' H', Le F F' → Rel K B F' E' h' σ' H' → N.bk E' h' → D.bk σ' H') ∧
  (∀ E' h' F' σ' H', Le F F' → Rel K B F' E' h' σ' H' → N.ct E' h' → D.ct σ' H') ∧
  (∀ x h' F' E' σ' H' c dx, Le F F' → Rel K B F' E' h' σ' H' → XOk K F' x c dx → N.xs x h' → W c dx σ' H')) : LS K B W t D σ H :=
  ⟨F', E, h, N, R, ht, fun E' h' F2 σ' H' l2 => c.1 E' h' F2 σ' H' (l.trans l2), fun r h' F2 E' σ' H' v l2 => c.2.1 r h' F2 E' σ' H' v (l.trans l2),
    fun E' h' F2 σ' H' l2 => c.2.2.1 E' h' F2 σ' H' (l.trans l2), fun E' h' F2 σ' H' l2 => c.2.2.2.1 E' h' F2 σ' H' (l.trans l2), fun x h' F2 E' σ' H' a dx l2 => c.2.2.2.2 x h' F2 E' σ' H' a dx (l.trans l2)⟩
theorem mb_cons {st : Stmt} {rest : List Stmt} {t u : TSm} (a : MS X W st t) (b : MB X W rest u) : MB X W (st :: rest) (sSeq t u) := fun B => (pss_cons (a B) (b B)).impM fun D σ H ⟨F, E, h, N, R, ht, c⟩ =>
  ⟨F, E, h, { N with nx := u N }, R, ht, fun E' h' F' σ' H' l R' k => LS.up l R' k c, c.2⟩
theorem mb_one {st : Stmt} {t : TSm} (a : MS X W st t) : MB X W [st] t := fun B => pss_one (a B)
theorem ms_pass {pos} : MS X W (.Pass pos) sSkip := fun B => ps_pass.impM fun D σ H ⟨F, E, h, N, R, ht, h1, _⟩ => h1 E h F σ H (Le.refl F) R ht
def sBrk : TSm := fun N E h => N.bk E h
def sCnt : TSm := fun N E h => N.ct E h
theorem ms_break {pos} : MS X W (.Break pos) sBrk := fun B => ps_break.impM fun D σ H ⟨F, E, h, N, R, ht, _, _, h1, _⟩ => h1 E h F σ H (Le.refl F) R ht
theorem ms_continue {pos} : MS X W (.Continue pos) sCnt := fun B => ps_continue.impM fun D σ H ⟨F, E, h, N, R, ht, _, _, _, h1, _⟩ => h1 E h F σ H (Le.refl F) R ht
def sNever : TSm := fun _ _ _ => False
theorem ms_never {st : Stmt} : MS X W st sNever := fun B => ps_never.impM fun D σ H ⟨F, E, h, N, R, ht, _⟩ => ht
theorem mb_never {st : List Stmt} : MB X W st sNever := fun B => pss_never.impM fun D σ H ⟨F, E, h, N, R, ht, _⟩ => ht
theorem ms_doc {x j pos pos'} : MS X W (.Expr (.Constant (.str x) j pos) pos') sSkip := fun B => ps_doc.impM fun D σ H ⟨F, E, h, N, R, ht, h1, _⟩ => h1 E h F σ H (Le.refl F) R ht
def sDrop (t : TEm) : TSm := fun N E h => t E h (fun _ h' => N.nx E h') N.xs
theorem ms_expr {e : Expr} {pos : Pos} {t : TEm} (a : ME X W e t) (hs : swapsWith e none pos.line X.env = pure false := by rfl) : MS X W (.Expr e pos) (sDrop t) := fun B => (ps_expr (a B) hs).impM fun D σ H ⟨F, E, h, N, R, ht, c⟩ =>
  ⟨F, E, h, _, N.xs, R, ht, fun x h' F' H' a dx l R' q k => c.2.2.2.2 x h' F' E σ H' a dx l R' q k, fun r h' F' H' v l R' q k => c.1 E h' F' σ H' l R' k⟩
def sRet (t : TEm) : TSm := fun N E h => t E h N.rt N.xs
theorem ms_ret {e : Expr} {pos : Pos} {t : TEm} (a : ME X W e t) : MS X W (.Return (some e) pos) (sRet t) := fun B => (ps_ret (a B)).impM fun D σ H ⟨F, E, h, N, R, ht, c⟩ =>
  ⟨F, E, h, _, N.xs, R, ht, fun x h' F' H' a dx l R' q k => c.2.2.2.2 x h' F' E σ H' a dx l R' q k, fun r h' F' H' v l R' q k => c.2.1 r h' F' E σ H' v l R' q k⟩
def sRetN : TSm := fun N E h => N.rt (.d .non) h
theorem ms_retN {pos : Pos} : MS X W (.Return none pos) sRetN := fun B => ps_retN.impM fun D σ H ⟨F, E, h, N, R, ht, c⟩ => c.2.1 (.d .non) h F E σ H .non (Le.refl F) R .non ht
def sIf (c : TTm) (t u : TSm) : TSm := fun N E h => c E h (fun b h' => if b = true then t N E h' else u N E h') N.xs
theorem ms_if {c : Expr} {a b : List Stmt} {pos : Pos} {tc : TTm} {t u : TSm} (hc : MT X W c tc) (ha : MB X W a t) (hb : MB X W b u) : MS X W (.If c a b pos) (sIf tc t u) := fun B => (ps_if (hc B) (ha B) (hb B)).impM fun D σ H ⟨F, E, h, N, R, ht, c⟩ => by
  refine ⟨F, E, h, _, N.xs, R, ht, fun x h' F' H' a dx l R' q k => c.2.2.2.2 x h' F' E σ H' a dx l R' q k, fun b h' F' H' l R' k => ?_⟩
  cases b with
  | true => exact LS.up l R' k c
  | false => exact LS.up l R' k c

/-! ### targets -/
abbrev TGm := D → En → MH → (En → MH → Prop) → Prop
abbrev TGsm := List D → En → MH → (En → MH → Prop) → Prop
def LG (K : Kf) (B : Hp) (ws : List Nat) (g : TGm) : TG := fun v σ H Q => ∃ F E h d Kn, Rel K B F E h σ H ∧ Rep K F d v ∧ g d E h Kn ∧
  ∀ E' h' F' σ' H', wipe σ' ws = wipe σ ws → Le F F' → Rel K B F' E' h' σ' H' → Kn E' h' → Q σ' H'
def LGs (K : Kf) (B : Hp) (ws : List Nat) (g : TGsm) : TGs := fun vs σ H Q => ∃ F E h ds Kn, Rel K B F E h σ H ∧ Reps K F ds vs ∧ g ds E h Kn ∧
  ∀ E' h' F' σ' H', wipe σ' ws = wipe σ ws → Le F F' → Rel K B F' E' h' σ' H' → Kn E' h' → Q σ' H'
def MG (X : Cx) (tg : Expr) (ws : List Nat) (g : TGm) : Prop := ∀ B, PG X tg (LG X.K B ws g)
def MGs (X : Cx) (tgs : List Expr) (ws : List Nat) (g : TGsm) : Prop := ∀ B, PGs X tgs (LGs X.K B ws g)
theorem _root_.L2.PG.impM {X : Cx} {e : Expr} {t t' : TG} (p : PG X e t) (h : ∀ v σ H Q, t' v σ H Q → t v σ H Q) : PG X e t' := ⟨fun pins s σ H v u Q I r q => p.run pins s σ H v u Q I r (h v σ H Q q)⟩
theorem _root_.L2.PGs.impM {X : Cx} {e : List Expr} {t t' : TGs} (p : PGs X e t) (h : ∀ v σ H Q, t' v σ H Q → t v σ H Q) : PGs X e t' := ⟨fun pins s σ H v u Q I r q => p.run pins s σ H v u Q I r (h v σ H Q q)⟩
def gN (i : Nat) : TGm := fun d E h k => k (E.set i (some d)) h
theorem wipe_set {σ : L2.St} {v : Option V} {i : Nat} : ∀ {ws : List Nat}, i ∈ ws → wipe (σ.set i v) ws = wipe σ ws
  | [], hm => absurd hm (by simp)
  | w :: ws, hm => by
    show (wipe (σ.set i v) ws).set w none = (wipe σ ws).set w none
    by_cases e : i ∈ ws
    · rw [wipe_set e]
    · have ei : i = w := by
        rcases List.mem_cons.mp hm with h | h
        · exact h
        · exact absurd h e
      subst ei
      have out : ∀ ws : List Nat, i ∉ ws → wipe (σ.set i v) ws = (wipe σ ws).set i v := by
        intro ws
        induction ws with
        | nil => intro _; rfl
        | cons a as ih =>
          intro hn
          have hn2 : i ∉ as := fun z => hn (List.mem_cons_of_mem _ z)
          have ha : i ≠ a := fun z => hn (z ▸ List.mem_cons_self)
          show (wipe (σ.set i v) as).set a none = ((wipe σ as).set a none).set i v
          rw [ih hn2, List.set_comm _ _ ha]
      rw [out ws e, List.set_set]
theorem mg_name {i : Nat} {x : Str} {pos : Pos} {ws : List Nat} (p : PG X (.Name x pos) (gName i)) (hw : i ∈ ws := by simp) : MG X (.Name x pos) ws (gN i) := fun B => p.impM fun v σ H Q ⟨F, E, h, d, Kn, R, r, hg, k⟩ =>
  k (E.set i (some d)) h F (σ.set i (some v)) H (wipe_set hw) (Le.refl F) (R.set r i) hg
def gsNil : TGsm := fun ds E h k => ds = [] ∧ k E h
def gsCons (g : TGm) (gs : TGsm) : TGsm := fun ds E h k => match ds with
  | d :: r => g d E h fun E' h' => gs r E' h' k
  | [] => False
theorem mgs_nil {ws : List Nat} : MGs X [] ws gsNil := fun B => pgs_nil.impM fun vs σ H Q ⟨F, E, h, ds, Kn, R, r, hg, k⟩ => by
  obtain ⟨rfl, hg⟩ := hg
  cases r
  exact ⟨rfl, k E h F σ H rfl (Le.refl F) R hg⟩
theorem mgs_cons {e : Expr} {es : List Expr} {ws : List Nat} {g : TGm} {gs : TGsm} (a : MG X e ws g) (b : MGs X es ws gs) (hs : (assignEach (e :: es) X.env).map (·.2) = assign e X.env :: (assignEach es X.env).map (·.2) := by rfl) : MGs X (e :: es) ws (gsCons g gs) := fun B =>
  (pgs_cons (a B) (b B) hs).impM fun vs σ H Q ⟨F, E, h, ds, Kn, R, r, hg, k⟩ => by
    cases r with
    | nil => exact hg.elim
    | cons rd rr =>
      refine ⟨_, _, rfl, F, E, h, _, _, R, rd, hg, fun E1 h1 F1 σ1 H1 w1 l1 R1 k1 => ?_⟩
      exact ⟨F1, E1, h1, _, _, R1, rr.mono l1, k1, fun E2 h2 F2 σ2 H2 w2 l2 R2 k2 => k E2 h2 F2 σ2 H2 (w2.trans w1) (l1.trans l2) R2 k2⟩
def gT (n : Nat) (gs : TGsm) : TGm := fun d E h k => match d with
  | .tup xs => xs.length = n ∧ gs xs E h k
  | _ => False
theorem mg_tup {es : List Expr} {j : Nat} {pos : Pos} {ws : List Nat} {gs : TGsm} {n : Nat} (hc : X.calm = true) (b : MGs X es ws gs) (hn : (assignEach es X.env).length = n := by rfl) (hst : (assignEach es X.env).findIdx? (·.1) = none := by rfl) :
    MG X (.Tuple es j pos) ws (gT n gs) := fun B => (pg_tup hc (b B) hn hst).impM fun v σ H Q ⟨F, E, h, d, Kn, R, r, hg, k⟩ => by
  cases r with
  | tup q rs =>
    obtain ⟨hl, hg⟩ := hg
    exact ⟨_, _, rfl, R.sqT q, by rw [← rs.len]; exact hl, F, E, h, _, Kn, R, rs, hg, k⟩
  | _ => exact hg.elim
def sAsg (t : TVm) (g : TGm) : TSm := fun N E h => t E h (fun d h' => g d E h' N.nx) N.xs
theorem asg_ok {K : Kf} {B : Hp} {t : TVm} {g : TGm} {ws : List Nat} {D : Ends} {σ : L2.St} {H : Hp} (q : LS K B W (sAsg t g) D σ H) : tAsg (LV K B W t) (LG K B ws g) D σ H := by
  obtain ⟨F, E, h, N, R, ht, c⟩ := q
  refine ⟨F, E, h, _, N.xs, R, ht, fun x h' F' H' a dx l R' q k => c.2.2.2.2 x h' F' E σ H' a dx l R' q k, fun d h' F' H' v l R' r k => ?_⟩
  exact ⟨F', E, h', d, _, R', r, k, fun E2 h2 F2 σ2 H2 w l2 R2 k2 => c.1 E2 h2 F2 σ2 H2 (l.trans l2) R2 k2⟩
theorem ms_asg {tg e : Expr} {ws : List Nat} {pos : Pos} {t : TVm} {g : TGm} (he : MV X W e t) (hg : MG X tg ws g) (hs : swapsWithSole [tg] e pos.line X.env = pure false := by rfl) (hw : swappedStores [tg] e X.env = pure none := by rfl)
    (h1 : (assignEach [tg] X.env).map (·.2) = [assign tg X.env] := by rfl) : MS X W (.Assign [tg] e pos) (sAsg t g) := fun B => (ps_asg (he B) (hg B) hs hw h1).impM fun _ _ _ q => asg_ok q
def sSet (i : Nat) (t : TVm) : TSm := fun N E h => t E h (fun d h' => N.nx (E.set i (some d)) h') N.xs
theorem set_ok {K : Kf} {B : Hp} {t : TVm} {i : Nat} {D : Ends} {σ : L2.St} {H : Hp} (q : LS K B W (sSet i t) D σ H) : tAsg (LV K B W t) (gName i) D σ H := by
  obtain ⟨F, E, h, N, R, ht, c⟩ := q
  refine ⟨F, E, h, _, N.xs, R, ht, fun x h' F' H' a dx l R' q k => c.2.2.2.2 x h' F' E σ H' a dx l R' q k, fun d h' F' H' v l R' r k => ?_⟩
  exact c.1 _ h' F' _ H' l (R'.set r i) k
theorem ms_set {i : Nat} {x : Str} {e : Expr} {pos pos' : Pos} {t : TVm} (hN : X.N.Nodup) (hi : X.N[i]? = some x) (hx : Loc X.env.scope x) (he : MV X W e t) (hs : swapsWith e (some (.Name x pos')) pos.line X.env = pure false := by rfl) (hf : X.fn x = true ∨ X.env.scope.names.lookup x = some .local := by first | exact .inl rfl | exact .inr rfl | assumption) :
    MS X W (.Assign [.Name x pos'] e pos) (sSet i t) := fun B => (ps_set hN hi hx (he B) hs hf).impM fun _ _ _ q => set_ok q
/-- a, b = e1, e2 -/
def sPar (i j : Nat) (ta : TAm) : TSm := fun N E h => ta E h (fun ds h' => match ds with
  | [x, y] => N.nx ((E.set i (some x)).set j (some y)) h'
  | _ => False) N.xs
theorem ms_par {i j : Nat} {x y : Str} {a b : Expr} {ta : TAm} {px py pt pos : Pos} {kt k2 pt2} (hc : X.calm = true) (hN : X.N.Nodup) (hi : X.N[i]? = some x) (hj : X.N[j]? = some y) (hij : i ≠ j)
    (hx : X.env.scope.names.lookup x = some .local) (hy : X.env.scope.names.lookup y = some .local) (ha : MA X W [a, b] ta)
    (hw : swappedStores [.Tuple [.Name x px, .Name y py] kt pt] (.Tuple [a, b] k2 pt2) X.env = pure (some [x, y]))
    (hs : swapsWithSole [.Tuple [.Name x px, .Name y py] kt pt] (.Tuple [a, b] k2 pt2) pos.line X.env = pure false := by rfl) :
    MS X W (.Assign [.Tuple [.Name x px, .Name y py] kt pt] (.Tuple [a, b] k2 pt2) pos) (sPar i j ta) := fun B => (ps_par hc hN hi hj hij hx hy (ha B) hw hs).impM fun D σ H ⟨F, E, h, N, R, ht, c⟩ => by
  refine ⟨F, E, h, _, N.xs, R, ht, fun x h' F' H' a dx l R' q k => c.2.2.2.2 x h' F' E σ H' a dx l R' q k, fun ds h' F' H' vs l R' r k => ?_⟩
  match ds, vs, r, k with
  | [_, _], [_, _], .cons r1 (.cons r2 .nil), k => exact ⟨_, _, rfl, c.1 _ h' F' _ H' l ((R'.set r1 i).set r2 j) k⟩
/-- x op= e by values -/
def HasIp (K : Kf) (t : TIp) (g : G2) : Prop := Has2 K t g
def sAug (i : Nat) (t : TVm) (g : G2) : TSm := fun N E h => match E[i]? with
  | some (some x) => t E h (fun y h' => g x y h' (fun r h2 => N.nx (E.set i (some r.frz)) h2)) N.xs
  | _ => False
theorem ms_aug {i : Nat} {x : Str} {e : Expr} {t : TVm} {op : Operator} {ti : TIp} {g : G2} {pos pos' : Pos} (hN : X.N.Nodup) (hi : X.N[i]? = some x) (hx : Loc X.env.scope x) (he : MV X W e t) (ho : PIp X op ti) (hg : Has2 X.K ti g) (hf : X.fn x = true ∨ X.env.scope.names.lookup x = some .local := by first | exact .inl rfl | exact .inr rfl | assumption) :
    MS X W (.AugAssign (.Name x pos') op e pos) (sAug i t g) := fun B => (ps_aug hN hi hx (he B) ho hf).impM fun D σ H ⟨F, E, h, N, R, ht, c⟩ => by
  unfold sAug at ht
  cases q : E[i]? with
  | none => rw [q] at ht; exact ht.elim
  | some o =>
    cases o with
    | none => rw [q] at ht; exact ht.elim
    | some d =>
      rw [q] at ht
      obtain ⟨v, ev, rp⟩ := R.slot.get q
      refine ⟨v, ev, F, E, h, _, N.xs, R, ht, fun x h' F' H' a dx l R' q k => c.2.2.2.2 x h' F' E σ H' a dx l R' q k, fun y h' F' H' w l R' r k => ?_⟩
      refine hg B F' E h' σ H' d y v w _ _ R' (rp.mono l) r k fun r h2 F2 H2 z l2 R2 q2 k2 => ?_
      obtain ⟨F3, l3, R3, rp3⟩ := q2.frz R2
      exact c.1 _ h2 F3 _ H2 ((l.trans l2).trans l3) (R3.set rp3 i) k2
/-- forget names -/
def wipeE (E : En) : List Nat → En
  | [] => E
  | v :: vs => (wipeE E vs).set v none
theorem Slots.wiped {K : Kf} {F : Hp} {E : En} {σ : L2.St} (s : Slots K F E σ) : ∀ ws : List Nat, Slots K F (wipeE E ws) (wipe σ ws)
  | [] => s
  | w :: ws => (Slots.wiped s ws).gone w
theorem Slots.wiped' {K : Kf} {F : Hp} {E : En} {σ : L2.St} (s : Slots K F E σ) : ∀ ws : List Nat, Slots K F (wipeE E ws) σ
  | [] => s
  | w :: ws => (Slots.wiped' s ws).gone' w
/-- a statement behind which names are forgotten -/
def sForget (ws : List Nat) (t : TSm) : TSm := fun N E h => t { N with nx := fun E' h' => N.nx (wipeE E' ws) h' } E h
theorem ms_forget {st : Stmt} {t : TSm} (ws : List Nat) (a : MS X W st t) : MS X W st (sForget ws t) := fun B => (a B).impM fun D σ H ⟨F, E, h, N, R, ht, c⟩ =>
  ⟨F, E, h, { N with nx := fun E' h' => N.nx (wipeE E' ws) h' }, R, ht, fun E' h' F' σ' H' l R' k => c.1 _ h' F' σ' H' l (R'.slots (R'.slot.wiped' ws)) k, c.2⟩
end
end M3
set_option Elab.async false
set_option linter.all false
set_option maxRecDepth 100000
set_option maxHeartbeats 4000000
namespace M3
open PySem L2
/-! ### what is walked -/
abbrev TIm := En → MH → (List D → MH → (MH → MH) → Prop) → XKm → Prop
/-- the iterator J walks items while the state is a state over B'; back gives the state over B again -/
structure Src (K : Kf) (B F : Hp) (items : List D) (B' : Hp) (back : MH → MH) (J : It) : Prop where
  ex : ∃ (G : Hp → Prop) (Y : Nat → Hp → V → Hp → Prop), Walk J items.length G Y ∧
    (∀ B2 F2 E2 h2 σ2 H2, (∀ a o, B' a = some o → B2 a = some o) → Le F F2 → Rel K B2 F2 E2 h2 σ2 H2 → G H2) ∧
    ∀ B2 F2 E2 h2 σ2 H2 i x H3, (∀ a o, B' a = some o → B2 a = some o) → Le F F2 → Rel K B2 F2 E2 h2 σ2 H2 → i < items.length → Y i H2 x H3 → ∃ F3 d, items[i]? = some d ∧ Le F2 F3 ∧ Rel K B2 F3 E2 h2 σ2 H3 ∧ Rep K F3 d x
  bak : ∀ F2 E2 h2 σ2 H2, Le F F2 → Rel K B' F2 E2 h2 σ2 H2 → Rel K B F2 E2 (back h2) σ2 H2
  val : ∀ F2 h2 H2 r v, Le F F2 → RvOk K B' F2 h2 H2 r v → RvOk K B F2 (back h2) H2 r v
def LI (K : Kf) (B : Hp) (W : WX) (ti : TIm) : TI := fun σ H R => ∃ F E h Kn Kx, Rel K B F E h σ H ∧ ti E h Kn Kx ∧ XFin K B F E σ W Kx ∧
  ∀ items h' back F' H' B' J, Le F F' → Rel K B' F' E h' σ H' → Src K B F' items B' back J → Kn items h' back → R J H'
def MI (X : Cx) (W : WX) (tg iter : Expr) (ti : TIm) : Prop := ∀ B, PI X tg iter (LI X.K B W ti)
theorem _root_.L2.PI.impM {X : Cx} {tg e : Expr} {t t' : TI} (p : PI X tg e t) (h : ∀ σ H R, t' σ H R → t σ H R) : PI X tg e t' := ⟨fun pins s σ H R I q => p.run pins s σ H R I (h σ H R q)⟩
section
variable {X : Cx} {W : WX} {tg : Expr}
/-- a list or a tuple, whichever comes -/
def iSeq (K : Kf) (tl : TE) : TI := fun σ H R => tl σ H fun x H1 => ∃ a, x = .ref a ∧ (((∃ xs, SqL K H1 a xs) ∧ R (Itl K a) H1) ∨ ((∃ xs, SqT K H1 a xs) ∧ R (Itt K a) H1))
theorem pi_seq {l : Expr} {tl : TE} (hl : PE X l tl) : PI X tg l (iSeq X.K tl) := by
  refine ⟨fun pins s σ H R I h => ?_⟩
  refine thn (hl.run pins s σ H _ I h) fun v s1 ⟨x, H1, I1, r1, q1⟩ => ?_
  obtain ⟨a, e, q⟩ := q1
  subst e
  cases r1
  rcases q with ⟨⟨xs, hq⟩, q⟩ | ⟨⟨xs, hq⟩, q⟩
  · obtain ⟨its, rv, p, hz⟩ := I1.list hq
    refine wpAny_pyIter_list p.isList ?_
    refine ⟨s1.heap.objs.size, [s1.heap.objs.size], _, _, H1, rfl, I1.kept (t' := s1.toks) fun b o e => Heap.get?_push_of_some _ e, turn_list a _, ⟨_, Heap.get?_push_size _ rfl, rfl, rfl⟩, fun b hb => ?_, q⟩
    have e : b = s1.heap.objs.size := by simpa using hb
    subst e
    exact I1.fpOk (Nat.le_refl _) (I1.hok.fresh (Nat.le_refl _))
  · obtain ⟨its, rv, p, hz⟩ := I1.tuple hq
    refine wpAny_pyIter_tuple (show s1.heap.IsTuple a its.toArray from p) ?_
    refine ⟨s1.heap.objs.size, [s1.heap.objs.size], _, _, H1, rfl, I1.kept (t' := s1.toks) fun b o e => Heap.get?_push_of_some _ e, turn_tuple a _, ⟨_, Heap.get?_push_size _ rfl, rfl, rfl⟩, fun b hb => ?_, q⟩
    have e : b = s1.heap.objs.size := by simpa using hb
    subst e
    exact I1.fpOk (Nat.le_refl _) (I1.hok.fresh (Nat.le_refl _))
def mIter (t : TVm) : TIm := fun E h Kn Kx => t E h (fun d h' => match d with
  | .tup xs => Kn xs h' id
  | .lst xs => Kn xs h' id
  | .scr ns => Kn (ns.map D.int) h' id
  | .ref p => (match h' p with
    | some (.lst xs) => Kn xs (del h' p) (fun h2 => put h2 p (.lst xs))
    | _ => False)
  | _ => False) Kx
theorem Src.same {K : Kf} {B F : Hp} {items : List D} {J : It} {vs : List V} {G : Hp → Prop} (w : Walk J vs.length G (YAt vs)) (r : Reps K F items vs) (g : ∀ B2 F2 E2 h2 σ2 H2, Le F F2 → Rel K B2 F2 E2 h2 σ2 H2 → G H2) : Src K B F items B id J := by
  refine ⟨⟨G, YAt vs, by rw [r.len]; exact w, fun B2 F2 E2 h2 σ2 H2 _ l R => g B2 F2 E2 h2 σ2 H2 l R, ?_⟩, fun _ _ _ _ _ _ R => R, fun _ _ _ _ _ _ q => q⟩
  intro B2 F2 E2 h2 σ2 H2 i x H3 _ l R hi y
  obtain ⟨rfl, e⟩ := y
  obtain ⟨d, e2, rp⟩ := r.getV e
  exact ⟨F2, d, e2, Le.refl _, R, rp.mono l⟩
theorem Rel.hide {K : Kf} {B F : Hp} {E : En} {h : MH} {σ : L2.St} {H : Hp} (R : Rel K B F E h σ H) {p : Addr} {m : MO} {o : HO} (e : h p = some m) (eH : H p = some o) : Rel K (upd B p o) F E (del h p) σ H where
  out := fun a u q => by
    by_cases n : a = p
    · subst n
      rw [upd_same] at q
      cases q
      exact ⟨eH, R.Fh e, del_same⟩
    · rw [upd_ne n] at q
      have z := R.out a u q
      refine ⟨z.1, z.2.1, ?_⟩
      show (if a = p then none else h a) = none
      rw [if_neg n]
      exact z.2.2
  frz := fun a u q => by
    have z := R.frz a u q
    refine ⟨z.1, ?_⟩
    show (if a = p then none else h a) = none
    split
    · rfl
    · exact z.2
  cel := fun a m q => R.cel a m (del_some q).1
  slot := R.slot
theorem Rel.show {K : Kf} {B F : Hp} {E : En} {h : MH} {σ : L2.St} {H : Hp} {p : Addr} {m : MO} {o : HO} (R : Rel K (upd B p o) F E h σ H) (b : B p = none) (c : H p = some o → Cel K F H p m) : Rel K B F E (put h p m) σ H := by
  have z := R.out p o upd_same
  have R1 : Rel K B F E h σ H := ⟨fun a u q => R.out a u (by rw [upd_ne (ne_of_none q b)]; exact q), R.frz, R.cel, R.slot⟩
  exact R1.toC (c z.1) b z.2.1
theorem RvOk.show {K : Kf} {B F : Hp} {h : MH} {H : Hp} {p : Addr} {m : MO} {o : HO} {r : RV} {v : V} (b : B p = none) (q : RvOk K (upd B p o) F h H r v) : RvOk K B F (put h p m) H r v := by
  have aux : ∀ l, (upd B p o) l = none → B l = none ∧ l ≠ p := fun l z => by
    by_cases n : l = p
    · subst n
      rw [upd_same] at z
      cases z
    · rw [upd_ne n] at z
      exact ⟨z, n⟩
  have aux2 : ∀ l, l ≠ p → h l = none → put h p m l = none := fun l n z => by
    show (if l = p then _ else h l) = none
    rw [if_neg n]
    exact z
  cases r with
  | d x => exact q
  | ol xs =>
    obtain ⟨l, vs, e, e2, rs, q1, q2, q3⟩ := q
    exact ⟨l, vs, e, e2, rs, (aux l q1).1, q2, aux2 l (aux l q1).2 q3⟩
  | od xs =>
    obtain ⟨l, vs, e, e2, rs, q1, q2, q3⟩ := q
    exact ⟨l, vs, e, e2, rs, (aux l q1).1, q2, aux2 l (aux l q1).2 q3⟩
theorem mi_seq {l : Expr} {t : TVm} (p : MV X W l t) : MI X W tg l (mIter t) := fun B => (pi_seq (p B)).impM fun σ H Rr ⟨F, E, h, Kn, Kx, R, ht, hx, hn⟩ => by
  refine ⟨F, E, h, _, Kx, R, ht, hx, fun d h' F' H' v l R' rp k => ?_⟩
  cases rp with
  | @tup a vs ds q rs => exact ⟨_, rfl, .inr ⟨⟨_, R'.sqT q⟩, hn ds h' id F' H' B _ l R' (Src.same walk_tup rs fun _ F2 _ _ _ _ l2 R2 => R2.sqT (l2.sqT q)) k⟩⟩
  | @lst a vs ds q rs => exact ⟨_, rfl, .inl ⟨⟨_, .of (R'.frz _ _ q).1⟩, hn ds h' id F' H' B _ l R' (Src.same walk_list rs fun _ F2 _ _ _ _ l2 R2 => .of (R2.frz _ _ (l2.ls _ _ q)).1) k⟩⟩
  | @scr a ns q => exact ⟨_, rfl, .inl ⟨⟨_, R'.sqL q⟩, hn (ns.map D.int) h' id F' H' B _ l R' (Src.same walk_list (Reps.ints ns) fun _ F2 _ _ _ _ l2 R2 => R2.sqL (l2.sqL q)) k⟩⟩
  | ref a =>
    have k : (match h' a with
      | some (.lst xs) => Kn xs (del h' a) (fun h2 => put h2 a (.lst xs))
      | _ => False) := k
    cases e : h' a with
    | none => rw [e] at k; exact k.elim
    | some m =>
      rw [e] at k
      cases m with
      | lst xs =>
        obtain ⟨vs, e2, rs⟩ := R'.cel a _ e
        have b := R'.Bh e
        refine ⟨a, rfl, .inl ⟨⟨_, .of e2⟩, hn xs (del h' a) _ F' H' (upd B a (.lst vs)) _ l (R'.hide e e2) ⟨⟨fun H => SqL X.K H a vs, YAt vs, by rw [rs.len]; exact walk_list, fun B2 F2 _ _ _ _ sb _ R2 => .of (R2.out a _ (sb _ _ upd_same)).1, ?_⟩, ?_, ?_⟩ k⟩⟩
        · intro B2 F2 E2 h2 σ2 H2 i x H3 _ l2 R2 hi y
          obtain ⟨rfl, e⟩ := y
          obtain ⟨d, e2, rp⟩ := rs.getV e
          exact ⟨F2, d, e2, Le.refl _, R2, rp.mono l2⟩
        · intro F2 E2 h2 σ2 H2 l2 R2
          exact R2.show b fun z => ⟨vs, z, rs.mono l2⟩
        · intro F2 h2 H2 r v l2 q
          exact q.show b
      | dct xs => exact k.elim
      | ins C fs => exact k.elim
  | _ => exact k.elim
/-- range(n), range(a, b) -/
def rngD (lo : Int) (n : Nat) : List D := (List.range n).map fun i => D.int (lo + (i : Nat))
theorem Src.rng {K : Kf} {B F : Hp} {lo : Int} {n : Nat} : Src K B F (rngD lo n) B id (Itr lo n) := by
  have hl : (rngD lo n).length = n := by simp [rngD]
  refine ⟨⟨fun _ => True, _, by rw [hl]; exact walk_range, fun _ _ _ _ _ _ _ _ _ => True.intro, ?_⟩, fun _ _ _ _ _ _ R => R, fun _ _ _ _ _ _ q => q⟩
  intro B2 F2 E2 h2 σ2 H2 i x H3 _ l R hi y
  obtain ⟨rfl, rfl⟩ := y
  rw [hl] at hi
  exact ⟨F2, .int (lo + (i : Nat)), by simp [rngD, hi], Le.refl _, R, .int _⟩
def mRng1 (ta : TAm) : TIm := fun E h Kn Kx => ta E h (fun ds h' => match ds with
  | [.int j] => (-(2 ^ 62) ≤ j ∧ j < 2 ^ 62) ∧ Kn (rngD 0 j.toNat) h' id
  | _ => False) Kx
def mRng2 (ta : TAm) : TIm := fun E h Kn Kx => ta E h (fun ds h' => match ds with
  | [.int i, .int j] => (-(2 ^ 62) ≤ i ∧ i < 2 ^ 62 ∧ -(2 ^ 62) ≤ j ∧ j < 2 ^ 62) ∧ Kn (rngD i (j - i).toNat) h' id
  | _ => False) Kx
theorem mi_range1 {a : Expr} {ta : TAm} {p pos : Pos} (hg : Gl X "range") (hm : X.mg "range" = none) (ha : MA X W [a] ta) (hs : starEach [a] X.env = [(false, eval a X.env)] := by rfl) : MI X W tg (.Call (.Name "range" p) [a] [] pos) (mRng1 ta) := fun B =>
  (pi_range1 hg hm (ha B) hs).impM fun σ H Rr ⟨F, E, h, Kn, Kx, R, ht, hx, hn⟩ => by
    refine ⟨F, E, h, _, Kx, R, ht, hx, fun ds h' F' H' vs l R' r k => ?_⟩
    match ds, vs, r, k with
    | [.int j], [_], .cons (.int _) .nil, k => exact ⟨j, rfl, k.1.1, k.1.2, hn _ h' id F' H' B _ l R' Src.rng k.2⟩
theorem mi_range2 {a b : Expr} {ta : TAm} {p pos : Pos} (hg : Gl X "range") (hm : X.mg "range" = none) (ha : MA X W [a, b] ta) (hs : starEach [a, b] X.env = [(false, eval a X.env), (false, eval b X.env)] := by rfl) (hs2 : starEach [b] X.env = [(false, eval b X.env)] := by rfl) :
    MI X W tg (.Call (.Name "range" p) [a, b] [] pos) (mRng2 ta) := fun B =>
  (pi_range2 hg hm (ha B) hs hs2).impM fun σ H Rr ⟨F, E, h, Kn, Kx, R, ht, hx, hn⟩ => by
    refine ⟨F, E, h, _, Kx, R, ht, hx, fun ds h' F' H' vs l R' r k => ?_⟩
    match ds, vs, r, k with
    | [.int i, .int j], [_, _], .cons (.int _) (.cons (.int _) .nil), k => exact ⟨i, j, rfl, k.1, hn _ h' id F' H' B _ l R' Src.rng k.2⟩
end
/-! ### for -/
def forL (g : TGm) (tb : TSm) : List D → Nd → En → MH → Prop
  | [], N, E, h => N.nx E h
  | d :: ds, N, E, h => g d E h fun E2 h2 => tb { nx := fun E3 h3 => forL g tb ds N E3 h3, rt := N.rt, bk := N.nx, ct := fun E3 h3 => forL g tb ds N E3 h3, xs := N.xs } E2 h2
def sFor (ti : TIm) (g : TGm) (tb : TSm) : TSm := fun N E h => ti E h (fun items h' back => forL g tb items { nx := fun E2 h2 => N.nx E2 (back h2), rt := fun r h2 => N.rt r (back h2), xs := fun x h2 => N.xs x (back h2) } E h') N.xs
section
variable {X : Cx} {W : WX}
theorem PSs.any {st : List Stmt} {t : Hp → TS} (p : ∀ B, PSs X st (t B)) : PSs X st (fun D σ H => ∃ B, t B D σ H) := ⟨fun pins s σ H D I ⟨B, q⟩ => (p B).run pins s σ H D I q⟩
theorem PG.any {e : Expr} {t : Hp → TG} (p : ∀ B, PG X e (t B)) : PG X e (fun v σ H Q => ∃ B, t B v σ H Q) := ⟨fun pins s σ H v u Q I r ⟨B, q⟩ => (p B).run pins s σ H v u Q I r q⟩
theorem PE.any {e : Expr} {t : Hp → TE} (p : ∀ B, PE X e (t B)) : PE X e (fun σ H Q => ∃ B, t B σ H Q) := ⟨fun pins s σ H Q I ⟨B, q⟩ => (p B).run pins s σ H Q I q⟩
theorem ms_for {tg iter : Expr} {body : List Stmt} {ti : TIm} {g : TGm} {tb : TSm} {ws : List Nat} {pos : Pos} (hp : PassesOwn (model X.prog X.w) X.A X.env X.xe) (hc : X.calm = true) (hi : MI X W tg iter ti) (hg : MG X tg ws g) (hb : MB X W body tb)
    (hs : ∀ x, foldedSetIterable iter X.env x = pure x := by intro _; rfl) : MS X W (.For tg iter body [] pos) (sFor ti g tb) := fun B => (ps_for hp hc (hi B) (PG.any hg) (PSs.any hb) hs).impM fun D σ H ⟨F, E, h, N, R, ht, c⟩ => by
  refine ⟨F, E, h, _, N.xs, R, ht, fun x h' F' H' a dx l R' q k => c.2.2.2.2 x h' F' E σ H' a dx l R' q k, fun items h' back F' H' B' J l R' S k => ?_⟩
  obtain ⟨G, Y, w, hG, hY⟩ := S.ex
  refine for_it (g := fun v σ H Q => ∃ B, LG X.K B ws g v σ H Q) (tb := fun D σ H => ∃ B, LS X.K B W tb D σ H) (D := D) w (fun i σ H => ∃ F2 E2 h2, Le F' F2 ∧ Rel X.K B' F2 E2 h2 σ H ∧ forL g tb (items.drop i) { nx := fun E2 h2 => N.nx E2 (back h2), rt := fun r h2 => N.rt r (back h2), xs := fun x h2 => N.xs x (back h2) } E2 h2)
    ⟨F', E, h', Le.refl _, R', k⟩ (fun i σ H _ ⟨F2, E2, h2, l2, R2, _⟩ => hG B' F2 E2 h2 σ H (fun _ _ z => z) l2 R2) ?_ ?_
  · rintro i x σ2 H2 H3 hi ⟨F2, E2, h2, l2, R2, k2⟩ y
    obtain ⟨F3, d, ed, l3, R3, rp⟩ := hY B' F2 E2 h2 σ2 H2 i x H3 (fun _ _ z => z) l2 R2 hi y
    have l3 := l2.trans l3
    have edr : items.drop i = d :: items.drop (i + 1) := by
      obtain ⟨hlt, e⟩ := List.getElem?_eq_some_iff.mp ed
      rw [List.drop_eq_getElem_cons hlt, e]
    rw [edr] at k2
    refine ⟨B', F3, E2, h2, d, _, R3, rp, k2, fun E4 h4 F4 σ4 H4 _ l4 R4 k4 => ?_⟩
    have l4 := l3.trans l4
    refine ⟨B', F4, E4, h4, _, R4, k4, ?_, ?_, ?_, ?_, ?_⟩
    · exact fun E5 h5 F5 σ5 H5 l5 R5 k5 => ⟨F5, E5, h5, l4.trans l5, R5, k5⟩
    · exact fun r h5 F5 E5 σ5 H5 v l5 R5 q5 k5 => c.2.1 r _ F5 E5 σ5 H5 v (l.trans (l4.trans l5)) (S.bak F5 E5 h5 σ5 H5 (l4.trans l5) R5) (S.val F5 h5 H5 r v (l4.trans l5) q5) k5
    · exact fun E5 h5 F5 σ5 H5 l5 R5 k5 => c.1 E5 _ F5 σ5 H5 (l.trans (l4.trans l5)) (S.bak F5 E5 h5 σ5 H5 (l4.trans l5) R5) k5
    · exact fun E5 h5 F5 σ5 H5 l5 R5 k5 => ⟨F5, E5, h5, l4.trans l5, R5, k5⟩
    · exact fun x h5 F5 E5 σ5 H5 a dx l5 R5 q5 k5 => c.2.2.2.2 x _ F5 E5 σ5 H5 a dx (l.trans (l4.trans l5)) (S.bak F5 E5 h5 σ5 H5 (l4.trans l5) R5) q5 k5
  · rintro σ2 H2 ⟨F2, E2, h2, l2, R2, k2⟩
    rw [List.drop_length] at k2
    exact c.1 E2 _ F2 σ2 H2 (l.trans l2) (S.bak F2 E2 h2 σ2 H2 l2 R2) k2
/-! ### while -/
/-- by turns: at most so many -/
def whileN (c : TTm) (tb : TSm) : Nat → Nd → En → MH → Prop
  | 0, _, _, _ => False
  | n + 1, N, E, h => c E h (fun b h' => if b = true then tb { nx := fun E2 h2 => whileN c tb n N E2 h2, rt := N.rt, bk := N.nx, ct := fun E2 h2 => whileN c tb n N E2 h2, xs := N.xs } E h' else N.nx E h') N.xs
def sWhile (c : TTm) (tb : TSm) : TSm := fun N E h => ∃ n, whileN c tb n N E h
theorem ms_while {c : Expr} {body : List Stmt} {tc : TTm} {tb : TSm} {pos : Pos} (hp : PassesOwn (model X.prog X.w) X.A X.env X.xe) (hc : MT X W c tc) (hb : MB X W body tb) : MS X W (.While c body [] pos) (sWhile tc tb) := fun B => (ps_while hp (hc B) (hb B)).impM fun D σ H ⟨F, E, h, N, R, ⟨n, ht⟩, c⟩ => by
  refine ⟨fun m σ H => ∃ F2 E2 h2, Le F F2 ∧ Rel X.K B F2 E2 h2 σ H ∧ whileN tc tb m N E2 h2, ⟨n, F, E, h, Le.refl _, R, ht⟩, ?_⟩
  rintro m σ2 H2 ⟨F2, E2, h2, l2, R2, k2⟩
  cases m with
  | zero => exact k2.elim
  | succ m =>
    refine ⟨F2, E2, h2, _, N.xs, R2, k2, fun x h' F' H' a dx l R' q k => c.2.2.2.2 x h' F' E2 σ2 H' a dx (l2.trans l) R' q k, fun b h3 F3 H3 l3 R3 k3 => ?_⟩
    have l3 := l2.trans l3
    cases b with
    | true =>
      refine ⟨fun σ H => ∃ F2 E2 h2, Le F F2 ∧ Rel X.K B F2 E2 h2 σ H ∧ whileN tc tb m N E2 h2, fun σ' H' q => ⟨m, Nat.lt_succ_self m, q⟩, ?_⟩
      refine ⟨F3, E2, h3, _, R3, k3, ?_, ?_, ?_, ?_, ?_⟩
      · exact fun E5 h5 F5 σ5 H5 l5 R5 k5 => ⟨F5, E5, h5, l3.trans l5, R5, k5⟩
      · exact fun r h5 F5 E5 σ5 H5 v l5 R5 q5 k5 => c.2.1 r _ F5 E5 σ5 H5 v (l3.trans l5) R5 q5 k5
      · exact fun E5 h5 F5 σ5 H5 l5 R5 k5 => c.1 E5 _ F5 σ5 H5 (l3.trans l5) R5 k5
      · exact fun E5 h5 F5 σ5 H5 l5 R5 k5 => ⟨F5, E5, h5, l3.trans l5, R5, k5⟩
      · exact fun x h5 F5 E5 σ5 H5 a dx l5 R5 q5 k5 => c.2.2.2.2 x _ F5 E5 σ5 H5 a dx (l3.trans l5) R5 q5 k5
    | false => exact c.1 E2 h3 F3 σ2 H3 l3 R3 k3
end
/-! ### comprehensions -/
abbrev W0 : WX := fun _ _ _ _ => False
def xNo : XKm := fun _ _ => False
def lcL (g : TGm) (tt : TTm) (te : TVm) (E : En) : List D → List D → MH → (List D → MH → Prop) → Prop
  | [], acc, h, k => k acc h
  | d :: ds, acc, h, k => g d E h fun E2 h2 => tt E2 h2 (fun b h3 => if b = true then te E2 h3 (fun y h4 => acc.length < sizeLine ∧ lcL g tt te E ds (acc ++ [y]) h4 k) xNo else lcL g tt te E ds acc h3 k) xNo
def mLc (ti : TIm) (g : TGm) (tt : TTm) (te : TVm) (ws : List Nat) : TEm := fun E h Kn Kx => ti E h (fun items h' back => lcL g tt te (wipeE E ws) items [] h' fun acc h2 => Kn (.ol acc) (back h2)) Kx
def mYes : TTm := fun _ h Kn _ => Kn true h
def MTs (X : Cx) (W : WX) (ifs : List Expr) (t : TTm) : Prop := ∀ B, PTs X ifs (LT X.K B W t)
theorem _root_.L2.PTs.impM {X : Cx} {e : List Expr} {t t' : TT} (p : PTs X e t) (h : ∀ σ H Q, t' σ H Q → t σ H Q) : PTs X e t' := ⟨fun pins s σ H Q I q => p.run pins s σ H Q I (h σ H Q q)⟩
theorem mts_nil {X : Cx} {W : WX} : MTs X W [] mYes := fun B => pts_nil.impM fun σ H Q ⟨F, E, h, Kn, Kx, R, ht, hx, hn⟩ => hn true h F H (Le.refl F) R ht
theorem mts_one {X : Cx} {W : WX} {c : Expr} {t : TTm} (p : MT X W c t) : MTs X W [c] t := fun B => pts_one (p B)
theorem PTs.any {X : Cx} {e : List Expr} {t : Hp → TT} (p : ∀ B, PTs X e (t B)) : PTs X e (fun σ H Q => ∃ B, t B σ H Q) := ⟨fun pins s σ H Q I ⟨B, q⟩ => (p B).run pins s σ H Q I q⟩
section
variable {X : Cx} {W : WX}
theorem wipe_wipe {σ : L2.St} : ∀ {ws : List Nat}, wipe (wipe σ ws) ws = wipe σ ws := by
  have hmem : ∀ (us ws : List Nat) (σ : L2.St), (∀ u ∈ us, u ∈ ws) → wipe (wipe σ us) ws = wipe σ ws := by
    intro us
    induction us with
    | nil => intro _ _ _; rfl
    | cons u us ih =>
      intro ws σ h
      show wipe ((wipe σ us).set u none) ws = _
      rw [wipe_set (h u List.mem_cons_self)]
      exact ih ws σ fun v hv => h v (List.mem_cons_of_mem _ hv)
  intro ws
  exact hmem ws ws σ fun _ h => h
theorem lc_ok {K : Kf} {B : Hp} {ti : TIm} {g : TGm} {tt : TTm} {te : TVm} {ws : List Nat} {σ : L2.St} {H : Hp} {Q : VK} (q : LE K B W (mLc ti g tt te ws) σ H Q) :
    tLc (LI K B W ti) (fun v σ H Q => ∃ B, LG K B ws g v σ H Q) (fun σ H Q => ∃ B, LT K B W0 tt σ H Q) (fun σ H Q => ∃ B, LV K B W0 te σ H Q) ws σ H Q := by
  obtain ⟨F, E, h, Kn, Kx, R, ht, hx, hn⟩ := q
  refine ⟨F, E, h, _, Kx, R, ht, hx, fun items h' back F' H' B' J l R' S k => ?_⟩
  obtain ⟨G, Y, w, hG, hY⟩ := S.ex
  intro D nD
  refine lc_it (g := fun v σ H Q => ∃ B, LG K B ws g v σ H Q) (tt := fun σ H Q => ∃ B, LT K B W0 tt σ H Q) (te := fun σ H Q => ∃ B, LV K B W0 te σ H Q) (vs := ws) (σ := σ) (Qd := fun H => Q (.ref D) H) w (fun i H => ∃ F2 h2 acc vs, Le F' F2 ∧ acc.length ≤ sizeLine ∧ Rel K (upd B' D (.lst vs)) F2 (wipeE E ws) h2 (wipe σ ws) H ∧ B' D = none ∧ Reps K F2 acc vs ∧ lcL g tt te (wipeE E ws) (items.drop i) acc h2 fun acc h2 => Kn (.ol acc) (back h2)) ?_ ?_ ?_ ?_
  · have R2 : Rel K B' F' (wipeE E ws) h' (wipe σ ws) (upd H' D (.lst [])) := (R'.slots (R'.slot.wiped ws)).newO nD
    refine ⟨F', h', [], [], Le.refl _, Nat.zero_le _, ⟨fun a u e => ?_, R2.frz, R2.cel, R2.slot⟩, R'.noB nD, .nil, k⟩
    by_cases n : a = D
    · subst n
      rw [upd_same] at e
      cases e
      exact ⟨upd_same, R'.noF nD, R'.noh nD⟩
    · rw [upd_ne n] at e
      exact R2.out a u e
  · rintro i H _ ⟨F2, h2, acc, vs, l2, _, R2, bD, _⟩
    exact hG _ F2 _ h2 _ _ (fun a o z => by rw [upd_ne (ne_of_none z bD)]; exact z) l2 R2
  · rintro i x H2 H3 hi ⟨F2, h2, acc, vs, l2, hz, R2, bD, rs, k2⟩ y
    obtain ⟨F3, d, ed, l3, R3, rp⟩ := hY _ F2 _ h2 _ H2 i x H3 (fun a o z => by rw [upd_ne (ne_of_none z bD)]; exact z) l2 R2 hi y
    have edr : items.drop i = d :: items.drop (i + 1) := by
      obtain ⟨hlt, e⟩ := List.getElem?_eq_some_iff.mp ed
      rw [List.drop_eq_getElem_cons hlt, e]
    rw [edr] at k2
    refine ⟨_, F3, _, h2, d, _, R3, rp, k2, fun E4 h4 F4 σ4 H4 w4 l4 R4 k4 => ⟨by rw [w4, wipe_wipe], ?_⟩⟩
    refine ⟨_, F4, E4, h4, _, xNo, R4, k4, fun x h' F' H' c dx _ _ _ z => z.elim, fun b h5 F5 H5 l5 R5 k5 => ?_⟩
    have keep : ∀ {F6 : Hp} {h6 : MH} {E6 : En} {H6 : Hp} {vs' : List V}, Le F4 F6 → Rel K (upd B' D (.lst vs')) F6 E6 h6 σ4 H6 → Rel K (upd B' D (.lst vs')) F6 (wipeE E ws) h6 (wipe σ ws) H6 := fun {F6 h6 E6 H6 vs'} l6 R6 =>
      R6.slots ((R'.slot.wiped ws).mono (((l2.trans l3).trans l4).trans l6))
    have lx := (l2.trans l3).trans l4
    cases b with
    | false => exact ⟨F5, h5, acc, vs, lx.trans l5, hz, keep l5 R5, bD, rs.mono ((l3.trans l4).trans l5), k5⟩
    | true =>
      refine ⟨_, F5, E4, h5, _, xNo, R5, k5, fun x h' F' H' c dx _ _ _ z => z.elim, fun y h6 F6 H6 u l6 R6 r6 k6 => ?_⟩
      have rs6 := rs.mono (((l3.trans l4).trans l5).trans l6)
      refine ⟨vs, (R6.out D _ upd_same).1, by rw [← rs.len]; exact k6.1, F6, h6, acc ++ [y], vs ++ [u], lx.trans (l5.trans l6), ?_, ?_, bD, rs6.app (.cons r6 .nil), k6.2⟩
      · rw [List.length_append]
        exact k6.1
      · have R7 := keep (l5.trans l6) R6
        have zD := R7.out D _ upd_same
        refine ⟨fun a o z => ?_, fun a o z => ?_, fun a m z => ?_, R7.slot⟩
        · by_cases n : a = D
          · subst n
            rw [upd_same] at z ⊢
            exact ⟨z, zD.2⟩
          · rw [upd_ne n] at z ⊢
            exact R7.out a o (by rw [upd_ne n]; exact z)
        · have n : a ≠ D := ne_of_none z zD.2.1
          rw [upd_ne n]
          exact R7.frz a o z
        · have n : a ≠ D := fun q => by
            rw [q, zD.2.2] at z
            cases z
          exact (R7.cel a m z).mono (Le.refl _) (upd_ne n)
  · rintro H2 ⟨F2, h2, acc, vs, l2, hz, R2, bD, rs, k2⟩
    rw [List.drop_length] at k2
    have zD := R2.out D _ upd_same
    have R2' : Rel K B' F2 (wipeE E ws) h2 (wipe σ ws) H2 := ⟨fun a u e => R2.out a u (by rw [upd_ne (ne_of_none e bD)]; exact e), R2.frz, R2.cel, R2.slot⟩
    have R3 : Rel K B' F2 E h2 σ H2 := R2'.slots (R'.slot.mono l2)
    exact hn (.ol acc) _ F2 H2 (.ref D) (l.trans l2) (S.bak F2 E h2 σ H2 l2 R3) (S.val F2 h2 H2 (.ol acc) _ l2 ⟨D, vs, rfl, zD.1, rs, bD, zD.2.1, zD.2.2⟩) k2
end
end M3
set_option Elab.async false
set_option linter.all false
set_option maxRecDepth 100000
set_option maxHeartbeats 4000000
namespace M3
open PySem PySem.Spec PyProof.Rows L2
section
variable {X : Cx} {W : WX}
/-! ### comprehensions, as values and as statements -/
theorem me_lc {elt tg iter : Expr} {ifs : List Expr} {scope : Scope} {own : List (Str × Nat)} {pos : Pos} {ti : TIm} {g : TGm} {tt : TTm} {te : TVm} (hc : X.calm = true) (hN : X.N.Nodup) (hi : MI X W tg iter ti) (ok : BlkOk X.N X.env.scope scope own)
    (hg : ∀ (s : Shared) (H : Hp) (C : Addr) (cl : List (Str × Addr)) (fp : List Addr), MG (X.blk s H scope (compEnvC scope cl C X.env) fp) tg (own.map (·.2)) g) (ht : ∀ (s : Shared) (H : Hp) (C : Addr) (cl : List (Str × Addr)) (fp : List Addr), MTs (X.blk s H scope (compEnvC scope cl C X.env) fp) W0 ifs tt)
    (he : ∀ (s : Shared) (H : Hp) (C : Addr) (cl : List (Str × Addr)) (fp : List Addr), MV (X.blk s H scope (compEnvC scope cl C X.env) fp) W0 elt te) (hs : ∀ x, foldedSetIterable iter X.env x = pure x := by intro _; rfl) :
    ME X W (.ListComp elt [⟨tg, iter, ifs, 0⟩] scope pos) (mLc ti g tt te (own.map (·.2))) := fun B =>
  (pe_lc hc hN (hi B) ok (fun s H C cl fp => PG.any (X := X.blk s H scope (compEnvC scope cl C X.env) fp) (e := tg) (t := fun B => LG X.K B (List.map (fun (p : Str × Nat) => p.2) own) g) (hg s H C cl fp)) (fun s H C cl fp => PTs.any (t := fun B => LT X.K B W0 tt) (ht s H C cl fp)) (fun s H C cl fp => PE.any (t := fun B => LV X.K B W0 te) (he s H C cl fp)) hs).impM fun _ _ _ q => lc_ok q
theorem frz_ok {K : Kf} {B : Hp} {t : TEm} {σ : L2.St} {H : Hp} {Q : VK} (q : LV K B W (frzV t) σ H Q) : LE K B W t σ H Q := by
  obtain ⟨F, E, h, Kn, Kx, R, ht, hx, hn⟩ := q
  exact ⟨F, E, h, _, Kx, R, ht, hx, fun r h' F' H' v l R' q k => by
    obtain ⟨F2, l2, R2, rp⟩ := q.frz R'
    exact hn _ h' F2 H' v (l.trans l2) R2 rp k⟩
theorem cell_ok {K : Kf} {B : Hp} {t : TEm} {σ : L2.St} {H : Hp} {Q : VK} (q : LE K B W (mCell t) σ H Q) : LE K B W t σ H Q := by
  obtain ⟨F, E, h, Kn, Kx, R, ht, hx, hn⟩ := q
  exact ⟨F, E, h, _, Kx, R, ht, hx, fun r h' F' H' v l R' q k => by
    cases r with
    | d x => exact hn (.d x) h' F' H' v l R' q k
    | ol xs =>
      obtain ⟨a, vs, rfl, e, rs, b, f, n⟩ := q
      exact hn (.d (.ref a)) _ F' H' _ l (R'.toC (m := .lst xs) ⟨vs, e, rs⟩ b f) (.ref a) (k a n)
    | od xs =>
      obtain ⟨a, vs, rfl, e, rs, b, f, n⟩ := q
      exact hn (.d (.ref a)) _ F' H' _ l (R'.toC (m := .dct xs) ⟨vs, e, rs⟩ b f) (.ref a) (k a n)⟩
/-- t' tells of t -/
def Via (W : WX) (t' t : TEm) : Prop := ∀ K B σ H Q, LE K B W t' σ H Q → LE K B W t σ H Q
theorem via_id {t : TEm} : Via W t t := fun _ _ _ _ _ q => q
theorem via_cell {t : TEm} : Via W (mCell t) t := fun _ _ _ _ _ q => cell_ok q
theorem ms_setLc {i : Nat} {y : Str} {py : Pos} {elt tg iter : Expr} {ifs : List Expr} {scope : Scope} {own : List (Str × Nat)} {pos spos : Pos} {ti : TIm} {g : TGm} {tt : TTm} {te : TVm} {t' : TEm} (hc : X.calm = true) (hN : X.N.Nodup) (hy : X.N[i]? = some y) (hyl : X.env.scope.names.lookup y = some .local)
    (hsw : swapsWith (.ListComp elt [⟨tg, iter, ifs, 0⟩] scope pos) (some (.Name y py)) spos.line X.env = pure true) (hi : MI X W tg iter ti) (ok : BlkOk X.N X.env.scope scope own)
    (hg : ∀ (s : Shared) (H : Hp) (C : Addr) (cl : List (Str × Addr)) (fp : List Addr), MG (X.blk s H scope (compEnvC scope cl C X.env) fp) tg (own.map (·.2)) g) (ht : ∀ (s : Shared) (H : Hp) (C : Addr) (cl : List (Str × Addr)) (fp : List Addr), MTs (X.blk s H scope (compEnvC scope cl C X.env) fp) W0 ifs tt)
    (he : ∀ (s : Shared) (H : Hp) (C : Addr) (cl : List (Str × Addr)) (fp : List Addr), MV (X.blk s H scope (compEnvC scope cl C X.env) fp) W0 elt te) (via : Via W t' (mLc ti g tt te (own.map (·.2)))) (hs : ∀ x, foldedSetIterable iter X.env x = pure x := by intro _; rfl) :
    MS X W (.Assign [.Name y py] (.ListComp elt [⟨tg, iter, ifs, 0⟩] scope pos) spos) (sSet i (frzV t')) := fun B =>
  (ps_setLc hc hN hy hyl hsw (hi B) ok (fun s H C cl fp => PG.any (X := X.blk s H scope (compEnvC scope cl C X.env) fp) (e := tg) (t := fun B => LG X.K B (List.map (fun (p : Str × Nat) => p.2) own) g) (hg s H C cl fp)) (fun s H C cl fp => PTs.any (t := fun B => LT X.K B W0 tt) (ht s H C cl fp)) (fun s H C cl fp => PE.any (t := fun B => LV X.K B W0 te) (he s H C cl fp)) hs).impM fun _ _ _ q => lc_ok (via _ _ _ _ _ (frz_ok (set_ok q)))

/-! ### what a def promises, over data -/
abbrev MSp := List D → MH → (RV → MH → Prop) → XKm → Prop
def LSp (K : Kf) (sp : MSp) : Sp := fun vs H Q Ex => ∃ B F h ds Kn Kx, Rel K B F [] h [] H ∧ Reps K F ds vs ∧ sp ds h Kn Kx ∧
  (∀ r h' F' H' v, Le F F' → Rel K B F' [] h' [] H' → RvOk K B F' h' H' r v → Kn r h' → Q v H') ∧
  (∀ x h' F' H' c dx, Le F F' → Rel K B F' [] h' [] H' → XOk K F' x c dx → Kx x h' → Ex c dx H')
abbrev FM (P : Program) (w : World) (K : Kf) (mg : Str → Option Value) (base : Heap) (k : Nat) (f : Addr) (fd : FuncData) (ps : List Str) (sp : MSp) : Prop := FnOk P w K mg base (L2.CX P w) k f fd ps (LSp K sp)
theorem sp_ok {K : Kf} {B F : Hp} {E : En} {h : MH} {σ : L2.St} {H : Hp} {ds : List D} {vs : List V} {sp : MSp} {Kn : RV → MH → Prop} {Kx : XKm} {Q : VK} (R : Rel K B F E h σ H) (r : Reps K F ds vs) (k : sp ds h Kn Kx)
    (hx : XFin K B F E σ W Kx) (hn : ∀ r h' F' H' v, Le F F' → Rel K B F' E h' σ H' → RvOk K B F' h' H' r v → Kn r h' → Q v H') : LSp K sp vs H Q (WE W σ) :=
  ⟨B, F, h, ds, Kn, Kx, R.slots .nil, r, k, fun r h' F' H' v l R' q k => hn r h' F' H' v l (R'.slots (R.slot.mono l)) q k, fun x h' F' H' c dx l R' q k => hx x h' F' H' c dx l (R'.slots (R.slot.mono l)) q k⟩
def mFun (sp : MSp) (dds : List D) (t : TAm) : TEm := fun E h Kn Kx => t E h (fun ds h' => sp (ds ++ dds) h' Kn Kx) Kx
variable {k : Nat} {f C : Addr} {fd : FuncData} {ps : List Str} {sp : MSp} {dvs : List V} {ds : List Value} {dds : List D} {x m : Str} {p pos apos : Pos} {e o : Expr} {es : List Expr} {t : TAm} {to : TVm}
theorem me_call (F : FM X.prog X.w X.K X.mg X.base k f fd ps sp) (hr : Room k X.A) (hg : Gl X x) (hm : X.mg x = some (.ref f)) (hk : PySem.W.keepIn X.K (.ref f) = true) (hb : Binds X.K fd ps ds) (hd : Vals dvs ds) (hdd : ∀ K F, Reps K F dds dvs) (tk : Takes X W)
    (ha : MA X W (e :: es) t) (hdb : (x == ("__debug__" : Str)) = false := by decide) (he : starEach (e :: es) X.env = (false, eval e X.env) :: starEach es X.env := by rfl) (hpl : (backTo pos (starEach es X.env)).any (·.1) = false := by rfl) :
    ME X W (.Call (.Name x p) (e :: es) [] pos) (mFun sp dds t) := fun B => (pe_callSD (E := WE W) F hr hg hm hk hb hd (fun σ => passAt tk σ) (ha B) hdb he hpl).impM fun σ H Q ⟨F, E, h, Kn, Kx, R, ht, hx, hn⟩ => by
  refine ⟨F, E, h, _, Kx, R, ht, hx, fun ds' h' F' H' vs l R' r k => ?_⟩
  exact sp_ok R' (r.app (hdd _ _)) k (hx.up l) fun r h2 F2 H2 v l2 R2 q2 k2 => hn r h2 F2 H2 v (l.trans l2) R2 q2 k2
theorem call0_S {sp : Sp} {E : L2.St → XK} (F : FnOk X.prog X.w X.K X.mg X.base (L2.CX X.prog X.w) k f fd ps sp) (hr : Room k X.A) (hg : Gl X x) (hm : X.mg x = some (.ref f)) (hk : PySem.W.keepIn X.K (.ref f) = true) (hb : Binds X.K fd ps ds) (hd : Vals dvs ds) (hx : ∀ σ, PassesAt (L2.CX X.prog X.w) X σ (E σ))
    (hdb : (x == ("__debug__" : Str)) = false := by decide) : PE X (.Call (.Name x p) [] [] pos) (tCallSD sp dvs E tNil) := by
  refine ⟨fun pins s σ H Q I h => ?_⟩
  refine wpAny_Call_Name_kw (ld_glob I hg hm ?_ hdb)
  exact PySem.W.callWith_K0 I.kIn hk (run_fnSD (us := []) F hr hb hd (hx σ) I .nil h)
theorem me_call0 (F : FM X.prog X.w X.K X.mg X.base k f fd ps sp) (hr : Room k X.A) (hg : Gl X x) (hm : X.mg x = some (.ref f)) (hk : PySem.W.keepIn X.K (.ref f) = true) (hb : Binds X.K fd ps ds) (hd : Vals dvs ds) (hdd : ∀ K F, Reps K F dds dvs) (tk : Takes X W)
    (hdb : (x == ("__debug__" : Str)) = false := by decide) : ME X W (.Call (.Name x p) [] [] pos) (mFun sp dds mNil) := fun B => (call0_S (E := WE W) F hr hg hm hk hb hd (fun σ => passAt tk σ) hdb).impM fun σ H Q ⟨F, E, h, Kn, Kx, R, ht, hx, hn⟩ => by
  exact sp_ok (ds := [] ++ dds) (vs := [] ++ dvs) R (hdd _ _) ht hx hn
/-! methods -/
def tMethS (C : Addr) (m : Str) (sp : Sp) (dvs : List V) (E : L2.St → XK) (ta : TE) (t : TA) : TE := fun σ H Q => ta σ H fun x H1 => ∃ a dx fs, x = .ref a ∧ H1 a = some (.ins C dx fs) ∧ fs.lookup m = none ∧
  t σ H1 fun vs H2 => sp (x :: (vs ++ dvs)) H2 Q (E σ)
theorem meth_S {sp : Sp} {E : L2.St → XK} {ta : TE} {t : TA} {pl : Sem Bool} (he : PE X o ta) (c : Cls X.K C) (hm : Meth X.K C m f) (F : FnOk X.prog X.w X.K X.mg X.base (L2.CX X.prog X.w) k f fd ps sp) (hr : Room k X.A) (hb : Binds X.K fd ps ds) (hd : Vals dvs ds) (hx : ∀ σ, PassesAt (L2.CX X.prog X.w) X σ (E σ)) (ha : PA X (e :: es) t)
    (hst : starEach (e :: es) X.env = (false, eval e X.env) :: starEach es X.env := by rfl) (hpl : (backTo pos (starEach es X.env)).any (·.1) = false := by rfl)
    (ht : eval (.Call (.Attribute o m apos) (e :: es) [] pos) X.env = (do
      let ov ← eval o X.env
      standAt apos.atName
      let (f, first) ← holding [ov] (getMethod ov m pl)
      callWith pos f first (backTo pos (starEach (e :: es) X.env)) (backToKw pos (keywordEach [] X.env))) := by rfl) :
    PE X (.Call (.Attribute o m apos) (e :: es) [] pos) (tMethS C m sp dvs E ta t) := by
  refine ⟨fun pins s σ H Q I h => ?_⟩
  refine PySem.W.methodCall_KW (pl := pl) (thn (he.run pins s σ H _ I h) fun u s1 ⟨x, H1, I1, rx, a, dx, fs, ex, ea, l, q⟩ => ?_) ht
  subst ex
  obtain rfl : u = Value.ref a := rx
  refine getmeth_ok I1 ea c hm l ?_
  refine PySem.W.callWith_K (first := [.ref a]) (h₀ := X.base) I.ok.mod.kin hm.kp (thn (ha.run pos pins s1 σ H1 _ I1 q) fun us s2 ⟨vs, H2, I2, r, q2⟩ => ⟨I2.kIn, ?_⟩) hst hpl
  exact run_fnSD (us := .ref a :: us) (vs := .ref a :: vs) F hr hb hd (hx σ) I2 (.cons rfl r) q2
theorem meth0_S {sp : Sp} {E : L2.St → XK} {ta : TE} {pl : Sem Bool} (he : PE X o ta) (c : Cls X.K C) (hm : Meth X.K C m f) (F : FnOk X.prog X.w X.K X.mg X.base (L2.CX X.prog X.w) k f fd ps sp) (hr : Room k X.A) (hb : Binds X.K fd ps ds) (hd : Vals dvs ds) (hx : ∀ σ, PassesAt (L2.CX X.prog X.w) X σ (E σ))
    (ht : eval (.Call (.Attribute o m apos) [] [] pos) X.env = (do
      let ov ← eval o X.env
      standAt apos.atName
      let (f, first) ← holding [ov] (getMethod ov m pl)
      callWith pos f first (backTo pos (starEach [] X.env)) (backToKw pos (keywordEach [] X.env))) := by rfl) :
    PE X (.Call (.Attribute o m apos) [] [] pos) (tMethS C m sp dvs E ta tNil) := by
  refine ⟨fun pins s σ H Q I h => ?_⟩
  refine PySem.W.methodCall_KW (pl := pl) (thn (he.run pins s σ H _ I h) fun u s1 ⟨x, H1, I1, rx, a, dx, fs, ex, ea, l, q⟩ => ?_) ht
  subst ex
  obtain rfl : u = Value.ref a := rx
  refine getmeth_ok I1 ea c hm l ?_
  exact PySem.W.callWith_K0 (first := [.ref a]) I1.kIn hm.kp (run_fnSD (us := [.ref a]) (vs := [.ref a]) F hr hb hd (hx σ) I1 (.cons rfl .nil) q)
theorem RepF.none {K : Kf} {F : Hp} {n : Str} : ∀ {fs : List (Str × D)} {ws : List (Str × V)}, RepF K F fs ws → fs.lookup n = none → ws.lookup n = none
  | _, _, .nil, _ => rfl
  | (k, d) :: fs, (_, v) :: ws, .cons _ r, h => by
    rw [List.lookup_cons] at h ⊢
    cases e : n == k with
    | true => rw [e] at h; cases h
    | false =>
      rw [e] at h
      exact RepF.none r h
theorem RepF.some {K : Kf} {F : Hp} {n : Str} {d : D} : ∀ {fs : List (Str × D)} {ws : List (Str × V)}, RepF K F fs ws → fs.lookup n = some d → ∃ v, ws.lookup n = some v ∧ Rep K F d v
  | (k, d) :: fs, (_, v) :: ws, .cons a r, h => by
    rw [List.lookup_cons] at h ⊢
    cases e : n == k with
    | true =>
      rw [e] at h
      cases h
      exact ⟨v, rfl, a⟩
    | false =>
      rw [e] at h
      exact RepF.some r h
/-- the cell of an instance -/
def onIns (h : MH) (d : D) (C : Addr) (k : Addr → List (Str × D) → Prop) : Prop := match d with
  | .ref a => (match h a with
    | .some (.ins C' fs) => C' = C ∧ k a fs
    | _ => False)
  | _ => False
theorem ins_of {K : Kf} {B F : Hp} {E : En} {h : MH} {σ : L2.St} {H : Hp} {d : D} {v : V} {C : Addr} {k : Addr → List (Str × D) → Prop} (R : Rel K B F E h σ H) (r : Rep K F d v) (q : onIns h d C k) :
    ∃ a fs dx ws, v = .ref a ∧ d = .ref a ∧ h a = Option.some (.ins C fs) ∧ H a = Option.some (.ins C dx ws) ∧ RepF K F fs ws ∧ k a fs := by
  cases r with
  | ref a =>
    have q : (match h a with
      | Option.some (.ins C' fs) => C' = C ∧ k a fs
      | _ => False) := q
    cases e : h a with
    | none => rw [e] at q; exact q.elim
    | some m =>
      rw [e] at q
      cases m with
      | ins C' fs =>
        obtain ⟨rfl, q2⟩ := q
        obtain ⟨dx, ws, e2, rs⟩ := R.cel a _ e
        exact ⟨a, fs, dx, ws, rfl, rfl, e, e2, rs, q2⟩
      | lst xs => exact q.elim
      | dct xs => exact q.elim
  | _ => exact q.elim
def mMeth (C : Addr) (m : Str) (sp : MSp) (dds : List D) (to : TVm) (t : TAm) : TEm := fun E h Kn Kx => to E h (fun d h' => onIns h' d C fun _ fs => fs.lookup m = none ∧ t E h' (fun ds h2 => sp (d :: (ds ++ dds)) h2 Kn Kx) Kx) Kx
theorem meth_ok {K : Kf} {B : Hp} {σ : L2.St} {H : Hp} {Q : VK} (hdd : ∀ K F, Reps K F dds dvs) (q : LE K B W (mMeth C m sp dds to t) σ H Q) : tMethS C m (LSp K sp) dvs (WE W) (LV K B W to) (LA K B W t) σ H Q := by
  obtain ⟨F, E, h, Kn, Kx, R, ht, hx, hn⟩ := q
  refine ⟨F, E, h, _, Kx, R, ht, hx, fun d h' F' H' v l R' rp k => ?_⟩
  obtain ⟨a, fs, dx, ws, rfl, rfl, ea, eH, rs, hl, k⟩ := ins_of R' rp k
  refine ⟨a, dx, ws, rfl, eH, RepF.none rs hl, F', E, h', _, Kx, R', k, hx.up l, fun ds2 h2 F2 H2 vs2 l2 R2 r2 k2 => ?_⟩
  exact sp_ok R2 (.cons (rp.mono l2) (r2.app (hdd _ _))) k2 (hx.up (l.trans l2)) fun r h2 F2 H2 v l3 R2 q2 k2 => hn r h2 F2 H2 v ((l.trans l2).trans l3) R2 q2 k2
theorem me_meth {pl : Sem Bool} (he : MV X W o to) (c : Cls X.K C) (hm : Meth X.K C m f) (F : FM X.prog X.w X.K X.mg X.base k f fd ps sp) (hr : Room k X.A) (hb : Binds X.K fd ps ds) (hd : Vals dvs ds) (hdd : ∀ K F, Reps K F dds dvs) (tk : Takes X W) (ha : MA X W (e :: es) t)
    (hst : starEach (e :: es) X.env = (false, eval e X.env) :: starEach es X.env := by rfl) (hpl : (backTo pos (starEach es X.env)).any (·.1) = false := by rfl)
    (ht : eval (.Call (.Attribute o m apos) (e :: es) [] pos) X.env = (do
      let ov ← eval o X.env
      standAt apos.atName
      let (f, first) ← holding [ov] (getMethod ov m pl)
      callWith pos f first (backTo pos (starEach (e :: es) X.env)) (backToKw pos (keywordEach [] X.env))) := by rfl) :
    ME X W (.Call (.Attribute o m apos) (e :: es) [] pos) (mMeth C m sp dds to t) := fun B => (meth_S (E := WE W) (he B) c hm F hr hb hd (fun σ => passAt tk σ) (ha B) hst hpl ht).impM fun _ _ _ q => meth_ok hdd q
theorem me_meth0 {pl : Sem Bool} (he : MV X W o to) (c : Cls X.K C) (hm : Meth X.K C m f) (F : FM X.prog X.w X.K X.mg X.base k f fd ps sp) (hr : Room k X.A) (hb : Binds X.K fd ps ds) (hd : Vals dvs ds) (hdd : ∀ K F, Reps K F dds dvs) (tk : Takes X W)
    (ht : eval (.Call (.Attribute o m apos) [] [] pos) X.env = (do
      let ov ← eval o X.env
      standAt apos.atName
      let (f, first) ← holding [ov] (getMethod ov m pl)
      callWith pos f first (backTo pos (starEach [] X.env)) (backToKw pos (keywordEach [] X.env))) := by rfl) :
    ME X W (.Call (.Attribute o m apos) [] [] pos) (mMeth C m sp dds to mNil) := fun B => (meth0_S (E := WE W) (he B) c hm F hr hb hd (fun σ => passAt tk σ) ht).impM fun _ _ _ ⟨F, E, h, Kn, Kx, R, ht, hx, hn⟩ => by
  refine ⟨F, E, h, _, Kx, R, ht, hx, fun d h' F' H' v l R' rp k => ?_⟩
  obtain ⟨a, fs, dx, ws, rfl, rfl, ea, eH, rs, hl, k⟩ := ins_of R' rp k
  refine ⟨a, dx, ws, rfl, eH, RepF.none rs hl, ?_⟩
  exact sp_ok (ds := .ref a :: ([] ++ dds)) (vs := .ref a :: ([] ++ dvs)) R' (.cons rp (hdd _ _)) k (hx.up l) fun r h2 F2 H2 v l3 R2 q2 k2 => hn r h2 F2 H2 v (l.trans l3) R2 q2 k2
/-! C(..): a new instance -/
def tMakeS (C : Addr) (sp : Sp) (dvs : List V) (E : L2.St → XK) (t : TA) : TE := fun σ H Q => t σ H fun vs H1 => ∀ x dx, H1 x = none → H1 dx = none → dx ≠ x →
  sp (.ref x :: (vs ++ dvs)) (upd (upd H1 dx (.own x)) x (.ins C dx [])) (fun v H2 => v = .non ∧ Q (.ref x) H2) (E σ)
theorem run_makeS {sp : Sp} {E : XK} {pins : List (Addr × Obj)} {σ : L2.St} {H : Hp} {s : Shared} {Q : VK} {us : List Value} {vs : List V} (M : Mk X.K C f) (F : FnOk X.prog X.w X.K X.mg X.base (L2.CX X.prog X.w) k f fd ps sp) (hr : Room (k + 1) X.A) (hb : Binds X.K fd ps ds) (hd : Vals dvs ds)
    (hx : PassesAt (L2.CX X.prog X.w) X σ E) (I : Inv X pins σ H s) (r : Vals vs us)
    (h : ∀ x dx, H x = none → H dx = none → dx ≠ x → sp (.ref x :: (vs ++ dvs)) (upd (upd H dx (.own x)) x (.ins C dx [])) (fun v H2 => v = .non ∧ Q (.ref x) H2) E) :
    wpAny (model X.prog X.w) X.A (call (.ref C) us) (EP X pins σ Q) X.xe s := by
  have hq := h (s.heap.objs.size + 1) s.heap.objs.size (I.hok.fresh (Nat.le_succ _)) (I.hok.fresh (Nat.le_refl _)) (Nat.ne_of_lt (Nat.lt_succ_self _))
  have I2 := Inv.made (C := C) I
  have r2 : Vals (V.ref (s.heap.objs.size + 1) :: (vs ++ dvs)) (Value.ref (s.heap.objs.size + 1) :: (us ++ ds)) := .cons rfl (r.append hd)
  have hl : (Value.ref (s.heap.objs.size + 1) :: us ++ ds).length = ps.length := by
    have e := r2.length
    rw [F.len _ _ _ _ hq] at e
    exact e.symm
  refine wpAny_call (make_map (f := f) I.kIn M.makes M.init (beq_iff_eq.mp M.fn) (codeAny_mono (F.run _ X.stack _ _ ⟨Value.ref (s.heap.objs.size + 1) :: us, []⟩ (Value.ref (s.heap.objs.size + 1) :: (us ++ ds)) _ _ E (hr.make C us [])
    (I2.env0.make C us []) (hb _ (Value.ref (s.heap.objs.size + 1) :: us) I2.kIn hl) r2 hq) fun r s' hq' => ?_))
  cases r with
  | error e => exact hx pins _ _ e s' I2 hq'
  | ok fl =>
    cases fl with
    | ret u =>
      obtain ⟨v, H', I3, rv, ev, q3⟩ := I2.after hq'
      subst ev
      exact ⟨rv, ⟨V.ref (s.heap.objs.size + 1), H', I3, rfl, q3⟩⟩
    | next => exact False.elim hq'
    | brk => exact False.elim hq'
    | cont => exact False.elim hq'
theorem make_S {sp : Sp} {E : L2.St → XK} {t : TA} (M : Mk X.K C f) (F : FnOk X.prog X.w X.K X.mg X.base (L2.CX X.prog X.w) k f fd ps sp) (hr : Room (k + 1) X.A) (hg : Gl X x) (hm : X.mg x = some (.ref C)) (hb : Binds X.K fd ps ds) (hd : Vals dvs ds) (hx : ∀ σ, PassesAt (L2.CX X.prog X.w) X σ (E σ))
    (ha : PA X (e :: es) t) (hdb : (x == ("__debug__" : Str)) = false := by decide) (he : starEach (e :: es) X.env = (false, eval e X.env) :: starEach es X.env := by rfl) (hpl : (backTo pos (starEach es X.env)).any (·.1) = false := by rfl) :
    PE X (.Call (.Name x p) (e :: es) [] pos) (tMakeS C sp dvs E t) := by
  refine ⟨fun pins s σ H Q I h => ?_⟩
  refine wpAny_Call_Name_kw (ld_glob I hg hm ?_ hdb)
  refine PySem.W.callWith_K (h₀ := X.base) I.ok.mod.kin M.kp (thn (ha.run pos pins s σ H _ I h) fun us s1 ⟨vs, H1, I1, r, q⟩ => ⟨I1.kIn, ?_⟩) he hpl
  exact run_makeS M F hr hb hd (hx σ) I1 r q
def mMake (C : Addr) (sp : MSp) (dds : List D) (t : TAm) : TEm := fun E h Kn Kx => t E h (fun ds h' => ∀ x, h' x = none → sp (.ref x :: (ds ++ dds)) (put h' x (.ins C [])) (fun r h2 => Kn (.d (.ref x)) h2) Kx) Kx
theorem make_ok {K : Kf} {B : Hp} {σ : L2.St} {H : Hp} {Q : VK} (hnon : ∀ ds h Kn Kx, sp ds h Kn Kx → sp ds h (fun r h' => r = .d .non ∧ Kn r h') Kx) (hdd : ∀ K F, Reps K F dds dvs) (q : LE K B W (mMake C sp dds t) σ H Q) : tMakeS C (LSp K sp) dvs (WE W) (LA K B W t) σ H Q := by
  obtain ⟨F, E, h, Kn, Kx, R, ht, hx, hn⟩ := q
  refine ⟨F, E, h, _, Kx, R, ht, hx, fun ds h' F' H' vs l R' r k => ?_⟩
  intro x dx nx ndx nex
  have R1 : Rel K B F' E h' σ (upd H' dx (.own x)) := R'.newO ndx
  have nx1 : (upd H' dx (.own x)) x = none := by rw [upd_ne nex.symm]; exact nx
  have R2 : Rel K B F' E h' σ (upd (upd H' dx (.own x)) x (.ins C dx [])) := R1.newO nx1
  have R3 := R2.toC (p := x) (m := .ins C []) ⟨dx, [], upd_same, .nil⟩ (R'.noB nx) (R'.noF nx)
  refine sp_ok R3 (.cons (.ref x) (r.app (hdd _ _))) (hnon _ _ _ _ (k x (R'.noh nx))) (hx.up l) fun r h2 F2 H2 v l2 R2 q2 k2 => ?_
  obtain ⟨rfl, k2⟩ := k2
  refine ⟨?_, hn (.d (.ref x)) h2 F2 H2 _ (l.trans l2) R2 (.ref x) k2⟩
  cases q2
  rfl
theorem me_make (M : Mk X.K C f) (F : FM X.prog X.w X.K X.mg X.base k f fd ps sp) (hnon : ∀ ds h Kn Kx, sp ds h Kn Kx → sp ds h (fun r h' => r = .d .non ∧ Kn r h') Kx) (hr : Room (k + 1) X.A) (hg : Gl X x) (hm : X.mg x = some (.ref C)) (hb : Binds X.K fd ps ds) (hd : Vals dvs ds) (hdd : ∀ K F, Reps K F dds dvs) (tk : Takes X W)
    (ha : MA X W (e :: es) t) (hdb : (x == ("__debug__" : Str)) = false := by decide) (he : starEach (e :: es) X.env = (false, eval e X.env) :: starEach es X.env := by rfl) (hpl : (backTo pos (starEach es X.env)).any (·.1) = false := by rfl) :
    ME X W (.Call (.Name x p) (e :: es) [] pos) (mMake C sp dds t) := fun B => (make_S (E := WE W) M F hr hg hm hb hd (fun σ => passAt tk σ) (ha B) hdb he hpl).impM fun _ _ _ q => make_ok hnon hdd q

/-! ### fields -/
def mFld (C : Addr) (n : Str) (t : TVm) : TVm := fun E h Kn Kx => t E h (fun d h' => onIns h' d C fun _ fs => match fs.lookup n with
  | some y => Kn y h'
  | none => False) Kx
theorem mv_fld (he : MV X W e to) (c : Cls X.K C) (na : NoAttr X.K C m) (hb : attributeBase e m X.env (eval e X.env) = eval e X.env := by rfl) : MV X W (.Attribute e m pos) (mFld C m to) := fun B => (pe_fld (he B) hb).impM fun σ H Q ⟨F, E, h, Kn, Kx, R, ht, hx, hn⟩ => by
  refine ⟨F, E, h, _, Kx, R, ht, hx, fun d h' F' H' v l R' rp k => ?_⟩
  obtain ⟨a, fs, dx, ws, rfl, rfl, ea, eH, rs, k⟩ := ins_of R' rp k
  cases e2 : fs.lookup m with
  | none => rw [e2] at k; exact k.elim
  | some y =>
    rw [e2] at k
    obtain ⟨u, eu, ru⟩ := RepF.some rs e2
    exact ⟨a, C, dx, ws, u, rfl, eH, c, na, eu, hn y h' F' H' u l R' ru k⟩
def putD (n : Str) (v : D) : List (Str × D) → List (Str × D)
  | [] => [(n, v)]
  | (g, x) :: r => if g = n then (g, v) :: r else (g, x) :: putD n v r
theorem RepF.put {K : Kf} {F : Hp} {n : Str} {d : D} {v : V} (a : Rep K F d v) : ∀ {fs : List (Str × D)} {ws : List (Str × V)}, RepF K F fs ws → RepF K F (putD n d fs) (putF n v ws)
  | _, _, .nil => .cons a .nil
  | (g, x) :: r, (_, y) :: s, .cons b t => by
    show RepF K F (if g = n then _ else _) (if g = n then _ else _)
    split
    · exact .cons a t
    · exact .cons b (RepF.put a t)
def sFldM (C : Addr) (n : Str) (to tv : TVm) : TSm := fun N E h => tv E h (fun y h1 => to E h1 (fun d h2 => onIns h2 d C fun a fs => fs.length < 1000 ∧ N.nx E (put h2 a (.ins C (putD n y fs)))) N.xs) N.xs
theorem ms_fld {value : Expr} {pos' : Pos} {tv : TVm} (ha : MV X W o to) (hv : MV X W value tv) (c : Cls X.K C) (na : NoAttr X.K C m) (hs : swapsWith value (some (.Attribute o m pos')) pos.line X.env = pure false := by rfl) : MS X W (.Assign [.Attribute o m pos'] value pos) (sFldM C m to tv) := fun B =>
  (ps_fld (ha B) (hv B) hs).impM fun D σ H ⟨F, E, h, N, R, ht, cc⟩ => by
    refine ⟨F, E, h, _, N.xs, R, ht, fun x h' F' H' a dx l R' q k => cc.2.2.2.2 x h' F' E σ H' a dx l R' q k, fun y h1 F1 H1 u l1 R1 r1 k1 => ?_⟩
    refine ⟨F1, E, h1, _, N.xs, R1, k1, fun x h' F' H' a dx l R' q k => cc.2.2.2.2 x h' F' E σ H' a dx (l1.trans l) R' q k, fun d h2 F2 H2 v l2 R2 r2 k2 => ?_⟩
    obtain ⟨a, fs, dx, ws, rfl, rfl, ea, eH, rs, hl, k2⟩ := ins_of R2 r2 k2
    refine ⟨a, C, dx, ws, rfl, eH, c, na, by rw [← rs.len]; exact hl, ?_⟩
    exact cc.1 E _ F2 σ _ (l1.trans l2) (R2.write (m' := .ins C (putD m y fs)) ea ⟨dx, _, upd_same, RepF.put (r1.mono l2) rs⟩) k2
end
/-! ### a def keeps its promise -/
section
variable {P : Program} {w : World} {K : Kf} {mg : Str → Option Value} {base : Heap}
def startE (N : List Str) (ds : List D) : En := ds.map some ++ List.replicate (N.length - ds.length) none
theorem slots_start {F : Hp} : ∀ {ds : List D} {vs : List V} {n : Nat}, Reps K F ds vs → Slots K F (ds.map some ++ List.replicate n none) (vs.map some ++ List.replicate n none)
  | _, _, 0, .nil => .nil
  | _, _, n + 1, .nil => by
    rw [List.replicate_succ, List.replicate_succ]
    exact .non (slots_start (n := n) .nil)
  | _, _, _, .cons a r => .val a (slots_start r)
/-- what a def's body is to reach -/
def subH (h2 h' : MH) : Prop := ∀ a m, h2 a = some m → h' a = some m
def bodyN (Kn : RV → MH → Prop) (Kx : XKm) : Nd where
  nx := fun _ h' => ∃ h2 : MH, subH h2 h' ∧ Kn (.d .non) h2
  rt := fun r h' => ∃ h2 : MH, subH h2 h' ∧ Kn r h2
  xs := fun x h' => ∃ h2 : MH, subH h2 h' ∧ Kx x h2
abbrev WB (E : XK) : WX := fun c d _ H => E c d H
theorem fm_of {x qual : Str} {st : Stmt} {f : Addr} {fd : FuncData} {N ps : List Str} {k : Nat} {sp : MSp} (F : Fun K x qual st f fd) (S : FnScope N ps (defScope st)) (len : ∀ ds h Kn Kx, sp ds h Kn Kx → ds.length = ps.length)
    (hb : ∀ (cdv : Value) (A : Around) (outer : List Env) (s : Shared) (H : Hp) (E : XK), Room k (A.deeper (envOfC qual (defScope st) s.heap.objs.size f cdv)) →
      ∃ t, MB (cxOf (L2.CX P w) P w K mg base N qual (defScope st) f cdv A outer s H E) (WB E) (defBody st) t ∧ ∀ ds h Kn Kx, sp ds h Kn Kx → t (bodyN Kn Kx) (startE N ds) h) : FM P w K mg base (k + 1) f fd ps sp := by
  refine F.okX S (fun vs H Q E ⟨B, Fh, h, ds, Kn, Kx, R, r, q, _⟩ => by rw [← r.len]; exact len _ _ _ _ q) (fun cdv A outer s H vs Q E hr ⟨B, Fh, h, ds, Kn, Kx, R, r, q, hn, hx⟩ => ?_)
  obtain ⟨t, ht, hq⟩ := hb cdv A outer s H E hr
  refine ⟨_, ht B, Fh, startE N ds, h, bodyN Kn Kx, R.slots ?_, hq ds h Kn Kx q, ?_, ?_, ?_, ?_, ?_⟩
  · unfold startE L2.start
    rw [r.len]
    exact slots_start r
  · rintro E' h' F' σ' H' l R' ⟨h2, sub, k⟩
    exact hn (.d .non) h2 F' H' .non l ((R'.slots .nil).less sub) .non k
  · rintro r h' F' E' σ' H' v l R' q ⟨h2, sub, k⟩
    refine hn r h2 F' H' v l ((R'.slots .nil).less sub) ?_ k
    have nn : ∀ l, h' l = none → h2 l = none := fun l z => by
      cases e : h2 l with
      | none => rfl
      | some m =>
        have := sub l m e
        rw [z] at this
        cases this
    cases r with
    | d x => exact q
    | ol xs =>
      obtain ⟨l, vs, e, e2, rs, q1, q2, q3⟩ := q
      exact ⟨l, vs, e, e2, rs, q1, q2, nn l q3⟩
    | od xs =>
      obtain ⟨l, vs, e, e2, rs, q1, q2, q3⟩ := q
      exact ⟨l, vs, e, e2, rs, q1, q2, nn l q3⟩
  · exact fun _ _ _ _ _ _ _ z => z.elim
  · exact fun _ _ _ _ _ _ _ z => z.elim
  · rintro x h' F' E' σ' H' c dx l R' q ⟨h2, sub, k⟩
    exact hx x h2 F' H' c dx l ((R'.slots .nil).less sub) q k
end
end M3
set_option Elab.async false
set_option linter.all false
set_option maxRecDepth 100000
set_option maxHeartbeats 4000000
namespace L2
open PySem PySem.Spec PyProof.Rows
theorem m3_tuple_mul1 (l : Addr) (items : Array Value) (n : Nat) (dd : Option Addr) (sl : Array (Option Value)) (u : Tok) :
    Meets (Builtin.«tuple.__mul__» ⟨[.ref l, .int 1 u], []⟩) (fun _ R s => s.heap.get? l = some { cls := .type "tuple", dict := dd, data := .seq items n, slots := sl } ∧ R (.ok (.ret (Value.ref l))) s) :=
  .of_wp fun prog w A R s h => by
    obtain ⟨hp, g, d, tk, os⟩ := s
    obtain ⟨hl, h⟩ := h
    have f1 := AutoSeq1.idx_int
    wp_walk using wpAny_loadPart' hl
    exact ⟨_, rfl, h⟩
def m3Rep1 (K : PySem.W.Frag) : R2 := fun x y H Q => ∃ l xs, x = .ref l ∧ y = .int 1 ∧ SqT K H l xs ∧ Q (.ref l) H
theorem m3op_rep1 {X : Cx} : OpR X (binaryOp .Mult) (m3Rep1 X.K) := by
  intro pins s σ H x y v u Q I rx ry h
  obtain ⟨l, xs, rfl, rfl, hT, q⟩ := h
  cases rx
  obtain ⟨t, rfl⟩ := ry
  obtain ⟨its, r, ⟨⟨cls, dd, data, sl⟩, ho, hc, n, hd⟩, hs⟩ := I.tuple hT
  simp only at hc hd
  subst hc hd
  exact wpAny_binaryOp_repeat_ref (T := "tuple") (U := "int") (by decide) ⟨_, ho, rfl⟩ (fun s' => typeIs_int s' 1 t) noFill_tuple_mul F.fills_int_mul F.slot_int_rmul repeat_tuple F.slot_int_index.lookup
    (call_meets F.slot_int_rmul (typeIs_int s 1 t) F.entry_int_rmul (F.args_int_rmul_2 _ _) (int_rmul_tuple 1 t l its.toArray n dd sl)
      ⟨ho, rfl, ⟨_, ho, rfl⟩, call_meets F.slot_tuple_mul ⟨_, ho, rfl⟩ F.entry_tuple_mul (F.args_tuple_mul_2 _ _) (m3_tuple_mul1 l its.toArray n dd sl t) ⟨ho, .ref l, H, I, rfl, q⟩⟩)
end L2
namespace M3
open PySem PySem.Spec PyProof.Rows L2
/-! ### views -/
/-- a list -/
def onL (h : MH) (d : D) (k : List D → Prop) : Prop := match d with
  | .lst xs => k xs
  | .ref p => (match h p with
    | some (.lst xs) => k xs
    | _ => False)
  | _ => False
/-- a list or a tuple, to be read -/
def onQ (h : MH) (d : D) (k : List D → Prop) : Prop := match d with
  | .lst xs => k xs
  | .tup xs => k xs
  | .scr ns => k (ns.map D.int)
  | .ref p => (match h p with
    | some (.lst xs) => k xs
    | _ => False)
  | _ => False
def onD (h : MH) (d : D) (k : List (Key × D) → Prop) : Prop := match d with
  | .dct xs => k xs
  | .ref p => (match h p with
    | some (.dct xs) => k xs
    | _ => False)
  | _ => False
def onInt (d : D) (k : Int → Prop) : Prop := match d with
  | .int i => k i
  | _ => False
def onStr (d : D) (k : Str → Prop) : Prop := match d with
  | .str i => k i
  | _ => False
def onTup (d : D) (k : List D → Prop) : Prop := match d with
  | .tup i => k i
  | _ => False
section
variable {K : Kf} {B F : Hp} {E : En} {h : MH} {σ : L2.St} {H : Hp} {d : D} {v : V}
theorem lst_of {k : List D → Prop} (R : Rel K B F E h σ H) (r : Rep K F d v) (q : onL h d k) : ∃ a xs vs, v = .ref a ∧ H a = some (.lst vs) ∧ Reps K F xs vs ∧ k xs := by
  cases r with
  | lst e rs => exact ⟨_, _, _, rfl, (R.frz _ _ e).1, rs, q⟩
  | ref a =>
    have q : (match h a with
      | some (.lst xs) => k xs
      | _ => False) := q
    cases e : h a with
    | none => rw [e] at q; exact q.elim
    | some m =>
      rw [e] at q
      cases m with
      | lst xs =>
        obtain ⟨vs, e2, rs⟩ := R.cel a _ e
        exact ⟨a, xs, vs, rfl, e2, rs, q⟩
      | dct xs => exact q.elim
      | ins C fs => exact q.elim
  | _ => exact q.elim
theorem seq_of {k : List D → Prop} (R : Rel K B F E h σ H) (r : Rep K F d v) (q : onQ h d k) : ∃ a xs vs, v = .ref a ∧ (SqL K H a vs ∨ SqT K H a vs) ∧ Reps K F xs vs ∧ k xs := by
  cases r with
  | lst e rs => exact ⟨_, _, _, rfl, .inl (.of (R.frz _ _ e).1), rs, q⟩
  | tup e rs => exact ⟨_, _, _, rfl, .inr (R.sqT e), rs, q⟩
  | scr e => exact ⟨_, _, _, rfl, .inl (R.sqL e), Reps.ints _, q⟩
  | ref a =>
    have q : (match h a with
      | some (.lst xs) => k xs
      | _ => False) := q
    cases e : h a with
    | none => rw [e] at q; exact q.elim
    | some m =>
      rw [e] at q
      cases m with
      | lst xs =>
        obtain ⟨vs, e2, rs⟩ := R.cel a _ e
        exact ⟨a, xs, vs, rfl, .inl (.of e2), rs, q⟩
      | dct xs => exact q.elim
      | ins C fs => exact q.elim
  | _ => exact q.elim
theorem dct_of {k : List (Key × D) → Prop} (R : Rel K B F E h σ H) (r : Rep K F d v) (q : onD h d k) : ∃ a xs vs, v = .ref a ∧ Rd H a (.dK vs) ∧ RepK K F xs vs ∧ k xs := by
  cases r with
  | dct e rs => exact ⟨_, _, _, rfl, R.rd e, rs, q⟩
  | ref a =>
    have q : (match h a with
      | some (.dct xs) => k xs
      | _ => False) := q
    cases e : h a with
    | none => rw [e] at q; exact q.elim
    | some m =>
      rw [e] at q
      cases m with
      | dct xs =>
        obtain ⟨vs, e2, rs⟩ := R.cel a _ e
        exact ⟨a, xs, vs, rfl, .inl e2, rs, q⟩
      | lst xs => exact q.elim
      | ins C fs => exact q.elim
  | _ => exact q.elim
theorem int_of {k : Int → Prop} (r : Rep K F d v) (q : onInt d k) : ∃ i, v = .int i ∧ d = .int i ∧ k i := by
  cases r with
  | int i => exact ⟨i, rfl, rfl, q⟩
  | _ => exact q.elim
theorem str_of {k : Str → Prop} (r : Rep K F d v) (q : onStr d k) : ∃ i, v = .str i ∧ d = .str i ∧ k i := by
  cases r with
  | str i => exact ⟨i, rfl, rfl, q⟩
  | _ => exact q.elim
theorem tup_of {k : List D → Prop} (R : Rel K B F E h σ H) (r : Rep K F d v) (q : onTup d k) : ∃ a xs vs, v = .ref a ∧ SqT K H a vs ∧ Reps K F xs vs ∧ d = .tup xs ∧ k xs := by
  cases r with
  | tup e rs => exact ⟨_, _, _, rfl, R.sqT e, rs, rfl, q⟩
  | _ => exact q.elim
theorem OpR.or2 {X : Cx} {f : Value → Value → Sem Value} {r r' : R2} (h : OpR X f r) (h' : OpR X f r') : OpR X f (fun x y H Q => r x y H Q ∨ r' x y H Q) := h.or h'
end

/-! ### arithmetic -/
def gII (C : Int → Int → Prop) (f : Int → Int → D) : G2 := fun x y h Kn => onInt x fun i => onInt y fun j => C i j ∧ Kn (.d (f i j)) h
section
variable {X : Cx} {W : WX}
theorem has_int {K : Kf} {C : Int → Int → Prop} {f : Int → Int → D} {g : Int → Int → V} (hr : ∀ F i j, Rep K F (f i j) (g i j)) : Has2 K (rI C g) (gII C f) := by
  intro B F E h σ H x y vx vy Q Kn R rx ry q hn
  obtain ⟨i, rfl, rfl, q⟩ := int_of rx q
  obtain ⟨j, rfl, rfl, c, q⟩ := int_of ry q
  exact ⟨i, j, rfl, rfl, c, hn (.d (f i j)) h F H _ (Le.refl F) R (hr F i j) q⟩
theorem has_int0 {K : Kf} {f : Int → Int → D} {g : Int → Int → V} (hr : ∀ F i j, Rep K F (f i j) (g i j)) : Has2 K (rI0 g) (gII (fun _ _ => True) f) := by
  intro B F E h σ H x y vx vy Q Kn R rx ry q hn
  obtain ⟨i, rfl, rfl, q⟩ := int_of rx q
  obtain ⟨j, rfl, rfl, _, q⟩ := int_of ry q
  exact ⟨i, j, rfl, rfl, hn (.d (f i j)) h F H _ (Le.refl F) R (hr F i j) q⟩
theorem me_op {op : Operator} {r : R2} {g : G2} {a b : Expr} {pos : Pos} {ta tb : TVm} (ho : OpR X (binaryOp op) r) (hg : Has2 X.K r g) (ha : MV X W a ta) (hb : MV X W b tb) : ME X W (.BinOp a op b pos) (mOp g ta tb) := fun B => (pe_op ho (ha B) (hb B)).impM fun _ _ _ q => two hg q
theorem me_cmp {op : CmpOp} {r : R2} {g : G2} {a b : Expr} {pos : Pos} {ta tb : TVm} (ho : OpR X (compareOp op) r) (hg : Has2 X.K r g) (ha : MV X W a ta) (hb : MV X W b tb) (hm : behindInMarks op b = false) : ME X W (.Compare a [op] [b] pos) (mOp g ta tb) := fun B => (pe_cmpR ho (ha B) (hb B) hm).impM fun _ _ _ q => two hg q
/-- + -/
def gAdd : G2 := fun x y h Kn => match x, y with
  | .int i, .int j => Kn (.d (.int (i + j))) h
  | .str a, .str b => a.length + b.length ≤ sizeLine ∧ Kn (.d (.str (a ++ b))) h
  | .tup xs, .tup ys => xs.length + ys.length ≤ sizeLine ∧ Kn (.d (.tup (xs ++ ys))) h
  | x, y => onL h x fun xs => onL h y fun ys => xs.length + ys.length ≤ sizeLine ∧ Kn (.ol (xs ++ ys)) h
abbrev rAddA (K : Kf) : R2 := fun x y H Q => (rI0 (fun i j => .int (i + j)) x y H Q ∨ (∃ i j, x = .str i ∧ y = .str j ∧ i.length + j.length ≤ sizeLine ∧ Q (.str (i ++ j)) H)) ∨ (rCatA K x y H Q ∨ rCat x y H Q)
theorem op_addA : OpR X (binaryOp .Add) (rAddA X.K) := (op_add.or op_add_str).or (op_catA.or op_cat)
theorem has_add {K : Kf} : Has2 K (rAddA K) gAdd := by
  intro B F E h σ H x y vx vy Q Kn R rx ry q hn
  have lists : ∀ {x y : D} {vx vy : V}, Rep K F x vx → Rep K F y vy → (onL h x fun xs => onL h y fun ys => xs.length + ys.length ≤ sizeLine ∧ Kn (.ol (xs ++ ys)) h) → rAddA K vx vy H Q := by
    intro x y vx vy rx ry q
    obtain ⟨a, xs, vs, rfl, e, rs, q⟩ := lst_of R rx q
    obtain ⟨b, ys, ws, rfl, e2, rs2, hz, q⟩ := lst_of R ry q
    refine .inr (.inr ⟨a, b, vs, ws, rfl, rfl, e, e2, by rw [← rs.len, ← rs2.len]; exact hz, fun p hp => ?_⟩)
    exact hn (.ol _) h F _ _ (Le.refl F) (R.newO hp) ⟨p, _, rfl, upd_same, rs.app rs2, R.noB hp, R.noF hp, R.noh hp⟩ q
  match x, y, rx, ry, q with
  | .int i, .int j, .int _, .int _, q => exact .inl (.inl ⟨i, j, rfl, rfl, hn (.d (.int (i + j))) h F H _ (Le.refl F) R (.int _) q⟩)
  | .str i, .str j, .str _, .str _, q => exact .inl (.inr ⟨i, j, rfl, rfl, q.1, hn (.d (.str (i ++ j))) h F H _ (Le.refl F) R (.str _) q.2⟩)
  | .tup xs, .tup ys, rx, ry, q =>
    cases rx with
    | @tup a vs _ e rs =>
      cases ry with
      | @tup b ws _ e2 rs2 =>
        obtain ⟨hz, q⟩ := q
        have rt : ∀ {F' : Hp} {c : Addr}, Le F F' → SqT K F' c (vs ++ ws) → Rep K F' (.tup (xs ++ ys)) (.ref c) := fun l z => .tup z ((rs.app rs2).mono l)
        refine .inr (.inl ⟨a, b, vs, ws, rfl, rfl, R.sqT e, R.sqT e2, by rw [← rs.len, ← rs2.len]; exact hz, ?_, ?_, ?_⟩)
        · rintro rfl
          exact hn (.d (.tup _)) h F H _ (Le.refl F) R (rt (Le.refl F) (by simpa using e2)) q
        · rintro _ rfl
          exact hn (.d (.tup _)) h F H _ (Le.refl F) R (rt (Le.refl F) (by simpa using e)) q
        · intro _ _ p hp
          have l : Le F (upd F p (.tup (vs ++ ws))) := Le.new (R.noF hp)
          exact hn (.d (.tup _)) h _ _ _ l (R.newF hp) (rt l (.inl (.inl upd_same))) q
  | .lst _, y, rx, ry, q => exact lists rx ry (by cases y <;> exact q)
  | .ref _, y, rx, ry, q => exact lists rx ry (by cases y <;> exact q)
  | .int _, .non, _, _, q | .int _, .bl _, _, _, q | .int _, .str _, _, _, q | .int _, .tup _, _, _, q | .int _, .lst _, _, _, q | .int _, .dct _, _, _, q | .int _, .ref _, _, _, q | .int _, .scr _, _, _, q => exact q.elim
  | .str _, .non, _, _, q | .str _, .bl _, _, _, q | .str _, .int _, _, _, q | .str _, .tup _, _, _, q | .str _, .lst _, _, _, q | .str _, .dct _, _, _, q | .str _, .ref _, _, _, q | .str _, .scr _, _, _, q => exact q.elim
  | .tup _, .non, _, _, q | .tup _, .bl _, _, _, q | .tup _, .int _, _, _, q | .tup _, .str _, _, _, q | .tup _, .lst _, _, _, q | .tup _, .dct _, _, _, q | .tup _, .ref _, _, _, q | .tup _, .scr _, _, _, q => exact q.elim
  | .non, y, _, _, q | .bl _, y, _, _, q | .dct _, y, _, _, q | .scr _, y, _, _, q => cases y <;> exact q.elim
theorem me_add {a b : Expr} {pos : Pos} {ta tb : TVm} (ha : MV X W a ta) (hb : MV X W b tb) : ME X W (.BinOp a .Add b pos) (mOp gAdd ta tb) := me_op op_addA has_add ha hb
def gSub : G2 := gII (fun _ _ => True) fun i j => .int (i - j)
theorem me_sub {a b : Expr} {pos : Pos} {ta tb : TVm} (ha : MV X W a ta) (hb : MV X W b tb) : ME X W (.BinOp a .Sub b pos) (mOp gSub ta tb) := me_op op_sub (has_int0 fun _ _ _ => .int _) ha hb
def gMod : G2 := gII (fun _ j => 0 < j) fun i j => .int (i % j)
theorem me_mod {a b : Expr} {pos : Pos} {ta tb : TVm} (ha : MV X W a ta) (hb : MV X W b tb) : ME X W (.BinOp a .Mod b pos) (mOp gMod ta tb) := me_op op_mod (has_int fun _ _ _ => .int _) ha hb
def gDiv : G2 := gII (fun _ j => 0 < j ∧ j.natAbs.log2 < 9000) fun i j => .int (i / j)
theorem me_fdiv {a b : Expr} {pos : Pos} {ta tb : TVm} (ha : MV X W a ta) (hb : MV X W b tb) : ME X W (.BinOp a .FloorDiv b pos) (mOp gDiv ta tb) := me_op op_fdivW (has_int fun _ _ _ => .int _) ha hb
def gPow : G2 := gII CPow fun i j => .int (i ^ j.toNat)
theorem me_pow {a b : Expr} {pos : Pos} {ta tb : TVm} (ha : MV X W a ta) (hb : MV X W b tb) : ME X W (.BinOp a .Pow b pos) (mOp gPow ta tb) := me_op op_pow (has_int fun _ _ _ => .int _) ha hb
/-- *: ints; a list by an int; a tuple by an int from 2 on -/
def MulOk (i j : Int) : Prop := CMul i j ∨ CMulW i j
def gMul : G2 := fun x y h Kn => match x, y with
  | .int i, .int j => MulOk i j ∧ Kn (.d (.int (i * j))) h
  | .tup xs, .int k => (xs ≠ [] ∧ 1 ≤ k ∧ k ≤ 1000 ∧ xs.length ≤ 1000) ∧ Kn (.d (.tup (List.replicate k.toNat xs).flatten)) h
  | x, .int k => onL h x fun xs => (-(2 ^ 63) ≤ k ∧ k < 2 ^ 63 ∧ xs.length * k.toNat ≤ sizeLine) ∧ Kn (.ol (List.replicate k.toNat xs).flatten) h
  | _, _ => False
abbrev rMulA (K : Kf) : R2 := fun x y H Q => (rI CMul (fun i j => .int (i * j)) x y H Q ∨ rI CMulW (fun i j => .int (i * j)) x y H Q) ∨ ((m3Rep1 K x y H Q ∨ rRepT K x y H Q) ∨ rRep x y H Q)
theorem op_mulA : OpR X (binaryOp .Mult) (rMulA X.K) := (op_mul.or op_mulW).or ((m3op_rep1.or op_repT).or op_rep)
theorem has_mul {K : Kf} : Has2 K (rMulA K) gMul := by
  intro B F E h σ H x y vx vy Q Kn R rx ry q hn
  have lists : ∀ {x : D} {k : Int} {vx : V}, Rep K F x vx → (onL h x fun xs => (-(2 ^ 63) ≤ k ∧ k < 2 ^ 63 ∧ xs.length * k.toNat ≤ sizeLine) ∧ Kn (.ol (List.replicate k.toNat xs).flatten) h) → rMulA K vx (.int k) H Q := by
    intro x k vx rx q
    obtain ⟨a, xs, vs, rfl, e, rs, c, q⟩ := lst_of R rx q
    refine .inr (.inr ⟨a, k, vs, rfl, rfl, e, c.1, c.2.1, by rw [← rs.len]; exact c.2.2, fun p hp => ?_⟩)
    exact hn (.ol _) h F _ _ (Le.refl F) (R.newO hp) ⟨p, _, rfl, upd_same, rs.rep _, R.noB hp, R.noF hp, R.noh hp⟩ q
  match x, y, rx, ry, q with
  | .int i, .int j, .int _, .int _, q =>
    rcases q.1 with c | c
    · exact .inl (.inl ⟨i, j, rfl, rfl, c, hn (.d (.int (i * j))) h F H _ (Le.refl F) R (.int _) q.2⟩)
    · exact .inl (.inr ⟨i, j, rfl, rfl, c, hn (.d (.int (i * j))) h F H _ (Le.refl F) R (.int _) q.2⟩)
  | .tup xs, .int k, .tup (a := a) (vs := vs) e rs, .int _, q =>
    obtain ⟨⟨c1, c2, c3, c4⟩, q⟩ := q
    have ne : vs ≠ [] := fun z => c1 (List.length_eq_zero_iff.mp (by rw [rs.len, z]; rfl))
    by_cases k1 : k = 1
    · subst k1
      have er : (List.replicate (1 : Int).toNat xs).flatten = xs := by simp
      rw [er] at q
      exact .inr (.inl (.inl ⟨a, vs, rfl, rfl, R.sqT e, hn (.d (.tup xs)) h F H _ (Le.refl F) R (.tup e rs) q⟩))
    refine .inr (.inl (.inr ⟨a, k, vs, rfl, rfl, R.sqT e, ne, by omega, c3, by rw [← rs.len]; exact c4, fun p hp => ?_⟩))
    have l : Le F (upd F p (.tup (List.replicate k.toNat vs).flatten)) := Le.new (R.noF hp)
    exact hn (.d (.tup _)) h _ _ _ l (R.newF hp) (.tup (.inl (.inl upd_same)) ((rs.rep _).mono l)) q
  | .lst _, .int k, rx, .int _, q => exact lists rx q
  | .ref _, .int k, rx, .int _, q => exact lists rx q
  | .non, .int _, _, _, q | .bl _, .int _, _, _, q | .dct _, .int _, _, _, q | .scr _, .int _, _, _, q | .str _, .int _, _, _, q => exact q.elim
  | x, .non, _, _, q | x, .bl _, _, _, q | x, .str _, _, _, q | x, .tup _, _, _, q | x, .lst _, _, _, q | x, .dct _, _, _, q | x, .ref _, _, _, q | x, .scr _, _, _, q => cases x <;> exact q.elim
theorem me_mul {a b : Expr} {pos : Pos} {ta tb : TVm} (ha : MV X W a ta) (hb : MV X W b tb) : ME X W (.BinOp a .Mult b pos) (mOp gMul ta tb) := me_op op_mulA has_mul ha hb
def gNeg : G1 := fun x h Kn => onInt x fun i => Kn (.d (.int (-i))) h
theorem me_neg {a : Expr} {pos : Pos} {ta : TVm} (ha : MV X W a ta) : ME X W (.UnaryOp .USub a pos) (mUn gNeg ta) := fun B => (pe_un un_neg (ha B)).impM fun _ _ _ q => one (r := rU fun i => .int (-i)) (g := gNeg) (by
  intro B F E h σ H x vx Q Kn R rx q hn
  obtain ⟨i, rfl, rfl, q⟩ := int_of rx q
  exact ⟨i, rfl, hn (.d (.int (-i))) h F H _ (Le.refl F) R (.int _) q⟩) q
/-! ### comparisons -/
def gB (p : Int → Int → Bool) : G2 := gII (fun _ _ => True) fun i j => .bl (p i j)
theorem me_lt {a b : Expr} {pos : Pos} {ta tb : TVm} (ha : MV X W a ta) (hb : MV X W b tb) : ME X W (.Compare a [.Lt] [b] pos) (mOp (gB fun i j => decide (i < j)) ta tb) := me_cmp op_lt (has_int0 fun _ _ _ => .bl _) ha hb (nomark _)
theorem me_le {a b : Expr} {pos : Pos} {ta tb : TVm} (ha : MV X W a ta) (hb : MV X W b tb) : ME X W (.Compare a [.LtE] [b] pos) (mOp (gB fun i j => decide (i ≤ j)) ta tb) := me_cmp op_le (has_int0 fun _ _ _ => .bl _) ha hb (nomark _)
theorem me_gt {a b : Expr} {pos : Pos} {ta tb : TVm} (ha : MV X W a ta) (hb : MV X W b tb) : ME X W (.Compare a [.Gt] [b] pos) (mOp (gB fun i j => decide (j < i)) ta tb) := me_cmp op_gt (has_int0 fun _ _ _ => .bl _) ha hb (nomark _)
theorem me_ge {a b : Expr} {pos : Pos} {ta tb : TVm} (ha : MV X W a ta) (hb : MV X W b tb) : ME X W (.Compare a [.GtE] [b] pos) (mOp (gB fun i j => decide (j ≤ i)) ta tb) := me_cmp op_ge (has_int0 fun _ _ _ => .bl _) ha hb (nomark _)
/-- a < b < c of ints -/
def mChain (g g' : G2) (ta tb tc : TVm) : TEm := fun E h Kn Kx => ta E h (fun x h1 => tb E h1 (fun y h2 => g x y h2 fun r h3 => onBl r.frz fun b => if b = true then tc E h3 (fun z h4 => g' y z h4 Kn) Kx else Kn (.d (.bl false)) h3) Kx) Kx
theorem me_chain {op op' : CmpOp} {r r' : R2} {g g' : G2} {a b c : Expr} {pos : Pos} {ta tb tc : TVm} (ho : OpR X (compareOp op) r) (ho' : OpR X (compareOp op') r') (hg : Has2 X.K r g) (hg' : Has2 X.K r' g') (ha : MV X W a ta) (hb : MV X W b tb) (hc : MV X W c tc)
    (hm : lastMarks [op, op'] [b, c] = false := by with_unfolding_all rfl) : ME X W (.Compare a [op, op'] [b, c] pos) (mChain g g' ta tb tc) := fun B => (pe_chain ho ho' (ha B) (hb B) (hc B) hm).impM fun σ H Q ⟨F, E, h, Kn, Kx, R, ht, hx, hn⟩ => by
  refine ⟨F, E, h, _, Kx, R, ht, hx, fun x h1 F1 H1 v l1 R1 r1 k1 => ?_⟩
  refine ⟨F1, E, h1, _, Kx, R1, k1, hx.up l1, fun y h2 F2 H2 u l2 R2 r2 k2 => ?_⟩
  refine hg B F2 E h2 σ H2 x y v u _ _ R2 (r1.mono l2) r2 k2 fun r h3 F3 H3 w l3 R3 q3 k3 => ?_
  obtain ⟨F4, l4, R4, rp⟩ := q3.frz R3
  obtain ⟨b, rfl, e, k3⟩ := bl_of rp k3
  refine ⟨b, rfl, ?_⟩
  have l4 := ((l1.trans l2).trans l3).trans l4
  cases b with
  | false => exact hn (.d (.bl false)) h3 F4 H3 _ l4 R4 (.bl _) k3
  | true =>
    refine ⟨F4, E, h3, _, Kx, R4, k3, hx.up l4, fun z h5 F5 H5 w l5 R5 r5 k5 => ?_⟩
    exact hg' B F5 E h5 σ H5 y z u w Q Kn R5 ((r2.mono l3).mono ((show Le F3 F4 by assumption).trans l5)) r5 k5 fun r h' F' H' w l6 => hn r h' F' H' w ((l4.trans l5).trans l6)
end
end M3
set_option Elab.async false
set_option linter.all false
set_option maxRecDepth 100000
set_option maxHeartbeats 4000000
namespace M3
open PySem PySem.Spec PyProof.Rows L2
/-! ### == of data -/
mutual
def toP : D → PyData
  | .non => .none
  | .bl b => .bool b
  | .int i => .int i
  | .str x => .str x
  | .tup xs => .tuple (toPs xs)
  | .lst xs => .list (toPs xs)
  | _ => .none
def toPs : List D → List PyData
  | [] => []
  | x :: xs => toP x :: toPs xs
end
/-- plain data of at most that depth -/
def plD : Nat → D → Bool
  | _, .non | _, .bl _ | _, .int _ => true
  | _, .str x => PyData.strOk x
  | n + 1, .tup xs => xs.all (plD n)
  | n + 1, .lst xs => xs.all (plD n)
  | _, _ => false
def eqD (d e : D) : Bool := PyData.eqv (toP d) (toP e)
/-- what stands at a cell that is a list -/
def res (h : MH) (d : D) : D := match d with
  | .ref p => (match h p with
    | some (.lst xs) => .lst xs
    | _ => .ref p)
  | d => d
mutual
theorem dp_of {K : Kf} {F H : Hp} (sT : ∀ a xs, SqT K F a xs → SqT K H a xs) (sL : ∀ a xs, F a = some (.lst xs) → SqL K H a xs) : ∀ (n : Nat) (d : D) (v : V), Rep K F d v → plD n d = true → Dp K H v (toP d)
  | _, .non, _, .non, _ => by simp only [toP]; exact .non
  | _, .bl b, _, .bl _, _ => by simp only [toP]; exact .bl b
  | _, .int i, _, .int _, _ => by simp only [toP]; exact .int i
  | _, .str x, _, .str _, _ => by simp only [toP]; exact .str x
  | n + 1, .tup xs, _, .tup e rs, h => by
    simp only [toP]
    exact .tup (sT _ _ e) (dps_of sT sL n xs _ rs (by simpa [plD] using h))
  | n + 1, .lst xs, _, .lst e rs, h => by
    simp only [toP]
    exact .lst (sL _ _ e) (dps_of sT sL n xs _ rs (by simpa [plD] using h))
  | 0, .tup xs, _, _, h => by simp [plD] at h
  | 0, .lst xs, _, _, h => by simp [plD] at h
  | n, .dct _, _, _, h => by cases n <;> simp [plD] at h
  | n, .ref _, _, _, h => by cases n <;> simp [plD] at h
  | n, .scr _, _, _, h => by cases n <;> simp [plD] at h
theorem dps_of {K : Kf} {F H : Hp} (sT : ∀ a xs, SqT K F a xs → SqT K H a xs) (sL : ∀ a xs, F a = some (.lst xs) → SqL K H a xs) : ∀ (n : Nat) (ds : List D) (vs : List V), Reps K F ds vs → (∀ x ∈ ds, plD n x = true) → DpAll K H vs (toPs ds)
  | _, [], _, .nil, _ => by simp only [toPs]; exact .nil
  | n, d :: ds, _, .cons r rs, h => by
    simp only [toPs]
    exact .cons (dp_of sT sL n d _ r (h d List.mem_cons_self)) (dps_of sT sL n ds _ rs fun x hx => h x (List.mem_cons_of_mem _ hx))
end
mutual
theorem canLay_pl : ∀ (n : Nat) (d : D), plD n d = true → (toP d).canLay0 = true
  | _, .non, _ => by simp [toP, PyData.canLay0]
  | _, .bl b, _ => by simp [toP, PyData.canLay0]
  | _, .int i, _ => by simp [toP, PyData.canLay0]
  | n, .str x, h => by cases n <;> (simp only [plD] at h; simpa [toP, PyData.canLay0] using h)
  | n + 1, .tup xs, h => by
    simp only [toP, PyData.canLay0]
    exact canLays_pl n xs (by simpa [plD] using h)
  | n + 1, .lst xs, h => by
    simp only [toP, PyData.canLay0]
    exact canLays_pl n xs (by simpa [plD] using h)
  | 0, .tup xs, h => by simp [plD] at h
  | 0, .lst xs, h => by simp [plD] at h
  | n, .dct _, h => by cases n <;> simp [plD] at h
  | n, .ref _, h => by cases n <;> simp [plD] at h
  | n, .scr _, h => by cases n <;> simp [plD] at h
theorem canLays_pl : ∀ (n : Nat) (ds : List D), (∀ x ∈ ds, plD n x = true) → PyData.canLayAll0 (toPs ds) = true
  | _, [], _ => by simp [toPs, PyData.canLayAll0]
  | n, d :: ds, h => by
    simp only [toPs, PyData.canLayAll0, Bool.and_eq_true]
    exact ⟨canLay_pl n d (h d List.mem_cons_self), canLays_pl n ds fun x hx => h x (List.mem_cons_of_mem _ hx)⟩
end
mutual
theorem depth_pl : ∀ (n : Nat) (d : D), plD n d = true → (toP d).depth ≤ n + 1
  | _, .non, _ => by simp [toP, PyData.depth]
  | _, .bl b, _ => by simp [toP, PyData.depth]
  | _, .int i, _ => by simp [toP, PyData.depth]
  | n, .str x, h => by simp [toP, PyData.depth]
  | n + 1, .tup xs, h => by
    simp only [toP, PyData.depth]
    have := depths_pl n xs (by simpa [plD] using h)
    omega
  | n + 1, .lst xs, h => by
    simp only [toP, PyData.depth]
    have := depths_pl n xs (by simpa [plD] using h)
    omega
  | 0, .tup xs, h => by simp [plD] at h
  | 0, .lst xs, h => by simp [plD] at h
  | n, .dct _, h => by cases n <;> simp [plD] at h
  | n, .ref _, h => by cases n <;> simp [plD] at h
  | n, .scr _, h => by cases n <;> simp [plD] at h
theorem depths_pl : ∀ (n : Nat) (ds : List D), (∀ x ∈ ds, plD n x = true) → PyData.depthAll (toPs ds) ≤ n + 1
  | n, [], _ => by simp [toPs, PyData.depthAll]
  | n, d :: ds, h => by
    simp only [toPs, PyData.depthAll]
    have h1 := depth_pl n d (h d List.mem_cons_self)
    have h2 := depths_pl n ds fun x hx => h x (List.mem_cons_of_mem _ hx)
    omega
end
def eqOk (d : D) : Prop := ∃ n, n ≤ 60 ∧ plD n d = true
theorem shaped_pl {d : D} (h : eqOk d) : SeqAt.shaped (toP d) = true := by
  obtain ⟨n, hn, h⟩ := h
  have h1 := canLay_pl n d h
  have h2 := depth_pl n d h
  exact Bool.and_eq_true_iff.mpr ⟨h1, decide_eq_true (by omega)⟩
theorem res_rep {K : Kf} {B F : Hp} {E : En} {h : MH} {σ : L2.St} {H : Hp} {d : D} {v : V} (R : Rel K B F E h σ H) (r : Rep K F d v) (q : eqOk (res h d)) : Dp K H v (toP (res h d)) := by
  obtain ⟨n, _, q⟩ := q
  have go : ∀ {d : D} {v : V}, Rep K F d v → plD n d = true → Dp K H v (toP d) := fun r q => dp_of (fun a xs => R.sqT) (fun a xs e => .of (R.frz _ _ e).1) n _ _ r q
  cases r with
  | ref a =>
    show Dp K H _ (toP (match h a with
      | some (.lst xs) => .lst xs
      | _ => .ref a))
    have q : plD n (match h a with
      | some (.lst xs) => .lst xs
      | _ => .ref a) = true := q
    cases e : h a with
    | none => rw [e] at q; cases n <;> simp [plD] at q
    | some m =>
      rw [e] at q
      cases m with
      | lst xs =>
        obtain ⟨vs, e2, rs⟩ := R.cel a _ e
        cases n with
        | zero => simp [plD] at q
        | succ n =>
          simp only [toP]
          exact .lst (.of e2) (dps_of (fun a xs => R.sqT) (fun a xs e => .of (R.frz _ _ e).1) n xs _ rs (by simpa [plD] using q))
      | dct xs => cases n <;> simp [plD] at q
      | ins C fs => cases n <;> simp [plD] at q
  | non => exact go .non q
  | bl b => exact go (.bl b) q
  | int b => exact go (.int b) q
  | str b => exact go (.str b) q
  | tup e rs => exact go (.tup e rs) q
  | lst e rs => exact go (.lst e rs) q
  | dct e rs => exact go (.dct e rs) q
  | scr e => exact go (.scr e) q
def gEq : G2 := fun x y h Kn => eqOk (res h x) ∧ eqOk (res h y) ∧ Kn (.d (.bl (eqD (res h x) (res h y)))) h
def gNe : G2 := fun x y h Kn => eqOk (res h x) ∧ eqOk (res h y) ∧ Kn (.d (.bl (!eqD (res h x) (res h y)))) h
theorem has_eq {K : Kf} : Has2 K (rEqD K) gEq := fun B F E h σ H x y vx vy Q Kn R rx ry ⟨q1, q2, q⟩ hn =>
  ⟨_, _, res_rep R rx q1, res_rep R ry q2, shaped_pl q1, shaped_pl q2, hn (.d (.bl _)) h F H _ (Le.refl F) R (.bl _) q⟩
theorem has_ne {K : Kf} : Has2 K (rNeD K) gNe := fun B F E h σ H x y vx vy Q Kn R rx ry ⟨q1, q2, q⟩ hn =>
  ⟨_, _, res_rep R rx q1, res_rep R ry q2, shaped_pl q1, shaped_pl q2, hn (.d (.bl _)) h F H _ (Le.refl F) R (.bl _) q⟩
section
variable {X : Cx} {W : WX} {a b : Expr} {pos : Pos} {ta tb : TVm}
theorem mt_cmp {op : CmpOp} {r : R2} {g : G2} (ho : OpR X (compareOp op) r) (hg : Has2 X.K r g) (ha : MV X W a ta) (hb : MV X W b tb) (hm : behindInMarks op b = false) : MT X W (.Compare a [op] [b] pos) (mTst (frzV (mOp g ta tb))) := fun B => (pt_cmpR ho (ha B) (hb B) hm).impM fun σ H Q ⟨F, E, h, Kn, Kx, R, ht, hx, hn⟩ => by
  refine two hg (W := W) ⟨F, E, h, _, Kx, R, ht, hx, fun r h' F' H' v l R' q k => ?_⟩
  obtain ⟨F2, l2, R2, rp⟩ := q.frz R'
  obtain ⟨b, rfl, e, k⟩ := bl_of rp k
  exact ⟨b, rfl, hn b h' F2 H' (l.trans l2) R2 k⟩
theorem mt_chain {op op' : CmpOp} {r r' : R2} {g g' : G2} {c : Expr} {tc : TVm} (ho : OpR X (compareOp op) r) (ho' : OpR X (compareOp op') r') (hg : Has2 X.K r g) (hg' : Has2 X.K r' g') (ha : MV X W a ta) (hb : MV X W b tb) (hc : MV X W c tc)
    (hm : lastMarks [op, op'] [b, c] = false := by with_unfolding_all rfl) : MT X W (.Compare a [op, op'] [b, c] pos) (mTst (frzV (mChain g g' ta tb tc))) := fun B => (pt_chain ho ho' (ha B) (hb B) (hc B) hm).impM fun σ H Q ⟨F, E, h, Kn, Kx, R, ht, hx, hn⟩ => by
  refine ⟨F, E, h, _, Kx, R, ht, hx, fun x h1 F1 H1 v l1 R1 r1 k1 => ?_⟩
  refine ⟨F1, E, h1, _, Kx, R1, k1, hx.up l1, fun y h2 F2 H2 u l2 R2 r2 k2 => ?_⟩
  refine hg B F2 E h2 σ H2 x y v u _ _ R2 (r1.mono l2) r2 k2 fun r h3 F3 H3 w l3 R3 q3 k3 => ?_
  obtain ⟨F4, l4', R4, rp⟩ := q3.frz R3
  obtain ⟨b, rfl, e, k3⟩ := bl_of rp k3
  refine ⟨b, rfl, ?_⟩
  have l4 := ((l1.trans l2).trans l3).trans l4'
  cases b with
  | false => exact ⟨false, rfl, hn false h3 F4 H3 l4 R4 k3⟩
  | true =>
    refine ⟨F4, E, h3, _, Kx, R4, k3, hx.up l4, fun z h5 F5 H5 w l5 R5 r5 k5 => ?_⟩
    refine hg' B F5 E h5 σ H5 y z u w _ _ R5 ((r2.mono l3).mono (l4'.trans l5)) r5 k5 fun r h' F' H' w l6 R6 q6 k6 => ?_
    obtain ⟨F7, l7, R7, rp7⟩ := q6.frz R6
    obtain ⟨b, rfl, e, k6⟩ := bl_of rp7 k6
    exact ⟨b, rfl, hn b h' F7 H' (((l4.trans l5).trans l6).trans l7) R7 k6⟩
theorem mw_and1 {t : TTm} (h : MT X W a t) : MW X W (.BoolOp .And [a] pos) t := fun B => pw_and1 (h B)
theorem mw_or1 {t : TTm} (h : MT X W a t) : MW X W (.BoolOp .Or [a] pos) t := fun B => pw_or1 (h B)
theorem mw_and {rest : List Expr} {t u : TTm} (h : MT X W a t) (h2 : MW X W (.BoolOp .And (b :: rest) pos) u) : MW X W (.BoolOp .And (a :: b :: rest) pos) (mAndT t u) := fun B => (pw_and (h B) (h2 B)).impM fun _ _ _ q => andT_ok q
theorem mw_or {rest : List Expr} {t u : TTm} (h : MT X W a t) (h2 : MW X W (.BoolOp .Or (b :: rest) pos) u) : MW X W (.BoolOp .Or (a :: b :: rest) pos) (mOrT t u) := fun B => (pw_or (h B) (h2 B)).impM fun _ _ _ q => orT_ok q
theorem MW.mt {t : TTm} (h : MW X W a t) : MT X W a t := fun B => (h B).pt
theorem mv_one {op} {t : TVm} (h : MV X W a t) : MV X W (.BoolOp op [a] pos) t := fun B => pe_one (h B)
theorem mv_and {rest : List Expr} (h : MV X W a ta) (h2 : MV X W (.BoolOp .And (b :: rest) pos) tb) : MV X W (.BoolOp .And (a :: b :: rest) pos) (mAndV ta tb) := fun B => (pe_and (h B) (h2 B)).impM fun _ _ _ q => andV_ok q
theorem mv_or {rest : List Expr} (h : MV X W a ta) (h2 : MV X W (.BoolOp .Or (b :: rest) pos) tb) : MV X W (.BoolOp .Or (a :: b :: rest) pos) (mOrV ta tb) := fun B => (pe_or (h B) (h2 B)).impM fun _ _ _ q => orV_ok q
/-! ### is None -/
def isNon : D → Bool
  | .non => true
  | _ => false
theorem isNon_rep {K : Kf} {F : Hp} {d : D} {v : V} (r : Rep K F d v) : decide (v = .non) = isNon d := by
  cases r <;> simp [isNon]
def gIsN (p : Bool → Bool) : G2 := fun x y h Kn => y = .non ∧ Kn (.d (.bl (p (isNon x)))) h
theorem has_isN {K : Kf} {p : Bool → Bool} : Has2 K (fun x y H Q => y = .non ∧ Q (.bl (p (decide (x = .non)))) H) (gIsN p) := by
  intro B F E h σ H x y vx vy Q Kn R rx ry q hn
  obtain ⟨rfl, q⟩ := q
  cases ry
  exact ⟨rfl, hn (.d (.bl _)) h F H _ (Le.refl F) R (by rw [isNon_rep rx]; exact .bl _) q⟩
/-! ### in -/
def flD : D → Bool
  | .non | .bl _ | .int _ | .str _ => true
  | _ => false
def eqF : D → D → Bool
  | .non, .non => true
  | .bl a, .bl b => a == b
  | .bl a, .int j => (if a then 1 else 0) == j
  | .int i, .bl b => i == (if b then 1 else 0)
  | .int i, .int j => i == j
  | .str x, .str y => x == y
  | _, _ => false
theorem fl_rep {K : Kf} {F : Hp} {d : D} {v : V} (r : Rep K F d v) (q : flD d = true) : flatV v = true := by
  cases r <;> first | rfl | (simp [flD] at q)
theorem eqF_rep {K : Kf} {F : Hp} {d e : D} {v u : V} (r : Rep K F d v) (r2 : Rep K F e u) (q : flD d = true) (q2 : flD e = true) : eqV v u = eqF d e := by
  cases r <;> first | (simp [flD] at q; done) | (cases r2 <;> first | rfl | (simp [flD] at q2; done))
def inD (x : D) (xs : List D) : Bool := xs.any fun y => eqF y x
theorem in_rep {K : Kf} {F : Hp} {x : D} {v : V} (r : Rep K F x v) (q : flD x = true) : ∀ {xs : List D} {vs : List V}, Reps K F xs vs → xs.all flD = true → vs.all flatV = true ∧ inV v vs = inD x xs
  | _, _, .nil, _ => ⟨rfl, rfl⟩
  | _, _, .cons a rs, h => by
    simp only [List.all_cons, Bool.and_eq_true] at h ⊢
    obtain ⟨h1, h2⟩ := in_rep r q rs h.2
    refine ⟨⟨fl_rep a h.1, h1⟩, ?_⟩
    show (eqV _ v || inV v _) = (eqF _ x || inD x _)
    rw [h2, eqF_rep a r h.1 q]
/-- a key -/
def keyD : D → Option Key
  | .int i => some (.inl i)
  | .str x => some (.inr x)
  | _ => none
theorem key_rep {K : Kf} {F : Hp} {d : D} {v : V} {k : Key} (r : Rep K F d v) (q : keyD d = some k) : v = kV k := by
  cases r <;> first | (simp [keyD] at q; done) | (simp only [keyD, Option.some.injEq] at q; subst q; rfl)
def valD (kvs : List (Key × D)) (k : Key) : Option D := (kvs.find? fun kv => decide (kv.1 = k)).map (·.2)
def putKD (kvs : List (Key × D)) (k : Key) (v : D) : List (Key × D) :=
  if (kvs.any fun kv => decide (kv.1 = k)) = true then kvs.map (fun kv => if kv.1 = k then (kv.1, v) else kv) else kvs ++ [(k, v)]
theorem RepK.val {K : Kf} {F : Hp} {k : Key} : ∀ {xs : List (Key × D)} {vs : List (Key × V)}, RepK K F xs vs → (valD xs k = none ∧ valV vs k = none) ∨ ∃ d v, valD xs k = some d ∧ valV vs k = some v ∧ Rep K F d v
  | _, _, .nil => .inl ⟨rfl, rfl⟩
  | _, _, .cons (k := k') a r => by
    unfold valD valV
    by_cases e : k' = k
    · refine .inr ⟨_, _, ?_, ?_, a⟩ <;> simp [List.find?_cons, e]
    · simp only [List.find?_cons, e, decide_false]
      exact RepK.val r
theorem RepK.any {K : Kf} {F : Hp} {k : Key} : ∀ {xs : List (Key × D)} {vs : List (Key × V)}, RepK K F xs vs → (xs.any fun kv => decide (kv.1 = k)) = vs.any fun kv => decide (kv.1 = k)
  | _, _, .nil => rfl
  | _, _, .cons a r => by
    simp only [List.any_cons]
    rw [RepK.any r]
theorem RepK.map {K : Kf} {F : Hp} {k : Key} {d : D} {v : V} (a : Rep K F d v) : ∀ {xs : List (Key × D)} {vs : List (Key × V)}, RepK K F xs vs → RepK K F (xs.map (fun kv => if kv.1 = k then (kv.1, d) else kv)) (vs.map (fun kv => if kv.1 = k then (kv.1, v) else kv))
  | _, _, .nil => .nil
  | _, _, .cons (k := k') b r => by
    simp only [List.map_cons]
    by_cases e : k' = k
    · rw [if_pos e, if_pos e]
      exact .cons a (RepK.map a r)
    · rw [if_neg e, if_neg e]
      exact .cons b (RepK.map a r)
theorem RepK.app {K : Kf} {F : Hp} : ∀ {xs ys : List (Key × D)} {vs ws : List (Key × V)}, RepK K F xs vs → RepK K F ys ws → RepK K F (xs ++ ys) (vs ++ ws)
  | _, _, _, _, .nil, r => r
  | _, _, _, _, .cons a r, s => .cons a (RepK.app r s)
theorem RepK.put {K : Kf} {F : Hp} {k : Key} {d : D} {v : V} (a : Rep K F d v) {xs : List (Key × D)} {vs : List (Key × V)} (r : RepK K F xs vs) : RepK K F (putKD xs k d) (putK vs k v) := by
  unfold putKD putK
  rw [r.any]
  split
  · exact r.map a
  · exact r.app (.cons a .nil)
theorem dget_ok {K : Kf} {B F : Hp} {E : En} {h : MH} {σ : L2.St} {H : Hp} {d y : D} {v u : V} {p : Option D → Prop} (R : Rel K B F E h σ H) (r : Rep K F d v) (ry : Rep K F y u) (q : onD h d fun kvs => match keyD y with
    | some k => p (valD kvs k)
    | none => False) : ∃ a o o', v = .ref a ∧ DGet H a u o' ∧ p o ∧ ((o = none ∧ o' = none) ∨ ∃ d v, o = some d ∧ o' = some v ∧ Rep K F d v) := by
  obtain ⟨a, xs, vs, rfl, e, rs, q⟩ := dct_of R r q
  cases ek : keyD y with
  | none => rw [ek] at q; exact q.elim
  | some k =>
    rw [ek] at q
    obtain rfl := key_rep ry ek
    exact ⟨a, _, _, rfl, .inl ⟨vs, k, e, rfl, rfl⟩, q, rs.val⟩
/-- x in what: a list, a tuple, a dict, a text -/
def gIn (p : Bool → Bool) : G2 := fun x y h Kn => match y with
  | .str z => onStr x fun c => Kn (.d (.bl (p (!(Builtin.Str.occurrences z c 0 z.length 1).isEmpty)))) h
  | .dct _ => onD h y fun kvs => match keyD x with
    | some k => Kn (.d (.bl (p (valD kvs k).isSome))) h
    | none => False
  | .ref a => (match h a with
    | some (.dct kvs) => (match keyD x with
      | some k => Kn (.d (.bl (p (valD kvs k).isSome))) h
      | none => False)
    | _ => onQ h y fun xs => flD x = true ∧ xs.all flD = true ∧ Kn (.d (.bl (p (inD x xs)))) h)
  | _ => onQ h y fun xs => flD x = true ∧ xs.all flD = true ∧ Kn (.d (.bl (p (inD x xs)))) h
def rDIn (p : Bool → Bool) : R2 := fun y x H Q => ∃ a o, x = .ref a ∧ DGet H a y o ∧ Q (.bl (p o.isSome)) H
theorem op_inD (hu : X.A.units + 1 < cLine) : OpR X (compareOp .In) (rDIn id) := by
  intro pins s σ H x y v u Q I rx ry h
  obtain ⟨a, o, rfl, g, q⟩ := h
  obtain rfl : u = Value.ref a := ry
  exact d_in hu I g rx fun s3 I3 => ⟨.bl o.isSome, H, I3, rfl, q⟩
theorem op_notInD (hu : X.A.units + 1 < cLine) : OpR X (compareOp .NotIn) (rDIn not) := by
  intro pins s σ H x y v u Q I rx ry h
  obtain ⟨a, o, rfl, g, q⟩ := h
  obtain rfl : u = Value.ref a := ry
  exact d_notIn hu I g rx fun s3 I3 => ⟨.bl (!o.isSome), H, I3, rfl, q⟩
abbrev rInA (K : Kf) (p : Bool → Bool) : R2 := fun x y H Q => (∃ i j, x = .str i ∧ y = .str j ∧ Q (.bl (p (!(Builtin.Str.occurrences j i 0 j.length 1).isEmpty))) H) ∨ ((∃ a xs, y = .ref a ∧ (SqL K H a xs ∨ SqT K H a xs) ∧ flatV x = true ∧ xs.all flatV = true ∧ Q (.bl (p (inV x xs))) H) ∨ rDIn p x y H Q)
theorem op_inA (hu : X.A.units + 1 < cLine) : OpR X (compareOp .In) (rInA X.K id) := op_in_str.or (op_in_seq.or (op_inD hu))
theorem op_notInA (hu : X.A.units + 1 < cLine) : OpR X (compareOp .NotIn) (rInA X.K not) := L2.op_notIn_str.or (op_notIn_seq.or (op_notInD hu))
theorem has_in {K : Kf} {p : Bool → Bool} : Has2 K (rInA K p) (gIn p) := by
  intro B F E h σ H x y vx vy Q Kn R rx ry q hn
  have sq : (onQ h y fun xs => flD x = true ∧ xs.all flD = true ∧ Kn (.d (.bl (p (inD x xs)))) h) → rInA K p vx vy H Q := fun q => by
    obtain ⟨a, xs, vs, rfl, e, rs, q1, q2, q⟩ := seq_of R ry q
    obtain ⟨z1, z2⟩ := in_rep rx q1 rs q2
    exact .inr (.inl ⟨a, vs, rfl, e, fl_rep rx q1, z1, by rw [z2]; exact hn (.d (.bl _)) h F H _ (Le.refl F) R (.bl _) q⟩)
  have dc : (onD h y fun kvs => match keyD x with
    | some k => Kn (.d (.bl (p (valD kvs k).isSome))) h
    | none => False) → rInA K p vx vy H Q := fun q => by
    obtain ⟨a, o, o', rfl, g, q, z⟩ := dget_ok (p := fun o => Kn (.d (.bl (p o.isSome))) h) R ry rx q
    have e : o'.isSome = o.isSome := by
      rcases z with ⟨rfl, rfl⟩ | ⟨_, _, rfl, rfl, _⟩ <;> rfl
    exact .inr (.inr ⟨a, o', rfl, g, by rw [e]; exact hn (.d (.bl _)) h F H _ (Le.refl F) R (.bl _) q⟩)
  cases ry with
  | str z =>
    obtain ⟨i, rfl, rfl, q⟩ := str_of rx q
    exact .inl ⟨i, z, rfl, rfl, hn (.d (.bl _)) h F H _ (Le.refl F) R (.bl _) q⟩
  | dct e rs => exact dc q
  | tup e rs => exact sq q
  | lst e rs => exact sq q
  | scr e => exact sq q
  | ref a =>
    have q' : (match h a with
    | some (.dct kvs) => (match keyD x with
      | some k => Kn (.d (.bl (p (valD kvs k).isSome))) h
      | none => False)
    | _ => onQ h (.ref a) fun xs => flD x = true ∧ xs.all flD = true ∧ Kn (.d (.bl (p (inD x xs)))) h) := q
    cases e : h a with
    | none =>
      rw [e] at q'
      exact sq q'
    | some m =>
      rw [e] at q'
      cases m with
      | lst xs => exact sq q'
      | ins C fs => exact sq q'
      | dct kvs =>
        refine dc ?_
        show (match h a with
          | some (.dct xs) => (match keyD x with
            | some k => Kn (.d (.bl (p (valD xs k).isSome))) h
            | none => False)
          | _ => False)
        rw [e]
        exact q'
  | non => exact sq q
  | bl b => exact sq q
  | int b => exact sq q
end
end M3
set_option Elab.async false
set_option linter.all false
set_option maxRecDepth 100000
set_option maxHeartbeats 4000000
namespace M3
open PySem PySem.Spec PyProof.Rows L2
section
variable {X : Cx} {W : WX} {a b e : Expr} {pos pos' : Pos} {ta tb tv : TVm}
/-! ### o[i] -/
def rIxD : R2 := fun x y H Q => ∃ a v, x = .ref a ∧ DGet H a y (some v) ∧ Q v H
theorem ix_dict (hu : X.A.units + 1 < cLine) : IxR X rIxD := by
  intro value slice pins s σ H x y v u Q I rx ry h hs
  obtain ⟨a, z, rfl, g, q⟩ := h
  obtain rfl : v = Value.ref a := rx
  have hT := dict_typeIs I g
  have h₂ : wpAny (model X.prog X.w) X.A (getItem (.ref a) u) (EP X pins σ Q) X.xe s := d_getItem hu I g ry fun w' s3 I3 rw' => ⟨z, H, I3, rw', q⟩
  unfold subscriptTail
  refine wpAny_bind ?_
  rw [getitemInPython_of_ne hT.not_modules]
  refine wpAny_bind (wpAny_specialOf hT PySem.F.slot_dict_getitem.lookup ?_)
  have fin : wpAny (model X.prog X.w) X.A (subscripted slice false (.ref a) u) (fun r s₃ => wpAny (model X.prog X.w) X.A (letTemporaryGo value (.ref a) r >>= fun _ => pure r) (EP X pins σ Q) X.xe s₃) X.xe s := by
    rw [hs]
    exact wpAny_operating (wpAny_mono h₂ (fun r s₃ h₃ => wpAny_bind (wpAny_letTemporaryGo (wpAny_pure h₃))) fun _ _ x => x)
  first
    | exact wpAny_pure (wpAny_bind fin)
    | exact wpAny_bind (wpAny_pure (wpAny_bind fin))
    | exact wpAny_bind fin
def atD (xs : List D) (i : Int) : Option D := (ixN xs.length i).bind fun j => xs[j]?
def gIxQ (h : MH) (x : D) (i : Int) (k : D → Prop) : Prop := onQ h x fun xs => match atD xs i with
  | some d => k d
  | none => False
def gIxD (h : MH) (x y : D) (k : D → Prop) : Prop := onD h x fun kvs => match keyD y with
  | some key => (match valD kvs key with
    | some d => k d
    | none => False)
  | none => False
def gIx : G2 := fun x y h Kn => match x with
  | .str z => onInt y fun i => z.length ≤ sizeLine ∧ (match atI z.cps.toList i with
    | some c => Kn (.d (.str ⟨#[c]⟩)) h
    | none => False)
  | .dct _ => gIxD h x y fun d => Kn (.d d) h
  | .ref a => (match h a with
    | some (.dct _) => gIxD h x y fun d => Kn (.d d) h
    | _ => onInt y fun i => gIxQ h x i fun d => Kn (.d d) h)
  | _ => onInt y fun i => gIxQ h x i fun d => Kn (.d d) h
theorem at_rep {K : Kf} {F : Hp} {xs : List D} {vs : List V} {i : Int} {d : D} (r : Reps K F xs vs) (e : atD xs i = some d) : ∃ v, atI vs i = some v ∧ Rep K F d v := by
  unfold atD at e
  unfold atI
  rw [← r.len]
  cases q : ixN xs.length i with
  | none => rw [q] at e; cases e
  | some j =>
    rw [q] at e
    exact r.get (i := j) e
theorem has_ix {K : Kf} : Has2 K (fun x y H Q => rIx K x y H Q ∨ rIxD x y H Q) gIx := by
  intro B F E h σ H x y vx vy Q Kn R rx ry q hn
  have sq : (onInt y fun i => gIxQ h x i fun d => Kn (.d d) h) → (rIx K vx vy H Q ∨ rIxD vx vy H Q) := fun q => by
    obtain ⟨i, rfl, rfl, q⟩ := int_of ry q
    obtain ⟨a, xs, vs, rfl, e, rs, q⟩ := seq_of R rx q
    cases ea : atD xs i with
    | none => rw [ea] at q; exact q.elim
    | some d =>
      rw [ea] at q
      obtain ⟨v, ev, rv⟩ := at_rep rs ea
      have fin := hn (.d d) h F H v (Le.refl F) R rv q
      rcases e with e | e
      · exact .inl (.inl ⟨a, vs, i, v, rfl, rfl, e, ev, fin⟩)
      · exact .inl (.inr (.inl ⟨a, vs, i, v, rfl, rfl, e, ev, fin⟩))
  have dc : (gIxD h x y fun d => Kn (.d d) h) → (rIx K vx vy H Q ∨ rIxD vx vy H Q) := fun q => by
    obtain ⟨a, xs, vs, rfl, e, rs, q⟩ := dct_of R rx q
    cases ek : keyD y with
    | none => rw [ek] at q; exact q.elim
    | some k =>
      rw [ek] at q
      obtain rfl := key_rep ry ek
      have q : (match valD xs k with
        | some d => Kn (.d d) h
        | none => False) := q
      rcases rs.val (k := k) with ⟨z1, z2⟩ | ⟨d, v, z1, z2, rv⟩
      · rw [z1] at q; exact q.elim
      · rw [z1] at q
        exact .inr ⟨a, v, rfl, .inl ⟨vs, k, e, rfl, z2.symm⟩, hn (.d d) h F H v (Le.refl F) R rv q⟩
  cases rx with
  | str z =>
    obtain ⟨i, rfl, rfl, q⟩ := int_of ry q
    obtain ⟨hz, q⟩ := q
    cases ea : atI z.cps.toList i with
    | none => rw [ea] at q; exact q.elim
    | some c =>
      rw [ea] at q
      exact .inl (.inr (.inr ⟨z, i, c, rfl, rfl, hz, ea, hn (.d (.str _)) h F H _ (Le.refl F) R (.str _) q⟩))
  | dct e rs => exact dc q
  | tup e rs => exact sq q
  | lst e rs => exact sq q
  | scr e => exact sq q
  | non => exact sq q
  | bl b => exact sq q
  | int b => exact sq q
  | ref a =>
    have q' : (match h a with
    | some (.dct _) => gIxD h (.ref a) y fun d => Kn (.d d) h
    | _ => onInt y fun i => gIxQ h (.ref a) i fun d => Kn (.d d) h) := q
    cases e : h a with
    | none => rw [e] at q'; exact sq q'
    | some m =>
      rw [e] at q'
      cases m with
      | lst xs => exact sq q'
      | ins C fs => exact sq q'
      | dct kvs => exact dc q'
theorem me_ix (hu : X.A.units + 1 < cLine) (ha : MV X W a ta) (hb : MV X W b tb) (hs : PlainIx b := by exact fun _ _ => rfl) : ME X W (.Subscript a b pos) (mOp gIx ta tb) := fun B => (pe_ix (ix_seq.or (ix_dict hu)) (ha B) (hb B) hs).impM fun _ _ _ q => two has_ix q
/-! ### o[i] = v -/
def rSetD : TSet := fun o i v H Q => ∃ a H4, o = .ref a ∧ DPut H a i v H4 ∧ Q H4
theorem set_dict (hu : X.A.units + 1 < cLine) : PSet X rSetD := by
  intro pins s σ H o i v ov iv u Q I ro ri rv h
  obtain ⟨a, H4, rfl, g, q⟩ := h
  obtain rfl : ov = Value.ref a := ro
  exact d_setItem hu I g ri rv fun s4 I4 => ⟨H4, I4, q⟩
abbrev rSetA : TSet := fun o i v H Q => rSetL o i v H Q ∨ rSetD o i v H Q
theorem set_any (hu : X.A.units + 1 < cLine) : PSet X rSetA := by
  intro pins s σ H o i v ov iv u Q I ro ri rv h
  rcases h with h | h
  · exact set_list pins s σ H o i v ov iv u Q I ro ri rv h
  · exact set_dict hu pins s σ H o i v ov iv u Q I ro ri rv h
def onSet (h : MH) (o i v : D) (k : MH → Prop) : Prop := match o with
  | .ref p => (match h p with
    | some (.lst xs) => onInt i fun j => (match ixN xs.length j with
      | some n => k (put h p (.lst (xs.set n v)))
      | none => False)
    | some (.dct kvs) => (match keyD i with
      | some key => kvs.length < sizeLine ∧ k (put h p (.dct (putKD kvs key v)))
      | none => False)
    | _ => False)
  | _ => False
theorem set_ok2 {K : Kf} {B F : Hp} {E : En} {h : MH} {σ : L2.St} {H : Hp} {o i v : D} {vo vi vv : V} {k : MH → Prop} {Q : Hp → Prop} (R : Rel K B F E h σ H) (ro : Rep K F o vo) (ri : Rep K F i vi) (rv : Rep K F v vv) (q : onSet h o i v k)
    (hn : ∀ h' H', Rel K B F E h' σ H' → k h' → Q H') : rSetA vo vi vv H Q := by
  cases ro with
  | ref a =>
    have q : (match h a with
      | some (.lst xs) => onInt i fun j => (match ixN xs.length j with
        | some n => k (put h a (.lst (xs.set n v)))
        | none => False)
      | some (.dct kvs) => (match keyD i with
        | some key => kvs.length < sizeLine ∧ k (put h a (.dct (putKD kvs key v)))
        | none => False)
      | _ => False) := q
    cases e : h a with
    | none => rw [e] at q; exact q.elim
    | some m =>
      rw [e] at q
      cases m with
      | lst xs =>
        obtain ⟨j, rfl, rfl, q2⟩ := int_of ri q
        obtain ⟨vs, e2, rs⟩ := R.cel a _ e
        cases ej : ixN xs.length j with
        | none => rw [ej] at q2; exact q2.elim
        | some n =>
          rw [ej] at q2
          exact .inl ⟨a, vs, j, n, rfl, rfl, e2, by rw [← rs.len]; exact ej, hn _ _ (R.write (m' := .lst (xs.set n v)) e ⟨_, upd_same, rs.set rv n⟩) q2⟩
      | dct kvs =>
        obtain ⟨vs, e2, rs⟩ := R.cel a _ e
        cases ek : keyD i with
        | none => rw [ek] at q; exact q.elim
        | some key =>
          rw [ek] at q
          obtain rfl := key_rep ri ek
          exact .inr ⟨a, _, rfl, .inl ⟨vs, key, e2, rfl, by rw [← rs.len]; exact q.1, rfl⟩, hn _ _ (R.write (m' := .dct (putKD kvs key v)) e ⟨_, upd_same, RepK.put rv rs⟩) q.2⟩
      | ins C fs => exact q.elim
  | _ => exact q.elim
def sSetI (to ti tv : TVm) : TSm := fun N E h => tv E h (fun v h1 => to E h1 (fun o h2 => ti E h2 (fun i h3 => onSet h3 o i v fun h4 => N.nx E h4) N.xs) N.xs) N.xs
theorem ms_setI {o i : Expr} {to ti : TVm} (hu : X.A.units + 1 < cLine) (ho : MV X W o to) (hi : MV X W i ti) (hv : MV X W e tv)
    (ha : ∀ v, assign (.Subscript o i pos') X.env v = (do
      let ov ← holding [v] (eval o X.env)
      let iv ← holding [v, ov] (eval i X.env)
      standAt pos'
      holding [v, ov, iv] (setItem ov iv v)
      release [v, ov, iv] []) := by intro _; rfl)
    (hs : swapsWithSole [.Subscript o i pos'] e pos.line X.env = pure false := by rfl) (hw : swappedStores [.Subscript o i pos'] e X.env = pure none := by rfl)
    (h1 : (assignEach [.Subscript o i pos'] X.env).map (·.2) = [assign (.Subscript o i pos') X.env] := by rfl) : MS X W (.Assign [.Subscript o i pos'] e pos) (sSetI to ti tv) := fun B =>
  (ps_asg (hv B) (pg_sub (ho B) (hi B) (set_any hu) ha) hs hw h1).impM fun D σ H ⟨F, E, h, N, R, ht, c⟩ => by
    refine ⟨F, E, h, _, N.xs, R, ht, fun x h' F' H' a dx l R' q k => c.2.2.2.2 x h' F' E σ H' a dx l R' q k, fun v h1 F1 H1 vv l1 R1 r1 k1 => ?_⟩
    refine ⟨F1, E, h1, _, N.xs, R1, k1, fun x h' F' H' a dx l R' q k => c.2.2.2.2 x h' F' E σ H' a dx (l1.trans l) R' q k, fun o h2 F2 H2 vo l2 R2 r2 k2 => ?_⟩
    refine ⟨F2, E, h2, _, N.xs, R2, k2, fun x h' F' H' a dx l R' q k => c.2.2.2.2 x h' F' E σ H' a dx ((l1.trans l2).trans l) R' q k, fun i h3 F3 H3 vi l3 R3 r3 k3 => ?_⟩
    exact set_ok2 R3 (r2.mono l3) r3 (r1.mono (l2.trans l3)) k3 fun h' H' R' k => c.1 E h' F3 σ H' ((l1.trans l2).trans l3) R' k
/-- xs[i] op= e -/
def rGetL (K : Kf) : V → V → Hp → VK → Prop := fun x y H Q => ∃ p xs i v, x = .ref p ∧ y = .int i ∧ 0 ≤ i ∧ SqL K H p xs ∧ atI xs i = some v ∧ Q v H
theorem get_list : PGet X (rGetL X.K) := by
  intro pins s σ H x y v u Q I rx ry h
  obtain ⟨p, xs, i, z, rfl, rfl, h0, hq, he, q⟩ := h
  cases rx
  obtain ⟨t, rfl⟩ := ry
  obtain ⟨its, r, pl, hz⟩ := I.list hq
  obtain ⟨j, h1, h2, h3, h4, h5⟩ := atI_get he
  obtain ⟨w, ew, rw'⟩ := r.get h2
  have hl := r.length
  have hn := line63
  have hj : i.toNat = j := by
    rw [seqIndex_of h0 h5] at h1
    exact Option.some.inj h1
  exact wpAny_getItem_list pl.isList h0 (by omega) (by rw [hj]; simpa using ew) ⟨z, H, I, rw', q⟩
def sAugI (to ti tv : TVm) (g : G2) : TSm := fun N E h => to E h (fun o h1 => ti E h1 (fun i h2 => onL h2 o fun xs => onInt i fun j => 0 ≤ j ∧ (match atD xs j with
  | some x => tv E h2 (fun y h3 => g x y h3 fun r h4 => onSet h4 o i r.frz fun h5 => N.nx E h5) N.xs
  | none => False)) N.xs) N.xs
theorem ms_augI {o i : Expr} {to ti : TVm} {op : Operator} {tip : TIp} {g : G2} {tpos : Pos} (hu : X.A.units + 1 < cLine) (ho : MV X W o to) (hi : MV X W i ti) (hv : MV X W e tv) (hp : PIp X op tip) (hg : Has2 X.K tip g)
    (ha : ∀ ov iv new, augStore i ov iv new = (do holding [new, ov, iv] (setItem ov iv new); release [new, ov, iv] []; pure .next) := by intros; rfl) : MS X W (.AugAssign (.Subscript o i tpos) op e pos) (sAugI to ti tv g) := fun B =>
  (ps_augS (ho B) (hi B) get_list (hv B) hp (set_any hu) ha).impM fun D σ H ⟨F, E, h, N, R, ht, c⟩ => by
    refine ⟨F, E, h, _, N.xs, R, ht, fun x h' F' H' a dx l R' q k => c.2.2.2.2 x h' F' E σ H' a dx l R' q k, fun o h1 F1 H1 vo l1 R1 r1 k1 => ?_⟩
    refine ⟨F1, E, h1, _, N.xs, R1, k1, fun x h' F' H' a dx l R' q k => c.2.2.2.2 x h' F' E σ H' a dx (l1.trans l) R' q k, fun i h2 F2 H2 vi l2 R2 r2 k2 => ?_⟩
    obtain ⟨a, xs, vs, rfl, e, rs, k2⟩ := lst_of R2 (r1.mono l2) k2
    obtain ⟨j, rfl, rfl, h0, k2⟩ := int_of r2 k2
    cases ea : atD xs j with
    | none => rw [ea] at k2; exact k2.elim
    | some x =>
      rw [ea] at k2
      obtain ⟨v, ev, rv⟩ := at_rep rs ea
      refine ⟨a, vs, j, v, rfl, rfl, h0, .of e, ev, F2, E, h2, _, N.xs, R2, k2, fun x h' F' H' a dx l R' q k => c.2.2.2.2 x h' F' E σ H' a dx ((l1.trans l2).trans l) R' q k, fun y h3 F3 H3 vy l3 R3 r3 k3 => ?_⟩
      refine hg B F3 E h3 σ H3 x y v vy _ _ R3 (rv.mono l3) r3 k3 fun r h4 F4 H4 z l4 R4 q4 k4 => ?_
      obtain ⟨F5, l5, R5, rp⟩ := q4.frz R4
      exact set_ok2 R5 (r1.mono (((l2.trans l3).trans l4).trans l5)) (.int j) rp k4 fun h' H' R' k => c.1 E h' F5 σ H' ((((l1.trans l2).trans l3).trans l4).trans l5) R' k
/-! ### slices -/
abbrev TOm := En → MH → (Option Int → MH → Prop) → XKm → Prop
def LO (K : Kf) (B : Hp) (W : WX) (t : TOm) : TO := fun σ H Q => ∃ F E h Kn Kx, Rel K B F E h σ H ∧ t E h Kn Kx ∧ XFin K B F E σ W Kx ∧
  ∀ o h' F' H', Le F F' → Rel K B F' E h' σ H' → Kn o h' → Q o H'
def MO_ (X : Cx) (W : WX) (e : Option Expr) (t : TOm) : Prop := ∀ B, PO X e (LO X.K B W t)
def oNo : TOm := fun _ h Kn _ => Kn none h
def oSome (t : TVm) : TOm := fun E h Kn Kx => t E h (fun d h' => onInt d fun i => Kn (some i) h') Kx
theorem _root_.L2.PO.impM {X : Cx} {e : Option Expr} {t t' : TO} (p : PO X e t) (h : ∀ σ H Q, t' σ H Q → t σ H Q) : PO X e t' := by
  obtain ⟨p⟩ := p
  exact ⟨fun pins s σ H Q I q => p pins s σ H Q I (h σ H Q q)⟩
theorem mo_none : MO_ X W none oNo := fun B => po_none.impM fun σ H Q ⟨F, E, h, Kn, Kx, R, ht, hx, hn⟩ => hn none h F H (Le.refl F) R ht
theorem mo_some (p : MV X W e tv) : MO_ X W (some e) (oSome tv) := fun B => (po_some (p B)).impM fun σ H Q ⟨F, E, h, Kn, Kx, R, ht, hx, hn⟩ =>
  ⟨F, E, h, _, Kx, R, ht, hx, fun d h' F' H' v l R' r k => by
    obtain ⟨i, rfl, rfl, k⟩ := int_of r k
    exact ⟨i, rfl, hn (some i) h' F' H' l R' k⟩⟩
def cutD (xs : List D) (lo hi : Option Int) : List D := (xs.drop (HT.sIx xs.length 0 lo)).take (HT.sIx xs.length xs.length hi - HT.sIx xs.length 0 lo)
theorem cut_rep {K : Kf} {F : Hp} {xs : List D} {vs : List V} (lo hi : Option Int) (r : Reps K F xs vs) : Reps K F (cutD xs lo hi) (cutV vs lo hi) := by
  unfold cutD cutV
  rw [r.len]
  exact (r.drop _).take _
def gSl (h : MH) (x : D) (lo hi : Option Int) (Kn : RV → Prop) : Prop := match x with
  | .str z => z.length ≤ sizeLine ∧ Kn (.d (.str (cutS z lo hi)))
  | .tup xs => Kn (.d (.tup (cutD xs lo hi)))
  | _ => onL h x fun xs => Kn (.ol (cutD xs lo hi))
def mSl (te : TVm) (tl th : TOm) : TEm := fun E h Kn Kx => te E h (fun x h1 => tl E h1 (fun l h2 => th E h2 (fun u h3 => gSl h3 x l u fun r => Kn r h3) Kx) Kx) Kx
theorem me_slice {lo hi : Option Expr} {tl th : TOm} {p2 : Pos} (he : MV X W e ta) (hl : MO_ X W lo tl) (hh : MO_ X W hi th) : ME X W (.Subscript e (.Slice lo hi none p2) pos) (mSl ta tl th) := fun B => (pe_slice (sl_tupA.or (sl_list.or sl_str)) (he B) (hl B) (hh B)).impM fun σ H Q ⟨F, E, h, Kn, Kx, R, ht, hx, hn⟩ => by
  refine ⟨F, E, h, _, Kx, R, ht, hx, fun x h1 F1 H1 v l1 R1 r1 k1 => ?_⟩
  refine ⟨F1, E, h1, _, Kx, R1, k1, hx.up l1, fun lo h2 F2 H2 l2 R2 k2 => ?_⟩
  refine ⟨F2, E, h2, _, Kx, R2, k2, (hx.up l1).up l2, fun hi h3 F3 H3 l3 R3 k3 => ?_⟩
  have r3 := (r1.mono l2).mono l3
  have ll := (l1.trans l2).trans l3
  have lists : (onL h3 x fun xs => Kn (.ol (cutD xs lo hi)) h3) → rSlL X.K v lo hi H3 Q := fun q => by
    obtain ⟨a, xs, vs, rfl, e, rs, q⟩ := lst_of R3 r3 q
    refine ⟨a, vs, rfl, .of e, fun p hp => ?_⟩
    exact hn (.ol _) h3 F3 _ _ ll (R3.newO hp) ⟨p, _, rfl, upd_same, cut_rep lo hi rs, R3.noB hp, R3.noF hp, R3.noh hp⟩ q
  cases r3 with
  | str z => exact .inr (.inr ⟨z, rfl, k3.1, hn (.d (.str _)) h3 F3 H3 _ ll R3 (.str _) k3.2⟩)
  | @tup a vs ds e rs =>
    refine .inl ⟨a, vs, rfl, R3.sqT e, fun z => ?_, fun _ p hp => ?_⟩
    · have e2 : cutV vs lo hi = vs := by
        unfold cutV
        rw [z.1, z.2]
        simp
      exact hn (.d (.tup _)) h3 F3 H3 _ ll R3 (.tup e (by have := cut_rep lo hi rs; rw [e2] at this; exact this)) k3
    · have l4 : Le F3 (upd F3 p (.tup (cutV vs lo hi))) := Le.new (R3.noF hp)
      exact hn (.d (.tup _)) h3 _ _ _ (ll.trans l4) (R3.newF hp) (.tup (.inl (.inl upd_same)) ((cut_rep lo hi rs).mono l4)) k3
  | ref a => exact .inr (.inl (lists k3))
  | lst e rs => exact .inr (.inl (lists k3))
  | non => exact .inr (.inl (lists k3))
  | bl b => exact .inr (.inl (lists k3))
  | int b => exact .inr (.inl (lists k3))
  | dct e rs => exact .inr (.inl (lists k3))
  | scr e => exact .inr (.inl (lists k3))
/-! ### built-in calls by name -/
variable {x : Str} {bid bty : String} {p : Pos} {es : List Expr} {t : TAm}
theorem me_callB {r : List V → Hp → VK → Prop} {g : GA} (hc : CallR X (.builtin bid) r) (hh : HasA X.K r g) (hg : Gl X x) (hm : X.mg x = none) (hv : bootBuiltins x = some (.builtin bid)) (ha : MA X W (e :: es) t) (hn : x ≠ "__name__" := by decide) (hdb : (x == ("__debug__" : Str)) = false := by decide)
    (he : starEach (e :: es) X.env = (false, eval e X.env) :: starEach es X.env := by rfl) (hpl : (backTo pos (starEach es X.env)).any (·.1) = false := by rfl) : ME X W (.Call (.Name x p) (e :: es) [] pos) (mCall g t) := fun B => (pe_callB hc hg hm hv (ha B) hn hdb he hpl).impM fun _ _ _ q => many hh q
theorem me_callT {r : List V → Hp → VK → Prop} {g : GA} (hc : CallR X (.type bty) r) (hh : HasA X.K r g) (hg : Gl X x) (hm : X.mg x = none) (hv : bootBuiltins x = some (.type bty)) (ha : MA X W (e :: es) t) (hn : x ≠ "__name__" := by decide) (hdb : (x == ("__debug__" : Str)) = false := by decide)
    (he : starEach (e :: es) X.env = (false, eval e X.env) :: starEach es X.env := by rfl) (hpl : (backTo pos (starEach es X.env)).any (·.1) = false := by rfl) : ME X W (.Call (.Name x p) (e :: es) [] pos) (mCall g t) := fun B => (pe_callTy hc hg hm hv (ha B) hn hdb he hpl).impM fun _ _ _ q => many hh q
def on1 (ds : List D) (k : D → Prop) : Prop := match ds with
  | [d] => k d
  | _ => False
def on2 (ds : List D) (k : D → D → Prop) : Prop := match ds with
  | [d, e] => k d e
  | _ => False
theorem one_of {K : Kf} {F : Hp} {ds : List D} {vs : List V} {k : D → Prop} (r : Reps K F ds vs) (q : on1 ds k) : ∃ d v, ds = [d] ∧ vs = [v] ∧ Rep K F d v ∧ k d := by
  match ds, vs, r, q with
  | [d], [v], .cons a .nil, q => exact ⟨d, v, rfl, rfl, a, q⟩
theorem two_of {K : Kf} {F : Hp} {ds : List D} {vs : List V} {k : D → D → Prop} (r : Reps K F ds vs) (q : on2 ds k) : ∃ d e v u, ds = [d, e] ∧ vs = [v, u] ∧ Rep K F d v ∧ Rep K F e u ∧ k d e := by
  match ds, vs, r, q with
  | [d, e], [v, u], .cons a (.cons b .nil), q => exact ⟨d, e, v, u, rfl, rfl, a, b, q⟩
/-! len -/
def gLen : GA := fun ds h Kn => on1 ds fun x => match x with
  | .str z => z.length ≤ sizeLine ∧ Kn (.d (.int z.length)) h
  | .dct kvs => Kn (.d (.int kvs.length)) h
  | .ref a => (match h a with
    | some (.dct kvs) => Kn (.d (.int kvs.length)) h
    | _ => onQ h x fun xs => Kn (.d (.int xs.length)) h)
  | _ => onQ h x fun xs => Kn (.d (.int xs.length)) h
theorem call_lenR : CallR X (.builtin "len") (fun xs H Q => ∃ a kvs, xs = [V.ref a] ∧ Rd H a (.dK kvs) ∧ Q (.int kvs.length) H) := by
  intro pins s σ H xs us Q I r h
  obtain ⟨a, kvs, rfl, ha, q⟩ := h
  obtain ⟨u, rfl, ru⟩ := vals1 r
  cases ru
  exact d_len I ha fun t s' I' => ⟨.int kvs.length, H, I', ⟨t, rfl⟩, q⟩
theorem has_len {K : Kf} : HasA K (fun xs H Q => (∃ x n, xs = [x] ∧ LenV K x H n ∧ Q (.int n) H) ∨ ∃ a kvs, xs = [V.ref a] ∧ Rd H a (.dK kvs) ∧ Q (.int kvs.length) H) gLen := by
  intro B F E h σ H xs vs Q Kn R r q hn
  obtain ⟨d, v, rfl, rfl, rp, q⟩ := one_of r q
  have sq : (onQ h d fun xs => Kn (.d (.int xs.length)) h) → ∃ x n, [v] = [x] ∧ LenV K x H n ∧ Q (.int n) H := fun q => by
    obtain ⟨a, xs, vs, rfl, e, rs, q⟩ := seq_of R rp q
    refine ⟨_, vs.length, rfl, ?_, by rw [← rs.len]; exact hn (.d (.int _)) h F H _ (Le.refl F) R (.int _) q⟩
    rcases e with e | e
    · exact .inl ⟨vs, e, rfl⟩
    · exact .inr ⟨vs, e, rfl⟩
  cases rp with
  | str z => exact .inl ⟨_, z.length, rfl, ⟨q.1, rfl⟩, hn (.d (.int _)) h F H _ (Le.refl F) R (.int _) q.2⟩
  | dct e rs => exact .inr ⟨_, _, rfl, R.rd e, by rw [← rs.len]; exact hn (.d (.int _)) h F H _ (Le.refl F) R (.int _) q⟩
  | ref a =>
    have q' : (match h a with
    | some (.dct kvs) => Kn (.d (.int kvs.length)) h
    | _ => onQ h (.ref a) fun xs => Kn (.d (.int xs.length)) h) := q
    cases e : h a with
    | none => rw [e] at q'; exact .inl (sq q')
    | some m =>
      rw [e] at q'
      cases m with
      | lst xs => exact .inl (sq q')
      | ins C fs => exact .inl (sq q')
      | dct kvs =>
        obtain ⟨ws, e2, rs⟩ := R.cel a _ e
        exact .inr ⟨a, ws, rfl, .inl e2, by rw [← rs.len]; exact hn (.d (.int _)) h F H _ (Le.refl F) R (.int _) q'⟩
  | non => exact .inl (sq q)
  | bl b => exact .inl (sq q)
  | int b => exact .inl (sq q)
  | tup e rs => exact .inl (sq q)
  | lst e rs => exact .inl (sq q)
  | scr e => exact .inl (sq q)
theorem call_lenA : CallR X (.builtin "len") (fun xs H Q => (∃ x n, xs = [x] ∧ LenV X.K x H n ∧ Q (.int n) H) ∨ ∃ a kvs, xs = [V.ref a] ∧ Rd H a (.dK kvs) ∧ Q (.int kvs.length) H) := call_len.or call_lenR
/-! list(..), tuple(..) of a list or a tuple -/
def gList : GA := fun ds h Kn => on1 ds fun x => onQ h x fun xs => Kn (.ol xs) h
theorem has_list {K : Kf} : HasA K (fun xs H Q => ∃ p ys, xs = [.ref p] ∧ (SqL K H p ys ∨ SqT K H p ys) ∧ ∀ l, H l = none → Q (.ref l) (upd H l (.lst ys))) gList := by
  intro B F E h σ H xs vs Q Kn R r q hn
  obtain ⟨d, v, rfl, rfl, rp, q⟩ := one_of r q
  obtain ⟨a, xs, vs, rfl, e, rs, q⟩ := seq_of R rp q
  exact ⟨a, vs, rfl, e, fun p hp => hn (.ol xs) h F _ _ (Le.refl F) (R.newO hp) ⟨p, _, rfl, upd_same, rs, R.noB hp, R.noF hp, R.noh hp⟩ q⟩
def gTuple : GA := fun ds h Kn => on1 ds fun x => onQ h x fun xs => Kn (.d (.tup xs)) h
theorem has_tuple {K : Kf} : HasA K (fun xs H Q => ∃ p ys, xs = [.ref p] ∧ ((SqL K H p ys ∧ ∀ l, H l = none → Q (.ref l) (upd H l (.tup ys))) ∨ (SqT K H p ys ∧ Q (.ref p) H))) gTuple := by
  intro B F E h σ H xs vs Q Kn R r q hn
  obtain ⟨d, v, rfl, rfl, rp, q⟩ := one_of r q
  have lst : ∀ {a : Addr} {xs : List D} {vs : List V}, SqL K H a vs → Reps K F xs vs → Kn (.d (.tup xs)) h → (∃ p ys, [V.ref a] = [.ref p] ∧ ((SqL K H p ys ∧ ∀ l, H l = none → Q (.ref l) (upd H l (.tup ys))) ∨ (SqT K H p ys ∧ Q (.ref p) H))) := fun e rs q =>
    ⟨_, _, rfl, .inl ⟨e, fun p hp => hn (.d (.tup _)) h _ _ _ (Le.new (R.noF hp)) (R.newF hp) (.tup (.inl (.inl upd_same)) (rs.mono (Le.new (R.noF hp)))) q⟩⟩
  cases rp with
  | tup e rs => exact ⟨_, _, rfl, .inr ⟨R.sqT e, hn (.d (.tup _)) h F H _ (Le.refl F) R (.tup e rs) q⟩⟩
  | lst e rs => exact lst (.of (R.frz _ _ e).1) rs q
  | scr e => exact lst (R.sqL e) (Reps.ints _) q
  | ref a =>
    have q' : (match h a with
      | some (.lst xs) => Kn (.d (.tup xs)) h
      | _ => False) := q
    cases e : h a with
    | none => rw [e] at q'; exact q'.elim
    | some m =>
      rw [e] at q'
      cases m with
      | lst xs =>
        obtain ⟨vs, e2, rs⟩ := R.cel a _ e
        exact lst (.of e2) rs q'
      | ins C fs => exact q'.elim
      | dct kvs => exact q'.elim
  | _ => exact q.elim
/-! sums, bounds, all -/
def intsD : List D → Option (List Int)
  | [] => some []
  | .int i :: r => (intsD r).map (i :: ·)
  | _ => none
theorem ints_eq : ∀ {xs : List D} {ns : List Int}, intsD xs = some ns → xs = ns.map D.int
  | [], ns, h => by cases h; rfl
  | .int i :: r, ns, h => by
    simp only [intsD, Option.map_eq_some_iff] at h
    obtain ⟨ms, h, rfl⟩ := h
    rw [ints_eq h]
    rfl
  | .non :: _, _, h | .bl _ :: _, _, h | .str _ :: _, _, h | .tup _ :: _, _, h | .lst _ :: _, _, h | .dct _ :: _, _, h | .ref _ :: _, _, h | .scr _ :: _, _, h => by cases h
theorem ints_map (ns : List Int) : intsD (ns.map D.int) = some ns := by
  induction ns with
  | nil => rfl
  | cons n r ih =>
    show (intsD (r.map D.int)).map (n :: ·) = _
    rw [ih]
    rfl
def blsD : List D → Option (List Bool)
  | [] => some []
  | .bl i :: r => (blsD r).map (i :: ·)
  | _ => none
theorem bls_eq : ∀ {xs : List D} {ns : List Bool}, blsD xs = some ns → xs = ns.map D.bl
  | [], ns, h => by cases h; rfl
  | .bl i :: r, ns, h => by
    simp only [blsD, Option.map_eq_some_iff] at h
    obtain ⟨ms, h, rfl⟩ := h
    rw [bls_eq h]
    rfl
  | .non :: _, _, h | .int _ :: _, _, h | .str _ :: _, _, h | .tup _ :: _, _, h | .lst _ :: _, _, h | .dct _ :: _, _, h | .ref _ :: _, _, h | .scr _ :: _, _, h => by cases h
theorem bls_map (ns : List Bool) : blsD (ns.map D.bl) = some ns := by
  induction ns with
  | nil => rfl
  | cons n r ih =>
    show (blsD (r.map D.bl)).map (n :: ·) = _
    rw [ih]
    rfl
def onInts (xs : List D) (k : List Int → Prop) : Prop := match intsD xs with
  | some ns => k ns
  | none => False
def onBls (xs : List D) (k : List Bool → Prop) : Prop := match blsD xs with
  | some ns => k ns
  | none => False
theorem onInts_of {xs : List D} {k : List Int → Prop} (q : onInts xs k) : ∃ ns, xs = ns.map D.int ∧ k ns := by
  unfold onInts at q
  cases e : intsD xs with
  | none => rw [e] at q; exact q.elim
  | some ns => rw [e] at q; exact ⟨ns, ints_eq e, q⟩
theorem onBls_of {xs : List D} {k : List Bool → Prop} (q : onBls xs k) : ∃ ns, xs = ns.map D.bl ∧ k ns := by
  unfold onBls at q
  cases e : blsD xs with
  | none => rw [e] at q; exact q.elim
  | some ns => rw [e] at q; exact ⟨ns, bls_eq e, q⟩
/-- lists alone (no tuple) -/
def onLs (h : MH) (d : D) (k : List D → Prop) : Prop := match d with
  | .tup _ => False
  | d => onQ h d k
theorem lsq_of {K : Kf} {B F : Hp} {E : En} {h : MH} {σ : L2.St} {H : Hp} {d : D} {v : V} {k : List D → Prop} (R : Rel K B F E h σ H) (r : Rep K F d v) (q : onLs h d k) : ∃ a xs vs, v = .ref a ∧ SqL K H a vs ∧ Reps K F xs vs ∧ k xs := by
  cases r with
  | lst e rs => exact ⟨_, _, _, rfl, .of (R.frz _ _ e).1, rs, q⟩
  | tup e rs => exact q.elim
  | scr e => exact ⟨_, _, _, rfl, R.sqL e, Reps.ints _, q⟩
  | ref a =>
    have q : (match h a with
      | some (.lst xs) => k xs
      | _ => False) := q
    cases e : h a with
    | none => rw [e] at q; exact q.elim
    | some m =>
      rw [e] at q
      cases m with
      | lst xs =>
        obtain ⟨vs, e2, rs⟩ := R.cel a _ e
        exact ⟨a, xs, vs, rfl, .of e2, rs, q⟩
      | dct xs => exact q.elim
      | ins C fs => exact q.elim
  | _ => exact q.elim
def gSum : GA := fun ds h Kn => on1 ds fun x => onLs h x fun xs => onInts xs fun ns => Kn (.d (.int ns.sum)) h
theorem has_sum {K : Kf} : HasA K (rSum K) gSum := by
  intro B F E h σ H xs vs Q Kn R r q hn
  obtain ⟨d, v, rfl, rfl, rp, q⟩ := one_of r q
  obtain ⟨a, xs, vs, rfl, e, rs, q⟩ := lsq_of R rp q
  obtain ⟨ns, rfl, q2⟩ := onInts_of q
  rw [rs.of_ints] at e
  exact ⟨a, ns, rfl, e, hn (.d (.int _)) h F H _ (Le.refl F) R (.int _) q2⟩
def gMin : GA := fun ds h Kn => on1 ds fun x => onLs h x fun xs => onInts xs fun ns => 0 < ns.length ∧ ∀ m, m ∈ ns → (∀ y, y ∈ ns → m ≤ y) → Kn (.d (.int m)) h
theorem has_min {K : Kf} : HasA K (rMin K) gMin := by
  intro B F E h σ H xs vs Q Kn R r q hn
  obtain ⟨d, v, rfl, rfl, rp, q⟩ := one_of r q
  obtain ⟨a, xs, vs, rfl, e, rs, q⟩ := lsq_of R rp q
  obtain ⟨ns, rfl, q1, q2⟩ := onInts_of q
  rw [rs.of_ints] at e
  exact ⟨a, ns, rfl, e, q1, fun m hm hy => hn (.d (.int m)) h F H _ (Le.refl F) R (.int _) (q2 m hm hy)⟩
def gMax : GA := fun ds h Kn => on1 ds fun x => onLs h x fun xs => onInts xs fun ns => 0 < ns.length ∧ ∀ m, m ∈ ns → (∀ y, y ∈ ns → y ≤ m) → Kn (.d (.int m)) h
theorem has_max {K : Kf} : HasA K (rMax K) gMax := by
  intro B F E h σ H xs vs Q Kn R r q hn
  obtain ⟨d, v, rfl, rfl, rp, q⟩ := one_of r q
  obtain ⟨a, xs, vs, rfl, e, rs, q⟩ := lsq_of R rp q
  obtain ⟨ns, rfl, q1, q2⟩ := onInts_of q
  rw [rs.of_ints] at e
  exact ⟨a, ns, rfl, e, q1, fun m hm hy => hn (.d (.int m)) h F H _ (Le.refl F) R (.int _) (q2 m hm hy)⟩
def gAll : GA := fun ds h Kn => on1 ds fun x => onLs h x fun xs => onBls xs fun bs => Kn (.d (.bl (bs.all id))) h
theorem has_all {K : Kf} : HasA K (rAll K) gAll := by
  intro B F E h σ H xs vs Q Kn R r q hn
  obtain ⟨d, v, rfl, rfl, rp, q⟩ := one_of r q
  obtain ⟨a, xs, vs, rfl, e, rs, q⟩ := lsq_of R rp q
  obtain ⟨ns, rfl, q2⟩ := onBls_of q
  rw [rs.of_bls] at e
  exact ⟨a, ns, rfl, e, hn (.d (.bl _)) h F H _ (Le.refl F) R (.bl _) q2⟩
def gAny : GA := fun ds h Kn => on1 ds fun x => onLs h x fun xs => onBls xs fun bs => Kn (.d (.bl (bs.any id))) h
theorem has_any {K : Kf} : HasA K (rAny K) gAny := by
  intro B F E h σ H xs vs Q Kn R r q hn
  obtain ⟨d, v, rfl, rfl, rp, q⟩ := one_of r q
  obtain ⟨a, xs, vs, rfl, e, rs, q⟩ := lsq_of R rp q
  obtain ⟨ns, rfl, q2⟩ := onBls_of q
  rw [rs.of_bls] at e
  exact ⟨a, ns, rfl, e, hn (.d (.bl _)) h F H _ (Le.refl F) R (.bl _) q2⟩
/-- max(i, j), min(i, j) -/
def gMax2 : GA := fun ds h Kn => on2 ds fun x y => onInt x fun i => onInt y fun j => Kn (.d (.int (if j > i then j else i))) h
theorem has_max2 {K : Kf} : HasA K (fun xs H Q => ∃ i j, xs = [.int i, .int j] ∧ Q (.int (if j > i then j else i)) H) gMax2 := by
  intro B F E h σ H xs vs Q Kn R r q hn
  obtain ⟨d, e, v, u, rfl, rfl, rp, rq, q⟩ := two_of r q
  obtain ⟨i, rfl, rfl, q⟩ := int_of rp q
  obtain ⟨j, rfl, rfl, q⟩ := int_of rq q
  exact ⟨i, j, rfl, hn (.d (.int _)) h F H _ (Le.refl F) R (.int _) q⟩
def gMin2 : GA := fun ds h Kn => on2 ds fun x y => onInt x fun i => onInt y fun j => Kn (.d (.int (if j < i then j else i))) h
theorem has_min2 {K : Kf} : HasA K (fun xs H Q => ∃ i j, xs = [.int i, .int j] ∧ Q (.int (if j < i then j else i)) H) gMin2 := by
  intro B F E h σ H xs vs Q Kn R r q hn
  obtain ⟨d, e, v, u, rfl, rfl, rp, rq, q⟩ := two_of r q
  obtain ⟨i, rfl, rfl, q⟩ := int_of rp q
  obtain ⟨j, rfl, rfl, q⟩ := int_of rq q
  exact ⟨i, j, rfl, hn (.d (.int _)) h F H _ (Le.refl F) R (.int _) q⟩
def gAbs : GA := fun ds h Kn => on1 ds fun x => onInt x fun i => Kn (.d (.int (if i < 0 then -i else i))) h
theorem has_abs {K : Kf} : HasA K (fun xs H Q => ∃ i, xs = [.int i] ∧ Q (.int (if i < 0 then -i else i)) H) gAbs := by
  intro B F E h σ H xs vs Q Kn R r q hn
  obtain ⟨d, v, rfl, rfl, rp, q⟩ := one_of r q
  obtain ⟨i, rfl, rfl, q⟩ := int_of rp q
  exact ⟨i, rfl, hn (.d (.int _)) h F H _ (Le.refl F) R (.int _) q⟩
/-- int(b), int(i) -/
def gInt : GA := fun ds h Kn => on1 ds fun x => match x with
  | .int i => Kn (.d (.int i)) h
  | .bl b => Kn (.d (.int (if b then 1 else 0))) h
  | _ => False
theorem has_intC {K : Kf} : HasA K (fun xs H Q => (∃ i, xs = [.int i] ∧ Q (.int i) H) ∨ ∃ k, xs = [.bl k] ∧ Q (.int (if k then 1 else 0)) H) gInt := by
  intro B F E h σ H xs vs Q Kn R r q hn
  obtain ⟨d, v, rfl, rfl, rp, q⟩ := one_of r q
  cases rp with
  | int i => exact .inl ⟨i, rfl, hn (.d (.int _)) h F H _ (Le.refl F) R (.int _) q⟩
  | bl b => exact .inr ⟨b, rfl, hn (.d (.int _)) h F H _ (Le.refl F) R (.int _) q⟩
  | _ => exact q.elim
/-- sorted(list of ints) -/
def gSorted : GA := fun ds h Kn => on1 ds fun x => onLs h x fun xs => onInts xs fun ns => ∀ ms : List Int, ms.Perm ns → ms.Pairwise (· ≤ ·) → Kn (.ol (ms.map D.int)) h
theorem has_sorted {K : Kf} : HasA K (rSortedI K) gSorted := by
  intro B F E h σ H xs vs Q Kn R r q hn
  obtain ⟨d, v, rfl, rfl, rp, q⟩ := one_of r q
  obtain ⟨a, xs, vs, rfl, e, rs, q⟩ := lsq_of R rp q
  obtain ⟨ns, rfl, q2⟩ := onInts_of q
  rw [rs.of_ints] at e
  exact ⟨a, ns, rfl, e, fun ms p h1 h2 hp => hn (.ol (ms.map D.int)) h F _ _ (Le.refl F) (R.newO hp) ⟨p, _, rfl, upd_same, Reps.ints ms, R.noB hp, R.noF hp, R.noh hp⟩ (q2 ms h1 h2)⟩
end
end M3
set_option Elab.async false
set_option linter.all false
set_option maxRecDepth 100000
set_option maxHeartbeats 4000000
namespace PySem
open Sem (wp)
theorem m3_enumerate_newB1 {v : Value} {o : Obj} {H : Heap → Prop} (B : Begins v o H) :
    Meets (Builtin.«enumerate.__new__» ⟨[.type "enumerate", v], []⟩) (fun _ R s => H s.heap ∧
      R (.ok (.ret (.ref (s.heap.push o).objs.size))) { s with heap := (s.heap.push o).push { cls := .type "enumerate", data := .fields #[.none, .bool false, .ref s.heap.objs.size, rawInt 0, .none, .none] } }) :=
  .of_wp fun prog w A R s h => by
    obtain ⟨hp, g, d, tk, os⟩ := s; obtain ⟨h1, h⟩ := h
    have hsub := sub_enumerate
    have q1 : ∀ {A' : Around} {E : Value → Shared → Prop} {Q : Value → Shared → Prop}, Q (.ref hp.objs.size) ⟨hp.push o, g, d, tk, os⟩ → wpAny (model prog w) A' (pyIter v) Q E ⟨hp, g, d, tk, os⟩ :=
      fun q => B.iter prog w _ _ ⟨hp, g, d, tk, os⟩ _ h1 q
    wp_walk using q1
    refine wpAny_stack_any fun st => wpAny_pure ?_
    split
    · rename_i c _ _ _ _ _
      cases (c == Value.type "enumerate")
      · wp_walk using q1
        exact ⟨_, rfl, h⟩
      · wp_walk using q1
        exact ⟨_, rfl, h⟩
    · wp_walk using q1
      exact ⟨_, rfl, h⟩
theorem m3_enum_begins1 {prog : Program} {w : World} {A : Around} {E : Value → Shared → Prop} {s : Shared} {v : Value} {o : Obj} {H : Heap → Prop} {Q : Value → Shared → Prop} (B : Begins v o H) (h1 : H s.heap)
    (h : ∀ h', IsEnum h' (s.heap.objs.size + 1) s.heap.objs.size 0 .none → h'.get? s.heap.objs.size = some o → h'.objs.size = s.heap.objs.size + 2 →
      (∀ b o, s.heap.get? b = some o → h'.get? b = some o) → Q (.ref (s.heap.objs.size + 1)) { s with heap := h' }) :
    wpAny (model prog w) A (call (.type "enumerate") [v]) Q E s := by
  refine callType_new F.called_enumerate (by decide) (F.typeCall_enumerate_1 _) (F.newCall_enumerate_1 _) (fun obj => F.args_object_init_2 obj _) F.entry_enumerate_new
    (m3_enumerate_newB1 B) ⟨h1, ?_⟩
  have hz : (s.heap.push o).objs.size = s.heap.objs.size + 1 := Heap.size_push ..
  show _ ∧ _
  rw [hz]
  have he : IsEnum ((s.heap.push o).push { cls := .type "enumerate", data := .fields #[.none, .bool false, .ref s.heap.objs.size, rawInt 0, .none, .none] }) (s.heap.objs.size + 1) s.heap.objs.size 0 .none := by
    have := Heap.get?_push_size (s.heap.push o) (o := { cls := .type "enumerate", data := .fields #[.none, .bool false, .ref s.heap.objs.size, rawInt 0, .none, .none] }) rfl
    rw [hz] at this; exact this
  refine ⟨⟨_, he, rfl⟩, h _ he (Heap.get?_push_of_some _ (Heap.get?_push_size _ B.free)) (by rw [Heap.size_push, hz]) fun b o x => Heap.get?_push_of_some _ (Heap.get?_push_of_some _ x)⟩
end PySem
namespace M3
open PySem PySem.Spec PyProof.Rows L2
/-! ### enumerate of a tuple -/
def IteT (K : PySem.W.Frag) (a : Addr) : It :=
  ⟨fun i H => ∃ (xs : List V) (x : V), SqT K H a xs ∧ xs[i]? = some x, fun i H v H' => ∃ T x, v = .ref T ∧ H T = none ∧ H' = upd H T (.tup [.int (i : Nat), x]) ∧ ∀ xs, SqT K H a xs → xs[i]? = some x, fun i H => ∃ xs : List V, SqT K H a xs ∧ xs.length ≤ i⟩
theorem turn_enumT {P : Program} {w : World} {K : PySem.W.Frag} {elts : List Expr} {kk : Nat} {tpos : Pos} (a e it : Addr) (hae : a ≠ e) (hai : a ≠ it) :
    Turn P w K (.Tuple elts kk tpos) (IteT K a) [e, it] e (fun i h => (∃ old, IsEnum h e it ((i : Nat) : Int) old) ∧ h.IsTupleIter it a i ∧ e ≠ it) where
  mem := by simp
  obj := fun i h st b hb => by
    obtain ⟨⟨old, he⟩, ⟨o, ho, hc, hd⟩, _⟩ := st
    have e' : b = e ∨ b = it := by simpa using hb
    rcases e' with z | z
    · rw [z]; exact ⟨_, he, fun v q => nomatch q⟩
    · rw [z]; exact ⟨o, ho, fun v q => by rw [hd] at q; cases q⟩
  keep := fun i h h' st k => let ⟨⟨old, he⟩, hi, hne⟩ := st; ⟨⟨old, k e (by simp) _ he⟩, hi.at fun o q => k it (by simp) o q, hne⟩
  item := by
    intro X hP hw hK hc i pins s σ H E I hf st hg
    subst hP hw hK
    obtain ⟨⟨old, he⟩, hit, hne⟩ := st
    obtain ⟨xs, x, hq, hx⟩ := hg
    obtain ⟨its, rv, p, hz⟩ := I.tuple hq
    obtain ⟨u, hu, ru⟩ := rv.get hx
    have hel : e < s.heap.objs.size := Heap.lt_size he
    have hil : it < s.heap.objs.size := by obtain ⟨_, q, _⟩ := hit; exact Heap.lt_size q
    have hlen : i < its.toArray.size := by
      rw [List.size_toArray]
      exact (List.getElem?_eq_some_iff.mp hu).1
    refine wpAny_pyNext_enum_itemD (D := Draws.tuple (A := X.A.in1) (I.ok.hd hc) it a hai its.toArray) he ⟨hit, (show s.heap.IsTuple a its.toArray from p)⟩ hlen hne (by simp [hne, Ne.symm hae]) fun y h' tk hy ho hst' hT hsz hk => ?_
    have ey : y = u := by
      have h1 : its[i]? = some y := by simpa using hy
      rw [h1] at hu
      exact Option.some.inj hu
    subst ey
    refine ⟨_, rfl, wpAny_letOwnedTupleGo_enum (s := { s with heap := h', toks := tk + 1 }) ho fun h'' he' sb => ?_⟩
    have hT2 : h''.get? s.heap.objs.size = some { cls := .type "tuple", data := .seq #[.int i tk, y] } := (sb.2 _ (Nat.ne_of_gt hel)).trans hT
    have new : ObjOk X.prog X.w (upd H s.heap.objs.size (.tup [.int (i : Nat), x])) h'' s.heap.objs.size (.tup [.int (i : Nat), x]) :=
      ⟨by show 2 ≤ sizeLine; decide, [.int i tk, y], .cons ⟨_, rfl⟩ (.cons ru .nil), ⟨_, hT2, rfl, _, rfl⟩⟩
    have I1 : Inv X pins σ (upd H s.heap.objs.size (.tup [.int (i : Nat), x])) { s with heap := h'', toks := tk + 1 } :=
      I.turnedNew (ch := [e, it]) (fun b ob hb q => (sb.2 b (fun z => hb (by simp [z]))).trans (hk b ob (fun z => hb (by simp [z])) (fun z => hb (by simp [z])) q)) hf (Nat.le_refl _) new
    refine ⟨.ref s.heap.objs.size, _, I1, rfl, ⟨_, x, rfl, I.hok.fresh (Nat.le_refl _), rfl, fun ys hy => by rw [I.tuple_inj hy hq]; exact hx⟩, ⟨⟨y, ?_⟩, hst'.1.at fun o q => (sb.2 it (Ne.symm hne)).trans q, hne⟩, fun b hb => ?_⟩
    · have e1 : ((i + 1 : Nat) : Int) = (i : Int) + 1 := by omega
      rw [e1]; exact he'
    · have hb' : b < s.heap.objs.size := by
        have e' : b = e ∨ b = it := by simpa using hb
        rcases e' with z | z
        · rw [z]; exact hel
        · rw [z]; exact hil
      rw [upd_ne (Nat.ne_of_lt hb')]
      exact (hf b hb).1
  done := by
    intro X hP hw hK hc i pins s σ H E I hf st hg
    subst hP hw hK
    obtain ⟨⟨old, he⟩, hit, hne⟩ := st
    obtain ⟨xs, hq, hx⟩ := hg
    obtain ⟨its, rv, p, hz⟩ := I.tuple hq
    obtain ⟨f0, f1, f2, f3, f4, f5⟩ := hf it (by simp)
    have hl := rv.length
    have hT : s.TypeIs (.ref e) "enumerate" := ⟨_, he, rfl⟩
    unfold pyNext
    refine wpAny_bind (wpAny_attempt (wpAny_callSpecial?_slot (name := Str.ofString "__next__") hT F.slot_enumerate_next
      (wpAny_call_entry F.slot_enumerate_next hT F.entry_enumerate_next ?_ (F.args_enumerate_next_1 _))))
    show wpAny _ _ (field (.ref e) 2 >>= _) _ _ _
    refine wpAny_bind (wpAny_field he rfl (x := .ref it) rfl ?_)
    refine wpAny_bind (wpAny_nextOf_tuple_end (I.ok.hd hc) hit (show s.heap.IsTuple a its.toArray from p) (by simp; omega) fun h' x he' hx' => ?_)
    obtain ⟨o, ho, hc2⟩ := hx'
    refine wpAny_bind (wpAny_isInstance (T := "StopIteration") (b := true) ⟨o, ho, hc2⟩ isSubtype_stop ?_)
    exact wpAny_pure ⟨rfl, I.turned (t' := s.toks) (fun b o hb q => he' b o hb q) f0 f1 f3 f4 f5⟩
  self := fun A i s Q E st h => let ⟨⟨_, he⟩, _⟩ := st; wpAny_pyIter_enum he h
def iEnumA (K : PySem.W.Frag) (ta : TA) : TI := fun σ H R => ta σ H fun vs H1 => ∃ a xs, vs = [.ref a] ∧ ((SqL K H1 a xs ∧ R (Ite K a) H1) ∨ (SqT K H1 a xs ∧ R (IteT K a) H1))
theorem pi_enumA {X : Cx} {e : Expr} {ta : TA} {p pos tpos : Pos} {elts : List Expr} {kk : Nat} (hg : Gl X "enumerate") (hm : X.mg "enumerate" = none) (ha : PA X [e] ta) (hs : starEach [e] X.env = [(false, eval e X.env)] := by rfl) :
    PI X (.Tuple elts kk tpos) (.Call (.Name "enumerate" p) [e] [] pos) (iEnumA X.K ta) := by
  refine ⟨fun pins s σ H R I h => ?_⟩
  refine Call_ (ld_blt I hg hm boot_enumerate (PyProof.Rows.callWith_type1 (thn (ha.run pos pins s σ H _ I h) fun us s1 ⟨vs, H1, I1, r1, q1⟩ => ?_) hs rfl))
  obtain ⟨a, xs, ex, q⟩ := q1
  subst ex
  have fr : ∀ b ∈ [s1.heap.objs.size + 1, s1.heap.objs.size], FpOk X pins H1 b := fun b hb => by
    have e' : b = s1.heap.objs.size + 1 ∨ b = s1.heap.objs.size := by simpa using hb
    have hle : s1.heap.objs.size ≤ b := by
      rcases e' with z | z
      · rw [z]; exact Nat.le_add_right _ _
      · rw [z]; exact Nat.le_refl _
    exact I1.fpOk hle (I1.hok.fresh hle)
  cases r1 with
  | cons r rr =>
    cases rr
    cases r
    rcases q with ⟨hq, q⟩ | ⟨hq, q⟩
    · obtain ⟨its, rv, p', hz⟩ := I1.list hq
      refine call_enumerate_list p'.isList fun h' he hit hsz hk => wpAny_pyIter_enum he ?_
      have I2 : Inv X pins σ H1 { s1 with heap := h' } := I1.kept (t' := s1.toks) hk
      exact ⟨s1.heap.objs.size + 1, [s1.heap.objs.size + 1, s1.heap.objs.size], _, _, H1, rfl, I2, turn_enum a (s1.heap.objs.size + 1) s1.heap.objs.size, ⟨⟨.none, he⟩, hit, Nat.succ_ne_self _⟩, fr, q⟩
    · obtain ⟨its, rv, p', hz⟩ := I1.tuple hq
      have hal : a < s1.heap.objs.size := by
        obtain ⟨_, e, _⟩ := id p'
        exact Heap.lt_size e
      refine m3_enum_begins1 (begins_tuple a its.toArray) (show s1.heap.IsTuple a its.toArray from p') fun h' he hit hsz hk => wpAny_pyIter_enum he ?_
      have I2 : Inv X pins σ H1 { s1 with heap := h' } := I1.kept (t' := s1.toks) hk
      exact ⟨s1.heap.objs.size + 1, [s1.heap.objs.size + 1, s1.heap.objs.size], _, _, H1, rfl, I2, turn_enumT a (s1.heap.objs.size + 1) s1.heap.objs.size (Nat.ne_of_lt (Nat.lt_succ_of_lt hal)) (Nat.ne_of_lt hal), ⟨⟨.none, he⟩, ⟨_, hit, rfl, rfl⟩, Nat.succ_ne_self _⟩, fr, q⟩
theorem walk_enumT {K : PySem.W.Frag} {a : Addr} {xs : List V} : Walk (IteT K a) xs.length (fun H => SqT K H a xs) (YPair (fun i => some (.int (i : Nat))) (fun i => xs[i]?)) := by
  refine ⟨fun i _ hi q => ⟨xs, xs[i], q, by simp [hi]⟩, fun _ q => ⟨xs, q, Nat.le_refl _⟩, fun i H v H' _ q y => ?_⟩
  obtain ⟨T, x, h1, h2, h3, h4⟩ := y
  exact ⟨T, .int (i : Nat), x, h1, h2, h3, rfl, h4 xs q⟩
/-- a walk that makes a new pair each turn -/
theorem Src.pairs {K : Kf} {B F : Hp} {items : List D} {J : It} {f g : Nat → Option V} {G : Hp → Prop} (w : Walk J items.length G (YPair f g)) (r : ∀ i x y, i < items.length → f i = some x → g i = some y → ∃ d e, items[i]? = some (.tup [d, e]) ∧ Rep K F d x ∧ Rep K F e y)
    (hG : ∀ B2 F2 E2 h2 σ2 H2, (∀ a o, B a = some o → B2 a = some o) → Le F F2 → Rel K B2 F2 E2 h2 σ2 H2 → G H2) {back : MH → MH} {B0 : Hp}
    (bk : ∀ F2 E2 h2 σ2 H2, Le F F2 → Rel K B F2 E2 h2 σ2 H2 → Rel K B0 F2 E2 (back h2) σ2 H2) (vl : ∀ F2 h2 H2 r v, Le F F2 → RvOk K B F2 h2 H2 r v → RvOk K B0 F2 (back h2) H2 r v) : Src K B0 F items B back J := by
  refine ⟨⟨G, _, w, hG, ?_⟩, bk, vl⟩
  rintro B2 F2 E2 h2 σ2 H2 i x H3 sb l R hi ⟨T, x, y, rfl, nT, rfl, e1, e2⟩
  obtain ⟨d, e, ed, r1, r2⟩ := r i x y hi e1 e2
  have l2 : Le F2 (upd F2 T (.tup [x, y])) := Le.new (R.noF nT)
  exact ⟨_, _, ed, l2, R.newF nT, .tup (.inl (.inl upd_same)) (.cons (r1.mono (l.trans l2)) (.cons (r2.mono (l.trans l2)) .nil))⟩
def enumD (xs : List D) : List D := (List.range xs.length).zipWith (fun i x => D.tup [.int (i : Nat), x]) xs
theorem enumD_len (xs : List D) : (enumD xs).length = xs.length := by simp [enumD]
theorem enumD_get {K : Kf} {F : Hp} {xs : List D} {vs : List V} (rs : Reps K F xs vs) (i : Nat) (x y : V) (hi : i < (enumD xs).length) (h1 : some (V.int (i : Nat)) = some x) (h2 : vs[i]? = some y) : ∃ d e, (enumD xs)[i]? = some (.tup [d, e]) ∧ Rep K F d x ∧ Rep K F e y := by
  rw [enumD_len] at hi
  obtain ⟨d, ed, rd⟩ := rs.getV h2
  cases h1
  refine ⟨.int (i : Nat), d, ?_, .int _, rd⟩
  have e2 : xs[i] = d := by
    rw [List.getElem?_eq_getElem hi] at ed
    exact Option.some.inj ed
  simp [enumD, hi, e2]
def mEnum (ta : TAm) : TIm := fun E h Kn Kx => ta E h (fun ds h' => on1 ds fun d => match d with
  | .tup xs => Kn (enumD xs) h' id
  | .lst xs => Kn (enumD xs) h' id
  | .ref p => (match h' p with
    | some (.lst xs) => Kn (enumD xs) (del h' p) (fun h2 => put h2 p (.lst xs))
    | _ => False)
  | _ => False) Kx
theorem mi_enum {X : Cx} {W : WX} {e : Expr} {ta : TAm} {p pos tpos : Pos} {elts : List Expr} {kk : Nat} (hg : Gl X "enumerate") (hm : X.mg "enumerate" = none) (ha : MA X W [e] ta) (hs : starEach [e] X.env = [(false, eval e X.env)] := by rfl) :
    MI X W (.Tuple elts kk tpos) (.Call (.Name "enumerate" p) [e] [] pos) (mEnum ta) := fun B => (pi_enumA hg hm (ha B) hs).impM fun σ H Rr ⟨F, E, h, Kn, Kx, R, ht, hx, hn⟩ => by
  refine ⟨F, E, h, _, Kx, R, ht, hx, fun ds h' F' H' vs l R' r k => ?_⟩
  obtain ⟨d, v, rfl, rfl, rp, k⟩ := one_of r k
  cases rp with
  | @tup a vs ds q rs => exact ⟨_, _, rfl, .inr ⟨R'.sqT q, hn (enumD ds) h' id F' H' B _ l R' (Src.pairs (by rw [enumD_len, rs.len]; exact walk_enumT) (enumD_get rs) (fun B2 F2 _ _ _ _ _ l2 R2 => R2.sqT (l2.sqT q)) (fun _ _ _ _ _ _ R => R) (fun _ _ _ _ _ _ q => q)) k⟩⟩
  | @lst a vs ds q rs => exact ⟨_, _, rfl, .inl ⟨.of (R'.frz _ _ q).1, hn (enumD ds) h' id F' H' B _ l R' (Src.pairs (by rw [enumD_len, rs.len]; exact walk_enum) (enumD_get rs) (fun B2 F2 _ _ _ _ _ l2 R2 => SqL.of (R2.frz _ _ (l2.ls _ _ q)).1) (fun _ _ _ _ _ _ R => R) (fun _ _ _ _ _ _ q => q)) k⟩⟩
  | ref a =>
    have k : (match h' a with
      | some (.lst xs) => Kn (enumD xs) (del h' a) (fun h2 => put h2 a (.lst xs))
      | _ => False) := k
    cases e : h' a with
    | none => rw [e] at k; exact k.elim
    | some m =>
      rw [e] at k
      cases m with
      | lst xs =>
        obtain ⟨vs, e2, rs⟩ := R'.cel a _ e
        have b := R'.Bh e
        refine ⟨a, vs, rfl, .inl ⟨.of e2, hn (enumD xs) (del h' a) _ F' H' (upd B a (.lst vs)) _ l (R'.hide e e2) (Src.pairs (by rw [enumD_len, rs.len]; exact walk_enum) (enumD_get rs) (fun B2 F2 _ _ _ _ sb _ R2 => SqL.of (R2.out a _ (sb _ _ upd_same)).1) ?_ ?_) k⟩⟩
        · intro F2 E2 h2 σ2 H2 l2 R2
          exact R2.show b fun z => ⟨vs, z, rs.mono l2⟩
        · intro F2 h2 H2 r v l2 q
          exact q.show b
      | dct xs => exact k.elim
      | ins C fs => exact k.elim
  | _ => exact k.elim
/-! ### isinstance by built-in classes -/
inductive Ty5 where
  | int | bool | str | tuple | list
def Ty5.nm : Ty5 → String
  | .int => "int"
  | .bool => "bool"
  | .str => "str"
  | .tuple => "tuple"
  | .list => "list"
inductive Kd where
  | non | bl | int | str | tup | lst | dct
def Kd.nm : Kd → String
  | .non => "NoneType"
  | .bl => "bool"
  | .int => "int"
  | .str => "str"
  | .tup => "tuple"
  | .lst => "list"
  | .dct => "dict"
def isK : Ty5 → Kd → Bool
  | .int, .int => true
  | .int, .bl => true
  | .bool, .bl => true
  | .str, .str => true
  | .tuple, .tup => true
  | .list, .lst => true
  | _, _ => false
theorem kit5 (T : Ty5) (k : Kd) : kitB k.nm T.nm = some (isK T k) := by
  cases T <;> cases k <;> decide +kernel
def kindD (h : MH) : D → Option Kd
  | .non => some .non
  | .bl _ => some .bl
  | .int _ => some .int
  | .str _ => some .str
  | .tup _ => some .tup
  | .lst _ => some .lst
  | .scr _ => some .lst
  | .dct _ => some .dct
  | .ref p => match h p with
    | some (.lst _) => some .lst
    | some (.dct _) => some .dct
    | _ => none
theorem kind_of {K : Kf} {B F : Hp} {E : En} {h : MH} {σ : L2.St} {H : Hp} {d : D} {v : V} {k : Kd} (R : Rel K B F E h σ H) (r : Rep K F d v) (q : kindD h d = some k) : TyX K H v (.type k.nm) := by
  have tT : ∀ {a : Addr} {vs : List V}, SqT K H a vs → TyX K H (.ref a) (.type "tuple") := fun e => by
    rcases e with (e | ⟨o, e⟩) | ⟨o, its, n, e, c, _⟩
    · exact .base (.tup e)
    · exact .fTuple e
    · exact .kTuple e c
  have tL : ∀ {a : Addr} {vs : List V}, SqL K H a vs → TyX K H (.ref a) (.type "list") := fun e => by
    rcases e with (e | ⟨o, e⟩) | ⟨o, its, n, e, c, _⟩
    · exact .base (.lst e)
    · exact .base (.frz e)
    · exact .kList e c
  have tD : ∀ {a : Addr} {vs : List (Key × V)}, Rd H a (.dK vs) → TyX K H (.ref a) (.type "dict") := fun e => by
    rcases e with e | ⟨o, e⟩
    · exact .base (.dK e)
    · exact .fDict e
  cases r with
  | non => cases q; exact .base .non
  | bl b => cases q; exact .base (.bl b)
  | int b => cases q; exact .base (.int b)
  | str b => cases q; exact .base (.str b)
  | tup e rs => cases q; exact tT (R.sqT e)
  | lst e rs => cases q; exact tL (.of (R.frz _ _ e).1)
  | scr e => cases q; exact tL (R.sqL e)
  | dct e rs => cases q; exact tD (R.rd e)
  | ref a =>
    have q : (match h a with
      | some (.lst _) => some Kd.lst
      | some (.dct _) => some Kd.dct
      | _ => none) = some k := q
    cases e : h a with
    | none => rw [e] at q; cases q
    | some m =>
      rw [e] at q
      cases m with
      | lst xs =>
        cases q
        obtain ⟨vs, e2, rs⟩ := R.cel a _ e
        exact tL (.of e2)
      | dct xs =>
        cases q
        obtain ⟨vs, e2, rs⟩ := R.cel a _ e
        exact tD (.inl e2)
      | ins C fs => cases q
def mIsi (Ts : List Ty5) (t : TVm) : TVm := fun E h Kn Kx => t E h (fun d h' => match kindD h' d with
  | some k => Kn (.bl (Ts.any fun T => isK T k)) h'
  | none => False) Kx
section
variable {X : Cx} {W : WX} {e : Expr} {t : TVm}
theorem isi_ok {K : Kf} {B : Hp} {Ts : List Ty5} {σ : L2.St} {H : Hp} {Q : VK} {r : V → Hp → VK → Prop} (hr : ∀ v H k Q, TyX K H v (.type k.nm) → Q (.bl (Ts.any fun T => isK T k)) H → r v H Q) (q : LV K B W (mIsi Ts t) σ H Q) : LV K B W t σ H fun v H1 => r v H1 Q := by
  obtain ⟨F, E, h, Kn, Kx, R, ht, hx, hn⟩ := q
  refine ⟨F, E, h, _, Kx, R, ht, hx, fun d h' F' H' v l R' rp k => ?_⟩
  cases ek : kindD h' d with
  | none => rw [ek] at k; exact k.elim
  | some kd =>
    rw [ek] at k
    exact hr v H' kd Q (kind_of R' rp ek) (hn (.bl _) h' F' H' _ l R' (.bl _) k)
theorem mv_isi (T : Ty5) {x2 : Str} {p p2 pos : Pos} (hg : Gl X "isinstance") (hm : X.mg "isinstance" = none) (hg2 : Gl X x2) (hm2 : X.mg x2 = none) (hv2 : bootBuiltins x2 = some (.type T.nm)) (h : MV X W e t) (hn2 : x2 ≠ "__name__" := by decide) (hd2 : (x2 == ("__debug__" : Str)) = false := by decide)
    (na : starEach [e, .Name x2 p2] X.env = (false, eval e X.env) :: starEach [.Name x2 p2] X.env := by rfl) (nb : starEach [.Name x2 p2] X.env = (false, eval (.Name x2 p2) X.env) :: starEach [] X.env := by rfl) (hpl : (backTo pos (starEach [.Name x2 p2] X.env)).any (·.1) = false := by rfl) :
    MV X W (.Call (.Name "isinstance" p) [e, .Name x2 p2] [] pos) (mIsi [T] t) := fun B =>
  (pe_callB call_isi hg hm (by decide +kernel) (pa_cons (h B) (pa_cons (pe_bltn (v := .ty T.nm) hg2 hm2 hv2 rfl hn2 hd2) pa_nil nb) na) (by decide) (by decide) na hpl).impM fun σ H Q q =>
    isi_ok (r := fun v H1 Q => rIsi X.K [v, .ty T.nm] H1 Q) (fun v H k Q ty z => ⟨v, .ty T.nm, .type k.nm, .type T.nm, isK T k, rfl, .ty _, ty, kit_ty (kit5 T k), by
      have e : ([T].any fun T => isK T k) = isK T k := by simp
      rw [e] at z
      exact z⟩) q
theorem mv_isi2 (T U : Ty5) {x2 x3 : Str} {k : Nat} {p p2 p3 p4 pos : Pos} (hg : Gl X "isinstance") (hm : X.mg "isinstance" = none) (hg2 : Gl X x2) (hm2 : X.mg x2 = none) (hv2 : bootBuiltins x2 = some (.type T.nm)) (hg3 : Gl X x3) (hm3 : X.mg x3 = none) (hv3 : bootBuiltins x3 = some (.type U.nm)) (h : MV X W e t)
    (hn2 : x2 ≠ "__name__" := by decide) (hd2 : (x2 == ("__debug__" : Str)) = false := by decide) (hn3 : x3 ≠ "__name__" := by decide) (hd3 : (x3 == ("__debug__" : Str)) = false := by decide)
    (nc : starEach [.Name x2 p2, .Name x3 p3] X.env = (false, eval (.Name x2 p2) X.env) :: starEach [.Name x3 p3] X.env := by rfl) (nd : starEach [.Name x3 p3] X.env = (false, eval (.Name x3 p3) X.env) :: starEach [] X.env := by rfl)
    (na : starEach [e, .Tuple [.Name x2 p2, .Name x3 p3] k p4] X.env = (false, eval e X.env) :: starEach [.Tuple [.Name x2 p2, .Name x3 p3] k p4] X.env := by rfl) (nb : starEach [.Tuple [.Name x2 p2, .Name x3 p3] k p4] X.env = (false, eval (.Tuple [.Name x2 p2, .Name x3 p3] k p4) X.env) :: starEach [] X.env := by rfl) (hpl : (backTo pos (starEach [.Tuple [.Name x2 p2, .Name x3 p3] k p4] X.env)).any (·.1) = false := by rfl) :
    MV X W (.Call (.Name "isinstance" p) [e, .Tuple [.Name x2 p2, .Name x3 p3] k p4] [] pos) (mIsi [T, U] t) := fun B =>
  (pe_callB call_isiT hg hm (by decide +kernel) (pa_cons (h B) (pa_cons (pe_tup (pa_cons (pe_bltn (v := .ty T.nm) hg2 hm2 hv2 rfl hn2 hd2) (pa_cons (pe_bltn (v := .ty U.nm) hg3 hm3 hv3 rfl hn3 hd3) pa_nil nd) nc)) pa_nil nb) na) (by decide) (by decide) na hpl).impM fun σ H Q ⟨F, E, h, Kn, Kx, R, ht, hx, hn⟩ => by
    refine ⟨F, E, h, _, Kx, R, ht, hx, fun d h' F' H' v l R' rp kk => ?_⟩
    cases ek : kindD h' d with
    | none => rw [ek] at kk; exact kk.elim
    | some kd =>
      rw [ek] at kk
      refine ⟨by show 2 ≤ sizeLine; decide, fun q hq => ?_⟩
      have R2 := R'.newO (o := .tup [.ty T.nm, .ty U.nm]) hq
      refine ⟨v, q, [.ty T.nm, .ty U.nm], .type kd.nm, [.type T.nm, .type U.nm], _, rfl, upd_same, .cons (.ty _) (.cons (.ty _) .nil), kind_of R2 rp ek, ?_, hn (.bl _) h' F' _ _ l R2 (.bl _) kk⟩
      have k1 := kit_ty (K := X.K) (kit5 T kd)
      have k2 := kit_ty (K := X.K) (kit5 U kd)
      refine kitAny_cons k1 (fun e => kitAny_cons k2 (fun e2 => ?_) (fun e2 => ?_)) (fun e => ?_)
      · simp [e, e2, kitAny_nil]
      · simp [e2]
      · simp [e]
end
end M3
set_option Elab.async false
set_option linter.all false
set_option maxRecDepth 100000
set_option maxHeartbeats 4000000
namespace M3
open PySem PySem.Spec PyProof.Rows L2
section
variable {X : Cx} {W : WX}
theorem mb_forget {st : List Stmt} {t : TSm} (ws : List Nat) (a : MB X W st t) : MB X W st (sForget ws t) := fun B => (a B).impM fun D σ H ⟨F, E, h, N, R, ht, c⟩ =>
  ⟨F, E, h, { N with nx := fun E' h' => N.nx (wipeE E' ws) h' }, R, ht, fun E' h' F' σ' H' l R' k => c.1 _ h' F' σ' H' l (R'.slots (R'.slot.wiped' ws)) k, c.2⟩
theorem mv_gint {x : Str} {i : Int} {pos : Pos} (hg : Gl X x) (hm : ∃ t, X.mg x = some (.int i t)) (hd : (x == ("__debug__" : Str)) = false := by decide) : MV X W (.Name x pos) (mC (.int i)) := by
  obtain ⟨t, hm⟩ := hm
  exact mv_const (pe_glob (v := .int i) hg hm ⟨t, rfl⟩ hd) fun _ _ => .int _
theorem mv_gstr {x : Str} {i : Str} {pos : Pos} (hg : Gl X x) (hm : ∃ t, X.mg x = some (.str i t)) (hd : (x == ("__debug__" : Str)) = false := by decide) : MV X W (.Name x pos) (mC (.str i)) := by
  obtain ⟨t, hm⟩ := hm
  exact mv_const (pe_glob (v := .str i) hg hm ⟨t, rfl⟩ hd) fun _ _ => .str _
end
/-! ### the classes' addresses -/
structure Ad where
  Filter : Addr
  Counter : Addr
  Signed : Addr
  Heavy : Addr
  Fewest : Addr
  Desk : Addr
  CellError : Addr
  BadPlan : Addr
  BadKey : Addr
  BadCounts : Addr
  BadNumber : Addr
  BadMeet : Addr
  BadDeed : Addr
  Halted : Addr
  BadText : Addr
theorem bodyN_rt {Kn : RV → MH → Prop} {Kx : XKm} {r : RV} {h h2 : MH} (k : Kn r h2) (s : ∀ a m, h2 a = some m → h a = some m) : (bodyN Kn Kx).rt r h := ⟨h2, s, k⟩
theorem bodyN_rt0 {Kn : RV → MH → Prop} {Kx : XKm} {r : RV} {h : MH} (k : Kn r h) : (bodyN Kn Kx).rt r h := ⟨h, fun _ _ e => e, k⟩
theorem bodyN_nx0 {Kn : RV → MH → Prop} {Kx : XKm} {E : En} {h : MH} (k : Kn (.d .non) h) : (bodyN Kn Kx).nx E h := ⟨h, fun _ _ e => e, k⟩
/-! ### heaps -/
theorem put_same {h : MH} {p : Addr} {m : MO} : put h p m p = some m := if_pos rfl
theorem put_ne {h : MH} {p q : Addr} {m : MO} (n : q ≠ p) : put h p m q = h q := if_neg n
theorem del_ne {h : MH} {p q : Addr} (n : q ≠ p) : del h p q = h q := if_neg n
theorem put_put {h : MH} {p : Addr} {m m' : MO} : put (put h p m) p m' = put h p m' := by
  funext b
  show (if b = p then some m' else if b = p then some m else h b) = if b = p then some m' else h b
  split <;> rfl
theorem put_comm {h : MH} {p q : Addr} {m m' : MO} (n : p ≠ q) : put (put h p m) q m' = put (put h q m') p m := by
  funext b
  unfold put
  by_cases h1 : b = p
  · subst h1
    simp [n]
  · simp [h1]
theorem put_del {h : MH} {p : Addr} {m : MO} : put (del h p) p m = put h p m := by
  funext b
  show (if b = p then some m else if b = p then none else h b) = if b = p then some m else h b
  split <;> rfl
theorem del_put {h : MH} {p : Addr} {m : MO} : del (put h p m) p = del h p := by
  funext b
  show (if b = p then none else if b = p then some m else h b) = if b = p then none else h b
  split <;> rfl
theorem put_self {h : MH} {p : Addr} {m : MO} (e : h p = some m) : put h p m = h := by
  funext b
  unfold put
  by_cases n : b = p
  · subst n
    simp [e]
  · simp [n]
theorem del_none {h : MH} {p : Addr} (e : h p = none) : del h p = h := by
  funext b
  unfold del
  by_cases n : b = p
  · subst n
    simp [e]
  · simp [n]
theorem ne_new {h : MH} {p q : Addr} {m : MO} (e : h q = some m) (n : h p = none) : q ≠ p := by
  rintro rfl
  rw [e] at n
  cases n
end M3
set_option Elab.async false
set_option linter.all false
set_option maxRecDepth 100000
set_option maxHeartbeats 4000000
namespace M3
open PySem PySem.Spec PyProof.Rows L2
/-! ### equations by kind -/
section
variable {h : MH} {Kn : RV → MH → Prop} {k : D → Prop} {i j : Int} {a b : Addr} {xs ys : List D} {x y z : Str} {kb : Bool → Prop} {ki : Int → Prop} {kl : List D → Prop} {kd : List (Key × D) → Prop} {kvs : List (Key × D)} {ns : List Int} {d e : D} {bb : Bool}
theorem onBl_b : onBl (.bl bb) kb = kb bb := rfl
theorem onInt_i : onInt (.int i) ki = ki i := rfl
theorem onTup_t : onTup (.tup xs) kl = kl xs := rfl
theorem on1_1 : on1 [d] k = k d := rfl
theorem on2_2 {k : D → D → Prop} : on2 [d, e] k = k d e := rfl
theorem onQ_l : onQ h (.lst xs) kl = kl xs := rfl
theorem onQ_t : onQ h (.tup xs) kl = kl xs := rfl
theorem onQ_s : onQ h (.scr ns) kl = kl (ns.map D.int) := rfl
theorem onQ_r (q : h a = some (.lst xs)) : onQ h (.ref a) kl = kl xs := by
  show (match h a with
    | some (.lst xs) => kl xs
    | _ => False) = kl xs
  rw [q]
theorem onL_l : onL h (.lst xs) kl = kl xs := rfl
theorem onL_r (q : h a = some (.lst xs)) : onL h (.ref a) kl = kl xs := by
  show (match h a with
    | some (.lst xs) => kl xs
    | _ => False) = kl xs
  rw [q]
theorem onLs_l : onLs h (.lst xs) kl = kl xs := rfl
theorem onLs_s : onLs h (.scr ns) kl = kl (ns.map D.int) := rfl
theorem onLs_r (q : h a = some (.lst xs)) : onLs h (.ref a) kl = kl xs := onQ_r q
theorem onD_d : onD h (.dct kvs) kd = kd kvs := rfl
theorem onD_r (q : h a = some (.dct kvs)) : onD h (.ref a) kd = kd kvs := by
  show (match h a with
    | some (.dct xs) => kd xs
    | _ => False) = kd kvs
  rw [q]
theorem onIns_r {C : Addr} {fs : List (Str × D)} {k : Addr → List (Str × D) → Prop} (q : h a = some (.ins C fs)) : onIns h (.ref a) C k = k a fs := by
  show (match h a with
    | some (.ins C' fs) => C' = C ∧ k a fs
    | _ => False) = k a fs
  rw [q]
  simp
theorem gAdd_i : gAdd (.int i) (.int j) h Kn = Kn (.d (.int (i + j))) h := rfl
theorem gAdd_s : gAdd (.str x) (.str y) h Kn = (x.length + y.length ≤ sizeLine ∧ Kn (.d (.str (x ++ y))) h) := rfl
theorem gAdd_t : gAdd (.tup xs) (.tup ys) h Kn = (xs.length + ys.length ≤ sizeLine ∧ Kn (.d (.tup (xs ++ ys))) h) := rfl
theorem gAdd_l : gAdd (.lst xs) (.lst ys) h Kn = (xs.length + ys.length ≤ sizeLine ∧ Kn (.ol (xs ++ ys)) h) := rfl
theorem gMul_i : gMul (.int i) (.int j) h Kn = (MulOk i j ∧ Kn (.d (.int (i * j))) h) := rfl
theorem gMul_l : gMul (.lst xs) (.int i) h Kn = ((-(2 ^ 63) ≤ i ∧ i < 2 ^ 63 ∧ xs.length * i.toNat ≤ sizeLine) ∧ Kn (.ol (List.replicate i.toNat xs).flatten) h) := rfl
theorem gMul_t : gMul (.tup xs) (.int i) h Kn = ((xs ≠ [] ∧ 1 ≤ i ∧ i ≤ 1000 ∧ xs.length ≤ 1000) ∧ Kn (.d (.tup (List.replicate i.toNat xs).flatten)) h) := rfl
def onOpt {α : Type} (o : Option α) (k : α → Prop) : Prop := match o with
  | some x => k x
  | none => False
theorem onOpt_s {α : Type} {x : α} {k : α → Prop} : onOpt (some x) k = k x := rfl
theorem gIxQ_o {k : D → Prop} {x : D} : gIxQ h x i k = onQ h x fun xs => onOpt (atD xs i) k := by
  unfold gIxQ onOpt
  congr 1
  funext xs
  cases atD xs i <;> rfl
theorem gIx_l : gIx (.lst xs) (.int i) h Kn = onOpt (atD xs i) fun d => Kn (.d d) h := (gIxQ_o (h := h) (x := .lst xs) (i := i) (k := fun d => Kn (.d d) h))
theorem gIx_t : gIx (.tup xs) (.int i) h Kn = onOpt (atD xs i) fun d => Kn (.d d) h := (gIxQ_o (h := h) (x := .tup xs) (i := i) (k := fun d => Kn (.d d) h))
theorem gIx_s : gIx (.scr ns) (.int i) h Kn = onOpt (atD (ns.map D.int) i) fun d => Kn (.d d) h := (gIxQ_o (h := h) (x := .scr ns) (i := i) (k := fun d => Kn (.d d) h))
theorem gIx_r (q : h a = some (.lst xs)) : gIx (.ref a) (.int i) h Kn = onOpt (atD xs i) fun d => Kn (.d d) h := by
  show (match h a with
    | some (.dct _) => gIxD h (.ref a) (.int i) fun d => Kn (.d d) h
    | _ => onInt (.int i) fun i => gIxQ h (.ref a) i fun d => Kn (.d d) h) = _
  rw [q]
  show (gIxQ h (.ref a) i fun d => Kn (.d d) h) = _
  rw [gIxQ_o, onQ_r q]
theorem gLen_l : gLen [.lst xs] h Kn = Kn (.d (.int xs.length)) h := rfl
theorem gLen_t : gLen [.tup xs] h Kn = Kn (.d (.int xs.length)) h := rfl
theorem gLen_s : gLen [.scr ns] h Kn = Kn (.d (.int ns.length)) h := by
  show Kn (.d (.int (ns.map D.int).length)) h = _
  rw [List.length_map]
theorem gLen_d : gLen [.dct kvs] h Kn = Kn (.d (.int kvs.length)) h := rfl
theorem gLen_r (q : h a = some (.lst xs)) : gLen [.ref a] h Kn = Kn (.d (.int xs.length)) h := by
  show (match h a with
    | some (.dct kvs) => Kn (.d (.int kvs.length)) h
    | _ => onQ h (.ref a) fun xs => Kn (.d (.int xs.length)) h) = _
  rw [q]
  exact onQ_r q
theorem gLen_rd (q : h a = some (.dct kvs)) : gLen [.ref a] h Kn = Kn (.d (.int kvs.length)) h := by
  show (match h a with
    | some (.dct kvs) => Kn (.d (.int kvs.length)) h
    | _ => onQ h (.ref a) fun xs => Kn (.d (.int xs.length)) h) = _
  rw [q]
theorem onSet_l {v : D} {k : MH → Prop} (q : h a = some (.lst xs)) : onSet h (.ref a) (.int i) v k = onOpt (ixN xs.length i) fun n => k (put h a (.lst (xs.set n v))) := by
  show (match h a with
    | some (.lst xs) => onInt (.int i) fun j => (match ixN xs.length j with
      | some n => k (put h a (.lst (xs.set n v)))
      | none => False)
    | some (.dct kvs) => (match keyD (.int i) with
      | some key => kvs.length < sizeLine ∧ k (put h a (.dct (putKD kvs key v)))
      | none => False)
    | _ => False) = _
  rw [q]
  show (match ixN xs.length i with
      | some n => k (put h a (.lst (xs.set n v)))
      | none => False) = _
  cases ixN xs.length i <;> rfl
theorem onSet_d {v : D} {k : MH → Prop} {key : Key} {y : D} (q : h a = some (.dct kvs)) (e : keyD y = some key) : onSet h (.ref a) y v k = (kvs.length < sizeLine ∧ k (put h a (.dct (putKD kvs key v)))) := by
  show (match h a with
    | some (.lst xs) => onInt y fun j => (match ixN xs.length j with
      | some n => k (put h a (.lst (xs.set n v)))
      | none => False)
    | some (.dct kvs) => (match keyD y with
      | some key => kvs.length < sizeLine ∧ k (put h a (.dct (putKD kvs key v)))
      | none => False)
    | _ => False) = _
  rw [q]
  simp only [e]
def iterD (h : MH) (d : D) (Kn : List D → MH → (MH → MH) → Prop) : Prop := match d with
  | .tup xs => Kn xs h id
  | .lst xs => Kn xs h id
  | .scr ns => Kn (ns.map D.int) h id
  | .ref p => (match h p with
    | some (.lst xs) => Kn xs (del h p) (fun h2 => put h2 p (.lst xs))
    | _ => False)
  | _ => False
theorem mIter_ap {t : TVm} {E : En} {K : List D → MH → (MH → MH) → Prop} {Kx : XKm} : mIter t E h K Kx = t E h (fun d h' => iterD h' d K) Kx := rfl
theorem iterD_t {K : List D → MH → (MH → MH) → Prop} : iterD h (.tup xs) K = K xs h id := rfl
theorem iterD_l {K : List D → MH → (MH → MH) → Prop} : iterD h (.lst xs) K = K xs h id := rfl
theorem iterD_s {K : List D → MH → (MH → MH) → Prop} : iterD h (.scr ns) K = K (ns.map D.int) h id := rfl
theorem iterD_r {K : List D → MH → (MH → MH) → Prop} (q : h a = some (.lst xs)) : iterD h (.ref a) K = K xs (del h a) (fun h2 => put h2 a (.lst xs)) := by
  show (match h a with
    | some (.lst xs) => K xs (del h a) (fun h2 => put h2 a (.lst xs))
    | _ => False) = _
  rw [q]
theorem kind_i : kindD h (.int i) = some .int := rfl
theorem kind_b : kindD h (.bl bb) = some .bl := rfl
theorem kind_s : kindD h (.str x) = some .str := rfl
theorem kind_n : kindD h .non = some .non := rfl
theorem kind_t : kindD h (.tup xs) = some .tup := rfl
theorem kind_l : kindD h (.lst xs) = some .lst := rfl
theorem kind_r (q : h a = some (.lst xs)) : kindD h (.ref a) = some .lst := by
  show (match h a with
    | some (.lst _) => some Kd.lst
    | some (.dct _) => some Kd.dct
    | _ => none) = _
  rw [q]
theorem mIsi_ap {Ts : List Ty5} {t : TVm} {E : En} {K : D → MH → Prop} {Kx : XKm} : mIsi Ts t E h K Kx = t E h (fun d h' => onOpt (kindD h' d) fun k => K (.bl (Ts.any fun T => isK T k)) h') Kx := by
  unfold mIsi
  congr 1
  funext d h'
  cases kindD h' d <;> rfl
theorem atD_0 : atD (d :: xs) 0 = some d := by simp [atD, ixN]
theorem ixN_nat {n m : Nat} (h : m < n) : ixN n (m : Int) = some m := by
  unfold ixN
  have h1 : (0 : Int) ≤ m := by omega
  have h2 : (m : Int) < n := by omega
  simp [h1, h2]
theorem atD_nat {m : Nat} (q : xs[m]? = some d) : atD xs (m : Int) = some d := by
  have hm : m < xs.length := (List.getElem?_eq_some_iff.mp q).1
  unfold atD
  rw [ixN_nat hm]
  exact q
theorem ixN_int {n : Nat} {i : Int} (h0 : 0 ≤ i) (h : i < n) : ixN n i = some i.toNat := by
  unfold ixN
  simp [h0, h]
theorem atD_int {i : Int} (h0 : 0 ≤ i) (q : xs[i.toNat]? = some d) : atD xs i = some d := by
  have hm : i.toNat < xs.length := (List.getElem?_eq_some_iff.mp q).1
  unfold atD
  rw [ixN_int h0 (by omega)]
  exact q
end
/-! ### equations behind a store; small places -/
section
variable {h : MH} {Kn : RV → MH → Prop} {i : Int} {a : Addr} {xs ys : List D} {kl : List D → Prop} {kvs : List (Key × D)} {m : MO}
theorem gIx_p : gIx (.ref a) (.int i) (put h a (.lst xs)) Kn = onOpt (atD xs i) fun d => Kn (.d d) (put h a (.lst xs)) := gIx_r put_same
theorem onSet_p {v : D} {k : MH → Prop} : onSet (put h a (.lst xs)) (.ref a) (.int i) v k = onOpt (ixN xs.length i) fun n => k (put h a (.lst (xs.set n v))) := by
  rw [onSet_l put_same]
  simp only [put_put]
theorem onQ_p : onQ (put h a (.lst xs)) (.ref a) kl = kl xs := onQ_r put_same
theorem onL_p : onL (put h a (.lst xs)) (.ref a) kl = kl xs := onL_r put_same
theorem gLen_p : gLen [.ref a] (put h a (.lst xs)) Kn = Kn (.d (.int xs.length)) (put h a (.lst xs)) := gLen_r put_same
theorem onIns_p {C : Addr} {fs : List (Str × D)} {k : Addr → List (Str × D) → Prop} : onIns (put h a (.ins C fs)) (.ref a) C k = k a fs := onIns_r put_same
theorem frz_d {x : D} : RV.frz (.d x) = x := rfl
theorem frz_l : RV.frz (.ol xs) = .lst xs := rfl
theorem frz_k : RV.frz (.od kvs) = .dct kvs := rfl
variable {d0 d1 d2 d3 d4 : D}
theorem atD_1 : atD (d0 :: d1 :: xs) 1 = some d1 := atD_nat (m := 1) rfl
theorem atD_2 : atD (d0 :: d1 :: d2 :: xs) 2 = some d2 := atD_nat (m := 2) rfl
theorem atD_3 : atD (d0 :: d1 :: d2 :: d3 :: xs) 3 = some d3 := atD_nat (m := 3) rfl
theorem atD_4 : atD (d0 :: d1 :: d2 :: d3 :: d4 :: xs) 4 = some d4 := atD_nat (m := 4) rfl
theorem ixN_0 {n : Nat} : ixN (n + 1) 0 = some 0 := ixN_nat (m := 0) (by omega)
theorem ixN_1 {n : Nat} : ixN (n + 1 + 1) 1 = some 1 := ixN_nat (m := 1) (by omega)
theorem ixN_2 {n : Nat} : ixN (n + 1 + 1 + 1) 2 = some 2 := ixN_nat (m := 2) (by omega)
theorem ixN_3 {n : Nat} : ixN (n + 1 + 1 + 1 + 1) 3 = some 3 := ixN_nat (m := 3) (by omega)
theorem ixN_4 {n : Nat} : ixN (n + 1 + 1 + 1 + 1 + 1) 4 = some 4 := ixN_nat (m := 4) (by omega)
theorem log2_lt {m : Int} (h : m < 10 ^ 9) (h0 : 0 < m) : m.natAbs.log2 < 9000 := by
  have h1 : m.natAbs < 2 ^ 9000 := Nat.lt_of_lt_of_le (show m.natAbs < 10 ^ 9 by omega) (by decide +kernel)
  exact PySem.Flt.log2_lt_of (by decide) h1
end
/-! ### loops -/
theorem forL_nil {g : TGm} {tb : TSm} {N : Nd} {E : En} {h : MH} : forL g tb [] N E h = N.nx E h := rfl
theorem forL_inv {g : TGm} {tb : TSm} {N : Nd} (I : Nat → En → MH → Prop) : ∀ (items : List D) (c : Nat) (E : En) (h : MH), I c E h →
    (∀ i d E h (k : En → MH → Prop), items[i]? = some d → I (c + i) E h → (∀ E h, I (c + i + 1) E h → k E h) → g d E h fun E2 h2 => tb { nx := k, rt := N.rt, bk := N.nx, ct := k, xs := N.xs } E2 h2) →
    (∀ E h, I (c + items.length) E h → N.nx E h) → forL g tb items N E h
  | [], c, E, h, h0, _, hd => hd E h h0
  | d :: ds, c, E, h, h0, hs, hd => by
    show g d E h fun E2 h2 => tb { nx := fun E3 h3 => forL g tb ds N E3 h3, rt := N.rt, bk := N.nx, ct := fun E3 h3 => forL g tb ds N E3 h3, xs := N.xs } E2 h2
    refine hs 0 d E h _ rfl h0 fun E2 h2 h1 => ?_
    refine forL_inv I ds (c + 1) E2 h2 h1 (fun i d E h k e hi hk => ?_) fun E h he => ?_
    · have e1 : c + 1 + i = c + (i + 1) := by omega
      rw [e1] at hi hk
      exact hs (i + 1) d E h k (by simpa using e) hi hk
    · refine hd E h ?_
      have e1 : c + (d :: ds).length = c + 1 + ds.length := by simp; omega
      rw [e1]
      exact he
/-- a loop from turn 0 -/
theorem for_inv {g : TGm} {tb : TSm} {N : Nd} {items : List D} {E : En} {h : MH} (I : Nat → En → MH → Prop) (h0 : I 0 E h)
    (hs : ∀ i d E h (k : En → MH → Prop), items[i]? = some d → I i E h → (∀ E h, I (i + 1) E h → k E h) → g d E h fun E2 h2 => tb { nx := k, rt := N.rt, bk := N.nx, ct := k, xs := N.xs } E2 h2)
    (hd : ∀ E h, I items.length E h → N.nx E h) : forL g tb items N E h :=
  forL_inv I items 0 E h h0 (fun i d E h k e hi hk => hs i d E h k e (by rw [Nat.zero_add] at hi; exact hi) (by rw [Nat.zero_add] at hk; exact hk)) fun E h he => hd E h (by rw [Nat.zero_add] at he; exact he)
/-- a state that is a fold -/
theorem for_fold {α : Type} {g : TGm} {tb : TSm} {N : Nd} (S : α → En) (Hh : α → MH) (f : α → D → α) : ∀ (items : List D) (s : α),
    (∀ d ∈ items, ∀ s (k : En → MH → Prop), k (S (f s d)) (Hh (f s d)) → g d (S s) (Hh s) fun E2 h2 => tb { nx := k, rt := N.rt, bk := N.nx, ct := k, xs := N.xs } E2 h2) →
    N.nx (S (items.foldl f s)) (Hh (items.foldl f s)) → forL g tb items N (S s) (Hh s)
  | [], s, _, hd => hd
  | d :: ds, s, hs, hd => hs d List.mem_cons_self s _ (for_fold S Hh f ds (f s d) (fun d hd => hs d (List.mem_cons_of_mem _ hd)) hd)
theorem lcL_inv {g : TGm} {tt : TTm} {te : TVm} {E : En} {K : List D → MH → Prop} (I : Nat → List D → MH → Prop) : ∀ (items : List D) (c : Nat) (acc : List D) (h : MH), I c acc h →
    (∀ i d acc h (k : List D → MH → Prop), items[i]? = some d → I (c + i) acc h → (∀ acc h, I (c + i + 1) acc h → k acc h) → g d E h fun E2 h2 => tt E2 h2 (fun b h3 => if b = true then te E2 h3 (fun y h4 => acc.length < sizeLine ∧ k (acc ++ [y]) h4) xNo else k acc h3) xNo) →
    (∀ acc h, I (c + items.length) acc h → K acc h) → lcL g tt te E items acc h K
  | [], c, acc, h, h0, _, hd => hd acc h h0
  | d :: ds, c, acc, h, h0, hs, hd => by
    refine hs 0 d acc h (fun acc h => lcL g tt te E ds acc h K) rfl h0 fun acc2 h2 h1 => ?_
    refine lcL_inv I ds (c + 1) acc2 h2 h1 (fun i d acc h k e hi hk => ?_) fun acc h he => ?_
    · have e1 : c + 1 + i = c + (i + 1) := by omega
      rw [e1] at hi hk
      exact hs (i + 1) d acc h k (by simpa using e) hi hk
    · refine hd acc h ?_
      have e1 : c + (d :: ds).length = c + 1 + ds.length := by simp; omega
      rw [e1]
      exact he
theorem lc_inv {g : TGm} {tt : TTm} {te : TVm} {E : En} {K : List D → MH → Prop} {items : List D} {h : MH} (I : Nat → List D → MH → Prop) (h0 : I 0 [] h)
    (hs : ∀ i d acc h (k : List D → MH → Prop), items[i]? = some d → I i acc h → (∀ acc h, I (i + 1) acc h → k acc h) → g d E h fun E2 h2 => tt E2 h2 (fun b h3 => if b = true then te E2 h3 (fun y h4 => acc.length < sizeLine ∧ k (acc ++ [y]) h4) xNo else k acc h3) xNo)
    (hd : ∀ acc h, I items.length acc h → K acc h) : lcL g tt te E items [] h K :=
  lcL_inv I items 0 [] h h0 (fun i d acc h k e hi hk => hs i d acc h k e (by rw [Nat.zero_add] at hi; exact hi) (by rw [Nat.zero_add] at hk; exact hk)) fun acc h he => hd acc h (by rw [Nat.zero_add] at he; exact he)
/-- items that are kept or left out, each by itself, the heap as it is -/
theorem lc_fm {g : TGm} {tt : TTm} {te : TVm} {E : En} {h : MH} {K : List D → MH → Prop} (f : D → Option D) {items : List D} (hl : items.length ≤ sizeLine)
    (hs : ∀ d ∈ items, ∀ (acc : List D) (k : List D → MH → Prop), acc.length < sizeLine → (match f d with
      | some y => k (acc ++ [y]) h
      | none => k acc h) → g d E h fun E2 h2 => tt E2 h2 (fun b h3 => if b = true then te E2 h3 (fun y h4 => acc.length < sizeLine ∧ k (acc ++ [y]) h4) xNo else k acc h3) xNo)
    (hd : K (items.filterMap f) h) : lcL g tt te E items [] h K := by
  have go : ∀ (items acc : List D), acc.length + items.length ≤ sizeLine → (∀ d ∈ items, ∀ (acc : List D) (k : List D → MH → Prop), acc.length < sizeLine → (match f d with
      | some y => k (acc ++ [y]) h
      | none => k acc h) → g d E h fun E2 h2 => tt E2 h2 (fun b h3 => if b = true then te E2 h3 (fun y h4 => acc.length < sizeLine ∧ k (acc ++ [y]) h4) xNo else k acc h3) xNo) → K (acc ++ items.filterMap f) h → lcL g tt te E items acc h K := by
    intro items
    induction items with
    | nil =>
      intro acc _ _ hd
      rw [List.filterMap_nil, List.append_nil] at hd
      exact hd
    | cons d ds ih =>
      intro acc hl hs hd
      simp only [List.length_cons] at hl
      refine hs d List.mem_cons_self acc (fun acc h => lcL g tt te E ds acc h K) (by omega) ?_
      cases e : f d with
      | none =>
        rw [List.filterMap_cons_none e] at hd
        exact ih acc (by omega) (fun d hd => hs d (List.mem_cons_of_mem _ hd)) hd
      | some y =>
        rw [List.filterMap_cons_some e] at hd
        refine ih (acc ++ [y]) (by rw [List.length_append]; simp; omega) (fun d hd => hs d (List.mem_cons_of_mem _ hd)) ?_
        rw [List.append_assoc]
        exact hd
  exact go items [] (by simpa using hl) hs (by simpa using hd)
theorem lc_map {g : TGm} {tt : TTm} {te : TVm} {E : En} {h : MH} {K : List D → MH → Prop} (f : D → D) {items : List D} (hl : items.length ≤ sizeLine)
    (hs : ∀ d ∈ items, ∀ (acc : List D) (k : List D → MH → Prop), acc.length < sizeLine → k (acc ++ [f d]) h → g d E h fun E2 h2 => tt E2 h2 (fun b h3 => if b = true then te E2 h3 (fun y h4 => acc.length < sizeLine ∧ k (acc ++ [y]) h4) xNo else k acc h3) xNo)
    (hd : K (items.map f) h) : lcL g tt te E items [] h K := by
  refine lc_fm (fun d => some (f d)) hl (fun d hm acc k ha q => hs d hm acc k ha q) ?_
  have e : items.filterMap (fun d => some (f d)) = items.map f := by
    induction items with
    | nil => rfl
    | cons d ds ih => simp
  rw [e]
  exact hd
end M3
set_option Elab.async false
set_option linter.all false
set_option maxRecDepth 100000
set_option maxHeartbeats 4000000
namespace M3
open PySem PySem.Spec PyProof.Rows L2
/-! ### promises of what the laws share -/
def isNum (p : D) (lo hi : Int) : Bool := match p with
  | .int i => decide (lo ≤ i) && decide (i ≤ hi)
  | _ => false
def sp_is_number (a : Ad) : MSp := fun ds h Kn Kx => ∃ p lo hi, ds = [p, .int lo, .int hi] ∧ kindD h p ≠ none ∧ Kn (.d (.bl (isNum p lo hi))) h
def RowAt (h : MH) (r : Addr) : Prop := ∃ ns pos ex mx, h r = some (.lst [.scr ns, .int pos, .int ex, .int mx]) ∧ 0 ≤ pos
def sp_law_row (a : Ad) : MSp := fun ds h Kn Kx => ∃ ns : List Int, ds = [.scr ns] ∧ ∀ mx, Kn (.ol [.scr ns, .int 0, .int 0, .int mx]) h
def sp_law_taken (a : Ad) : MSp := fun ds h Kn Kx => ∃ r m, ds = [.ref r, .int m] ∧ 0 < m ∧ m < 10 ^ 9 ∧ RowAt h r ∧ ∀ v h', 0 ≤ v → v < m → (∀ b, b ≠ r → h' b = h b) → RowAt h' r → Kn (.d (.int v)) h'
/-! ### mirrors -/
def t_law_row (a : Ad) : TSm :=
  (sSeq (sSet 1 (mC (.int 7)))
  (sSeq (sForget [2] (sFor (mIter (mVar 0)) (gN 2)
   (sForget [2] (sSet 1 (frzV (mOp gMod (frzV (mOp gAdd (frzV (mOp gAdd (frzV (mOp gMul (mVar 1) (mC (.int 48271)))) (mVar 2))) (mC (.int 11)))) (mC (.int 2147483647))))))))
  (sRet (mLst (mCons (mVar 0) (mCons (mC (.int 0)) (mCons (mC (.int 0)) (mCons (mVar 1) mNil))))))))
def t_is_number (a : Ad) : TSm :=
  (sRet (valE (mAndV (mIsi [.int] (mVar 0)) (mAndV (mNotV (mTst (mIsi [.bool] (mVar 0)))) (frzV (mChain (gB fun i j => decide (i ≤ j)) (gB fun i j => decide (i ≤ j)) (mVar 1) (mVar 0) (mVar 2)))))))
def t_law_taken (a : Ad) : TSm :=
  (sSeq (sForget [2] (sIf (mTst (frzV (mOp (gB fun i j => decide (j < i)) (frzV (mOp gIx (mVar 0) (mC (.int 2)))) (mC (.int 0))))) (sSeq (sSet 2 (frzV (mOp gMod (frzV (mOp gIx (mVar 0) (mC (.int 2)))) (mVar 1))))
  (sSeq (sSetI (mVar 0) (mC (.int 2)) (frzV (mOp gDiv (frzV (mOp gIx (mVar 0) (mC (.int 2)))) (mVar 1))))
  (sRet (valE (mVar 2))))) sSkip))
  (sSeq (sForget [3] (sIf (mTst (frzV (mOp (gB fun i j => decide (i < j)) (frzV (mOp gIx (mVar 0) (mC (.int 1)))) (frzV (mCall gLen (mCons (frzV (mOp gIx (mVar 0) (mC (.int 0)))) mNil)))))) (sSeq (sSet 3 (frzV (mOp gIx (frzV (mOp gIx (mVar 0) (mC (.int 0)))) (frzV (mOp gIx (mVar 0) (mC (.int 1)))))))
  (sSeq (sSetI (mVar 0) (mC (.int 1)) (frzV (mOp gAdd (frzV (mOp gIx (mVar 0) (mC (.int 1)))) (mC (.int 1)))))
  (sSeq (sIf (mTst (frzV (mOp (gB fun i j => decide (j ≤ i)) (mVar 3) (frzV (mOp gPow (mC (.int 10)) (mC (.int 18))))))) (sSetI (mVar 0) (mC (.int 2)) (frzV (mOp gDiv (mVar 3) (mVar 1)))) sSkip)
  (sRet (mOp gMod (mVar 3) (mVar 1)))))) sSkip))
  (sSeq (sSetI (mVar 0) (mC (.int 3)) (frzV (mOp gMod (frzV (mOp gAdd (frzV (mOp gMul (frzV (mOp gIx (mVar 0) (mC (.int 3)))) (mC (.int 48271)))) (mC (.int 12345)))) (mC (.int 2147483647)))))
  (sRet (mOp gMod (frzV (mOp gDiv (frzV (mOp gIx (mVar 0) (mC (.int 3)))) (mC (.int 1009)))) (mVar 1))))))
theorem rd_is_number {a : Ad} (ds : List D) (h : MH) (Kn : RV → MH → Prop) (Kx : XKm) (q : sp_is_number a ds h Kn Kx) : t_is_number a (bodyN Kn Kx) (startE ["part", "low", "high"] ds) h := by
  obtain ⟨p, lo, hi, rfl, hk, k⟩ := q
  show t_is_number a (bodyN Kn Kx) [some p, some (.int lo), some (.int hi)] h
  have fin : ∀ {b : Bool}, isNum p lo hi = b → (bodyN Kn Kx).rt (.d (.bl b)) h := fun e => bodyN_rt0 (by rw [← e]; exact k)
  unfold t_is_number
  cases p with
  | int i =>
    simp only [sSeq, sSet, sSkip, sForget, sFor, sIf, sRet, sRetN, sDrop, sSetI, sAsg, sPar, sFldM, sAug, frzV, valE, mVar, mC, mOp, mUn, mCall, mFun, mMeth, mMake, mFld, mTst, mNotT, mNotV, mAndV, mOrV, mAndT, mOrT, mIte, mNil, mCons, mTup, mLst, mChain, mIter_ap, mIsi_ap, mRng1, mRng2, mLc, mYes, mCell, mRel, mSl, oNo, oSome,
  gN, gT, gsCons, gsNil, frz_d, frz_l, frz_k, gIx_p, onSet_p, onQ_p, onL_p, gLen_p, onIns_p, put_put, atD_0, atD_1, atD_2, atD_3, atD_4, ixN_0, ixN_1, ixN_2, ixN_3, ixN_4, List.length_cons, List.length_nil, onBl_b, onInt_i, onTup_t, on1_1, on2_2, onQ_l, onQ_t, onQ_s, onL_l, onLs_l, onLs_s, onD_d, onOpt_s, gII, gB, gAdd_i, gAdd_s, gAdd_t, gAdd_l, gMul_i, gMul_l, gMul_t, gSub, gMod, gDiv, gPow, gNeg, gIx_l, gIx_t, gIx_s, gLen_l, gLen_t, gLen_s, gLen_d, iterD_t, iterD_l, iterD_s,
  kind_i, kind_b, kind_s, kind_n, kind_t, kind_l, gIsN, isNon, gTuple, gList, gAll, gAny, gSum, gMin, gMax, gMin2, gMax2, gAbs, gInt, gSorted,
  List.getElem?_cons_zero, List.getElem?_cons_succ, List.getElem?_nil, List.set_cons_zero, List.set_cons_succ, List.cons_append, List.nil_append, List.append_nil, wipeE, List.any_cons, List.any_nil, isK, Bool.or_false, Bool.false_or, Bool.or_true, Bool.true_or, Bool.not_true, Bool.not_false, if_true, if_false, Bool.false_eq_true, true_and, and_true, decide_eq_true_eq, id, reduceCtorEq]
    split
    · rename_i h1
      exact fin (by simp [isNum, h1])
    · rename_i h1
      exact fin (by simp [isNum, h1])
  | ref p =>
    cases e : kindD h (.ref p) with
    | none => exact absurd e hk
    | some k =>
      have e' : k = .lst ∨ k = .dct := by
        have e : (match h p with
          | some (.lst _) => some Kd.lst
          | some (.dct _) => some Kd.dct
          | _ => none) = some k := e
        split at e <;> simp_all
      rcases e' with rfl | rfl <;> (simp only [sSeq, sSet, sSkip, sForget, sFor, sIf, sRet, sRetN, sDrop, sSetI, sAsg, sPar, sFldM, sAug, frzV, valE, mVar, mC, mOp, mUn, mCall, mFun, mMeth, mMake, mFld, mTst, mNotT, mNotV, mAndV, mOrV, mAndT, mOrT, mIte, mNil, mCons, mTup, mLst, mChain, mIter_ap, mIsi_ap, mRng1, mRng2, mLc, mYes, mCell, mRel, mSl, oNo, oSome,
  gN, gT, gsCons, gsNil, frz_d, frz_l, frz_k, gIx_p, onSet_p, onQ_p, onL_p, gLen_p, onIns_p, put_put, atD_0, atD_1, atD_2, atD_3, atD_4, ixN_0, ixN_1, ixN_2, ixN_3, ixN_4, List.length_cons, List.length_nil, onBl_b, onInt_i, onTup_t, on1_1, on2_2, onQ_l, onQ_t, onQ_s, onL_l, onLs_l, onLs_s, onD_d, onOpt_s, gII, gB, gAdd_i, gAdd_s, gAdd_t, gAdd_l, gMul_i, gMul_l, gMul_t, gSub, gMod, gDiv, gPow, gNeg, gIx_l, gIx_t, gIx_s, gLen_l, gLen_t, gLen_s, gLen_d, iterD_t, iterD_l, iterD_s,
  kind_i, kind_b, kind_s, kind_n, kind_t, kind_l, gIsN, isNon, gTuple, gList, gAll, gAny, gSum, gMin, gMax, gMin2, gMax2, gAbs, gInt, gSorted,
  List.getElem?_cons_zero, List.getElem?_cons_succ, List.getElem?_nil, List.set_cons_zero, List.set_cons_succ, List.cons_append, List.nil_append, List.append_nil, wipeE, List.any_cons, List.any_nil, isK, Bool.or_false, Bool.false_or, Bool.or_true, Bool.true_or, Bool.not_true, Bool.not_false, if_true, if_false, Bool.false_eq_true, true_and, and_true, decide_eq_true_eq, id, reduceCtorEq, e]; exact fin rfl)
  | dct kvs => simp only [sSeq, sSet, sSkip, sForget, sFor, sIf, sRet, sRetN, sDrop, sSetI, sAsg, sPar, sFldM, sAug, frzV, valE, mVar, mC, mOp, mUn, mCall, mFun, mMeth, mMake, mFld, mTst, mNotT, mNotV, mAndV, mOrV, mAndT, mOrT, mIte, mNil, mCons, mTup, mLst, mChain, mIter_ap, mIsi_ap, mRng1, mRng2, mLc, mYes, mCell, mRel, mSl, oNo, oSome,
  gN, gT, gsCons, gsNil, frz_d, frz_l, frz_k, gIx_p, onSet_p, onQ_p, onL_p, gLen_p, onIns_p, put_put, atD_0, atD_1, atD_2, atD_3, atD_4, ixN_0, ixN_1, ixN_2, ixN_3, ixN_4, List.length_cons, List.length_nil, onBl_b, onInt_i, onTup_t, on1_1, on2_2, onQ_l, onQ_t, onQ_s, onL_l, onLs_l, onLs_s, onD_d, onOpt_s, gII, gB, gAdd_i, gAdd_s, gAdd_t, gAdd_l, gMul_i, gMul_l, gMul_t, gSub, gMod, gDiv, gPow, gNeg, gIx_l, gIx_t, gIx_s, gLen_l, gLen_t, gLen_s, gLen_d, iterD_t, iterD_l, iterD_s,
  kind_i, kind_b, kind_s, kind_n, kind_t, kind_l, gIsN, isNon, gTuple, gList, gAll, gAny, gSum, gMin, gMax, gMin2, gMax2, gAbs, gInt, gSorted,
  List.getElem?_cons_zero, List.getElem?_cons_succ, List.getElem?_nil, List.set_cons_zero, List.set_cons_succ, List.cons_append, List.nil_append, List.append_nil, wipeE, List.any_cons, List.any_nil, isK, Bool.or_false, Bool.false_or, Bool.or_true, Bool.true_or, Bool.not_true, Bool.not_false, if_true, if_false, Bool.false_eq_true, true_and, and_true, decide_eq_true_eq, id, reduceCtorEq, show kindD h (.dct kvs) = some .dct from rfl]; exact fin rfl
  | scr kvs => simp only [sSeq, sSet, sSkip, sForget, sFor, sIf, sRet, sRetN, sDrop, sSetI, sAsg, sPar, sFldM, sAug, frzV, valE, mVar, mC, mOp, mUn, mCall, mFun, mMeth, mMake, mFld, mTst, mNotT, mNotV, mAndV, mOrV, mAndT, mOrT, mIte, mNil, mCons, mTup, mLst, mChain, mIter_ap, mIsi_ap, mRng1, mRng2, mLc, mYes, mCell, mRel, mSl, oNo, oSome,
  gN, gT, gsCons, gsNil, frz_d, frz_l, frz_k, gIx_p, onSet_p, onQ_p, onL_p, gLen_p, onIns_p, put_put, atD_0, atD_1, atD_2, atD_3, atD_4, ixN_0, ixN_1, ixN_2, ixN_3, ixN_4, List.length_cons, List.length_nil, onBl_b, onInt_i, onTup_t, on1_1, on2_2, onQ_l, onQ_t, onQ_s, onL_l, onLs_l, onLs_s, onD_d, onOpt_s, gII, gB, gAdd_i, gAdd_s, gAdd_t, gAdd_l, gMul_i, gMul_l, gMul_t, gSub, gMod, gDiv, gPow, gNeg, gIx_l, gIx_t, gIx_s, gLen_l, gLen_t, gLen_s, gLen_d, iterD_t, iterD_l, iterD_s,
  kind_i, kind_b, kind_s, kind_n, kind_t, kind_l, gIsN, isNon, gTuple, gList, gAll, gAny, gSum, gMin, gMax, gMin2, gMax2, gAbs, gInt, gSorted,
  List.getElem?_cons_zero, List.getElem?_cons_succ, List.getElem?_nil, List.set_cons_zero, List.set_cons_succ, List.cons_append, List.nil_append, List.append_nil, wipeE, List.any_cons, List.any_nil, isK, Bool.or_false, Bool.false_or, Bool.or_true, Bool.true_or, Bool.not_true, Bool.not_false, if_true, if_false, Bool.false_eq_true, true_and, and_true, decide_eq_true_eq, id, reduceCtorEq, show kindD h (.scr kvs) = some .lst from rfl]; exact fin rfl
  | _ => simp only [sSeq, sSet, sSkip, sForget, sFor, sIf, sRet, sRetN, sDrop, sSetI, sAsg, sPar, sFldM, sAug, frzV, valE, mVar, mC, mOp, mUn, mCall, mFun, mMeth, mMake, mFld, mTst, mNotT, mNotV, mAndV, mOrV, mAndT, mOrT, mIte, mNil, mCons, mTup, mLst, mChain, mIter_ap, mIsi_ap, mRng1, mRng2, mLc, mYes, mCell, mRel, mSl, oNo, oSome,
  gN, gT, gsCons, gsNil, frz_d, frz_l, frz_k, gIx_p, onSet_p, onQ_p, onL_p, gLen_p, onIns_p, put_put, atD_0, atD_1, atD_2, atD_3, atD_4, ixN_0, ixN_1, ixN_2, ixN_3, ixN_4, List.length_cons, List.length_nil, onBl_b, onInt_i, onTup_t, on1_1, on2_2, onQ_l, onQ_t, onQ_s, onL_l, onLs_l, onLs_s, onD_d, onOpt_s, gII, gB, gAdd_i, gAdd_s, gAdd_t, gAdd_l, gMul_i, gMul_l, gMul_t, gSub, gMod, gDiv, gPow, gNeg, gIx_l, gIx_t, gIx_s, gLen_l, gLen_t, gLen_s, gLen_d, iterD_t, iterD_l, iterD_s,
  kind_i, kind_b, kind_s, kind_n, kind_t, kind_l, gIsN, isNon, gTuple, gList, gAll, gAny, gSum, gMin, gMax, gMin2, gMax2, gAbs, gInt, gSorted,
  List.getElem?_cons_zero, List.getElem?_cons_succ, List.getElem?_nil, List.set_cons_zero, List.set_cons_succ, List.cons_append, List.nil_append, List.append_nil, wipeE, List.any_cons, List.any_nil, isK, Bool.or_false, Bool.false_or, Bool.or_true, Bool.true_or, Bool.not_true, Bool.not_false, if_true, if_false, Bool.false_eq_true, true_and, and_true, decide_eq_true_eq, id, reduceCtorEq]; exact fin rfl
theorem mulok_r {i j : Int} (h1 : -(2 ^ 64) < j) (h2 : j < 2 ^ 64) : MulOk i j := .inl (.inr ⟨h1, h2⟩)
theorem rd_law_row {a : Ad} (ds : List D) (h : MH) (Kn : RV → MH → Prop) (Kx : XKm) (q : sp_law_row a ds h Kn Kx) : t_law_row a (bodyN Kn Kx) (startE ["_law_script", "_law_mixed", "_law_cell"] ds) h := by
  obtain ⟨ns, rfl, k⟩ := q
  show t_law_row a (bodyN Kn Kx) [some (.scr ns), none, none] h
  unfold t_law_row
  simp only [sSeq, sSet, sSkip, sForget, sFor, sIf, sRet, sRetN, sDrop, sSetI, sAsg, sPar, sFldM, sAug, frzV, valE, mVar, mC, mOp, mUn, mCall, mFun, mMeth, mMake, mFld, mTst, mNotT, mNotV, mAndV, mOrV, mAndT, mOrT, mIte, mNil, mCons, mTup, mLst, mChain, mIter_ap, mIsi_ap, mRng1, mRng2, mLc, mYes, mCell, mRel, mSl, oNo, oSome,
  gN, gT, gsCons, gsNil, frz_d, frz_l, frz_k, gIx_p, onSet_p, onQ_p, onL_p, gLen_p, onIns_p, put_put, atD_0, atD_1, atD_2, atD_3, atD_4, ixN_0, ixN_1, ixN_2, ixN_3, ixN_4, List.length_cons, List.length_nil, onBl_b, onInt_i, onTup_t, on1_1, on2_2, onQ_l, onQ_t, onQ_s, onL_l, onLs_l, onLs_s, onD_d, onOpt_s, gII, gB, gAdd_i, gAdd_s, gAdd_t, gAdd_l, gMul_i, gMul_l, gMul_t, gSub, gMod, gDiv, gPow, gNeg, gIx_l, gIx_t, gIx_s, gLen_l, gLen_t, gLen_s, gLen_d, iterD_t, iterD_l, iterD_s,
  kind_i, kind_b, kind_s, kind_n, kind_t, kind_l, gIsN, isNon, gTuple, gList, gAll, gAny, gSum, gMin, gMax, gMin2, gMax2, gAbs, gInt, gSorted,
  List.getElem?_cons_zero, List.getElem?_cons_succ, List.getElem?_nil, List.set_cons_zero, List.set_cons_succ, List.cons_append, List.nil_append, List.append_nil, wipeE, List.any_cons, List.any_nil, isK, Bool.or_false, Bool.false_or, Bool.or_true, Bool.true_or, Bool.not_true, Bool.not_false, if_true, if_false, Bool.false_eq_true, true_and, and_true, decide_eq_true_eq, id, reduceCtorEq]
  refine for_inv (fun _ E h' => h' = h ∧ ∃ mx, E = [some (.scr ns), some (.int mx), none]) ⟨rfl, 7, rfl⟩ ?_ ?_
  · rintro i d E h2 k hi ⟨rfl, mx, rfl⟩ hk
    obtain ⟨c, rfl⟩ : ∃ c, d = .int c := by
      rw [List.getElem?_map] at hi
      cases e : ns[i]? with
      | none => rw [e] at hi; cases hi
      | some c => rw [e] at hi; exact ⟨c, (Option.some.inj hi).symm⟩
    simp only [sSeq, sSet, sSkip, sForget, sFor, sIf, sRet, sRetN, sDrop, sSetI, sAsg, sPar, sFldM, sAug, frzV, valE, mVar, mC, mOp, mUn, mCall, mFun, mMeth, mMake, mFld, mTst, mNotT, mNotV, mAndV, mOrV, mAndT, mOrT, mIte, mNil, mCons, mTup, mLst, mChain, mIter_ap, mIsi_ap, mRng1, mRng2, mLc, mYes, mCell, mRel, mSl, oNo, oSome,
  gN, gT, gsCons, gsNil, frz_d, frz_l, frz_k, gIx_p, onSet_p, onQ_p, onL_p, gLen_p, onIns_p, put_put, atD_0, atD_1, atD_2, atD_3, atD_4, ixN_0, ixN_1, ixN_2, ixN_3, ixN_4, List.length_cons, List.length_nil, onBl_b, onInt_i, onTup_t, on1_1, on2_2, onQ_l, onQ_t, onQ_s, onL_l, onLs_l, onLs_s, onD_d, onOpt_s, gII, gB, gAdd_i, gAdd_s, gAdd_t, gAdd_l, gMul_i, gMul_l, gMul_t, gSub, gMod, gDiv, gPow, gNeg, gIx_l, gIx_t, gIx_s, gLen_l, gLen_t, gLen_s, gLen_d, iterD_t, iterD_l, iterD_s,
  kind_i, kind_b, kind_s, kind_n, kind_t, kind_l, gIsN, isNon, gTuple, gList, gAll, gAny, gSum, gMin, gMax, gMin2, gMax2, gAbs, gInt, gSorted,
  List.getElem?_cons_zero, List.getElem?_cons_succ, List.getElem?_nil, List.set_cons_zero, List.set_cons_succ, List.cons_append, List.nil_append, List.append_nil, wipeE, List.any_cons, List.any_nil, isK, Bool.or_false, Bool.false_or, Bool.or_true, Bool.true_or, Bool.not_true, Bool.not_false, if_true, if_false, Bool.false_eq_true, true_and, and_true, decide_eq_true_eq, id, reduceCtorEq]
    refine ⟨mulok_r (by decide) (by decide), by decide, hk _ _ ⟨rfl, _, rfl⟩⟩
  · rintro E h2 ⟨rfl, mx, rfl⟩
    simp only [sSeq, sSet, sSkip, sForget, sFor, sIf, sRet, sRetN, sDrop, sSetI, sAsg, sPar, sFldM, sAug, frzV, valE, mVar, mC, mOp, mUn, mCall, mFun, mMeth, mMake, mFld, mTst, mNotT, mNotV, mAndV, mOrV, mAndT, mOrT, mIte, mNil, mCons, mTup, mLst, mChain, mIter_ap, mIsi_ap, mRng1, mRng2, mLc, mYes, mCell, mRel, mSl, oNo, oSome,
  gN, gT, gsCons, gsNil, frz_d, frz_l, frz_k, gIx_p, onSet_p, onQ_p, onL_p, gLen_p, onIns_p, put_put, atD_0, atD_1, atD_2, atD_3, atD_4, ixN_0, ixN_1, ixN_2, ixN_3, ixN_4, List.length_cons, List.length_nil, onBl_b, onInt_i, onTup_t, on1_1, on2_2, onQ_l, onQ_t, onQ_s, onL_l, onLs_l, onLs_s, onD_d, onOpt_s, gII, gB, gAdd_i, gAdd_s, gAdd_t, gAdd_l, gMul_i, gMul_l, gMul_t, gSub, gMod, gDiv, gPow, gNeg, gIx_l, gIx_t, gIx_s, gLen_l, gLen_t, gLen_s, gLen_d, iterD_t, iterD_l, iterD_s,
  kind_i, kind_b, kind_s, kind_n, kind_t, kind_l, gIsN, isNon, gTuple, gList, gAll, gAny, gSum, gMin, gMax, gMin2, gMax2, gAbs, gInt, gSorted,
  List.getElem?_cons_zero, List.getElem?_cons_succ, List.getElem?_nil, List.set_cons_zero, List.set_cons_succ, List.cons_append, List.nil_append, List.append_nil, wipeE, List.any_cons, List.any_nil, isK, Bool.or_false, Bool.false_or, Bool.or_true, Bool.true_or, Bool.not_true, Bool.not_false, if_true, if_false, Bool.false_eq_true, true_and, and_true, decide_eq_true_eq, id, reduceCtorEq]
    exact ⟨by show 4 ≤ sizeLine; decide, bodyN_rt0 (k mx)⟩
theorem rd_law_taken {a : Ad} (ds : List D) (h : MH) (Kn : RV → MH → Prop) (Kx : XKm) (q : sp_law_taken a ds h Kn Kx) : t_law_taken a (bodyN Kn Kx) (startE ["_law_row_here", "_law_many", "_law_found", "_law_cell"] ds) h := by
  obtain ⟨r, m, rfl, h0, h9, ⟨ns, pos, ex, mx, e, hp⟩, k⟩ := q
  show t_law_taken a (bodyN Kn Kx) [some (.ref r), some (.int m), none, none] h
  have lg : m.natAbs.log2 < 9000 := log2_lt h9 h0
  unfold t_law_taken
  have fin : ∀ {v pos' ex' mx' : Int}, 0 ≤ v → v < m → 0 ≤ pos' → (bodyN Kn Kx).rt (.d (.int v)) (put h r (.lst [.scr ns, .int pos', .int ex', .int mx'])) := fun h1 h2 h3 =>
    bodyN_rt0 (k _ _ h1 h2 (fun b hb => put_ne hb) ⟨_, _, _, _, put_same, h3⟩)
  have m0 : ∀ x : Int, 0 ≤ x % m := fun x => Int.emod_nonneg x (by omega)
  have m1 : ∀ x : Int, x % m < m := fun x => Int.emod_lt_of_pos x h0
  simp only [sSeq, sSet, sSkip, sForget, sFor, sIf, sRet, sRetN, sDrop, sSetI, sAsg, sPar, sFldM, sAug, frzV, valE, mVar, mC, mOp, mUn, mCall, mFun, mMeth, mMake, mFld, mTst, mNotT, mNotV, mAndV, mOrV, mAndT, mOrT, mIte, mNil, mCons, mTup, mLst, mChain, mIter_ap, mIsi_ap, mRng1, mRng2, mLc, mYes, mCell, mRel, mSl, oNo, oSome,
  gN, gT, gsCons, gsNil, frz_d, frz_l, frz_k, gIx_p, onSet_p, onQ_p, onL_p, gLen_p, onIns_p, put_put, atD_0, atD_1, atD_2, atD_3, atD_4, ixN_0, ixN_1, ixN_2, ixN_3, ixN_4, List.length_cons, List.length_nil, onBl_b, onInt_i, onTup_t, on1_1, on2_2, onQ_l, onQ_t, onQ_s, onL_l, onLs_l, onLs_s, onD_d, onOpt_s, gII, gB, gAdd_i, gAdd_s, gAdd_t, gAdd_l, gMul_i, gMul_l, gMul_t, gSub, gMod, gDiv, gPow, gNeg, gIx_l, gIx_t, gIx_s, gLen_l, gLen_t, gLen_s, gLen_d, iterD_t, iterD_l, iterD_s,
  kind_i, kind_b, kind_s, kind_n, kind_t, kind_l, gIsN, isNon, gTuple, gList, gAll, gAny, gSum, gMin, gMax, gMin2, gMax2, gAbs, gInt, gSorted,
  List.getElem?_cons_zero, List.getElem?_cons_succ, List.getElem?_nil, List.set_cons_zero, List.set_cons_succ, List.cons_append, List.nil_append, List.append_nil, wipeE, List.any_cons, List.any_nil, isK, Bool.or_false, Bool.false_or, Bool.or_true, Bool.true_or, Bool.not_true, Bool.not_false, if_true, if_false, Bool.false_eq_true, true_and, and_true, decide_eq_true_eq, id, reduceCtorEq, gIx_r e, onSet_l e]
  split
  · exact ⟨h0, ⟨h0, lg⟩, fin (m0 _) (m1 _) hp⟩
  split
  · rename_i h1 h2
    obtain ⟨c, ec⟩ : ∃ c, ns[pos.toNat]? = some c := ⟨_, List.getElem?_eq_getElem (by omega)⟩
    have ea : atD (ns.map D.int) pos = some (.int c) := atD_int hp (by rw [List.getElem?_map, ec]; rfl)
    simp only [sSeq, sSet, sSkip, sForget, sFor, sIf, sRet, sRetN, sDrop, sSetI, sAsg, sPar, sFldM, sAug, frzV, valE, mVar, mC, mOp, mUn, mCall, mFun, mMeth, mMake, mFld, mTst, mNotT, mNotV, mAndV, mOrV, mAndT, mOrT, mIte, mNil, mCons, mTup, mLst, mChain, mIter_ap, mIsi_ap, mRng1, mRng2, mLc, mYes, mCell, mRel, mSl, oNo, oSome,
  gN, gT, gsCons, gsNil, frz_d, frz_l, frz_k, gIx_p, onSet_p, onQ_p, onL_p, gLen_p, onIns_p, put_put, atD_0, atD_1, atD_2, atD_3, atD_4, ixN_0, ixN_1, ixN_2, ixN_3, ixN_4, List.length_cons, List.length_nil, onBl_b, onInt_i, onTup_t, on1_1, on2_2, onQ_l, onQ_t, onQ_s, onL_l, onLs_l, onLs_s, onD_d, onOpt_s, gII, gB, gAdd_i, gAdd_s, gAdd_t, gAdd_l, gMul_i, gMul_l, gMul_t, gSub, gMod, gDiv, gPow, gNeg, gIx_l, gIx_t, gIx_s, gLen_l, gLen_t, gLen_s, gLen_d, iterD_t, iterD_l, iterD_s,
  kind_i, kind_b, kind_s, kind_n, kind_t, kind_l, gIsN, isNon, gTuple, gList, gAll, gAny, gSum, gMin, gMax, gMin2, gMax2, gAbs, gInt, gSorted,
  List.getElem?_cons_zero, List.getElem?_cons_succ, List.getElem?_nil, List.set_cons_zero, List.set_cons_succ, List.cons_append, List.nil_append, List.append_nil, wipeE, List.any_cons, List.any_nil, isK, Bool.or_false, Bool.false_or, Bool.or_true, Bool.true_or, Bool.not_true, Bool.not_false, if_true, if_false, Bool.false_eq_true, true_and, and_true, decide_eq_true_eq, id, reduceCtorEq, ea]
    refine ⟨⟨by decide, by decide, by decide⟩, ?_⟩
    split
    · exact ⟨⟨h0, lg⟩, h0, fin (m0 _) (m1 _) (by omega)⟩
    · exact ⟨h0, fin (m0 _) (m1 _) (by omega)⟩
  · exact ⟨mulok_r (by decide) (by decide), by decide, ⟨by decide, by decide +kernel⟩, h0, fin (m0 _) (m1 _) hp⟩
end M3
set_option Elab.async false
set_option linter.all false
set_option maxRecDepth 100000
set_option maxHeartbeats 4000000
namespace M3
open PySem PySem.Spec PyProof.Rows L2
/-! ### equality, told by kind -/
theorem plD_zero : ∀ {n : Nat} {i : Int}, plD n (.int i) = true
  | 0, _ => rfl
  | _ + 1, _ => rfl
theorem plD_mono : ∀ {n : Nat} {d : D}, plD n d = true → plD (n + 1) d = true
  | 0, .non, _ => rfl
  | 0, .bl _, _ => rfl
  | 0, .int _, _ => rfl
  | 0, .str _, h => h
  | 0, .tup _, h => by cases h
  | 0, .lst _, h => by cases h
  | 0, .dct _, h => by cases h
  | 0, .ref _, h => by cases h
  | 0, .scr _, h => by cases h
  | _ + 1, .non, _ => rfl
  | _ + 1, .bl _, _ => rfl
  | _ + 1, .int _, _ => rfl
  | _ + 1, .str _, h => h
  | n + 1, .tup xs, h => by
    simp only [plD, List.all_eq_true] at h ⊢
    exact fun x hx => plD_mono (h x hx)
  | n + 1, .lst xs, h => by
    simp only [plD, List.all_eq_true] at h ⊢
    exact fun x hx => plD_mono (h x hx)
  | _ + 1, .dct _, h => by cases h
  | _ + 1, .ref _, h => by cases h
  | _ + 1, .scr _, h => by cases h
theorem plD_le {n m : Nat} {d : D} (h : plD n d = true) (l : n ≤ m) : plD m d = true := by
  induction l with
  | refl => exact h
  | step _ ih => exact plD_mono ih
theorem eqOk_i {i : Int} : eqOk (.int i) := ⟨0, by omega, rfl⟩
theorem eqOk_b {i : Bool} : eqOk (.bl i) := ⟨0, by omega, rfl⟩
theorem eqOk_n : eqOk .non := ⟨0, by omega, rfl⟩
theorem pl_ints {ns : List Int} : (ns.map D.int).all (plD 0) = true := by
  rw [List.all_eq_true]
  intro x hx
  obtain ⟨i, _, rfl⟩ := List.mem_map.mp hx
  rfl
theorem eqOk_li {ns : List Int} : eqOk (.lst (ns.map D.int)) := ⟨1, by omega, pl_ints⟩
theorem eqOk_ti {ns : List Int} : eqOk (.tup (ns.map D.int)) := ⟨1, by omega, pl_ints⟩
theorem eqvAll_ints : ∀ {xs ys : List Int}, PyData.eqvAll (toPs (xs.map D.int)) (toPs (ys.map D.int)) = decide (xs = ys)
  | [], [] => by simp [toPs, PyData.eqvAll]
  | [], _ :: _ => by simp [toPs, PyData.eqvAll]
  | _ :: _, [] => by simp [toPs, PyData.eqvAll]
  | x :: xs, y :: ys => by
    show (PyData.eqv (.int x) (.int y) && PyData.eqvAll (toPs (xs.map D.int)) (toPs (ys.map D.int))) = _
    rw [eqvAll_ints, PyData.eqv]
    by_cases h : x = y <;> simp [h]
theorem eqD_i {i j : Int} : eqD (.int i) (.int j) = decide (i = j) := by
  show PyData.eqv (.int i) (.int j) = _
  rw [PyData.eqv]
  by_cases h : i = j <;> simp [h]
theorem eqD_b {i j : Bool} : eqD (.bl i) (.bl j) = (i == j) := by
  show PyData.eqv (.bool i) (.bool j) = _
  rw [PyData.eqv]
theorem eqD_li {xs ys : List Int} : eqD (.lst (xs.map D.int)) (.lst (ys.map D.int)) = decide (xs = ys) := by
  show PyData.eqv (.list _) (.list _) = _
  rw [PyData.eqv]
  exact eqvAll_ints
theorem eqD_ti {xs ys : List Int} : eqD (.tup (xs.map D.int)) (.tup (ys.map D.int)) = decide (xs = ys) := by
  show PyData.eqv (.tuple _) (.tuple _) = _
  rw [PyData.eqv]
  exact eqvAll_ints
mutual
theorem eqv_pl : ∀ {n : Nat} {d : D}, plD n d = true → PyData.eqv (toP d) (toP d) = true
  | _, .non, _ => by simp [toP, PyData.eqv]
  | _, .bl _, _ => by simp [toP, PyData.eqv]
  | _, .int _, _ => by simp [toP, PyData.eqv]
  | _, .str _, _ => by simp [toP, PyData.eqv]
  | n + 1, .tup xs, h => by
    simp only [plD, List.all_eq_true] at h
    simp only [toP, PyData.eqv]
    exact eqvs_pl xs h
  | n + 1, .lst xs, h => by
    simp only [plD, List.all_eq_true] at h
    simp only [toP, PyData.eqv]
    exact eqvs_pl xs h
  | 0, .tup _, h => by cases h
  | 0, .lst _, h => by cases h
  | 0, .dct _, h => by cases h
  | 0, .ref _, h => by cases h
  | 0, .scr _, h => by cases h
  | _ + 1, .dct _, h => by cases h
  | _ + 1, .ref _, h => by cases h
  | _ + 1, .scr _, h => by cases h
theorem eqvs_pl : ∀ {n : Nat} (ds : List D), (∀ x ∈ ds, plD n x = true) → PyData.eqvAll (toPs ds) (toPs ds) = true
  | _, [], _ => by simp [toPs, PyData.eqvAll]
  | _, d :: ds, h => by
    show (PyData.eqv (toP d) (toP d) && PyData.eqvAll (toPs ds) (toPs ds)) = true
    rw [eqv_pl (h d List.mem_cons_self), eqvs_pl ds fun x hx => h x (List.mem_cons_of_mem _ hx)]
    rfl
end
theorem eqD_refl {n : Nat} {d : D} (h : plD n d = true) : eqD d d = true := eqv_pl h
section
variable {h : MH} {Kn : RV → MH → Prop} {i j : Int} {a b : Addr} {xs ys : List D} {ns ms : List Int} {p q : Bool}
theorem gEq_ok {x y : D} (hx : eqOk (res h x)) (hy : eqOk (res h y)) : gEq x y h Kn = Kn (.d (.bl (eqD (res h x) (res h y)))) h := by
  unfold gEq
  simp [hx, hy]
theorem gNe_ok {x y : D} (hx : eqOk (res h x)) (hy : eqOk (res h y)) : gNe x y h Kn = Kn (.d (.bl (!eqD (res h x) (res h y)))) h := by
  unfold gNe
  simp [hx, hy]
theorem res_i : res h (.int i) = .int i := rfl
theorem res_b : res h (.bl p) = .bl p := rfl
theorem res_n : res h .non = .non := rfl
theorem res_l : res h (.lst xs) = .lst xs := rfl
theorem res_t : res h (.tup xs) = .tup xs := rfl
theorem res_s {x : Str} : res h (.str x) = .str x := rfl
theorem res_r (e : h a = some (.lst xs)) : res h (.ref a) = .lst xs := by
  show (match h a with
    | some (.lst xs) => D.lst xs
    | _ => .ref a) = _
  rw [e]
theorem gEq_i : gEq (.int i) (.int j) h Kn = Kn (.d (.bl (decide (i = j)))) h := by rw [gEq_ok (x := .int i) (y := .int j) eqOk_i eqOk_i, res_i, res_i, eqD_i]
theorem gNe_i : gNe (.int i) (.int j) h Kn = Kn (.d (.bl (!decide (i = j)))) h := by rw [gNe_ok (x := .int i) (y := .int j) eqOk_i eqOk_i, res_i, res_i, eqD_i]
theorem gEq_b : gEq (.bl p) (.bl q) h Kn = Kn (.d (.bl (p == q))) h := by rw [gEq_ok (x := .bl p) (y := .bl q) eqOk_b eqOk_b, res_b, res_b, eqD_b]
theorem gNe_b : gNe (.bl p) (.bl q) h Kn = Kn (.d (.bl (!(p == q)))) h := by rw [gNe_ok (x := .bl p) (y := .bl q) eqOk_b eqOk_b, res_b, res_b, eqD_b]
theorem gEq_li : gEq (.lst (ns.map D.int)) (.lst (ms.map D.int)) h Kn = Kn (.d (.bl (decide (ns = ms)))) h := by rw [gEq_ok (x := .lst (ns.map D.int)) (y := .lst (ms.map D.int)) eqOk_li eqOk_li, res_l, res_l, eqD_li]
theorem gNe_li : gNe (.lst (ns.map D.int)) (.lst (ms.map D.int)) h Kn = Kn (.d (.bl (!decide (ns = ms)))) h := by rw [gNe_ok (x := .lst (ns.map D.int)) (y := .lst (ms.map D.int)) eqOk_li eqOk_li, res_l, res_l, eqD_li]
theorem gEq_l0 : gEq (.lst (ns.map D.int)) (.lst []) h Kn = Kn (.d (.bl (decide (ns = [])))) h := gEq_li (ms := [])
theorem gNe_l0 : gNe (.lst (ns.map D.int)) (.lst []) h Kn = Kn (.d (.bl (!decide (ns = [])))) h := gNe_li (ms := [])
theorem gEq_00 : gEq (.lst []) (.lst []) h Kn = Kn (.d (.bl true)) h := gEq_li (ns := []) (ms := [])
theorem gNe_00 : gNe (.lst []) (.lst []) h Kn = Kn (.d (.bl false)) h := gNe_li (ns := []) (ms := [])
theorem gEq_ti : gEq (.tup (ns.map D.int)) (.tup (ms.map D.int)) h Kn = Kn (.d (.bl (decide (ns = ms)))) h := by rw [gEq_ok (x := .tup (ns.map D.int)) (y := .tup (ms.map D.int)) eqOk_ti eqOk_ti, res_t, res_t, eqD_ti]
theorem gNe_ti : gNe (.tup (ns.map D.int)) (.tup (ms.map D.int)) h Kn = Kn (.d (.bl (!decide (ns = ms)))) h := by rw [gNe_ok (x := .tup (ns.map D.int)) (y := .tup (ms.map D.int)) eqOk_ti eqOk_ti, res_t, res_t, eqD_ti]
end
/-- what a list of items answers where it stands -/
theorem seq_onQ {h : MH} {x : D} {xs : List D} {k : List D → Prop} (e : res h x = .lst xs ∨ res h x = .tup xs) : onQ h x k = k xs := by
  cases x with
  | ref p =>
    rcases e with e | e
    · cases q : h p with
      | none => rw [show res h (.ref p) = (match h p with
          | some (.lst xs) => D.lst xs
          | _ => .ref p) from rfl, q] at e; cases e
      | some m =>
        cases m with
        | lst ys => rw [res_r q] at e; cases e; exact onQ_r q
        | dct ys => rw [show res h (.ref p) = (match h p with
          | some (.lst xs) => D.lst xs
          | _ => .ref p) from rfl, q] at e; cases e
        | ins C ys => rw [show res h (.ref p) = (match h p with
          | some (.lst xs) => D.lst xs
          | _ => .ref p) from rfl, q] at e; cases e
    · exfalso
      rw [show res h (.ref p) = (match h p with
          | some (.lst xs) => D.lst xs
          | _ => .ref p) from rfl] at e
      split at e <;> cases e
  | lst ys => rcases e with e | e <;> cases e; rfl
  | tup ys => rcases e with e | e <;> cases e; rfl
  | _ => rcases e with e | e <;> cases e
theorem seq_ref {h : MH} {p : Addr} {xs : List D} (e : res h (.ref p) = .lst xs ∨ res h (.ref p) = .tup xs) : h p = some (.lst xs) := by
  rw [show res h (.ref p) = (match h p with
          | some (.lst xs) => D.lst xs
          | _ => .ref p) from rfl] at e
  split at e
  · rcases e with e | e <;> cases e
    assumption
  · rcases e with e | e <;> cases e
theorem seq_kindL {h : MH} {x : D} {xs : List D} (e : res h x = .lst xs) : kindD h x = some .lst := by
  cases x with
  | ref p => exact kind_r (seq_ref (.inl e))
  | lst ys => rfl
  | _ => cases e
theorem seq_tup {h : MH} {x : D} {xs : List D} (e : res h x = .tup xs) : x = .tup xs := by
  cases x with
  | ref p =>
    rw [show res h (.ref p) = (match h p with
          | some (.lst xs) => D.lst xs
          | _ => .ref p) from rfl] at e
    split at e <;> cases e
  | lst ys => cases e
  | tup ys => cases e; rfl
  | _ => cases e
theorem seq_len {h : MH} {x : D} {xs : List D} {Kn : RV → MH → Prop} (e : res h x = .lst xs ∨ res h x = .tup xs) : gLen [x] h Kn = Kn (.d (.int xs.length)) h := by
  cases x with
  | ref p => exact gLen_r (seq_ref e)
  | lst ys => rcases e with e | e <;> cases e; rfl
  | tup ys => rcases e with e | e <;> cases e; rfl
  | _ => rcases e with e | e <;> cases e
theorem seq_ix {h : MH} {x : D} {i : Int} {xs : List D} {Kn : RV → MH → Prop} (e : res h x = .lst xs ∨ res h x = .tup xs) : gIx x (.int i) h Kn = onOpt (atD xs i) fun d => Kn (.d d) h := by
  cases x with
  | ref p => exact gIx_r (seq_ref e)
  | lst ys => rcases e with e | e <;> cases e; exact gIx_l
  | tup ys => rcases e with e | e <;> cases e; exact gIx_t
  | _ => rcases e with e | e <;> cases e
theorem pl_res {n : Nat} {h : MH} {d : D} (q : plD n d = true) : res h d = d := by
  cases d with
  | ref p => cases n <;> cases q
  | _ => rfl
theorem rng_len {lo : Int} {n : Nat} : (rngD lo n).length = n := by simp [rngD]
theorem rng_get {n i : Nat} {d : D} (h : (rngD 0 n)[i]? = some d) : i < n ∧ d = .int i := by
  unfold rngD at h
  rw [List.getElem?_map] at h
  cases e : (List.range n)[i]? with
  | none => rw [e] at h; cases h
  | some c =>
    rw [e] at h
    obtain ⟨hi, rfl⟩ := List.getElem?_eq_some_iff.mp e
    simp at hi h
    exact ⟨hi, by rw [← h]⟩
theorem sz1 : (1 ≤ sizeLine) = True := eq_true (by decide)
theorem sz2 : (2 ≤ sizeLine) = True := eq_true (by decide)
theorem sz3 : (3 ≤ sizeLine) = True := eq_true (by decide)
theorem sz4 : (4 ≤ sizeLine) = True := eq_true (by decide)
theorem sz5 : (5 ≤ sizeLine) = True := eq_true (by decide)
theorem sz6 : (6 ≤ sizeLine) = True := eq_true (by decide)
theorem line_big : (1000 : Nat) ≤ sizeLine := by decide
theorem enum_get {xs : List D} {i : Nat} {d : D} (h : (enumD xs)[i]? = some d) : ∃ x, xs[i]? = some x ∧ d = .tup [.int i, x] := by
  unfold enumD at h
  rw [List.getElem?_zipWith] at h
  cases e : xs[i]? with
  | none => rw [e] at h; cases e2 : (List.range xs.length)[i]? <;> rw [e2] at h <;> cases h
  | some x =>
    rw [e] at h
    cases e2 : (List.range xs.length)[i]? with
    | none => rw [e2] at h; cases h
    | some j =>
      rw [e2] at h
      obtain ⟨hi, rfl⟩ := List.getElem?_eq_some_iff.mp e2
      simp at h
      exact ⟨x, rfl, h.symm⟩
theorem num_yes {lo hi i : Int} (h1 : lo ≤ i) (h2 : i ≤ hi) : isNum (.int i) lo hi = true := by simp [isNum, h1, h2]
theorem is_num {a : Ad} {i lo hi : Int} {h : MH} {Kn : RV → MH → Prop} {Kx : XKm} (h1 : lo ≤ i) (h2 : i ≤ hi) (k : Kn (.d (.bl true)) h) : sp_is_number a [.int i, .int lo, .int hi] h Kn Kx := ⟨_, _, _, rfl, nofun, by rw [num_yes h1 h2]; exact k⟩
theorem gEq_t0 {xs : List D} {h : MH} {Kn : RV → MH → Prop} (e : eqOk (.tup xs)) : gEq (.tup xs) (.tup []) h Kn = Kn (.d (.bl xs.isEmpty)) h := by
  rw [gEq_ok (x := .tup xs) (y := .tup []) e ⟨1, by omega, rfl⟩]
  cases xs <;> rfl
theorem eqOk_rows {rows : List (List Int)} : eqOk (.tup (rows.map fun r => .tup (r.map D.int))) := ⟨2, by omega, by
  rw [show plD 2 (.tup (rows.map fun r => D.tup (r.map D.int))) = (rows.map fun r => D.tup (r.map D.int)).all (plD 1) from rfl, List.all_eq_true]
  intro x hx
  obtain ⟨i, _, rfl⟩ := List.mem_map.mp hx
  exact pl_ints⟩
theorem all_yes {xs : List D} (h : ∀ x ∈ xs, x = .bl true) : blsD xs = some (List.replicate xs.length true) := by
  induction xs with
  | nil => rfl
  | cons x xs ih =>
    obtain rfl := h x List.mem_cons_self
    rw [blsD, ih fun x hx => h x (List.mem_cons_of_mem _ hx)]
    rfl
theorem onBls_map {bs : List Bool} {k : List Bool → Prop} : onBls (bs.map D.bl) k = k bs := by
  unfold onBls
  rw [bls_map]

/-! ### loops over mapped lists -/
theorem for_foldA {α β : Type} {g : TGm} {tb : TSm} {N : Nd} {E : En} {h : MH} (S : α → En) (Hh : α → MH) (f : α → β → α) (P : α → Prop) (v : β → D) : ∀ (xs : List β) (s : α), E = S s → h = Hh s → P s →
    (∀ x ∈ xs, ∀ s (k : En → MH → Prop), P s → (P (f s x) → k (S (f s x)) (Hh (f s x))) → g (v x) (S s) (Hh s) fun E2 h2 => tb { nx := k, rt := N.rt, bk := N.nx, ct := k, xs := N.xs } E2 h2) →
    (∀ s x, x ∈ xs → P s → P (f s x)) →
    (P (xs.foldl f s) → N.nx (S (xs.foldl f s)) (Hh (xs.foldl f s))) → forL g tb (xs.map v) N E h
  | [], s, e1, e2, p, _, _, hd => by
    subst e1 e2
    exact hd p
  | x :: xs, s, e1, e2, p, hs, hp, hd => by
    subst e1 e2
    exact hs x List.mem_cons_self s _ p fun p2 => for_foldA S Hh f P v xs (f s x) rfl rfl p2 (fun d hd => hs d (List.mem_cons_of_mem _ hd)) (fun s x hx => hp s x (List.mem_cons_of_mem _ hx)) hd
theorem lc_fmA {α : Type} {g : TGm} {tt : TTm} {te : TVm} {E : En} {h : MH} {K : List D → MH → Prop} (xs : List α) (v : α → D) (f : α → Option D) (hl : xs.length ≤ sizeLine)
    (hs : ∀ x ∈ xs, ∀ (acc : List D) (k : List D → MH → Prop), acc.length < sizeLine → (match f x with
      | some y => k (acc ++ [y]) h
      | none => k acc h) → g (v x) E h fun E2 h2 => tt E2 h2 (fun b h3 => if b = true then te E2 h3 (fun y h4 => acc.length < sizeLine ∧ k (acc ++ [y]) h4) xNo else k acc h3) xNo)
    (hd : K (xs.filterMap f) h) : lcL g tt te E (xs.map v) [] h K := by
  have go : ∀ (xs : List α) (acc : List D), acc.length + xs.length ≤ sizeLine → (∀ x ∈ xs, ∀ (acc : List D) (k : List D → MH → Prop), acc.length < sizeLine → (match f x with
      | some y => k (acc ++ [y]) h
      | none => k acc h) → g (v x) E h fun E2 h2 => tt E2 h2 (fun b h3 => if b = true then te E2 h3 (fun y h4 => acc.length < sizeLine ∧ k (acc ++ [y]) h4) xNo else k acc h3) xNo) → K (acc ++ xs.filterMap f) h → lcL g tt te E (xs.map v) acc h K := by
    intro xs
    induction xs with
    | nil =>
      intro acc _ _ hd
      rw [List.filterMap_nil, List.append_nil] at hd
      exact hd
    | cons d ds ih =>
      intro acc hl hs hd
      simp only [List.length_cons] at hl
      refine hs d List.mem_cons_self acc (fun acc h => lcL g tt te E (ds.map v) acc h K) (by omega) ?_
      cases e : f d with
      | none =>
        rw [List.filterMap_cons_none e] at hd
        exact ih acc (by omega) (fun d hd => hs d (List.mem_cons_of_mem _ hd)) hd
      | some y =>
        rw [List.filterMap_cons_some e] at hd
        refine ih (acc ++ [y]) (by rw [List.length_append]; simp; omega) (fun d hd => hs d (List.mem_cons_of_mem _ hd)) ?_
        rw [List.append_assoc]
        exact hd
  exact go xs [] (by simpa using hl) hs (by simpa using hd)
theorem lc_mapA {α : Type} {g : TGm} {tt : TTm} {te : TVm} {E : En} {h : MH} {K : List D → MH → Prop} (xs : List α) (v : α → D) (f : α → D) (hl : xs.length ≤ sizeLine)
    (hs : ∀ x ∈ xs, ∀ (acc : List D) (k : List D → MH → Prop), acc.length < sizeLine → k (acc ++ [f x]) h → g (v x) E h fun E2 h2 => tt E2 h2 (fun b h3 => if b = true then te E2 h3 (fun y h4 => acc.length < sizeLine ∧ k (acc ++ [y]) h4) xNo else k acc h3) xNo)
    (hd : K (xs.map f) h) : lcL g tt te E (xs.map v) [] h K := by
  refine lc_fmA xs v (fun d => some (f d)) hl (fun d hm acc k ha q => hs d hm acc k ha q) ?_
  have e : xs.filterMap (fun d => some (f d)) = xs.map f := by
    induction xs with
    | nil => rfl
    | cons d ds ih => simp
  rw [e]
  exact hd
theorem lc_filA {α : Type} {g : TGm} {tt : TTm} {te : TVm} {E : En} {h : MH} {K : List D → MH → Prop} (xs : List α) (v : α → D) (p : α → Bool) (hl : xs.length ≤ sizeLine)
    (hs : ∀ x ∈ xs, ∀ (acc : List D) (k : List D → MH → Prop), acc.length < sizeLine → (if p x = true then k (acc ++ [v x]) h else k acc h) → g (v x) E h fun E2 h2 => tt E2 h2 (fun b h3 => if b = true then te E2 h3 (fun y h4 => acc.length < sizeLine ∧ k (acc ++ [y]) h4) xNo else k acc h3) xNo)
    (hd : K ((xs.filter p).map v) h) : lcL g tt te E (xs.map v) [] h K := by
  refine lc_fmA xs v (fun d => if p d = true then some (v d) else none) hl (fun d hm acc k ha q => hs d hm acc k ha ?_) ?_
  · by_cases e : p d = true
    · simp only [e, if_true] at q ⊢
      exact q
    · simp only [e] at q ⊢
      exact q
  · have e : xs.filterMap (fun d => if p d = true then some (v d) else none) = (xs.filter p).map v := by
      clear hs hd hl
      induction xs with
      | nil => rfl
      | cons d ds ih =>
        by_cases e : p d = true
        · simp [e, ih]
        · simp [e, ih]
    rw [e]
    exact hd
theorem atD_ints {cs : List Int} {c : Int} (h0 : 0 ≤ c) (h1 : c < cs.length) : atD (cs.map D.int) c = some (.int (cs.getD c.toNat 0)) := by
  refine atD_int h0 ?_
  rw [List.getElem?_map, List.getD_eq_getElem?_getD, List.getElem?_eq_getElem (by omega : c.toNat < cs.length)]
  rfl
theorem atD_map {α : Type} {xs : List α} {v : α → D} {i : Nat} (h : i < xs.length) : atD (xs.map v) (i : Int) = some (v (xs[i]'h)) := by
  refine atD_nat ?_
  rw [List.getElem?_map, List.getElem?_eq_getElem h]
  rfl
theorem rep_ints {n : Nat} {c : Int} : (List.replicate n [D.int c]).flatten = (List.replicate n c).map D.int := by
  induction n with
  | zero => rfl
  | succ n ih => rw [List.replicate_succ, List.flatten_cons, ih]; rfl
end M3
set_option Elab.async false
set_option linter.all false
set_option maxRecDepth 100000
set_option maxHeartbeats 4000000
namespace M3
open PySem PySem.Spec PyProof.Rows L2
structure Plan where
  k : Nat
  w : Nat
  rows : List (List Int)
def planD (p : Plan) : D := .tup [.int p.k, .int p.w, .tup (p.rows.map fun r => .tup (r.map D.int))]
structure PlanOk (p : Plan) : Prop where
  k1 : 1 ≤ p.k
  k2 : p.k ≤ 16
  w1 : 1 ≤ p.w
  w2 : p.w ≤ 32
  r1 : 1 ≤ p.rows.length
  r2 : p.rows.length ≤ 5
  len : ∀ r ∈ p.rows, r.length = p.k
  cell : ∀ r ∈ p.rows, ∀ c ∈ r, 0 ≤ c ∧ c < p.w
def sp_law_plan (a : Ad) : MSp := fun ds h Kn Kx => ∃ (r : Addr) (k w d : Int), ds = [.ref r, .int k, .int w, .int d] ∧ 1 ≤ k ∧ k ≤ 16 ∧ 1 ≤ w ∧ w ≤ 32 ∧ 1 ≤ d ∧ d ≤ 5 ∧ RowAt h r ∧ ∀ p h', PlanOk p → (p.k : Int) ≤ k → (p.w : Int) ≤ w → (p.rows.length : Int) ≤ d → (∀ b, b ≠ r → h' b = h b) → RowAt h' r → Kn (.d (planD p)) h'
def sp_need_plan (a : Ad) : MSp := fun ds h Kn Kx => ∃ p, ds = [planD p] ∧ PlanOk p ∧ Kn (.d .non) h
def sp_need_key (a : Ad) : MSp := fun ds h Kn Kx => ∃ (p : Plan) (k : Nat), ds = [planD p, .int k] ∧ PlanOk p ∧ k < p.k ∧ Kn (.d .non) h
/-- plain data of at most that depth, no list longer than sizeLine -/
def alD : Nat → D → Bool
  | _, .non | _, .bl _ | _, .int _ => true
  | _, .str x => PyData.strOk x
  | n + 1, .tup xs => decide (xs.length ≤ sizeLine) && xs.all (alD n)
  | n + 1, .lst xs => decide (xs.length ≤ sizeLine) && xs.all (alD n)
  | _, _ => false
theorem al_pl : ∀ {n : Nat} {d : D}, alD n d = true → plD n d = true
  | 0, .non, _ => rfl
  | 0, .bl _, _ => rfl
  | 0, .int _, _ => rfl
  | 0, .str _, h => h
  | 0, .tup _, h => by cases h
  | 0, .lst _, h => by cases h
  | 0, .dct _, h => by cases h
  | 0, .ref _, h => by cases h
  | 0, .scr _, h => by cases h
  | _ + 1, .non, _ => rfl
  | _ + 1, .bl _, _ => rfl
  | _ + 1, .int _, _ => rfl
  | _ + 1, .str _, h => h
  | n + 1, .tup xs, h => by
    simp only [alD, plD, Bool.and_eq_true, List.all_eq_true] at h ⊢
    exact fun x hx => al_pl (h.2 x hx)
  | n + 1, .lst xs, h => by
    simp only [alD, plD, Bool.and_eq_true, List.all_eq_true] at h ⊢
    exact fun x hx => al_pl (h.2 x hx)
  | _ + 1, .dct _, h => by cases h
  | _ + 1, .ref _, h => by cases h
  | _ + 1, .scr _, h => by cases h
theorem alD_mono : ∀ {n : Nat} {d : D}, alD n d = true → alD (n + 1) d = true
  | 0, .non, _ => rfl
  | 0, .bl _, _ => rfl
  | 0, .int _, _ => rfl
  | 0, .str _, h => h
  | 0, .tup _, h => by cases h
  | 0, .lst _, h => by cases h
  | 0, .dct _, h => by cases h
  | 0, .ref _, h => by cases h
  | 0, .scr _, h => by cases h
  | _ + 1, .non, _ => rfl
  | _ + 1, .bl _, _ => rfl
  | _ + 1, .int _, _ => rfl
  | _ + 1, .str _, h => h
  | n + 1, .tup xs, h => by
    simp only [alD, Bool.and_eq_true, List.all_eq_true] at h ⊢
    exact ⟨h.1, fun x hx => alD_mono (h.2 x hx)⟩
  | n + 1, .lst xs, h => by
    simp only [alD, Bool.and_eq_true, List.all_eq_true] at h ⊢
    exact ⟨h.1, fun x hx => alD_mono (h.2 x hx)⟩
  | _ + 1, .dct _, h => by cases h
  | _ + 1, .ref _, h => by cases h
  | _ + 1, .scr _, h => by cases h
theorem alD_le {n m : Nat} {d : D} (h : alD n d = true) (l : n ≤ m) : alD m d = true := by
  induction l with
  | refl => exact h
  | step _ ih => exact alD_mono ih
def sp_law_alike (a : Ad) : Nat → MSp
  | 0 => fun _ _ _ _ => False
  | n + 1 => fun ds h Kn Kx => ∃ x y, ds = [x, y] ∧ res h x = res h y ∧ n ≤ 50 ∧ alD n (res h x) = true ∧ Kn (.d (.bl true)) h
def t_law_plan (a : Ad) : TSm :=
  (sSeq (sAsg (mTup (mCons (frzV (mOp gAdd (mC (.int 1)) (frzV (mFun (sp_law_taken a) [] (mCons (mVar 0) (mCons (mVar 1) mNil)))))) (mCons (frzV (mOp gAdd (mC (.int 1)) (frzV (mFun (sp_law_taken a) [] (mCons (mVar 0) (mCons (mVar 2) mNil)))))) (mCons (mTup mNil) mNil)))) (gT 3 (gsCons (gN 4) (gsCons (gN 5) (gsCons (gN 6) gsNil)))))
  (sSeq (sForget [7] (sFor (mRng1 (mCons (frzV (mOp gAdd (mC (.int 1)) (frzV (mFun (sp_law_taken a) [] (mCons (mVar 0) (mCons (mVar 3) mNil)))))) mNil)) (gN 7)
   (sForget [7] (sSet 6 (frzV (mOp gAdd (mVar 6) (mTup (mCons (frzV (mCall gTuple (mCons (frzV (mLc (mRng1 (mCons (mVar 4) mNil)) (gN 8) mYes (frzV (mFun (sp_law_taken a) [] (mCons (mVar 0) (mCons (mVar 5) mNil)))) [8])) mNil))) mNil))))))))
  (sRet (valE (mTup (mCons (mVar 4) (mCons (mVar 5) (mCons (mVar 6) mNil))))))))
def t_need_plan (a : Ad) : TSm :=
  (sSeq (sIf (mOrT (mNotT (mTst (mIsi [.tuple] (mVar 0)))) (mTst (frzV (mOp gNe (frzV (mCall gLen (mCons (mVar 0) mNil))) (mC (.int 3)))))) sNever sSkip)
  (sSeq (sAsg (mVar 0) (gT 3 (gsCons (gN 1) (gsCons (gN 2) (gsCons (gN 3) gsNil)))))
  (sSeq (sIf (mNotT (mTst (frzV (mFun (sp_is_number a) [] (mCons (mVar 1) (mCons (mC (.int 1)) (mCons (mC (.int 16)) mNil))))))) sNever sSkip)
  (sSeq (sIf (mNotT (mTst (frzV (mFun (sp_is_number a) [] (mCons (mVar 2) (mCons (mC (.int 1)) (mCons (mC (.int 32)) mNil))))))) sNever sSkip)
  (sSeq (sIf (mOrT (mNotT (mTst (mIsi [.tuple] (mVar 3)))) (mTst (frzV (mOp gEq (mVar 3) (mTup mNil))))) sNever sSkip)
  (sForget [4, 5] (sFor (mEnum (mCons (mVar 3) mNil)) (gT 2 (gsCons (gN 4) (gsCons (gN 5) gsNil)))
   (sForget [4, 5] (sSeq (sIf (mOrT (mTst (frzV (mOp gEq (mVar 4) (mC (.int 5))))) (mOrT (mNotT (mTst (mIsi [.tuple] (mVar 5)))) (mTst (frzV (mOp gNe (frzV (mCall gLen (mCons (mVar 5) mNil))) (mVar 1)))))) sNever sSkip)
  (sIf (mNotT (mTst (frzV (mCall gAll (mCons (frzV (mLc (mIter (mVar 5)) (gN 6) mYes (frzV (mFun (sp_is_number a) [] (mCons (mVar 6) (mCons (mC (.int 0)) (mCons (frzV (mOp gSub (mVar 2) (mC (.int 1)))) mNil))))) [6])) mNil))))) sNever sSkip))))))))))
def t_need_key (a : Ad) : TSm :=
  (sIf (mNotT (mTst (frzV (mFun (sp_is_number a) [] (mCons (mVar 1) (mCons (mC (.int 0)) (mCons (frzV (mOp gSub (frzV (mOp gIx (mVar 0) (mC (.int 0)))) (mC (.int 1)))) mNil))))))) sNever sSkip)
def t_law_alike (a : Ad) (k : Nat) : TSm :=
  (sSeq (sIf (mTst (mIsi [.tuple, .list] (mVar 1))) (sSeq (sIf (mOrT (mTst (frzV (mOp gNe (mIsi [.tuple] (mVar 0)) (mIsi [.tuple] (mVar 1))))) (mNotT (mTst (mIsi [.tuple, .list] (mVar 0))))) (sRet (valE (mC (.bl false)))) sSkip)
  (sSeq (sIf (mTst (frzV (mOp gNe (frzV (mCall gLen (mCons (mVar 0) mNil))) (frzV (mCall gLen (mCons (mVar 1) mNil)))))) (sRet (valE (mC (.bl false)))) sSkip)
  (sRet (mOp gEq (frzV (mLc (mRng1 (mCons (frzV (mCall gLen (mCons (mVar 1) mNil))) mNil)) (gN 3) (mNotT (mTst (frzV (mFun (sp_law_alike a k) [] (mCons (frzV (mOp gIx (mVar 0) (mVar 3))) (mCons (frzV (mOp gIx (mVar 1) (mVar 3))) mNil)))))) (mVar 3) [3])) (frzV (mLst mNil)))))) sSkip)
  (sSeq (sIf (mOrT (mTst (frzV (mOp (gIsN id) (mVar 1) (mC .non)))) (mTst (frzV (mOp (gIsN id) (mVar 0) (mC .non))))) (sRet (valE (mAndV (frzV (mOp (gIsN id) (mVar 1) (mC .non))) (frzV (mOp (gIsN id) (mVar 0) (mC .non)))))) sSkip)
  (sSeq (sSet 2 (frzV (mOp gEq (mIsi [.str] (mVar 1)) (mIsi [.str] (mVar 0)))))
  (sRet (valE (mAndV (mVar 2) (mAndV (frzV (mOp gEq (mIsi [.bool] (mVar 1)) (mIsi [.bool] (mVar 0)))) (frzV (mOp gEq (mVar 0) (mVar 1))))))))))
theorem rd_law_plan {a : Ad} (ds : List D) (h : MH) (Kn : RV → MH → Prop) (Kx : XKm) (q : sp_law_plan a ds h Kn Kx) : t_law_plan a (bodyN Kn Kx) (startE ["_law_row_here", "_law_keys", "_law_wide", "_law_deep", "_law_many", "_law_cells", "_law_rows", "_law_k", "_law_key"] ds) h := by
  obtain ⟨r, kk, ww, dd, rfl, k1, k2, w1, w2, d1, d2, hr, k⟩ := q
  show t_law_plan a (bodyN Kn Kx) [some (.ref r), some (.int kk), some (.int ww), some (.int dd), none, none, none, none, none] h
  unfold t_law_plan
  have big := line_big
  simp only [sSeq, sSet, sSkip, sForget, sFor, sIf, sRet, sRetN, sDrop, sSetI, sAsg, sPar, sFldM, sAug, frzV, valE, mVar, mC, mOp, mUn, mCall, mFun, mMeth, mMake, mFld, mTst, mNotT, mNotV, mAndV, mOrV, mAndT, mOrT, mIte, mNil, mCons, mTup, mLst, mChain, mIter_ap, mIsi_ap, mRng1, mRng2, mLc, mYes, mCell, mRel, mSl, oNo, oSome,
  gN, gT, gsCons, gsNil, frz_d, frz_l, frz_k, gIx_p, onSet_p, onQ_p, onL_p, gLen_p, onIns_p, put_put, atD_0, atD_1, atD_2, atD_3, atD_4, ixN_0, ixN_1, ixN_2, ixN_3, ixN_4, List.length_cons, List.length_nil, onBl_b, onInt_i, onTup_t, on1_1, on2_2, onQ_l, onQ_t, onQ_s, onL_l, onLs_l, onLs_s, onD_d, onOpt_s, gII, gB, gAdd_i, gAdd_s, gAdd_t, gAdd_l, gMul_i, gMul_l, gMul_t, gSub, gMod, gDiv, gPow, gNeg, gIx_l, gIx_t, gIx_s, gLen_l, gLen_t, gLen_s, gLen_d, iterD_t, iterD_l, iterD_s,
  kind_i, kind_b, kind_s, kind_n, kind_t, kind_l, gIsN, isNon, gTuple, gList, gAll, gAny, gSum, gMin, gMax, gMin2, gMax2, gAbs, gInt, gSorted,
  List.getElem?_cons_zero, List.getElem?_cons_succ, List.getElem?_nil, List.set_cons_zero, List.set_cons_succ, List.cons_append, List.nil_append, List.append_nil, wipeE, List.any_cons, List.any_nil, isK, Bool.or_false, Bool.false_or, Bool.or_true, Bool.true_or, Bool.not_true, Bool.not_false, if_true, if_false, Bool.false_eq_true, true_and, and_true, decide_eq_true_eq, id, reduceCtorEq]
  refine ⟨r, kk, rfl, by omega, by omega, hr, fun kn h1 a1 a2 f1 r1 => ?_⟩
  simp only [sSeq, sSet, sSkip, sForget, sFor, sIf, sRet, sRetN, sDrop, sSetI, sAsg, sPar, sFldM, sAug, frzV, valE, mVar, mC, mOp, mUn, mCall, mFun, mMeth, mMake, mFld, mTst, mNotT, mNotV, mAndV, mOrV, mAndT, mOrT, mIte, mNil, mCons, mTup, mLst, mChain, mIter_ap, mIsi_ap, mRng1, mRng2, mLc, mYes, mCell, mRel, mSl, oNo, oSome,
  gN, gT, gsCons, gsNil, frz_d, frz_l, frz_k, gIx_p, onSet_p, onQ_p, onL_p, gLen_p, onIns_p, put_put, atD_0, atD_1, atD_2, atD_3, atD_4, ixN_0, ixN_1, ixN_2, ixN_3, ixN_4, List.length_cons, List.length_nil, onBl_b, onInt_i, onTup_t, on1_1, on2_2, onQ_l, onQ_t, onQ_s, onL_l, onLs_l, onLs_s, onD_d, onOpt_s, gII, gB, gAdd_i, gAdd_s, gAdd_t, gAdd_l, gMul_i, gMul_l, gMul_t, gSub, gMod, gDiv, gPow, gNeg, gIx_l, gIx_t, gIx_s, gLen_l, gLen_t, gLen_s, gLen_d, iterD_t, iterD_l, iterD_s,
  kind_i, kind_b, kind_s, kind_n, kind_t, kind_l, gIsN, isNon, gTuple, gList, gAll, gAny, gSum, gMin, gMax, gMin2, gMax2, gAbs, gInt, gSorted,
  List.getElem?_cons_zero, List.getElem?_cons_succ, List.getElem?_nil, List.set_cons_zero, List.set_cons_succ, List.cons_append, List.nil_append, List.append_nil, wipeE, List.any_cons, List.any_nil, isK, Bool.or_false, Bool.false_or, Bool.or_true, Bool.true_or, Bool.not_true, Bool.not_false, if_true, if_false, Bool.false_eq_true, true_and, and_true, decide_eq_true_eq, id, reduceCtorEq]
  refine ⟨r, ww, rfl, by omega, by omega, r1, fun wn h2 b1 b2 f2 r2 => ?_⟩
  simp only [sSeq, sSet, sSkip, sForget, sFor, sIf, sRet, sRetN, sDrop, sSetI, sAsg, sPar, sFldM, sAug, frzV, valE, mVar, mC, mOp, mUn, mCall, mFun, mMeth, mMake, mFld, mTst, mNotT, mNotV, mAndV, mOrV, mAndT, mOrT, mIte, mNil, mCons, mTup, mLst, mChain, mIter_ap, mIsi_ap, mRng1, mRng2, mLc, mYes, mCell, mRel, mSl, oNo, oSome,
  gN, gT, gsCons, gsNil, frz_d, frz_l, frz_k, gIx_p, onSet_p, onQ_p, onL_p, gLen_p, onIns_p, put_put, atD_0, atD_1, atD_2, atD_3, atD_4, ixN_0, ixN_1, ixN_2, ixN_3, ixN_4, List.length_cons, List.length_nil, onBl_b, onInt_i, onTup_t, on1_1, on2_2, onQ_l, onQ_t, onQ_s, onL_l, onLs_l, onLs_s, onD_d, onOpt_s, gII, gB, gAdd_i, gAdd_s, gAdd_t, gAdd_l, gMul_i, gMul_l, gMul_t, gSub, gMod, gDiv, gPow, gNeg, gIx_l, gIx_t, gIx_s, gLen_l, gLen_t, gLen_s, gLen_d, iterD_t, iterD_l, iterD_s,
  kind_i, kind_b, kind_s, kind_n, kind_t, kind_l, gIsN, isNon, gTuple, gList, gAll, gAny, gSum, gMin, gMax, gMin2, gMax2, gAbs, gInt, gSorted,
  List.getElem?_cons_zero, List.getElem?_cons_succ, List.getElem?_nil, List.set_cons_zero, List.set_cons_succ, List.cons_append, List.nil_append, List.append_nil, wipeE, List.any_cons, List.any_nil, isK, Bool.or_false, Bool.false_or, Bool.or_true, Bool.true_or, Bool.not_true, Bool.not_false, if_true, if_false, Bool.false_eq_true, true_and, and_true, decide_eq_true_eq, id, reduceCtorEq]
  refine ⟨by omega, by omega, r, dd, rfl, by omega, by omega, r2, fun dn h3 c1 c2 f3 r3 => ?_⟩
  simp only [sSeq, sSet, sSkip, sForget, sFor, sIf, sRet, sRetN, sDrop, sSetI, sAsg, sPar, sFldM, sAug, frzV, valE, mVar, mC, mOp, mUn, mCall, mFun, mMeth, mMake, mFld, mTst, mNotT, mNotV, mAndV, mOrV, mAndT, mOrT, mIte, mNil, mCons, mTup, mLst, mChain, mIter_ap, mIsi_ap, mRng1, mRng2, mLc, mYes, mCell, mRel, mSl, oNo, oSome,
  gN, gT, gsCons, gsNil, frz_d, frz_l, frz_k, gIx_p, onSet_p, onQ_p, onL_p, gLen_p, onIns_p, put_put, atD_0, atD_1, atD_2, atD_3, atD_4, ixN_0, ixN_1, ixN_2, ixN_3, ixN_4, List.length_cons, List.length_nil, onBl_b, onInt_i, onTup_t, on1_1, on2_2, onQ_l, onQ_t, onQ_s, onL_l, onLs_l, onLs_s, onD_d, onOpt_s, gII, gB, gAdd_i, gAdd_s, gAdd_t, gAdd_l, gMul_i, gMul_l, gMul_t, gSub, gMod, gDiv, gPow, gNeg, gIx_l, gIx_t, gIx_s, gLen_l, gLen_t, gLen_s, gLen_d, iterD_t, iterD_l, iterD_s,
  kind_i, kind_b, kind_s, kind_n, kind_t, kind_l, gIsN, isNon, gTuple, gList, gAll, gAny, gSum, gMin, gMax, gMin2, gMax2, gAbs, gInt, gSorted,
  List.getElem?_cons_zero, List.getElem?_cons_succ, List.getElem?_nil, List.set_cons_zero, List.set_cons_succ, List.cons_append, List.nil_append, List.append_nil, wipeE, List.any_cons, List.any_nil, isK, Bool.or_false, Bool.false_or, Bool.or_true, Bool.true_or, Bool.not_true, Bool.not_false, if_true, if_false, Bool.false_eq_true, true_and, and_true, decide_eq_true_eq, id, reduceCtorEq]
  refine ⟨by omega, ?_⟩
  obtain ⟨kn, rfl⟩ := Int.eq_ofNat_of_zero_le a1
  obtain ⟨wn, rfl⟩ := Int.eq_ofNat_of_zero_le b1
  obtain ⟨dn, rfl⟩ := Int.eq_ofNat_of_zero_le c1
  have e1 : (1 + (dn : Int)).toNat = dn + 1 := by omega
  rw [e1]
  refine for_inv (fun i E h' => ∃ rows : List (List Int), rows.length = i ∧ (∀ r ∈ rows, r.length = kn + 1) ∧ (∀ r ∈ rows, ∀ c ∈ r, 0 ≤ c ∧ c < (wn : Int) + 1) ∧ RowAt h' r ∧ (∀ b, b ≠ r → h' b = h b) ∧
      E = [some (.ref r), some (.int kk), some (.int ww), some (.int dd), some (.int (1 + kn)), some (.int (1 + wn)), some (.tup (rows.map fun r => .tup (r.map D.int))), none, none]) ⟨[], rfl, by simp, by simp, r3, fun b hb => by rw [f3 b hb, f2 b hb, f1 b hb], rfl⟩ ?_ ?_
  · rintro i d E h4 kc hi ⟨rows, li, lr, lc, rh, fr, rfl⟩ hk
    obtain ⟨hi, rfl⟩ := rng_get hi
    simp only [sSeq, sSet, sSkip, sForget, sFor, sIf, sRet, sRetN, sDrop, sSetI, sAsg, sPar, sFldM, sAug, frzV, valE, mVar, mC, mOp, mUn, mCall, mFun, mMeth, mMake, mFld, mTst, mNotT, mNotV, mAndV, mOrV, mAndT, mOrT, mIte, mNil, mCons, mTup, mLst, mChain, mIter_ap, mIsi_ap, mRng1, mRng2, mLc, mYes, mCell, mRel, mSl, oNo, oSome,
  gN, gT, gsCons, gsNil, frz_d, frz_l, frz_k, gIx_p, onSet_p, onQ_p, onL_p, gLen_p, onIns_p, put_put, atD_0, atD_1, atD_2, atD_3, atD_4, ixN_0, ixN_1, ixN_2, ixN_3, ixN_4, List.length_cons, List.length_nil, onBl_b, onInt_i, onTup_t, on1_1, on2_2, onQ_l, onQ_t, onQ_s, onL_l, onLs_l, onLs_s, onD_d, onOpt_s, gII, gB, gAdd_i, gAdd_s, gAdd_t, gAdd_l, gMul_i, gMul_l, gMul_t, gSub, gMod, gDiv, gPow, gNeg, gIx_l, gIx_t, gIx_s, gLen_l, gLen_t, gLen_s, gLen_d, iterD_t, iterD_l, iterD_s,
  kind_i, kind_b, kind_s, kind_n, kind_t, kind_l, gIsN, isNon, gTuple, gList, gAll, gAny, gSum, gMin, gMax, gMin2, gMax2, gAbs, gInt, gSorted,
  List.getElem?_cons_zero, List.getElem?_cons_succ, List.getElem?_nil, List.set_cons_zero, List.set_cons_succ, List.cons_append, List.nil_append, List.append_nil, wipeE, List.any_cons, List.any_nil, isK, Bool.or_false, Bool.false_or, Bool.or_true, Bool.true_or, Bool.not_true, Bool.not_false, if_true, if_false, Bool.false_eq_true, true_and, and_true, decide_eq_true_eq, id, reduceCtorEq]
    refine ⟨by omega, ?_⟩
    have e2 : (1 + (kn : Int)).toNat = kn + 1 := by omega
    rw [e2]
    refine lc_inv (fun j acc h' => ∃ cs : List Int, acc = cs.map D.int ∧ cs.length = j ∧ (∀ c ∈ cs, 0 ≤ c ∧ c < (wn : Int) + 1) ∧ RowAt h' r ∧ (∀ b, b ≠ r → h' b = h b)) ⟨[], rfl, rfl, by simp, rh, fr⟩ ?_ ?_
    · rintro j d acc h5 kc2 hj ⟨cs, rfl, lj, cb, rh5, fr5⟩ hk2
      obtain ⟨hj, rfl⟩ := rng_get hj
      simp only [sSeq, sSet, sSkip, sForget, sFor, sIf, sRet, sRetN, sDrop, sSetI, sAsg, sPar, sFldM, sAug, frzV, valE, mVar, mC, mOp, mUn, mCall, mFun, mMeth, mMake, mFld, mTst, mNotT, mNotV, mAndV, mOrV, mAndT, mOrT, mIte, mNil, mCons, mTup, mLst, mChain, mIter_ap, mIsi_ap, mRng1, mRng2, mLc, mYes, mCell, mRel, mSl, oNo, oSome,
  gN, gT, gsCons, gsNil, frz_d, frz_l, frz_k, gIx_p, onSet_p, onQ_p, onL_p, gLen_p, onIns_p, put_put, atD_0, atD_1, atD_2, atD_3, atD_4, ixN_0, ixN_1, ixN_2, ixN_3, ixN_4, List.length_cons, List.length_nil, onBl_b, onInt_i, onTup_t, on1_1, on2_2, onQ_l, onQ_t, onQ_s, onL_l, onLs_l, onLs_s, onD_d, onOpt_s, gII, gB, gAdd_i, gAdd_s, gAdd_t, gAdd_l, gMul_i, gMul_l, gMul_t, gSub, gMod, gDiv, gPow, gNeg, gIx_l, gIx_t, gIx_s, gLen_l, gLen_t, gLen_s, gLen_d, iterD_t, iterD_l, iterD_s,
  kind_i, kind_b, kind_s, kind_n, kind_t, kind_l, gIsN, isNon, gTuple, gList, gAll, gAny, gSum, gMin, gMax, gMin2, gMax2, gAbs, gInt, gSorted,
  List.getElem?_cons_zero, List.getElem?_cons_succ, List.getElem?_nil, List.set_cons_zero, List.set_cons_succ, List.cons_append, List.nil_append, List.append_nil, wipeE, List.any_cons, List.any_nil, isK, Bool.or_false, Bool.false_or, Bool.or_true, Bool.true_or, Bool.not_true, Bool.not_false, if_true, if_false, Bool.false_eq_true, true_and, and_true, decide_eq_true_eq, id, reduceCtorEq]
      refine ⟨r, 1 + wn, rfl, by omega, by omega, rh5, fun v h6 v1 v2 f6 r6 => ⟨by simp only [List.length_map]; omega, hk2 _ _ ⟨cs ++ [v], by simp [RV.frz], by simp [lj], ?_, r6, fun b hb => by rw [f6 b hb, fr5 b hb]⟩⟩⟩
      intro c hc
      rcases List.mem_append.mp hc with hc | hc
      · exact cb c hc
      · simp at hc
        omega
    · rintro acc h5 ⟨cs, rfl, lj, cb, rh5, fr5⟩
      rw [rng_len] at lj
      have e5 : rows.length < dn + 1 := by omega
      refine ⟨by omega, by simp; omega, hk _ _ ⟨rows ++ [cs], by simp [li], ?_, ?_, rh5, fr5, by simp⟩⟩
      · intro c hc
        rcases List.mem_append.mp hc with hc | hc
        · exact lr c hc
        · simp at hc
          rw [hc]
          omega
      · intro c hc
        rcases List.mem_append.mp hc with hc | hc
        · exact lc c hc
        · simp at hc
          rw [hc]
          exact cb
  · rintro E h4 ⟨rows, li, lr, lc, rh, fr, rfl⟩
    rw [rng_len] at li
    simp only [sSeq, sSet, sSkip, sForget, sFor, sIf, sRet, sRetN, sDrop, sSetI, sAsg, sPar, sFldM, sAug, frzV, valE, mVar, mC, mOp, mUn, mCall, mFun, mMeth, mMake, mFld, mTst, mNotT, mNotV, mAndV, mOrV, mAndT, mOrT, mIte, mNil, mCons, mTup, mLst, mChain, mIter_ap, mIsi_ap, mRng1, mRng2, mLc, mYes, mCell, mRel, mSl, oNo, oSome,
  gN, gT, gsCons, gsNil, frz_d, frz_l, frz_k, gIx_p, onSet_p, onQ_p, onL_p, gLen_p, onIns_p, put_put, atD_0, atD_1, atD_2, atD_3, atD_4, ixN_0, ixN_1, ixN_2, ixN_3, ixN_4, List.length_cons, List.length_nil, onBl_b, onInt_i, onTup_t, on1_1, on2_2, onQ_l, onQ_t, onQ_s, onL_l, onLs_l, onLs_s, onD_d, onOpt_s, gII, gB, gAdd_i, gAdd_s, gAdd_t, gAdd_l, gMul_i, gMul_l, gMul_t, gSub, gMod, gDiv, gPow, gNeg, gIx_l, gIx_t, gIx_s, gLen_l, gLen_t, gLen_s, gLen_d, iterD_t, iterD_l, iterD_s,
  kind_i, kind_b, kind_s, kind_n, kind_t, kind_l, gIsN, isNon, gTuple, gList, gAll, gAny, gSum, gMin, gMax, gMin2, gMax2, gAbs, gInt, gSorted,
  List.getElem?_cons_zero, List.getElem?_cons_succ, List.getElem?_nil, List.set_cons_zero, List.set_cons_succ, List.cons_append, List.nil_append, List.append_nil, wipeE, List.any_cons, List.any_nil, isK, Bool.or_false, Bool.false_or, Bool.or_true, Bool.true_or, Bool.not_true, Bool.not_false, if_true, if_false, Bool.false_eq_true, true_and, and_true, decide_eq_true_eq, id, reduceCtorEq]
    have e3 : (1 + (kn : Int)) = ((kn + 1 : Nat) : Int) := by omega
    have e4 : (1 + (wn : Int)) = ((wn + 1 : Nat) : Int) := by omega
    rw [e3, e4]
    refine ⟨by omega, bodyN_rt0 (k ⟨kn + 1, wn + 1, rows⟩ h4 ⟨by show 1 ≤ kn + 1; omega, by show kn + 1 ≤ 16; omega, by show 1 ≤ wn + 1; omega, by show wn + 1 ≤ 32; omega, by show 1 ≤ rows.length; omega, by show rows.length ≤ 5; omega, lr, fun r hr c hc => by have := lc r hr c hc; show 0 ≤ c ∧ c < ((wn + 1 : Nat) : Int); omega⟩ ?_ ?_ ?_ fr rh)⟩
    · show ((kn + 1 : Nat) : Int) ≤ kk; omega
    · show ((wn + 1 : Nat) : Int) ≤ ww; omega
    · show (rows.length : Int) ≤ dd; omega

theorem rd_need_plan {a : Ad} (ds : List D) (h : MH) (Kn : RV → MH → Prop) (Kx : XKm) (q : sp_need_plan a ds h Kn Kx) : t_need_plan a (bodyN Kn Kx) (startE ["plan", "keys", "wide", "rows", "number", "row", "cell"] ds) h := by
  obtain ⟨p, rfl, ok, k⟩ := q
  show t_need_plan a (bodyN Kn Kx) [some (planD p), none, none, none, none, none, none] h
  have big := line_big
  obtain ⟨k1, k2, w1, w2, r1, r2, len, cell⟩ := ok
  unfold t_need_plan planD
  simp only [sSeq, sSet, sSkip, sForget, sFor, sIf, sRet, sRetN, sDrop, sSetI, sAsg, sPar, sFldM, sAug, frzV, valE, mVar, mC, mOp, mUn, mCall, mFun, mMeth, mMake, mFld, mTst, mNotT, mNotV, mAndV, mOrV, mAndT, mOrT, mIte, mNil, mCons, mTup, mLst, mChain, mIter_ap, mIsi_ap, mRng1, mRng2, mLc, mYes, mCell, mRel, mSl, oNo, oSome,
  gN, gT, gsCons, gsNil, frz_d, frz_l, frz_k, gIx_p, onSet_p, onQ_p, onL_p, gLen_p, onIns_p, put_put, atD_0, atD_1, atD_2, atD_3, atD_4, ixN_0, ixN_1, ixN_2, ixN_3, ixN_4, List.length_cons, List.length_nil, onBl_b, onInt_i, onTup_t, on1_1, on2_2, onQ_l, onQ_t, onQ_s, onL_l, onLs_l, onLs_s, onD_d, onOpt_s, gII, gB, gAdd_i, gAdd_s, gAdd_t, gAdd_l, gMul_i, gMul_l, gMul_t, gSub, gMod, gDiv, gPow, gNeg, gIx_l, gIx_t, gIx_s, gLen_l, gLen_t, gLen_s, gLen_d, iterD_t, iterD_l, iterD_s,
  kind_i, kind_b, kind_s, kind_n, kind_t, kind_l, gIsN, isNon, gTuple, gList, gAll, gAny, gSum, gMin, gMax, gMin2, gMax2, gAbs, gInt, gSorted,
  List.getElem?_cons_zero, List.getElem?_cons_succ, List.getElem?_nil, List.set_cons_zero, List.set_cons_succ, List.cons_append, List.nil_append, List.append_nil, wipeE, List.any_cons, List.any_nil, isK, Bool.or_false, Bool.false_or, Bool.or_true, Bool.true_or, Bool.not_true, Bool.not_false, if_true, if_false, Bool.false_eq_true, true_and, and_true, decide_eq_true_eq, id, reduceCtorEq, gEq_i, gNe_i, gEq_b, gNe_b, gEq_li, gNe_li, gEq_l0, gNe_l0, gEq_00, gNe_00, gEq_ti, gNe_ti, mEnum, Nat.zero_add, Nat.reduceAdd, Int.reduceEq, Int.cast_ofNat_Int, Nat.zero_le, sz1, sz2, sz3, sz4, sz5, sz6, decide_true, decide_false]
  refine is_num (by omega) (by omega) ?_
  simp only [sSeq, sSet, sSkip, sForget, sFor, sIf, sRet, sRetN, sDrop, sSetI, sAsg, sPar, sFldM, sAug, frzV, valE, mVar, mC, mOp, mUn, mCall, mFun, mMeth, mMake, mFld, mTst, mNotT, mNotV, mAndV, mOrV, mAndT, mOrT, mIte, mNil, mCons, mTup, mLst, mChain, mIter_ap, mIsi_ap, mRng1, mRng2, mLc, mYes, mCell, mRel, mSl, oNo, oSome,
  gN, gT, gsCons, gsNil, frz_d, frz_l, frz_k, gIx_p, onSet_p, onQ_p, onL_p, gLen_p, onIns_p, put_put, atD_0, atD_1, atD_2, atD_3, atD_4, ixN_0, ixN_1, ixN_2, ixN_3, ixN_4, List.length_cons, List.length_nil, onBl_b, onInt_i, onTup_t, on1_1, on2_2, onQ_l, onQ_t, onQ_s, onL_l, onLs_l, onLs_s, onD_d, onOpt_s, gII, gB, gAdd_i, gAdd_s, gAdd_t, gAdd_l, gMul_i, gMul_l, gMul_t, gSub, gMod, gDiv, gPow, gNeg, gIx_l, gIx_t, gIx_s, gLen_l, gLen_t, gLen_s, gLen_d, iterD_t, iterD_l, iterD_s,
  kind_i, kind_b, kind_s, kind_n, kind_t, kind_l, gIsN, isNon, gTuple, gList, gAll, gAny, gSum, gMin, gMax, gMin2, gMax2, gAbs, gInt, gSorted,
  List.getElem?_cons_zero, List.getElem?_cons_succ, List.getElem?_nil, List.set_cons_zero, List.set_cons_succ, List.cons_append, List.nil_append, List.append_nil, wipeE, List.any_cons, List.any_nil, isK, Bool.or_false, Bool.false_or, Bool.or_true, Bool.true_or, Bool.not_true, Bool.not_false, if_true, if_false, Bool.false_eq_true, true_and, and_true, decide_eq_true_eq, id, reduceCtorEq, gEq_i, gNe_i, gEq_b, gNe_b, gEq_li, gNe_li, gEq_l0, gNe_l0, gEq_00, gNe_00, gEq_ti, gNe_ti, mEnum, Nat.zero_add, Nat.reduceAdd, Int.reduceEq, Int.cast_ofNat_Int, Nat.zero_le, sz1, sz2, sz3, sz4, sz5, sz6, decide_true, decide_false]
  refine is_num (by omega) (by omega) ?_
  simp only [sSeq, sSet, sSkip, sForget, sFor, sIf, sRet, sRetN, sDrop, sSetI, sAsg, sPar, sFldM, sAug, frzV, valE, mVar, mC, mOp, mUn, mCall, mFun, mMeth, mMake, mFld, mTst, mNotT, mNotV, mAndV, mOrV, mAndT, mOrT, mIte, mNil, mCons, mTup, mLst, mChain, mIter_ap, mIsi_ap, mRng1, mRng2, mLc, mYes, mCell, mRel, mSl, oNo, oSome,
  gN, gT, gsCons, gsNil, frz_d, frz_l, frz_k, gIx_p, onSet_p, onQ_p, onL_p, gLen_p, onIns_p, put_put, atD_0, atD_1, atD_2, atD_3, atD_4, ixN_0, ixN_1, ixN_2, ixN_3, ixN_4, List.length_cons, List.length_nil, onBl_b, onInt_i, onTup_t, on1_1, on2_2, onQ_l, onQ_t, onQ_s, onL_l, onLs_l, onLs_s, onD_d, onOpt_s, gII, gB, gAdd_i, gAdd_s, gAdd_t, gAdd_l, gMul_i, gMul_l, gMul_t, gSub, gMod, gDiv, gPow, gNeg, gIx_l, gIx_t, gIx_s, gLen_l, gLen_t, gLen_s, gLen_d, iterD_t, iterD_l, iterD_s,
  kind_i, kind_b, kind_s, kind_n, kind_t, kind_l, gIsN, isNon, gTuple, gList, gAll, gAny, gSum, gMin, gMax, gMin2, gMax2, gAbs, gInt, gSorted,
  List.getElem?_cons_zero, List.getElem?_cons_succ, List.getElem?_nil, List.set_cons_zero, List.set_cons_succ, List.cons_append, List.nil_append, List.append_nil, wipeE, List.any_cons, List.any_nil, isK, Bool.or_false, Bool.false_or, Bool.or_true, Bool.true_or, Bool.not_true, Bool.not_false, if_true, if_false, Bool.false_eq_true, true_and, and_true, decide_eq_true_eq, id, reduceCtorEq, gEq_i, gNe_i, gEq_b, gNe_b, gEq_li, gNe_li, gEq_l0, gNe_l0, gEq_00, gNe_00, gEq_ti, gNe_ti, mEnum, Nat.zero_add, Nat.reduceAdd, Int.reduceEq, Int.cast_ofNat_Int, Nat.zero_le, sz1, sz2, sz3, sz4, sz5, sz6, decide_true, decide_false, gEq_t0 eqOk_rows]
  have e0 : (p.rows.map fun r => D.tup (r.map D.int)).isEmpty = false := by
    rw [List.isEmpty_map]
    cases e : p.rows with
    | nil => rw [e] at r1; simp at r1
    | cons _ _ => rfl
  rw [e0]
  simp only [sSeq, sSet, sSkip, sForget, sFor, sIf, sRet, sRetN, sDrop, sSetI, sAsg, sPar, sFldM, sAug, frzV, valE, mVar, mC, mOp, mUn, mCall, mFun, mMeth, mMake, mFld, mTst, mNotT, mNotV, mAndV, mOrV, mAndT, mOrT, mIte, mNil, mCons, mTup, mLst, mChain, mIter_ap, mIsi_ap, mRng1, mRng2, mLc, mYes, mCell, mRel, mSl, oNo, oSome,
  gN, gT, gsCons, gsNil, frz_d, frz_l, frz_k, gIx_p, onSet_p, onQ_p, onL_p, gLen_p, onIns_p, put_put, atD_0, atD_1, atD_2, atD_3, atD_4, ixN_0, ixN_1, ixN_2, ixN_3, ixN_4, List.length_cons, List.length_nil, onBl_b, onInt_i, onTup_t, on1_1, on2_2, onQ_l, onQ_t, onQ_s, onL_l, onLs_l, onLs_s, onD_d, onOpt_s, gII, gB, gAdd_i, gAdd_s, gAdd_t, gAdd_l, gMul_i, gMul_l, gMul_t, gSub, gMod, gDiv, gPow, gNeg, gIx_l, gIx_t, gIx_s, gLen_l, gLen_t, gLen_s, gLen_d, iterD_t, iterD_l, iterD_s,
  kind_i, kind_b, kind_s, kind_n, kind_t, kind_l, gIsN, isNon, gTuple, gList, gAll, gAny, gSum, gMin, gMax, gMin2, gMax2, gAbs, gInt, gSorted,
  List.getElem?_cons_zero, List.getElem?_cons_succ, List.getElem?_nil, List.set_cons_zero, List.set_cons_succ, List.cons_append, List.nil_append, List.append_nil, wipeE, List.any_cons, List.any_nil, isK, Bool.or_false, Bool.false_or, Bool.or_true, Bool.true_or, Bool.not_true, Bool.not_false, if_true, if_false, Bool.false_eq_true, true_and, and_true, decide_eq_true_eq, id, reduceCtorEq, gEq_i, gNe_i, gEq_b, gNe_b, gEq_li, gNe_li, gEq_l0, gNe_l0, gEq_00, gNe_00, gEq_ti, gNe_ti, mEnum, Nat.zero_add, Nat.reduceAdd, Int.reduceEq, Int.cast_ofNat_Int, Nat.zero_le, sz1, sz2, sz3, sz4, sz5, sz6, decide_true, decide_false]
  refine for_inv (fun i E h' => h' = h ∧ E = [some (planD p), some (.int p.k), some (.int p.w), some (.tup (p.rows.map fun r => .tup (r.map D.int))), none, none, none]) ⟨rfl, rfl⟩ ?_ ?_
  · rintro i d E h2 kc hi ⟨rfl, rfl⟩ hk
    obtain ⟨x, hx, rfl⟩ := enum_get hi
    rw [List.getElem?_map] at hx
    cases er : p.rows[i]? with
    | none => rw [er] at hx; cases hx
    | some row =>
      rw [er] at hx
      obtain rfl := Option.some.inj hx
      obtain ⟨il, e⟩ := List.getElem?_eq_some_iff.mp er
      have mr : row ∈ p.rows := e ▸ List.getElem_mem il
      have l5 : ¬ ((i : Int) = 5) := by omega
      have lk : ((row.length : Nat) : Int) = p.k := by rw [len row mr]
      simp only [sSeq, sSet, sSkip, sForget, sFor, sIf, sRet, sRetN, sDrop, sSetI, sAsg, sPar, sFldM, sAug, frzV, valE, mVar, mC, mOp, mUn, mCall, mFun, mMeth, mMake, mFld, mTst, mNotT, mNotV, mAndV, mOrV, mAndT, mOrT, mIte, mNil, mCons, mTup, mLst, mChain, mIter_ap, mIsi_ap, mRng1, mRng2, mLc, mYes, mCell, mRel, mSl, oNo, oSome,
  gN, gT, gsCons, gsNil, frz_d, frz_l, frz_k, gIx_p, onSet_p, onQ_p, onL_p, gLen_p, onIns_p, put_put, atD_0, atD_1, atD_2, atD_3, atD_4, ixN_0, ixN_1, ixN_2, ixN_3, ixN_4, List.length_cons, List.length_nil, onBl_b, onInt_i, onTup_t, on1_1, on2_2, onQ_l, onQ_t, onQ_s, onL_l, onLs_l, onLs_s, onD_d, onOpt_s, gII, gB, gAdd_i, gAdd_s, gAdd_t, gAdd_l, gMul_i, gMul_l, gMul_t, gSub, gMod, gDiv, gPow, gNeg, gIx_l, gIx_t, gIx_s, gLen_l, gLen_t, gLen_s, gLen_d, iterD_t, iterD_l, iterD_s,
  kind_i, kind_b, kind_s, kind_n, kind_t, kind_l, gIsN, isNon, gTuple, gList, gAll, gAny, gSum, gMin, gMax, gMin2, gMax2, gAbs, gInt, gSorted,
  List.getElem?_cons_zero, List.getElem?_cons_succ, List.getElem?_nil, List.set_cons_zero, List.set_cons_succ, List.cons_append, List.nil_append, List.append_nil, wipeE, List.any_cons, List.any_nil, isK, Bool.or_false, Bool.false_or, Bool.or_true, Bool.true_or, Bool.not_true, Bool.not_false, if_true, if_false, Bool.false_eq_true, true_and, and_true, decide_eq_true_eq, id, reduceCtorEq, gEq_i, gNe_i, gEq_b, gNe_b, gEq_li, gNe_li, gEq_l0, gNe_l0, gEq_00, gNe_00, gEq_ti, gNe_ti, mEnum, Nat.zero_add, Nat.reduceAdd, Int.reduceEq, Int.cast_ofNat_Int, Nat.zero_le, sz1, sz2, sz3, sz4, sz5, sz6, decide_true, decide_false, l5, List.length_map, lk]
      refine lc_map (fun _ => .bl true) (by rw [List.length_map, len row mr]; omega) ?_ ?_
      · intro d hd acc kc2 ha q
        obtain ⟨c, hc, rfl⟩ := List.mem_map.mp hd
        have hcc := cell row mr c hc
        simp only [sSeq, sSet, sSkip, sForget, sFor, sIf, sRet, sRetN, sDrop, sSetI, sAsg, sPar, sFldM, sAug, frzV, valE, mVar, mC, mOp, mUn, mCall, mFun, mMeth, mMake, mFld, mTst, mNotT, mNotV, mAndV, mOrV, mAndT, mOrT, mIte, mNil, mCons, mTup, mLst, mChain, mIter_ap, mIsi_ap, mRng1, mRng2, mLc, mYes, mCell, mRel, mSl, oNo, oSome,
  gN, gT, gsCons, gsNil, frz_d, frz_l, frz_k, gIx_p, onSet_p, onQ_p, onL_p, gLen_p, onIns_p, put_put, atD_0, atD_1, atD_2, atD_3, atD_4, ixN_0, ixN_1, ixN_2, ixN_3, ixN_4, List.length_cons, List.length_nil, onBl_b, onInt_i, onTup_t, on1_1, on2_2, onQ_l, onQ_t, onQ_s, onL_l, onLs_l, onLs_s, onD_d, onOpt_s, gII, gB, gAdd_i, gAdd_s, gAdd_t, gAdd_l, gMul_i, gMul_l, gMul_t, gSub, gMod, gDiv, gPow, gNeg, gIx_l, gIx_t, gIx_s, gLen_l, gLen_t, gLen_s, gLen_d, iterD_t, iterD_l, iterD_s,
  kind_i, kind_b, kind_s, kind_n, kind_t, kind_l, gIsN, isNon, gTuple, gList, gAll, gAny, gSum, gMin, gMax, gMin2, gMax2, gAbs, gInt, gSorted,
  List.getElem?_cons_zero, List.getElem?_cons_succ, List.getElem?_nil, List.set_cons_zero, List.set_cons_succ, List.cons_append, List.nil_append, List.append_nil, wipeE, List.any_cons, List.any_nil, isK, Bool.or_false, Bool.false_or, Bool.or_true, Bool.true_or, Bool.not_true, Bool.not_false, if_true, if_false, Bool.false_eq_true, true_and, and_true, decide_eq_true_eq, id, reduceCtorEq, gEq_i, gNe_i, gEq_b, gNe_b, gEq_li, gNe_li, gEq_l0, gNe_l0, gEq_00, gNe_00, gEq_ti, gNe_ti, mEnum, Nat.zero_add, Nat.reduceAdd, Int.reduceEq, Int.cast_ofNat_Int, Nat.zero_le, sz1, sz2, sz3, sz4, sz5, sz6, decide_true, decide_false]
        refine is_num (by omega) (by omega) ⟨ha, q⟩
      · have e1 : (row.map D.int).map (fun _ => D.bl true) = (List.replicate row.length true).map D.bl := by
          rw [List.map_map, List.map_replicate]
          exact List.map_const' ..
        rw [e1]
        simp only [sSeq, sSet, sSkip, sForget, sFor, sIf, sRet, sRetN, sDrop, sSetI, sAsg, sPar, sFldM, sAug, frzV, valE, mVar, mC, mOp, mUn, mCall, mFun, mMeth, mMake, mFld, mTst, mNotT, mNotV, mAndV, mOrV, mAndT, mOrT, mIte, mNil, mCons, mTup, mLst, mChain, mIter_ap, mIsi_ap, mRng1, mRng2, mLc, mYes, mCell, mRel, mSl, oNo, oSome,
  gN, gT, gsCons, gsNil, frz_d, frz_l, frz_k, gIx_p, onSet_p, onQ_p, onL_p, gLen_p, onIns_p, put_put, atD_0, atD_1, atD_2, atD_3, atD_4, ixN_0, ixN_1, ixN_2, ixN_3, ixN_4, List.length_cons, List.length_nil, onBl_b, onInt_i, onTup_t, on1_1, on2_2, onQ_l, onQ_t, onQ_s, onL_l, onLs_l, onLs_s, onD_d, onOpt_s, gII, gB, gAdd_i, gAdd_s, gAdd_t, gAdd_l, gMul_i, gMul_l, gMul_t, gSub, gMod, gDiv, gPow, gNeg, gIx_l, gIx_t, gIx_s, gLen_l, gLen_t, gLen_s, gLen_d, iterD_t, iterD_l, iterD_s,
  kind_i, kind_b, kind_s, kind_n, kind_t, kind_l, gIsN, isNon, gTuple, gList, gAll, gAny, gSum, gMin, gMax, gMin2, gMax2, gAbs, gInt, gSorted,
  List.getElem?_cons_zero, List.getElem?_cons_succ, List.getElem?_nil, List.set_cons_zero, List.set_cons_succ, List.cons_append, List.nil_append, List.append_nil, wipeE, List.any_cons, List.any_nil, isK, Bool.or_false, Bool.false_or, Bool.or_true, Bool.true_or, Bool.not_true, Bool.not_false, if_true, if_false, Bool.false_eq_true, true_and, and_true, decide_eq_true_eq, id, reduceCtorEq, gEq_i, gNe_i, gEq_b, gNe_b, gEq_li, gNe_li, gEq_l0, gNe_l0, gEq_00, gNe_00, gEq_ti, gNe_ti, mEnum, Nat.zero_add, Nat.reduceAdd, Int.reduceEq, Int.cast_ofNat_Int, Nat.zero_le, sz1, sz2, sz3, sz4, sz5, sz6, decide_true, decide_false, onBls_map]
        have e2 : (List.replicate row.length true).all id = true := by simp
        rw [e2]
        simp only [sSeq, sSet, sSkip, sForget, sFor, sIf, sRet, sRetN, sDrop, sSetI, sAsg, sPar, sFldM, sAug, frzV, valE, mVar, mC, mOp, mUn, mCall, mFun, mMeth, mMake, mFld, mTst, mNotT, mNotV, mAndV, mOrV, mAndT, mOrT, mIte, mNil, mCons, mTup, mLst, mChain, mIter_ap, mIsi_ap, mRng1, mRng2, mLc, mYes, mCell, mRel, mSl, oNo, oSome,
  gN, gT, gsCons, gsNil, frz_d, frz_l, frz_k, gIx_p, onSet_p, onQ_p, onL_p, gLen_p, onIns_p, put_put, atD_0, atD_1, atD_2, atD_3, atD_4, ixN_0, ixN_1, ixN_2, ixN_3, ixN_4, List.length_cons, List.length_nil, onBl_b, onInt_i, onTup_t, on1_1, on2_2, onQ_l, onQ_t, onQ_s, onL_l, onLs_l, onLs_s, onD_d, onOpt_s, gII, gB, gAdd_i, gAdd_s, gAdd_t, gAdd_l, gMul_i, gMul_l, gMul_t, gSub, gMod, gDiv, gPow, gNeg, gIx_l, gIx_t, gIx_s, gLen_l, gLen_t, gLen_s, gLen_d, iterD_t, iterD_l, iterD_s,
  kind_i, kind_b, kind_s, kind_n, kind_t, kind_l, gIsN, isNon, gTuple, gList, gAll, gAny, gSum, gMin, gMax, gMin2, gMax2, gAbs, gInt, gSorted,
  List.getElem?_cons_zero, List.getElem?_cons_succ, List.getElem?_nil, List.set_cons_zero, List.set_cons_succ, List.cons_append, List.nil_append, List.append_nil, wipeE, List.any_cons, List.any_nil, isK, Bool.or_false, Bool.false_or, Bool.or_true, Bool.true_or, Bool.not_true, Bool.not_false, if_true, if_false, Bool.false_eq_true, true_and, and_true, decide_eq_true_eq, id, reduceCtorEq, gEq_i, gNe_i, gEq_b, gNe_b, gEq_li, gNe_li, gEq_l0, gNe_l0, gEq_00, gNe_00, gEq_ti, gNe_ti, mEnum, Nat.zero_add, Nat.reduceAdd, Int.reduceEq, Int.cast_ofNat_Int, Nat.zero_le, sz1, sz2, sz3, sz4, sz5, sz6, decide_true, decide_false]
        exact hk _ _ ⟨rfl, rfl⟩
  · rintro E h2 ⟨rfl, rfl⟩
    simp only [sSeq, sSet, sSkip, sForget, sFor, sIf, sRet, sRetN, sDrop, sSetI, sAsg, sPar, sFldM, sAug, frzV, valE, mVar, mC, mOp, mUn, mCall, mFun, mMeth, mMake, mFld, mTst, mNotT, mNotV, mAndV, mOrV, mAndT, mOrT, mIte, mNil, mCons, mTup, mLst, mChain, mIter_ap, mIsi_ap, mRng1, mRng2, mLc, mYes, mCell, mRel, mSl, oNo, oSome,
  gN, gT, gsCons, gsNil, frz_d, frz_l, frz_k, gIx_p, onSet_p, onQ_p, onL_p, gLen_p, onIns_p, put_put, atD_0, atD_1, atD_2, atD_3, atD_4, ixN_0, ixN_1, ixN_2, ixN_3, ixN_4, List.length_cons, List.length_nil, onBl_b, onInt_i, onTup_t, on1_1, on2_2, onQ_l, onQ_t, onQ_s, onL_l, onLs_l, onLs_s, onD_d, onOpt_s, gII, gB, gAdd_i, gAdd_s, gAdd_t, gAdd_l, gMul_i, gMul_l, gMul_t, gSub, gMod, gDiv, gPow, gNeg, gIx_l, gIx_t, gIx_s, gLen_l, gLen_t, gLen_s, gLen_d, iterD_t, iterD_l, iterD_s,
  kind_i, kind_b, kind_s, kind_n, kind_t, kind_l, gIsN, isNon, gTuple, gList, gAll, gAny, gSum, gMin, gMax, gMin2, gMax2, gAbs, gInt, gSorted,
  List.getElem?_cons_zero, List.getElem?_cons_succ, List.getElem?_nil, List.set_cons_zero, List.set_cons_succ, List.cons_append, List.nil_append, List.append_nil, wipeE, List.any_cons, List.any_nil, isK, Bool.or_false, Bool.false_or, Bool.or_true, Bool.true_or, Bool.not_true, Bool.not_false, if_true, if_false, Bool.false_eq_true, true_and, and_true, decide_eq_true_eq, id, reduceCtorEq, gEq_i, gNe_i, gEq_b, gNe_b, gEq_li, gNe_li, gEq_l0, gNe_l0, gEq_00, gNe_00, gEq_ti, gNe_ti, mEnum, Nat.zero_add, Nat.reduceAdd, Int.reduceEq, Int.cast_ofNat_Int, Nat.zero_le, sz1, sz2, sz3, sz4, sz5, sz6, decide_true, decide_false]
    exact bodyN_nx0 k
theorem rd_need_key {a : Ad} (ds : List D) (h : MH) (Kn : RV → MH → Prop) (Kx : XKm) (q : sp_need_key a ds h Kn Kx) : t_need_key a (bodyN Kn Kx) (startE ["plan", "key"] ds) h := by
  obtain ⟨p, k, rfl, ok, hk, kk⟩ := q
  show t_need_key a (bodyN Kn Kx) [some (planD p), some (.int k)] h
  unfold t_need_key planD
  simp only [sSeq, sSet, sSkip, sForget, sFor, sIf, sRet, sRetN, sDrop, sSetI, sAsg, sPar, sFldM, sAug, frzV, valE, mVar, mC, mOp, mUn, mCall, mFun, mMeth, mMake, mFld, mTst, mNotT, mNotV, mAndV, mOrV, mAndT, mOrT, mIte, mNil, mCons, mTup, mLst, mChain, mIter_ap, mIsi_ap, mRng1, mRng2, mLc, mYes, mCell, mRel, mSl, oNo, oSome,
  gN, gT, gsCons, gsNil, frz_d, frz_l, frz_k, gIx_p, onSet_p, onQ_p, onL_p, gLen_p, onIns_p, put_put, atD_0, atD_1, atD_2, atD_3, atD_4, ixN_0, ixN_1, ixN_2, ixN_3, ixN_4, List.length_cons, List.length_nil, onBl_b, onInt_i, onTup_t, on1_1, on2_2, onQ_l, onQ_t, onQ_s, onL_l, onLs_l, onLs_s, onD_d, onOpt_s, gII, gB, gAdd_i, gAdd_s, gAdd_t, gAdd_l, gMul_i, gMul_l, gMul_t, gSub, gMod, gDiv, gPow, gNeg, gIx_l, gIx_t, gIx_s, gLen_l, gLen_t, gLen_s, gLen_d, iterD_t, iterD_l, iterD_s,
  kind_i, kind_b, kind_s, kind_n, kind_t, kind_l, gIsN, isNon, gTuple, gList, gAll, gAny, gSum, gMin, gMax, gMin2, gMax2, gAbs, gInt, gSorted,
  List.getElem?_cons_zero, List.getElem?_cons_succ, List.getElem?_nil, List.set_cons_zero, List.set_cons_succ, List.cons_append, List.nil_append, List.append_nil, wipeE, List.any_cons, List.any_nil, isK, Bool.or_false, Bool.false_or, Bool.or_true, Bool.true_or, Bool.not_true, Bool.not_false, if_true, if_false, Bool.false_eq_true, true_and, and_true, decide_eq_true_eq, id, reduceCtorEq, gEq_i, gNe_i, gEq_b, gNe_b, gEq_li, gNe_li, gEq_l0, gNe_l0, gEq_00, gNe_00, gEq_ti, gNe_ti, mEnum, Nat.zero_add, Nat.reduceAdd, Int.reduceEq, Int.cast_ofNat_Int, Nat.zero_le, sz1, sz2, sz3, sz4, sz5, sz6, decide_true, decide_false]
  refine is_num (by omega) (by omega) ?_
  simp only [sSeq, sSet, sSkip, sForget, sFor, sIf, sRet, sRetN, sDrop, sSetI, sAsg, sPar, sFldM, sAug, frzV, valE, mVar, mC, mOp, mUn, mCall, mFun, mMeth, mMake, mFld, mTst, mNotT, mNotV, mAndV, mOrV, mAndT, mOrT, mIte, mNil, mCons, mTup, mLst, mChain, mIter_ap, mIsi_ap, mRng1, mRng2, mLc, mYes, mCell, mRel, mSl, oNo, oSome,
  gN, gT, gsCons, gsNil, frz_d, frz_l, frz_k, gIx_p, onSet_p, onQ_p, onL_p, gLen_p, onIns_p, put_put, atD_0, atD_1, atD_2, atD_3, atD_4, ixN_0, ixN_1, ixN_2, ixN_3, ixN_4, List.length_cons, List.length_nil, onBl_b, onInt_i, onTup_t, on1_1, on2_2, onQ_l, onQ_t, onQ_s, onL_l, onLs_l, onLs_s, onD_d, onOpt_s, gII, gB, gAdd_i, gAdd_s, gAdd_t, gAdd_l, gMul_i, gMul_l, gMul_t, gSub, gMod, gDiv, gPow, gNeg, gIx_l, gIx_t, gIx_s, gLen_l, gLen_t, gLen_s, gLen_d, iterD_t, iterD_l, iterD_s,
  kind_i, kind_b, kind_s, kind_n, kind_t, kind_l, gIsN, isNon, gTuple, gList, gAll, gAny, gSum, gMin, gMax, gMin2, gMax2, gAbs, gInt, gSorted,
  List.getElem?_cons_zero, List.getElem?_cons_succ, List.getElem?_nil, List.set_cons_zero, List.set_cons_succ, List.cons_append, List.nil_append, List.append_nil, wipeE, List.any_cons, List.any_nil, isK, Bool.or_false, Bool.false_or, Bool.or_true, Bool.true_or, Bool.not_true, Bool.not_false, if_true, if_false, Bool.false_eq_true, true_and, and_true, decide_eq_true_eq, id, reduceCtorEq, gEq_i, gNe_i, gEq_b, gNe_b, gEq_li, gNe_li, gEq_l0, gNe_l0, gEq_00, gNe_00, gEq_ti, gNe_ti, mEnum, Nat.zero_add, Nat.reduceAdd, Int.reduceEq, Int.cast_ofNat_Int, Nat.zero_le, sz1, sz2, sz3, sz4, sz5, sz6, decide_true, decide_false]
  exact bodyN_nx0 kk

theorem res_flat {h : MH} {x y : D} (q : x = .non ∨ (∃ b, x = .bl b) ∨ (∃ b, x = .int b) ∨ ∃ b, x = .str b) (e : res h x = res h y) : y = x := by
  have ex : res h x = x := by rcases q with rfl | ⟨_, rfl⟩ | ⟨_, rfl⟩ | ⟨_, rfl⟩ <;> rfl
  rw [ex] at e
  cases y with
  | ref p =>
    exfalso
    rw [show res h (.ref p) = (match h p with
          | some (.lst xs) => D.lst xs
          | _ => .ref p) from rfl] at e
    split at e <;> subst e <;> simp at q
  | _ => exact e.symm
theorem big62 : sizeLine < 2 ^ 62 := by decide
theorem rd_law_alike {a : Ad} {n : Nat} (ds : List D) (h : MH) (Kn : RV → MH → Prop) (Kx : XKm) (q : sp_law_alike a (n + 1) ds h Kn Kx) : t_law_alike a n (bodyN Kn Kx) (startE ["_law_found", "_law_due", "_law_same_kind", "_law_k"] ds) h := by
  obtain ⟨x, y, rfl, exy, hn, pl, k⟩ := q
  show t_law_alike a n (bodyN Kn Kx) [some x, some y, none, none] h
  have big := line_big
  have kk : ∀ b, b = true → (bodyN Kn Kx).rt (.d (.bl b)) h := fun b e => bodyN_rt0 (by rw [e]; exact k)
  have sq : ∀ (xs : List D) (kd : Kd), kd = .lst ∨ kd = .tup → kindD h x = some kd → kindD h y = some kd → (res h x = .lst xs ∨ res h x = .tup xs) → (res h y = .lst xs ∨ res h y = .tup xs) → xs.all (alD (n - 1)) = true → 0 < n → xs.length ≤ sizeLine →
      t_law_alike a n (bodyN Kn Kx) [some x, some y, none, none] h := by
    intro xs kd hkd kx ky rx ry pls n0 lb
    obtain ⟨m, rfl⟩ : ∃ m, n = m + 1 := ⟨n - 1, by omega⟩
    unfold t_law_alike
    have fin : lcL (gN 3) (mNotT (mTst (frzV (mFun (sp_law_alike a (m + 1)) [] (mCons (frzV (mOp gIx (mVar 0) (mVar 3))) (mCons (frzV (mOp gIx (mVar 1) (mVar 3))) mNil)))))) (mVar 3) [some x, some y, none, none] (rngD 0 xs.length) [] h fun acc h2 => gEq (.lst acc) (.lst []) h2 (bodyN Kn Kx).rt := by
      refine lc_inv (fun _ acc h' => h' = h ∧ acc = []) ⟨rfl, rfl⟩ ?_ ?_
      · rintro i d acc h2 kc hi ⟨rfl, rfl⟩ hk
        obtain ⟨hj, rfl⟩ := rng_get hi
        have e1 : atD xs (i : Int) = some (xs[i]'hj) := atD_nat (List.getElem?_eq_getElem hj)
        have p1 : alD m (xs[i]'hj) = true := by
          rw [List.all_eq_true] at pls
          exact pls _ (List.getElem_mem hj)
        simp only [sSeq, sSet, sSkip, sForget, sFor, sIf, sRet, sRetN, sDrop, sSetI, sAsg, sPar, sFldM, sAug, frzV, valE, mVar, mC, mOp, mUn, mCall, mFun, mMeth, mMake, mFld, mTst, mNotT, mNotV, mAndV, mOrV, mAndT, mOrT, mIte, mNil, mCons, mTup, mLst, mChain, mIter_ap, mIsi_ap, mRng1, mRng2, mLc, mYes, mCell, mRel, mSl, oNo, oSome,
  gN, gT, gsCons, gsNil, frz_d, frz_l, frz_k, gIx_p, onSet_p, onQ_p, onL_p, gLen_p, onIns_p, put_put, atD_0, atD_1, atD_2, atD_3, atD_4, ixN_0, ixN_1, ixN_2, ixN_3, ixN_4, List.length_cons, List.length_nil, onBl_b, onInt_i, onTup_t, on1_1, on2_2, onQ_l, onQ_t, onQ_s, onL_l, onLs_l, onLs_s, onD_d, onOpt_s, gII, gB, gAdd_i, gAdd_s, gAdd_t, gAdd_l, gMul_i, gMul_l, gMul_t, gSub, gMod, gDiv, gPow, gNeg, gIx_l, gIx_t, gIx_s, gLen_l, gLen_t, gLen_s, gLen_d, iterD_t, iterD_l, iterD_s,
  kind_i, kind_b, kind_s, kind_n, kind_t, kind_l, gIsN, isNon, gTuple, gList, gAll, gAny, gSum, gMin, gMax, gMin2, gMax2, gAbs, gInt, gSorted,
  List.getElem?_cons_zero, List.getElem?_cons_succ, List.getElem?_nil, List.set_cons_zero, List.set_cons_succ, List.cons_append, List.nil_append, List.append_nil, wipeE, List.any_cons, List.any_nil, isK, Bool.or_false, Bool.false_or, Bool.or_true, Bool.true_or, Bool.not_true, Bool.not_false, if_true, if_false, Bool.false_eq_true, true_and, and_true, decide_eq_true_eq, id, reduceCtorEq, gEq_i, gNe_i, gEq_b, gNe_b, gEq_li, gNe_li, gEq_l0, gNe_l0, gEq_00, gNe_00, gEq_ti, gNe_ti, mEnum, Nat.zero_add, Nat.reduceAdd, Int.reduceEq, Int.cast_ofNat_Int, Nat.zero_le, sz1, sz2, sz3, sz4, sz5, sz6, decide_true, decide_false, seq_ix rx, seq_ix ry, e1]
        refine ⟨_, _, rfl, rfl, by omega, by rw [pl_res (al_pl p1)]; exact p1, ?_⟩
        simp only [sSeq, sSet, sSkip, sForget, sFor, sIf, sRet, sRetN, sDrop, sSetI, sAsg, sPar, sFldM, sAug, frzV, valE, mVar, mC, mOp, mUn, mCall, mFun, mMeth, mMake, mFld, mTst, mNotT, mNotV, mAndV, mOrV, mAndT, mOrT, mIte, mNil, mCons, mTup, mLst, mChain, mIter_ap, mIsi_ap, mRng1, mRng2, mLc, mYes, mCell, mRel, mSl, oNo, oSome,
  gN, gT, gsCons, gsNil, frz_d, frz_l, frz_k, gIx_p, onSet_p, onQ_p, onL_p, gLen_p, onIns_p, put_put, atD_0, atD_1, atD_2, atD_3, atD_4, ixN_0, ixN_1, ixN_2, ixN_3, ixN_4, List.length_cons, List.length_nil, onBl_b, onInt_i, onTup_t, on1_1, on2_2, onQ_l, onQ_t, onQ_s, onL_l, onLs_l, onLs_s, onD_d, onOpt_s, gII, gB, gAdd_i, gAdd_s, gAdd_t, gAdd_l, gMul_i, gMul_l, gMul_t, gSub, gMod, gDiv, gPow, gNeg, gIx_l, gIx_t, gIx_s, gLen_l, gLen_t, gLen_s, gLen_d, iterD_t, iterD_l, iterD_s,
  kind_i, kind_b, kind_s, kind_n, kind_t, kind_l, gIsN, isNon, gTuple, gList, gAll, gAny, gSum, gMin, gMax, gMin2, gMax2, gAbs, gInt, gSorted,
  List.getElem?_cons_zero, List.getElem?_cons_succ, List.getElem?_nil, List.set_cons_zero, List.set_cons_succ, List.cons_append, List.nil_append, List.append_nil, wipeE, List.any_cons, List.any_nil, isK, Bool.or_false, Bool.false_or, Bool.or_true, Bool.true_or, Bool.not_true, Bool.not_false, if_true, if_false, Bool.false_eq_true, true_and, and_true, decide_eq_true_eq, id, reduceCtorEq, gEq_i, gNe_i, gEq_b, gNe_b, gEq_li, gNe_li, gEq_l0, gNe_l0, gEq_00, gNe_00, gEq_ti, gNe_ti, mEnum, Nat.zero_add, Nat.reduceAdd, Int.reduceEq, Int.cast_ofNat_Int, Nat.zero_le, sz1, sz2, sz3, sz4, sz5, sz6, decide_true, decide_false]
        exact hk _ _ ⟨rfl, rfl⟩
      · rintro acc h2 ⟨rfl, rfl⟩
        simp only [sSeq, sSet, sSkip, sForget, sFor, sIf, sRet, sRetN, sDrop, sSetI, sAsg, sPar, sFldM, sAug, frzV, valE, mVar, mC, mOp, mUn, mCall, mFun, mMeth, mMake, mFld, mTst, mNotT, mNotV, mAndV, mOrV, mAndT, mOrT, mIte, mNil, mCons, mTup, mLst, mChain, mIter_ap, mIsi_ap, mRng1, mRng2, mLc, mYes, mCell, mRel, mSl, oNo, oSome,
  gN, gT, gsCons, gsNil, frz_d, frz_l, frz_k, gIx_p, onSet_p, onQ_p, onL_p, gLen_p, onIns_p, put_put, atD_0, atD_1, atD_2, atD_3, atD_4, ixN_0, ixN_1, ixN_2, ixN_3, ixN_4, List.length_cons, List.length_nil, onBl_b, onInt_i, onTup_t, on1_1, on2_2, onQ_l, onQ_t, onQ_s, onL_l, onLs_l, onLs_s, onD_d, onOpt_s, gII, gB, gAdd_i, gAdd_s, gAdd_t, gAdd_l, gMul_i, gMul_l, gMul_t, gSub, gMod, gDiv, gPow, gNeg, gIx_l, gIx_t, gIx_s, gLen_l, gLen_t, gLen_s, gLen_d, iterD_t, iterD_l, iterD_s,
  kind_i, kind_b, kind_s, kind_n, kind_t, kind_l, gIsN, isNon, gTuple, gList, gAll, gAny, gSum, gMin, gMax, gMin2, gMax2, gAbs, gInt, gSorted,
  List.getElem?_cons_zero, List.getElem?_cons_succ, List.getElem?_nil, List.set_cons_zero, List.set_cons_succ, List.cons_append, List.nil_append, List.append_nil, wipeE, List.any_cons, List.any_nil, isK, Bool.or_false, Bool.false_or, Bool.or_true, Bool.true_or, Bool.not_true, Bool.not_false, if_true, if_false, Bool.false_eq_true, true_and, and_true, decide_eq_true_eq, id, reduceCtorEq, gEq_i, gNe_i, gEq_b, gNe_b, gEq_li, gNe_li, gEq_l0, gNe_l0, gEq_00, gNe_00, gEq_ti, gNe_ti, mEnum, Nat.zero_add, Nat.reduceAdd, Int.reduceEq, Int.cast_ofNat_Int, Nat.zero_le, sz1, sz2, sz3, sz4, sz5, sz6, decide_true, decide_false]
        exact kk _ rfl
    rcases hkd with rfl | rfl <;> simp only [sSeq, sSet, sSkip, sForget, sFor, sIf, sRet, sRetN, sDrop, sSetI, sAsg, sPar, sFldM, sAug, frzV, valE, mVar, mC, mOp, mUn, mCall, mFun, mMeth, mMake, mFld, mTst, mNotT, mNotV, mAndV, mOrV, mAndT, mOrT, mIte, mNil, mCons, mTup, mLst, mChain, mIter_ap, mIsi_ap, mRng1, mRng2, mLc, mYes, mCell, mRel, mSl, oNo, oSome,
  gN, gT, gsCons, gsNil, frz_d, frz_l, frz_k, gIx_p, onSet_p, onQ_p, onL_p, gLen_p, onIns_p, put_put, atD_0, atD_1, atD_2, atD_3, atD_4, ixN_0, ixN_1, ixN_2, ixN_3, ixN_4, List.length_cons, List.length_nil, onBl_b, onInt_i, onTup_t, on1_1, on2_2, onQ_l, onQ_t, onQ_s, onL_l, onLs_l, onLs_s, onD_d, onOpt_s, gII, gB, gAdd_i, gAdd_s, gAdd_t, gAdd_l, gMul_i, gMul_l, gMul_t, gSub, gMod, gDiv, gPow, gNeg, gIx_l, gIx_t, gIx_s, gLen_l, gLen_t, gLen_s, gLen_d, iterD_t, iterD_l, iterD_s,
  kind_i, kind_b, kind_s, kind_n, kind_t, kind_l, gIsN, isNon, gTuple, gList, gAll, gAny, gSum, gMin, gMax, gMin2, gMax2, gAbs, gInt, gSorted,
  List.getElem?_cons_zero, List.getElem?_cons_succ, List.getElem?_nil, List.set_cons_zero, List.set_cons_succ, List.cons_append, List.nil_append, List.append_nil, wipeE, List.any_cons, List.any_nil, isK, Bool.or_false, Bool.false_or, Bool.or_true, Bool.true_or, Bool.not_true, Bool.not_false, if_true, if_false, Bool.false_eq_true, true_and, and_true, decide_eq_true_eq, id, reduceCtorEq, gEq_i, gNe_i, gEq_b, gNe_b, gEq_li, gNe_li, gEq_l0, gNe_l0, gEq_00, gNe_00, gEq_ti, gNe_ti, mEnum, Nat.zero_add, Nat.reduceAdd, Int.reduceEq, Int.cast_ofNat_Int, Nat.zero_le, sz1, sz2, sz3, sz4, sz5, sz6, decide_true, decide_false, kx, ky, seq_len rx, seq_len ry, beq_self_eq_true] <;> exact ⟨⟨by omega, by have := big62; omega⟩, fin⟩
  have sqL : ∀ xs, res h x = .lst xs → t_law_alike a n (bodyN Kn Kx) [some x, some y, none, none] h := by
    intro xs e
    have n0 : 0 < n := by
      cases n with
      | zero => rw [e] at pl; cases pl
      | succ _ => omega
    obtain ⟨m, rfl⟩ : ∃ m, n = m + 1 := ⟨n - 1, by omega⟩
    rw [e] at pl
    simp only [alD, Bool.and_eq_true, decide_eq_true_eq] at pl
    exact sq xs .lst (.inl rfl) (seq_kindL e) (seq_kindL (exy ▸ e)) (.inl e) (.inl (exy ▸ e)) pl.2 n0 pl.1
  cases x with
  | ref p =>
    cases q : h p with
    | none =>
      rw [show res h (.ref p) = (match h p with
          | some (.lst xs) => D.lst xs
          | _ => .ref p) from rfl, q] at pl
      cases n <;> cases pl
    | some m =>
      cases m with
      | lst ys => exact sqL ys (res_r q)
      | dct ys =>
        rw [show res h (.ref p) = (match h p with
          | some (.lst xs) => D.lst xs
          | _ => .ref p) from rfl, q] at pl
        cases n <;> cases pl
      | ins C ys =>
        rw [show res h (.ref p) = (match h p with
          | some (.lst xs) => D.lst xs
          | _ => .ref p) from rfl, q] at pl
        cases n <;> cases pl
  | lst xs => exact sqL xs rfl
  | tup xs =>
    have n0 : 0 < n := by
      cases n with
      | zero => cases pl
      | succ _ => omega
    obtain ⟨m, rfl⟩ : ∃ m, n = m + 1 := ⟨n - 1, by omega⟩
    rw [res_t] at pl
    simp only [alD, Bool.and_eq_true, decide_eq_true_eq] at pl
    obtain rfl := seq_tup (h := h) (x := y) (xs := xs) exy.symm
    exact sq xs .tup (.inr rfl) rfl rfl (.inr rfl) (.inr rfl) pl.2 n0 pl.1
  | dct _ => cases n <;> cases pl
  | scr _ => cases n <;> cases pl
  | non =>
    obtain rfl := res_flat (h := h) (y := y) (.inl rfl) exy
    unfold t_law_alike
    simp only [sSeq, sSet, sSkip, sForget, sFor, sIf, sRet, sRetN, sDrop, sSetI, sAsg, sPar, sFldM, sAug, frzV, valE, mVar, mC, mOp, mUn, mCall, mFun, mMeth, mMake, mFld, mTst, mNotT, mNotV, mAndV, mOrV, mAndT, mOrT, mIte, mNil, mCons, mTup, mLst, mChain, mIter_ap, mIsi_ap, mRng1, mRng2, mLc, mYes, mCell, mRel, mSl, oNo, oSome,
  gN, gT, gsCons, gsNil, frz_d, frz_l, frz_k, gIx_p, onSet_p, onQ_p, onL_p, gLen_p, onIns_p, put_put, atD_0, atD_1, atD_2, atD_3, atD_4, ixN_0, ixN_1, ixN_2, ixN_3, ixN_4, List.length_cons, List.length_nil, onBl_b, onInt_i, onTup_t, on1_1, on2_2, onQ_l, onQ_t, onQ_s, onL_l, onLs_l, onLs_s, onD_d, onOpt_s, gII, gB, gAdd_i, gAdd_s, gAdd_t, gAdd_l, gMul_i, gMul_l, gMul_t, gSub, gMod, gDiv, gPow, gNeg, gIx_l, gIx_t, gIx_s, gLen_l, gLen_t, gLen_s, gLen_d, iterD_t, iterD_l, iterD_s,
  kind_i, kind_b, kind_s, kind_n, kind_t, kind_l, gIsN, isNon, gTuple, gList, gAll, gAny, gSum, gMin, gMax, gMin2, gMax2, gAbs, gInt, gSorted,
  List.getElem?_cons_zero, List.getElem?_cons_succ, List.getElem?_nil, List.set_cons_zero, List.set_cons_succ, List.cons_append, List.nil_append, List.append_nil, wipeE, List.any_cons, List.any_nil, isK, Bool.or_false, Bool.false_or, Bool.or_true, Bool.true_or, Bool.not_true, Bool.not_false, if_true, if_false, Bool.false_eq_true, true_and, and_true, decide_eq_true_eq, id, reduceCtorEq, gEq_i, gNe_i, gEq_b, gNe_b, gEq_li, gNe_li, gEq_l0, gNe_l0, gEq_00, gNe_00, gEq_ti, gNe_ti, mEnum, Nat.zero_add, Nat.reduceAdd, Int.reduceEq, Int.cast_ofNat_Int, Nat.zero_le, sz1, sz2, sz3, sz4, sz5, sz6, decide_true, decide_false]
    exact kk _ rfl
  | bl b =>
    obtain rfl := res_flat (h := h) (y := y) (.inr (.inl ⟨_, rfl⟩)) exy
    unfold t_law_alike
    simp only [sSeq, sSet, sSkip, sForget, sFor, sIf, sRet, sRetN, sDrop, sSetI, sAsg, sPar, sFldM, sAug, frzV, valE, mVar, mC, mOp, mUn, mCall, mFun, mMeth, mMake, mFld, mTst, mNotT, mNotV, mAndV, mOrV, mAndT, mOrT, mIte, mNil, mCons, mTup, mLst, mChain, mIter_ap, mIsi_ap, mRng1, mRng2, mLc, mYes, mCell, mRel, mSl, oNo, oSome,
  gN, gT, gsCons, gsNil, frz_d, frz_l, frz_k, gIx_p, onSet_p, onQ_p, onL_p, gLen_p, onIns_p, put_put, atD_0, atD_1, atD_2, atD_3, atD_4, ixN_0, ixN_1, ixN_2, ixN_3, ixN_4, List.length_cons, List.length_nil, onBl_b, onInt_i, onTup_t, on1_1, on2_2, onQ_l, onQ_t, onQ_s, onL_l, onLs_l, onLs_s, onD_d, onOpt_s, gII, gB, gAdd_i, gAdd_s, gAdd_t, gAdd_l, gMul_i, gMul_l, gMul_t, gSub, gMod, gDiv, gPow, gNeg, gIx_l, gIx_t, gIx_s, gLen_l, gLen_t, gLen_s, gLen_d, iterD_t, iterD_l, iterD_s,
  kind_i, kind_b, kind_s, kind_n, kind_t, kind_l, gIsN, isNon, gTuple, gList, gAll, gAny, gSum, gMin, gMax, gMin2, gMax2, gAbs, gInt, gSorted,
  List.getElem?_cons_zero, List.getElem?_cons_succ, List.getElem?_nil, List.set_cons_zero, List.set_cons_succ, List.cons_append, List.nil_append, List.append_nil, wipeE, List.any_cons, List.any_nil, isK, Bool.or_false, Bool.false_or, Bool.or_true, Bool.true_or, Bool.not_true, Bool.not_false, if_true, if_false, Bool.false_eq_true, true_and, and_true, decide_eq_true_eq, id, reduceCtorEq, gEq_i, gNe_i, gEq_b, gNe_b, gEq_li, gNe_li, gEq_l0, gNe_l0, gEq_00, gNe_00, gEq_ti, gNe_ti, mEnum, Nat.zero_add, Nat.reduceAdd, Int.reduceEq, Int.cast_ofNat_Int, Nat.zero_le, sz1, sz2, sz3, sz4, sz5, sz6, decide_true, decide_false, beq_self_eq_true]
    exact kk _ rfl
  | int i =>
    obtain rfl := res_flat (h := h) (y := y) (.inr (.inr (.inl ⟨_, rfl⟩))) exy
    unfold t_law_alike
    simp only [sSeq, sSet, sSkip, sForget, sFor, sIf, sRet, sRetN, sDrop, sSetI, sAsg, sPar, sFldM, sAug, frzV, valE, mVar, mC, mOp, mUn, mCall, mFun, mMeth, mMake, mFld, mTst, mNotT, mNotV, mAndV, mOrV, mAndT, mOrT, mIte, mNil, mCons, mTup, mLst, mChain, mIter_ap, mIsi_ap, mRng1, mRng2, mLc, mYes, mCell, mRel, mSl, oNo, oSome,
  gN, gT, gsCons, gsNil, frz_d, frz_l, frz_k, gIx_p, onSet_p, onQ_p, onL_p, gLen_p, onIns_p, put_put, atD_0, atD_1, atD_2, atD_3, atD_4, ixN_0, ixN_1, ixN_2, ixN_3, ixN_4, List.length_cons, List.length_nil, onBl_b, onInt_i, onTup_t, on1_1, on2_2, onQ_l, onQ_t, onQ_s, onL_l, onLs_l, onLs_s, onD_d, onOpt_s, gII, gB, gAdd_i, gAdd_s, gAdd_t, gAdd_l, gMul_i, gMul_l, gMul_t, gSub, gMod, gDiv, gPow, gNeg, gIx_l, gIx_t, gIx_s, gLen_l, gLen_t, gLen_s, gLen_d, iterD_t, iterD_l, iterD_s,
  kind_i, kind_b, kind_s, kind_n, kind_t, kind_l, gIsN, isNon, gTuple, gList, gAll, gAny, gSum, gMin, gMax, gMin2, gMax2, gAbs, gInt, gSorted,
  List.getElem?_cons_zero, List.getElem?_cons_succ, List.getElem?_nil, List.set_cons_zero, List.set_cons_succ, List.cons_append, List.nil_append, List.append_nil, wipeE, List.any_cons, List.any_nil, isK, Bool.or_false, Bool.false_or, Bool.or_true, Bool.true_or, Bool.not_true, Bool.not_false, if_true, if_false, Bool.false_eq_true, true_and, and_true, decide_eq_true_eq, id, reduceCtorEq, gEq_i, gNe_i, gEq_b, gNe_b, gEq_li, gNe_li, gEq_l0, gNe_l0, gEq_00, gNe_00, gEq_ti, gNe_ti, mEnum, Nat.zero_add, Nat.reduceAdd, Int.reduceEq, Int.cast_ofNat_Int, Nat.zero_le, sz1, sz2, sz3, sz4, sz5, sz6, decide_true, decide_false, beq_self_eq_true]
    exact kk _ rfl
  | str i =>
    have ok : eqOk (res h (.str i)) := ⟨n, by omega, al_pl pl⟩
    have er : eqD (res h (.str i)) (res h (.str i)) = true := eqD_refl (al_pl pl)
    obtain rfl := res_flat (h := h) (y := y) (.inr (.inr (.inr ⟨_, rfl⟩))) exy
    unfold t_law_alike
    simp only [sSeq, sSet, sSkip, sForget, sFor, sIf, sRet, sRetN, sDrop, sSetI, sAsg, sPar, sFldM, sAug, frzV, valE, mVar, mC, mOp, mUn, mCall, mFun, mMeth, mMake, mFld, mTst, mNotT, mNotV, mAndV, mOrV, mAndT, mOrT, mIte, mNil, mCons, mTup, mLst, mChain, mIter_ap, mIsi_ap, mRng1, mRng2, mLc, mYes, mCell, mRel, mSl, oNo, oSome,
  gN, gT, gsCons, gsNil, frz_d, frz_l, frz_k, gIx_p, onSet_p, onQ_p, onL_p, gLen_p, onIns_p, put_put, atD_0, atD_1, atD_2, atD_3, atD_4, ixN_0, ixN_1, ixN_2, ixN_3, ixN_4, List.length_cons, List.length_nil, onBl_b, onInt_i, onTup_t, on1_1, on2_2, onQ_l, onQ_t, onQ_s, onL_l, onLs_l, onLs_s, onD_d, onOpt_s, gII, gB, gAdd_i, gAdd_s, gAdd_t, gAdd_l, gMul_i, gMul_l, gMul_t, gSub, gMod, gDiv, gPow, gNeg, gIx_l, gIx_t, gIx_s, gLen_l, gLen_t, gLen_s, gLen_d, iterD_t, iterD_l, iterD_s,
  kind_i, kind_b, kind_s, kind_n, kind_t, kind_l, gIsN, isNon, gTuple, gList, gAll, gAny, gSum, gMin, gMax, gMin2, gMax2, gAbs, gInt, gSorted,
  List.getElem?_cons_zero, List.getElem?_cons_succ, List.getElem?_nil, List.set_cons_zero, List.set_cons_succ, List.cons_append, List.nil_append, List.append_nil, wipeE, List.any_cons, List.any_nil, isK, Bool.or_false, Bool.false_or, Bool.or_true, Bool.true_or, Bool.not_true, Bool.not_false, if_true, if_false, Bool.false_eq_true, true_and, and_true, decide_eq_true_eq, id, reduceCtorEq, gEq_i, gNe_i, gEq_b, gNe_b, gEq_li, gNe_li, gEq_l0, gNe_l0, gEq_00, gNe_00, gEq_ti, gNe_ti, mEnum, Nat.zero_add, Nat.reduceAdd, Int.reduceEq, Int.cast_ofNat_Int, Nat.zero_le, sz1, sz2, sz3, sz4, sz5, sz6, decide_true, decide_false, gEq_ok ok ok, er, beq_self_eq_true]
    exact kk _ rfl
end M3
set_option Elab.async false
set_option linter.all false
set_option maxRecDepth 100000
set_option maxHeartbeats 4000000
namespace M3
open PySem PySem.Spec PyProof.Rows L2
/-! ### zip over lists and tuples, whichever stands where -/
def SqA (K : PySem.W.Frag) (tu : Bool) (H : Hp) (a : Addr) (xs : List V) : Prop := match tu with
  | true => SqT K H a xs
  | false => SqL K H a xs
def IsItA (h : Heap) (tu : Bool) (it a : Addr) (i : Nat) : Prop := match tu with
  | true => h.IsTupleIter it a i
  | false => h.IsListIter it a i
def IsA (h : Heap) (tu : Bool) (a : Addr) (its : Array Value) : Prop := match tu with
  | true => h.IsTuple a its
  | false => h.IsList a its
def itObj (tu : Bool) (a : Addr) : Obj := match tu with
  | true => { cls := .type "tuple_iterator", data := .fields #[.ref a, .int 0 0] }
  | false => { cls := .type "list_iterator", data := .fields #[.ref a, .int 0 0] }
theorem IsItA.obj {h : Heap} {tu : Bool} {it a : Addr} {i : Nat} (q : IsItA h tu it a i) : ∃ o fs, h.get? it = some o ∧ o.data = .fields fs := by
  cases tu with
  | true => obtain ⟨o, e, _, d⟩ := q; exact ⟨o, _, e, d⟩
  | false => obtain ⟨o, e, _, d⟩ := q; exact ⟨o, _, e, d⟩
theorem IsItA.at_ {h h' : Heap} {tu : Bool} {it a : Addr} {i : Nat} (q : IsItA h tu it a i) (k : ∀ o, h.get? it = some o → h'.get? it = some o) : IsItA h' tu it a i := by
  cases tu with
  | true => exact Heap.IsTupleIter.at q k
  | false => exact Heap.IsListIter.at q k
theorem IsA.lt {h : Heap} {tu : Bool} {a : Addr} {its : Array Value} (q : IsA h tu a its) : a < h.objs.size := by
  cases tu with
  | true => obtain ⟨_, e, _⟩ := q; exact Heap.lt_size e
  | false => obtain ⟨_, e, _⟩ := q; exact Heap.lt_size e
theorem isItA_new {h : Heap} {tu : Bool} {it a : Addr} (e : h.get? it = some (itObj tu a)) : IsItA h tu it a 0 := by
  cases tu with
  | true => exact ⟨_, e, rfl, rfl⟩
  | false => exact ⟨_, e, rfl, rfl⟩
theorem beginsA (tu : Bool) (a : Addr) (its : Array Value) : Begins (.ref a) (itObj tu a) fun h => IsA h tu a its := by
  cases tu with
  | true => exact begins_tuple a its
  | false => exact begins_list a its
theorem drawsA {prog : Program} {w : World} {A : Around} (hh : A.handled = none) (it a : Addr) (hne : a ≠ it) (its : Array Value) (tu : Bool) : Draws prog w A it [it, a] its.size (fun i v => its[i]? = some v) (fun i h => IsItA h tu it a i ∧ IsA h tu a its) := by
  cases tu with
  | true => exact Draws.tuple hh it a hne its
  | false => exact Draws.list hh it a hne its
section
variable {X : Cx} {pins : List (Addr × Obj)} {σ : L2.St} {H : Hp} {s : Shared} {tu : Bool} {a : Addr} {xs ys : List V}
theorem seqA_of (I : Inv X pins σ H s) (q : SqA X.K tu H a xs) : ∃ its, Vals xs its ∧ IsA s.heap tu a its.toArray := by
  cases tu with
  | true => obtain ⟨its, rv, p, _⟩ := I.tuple q; exact ⟨its, rv, p⟩
  | false => obtain ⟨its, rv, p, _⟩ := I.list q; exact ⟨its, rv, p.isList⟩
theorem seqA_inj (I : Inv X pins σ H s) (q : SqA X.K tu H a xs) (q' : SqA X.K tu H a ys) : xs = ys := by
  cases tu with
  | true => exact I.tuple_inj q q'
  | false => exact I.list_inj q q'
theorem lt_of_some {α : Type} {l : List α} {i : Nat} {u : α} (e : l[i]? = some u) : i < l.toArray.size := by
  rw [List.size_toArray]
  exact (List.getElem?_eq_some_iff.mp e).1
end
theorem nne {x y : Nat} (h : x < y ∨ y < x) : (x : Addr) ≠ y := fun e => by
  have e' : (x : Nat) = y := e
  omega
theorem nmem {x y z : Nat} (h1 : x < y ∨ y < x) (h2 : x < z ∨ z < x) : (x : Addr) ∉ ([y, z] : List Addr) := fun e => by
  rcases List.mem_cons.mp e with e | e
  · exact nne h1 e
  · rcases List.mem_cons.mp e with e | e
    · exact nne h2 e
    · cases e
def Itg2 (K : PySem.W.Frag) (t1 t2 : Bool) (a1 a2 : Addr) : It :=
  ⟨fun i H => ∃ (l1 l2 : List V) (x1 x2 : V), SqA K t1 H a1 l1 ∧ SqA K t2 H a2 l2 ∧ l1[i]? = some x1 ∧ l2[i]? = some x2,
    fun i H v H' => ∃ T x1 x2, v = .ref T ∧ H T = none ∧ H' = upd H T (.tup [x1, x2]) ∧ (∀ l, SqA K t1 H a1 l → l[i]? = some x1) ∧ (∀ l, SqA K t2 H a2 l → l[i]? = some x2),
    fun i H => ∃ (l1 l2 : List V), SqA K t1 H a1 l1 ∧ SqA K t2 H a2 l2 ∧ (i ≤ l1.length ∧ i ≤ l2.length) ∧ (i = l1.length ∨ i = l2.length)⟩
theorem turn_g2 {P : Program} {w : World} {K : PySem.W.Frag} {elts : List Expr} {kk : Nat} {tpos : Pos} {t1 t2 : Bool} {z TI TO i1 i2 a1 a2 : Addr} (S : ZipSep2 z TI TO i1 i2 [i1, a1] [i2, a2]) (n1 : a1 ≠ i1) (n2 : a2 ≠ i2) :
    Turn P w K (.Tuple elts kk tpos) (Itg2 K t1 t2 a1 a2) [z, TI, TO, i1, i2] z (fun i h => IsZip h z TI TO .none ∧ IsTupOf2 h TI (.ref i1) (.ref i2) ∧ (∃ y1 y2, IsTupOf2 h TO y1 y2) ∧ IsItA h t1 i1 a1 i ∧ IsItA h t2 i2 a2 i) where
  mem := by simp
  obj := fun i h st c hc => by
    obtain ⟨hz, hTI, ⟨y1, y2, hTO⟩, h1, h2⟩ := st
    have e' : c = z ∨ c = TI ∨ c = TO ∨ c = i1 ∨ c = i2 := by simpa using hc
    rcases e' with q | q | q | q | q
    · rw [q]; exact ⟨_, hz, fun v q => nomatch q⟩
    · rw [q]; exact ⟨_, hTI, fun v q => nomatch q⟩
    · rw [q]; exact ⟨_, hTO, fun v q => nomatch q⟩
    · rw [q]; obtain ⟨o, fs, e, d⟩ := h1.obj; exact ⟨o, e, fun v q => by rw [d] at q; cases q⟩
    · rw [q]; obtain ⟨o, fs, e, d⟩ := h2.obj; exact ⟨o, e, fun v q => by rw [d] at q; cases q⟩
  keep := fun i h h' st k => by
    obtain ⟨hz, hTI, ⟨y1, y2, hTO⟩, h1, h2⟩ := st
    exact ⟨k z (by simp) _ hz, k TI (by simp) _ hTI, ⟨y1, y2, k TO (by simp) _ hTO⟩, h1.at_ fun o q => k i1 (by simp) o q, h2.at_ fun o q => k i2 (by simp) o q⟩
  item := by
    intro X hP hw hK hc i pins s σ H E I hf st hg
    subst hP hw hK
    obtain ⟨hz, hTI, ⟨y1, y2, hTO⟩, h1, h2⟩ := st
    obtain ⟨l1, l2, x1, x2, q1, q2, e1, e2⟩ := hg
    obtain ⟨s1, r1, p1⟩ := seqA_of I q1
    obtain ⟨u1, f1, v1⟩ := r1.get e1
    obtain ⟨s2, r2, p2⟩ := seqA_of I q2
    obtain ⟨u2, f2, v2⟩ := r2.get e2
    have hzl : z < s.heap.objs.size := Heap.lt_size hz
    refine wpAny_pyNext_zipD2_item S (drawsA (A := X.A.in1) (I.ok.hd hc) i1 a1 n1 s1.toArray t1) (drawsA (A := X.A.in1) (I.ok.hd hc) i2 a2 n2 s2.toArray t2) hz hTI hTO ⟨h1, p1⟩ ⟨h2, p2⟩ (lt_of_some f1) (lt_of_some f2) fun w1 w2 h' tk g1 g2 z' TO' d1 d2 hT hsz hk => ?_
    have ee1 : w1 = u1 := by
      have k1 : s1[i]? = some w1 := by simpa using g1
      rw [f1] at k1
      exact (Option.some.inj k1).symm
    subst ee1
    have ee2 : w2 = u2 := by
      have k1 : s2[i]? = some w2 := by simpa using g2
      rw [f2] at k1
      exact (Option.some.inj k1).symm
    subst ee2
    refine ⟨_, rfl, wpAny_letOwnedTupleGo_zip (s := { s with heap := h', toks := tk }) z' fun h'' z'' sb => ?_⟩
    have hT2 : h''.get? s.heap.objs.size = some { cls := .type "tuple", data := .seq #[w1, w2] } := (sb.2 _ (Nat.ne_of_gt hzl)).trans hT
    have new : ObjOk X.prog X.w (upd H s.heap.objs.size (.tup [x1, x2])) h'' s.heap.objs.size (.tup [x1, x2]) :=
      ⟨by show 2 ≤ sizeLine; decide, [w1, w2], .cons v1 (.cons v2 .nil), ⟨_, hT2, rfl, _, rfl⟩⟩
    have I1 : Inv X pins σ (upd H s.heap.objs.size (.tup [x1, x2])) { s with heap := h'', toks := tk } :=
      I.turnedNew (t' := tk) (ch := [z, TI, TO, i1, i2]) (fun c o hb q => (sb.2 c (fun q' => hb (by simp [q']))).trans (hk c o (fun q' => hb (by simp [q'])) (fun q' => hb (by simp [q'])) (fun q' => hb (by simp [q'])) (fun q' => hb (by simp [q'])) q)) hf (Nat.le_refl _) new
    refine ⟨.ref s.heap.objs.size, _, I1, rfl, ⟨_, x1, x2, rfl, I.hok.fresh (Nat.le_refl _), rfl, fun l hl => by rw [seqA_inj I hl q1]; exact e1, fun l hl => by rw [seqA_inj I hl q2]; exact e2⟩, ⟨z'', ?_, ⟨w1, w2, ?_⟩, ?_, ?_⟩, fun c hcm => ?_⟩
    · exact (sb.2 _ S.TIz).trans (hk _ _ S.TIz S.TITO S.TIi1 S.TIi2 hTI)
    · exact (sb.2 _ S.TOz).trans TO'
    · exact d1.1.at_ fun o q => (sb.2 _ (Ne.symm S.zi1)).trans q
    · exact d2.1.at_ fun o q => (sb.2 _ (Ne.symm S.zi2)).trans q
    · have hlt : c < s.heap.objs.size := by
        have e' : c = z ∨ c = TI ∨ c = TO ∨ c = i1 ∨ c = i2 := by simpa using hcm
        rcases e' with q | q | q | q | q
        · rw [q]; exact hzl
        · rw [q]; exact Heap.lt_size hTI
        · rw [q]; exact Heap.lt_size hTO
        · rw [q]; obtain ⟨o, fs, e, d⟩ := h1.obj; exact Heap.lt_size e
        · rw [q]; obtain ⟨o, fs, e, d⟩ := h2.obj; exact Heap.lt_size e
      rw [upd_ne (Nat.ne_of_lt hlt)]
      exact (hf c hcm).1
  done := by
    intro X hP hw hK hc i pins s σ H E I hf st hg
    subst hP hw hK
    obtain ⟨hz, hTI, ⟨y1, y2, hTO⟩, h1, h2⟩ := st
    obtain ⟨l1, l2, q1, q2, ⟨b1, b2⟩, hend⟩ := hg
    obtain ⟨s1, r1, p1⟩ := seqA_of I q1
    have k1 := r1.length
    obtain ⟨s2, r2, p2⟩ := seqA_of I q2
    have k2 := r2.length
    exact wpAny_pyNext_zipD2_end S (drawsA (A := X.A.in1) (I.ok.hd hc) i1 a1 n1 s1.toArray t1) (drawsA (A := X.A.in1) (I.ok.hd hc) i2 a2 n2 s2.toArray t2) hz hTI hTO ⟨h1, p1⟩ ⟨h2, p2⟩ (by simp; omega) (by simp; omega) (by simp; omega) fun h' tk hk => ⟨rfl, I.turnedL (t' := tk) (ch := [z, TI, TO, i1, i2]) (fun c o hb q => hk c o (fun q' => hb (by simp [q'])) (fun q' => hb (by simp [q'])) (fun q' => hb (by simp [q'])) (fun q' => hb (by simp [q'])) q) hf⟩
  self := fun A i s Q E st h => wpAny_pyIter_zip st.1 h
def iZg2 (K : PySem.W.Frag) (ta : TA) : TI := fun σ H R => ta σ H fun vs H1 => ∃ (t1 t2 : Bool) (a1 a2 : Addr) (l1 l2 : List V), vs = [.ref a1, .ref a2] ∧ SqA K t1 H1 a1 l1 ∧ SqA K t2 H1 a2 l2 ∧ R (Itg2 K t1 t2 a1 a2) H1
theorem pi_zg2 {X : Cx} {e1 e2 : Expr} {ta : TA} {p pos tpos : Pos} {elts : List Expr} {kk : Nat} (hg : Gl X "zip") (hm : X.mg "zip" = none) (ha : PA X [e1, e2] ta)
    (hs : starEach [e1, e2] X.env = (false, eval e1 X.env) :: starEach [e2] X.env := by rfl) (hpl : (backTo pos (starEach [e2] X.env)).any (·.1) = false := by rfl) :
    PI X (.Tuple elts kk tpos) (.Call (.Name "zip" p) [e1, e2] [] pos) (iZg2 X.K ta) := by
  refine ⟨fun pins s σ H R I h => ?_⟩
  refine Call_ (ld_blt I hg hm PyProof.Rows.boot_zip (PyProof.Rows.callWith_type1 (thn (ha.run pos pins s σ H _ I h) fun us sh ⟨vs, HH, II, rv, qq⟩ => ?_) hs hpl))
  obtain ⟨t1, t2, a1, a2, l1, l2, ex, q1, q2, q⟩ := qq
  subst ex
  obtain ⟨s1, r1, p1⟩ := seqA_of II q1
  have z1 : @LT.lt Nat _ a1 sh.heap.objs.size := p1.lt
  obtain ⟨s2, r2, p2⟩ := seqA_of II q2
  have z2 : @LT.lt Nat _ a2 sh.heap.objs.size := p2.lt
  cases rv with
  | cons w1 rv =>
    cases rv with
    | cons w2 rv =>
      cases rv
      cases w1
      cases w2
      refine zip_begins2 (beginsA t1 a1 s1.toArray) (beginsA t2 a2 s2.toArray) p1 p2 fun h' hz hTI hTO g1 g2 hsz hk => wpAny_pyIter_zip hz ?_
      have I2 : Inv X pins σ HH { sh with heap := h' } := II.kept (t' := sh.toks) hk
      refine ⟨sh.heap.objs.size + 4, [sh.heap.objs.size + 4, sh.heap.objs.size + 2, sh.heap.objs.size + 3, sh.heap.objs.size, sh.heap.objs.size + 1], _, _, HH, rfl, I2, turn_g2 (S := ?_) (nne (by omega)) (nne (by omega)), ⟨hz, hTI, ⟨_, _, hTO⟩, isItA_new g1, isItA_new g2⟩, fun c hcm => ?_, q⟩
      · exact ⟨nne (by omega), nne (by omega), nne (by omega), nne (by omega), List.mem_cons_self, nmem (by omega) (by omega), nmem (by omega) (by omega), nne (by omega), List.mem_cons_self, nmem (by omega) (by omega), nmem (by omega) (by omega), nmem (by omega) (by omega), nmem (by omega) (by omega)⟩
      · have e' : c = sh.heap.objs.size + 4 ∨ c = sh.heap.objs.size + 2 ∨ c = sh.heap.objs.size + 3 ∨ c = sh.heap.objs.size ∨ c = sh.heap.objs.size + 1 := by simpa using hcm
        have hle : sh.heap.objs.size ≤ c := by
          rcases e' with z | z | z | z | z <;> rw [z] <;> first | exact Nat.le_refl _ | exact Nat.le_add_right _ _
        exact II.fpOk hle (II.hok.fresh hle)
def Itg3 (K : PySem.W.Frag) (t1 t2 t3 : Bool) (a1 a2 a3 : Addr) : It :=
  ⟨fun i H => ∃ (l1 l2 l3 : List V) (x1 x2 x3 : V), SqA K t1 H a1 l1 ∧ SqA K t2 H a2 l2 ∧ SqA K t3 H a3 l3 ∧ l1[i]? = some x1 ∧ l2[i]? = some x2 ∧ l3[i]? = some x3,
    fun i H v H' => ∃ T x1 x2 x3, v = .ref T ∧ H T = none ∧ H' = upd H T (.tup [x1, x2, x3]) ∧ (∀ l, SqA K t1 H a1 l → l[i]? = some x1) ∧ (∀ l, SqA K t2 H a2 l → l[i]? = some x2) ∧ (∀ l, SqA K t3 H a3 l → l[i]? = some x3),
    fun i H => ∃ (l1 l2 l3 : List V), SqA K t1 H a1 l1 ∧ SqA K t2 H a2 l2 ∧ SqA K t3 H a3 l3 ∧ (i ≤ l1.length ∧ i ≤ l2.length ∧ i ≤ l3.length) ∧ (i = l1.length ∨ i = l2.length ∨ i = l3.length)⟩
theorem turn_g3 {P : Program} {w : World} {K : PySem.W.Frag} {elts : List Expr} {kk : Nat} {tpos : Pos} {t1 t2 t3 : Bool} {z TI TO i1 i2 i3 a1 a2 a3 : Addr} (S : ZipSep3 z TI TO i1 i2 i3 [i1, a1] [i2, a2] [i3, a3]) (n1 : a1 ≠ i1) (n2 : a2 ≠ i2) (n3 : a3 ≠ i3) :
    Turn P w K (.Tuple elts kk tpos) (Itg3 K t1 t2 t3 a1 a2 a3) [z, TI, TO, i1, i2, i3] z (fun i h => IsZip h z TI TO .none ∧ IsTupOf3 h TI (.ref i1) (.ref i2) (.ref i3) ∧ (∃ y1 y2 y3, IsTupOf3 h TO y1 y2 y3) ∧ IsItA h t1 i1 a1 i ∧ IsItA h t2 i2 a2 i ∧ IsItA h t3 i3 a3 i) where
  mem := by simp
  obj := fun i h st c hc => by
    obtain ⟨hz, hTI, ⟨y1, y2, y3, hTO⟩, h1, h2, h3⟩ := st
    have e' : c = z ∨ c = TI ∨ c = TO ∨ c = i1 ∨ c = i2 ∨ c = i3 := by simpa using hc
    rcases e' with q | q | q | q | q | q
    · rw [q]; exact ⟨_, hz, fun v q => nomatch q⟩
    · rw [q]; exact ⟨_, hTI, fun v q => nomatch q⟩
    · rw [q]; exact ⟨_, hTO, fun v q => nomatch q⟩
    · rw [q]; obtain ⟨o, fs, e, d⟩ := h1.obj; exact ⟨o, e, fun v q => by rw [d] at q; cases q⟩
    · rw [q]; obtain ⟨o, fs, e, d⟩ := h2.obj; exact ⟨o, e, fun v q => by rw [d] at q; cases q⟩
    · rw [q]; obtain ⟨o, fs, e, d⟩ := h3.obj; exact ⟨o, e, fun v q => by rw [d] at q; cases q⟩
  keep := fun i h h' st k => by
    obtain ⟨hz, hTI, ⟨y1, y2, y3, hTO⟩, h1, h2, h3⟩ := st
    exact ⟨k z (by simp) _ hz, k TI (by simp) _ hTI, ⟨y1, y2, y3, k TO (by simp) _ hTO⟩, h1.at_ fun o q => k i1 (by simp) o q, h2.at_ fun o q => k i2 (by simp) o q, h3.at_ fun o q => k i3 (by simp) o q⟩
  item := by
    intro X hP hw hK hc i pins s σ H E I hf st hg
    subst hP hw hK
    obtain ⟨hz, hTI, ⟨y1, y2, y3, hTO⟩, h1, h2, h3⟩ := st
    obtain ⟨l1, l2, l3, x1, x2, x3, q1, q2, q3, e1, e2, e3⟩ := hg
    obtain ⟨s1, r1, p1⟩ := seqA_of I q1
    obtain ⟨u1, f1, v1⟩ := r1.get e1
    obtain ⟨s2, r2, p2⟩ := seqA_of I q2
    obtain ⟨u2, f2, v2⟩ := r2.get e2
    obtain ⟨s3, r3, p3⟩ := seqA_of I q3
    obtain ⟨u3, f3, v3⟩ := r3.get e3
    have hzl : z < s.heap.objs.size := Heap.lt_size hz
    refine wpAny_pyNext_zipD3_item S (drawsA (A := X.A.in1) (I.ok.hd hc) i1 a1 n1 s1.toArray t1) (drawsA (A := X.A.in1) (I.ok.hd hc) i2 a2 n2 s2.toArray t2) (drawsA (A := X.A.in1) (I.ok.hd hc) i3 a3 n3 s3.toArray t3) hz hTI hTO ⟨h1, p1⟩ ⟨h2, p2⟩ ⟨h3, p3⟩ (lt_of_some f1) (lt_of_some f2) (lt_of_some f3) fun w1 w2 w3 h' tk g1 g2 g3 z' TO' d1 d2 d3 hT hsz hk => ?_
    have ee1 : w1 = u1 := by
      have k1 : s1[i]? = some w1 := by simpa using g1
      rw [f1] at k1
      exact (Option.some.inj k1).symm
    subst ee1
    have ee2 : w2 = u2 := by
      have k1 : s2[i]? = some w2 := by simpa using g2
      rw [f2] at k1
      exact (Option.some.inj k1).symm
    subst ee2
    have ee3 : w3 = u3 := by
      have k1 : s3[i]? = some w3 := by simpa using g3
      rw [f3] at k1
      exact (Option.some.inj k1).symm
    subst ee3
    refine ⟨_, rfl, wpAny_letOwnedTupleGo_zip (s := { s with heap := h', toks := tk }) z' fun h'' z'' sb => ?_⟩
    have hT2 : h''.get? s.heap.objs.size = some { cls := .type "tuple", data := .seq #[w1, w2, w3] } := (sb.2 _ (Nat.ne_of_gt hzl)).trans hT
    have new : ObjOk X.prog X.w (upd H s.heap.objs.size (.tup [x1, x2, x3])) h'' s.heap.objs.size (.tup [x1, x2, x3]) :=
      ⟨by show 3 ≤ sizeLine; decide, [w1, w2, w3], .cons v1 (.cons v2 (.cons v3 .nil)), ⟨_, hT2, rfl, _, rfl⟩⟩
    have I1 : Inv X pins σ (upd H s.heap.objs.size (.tup [x1, x2, x3])) { s with heap := h'', toks := tk } :=
      I.turnedNew (t' := tk) (ch := [z, TI, TO, i1, i2, i3]) (fun c o hb q => (sb.2 c (fun q' => hb (by simp [q']))).trans (hk c o (fun q' => hb (by simp [q'])) (fun q' => hb (by simp [q'])) (fun q' => hb (by simp [q'])) (fun q' => hb (by simp [q'])) (fun q' => hb (by simp [q'])) q)) hf (Nat.le_refl _) new
    refine ⟨.ref s.heap.objs.size, _, I1, rfl, ⟨_, x1, x2, x3, rfl, I.hok.fresh (Nat.le_refl _), rfl, fun l hl => by rw [seqA_inj I hl q1]; exact e1, fun l hl => by rw [seqA_inj I hl q2]; exact e2, fun l hl => by rw [seqA_inj I hl q3]; exact e3⟩, ⟨z'', ?_, ⟨w1, w2, w3, ?_⟩, ?_, ?_, ?_⟩, fun c hcm => ?_⟩
    · exact (sb.2 _ S.TIz).trans (hk _ _ S.TIz S.TITO S.TIi1 S.TIi2 S.TIi3 hTI)
    · exact (sb.2 _ S.TOz).trans TO'
    · exact d1.1.at_ fun o q => (sb.2 _ (Ne.symm S.zi1)).trans q
    · exact d2.1.at_ fun o q => (sb.2 _ (Ne.symm S.zi2)).trans q
    · exact d3.1.at_ fun o q => (sb.2 _ (Ne.symm S.zi3)).trans q
    · have hlt : c < s.heap.objs.size := by
        have e' : c = z ∨ c = TI ∨ c = TO ∨ c = i1 ∨ c = i2 ∨ c = i3 := by simpa using hcm
        rcases e' with q | q | q | q | q | q
        · rw [q]; exact hzl
        · rw [q]; exact Heap.lt_size hTI
        · rw [q]; exact Heap.lt_size hTO
        · rw [q]; obtain ⟨o, fs, e, d⟩ := h1.obj; exact Heap.lt_size e
        · rw [q]; obtain ⟨o, fs, e, d⟩ := h2.obj; exact Heap.lt_size e
        · rw [q]; obtain ⟨o, fs, e, d⟩ := h3.obj; exact Heap.lt_size e
      rw [upd_ne (Nat.ne_of_lt hlt)]
      exact (hf c hcm).1
  done := by
    intro X hP hw hK hc i pins s σ H E I hf st hg
    subst hP hw hK
    obtain ⟨hz, hTI, ⟨y1, y2, y3, hTO⟩, h1, h2, h3⟩ := st
    obtain ⟨l1, l2, l3, q1, q2, q3, ⟨b1, b2, b3⟩, hend⟩ := hg
    obtain ⟨s1, r1, p1⟩ := seqA_of I q1
    have k1 := r1.length
    obtain ⟨s2, r2, p2⟩ := seqA_of I q2
    have k2 := r2.length
    obtain ⟨s3, r3, p3⟩ := seqA_of I q3
    have k3 := r3.length
    exact wpAny_pyNext_zipD3_end S (drawsA (A := X.A.in1) (I.ok.hd hc) i1 a1 n1 s1.toArray t1) (drawsA (A := X.A.in1) (I.ok.hd hc) i2 a2 n2 s2.toArray t2) (drawsA (A := X.A.in1) (I.ok.hd hc) i3 a3 n3 s3.toArray t3) hz hTI hTO ⟨h1, p1⟩ ⟨h2, p2⟩ ⟨h3, p3⟩ (by simp; omega) (by simp; omega) (by simp; omega) (by simp; omega) fun h' tk hk => ⟨rfl, I.turnedL (t' := tk) (ch := [z, TI, TO, i1, i2, i3]) (fun c o hb q => hk c o (fun q' => hb (by simp [q'])) (fun q' => hb (by simp [q'])) (fun q' => hb (by simp [q'])) (fun q' => hb (by simp [q'])) (fun q' => hb (by simp [q'])) q) hf⟩
  self := fun A i s Q E st h => wpAny_pyIter_zip st.1 h
def iZg3 (K : PySem.W.Frag) (ta : TA) : TI := fun σ H R => ta σ H fun vs H1 => ∃ (t1 t2 t3 : Bool) (a1 a2 a3 : Addr) (l1 l2 l3 : List V), vs = [.ref a1, .ref a2, .ref a3] ∧ SqA K t1 H1 a1 l1 ∧ SqA K t2 H1 a2 l2 ∧ SqA K t3 H1 a3 l3 ∧ R (Itg3 K t1 t2 t3 a1 a2 a3) H1
theorem pi_zg3 {X : Cx} {e1 e2 e3 : Expr} {ta : TA} {p pos tpos : Pos} {elts : List Expr} {kk : Nat} (hg : Gl X "zip") (hm : X.mg "zip" = none) (ha : PA X [e1, e2, e3] ta)
    (hs : starEach [e1, e2, e3] X.env = (false, eval e1 X.env) :: starEach [e2, e3] X.env := by rfl) (hpl : (backTo pos (starEach [e2, e3] X.env)).any (·.1) = false := by rfl) :
    PI X (.Tuple elts kk tpos) (.Call (.Name "zip" p) [e1, e2, e3] [] pos) (iZg3 X.K ta) := by
  refine ⟨fun pins s σ H R I h => ?_⟩
  refine Call_ (ld_blt I hg hm PyProof.Rows.boot_zip (PyProof.Rows.callWith_type1 (thn (ha.run pos pins s σ H _ I h) fun us sh ⟨vs, HH, II, rv, qq⟩ => ?_) hs hpl))
  obtain ⟨t1, t2, t3, a1, a2, a3, l1, l2, l3, ex, q1, q2, q3, q⟩ := qq
  subst ex
  obtain ⟨s1, r1, p1⟩ := seqA_of II q1
  have z1 : @LT.lt Nat _ a1 sh.heap.objs.size := p1.lt
  obtain ⟨s2, r2, p2⟩ := seqA_of II q2
  have z2 : @LT.lt Nat _ a2 sh.heap.objs.size := p2.lt
  obtain ⟨s3, r3, p3⟩ := seqA_of II q3
  have z3 : @LT.lt Nat _ a3 sh.heap.objs.size := p3.lt
  cases rv with
  | cons w1 rv =>
    cases rv with
    | cons w2 rv =>
      cases rv with
      | cons w3 rv =>
        cases rv
        cases w1
        cases w2
        cases w3
        refine zip_begins3 (beginsA t1 a1 s1.toArray) (beginsA t2 a2 s2.toArray) (beginsA t3 a3 s3.toArray) p1 p2 p3 fun h' hz hTI hTO g1 g2 g3 hsz hk => wpAny_pyIter_zip hz ?_
        have I2 : Inv X pins σ HH { sh with heap := h' } := II.kept (t' := sh.toks) hk
        refine ⟨sh.heap.objs.size + 5, [sh.heap.objs.size + 5, sh.heap.objs.size + 3, sh.heap.objs.size + 4, sh.heap.objs.size, sh.heap.objs.size + 1, sh.heap.objs.size + 2], _, _, HH, rfl, I2, turn_g3 (S := ?_) (nne (by omega)) (nne (by omega)) (nne (by omega)), ⟨hz, hTI, ⟨_, _, _, hTO⟩, isItA_new g1, isItA_new g2, isItA_new g3⟩, fun c hcm => ?_, q⟩
        · exact ⟨nne (by omega), nne (by omega), nne (by omega), nne (by omega), List.mem_cons_self, nmem (by omega) (by omega), nmem (by omega) (by omega), nne (by omega), List.mem_cons_self, nmem (by omega) (by omega), nmem (by omega) (by omega), nne (by omega), List.mem_cons_self, nmem (by omega) (by omega), nmem (by omega) (by omega), nmem (by omega) (by omega), nmem (by omega) (by omega), nmem (by omega) (by omega), nmem (by omega) (by omega), nmem (by omega) (by omega), nmem (by omega) (by omega)⟩
        · have e' : c = sh.heap.objs.size + 5 ∨ c = sh.heap.objs.size + 3 ∨ c = sh.heap.objs.size + 4 ∨ c = sh.heap.objs.size ∨ c = sh.heap.objs.size + 1 ∨ c = sh.heap.objs.size + 2 := by simpa using hcm
          have hle : sh.heap.objs.size ≤ c := by
            rcases e' with z | z | z | z | z | z <;> rw [z] <;> first | exact Nat.le_refl _ | exact Nat.le_add_right _ _
          exact II.fpOk hle (II.hok.fresh hle)
end M3
set_option Elab.async false
set_option linter.all false
set_option maxRecDepth 100000
set_option maxHeartbeats 4000000
namespace M3
open PySem PySem.Spec PyProof.Rows L2
/-- a walked thing, laid aside while it is walked -/
structure Aside (K : Kf) (B F : Hp) (tu : Bool) (a : Addr) (vs : List V) (B1 : Hp) (back : MH → MH) : Prop where
  sub : ∀ b o, B b = some o → B1 b = some o
  stays : ∀ B2 F2 E2 h2 σ2 H2, (∀ b o, B1 b = some o → B2 b = some o) → Le F F2 → Rel K B2 F2 E2 h2 σ2 H2 → SqA K tu H2 a vs
  bak : ∀ F2 E2 h2 σ2 H2, Le F F2 → Rel K B1 F2 E2 h2 σ2 H2 → Rel K B F2 E2 (back h2) σ2 H2
  vl : ∀ F2 h2 H2 r v, Le F F2 → RvOk K B1 F2 h2 H2 r v → RvOk K B F2 (back h2) H2 r v
theorem aside_of {K : Kf} {B F : Hp} {E : En} {h : MH} {σ : L2.St} {H : Hp} {d : D} {v : V} {k : List D → MH → (MH → MH) → Prop} (R : Rel K B F E h σ H) (rp : Rep K F d v) (q : iterD h d k) :
    ∃ a tu xs vs B1 h1 back, v = .ref a ∧ Reps K F xs vs ∧ k xs h1 back ∧ Rel K B1 F E h1 σ H ∧ Aside K B F tu a vs B1 back ∧ SqA K tu H a vs := by
  cases rp with
  | @tup a vs ds q' rs => exact ⟨a, true, ds, vs, B, h, id, rfl, rs, q, R, ⟨fun _ _ e => e, fun _ F2 _ _ _ _ _ l2 R2 => R2.sqT (l2.sqT q'), fun _ _ _ _ _ _ R => R, fun _ _ _ _ _ _ q => q⟩, R.sqT q'⟩
  | @lst a vs ds q' rs => exact ⟨a, false, ds, vs, B, h, id, rfl, rs, q, R, ⟨fun _ _ e => e, fun _ F2 _ _ _ _ _ l2 R2 => .of (R2.frz _ _ (l2.ls _ _ q')).1, fun _ _ _ _ _ _ R => R, fun _ _ _ _ _ _ q => q⟩, .of (R.frz _ _ q').1⟩
  | @scr a ns q' => exact ⟨a, false, ns.map D.int, _, B, h, id, rfl, Reps.ints ns, q, R, ⟨fun _ _ e => e, fun _ F2 _ _ _ _ _ l2 R2 => R2.sqL (l2.sqL q'), fun _ _ _ _ _ _ R => R, fun _ _ _ _ _ _ q => q⟩, R.sqL q'⟩
  | ref a =>
    have q : (match h a with
      | some (.lst xs) => k xs (del h a) (fun h2 => put h2 a (.lst xs))
      | _ => False) := q
    cases e : h a with
    | none => rw [e] at q; exact q.elim
    | some m =>
      rw [e] at q
      cases m with
      | lst xs =>
        obtain ⟨vs, e2, rs⟩ := R.cel a _ e
        have b := R.Bh e
        refine ⟨a, false, xs, vs, upd B a (.lst vs), del h a, _, rfl, rs, q, R.hide e e2, ⟨fun c o ec => by rw [upd_ne (ne_of_none ec b)]; exact ec, fun B2 F2 _ _ _ _ sb _ R2 => .of (R2.out a _ (sb _ _ upd_same)).1, ?_, ?_⟩, .of e2⟩
        · intro F2 E2 h2 σ2 H2 l2 R2
          exact R2.show b fun z => ⟨vs, z, rs.mono l2⟩
        · intro F2 h2 H2 r v l2 q
          exact q.show b
      | dct xs => exact q.elim
      | ins C fs => exact q.elim
  | _ => exact q.elim
/-- each turn makes a new tuple -/
def YTup (f : Nat → List V → Prop) : Nat → Hp → V → Hp → Prop := fun i H v H' => ∃ T vs, v = .ref T ∧ H T = none ∧ H' = upd H T (.tup vs) ∧ f i vs
theorem Src.tups {K : Kf} {B F B0 : Hp} {items : List D} {J : It} {f : Nat → List V → Prop} {G : Hp → Prop} {back : MH → MH} (w : Walk J items.length G (YTup f)) (r : ∀ i vs, i < items.length → f i vs → ∃ ds, items[i]? = some (.tup ds) ∧ Reps K F ds vs)
    (hG : ∀ B2 F2 E2 h2 σ2 H2, (∀ a o, B a = some o → B2 a = some o) → Le F F2 → Rel K B2 F2 E2 h2 σ2 H2 → G H2)
    (bk : ∀ F2 E2 h2 σ2 H2, Le F F2 → Rel K B F2 E2 h2 σ2 H2 → Rel K B0 F2 E2 (back h2) σ2 H2) (vl : ∀ F2 h2 H2 r v, Le F F2 → RvOk K B F2 h2 H2 r v → RvOk K B0 F2 (back h2) H2 r v) : Src K B0 F items B back J := by
  refine ⟨⟨G, _, w, hG, ?_⟩, bk, vl⟩
  rintro B2 F2 E2 h2 σ2 H2 i x H3 sb l R hi ⟨T, vs, rfl, nT, rfl, e⟩
  obtain ⟨ds, ed, rs⟩ := r i vs hi e
  have l2 : Le F2 (upd F2 T (.tup vs)) := Le.new (R.noF nT)
  exact ⟨_, _, ed, l2, R.newF nT, .tup (.inl (.inl upd_same)) (rs.mono (l.trans l2))⟩
def zipD2 (xs ys : List D) : List D := List.zipWith (fun x y => D.tup [x, y]) xs ys
def zipD3 (xs ys zs : List D) : List D := List.zipWith (fun x yz => D.tup [x, yz.1, yz.2]) xs (ys.zip zs)
def mZip2 (ta : TAm) : TIm := fun E h Kn Kx => ta E h (fun ds h' => match ds with
  | [d1, d2] => iterD h' d1 fun xs h1 b1 => iterD h1 d2 fun ys h2 b2 => Kn (zipD2 xs ys) h2 fun h3 => b1 (b2 h3)
  | _ => False) Kx
def mZip3 (ta : TAm) : TIm := fun E h Kn Kx => ta E h (fun ds h' => match ds with
  | [d1, d2, d3] => iterD h' d1 fun xs h1 b1 => iterD h1 d2 fun ys h2 b2 => iterD h2 d3 fun zs h3 b3 => Kn (zipD3 xs ys zs) h3 fun h4 => b1 (b2 (b3 h4))
  | _ => False) Kx
theorem walk_g2 {K : Kf} {t1 t2 : Bool} {a1 a2 : Addr} {l1 l2 : List V} {n : Nat} (e1 : n = min l1.length l2.length) :
    Walk (Itg2 K t1 t2 a1 a2) n (fun H => SqA K t1 H a1 l1 ∧ SqA K t2 H a2 l2) (YTup fun i vs => ∃ x y, l1[i]? = some x ∧ l2[i]? = some y ∧ vs = [x, y]) where
  goes := fun i H hi q => ⟨l1, l2, l1[i]'(by omega), l2[i]'(by omega), q.1, q.2, List.getElem?_eq_getElem _, List.getElem?_eq_getElem _⟩
  stops := fun H q => ⟨l1, l2, q.1, q.2, ⟨by omega, by omega⟩, by omega⟩
  yields := fun i H v H' _ q ⟨T, x, y, h1, h2, h3, h4, h5⟩ => ⟨T, [x, y], h1, h2, h3, x, y, h4 l1 q.1, h5 l2 q.2, rfl⟩
theorem walk_g3 {K : Kf} {t1 t2 t3 : Bool} {a1 a2 a3 : Addr} {l1 l2 l3 : List V} {n : Nat} (e1 : n = min l1.length (min l2.length l3.length)) :
    Walk (Itg3 K t1 t2 t3 a1 a2 a3) n (fun H => SqA K t1 H a1 l1 ∧ SqA K t2 H a2 l2 ∧ SqA K t3 H a3 l3) (YTup fun i vs => ∃ x y z, l1[i]? = some x ∧ l2[i]? = some y ∧ l3[i]? = some z ∧ vs = [x, y, z]) where
  goes := fun i H hi q => ⟨l1, l2, l3, l1[i]'(by omega), l2[i]'(by omega), l3[i]'(by omega), q.1, q.2.1, q.2.2, List.getElem?_eq_getElem _, List.getElem?_eq_getElem _, List.getElem?_eq_getElem _⟩
  stops := fun H q => ⟨l1, l2, l3, q.1, q.2.1, q.2.2, ⟨by omega, by omega, by omega⟩, by omega⟩
  yields := fun i H v H' _ q ⟨T, x, y, z, h1, h2, h3, h4, h5, h6⟩ => ⟨T, [x, y, z], h1, h2, h3, x, y, z, h4 l1 q.1, h5 l2 q.2.1, h6 l3 q.2.2, rfl⟩
theorem mi_zip2 {X : Cx} {W : WX} {e1 e2 : Expr} {ta : TAm} {p pos tpos : Pos} {elts : List Expr} {kk : Nat} (hg : Gl X "zip") (hm : X.mg "zip" = none) (ha : MA X W [e1, e2] ta)
    (hs : starEach [e1, e2] X.env = (false, eval e1 X.env) :: starEach [e2] X.env := by rfl) (hpl : (backTo pos (starEach [e2] X.env)).any (·.1) = false := by rfl) :
    MI X W (.Tuple elts kk tpos) (.Call (.Name "zip" p) [e1, e2] [] pos) (mZip2 ta) := fun B => (pi_zg2 hg hm (ha B) hs hpl).impM fun σ H Rr ⟨F, E, h, Kn, Kx, R, ht, hx, hn⟩ => by
  refine ⟨F, E, h, _, Kx, R, ht, hx, fun ds h' F' H' vs l R' r k => ?_⟩
  match ds, vs, r, k with
  | [d1, d2], [v1, v2], .cons r1 (.cons r2 .nil), k =>
    obtain ⟨a1, t1, xs, us, B1, h1, b1, rfl, rs1, k, R1, A1, s1⟩ := aside_of R' r1 k
    obtain ⟨a2, t2, ys, ws, B2, h2, b2, rfl, rs2, k, R2, A2, s2⟩ := aside_of R1 r2 k
    refine ⟨t1, t2, a1, a2, us, ws, rfl, s1, s2, hn (zipD2 xs ys) h2 _ F' H' B2 _ l R2 (Src.tups (walk_g2 (l1 := us) (l2 := ws) (by simp [zipD2, rs1.len, rs2.len])) ?_ ?_ ?_ ?_) k⟩
    · rintro i vs hi ⟨x, y, e1, e2, rfl⟩
      obtain ⟨d, ed, rd⟩ := rs1.getV e1
      obtain ⟨e, ee, re⟩ := rs2.getV e2
      exact ⟨[d, e], by simp [zipD2, List.getElem?_zipWith, ed, ee], .cons rd (.cons re .nil)⟩
    · intro B3 F3 E3 h3 σ3 H3 sb l3 R3
      exact ⟨A1.stays B3 F3 E3 h3 σ3 H3 (fun b o e => sb b o (A2.sub b o e)) l3 R3, A2.stays B3 F3 E3 h3 σ3 H3 sb l3 R3⟩
    · intro F3 E3 h3 σ3 H3 l3 R3
      exact A1.bak F3 E3 _ σ3 H3 l3 (A2.bak F3 E3 h3 σ3 H3 l3 R3)
    · intro F3 h3 H3 r v l3 q
      exact A1.vl F3 _ H3 r v l3 (A2.vl F3 h3 H3 r v l3 q)
theorem mi_zip3 {X : Cx} {W : WX} {e1 e2 e3 : Expr} {ta : TAm} {p pos tpos : Pos} {elts : List Expr} {kk : Nat} (hg : Gl X "zip") (hm : X.mg "zip" = none) (ha : MA X W [e1, e2, e3] ta)
    (hs : starEach [e1, e2, e3] X.env = (false, eval e1 X.env) :: starEach [e2, e3] X.env := by rfl) (hpl : (backTo pos (starEach [e2, e3] X.env)).any (·.1) = false := by rfl) :
    MI X W (.Tuple elts kk tpos) (.Call (.Name "zip" p) [e1, e2, e3] [] pos) (mZip3 ta) := fun B => (pi_zg3 hg hm (ha B) hs hpl).impM fun σ H Rr ⟨F, E, h, Kn, Kx, R, ht, hx, hn⟩ => by
  refine ⟨F, E, h, _, Kx, R, ht, hx, fun ds h' F' H' vs l R' r k => ?_⟩
  match ds, vs, r, k with
  | [d1, d2, d3], [v1, v2, v3], .cons r1 (.cons r2 (.cons r3 .nil)), k =>
    obtain ⟨a1, t1, xs, us, B1, h1, b1, rfl, rs1, k, R1, A1, s1⟩ := aside_of R' r1 k
    obtain ⟨a2, t2, ys, ws, B2, h2, b2, rfl, rs2, k, R2, A2, s2⟩ := aside_of R1 r2 k
    obtain ⟨a3, t3, zs, us3, B3, h3, b3, rfl, rs3, k, R3, A3, s3⟩ := aside_of R2 r3 k
    refine ⟨t1, t2, t3, a1, a2, a3, us, ws, us3, rfl, s1, s2, s3, hn (zipD3 xs ys zs) h3 _ F' H' B3 _ l R3 (Src.tups (walk_g3 (l1 := us) (l2 := ws) (l3 := us3) (by simp [zipD3, rs1.len, rs2.len, rs3.len])) ?_ ?_ ?_ ?_) k⟩
    · rintro i vs hi ⟨x, y, z, e1, e2, e3, rfl⟩
      obtain ⟨d, ed, rd⟩ := rs1.getV e1
      obtain ⟨e, ee, re⟩ := rs2.getV e2
      obtain ⟨f, ef, rf⟩ := rs3.getV e3
      have ez : (ys.zip zs)[i]? = some (e, f) := by simp [List.getElem?_zip_eq_some, ee, ef]
      exact ⟨[d, e, f], by simp [zipD3, List.getElem?_zipWith, ed, ez], .cons rd (.cons re (.cons rf .nil))⟩
    · intro B4 F4 E4 h4 σ4 H4 sb l4 R4
      exact ⟨A1.stays B4 F4 E4 h4 σ4 H4 (fun b o e => sb b o (A3.sub b o (A2.sub b o e))) l4 R4, A2.stays B4 F4 E4 h4 σ4 H4 (fun b o e => sb b o (A3.sub b o e)) l4 R4, A3.stays B4 F4 E4 h4 σ4 H4 sb l4 R4⟩
    · intro F4 E4 h4 σ4 H4 l4 R4
      exact A1.bak F4 E4 _ σ4 H4 l4 (A2.bak F4 E4 _ σ4 H4 l4 (A3.bak F4 E4 h4 σ4 H4 l4 R4))
    · intro F4 h4 H4 r v l4 q
      exact A1.vl F4 _ H4 r v l4 (A2.vl F4 _ H4 r v l4 (A3.vl F4 h4 H4 r v l4 q))
end M3
set_option Elab.async false
set_option linter.all false
set_option maxRecDepth 100000
set_option maxHeartbeats 4000000
namespace M3
open PySem PySem.Spec PyProof.Rows L2
section
variable {X : Cx} {W : WX} {o e f : Expr} {to ty tx : TVm} {apos cpos pos : Pos}
/-! ### methods of a list at a cell -/
def cellL (h : MH) (d : D) (k : Addr → List D → Prop) : Prop := match d with
  | .ref p => (match h p with
    | some (.lst xs) => k p xs
    | _ => False)
  | _ => False
theorem cellL_of {K : Kf} {B F : Hp} {E : En} {h : MH} {σ : L2.St} {H : Hp} {d : D} {v : V} {k : Addr → List D → Prop} (R : Rel K B F E h σ H) (r : Rep K F d v) (q : cellL h d k) :
    ∃ p xs vs, v = .ref p ∧ d = .ref p ∧ h p = some (.lst xs) ∧ H p = some (.lst vs) ∧ Reps K F xs vs ∧ k p xs := by
  cases r with
  | ref a =>
    have q : (match h a with
      | some (.lst xs) => k a xs
      | _ => False) := q
    cases e : h a with
    | none => rw [e] at q; exact q.elim
    | some m =>
      rw [e] at q
      cases m with
      | lst xs =>
        obtain ⟨vs, e2, rs⟩ := R.cel a _ e
        exact ⟨a, xs, vs, rfl, rfl, e, e2, rs, q⟩
      | dct xs => exact q.elim
      | ins C fs => exact q.elim
  | _ => exact q.elim
theorem cellL_r {h : MH} {p : Addr} {xs : List D} {k : Addr → List D → Prop} (e : h p = some (.lst xs)) : cellL h (.ref p) k = k p xs := by
  show (match h p with
    | some (.lst xs) => k p xs
    | _ => False) = _
  rw [e]
theorem cellL_p {h : MH} {p : Addr} {xs : List D} {k : Addr → List D → Prop} : cellL (put h p (.lst xs)) (.ref p) k = k p xs := cellL_r put_same
def mApp (to tv : TVm) : TEm := fun E h Kn Kx => to E h (fun d h1 => cellL h1 d fun _ _ => tv E h1 (fun y h2 => cellL h2 d fun p xs => xs.length < sizeLine ∧ Kn (.d .non) (put h2 p (.lst (xs ++ [y])))) Kx) Kx
theorem me_append (ho : MV X W o to) (ha : MV X W e ty)
    (hbase : attributeBase o "append" X.env (eval o X.env) = eval o X.env := by rfl)
    (hfew : ((backTo cpos (starEach [e] X.env)).all (fun x => !x.1) && (backToKw cpos (keywordEach [] X.env)).all (fun x => x.1.isSome)
      && decide (([e] : List Expr).length + ([] : List Keyword).length + (if ([] : List Keyword).isEmpty then 0 else 1) < 30)) = true := by rfl)
    (hline : (apos.endLine == cpos.line) = true := by rfl) (hs : starEach [e] X.env = (false, eval e X.env) :: starEach [] X.env := by rfl) (hplain : (backTo cpos (starEach [] X.env)).any (·.1) = false := by rfl) :
    ME X W (.Call (.Attribute o "append" apos) [e] [] cpos) (mApp to ty) := fun B =>
  (pe_bm PySem.F.plainAttrs_list PySem.F.slot_list_append PySem.F.type_list_append mt_append (ho B) (pa_cons (ha B) pa_nil hs) hbase hfew hline hs hplain).impM fun σ H Q ⟨F, E, h, Kn, Kx, R, ht, hx, hn⟩ => by
    refine ⟨F, E, h, _, Kx, R, ht, hx, fun d h1 F1 H1 v l1 R1 r1 k1 => ?_⟩
    obtain ⟨p, xs, vs, rfl, rfl, ep, eH, rs, k1⟩ := cellL_of R1 r1 k1
    refine ⟨.inl ⟨rfl, vs, .of eH⟩, F1, E, h1, _, Kx, R1, k1, hx.up l1, fun y h2 F2 H2 u l2 R2 r2 k2 => ?_⟩
    obtain ⟨p, xs, vs, e1, e2, ep, eH, rs, k2⟩ := cellL_of R2 (r1.mono l2) k2
    cases e1
    exact ⟨p, vs, u, rfl, rfl, eH, by rw [← rs.len]; exact k2.1, hn (.d .non) _ F2 _ .non (l1.trans l2) (R2.write (m' := .lst (xs ++ [y])) ep ⟨_, upd_same, rs.app (.cons r2 .nil)⟩) .non k2.2⟩
def mPopAt (to tv : TVm) : TEm := fun E h Kn Kx => to E h (fun d h1 => cellL h1 d fun _ _ => tv E h1 (fun y h2 => cellL h2 d fun p xs => onInt y fun i => (-(2 ^ 63) ≤ i ∧ i < 2 ^ 63) ∧ (match ixN xs.length i with
  | some n => (match xs[n]? with
    | some z => Kn (.d z) (put h2 p (.lst (xs.eraseIdx n)))
    | none => False)
  | none => False)) Kx) Kx
theorem me_popAt (ho : MV X W o to) (ha : MV X W e ty)
    (hbase : attributeBase o "pop" X.env (eval o X.env) = eval o X.env := by rfl)
    (hfew : ((backTo cpos (starEach [e] X.env)).all (fun x => !x.1) && (backToKw cpos (keywordEach [] X.env)).all (fun x => x.1.isSome)
      && decide (([e] : List Expr).length + ([] : List Keyword).length + (if ([] : List Keyword).isEmpty then 0 else 1) < 30)) = true := by rfl)
    (hline : (apos.endLine == cpos.line) = true := by rfl) (hs : starEach [e] X.env = (false, eval e X.env) :: starEach [] X.env := by rfl) (hplain : (backTo cpos (starEach [] X.env)).any (·.1) = false := by rfl) :
    ME X W (.Call (.Attribute o "pop" apos) [e] [] cpos) (mPopAt to ty) := fun B =>
  (pe_bm PySem.F.plainAttrs_list PySem.F.slot_list_pop PySem.F.type_list_pop mt_popAt (ho B) (pa_cons (ha B) pa_nil hs) hbase hfew hline hs hplain).impM fun σ H Q ⟨F, E, h, Kn, Kx, R, ht, hx, hn⟩ => by
    refine ⟨F, E, h, _, Kx, R, ht, hx, fun d h1 F1 H1 v l1 R1 r1 k1 => ?_⟩
    obtain ⟨p, xs, vs, rfl, rfl, ep, eH, rs, k1⟩ := cellL_of R1 r1 k1
    refine ⟨.inl ⟨rfl, vs, .of eH⟩, F1, E, h1, _, Kx, R1, k1, hx.up l1, fun y h2 F2 H2 u l2 R2 r2 k2 => ?_⟩
    obtain ⟨p, xs, vs, e1, e2, ep, eH, rs, k2⟩ := cellL_of R2 (r1.mono l2) k2
    cases e1
    obtain ⟨i, rfl, rfl, k2, k3⟩ := int_of r2 k2
    cases en : ixN xs.length i with
    | none => rw [en] at k3; exact k3.elim
    | some n =>
      rw [en] at k3
      cases ez : xs[n]? with
      | none => simp only [ez] at k3
      | some z =>
        simp only [ez] at k3
        obtain ⟨w, ew, rw'⟩ := rs.get ez
        have q1 := (ixN_seq en).1
        rw [rs.len] at q1
        exact ⟨p, vs, i, n, w, rfl, rfl, eH, k2.1, k2.2, q1, ew, hn (.d z) _ F2 _ w (l1.trans l2) (R2.write (m' := .lst (xs.eraseIdx n)) ep ⟨_, upd_same, rs.erase n⟩) rw' k3⟩
def mExt (to tv : TVm) : TEm := fun E h Kn Kx => to E h (fun d h1 => cellL h1 d fun _ _ => tv E h1 (fun y h2 => onL h2 y fun zs => cellL h2 d fun p xs => xs.length + zs.length ≤ sizeLine ∧ Kn (.d .non) (put h2 p (.lst (xs ++ zs)))) Kx) Kx
theorem me_extend (ho : MV X W o to) (ha : MV X W e ty)
    (hbase : attributeBase o "extend" X.env (eval o X.env) = eval o X.env := by rfl)
    (hfew : ((backTo cpos (starEach [e] X.env)).all (fun x => !x.1) && (backToKw cpos (keywordEach [] X.env)).all (fun x => x.1.isSome)
      && decide (([e] : List Expr).length + ([] : List Keyword).length + (if ([] : List Keyword).isEmpty then 0 else 1) < 30)) = true := by rfl)
    (hline : (apos.endLine == cpos.line) = true := by rfl) (hs : starEach [e] X.env = (false, eval e X.env) :: starEach [] X.env := by rfl) (hplain : (backTo cpos (starEach [] X.env)).any (·.1) = false := by rfl) :
    ME X W (.Call (.Attribute o "extend" apos) [e] [] cpos) (mExt to ty) := fun B =>
  (pe_bm PySem.F.plainAttrs_list PySem.F.slot_list_extend PySem.F.type_list_extend mt_extend (ho B) (pa_cons (ha B) pa_nil hs) hbase hfew hline hs hplain).impM fun σ H Q ⟨F, E, h, Kn, Kx, R, ht, hx, hn⟩ => by
    refine ⟨F, E, h, _, Kx, R, ht, hx, fun d h1 F1 H1 v l1 R1 r1 k1 => ?_⟩
    obtain ⟨p, xs, vs, rfl, rfl, ep, eH, rs, k1⟩ := cellL_of R1 r1 k1
    refine ⟨.inl ⟨rfl, vs, .of eH⟩, F1, E, h1, _, Kx, R1, k1, hx.up l1, fun y h2 F2 H2 u l2 R2 r2 k2 => ?_⟩
    obtain ⟨b, zs, us, rfl, eb, rz, k2⟩ := lst_of R2 r2 k2
    obtain ⟨p, xs, vs, e1, e2, ep, eH, rs, k2⟩ := cellL_of R2 (r1.mono l2) k2
    cases e1
    exact ⟨p, b, vs, us, rfl, rfl, eH, eb, by rw [← rs.len, ← rz.len]; exact k2.1, hn (.d .non) _ F2 _ .non (l1.trans l2) (R2.write (m' := .lst (xs ++ zs)) ep ⟨_, upd_same, rs.app rz⟩) .non k2.2⟩
/-! ### dicts -/
def mGet (to ty tx : TVm) : TEm := fun E h Kn Kx => to E h (fun d h1 => onD h1 d fun _ => ty E h1 (fun y h2 => tx E h2 (fun z h3 => onD h3 d fun kvs => match keyD y with
  | some k => Kn (.d ((valD kvs k).getD z)) h3
  | none => False) Kx) Kx) Kx
theorem me_get (hu : X.A.units + 1 < cLine) (ho : MV X W o to) (he : MV X W e ty) (hf : MV X W f tx) (m : M2 X o "get" apos e f cpos := by exact ⟨by rfl, by rfl, by rfl, by rfl⟩) : ME X W (.Call (.Attribute o "get" apos) [e, f] [] cpos) (mGet to ty tx) := fun B =>
  (pe_dget2 hu (ho B) (he B) (hf B) m).impM fun σ H Q ⟨F, E, h, Kn, Kx, R, ht, hx, hn⟩ => by
    refine ⟨F, E, h, _, Kx, R, ht, hx, fun d h1 F1 H1 v l1 R1 r1 k1 => ?_⟩
    obtain ⟨a, kvs, vs, rfl, ed, rs, k1⟩ := dct_of R1 r1 k1
    refine ⟨a, rfl, .inl ⟨vs, ed⟩, F1, E, h1, _, Kx, R1, k1, hx.up l1, fun y h2 F2 H2 u l2 R2 r2 k2 => ?_⟩
    refine ⟨F2, E, h2, _, Kx, R2, k2, (hx.up l1).up l2, fun z h3 F3 H3 w l3 R3 r3 k3 => ?_⟩
    obtain ⟨a', o', o2, e1, g, q, zz⟩ := dget_ok (p := fun o => Kn (.d (o.getD z)) h3) R3 (r1.mono (l2.trans l3)) (r2.mono l3) k3
    cases e1
    refine ⟨o2, g, ?_⟩
    rcases zz with ⟨rfl, rfl⟩ | ⟨dd, vv, rfl, rfl, rr⟩
    · exact hn (.d z) h3 F3 H3 w ((l1.trans l2).trans l3) R3 r3 q
    · exact hn (.d dd) h3 F3 H3 vv ((l1.trans l2).trans l3) R3 rr q
def mDNew : TEm := fun _ h Kn _ => Kn (.od []) h
theorem me_dnew : ME X W (.Dict [] [] pos) mDNew := fun B => pe_dnewK.impM fun σ H Q ⟨F, E, h, Kn, Kx, R, ht, hx, hn⟩ => fun p hp =>
  hn (.od []) h F _ _ (Le.refl F) (R.newO hp) ⟨p, [], rfl, upd_same, .nil, R.noB hp, R.noF hp, R.noh hp⟩ ht
/-! ### a, b, c = x, y, z of local names -/
def sPar3 (i j l : Nat) (ta : TAm) : TSm := fun N E h => ta E h (fun ds h' => match ds with
  | [x, y, z] => N.nx (((E.set i (some x)).set j (some y)).set l (some z)) h'
  | _ => False) N.xs
theorem ms_par3 {i j l : Nat} {x y z : Str} {a b c : Expr} {ta : TAm} {px py pz pt pos : Pos} {kt k2 pt2} (hc : X.calm = true) (hN : X.N.Nodup) (hi : X.N[i]? = some x) (hj : X.N[j]? = some y) (hl : X.N[l]? = some z) (hij : i ≠ j) (hil : i ≠ l) (hjl : j ≠ l)
    (hx : X.env.scope.names.lookup x = some .local) (hy : X.env.scope.names.lookup y = some .local) (hz : X.env.scope.names.lookup z = some .local) (ha : MA X W [a, b, c] ta)
    (hw : swappedStores [.Tuple [.Name x px, .Name y py, .Name z pz] kt pt] (.Tuple [a, b, c] k2 pt2) X.env = pure (some [x, y, z]))
    (hs : swapsWithSole [.Tuple [.Name x px, .Name y py, .Name z pz] kt pt] (.Tuple [a, b, c] k2 pt2) pos.line X.env = pure false := by rfl) :
    MS X W (.Assign [.Tuple [.Name x px, .Name y py, .Name z pz] kt pt] (.Tuple [a, b, c] k2 pt2) pos) (sPar3 i j l ta) := fun B => (ps_par3 hc hN hi hj hl hij hil hjl hx hy hz (ha B) hw hs).impM fun D σ H ⟨F, E, h, N, R, ht, c⟩ => by
  refine ⟨F, E, h, _, N.xs, R, ht, fun x h' F' H' a dx l R' q k => c.2.2.2.2 x h' F' E σ H' a dx l R' q k, fun ds h' F' H' vs l R' r k => ?_⟩
  match ds, vs, r, k with
  | [_, _, _], [_, _, _], .cons r1 (.cons r2 (.cons r3 .nil)), k => exact ⟨_, _, _, rfl, c.1 _ h' F' _ H' l (((R'.set r1 i).set r2 j).set r3 _) k⟩
/-! ### e.f op= value -/
def HasIn (K : Kf) (rd : V → V → Hp → VK → Prop) (g : G2) : Prop := ∀ (B F : Hp) (E : En) (h : MH) (σ : L2.St) (H : Hp) (x y : D) (vx vy : V) (Q : VK) (Kn : RV → MH → Prop), Rel K B F E h σ H → Rep K F x vx → Rep K F y vy → g x y h Kn →
  (∀ r h' F' H' v, Le F F' → Rel K B F' E h' σ H' → RvOk K B F' h' H' r v → Kn r h' → Q v H') → rd vx vy H Q
def sFldAugM (C : Addr) (n : Str) (to tv : TVm) (g : G2) : TSm := fun N E h => to E h (fun d h1 => onIns h1 d C fun a fs => match fs.lookup n with
  | some x => tv E h1 (fun y h2 => g x y h2 fun r h3 => onIns h3 (.ref a) C fun _ fs' => fs'.length < 1000 ∧ N.nx E (put h3 a (.ins C (putD n r.frz fs')))) N.xs
  | none => False) N.xs
theorem ms_fldaug {value : Expr} {m : Str} {C : Addr} {tpos : Pos} {tv : TVm} {op : Operator} {rd : V → V → Hp → VK → Prop} {g : G2} (ha : MV X W o to) (hv : MV X W value tv) (c : Cls X.K C) (na : NoAttr X.K C m) (hop : InOp X op rd) (hg : HasIn X.K rd g) : MS X W (.AugAssign (.Attribute o m tpos) op value pos) (sFldAugM C m to tv g) := fun B =>
  (ps_fldaug (ha B) (hv B) hop).impM fun D σ H ⟨F, E, h, N, R, ht, cc⟩ => by
    refine ⟨F, E, h, _, N.xs, R, ht, fun x h' F' H' a dx l R' q k => cc.2.2.2.2 x h' F' E σ H' a dx l R' q k, fun d h1 F1 H1 v l1 R1 r1 k1 => ?_⟩
    obtain ⟨a, fs, dx, ws, rfl, rfl, ea, eH, rs, k1⟩ := ins_of R1 r1 k1
    cases el : fs.lookup m with
    | none => simp only [el] at k1
    | some x =>
      simp only [el] at k1
      obtain ⟨vx, ev, rx⟩ := rs.some el
      refine ⟨a, C, dx, ws, vx, rfl, eH, c, na, ev, F1, E, h1, _, N.xs, R1, k1, fun x h' F' H' a dx l R' q k => cc.2.2.2.2 x h' F' E σ H' a dx (l1.trans l) R' q k, fun y h2 F2 H2 u l2 R2 r2 k2 => ?_⟩
      refine hg B F2 E h2 σ H2 x y vx u _ _ R2 (rx.mono l2) r2 k2 fun r h3 F3 H3 w l3 R3 q3 k3 => ?_
      obtain ⟨F4, l4, R4, rp⟩ := q3.frz R3
      obtain ⟨a', fs', dx', ws', e1, e2, ea', eH', rs', hl, k3⟩ := ins_of (K := X.K) (F := F4) R4 (.ref a) k3
      cases e1
      refine ⟨dx', ws', eH', by rw [← rs'.len]; exact hl, ?_⟩
      exact cc.1 E _ F4 σ _ (((l1.trans l2).trans l3).trans l4) (R4.write (m' := .ins C (putD m r.frz fs')) ea' ⟨dx', _, upd_same, RepF.put rp rs'⟩) k3
theorem hin_add {K : Kf} : HasIn K rAdd (gII (fun _ _ => True) fun i j => .int (i + j)) := fun B F E h σ H x y vx vy Q Kn R rx ry q hn => by
  obtain ⟨i, rfl, rfl, q⟩ := int_of rx q
  obtain ⟨j, rfl, rfl, _, q⟩ := int_of ry q
  exact ⟨i, j, rfl, rfl, hn (.d (.int (i + j))) h F H _ (Le.refl F) R (.int _) q⟩
end
end M3
set_option Elab.async false
set_option linter.all false
set_option maxRecDepth 100000
set_option maxHeartbeats 4000000
namespace M3
open PySem PySem.Spec PyProof.Rows L2
section
variable {X : Cx} {W : WX} {o e f : Expr} {to ty tx : TVm} {apos cpos pos : Pos}
theorem reps_str {K : Kf} {F : Hp} : ∀ {ys : List Str}, Reps K F (ys.map D.str) (ys.map V.str)
  | [] => .nil
  | y :: ys => .cons (.str y) reps_str
/-- x.split(sep) -/
def mSplit (to tv : TVm) : TEm := fun E h Kn Kx => to E h (fun d h1 => onStr d fun a => tv E h1 (fun y h2 => onStr y fun b => ((b.length == 0) = false ∧ a.length + 2 ≤ sizeLine) ∧ Kn (.ol ((Txt.split a b).map D.str)) h2) Kx) Kx
theorem me_split (ho : MV X W o to) (ha : MV X W e ty) (hs : starEach [e] X.env = [(false, eval e X.env)] := by rfl) (hbase : attributeBase o "split" X.env (eval o X.env) = eval o X.env := by rfl) (hline : (apos.endLine == pos.line) = true := by rfl) :
    ME X W (.Call (.Attribute o "split" apos) [e] [] pos) (mSplit to ty) := fun B =>
  (pe_split (ho B) (ha B) hs hbase hline).impM fun σ H Q ⟨F, E, h, Kn, Kx, R, ht, hx, hn⟩ => by
    refine ⟨F, E, h, _, Kx, R, ht, hx, fun d h1 F1 H1 v l1 R1 r1 k1 => ?_⟩
    obtain ⟨a, rfl, rfl, k1⟩ := str_of r1 k1
    refine ⟨⟨a, rfl⟩, F1, E, h1, _, Kx, R1, k1, hx.up l1, fun y h2 F2 H2 u l2 R2 r2 k2 => ?_⟩
    obtain ⟨b, rfl, rfl, k2⟩ := str_of r2 k2
    exact ⟨a, b, rfl, rfl, k2.1.1, k2.1.2, fun p hp => hn (.ol _) h2 F2 _ _ (l1.trans l2) (R2.newO hp) ⟨p, _, rfl, upd_same, reps_str, R2.noB hp, R2.noF hp, R2.noh hp⟩ k2.2⟩
def strsD : List D → Option (List Str)
  | [] => some []
  | .str a :: xs => (strsD xs).map (a :: ·)
  | _ :: _ => none
theorem strs_map {ys : List Str} : strsD (ys.map D.str) = some ys := by
  induction ys with
  | nil => rfl
  | cons y ys ih => show (strsD (ys.map D.str)).map (y :: ·) = _; rw [ih]; rfl
theorem strs_eq : ∀ {xs : List D} {ys : List Str}, strsD xs = some ys → xs = ys.map D.str
  | [], ys, h => by cases h; rfl
  | x :: xs, ys, h => by
    cases x with
    | str a =>
      have h : (strsD xs).map (a :: ·) = some ys := h
      cases e : strsD xs with
      | none => rw [e] at h; cases h
      | some zs =>
        rw [e] at h
        obtain rfl := Option.some.inj h
        rw [strs_eq e]
        rfl
    | _ => cases h
theorem reps_strs {K : Kf} {F : Hp} : ∀ {ys : List Str} {vs : List V}, Reps K F (ys.map D.str) vs → vs = ys.map V.str
  | [], _, .nil => rfl
  | y :: ys, _, .cons (.str _) r => by rw [reps_strs r]; rfl
def onStrs (xs : List D) (k : List Str → Prop) : Prop := match strsD xs with
  | some ys => k ys
  | none => False
theorem onStrs_map {ys : List Str} {k : List Str → Prop} : onStrs (ys.map D.str) k = k ys := by
  unfold onStrs
  rw [strs_map]
theorem onStrs_of {xs : List D} {k : List Str → Prop} (q : onStrs xs k) : ∃ ys, xs = ys.map D.str ∧ k ys := by
  unfold onStrs at q
  cases e : strsD xs with
  | none => rw [e] at q; exact q.elim
  | some ys => rw [e] at q; exact ⟨ys, strs_eq e, q⟩
/-- sep.join(texts) -/
def mJoin (to tv : TVm) : TEm := fun E h Kn Kx => to E h (fun d h1 => onStr d fun a => tv E h1 (fun y h2 => onQ h2 y fun xs => onStrs xs fun ys => ((ys.map (·.length)).sum + ys.length * a.length ≤ 16777216) ∧ Kn (.d (.str (Txt.join a ys))) h2) Kx) Kx
theorem me_join (ho : MV X W o to) (ha : MV X W e ty) (hs : starEach [e] X.env = [(false, eval e X.env)] := by rfl) (hbase : attributeBase o "join" X.env (eval o X.env) = eval o X.env := by rfl) (hline : (apos.endLine == pos.line) = true := by rfl) :
    ME X W (.Call (.Attribute o "join" apos) [e] [] pos) (mJoin to ty) := fun B =>
  (pe_join (ho B) (ha B) hs hbase hline).impM fun σ H Q ⟨F, E, h, Kn, Kx, R, ht, hx, hn⟩ => by
    refine ⟨F, E, h, _, Kx, R, ht, hx, fun d h1 F1 H1 v l1 R1 r1 k1 => ?_⟩
    obtain ⟨a, rfl, rfl, k1⟩ := str_of r1 k1
    refine ⟨⟨a, rfl⟩, F1, E, h1, _, Kx, R1, k1, hx.up l1, fun y h2 F2 H2 u l2 R2 r2 k2 => ?_⟩
    obtain ⟨p, xs, vs, rfl, q, rs, k2⟩ := seq_of R2 r2 k2
    obtain ⟨ys, rfl, k3⟩ := onStrs_of k2
    obtain rfl := reps_strs rs
    exact ⟨a, p, ys, rfl, rfl, q, k3.1, hn (.d _) h2 F2 _ _ (l1.trans l2) R2 (.str _) k3.2⟩
end
/-- str of a number -/
def gStrI : GA := fun ds h Kn => on1 ds fun x => onInt x fun i => i.natAbs.log2 < 1920 ∧ Kn (.d (.str (toString i))) h
theorem has_strI {K : Kf} : HasA K (fun xs H Q => ∃ i, xs = [.int i] ∧ i.natAbs.log2 < 1920 ∧ Q (.str (toString i)) H) gStrI := by
  intro B F E h σ H xs vs Q Kn R r q hn
  obtain ⟨d, v, rfl, rfl, rp, q⟩ := one_of r q
  obtain ⟨i, rfl, rfl, q⟩ := int_of rp q
  exact ⟨i, rfl, q.1, hn (.d (.str _)) h F H _ (Le.refl F) R (.str _) q.2⟩
/-- int of a text -/
def gIntS : GA := fun ds h Kn => on1 ds fun x => onStr x fun a => ∃ n, PySem.intText? a = some n ∧ a.length ≤ 640 ∧ Kn (.d (.int n)) h
theorem has_intS {K : Kf} : HasA K (fun xs H Q => ∃ a n, xs = [.str a] ∧ PySem.intText? a = some n ∧ a.length ≤ 640 ∧ Q (.int n) H) gIntS := by
  intro B F E h σ H xs vs Q Kn R r q hn
  obtain ⟨d, v, rfl, rfl, rp, q⟩ := one_of r q
  obtain ⟨a, rfl, rfl, n, q1, q2, q3⟩ := str_of rp q
  exact ⟨a, n, rfl, q1, q2, hn (.d (.int _)) h F H _ (Le.refl F) R (.int _) q3⟩
end M3
set_option Elab.async false
set_option linter.all false
set_option maxRecDepth 100000
set_option maxHeartbeats 4000000
namespace M3
open PySem PySem.Spec PyProof.Rows L2 SX
section
variable {X : Cx} {W : WX} {tg : Expr}
/-- a text's signs -/
def chD (x : Str) : List D := x.cps.toList.map fun c => D.str ⟨#[c]⟩
def mIterS (t : TVm) : TIm := fun E h Kn Kx => t E h (fun d h' => onStr d fun x => Kn (chD x) h' id) Kx
theorem mi_str {l : Expr} {t : TVm} (p : MV X W l t) : MI X W tg l (mIterS t) := fun B => (pi_str (p B)).impM fun σ H Rr ⟨F, E, h, Kn, Kx, R, ht, hx, hn⟩ => by
  refine ⟨F, E, h, _, Kx, R, ht, hx, fun d h' F' H' v l R' rp k => ?_⟩
  obtain ⟨x, rfl, rfl, k⟩ := str_of rp k
  refine ⟨x, rfl, hn (chD x) h' id F' H' B _ l R' ⟨⟨fun _ => True, _, by rw [show (chD x).length = x.cps.size from by simp [chD]]; exact walk_str, fun _ _ _ _ _ _ _ _ _ => trivial, ?_⟩, fun _ _ _ _ _ _ R => R, fun _ _ _ _ _ _ q => q⟩ k⟩
  intro B2 F2 E2 h2 σ2 H2 i y H3 _ l2 R2 hi q
  obtain ⟨rfl, c, ec, rfl⟩ := q
  exact ⟨F2, .str ⟨#[c]⟩, by simp [chD, ec], Le.refl _, R2, .str _⟩
end
section
variable {h : MH} {Kn : RV → MH → Prop} {x y z : Str} {i : Int} {ks : Str → Prop}
theorem onStr_x : onStr (.str x) ks = ks x := rfl
theorem gLen_x : gLen [.str z] h Kn = (z.length ≤ sizeLine ∧ Kn (.d (.int z.length)) h) := rfl
theorem gIx_x : gIx (.str z) (.int i) h Kn = (z.length ≤ sizeLine ∧ onOpt (atI z.cps.toList i) fun c => Kn (.d (.str ⟨#[c]⟩)) h) := by
  show (z.length ≤ sizeLine ∧ (match atI z.cps.toList i with
    | some c => Kn (.d (.str ⟨#[c]⟩)) h
    | none => False)) = _
  cases atI z.cps.toList i <;> rfl
theorem gIn_x {p : Bool → Bool} : gIn p (.str x) (.str z) h Kn = Kn (.d (.bl (p (!(Builtin.Str.occurrences z x 0 z.length 1).isEmpty)))) h := rfl
theorem gIn_1 {p : Bool → Bool} {a : List Nat} {c : Nat} : gIn p (.str (S [c])) (.str (S a)) h Kn = Kn (.d (.bl (p (decide (c ∈ a))))) h := by
  rw [gIn_x, in_one]
theorem eqD_x : eqD (.str x) (.str y) = (x == y) := by
  show PyData.eqv (.str x) (.str y) = _
  rw [PyData.eqv]
theorem gEq_x (hx : PyData.strOk x = true) (hy : PyData.strOk y = true) : gEq (.str x) (.str y) h Kn = Kn (.d (.bl (x == y))) h := by
  rw [gEq_ok (x := .str x) (y := .str y) ⟨0, by omega, hx⟩ ⟨0, by omega, hy⟩]
  show Kn (.d (.bl (eqD (.str x) (.str y)))) h = _
  rw [eqD_x]
theorem gNe_x (hx : PyData.strOk x = true) (hy : PyData.strOk y = true) : gNe (.str x) (.str y) h Kn = Kn (.d (.bl (!(x == y)))) h := by
  rw [gNe_ok (x := .str x) (y := .str y) ⟨0, by omega, hx⟩ ⟨0, by omega, hy⟩]
  show Kn (.d (.bl (!eqD (.str x) (.str y)))) h = _
  rw [eqD_x]
theorem strOk_S {l : List Nat} (h : ∀ c ∈ l, c < 1114112) : PyData.strOk (S l) = true := by
  unfold PyData.strOk
  simp only [List.all_toArray, List.all_eq_true, decide_eq_true_eq]
  exact h
theorem chD_S {l : List Nat} : chD (S l) = l.map fun c => D.str (S [c]) := rfl
theorem iterS_ap {t : TVm} {E : En} {K : List D → MH → (MH → MH) → Prop} {Kx : XKm} : mIterS t E h K Kx = t E h (fun d h' => onStr d fun x => K (chD x) h' id) Kx := rfl
theorem str_lit {s : String} {l : List Nat} (e : s.toList.map Char.toNat = l) : Str.ofString s = S l := TL.ext_tl (by rw [TL.tl_ofString, e])
end
end M3
set_option Elab.async false
set_option linter.all false
set_option maxRecDepth 100000
set_option maxHeartbeats 4000000
namespace M3
open PySem PySem.Spec PyProof.Rows L2 SX
inductive Ln where
  | hd (k w : Nat) | rw (r : List Int)
def planL : List Nat := [112, 108, 97, 110]
def wordsL : Ln → List (List Nat)
  | .hd k w => [planL, TL.numL k, TL.numL w]
  | .rw r => r.map fun c => TL.numL c.toNat
def lineL (l : Ln) : List Nat := TL.joinL [32] (wordsL l)
def linesOf (p : Plan) : List Ln := .hd p.k p.w :: p.rows.map .rw
def allLines (ps : List Plan) : List Ln := ps.flatMap linesOf
def textS (ps : List Plan) : Str := S (TL.joinL [10] ((allLines ps).map lineL))
def sp_number_of (a : Ad) : MSp := fun ds h Kn Kx => ∃ (n : Nat) (row : Int), ds = [.str (S (TL.numL n)), .int row] ∧ n < 100 ∧ Kn (.d (.int n)) h
def sp_written (a : Ad) : MSp := fun ds h Kn Kx => ∃ ps : List Plan, ds = [.lst (ps.map planD)] ∧ (∀ p ∈ ps, PlanOk p) ∧ ps.length ≤ 3 ∧ Kn (.d (.str (textS ps))) h
def sp_read (a : Ad) : MSp := fun ds h Kn Kx => ∃ ps : List Plan, ds = [.str (textS ps)] ∧ (∀ p ∈ ps, PlanOk p) ∧ ps.length ≤ 3 ∧ Kn (.ol (ps.map planD)) h
def sp_law (a : Ad) : MSp := fun ds h Kn Kx => ∃ ns : List Int, ds = [.scr ns] ∧ ∀ h', Kn (.d (.bl true)) h'
def t_number_of (a : Ad) : TSm :=
  (sSeq (sIf (mOrT (mNotT (mTst (frzV (mChain (gB fun i j => decide (i ≤ j)) (gB fun i j => decide (i ≤ j)) (mC (.int 1)) (frzV (mCall gLen (mCons (mVar 0) mNil))) (mC (.int 2)))))) (mTst (frzV (mCall gAny (mCons (frzV (mLc (mIterS (mVar 0)) (gN 2) mYes (frzV (mOp (gIn not) (mVar 2) (mC (.str "0123456789")))) [2])) mNil))))) sNever sSkip)
  (sSeq (sIf (mAndT (mTst (frzV (mOp gEq (frzV (mOp gIx (mVar 0) (mC (.int 0)))) (mC (.str "0"))))) (mTst (frzV (mOp gNe (mVar 0) (mC (.str "0")))))) sNever sSkip)
  (sRet (mCall gIntS (mCons (mVar 0) mNil)))))

def t_read (a : Ad) : TSm :=
  (sSeq (sSet 1 (frzV (mCell (mLst mNil))))
  (sSeq (sForget [2, 3, 4, 5, 6, 7] (sFor (mEnum (mCons (frzV (mIte (mTst (frzV (mOp gNe (mVar 0) (mC (.str ""))))) (mSplit (mVar 0) (mC (.str "\n"))) (mLst mNil))) mNil)) (gT 2 (gsCons (gN 2) (gsCons (gN 3) gsNil)))
   (sForget [2, 3, 4, 5, 6, 7] (sSeq (sSet 4 (frzV (mSplit (mVar 3) (mC (.str " ")))))
  (sForget [5, 6, 7] (sIf (mTst (frzV (mOp gEq (frzV (mOp gIx (mVar 4) (mC (.int 0)))) (mC (.str "plan"))))) (sSeq (sIf (mTst (frzV (mOp gNe (frzV (mCall gLen (mCons (mVar 4) mNil))) (mC (.int 3))))) sNever sSkip)
  (sDrop (mApp (mVar 1) (mTup (mCons (frzV (mFun (sp_number_of a) [] (mCons (frzV (mOp gIx (mVar 4) (mC (.int 1)))) (mCons (mVar 2) mNil)))) (mCons (frzV (mFun (sp_number_of a) [] (mCons (frzV (mOp gIx (mVar 4) (mC (.int 2)))) (mCons (mVar 2) mNil)))) (mCons (mTup mNil) mNil))))))) (sForget [5, 6, 7] (sIf (mTst (frzV (mOp gEq (mVar 1) (frzV (mLst mNil))))) sNever (sSeq (sAsg (frzV (mOp gIx (mVar 1) (frzV (mUn gNeg (mC (.int 1)))))) (gT 3 (gsCons (gN 5) (gsCons (gN 6) (gsCons (gN 7) gsNil)))))
  (sSetI (mVar 1) (frzV (mUn gNeg (mC (.int 1)))) (mTup (mCons (mVar 5) (mCons (mVar 6) (mCons (frzV (mOp gAdd (mVar 7) (mTup (mCons (frzV (mCall gTuple (mCons (frzV (mLc (mIter (mVar 4)) (gN 9) mYes (frzV (mFun (sp_number_of a) [] (mCons (mVar 9) (mCons (mVar 2) mNil)))) [9])) mNil))) mNil)))) mNil))))))))))))))
  (sSeq (sForget [8] (sFor (mIter (mVar 1)) (gN 8)
   (sForget [8] (sDrop (mFun (sp_need_plan a) [] (mCons (mVar 8) mNil))))))
  (sRet (mRel (mVar 1))))))

def t_written (a : Ad) : TSm :=
  (sSeq (sSet 1 (frzV (mCell (mLst mNil))))
  (sSeq (sForget [2] (sFor (mIter (mVar 0)) (gN 2)
   (sForget [2] (sSeq (sDrop (mFun (sp_need_plan a) [] (mCons (mVar 2) mNil)))
  (sSeq (sDrop (mApp (mVar 1) (frzV (mOp gAdd (frzV (mOp gAdd (frzV (mOp gAdd (frzV (mOp gAdd (mC (.str "plan")) (mC (.str " ")))) (frzV (mCall gStrI (mCons (frzV (mOp gIx (mVar 2) (mC (.int 0)))) mNil))))) (mC (.str " ")))) (frzV (mCall gStrI (mCons (frzV (mOp gIx (mVar 2) (mC (.int 1)))) mNil)))))))
  (sDrop (mExt (mVar 1) (frzV (mLc (mIter (frzV (mOp gIx (mVar 2) (mC (.int 2))))) (gN 3) mYes (frzV (mJoin (mC (.str " ")) (frzV (mLc (mIter (mVar 3)) (gN 4) mYes (frzV (mCall gStrI (mCons (mVar 4) mNil))) [4])))) [3])))))))))
  (sRet (mJoin (mC (.str "\n")) (mVar 1)))))

def t_law (a : Ad) : TSm :=
  (sSeq (sSet 1 (frzV (mCell (mFun (sp_law_row a) [] (mCons (mVar 0) mNil)))))
  (sSeq (sForget [2, 3, 4, 5, 6, 7, 8, 9, 10] (sFor (mRng1 (mCons (mC (.int 4)) mNil)) (gN 2)
   (sForget [2, 3, 4, 5, 6, 7, 8, 9, 10] (sSeq (sPar 3 4 (mCons (frzV (mLc (mRng1 (mCons (frzV (mFun (sp_law_taken a) [] (mCons (mVar 1) (mCons (mC (.int 4)) mNil)))) mNil)) (gN 11) mYes (frzV (mFun (sp_law_plan a) [] (mCons (mVar 1) (mCons (mC (.int 16)) (mCons (mC (.int 32)) (mCons (mC (.int 5)) mNil)))))) [11])) (mCons (frzV (mCell (mLst mNil))) mNil)))
  (sSeq (sForget [5, 6, 7] (sFor (mIter (mVar 3)) (gT 3 (gsCons (gN 5) (gsCons (gN 6) (gsCons (gN 7) gsNil))))
   (sForget [5, 6, 7] (sSeq (sDrop (mApp (mVar 4) (frzV (mOp gAdd (frzV (mOp gAdd (frzV (mOp gAdd (mC (.str "plan ")) (frzV (mCall gStrI (mCons (mVar 5) mNil))))) (mC (.str " ")))) (frzV (mCall gStrI (mCons (mVar 6) mNil)))))))
  (sSet 4 (frzV (mCell (mOp gAdd (mVar 4) (frzV (mLc (mIter (mVar 7)) (gN 12) mYes (frzV (mJoin (mC (.str " ")) (frzV (mLc (mIter (mVar 12)) (gN 13) mYes (frzV (mCall gStrI (mCons (mVar 13) mNil))) [13])))) [12]))))))))))
  (sSeq (sSet 8 (frzV (mJoin (mC (.str "\n")) (mVar 4))))
  (sForget [9, 10] (sFor (mRng1 (mCons (mC (.int 2)) mNil)) (gN 9)
   (sForget [9, 10] (sSeq (sSet 10 (frzV (mCell (mFun (sp_read a) [] (mCons (mVar 8) mNil)))))
  (sSeq (sIf (mOrT (mNotT (mTst (frzV (mFun (sp_law_alike a 6) [] (mCons (frzV (mFun (sp_written a) [] (mCons (mVar 3) mNil))) (mCons (mVar 8) mNil)))))) (mNotT (mTst (frzV (mFun (sp_law_alike a 6) [] (mCons (mVar 10) (mCons (mVar 3) mNil))))))) (sRet (valE (mC (.bl false)))) sSkip)
  (sDrop (mApp (mVar 10) (mTup mNil))))))))))))))
  (sRet (valE (mC (.bl true))))))

end M3
set_option Elab.async false
set_option linter.all false
set_option maxRecDepth 100000
set_option maxHeartbeats 4000000
namespace M3
open PySem PySem.Spec PyProof.Rows L2 SX
theorem planD_e {p : Plan} : planD p = .tup [.int p.k, .int p.w, .tup (p.rows.map fun r => .tup (r.map D.int))] := rfl
theorem lit_fig : Str.ofString "0123456789" = S [48, 49, 50, 51, 52, 53, 54, 55, 56, 57] := str_lit (by decide)
theorem lit_0 : Str.ofString "0" = S [48] := str_lit (by decide)
theorem lit_nl : Str.ofString "\n" = S [10] := str_lit (by decide)
theorem lit_sp : Str.ofString " " = S [32] := str_lit (by decide)
theorem lit_plan : Str.ofString "plan" = S planL := str_lit (by decide)
theorem lit_plan1 : Str.ofString "plan " = S (planL ++ [32]) := str_lit (by decide)
theorem lit_e : Str.ofString "" = S [] := str_lit (by decide)
theorem num_dig {n c : Nat} (h : c ∈ TL.numL n) : 48 ≤ c ∧ c ≤ 57 := TL.numL_digits n c h
theorem num_ok {n : Nat} : PyData.strOk (S (TL.numL n)) = true := strOk_S fun c hc => by have := num_dig hc; omega
theorem num_head : ∀ n : Nat, n < 100 → (TL.numL n)[0]? = some 48 → n = 0 := by decide +kernel
theorem num_0 : TL.numL 0 = [48] := by decide +kernel
theorem rd_number_of {a : Ad} (ds : List D) (h : MH) (Kn : RV → MH → Prop) (Kx : XKm) (q : sp_number_of a ds h Kn Kx) : t_number_of a (bodyN Kn Kx) (startE ["word", "row", "sign"] ds) h := by
  obtain ⟨n, row, rfl, hn, k⟩ := q
  show t_number_of a (bodyN Kn Kx) [some (.str (S (TL.numL n))), some (.int row), none] h
  have big := line_big
  have l1 : (TL.numL n).length ≤ 2 := TL.numL_len (by decide) hn
  have l0 : 1 ≤ (TL.numL n).length := by
    have := TL.numL_ne n
    cases e : TL.numL n with
    | nil => exact absurd e this
    | cons _ _ => simp
  have e1 : decide ((1 : Int) ≤ ((TL.numL n).length : Nat)) = true := by rw [decide_eq_true_eq]; omega
  have e2 : decide ((((TL.numL n).length : Nat) : Int) ≤ 2) = true := by rw [decide_eq_true_eq]; omega
  unfold t_number_of
  simp only [sSeq, sSet, sSkip, sForget, sFor, sIf, sRet, sRetN, sDrop, sSetI, sAsg, sPar, sFldM, sAug, frzV, valE, mVar, mC, mOp, mUn, mCall, mFun, mMeth, mMake, mFld, mTst, mNotT, mNotV, mAndV, mOrV, mAndT, mOrT, mIte, mNil, mCons, mTup, mLst, mChain, mIter_ap, mIsi_ap, mRng1, mRng2, mLc, mYes, mCell, mRel, mSl, oNo, oSome,
  gN, gT, gsCons, gsNil, frz_d, frz_l, frz_k, gIx_p, onSet_p, onQ_p, onL_p, gLen_p, onIns_p, put_put, atD_0, atD_1, atD_2, atD_3, atD_4, ixN_0, ixN_1, ixN_2, ixN_3, ixN_4, List.length_cons, List.length_nil, onBl_b, onInt_i, onTup_t, on1_1, on2_2, onQ_l, onQ_t, onQ_s, onL_l, onLs_l, onLs_s, onD_d, onOpt_s, gII, gB, gAdd_i, gAdd_s, gAdd_t, gAdd_l, gMul_i, gMul_l, gMul_t, gSub, gMod, gDiv, gPow, gNeg, gIx_l, gIx_t, gIx_s, gLen_l, gLen_t, gLen_s, gLen_d, iterD_t, iterD_l, iterD_s,
  kind_i, kind_b, kind_s, kind_n, kind_t, kind_l, gIsN, isNon, gTuple, gList, gAll, gAny, gSum, gMin, gMax, gMin2, gMax2, gAbs, gInt, gSorted,
  List.getElem?_cons_zero, List.getElem?_cons_succ, List.getElem?_nil, List.set_cons_zero, List.set_cons_succ, List.cons_append, List.nil_append, List.append_nil, wipeE, List.any_cons, List.any_nil, isK, Bool.or_false, Bool.false_or, Bool.or_true, Bool.true_or, Bool.not_true, Bool.not_false, if_true, if_false, Bool.false_eq_true, true_and, and_true, decide_eq_true_eq, id, reduceCtorEq, gEq_i, gNe_i, gEq_b, gNe_b, gEq_li, gNe_li, gEq_l0, gNe_l0, gEq_00, gNe_00, gEq_ti, gNe_ti, mEnum, Nat.zero_add, Nat.reduceAdd, Int.reduceEq, Int.cast_ofNat_Int, Nat.zero_le, sz1, sz2, sz3, sz4, sz5, sz6, decide_true, decide_false, gLen_x, S_len, e1, e2, lit_fig, lit_0, iterS_ap, onStr_x, chD_S]
  refine ⟨by omega, ?_⟩
  rw [if_pos (by omega)]
  refine lc_mapA (TL.numL n) (fun c => .str (S [c])) (fun _ => .bl false) (by omega) ?_ ?_
  · intro c hc acc kc ha q
    have := num_dig hc
    have e3 : decide (c ∈ [48, 49, 50, 51, 52, 53, 54, 55, 56, 57]) = true := by
      rw [decide_eq_true_eq]
      simp only [List.mem_cons, List.not_mem_nil, or_false]
      omega
    simp only [sSeq, sSet, sSkip, sForget, sFor, sIf, sRet, sRetN, sDrop, sSetI, sAsg, sPar, sFldM, sAug, frzV, valE, mVar, mC, mOp, mUn, mCall, mFun, mMeth, mMake, mFld, mTst, mNotT, mNotV, mAndV, mOrV, mAndT, mOrT, mIte, mNil, mCons, mTup, mLst, mChain, mIter_ap, mIsi_ap, mRng1, mRng2, mLc, mYes, mCell, mRel, mSl, oNo, oSome,
  gN, gT, gsCons, gsNil, frz_d, frz_l, frz_k, gIx_p, onSet_p, onQ_p, onL_p, gLen_p, onIns_p, put_put, atD_0, atD_1, atD_2, atD_3, atD_4, ixN_0, ixN_1, ixN_2, ixN_3, ixN_4, List.length_cons, List.length_nil, onBl_b, onInt_i, onTup_t, on1_1, on2_2, onQ_l, onQ_t, onQ_s, onL_l, onLs_l, onLs_s, onD_d, onOpt_s, gII, gB, gAdd_i, gAdd_s, gAdd_t, gAdd_l, gMul_i, gMul_l, gMul_t, gSub, gMod, gDiv, gPow, gNeg, gIx_l, gIx_t, gIx_s, gLen_l, gLen_t, gLen_s, gLen_d, iterD_t, iterD_l, iterD_s,
  kind_i, kind_b, kind_s, kind_n, kind_t, kind_l, gIsN, isNon, gTuple, gList, gAll, gAny, gSum, gMin, gMax, gMin2, gMax2, gAbs, gInt, gSorted,
  List.getElem?_cons_zero, List.getElem?_cons_succ, List.getElem?_nil, List.set_cons_zero, List.set_cons_succ, List.cons_append, List.nil_append, List.append_nil, wipeE, List.any_cons, List.any_nil, isK, Bool.or_false, Bool.false_or, Bool.or_true, Bool.true_or, Bool.not_true, Bool.not_false, if_true, if_false, Bool.false_eq_true, true_and, and_true, decide_eq_true_eq, id, reduceCtorEq, gEq_i, gNe_i, gEq_b, gNe_b, gEq_li, gNe_li, gEq_l0, gNe_l0, gEq_00, gNe_00, gEq_ti, gNe_ti, mEnum, Nat.zero_add, Nat.reduceAdd, Int.reduceEq, Int.cast_ofNat_Int, Nat.zero_le, sz1, sz2, sz3, sz4, sz5, sz6, decide_true, decide_false, gIn_1, e3]
    exact ⟨ha, q⟩
  · have e3 : (TL.numL n).map (fun _ => D.bl false) = (List.replicate (TL.numL n).length false).map D.bl := by
      rw [List.map_replicate]
      exact List.map_const' ..
    have e4 : (List.replicate (TL.numL n).length false).any id = false := by simp
    have o0 : PyData.strOk (S [48]) = true := strOk_S (by simp)
    cases e : TL.numL n with
    | nil => exact absurd e (TL.numL_ne n)
    | cons c cs =>
      have e5 : atI (S (TL.numL n)).cps.toList 0 = some c := by
        show atI (TL.numL n) ((0 : Nat) : Int) = some c
        exact atI_nat (by rw [e]; rfl)
      have oc : PyData.strOk ⟨#[c]⟩ = true := strOk_S (l := [c]) fun d hd => by
        have := num_dig (n := n) (c := d) (by rw [e]; simp at hd; simp [hd])
        omega
      rw [← e, e3]
      have fin : gIntS [D.str (S (TL.numL n))] h (bodyN Kn Kx).rt := ⟨n, by rw [← num_S]; exact TL.int_num (by omega), by rw [S_len]; omega, bodyN_rt0 k⟩
      simp only [sSeq, sSet, sSkip, sForget, sFor, sIf, sRet, sRetN, sDrop, sSetI, sAsg, sPar, sFldM, sAug, frzV, valE, mVar, mC, mOp, mUn, mCall, mFun, mMeth, mMake, mFld, mTst, mNotT, mNotV, mAndV, mOrV, mAndT, mOrT, mIte, mNil, mCons, mTup, mLst, mChain, mIter_ap, mIsi_ap, mRng1, mRng2, mLc, mYes, mCell, mRel, mSl, oNo, oSome,
  gN, gT, gsCons, gsNil, frz_d, frz_l, frz_k, gIx_p, onSet_p, onQ_p, onL_p, gLen_p, onIns_p, put_put, atD_0, atD_1, atD_2, atD_3, atD_4, ixN_0, ixN_1, ixN_2, ixN_3, ixN_4, List.length_cons, List.length_nil, onBl_b, onInt_i, onTup_t, on1_1, on2_2, onQ_l, onQ_t, onQ_s, onL_l, onLs_l, onLs_s, onD_d, onOpt_s, gII, gB, gAdd_i, gAdd_s, gAdd_t, gAdd_l, gMul_i, gMul_l, gMul_t, gSub, gMod, gDiv, gPow, gNeg, gIx_l, gIx_t, gIx_s, gLen_l, gLen_t, gLen_s, gLen_d, iterD_t, iterD_l, iterD_s,
  kind_i, kind_b, kind_s, kind_n, kind_t, kind_l, gIsN, isNon, gTuple, gList, gAll, gAny, gSum, gMin, gMax, gMin2, gMax2, gAbs, gInt, gSorted,
  List.getElem?_cons_zero, List.getElem?_cons_succ, List.getElem?_nil, List.set_cons_zero, List.set_cons_succ, List.cons_append, List.nil_append, List.append_nil, wipeE, List.any_cons, List.any_nil, isK, Bool.or_false, Bool.false_or, Bool.or_true, Bool.true_or, Bool.not_true, Bool.not_false, if_true, if_false, Bool.false_eq_true, true_and, and_true, decide_eq_true_eq, id, reduceCtorEq, gEq_i, gNe_i, gEq_b, gNe_b, gEq_li, gNe_li, gEq_l0, gNe_l0, gEq_00, gNe_00, gEq_ti, gNe_ti, mEnum, Nat.zero_add, Nat.reduceAdd, Int.reduceEq, Int.cast_ofNat_Int, Nat.zero_le, sz1, sz2, sz3, sz4, sz5, sz6, decide_true, decide_false, onBls_map, e4, gIx_x, e5, gEq_x oc o0, gNe_x num_ok o0]
      refine ⟨by rw [S_len]; omega, ?_⟩
      split
      · rename_i c1
        have c2 : c = 48 := by
          have c1 : (S [c] == S [48]) = true := c1
          rw [S_beq_eq, decide_eq_true_eq] at c1
          simpa using c1
        have n0 : n = 0 := num_head n hn (by rw [e, c2]; rfl)
        have e6 : (S (TL.numL n) == S [48]) = true := by rw [n0, num_0]; exact beq_self_eq_true _
        rw [if_neg (by rw [e6]; decide)]
        exact fin
      · exact fin
theorem joinL_len {S : List Nat} : ∀ ls : List (List Nat), (TL.joinL S ls).length ≤ (ls.map List.length).sum + ls.length * S.length
  | [] => by simp [TL.joinL]
  | [p] => by simp [TL.joinL]
  | p :: q :: r => by
    have ih := joinL_len (S := S) (q :: r)
    simp only [TL.joinL, List.length_append, List.map_cons, List.sum_cons, List.length_cons] at ih ⊢
    have e : (r.length + 1 + 1) * S.length = (r.length + 1) * S.length + S.length := by rw [Nat.succ_mul]
    omega
theorem sum_le {n : Nat} : ∀ ls : List Nat, (∀ x ∈ ls, x ≤ n) → ls.sum ≤ ls.length * n
  | [], _ => by simp
  | x :: ls, h => by
    have ih := sum_le ls fun y hy => h y (List.mem_cons_of_mem _ hy)
    have := h x List.mem_cons_self
    simp only [List.sum_cons, List.length_cons, Nat.succ_mul]
    omega
structure LnOk (l : Ln) : Prop where
  n0 : wordsL l ≠ []
  n1 : (wordsL l).length ≤ 16
  each : ∀ w ∈ wordsL l, w.length ≤ 4
  code : ∀ w ∈ wordsL l, ∀ c ∈ w, 33 ≤ c ∧ c ≤ 127
theorem num_len {n : Nat} (h : n < 100) : (TL.numL n).length ≤ 2 := TL.numL_len (by decide) h
theorem ln_hd {k w : Nat} (h1 : k < 100) (h2 : w < 100) : LnOk (.hd k w) := by
  refine ⟨by simp [wordsL], by simp [wordsL], fun x hx => ?_, fun x hx c hc => ?_⟩
  · simp only [wordsL, List.mem_cons, List.not_mem_nil, or_false] at hx
    rcases hx with rfl | rfl | rfl
    · decide
    · have := num_len h1; omega
    · have := num_len h2; omega
  · simp only [wordsL, List.mem_cons, List.not_mem_nil, or_false] at hx
    rcases hx with rfl | rfl | rfl
    · simp only [planL, List.mem_cons, List.not_mem_nil, or_false] at hc
      omega
    · have := num_dig hc; omega
    · have := num_dig hc; omega
theorem ln_rw {r : List Int} (h1 : 1 ≤ r.length) (h2 : r.length ≤ 16) (h3 : ∀ c ∈ r, 0 ≤ c ∧ c < 100) : LnOk (.rw r) := by
  refine ⟨fun e => ?_, by simp [wordsL]; exact h2, fun x hx => ?_, fun x hx c hc => ?_⟩
  · have : (wordsL (.rw r)).length = 0 := by rw [e]; rfl
    simp [wordsL] at this
    rw [this] at h1
    simp at h1
  · obtain ⟨c, hc, rfl⟩ := List.mem_map.mp hx
    have := h3 c hc
    have := num_len (n := c.toNat) (by omega)
    omega
  · obtain ⟨d, hd, rfl⟩ := List.mem_map.mp hx
    have := num_dig hc
    omega
theorem plan_rw {p : Plan} (ok : PlanOk p) {r : List Int} (hr : r ∈ p.rows) : LnOk (.rw r) := by
  have l := ok.len r hr
  have k1 := ok.k1
  have k2 := ok.k2
  have w2 := ok.w2
  exact ln_rw (by omega) (by omega) fun c hc => by have := ok.cell r hr c hc; omega
theorem plan_lines {p : Plan} (ok : PlanOk p) : ∀ l ∈ linesOf p, LnOk l := fun l hl => by
  have k2 := ok.k2
  have w2 := ok.w2
  simp only [linesOf, List.mem_cons, List.mem_map] at hl
  rcases hl with rfl | ⟨r, hr, rfl⟩
  · exact ln_hd (by omega) (by omega)
  · exact plan_rw ok hr
theorem all_lines {ps : List Plan} (ok : ∀ p ∈ ps, PlanOk p) : ∀ l ∈ allLines ps, LnOk l := fun l hl => by
  obtain ⟨p, hp, hl⟩ := List.mem_flatMap.mp hl
  exact plan_lines (ok p hp) l hl
theorem all_len : ∀ {ps : List Plan}, (∀ p ∈ ps, PlanOk p) → (allLines ps).length ≤ ps.length * 6
  | [], _ => by simp [allLines]
  | p :: ps, ok => by
    have ih := all_len (ps := ps) fun q hq => ok q (List.mem_cons_of_mem _ hq)
    have := (ok p List.mem_cons_self).r2
    simp only [allLines, List.flatMap_cons, List.length_append, linesOf, List.length_cons, List.length_map] at ih ⊢
    omega
theorem line_len {l : Ln} (h : LnOk l) : (lineL l).length ≤ 80 := by
  have h1 := joinL_len (S := [32]) (wordsL l)
  have h2 := sum_le (n := 4) ((wordsL l).map List.length) fun x hx => by
    obtain ⟨w, hw, rfl⟩ := List.mem_map.mp hx
    exact h.each w hw
  have h3 := h.n1
  simp only [List.length_map, List.length_cons, List.length_nil] at h1 h2
  unfold lineL
  omega
theorem text_len {ls : List Ln} (h : ∀ l ∈ ls, LnOk l) : (TL.joinL [10] (ls.map lineL)).length ≤ ls.length * 81 := by
  have h1 := joinL_len (S := [10]) (ls.map lineL)
  have h2 := sum_le (n := 80) ((ls.map lineL).map List.length) fun x hx => by
    obtain ⟨w, hw, rfl⟩ := List.mem_map.mp hx
    obtain ⟨l, hl, rfl⟩ := List.mem_map.mp hw
    exact line_len (h l hl)
  simp only [List.length_map, List.length_cons, List.length_nil] at h1 h2
  omega
theorem hd_cat {k w : Nat} : S planL ++ S [32] ++ S (TL.numL k) ++ S [32] ++ S (TL.numL w) = S (lineL (.hd k w)) := by
  simp only [S_cat, lineL, wordsL, TL.joinL, List.append_assoc]
theorem hd_cat1 {k w : Nat} : S (planL ++ [32]) ++ S (TL.numL k) ++ S [32] ++ S (TL.numL w) = S (lineL (.hd k w)) := by
  simp only [S_cat, lineL, wordsL, TL.joinL, List.append_assoc]
def lnD (l : Ln) : D := .str (S (lineL l))
theorem joinS {ls : List (List Nat)} : Txt.join (S [32]) (ls.map S) = S (TL.joinL [32] ls) := join_S [32] ls
theorem num_nat {n : Nat} : Str.ofString (toString (n : Int)) = S (TL.numL n) := num_S n
theorem num_int {c : Int} (h : 0 ≤ c) : Str.ofString (toString c) = S (TL.numL c.toNat) := by
  obtain ⟨n, rfl⟩ := Int.eq_ofNat_of_zero_le h
  exact num_S n
theorem log_lt {n : Nat} (h : n < 100) : n.log2 < 1920 := PySem.Flt.log2_lt_of (by decide) (Nat.lt_of_lt_of_le h (by decide +kernel))
/-- a row's text, as both write it -/
theorem row_join {E : En} {r : List Int} {h : MH} {K : List D → MH → Prop} (big : 1000 ≤ sizeLine) (ok : LnOk (.rw r)) (h2 : ∀ c ∈ r, 0 ≤ c ∧ c < 100) (i : Nat) (ei : ∀ d, (E.set i (some d))[i]? = some (some d))
    (k : K ((wordsL (.rw r)).map fun w => .str (S w)) h) : lcL (gN i) mYes (frzV (mCall gStrI (mCons (mVar i) mNil))) E (r.map D.int) [] h K := by
  have n1 := ok.n1
  refine lc_mapA r D.int (fun c => .str (S (TL.numL c.toNat))) (by simp [wordsL] at n1; omega) ?_ ?_
  · intro c hc acc kc ha q
    have := h2 c hc
    simp only [sSeq, sSet, sSkip, sForget, sFor, sIf, sRet, sRetN, sDrop, sSetI, sAsg, sPar, sFldM, sAug, frzV, valE, mVar, mC, mOp, mUn, mCall, mFun, mMeth, mMake, mFld, mTst, mNotT, mNotV, mAndV, mOrV, mAndT, mOrT, mIte, mNil, mCons, mTup, mLst, mChain, mIter_ap, mIsi_ap, mRng1, mRng2, mLc, mYes, mCell, mRel, mSl, oNo, oSome,
  gN, gT, gsCons, gsNil, frz_d, frz_l, frz_k, gIx_p, onSet_p, onQ_p, onL_p, gLen_p, onIns_p, put_put, atD_0, atD_1, atD_2, atD_3, atD_4, ixN_0, ixN_1, ixN_2, ixN_3, ixN_4, List.length_cons, List.length_nil, onBl_b, onInt_i, onTup_t, on1_1, on2_2, onQ_l, onQ_t, onQ_s, onL_l, onLs_l, onLs_s, onD_d, onOpt_s, gII, gB, gAdd_i, gAdd_s, gAdd_t, gAdd_l, gMul_i, gMul_l, gMul_t, gSub, gMod, gDiv, gPow, gNeg, gIx_l, gIx_t, gIx_s, gLen_l, gLen_t, gLen_s, gLen_d, iterD_t, iterD_l, iterD_s,
  kind_i, kind_b, kind_s, kind_n, kind_t, kind_l, gIsN, isNon, gTuple, gList, gAll, gAny, gSum, gMin, gMax, gMin2, gMax2, gAbs, gInt, gSorted,
  List.getElem?_cons_zero, List.getElem?_cons_succ, List.getElem?_nil, List.set_cons_zero, List.set_cons_succ, List.cons_append, List.nil_append, List.append_nil, wipeE, List.any_cons, List.any_nil, isK, Bool.or_false, Bool.false_or, Bool.or_true, Bool.true_or, Bool.not_true, Bool.not_false, if_true, if_false, Bool.false_eq_true, true_and, and_true, decide_eq_true_eq, id, reduceCtorEq, gEq_i, gNe_i, gEq_b, gNe_b, gEq_li, gNe_li, gEq_l0, gNe_l0, gEq_00, gNe_00, gEq_ti, gNe_ti, mEnum, Nat.zero_add, Nat.reduceAdd, Int.reduceEq, Int.cast_ofNat_Int, Nat.zero_le, sz1, sz2, sz3, sz4, sz5, sz6, decide_true, decide_false, ei, gStrI, num_int this.1]
    exact ⟨log_lt (by omega), ha, q⟩
  · simp only [wordsL, List.map_map] at k
    exact k
theorem strs_S {ls : List (List Nat)} {k : List Str → Prop} : onStrs (ls.map fun w => D.str (S w)) k = k (ls.map S) := by
  have e : (ls.map fun w => D.str (S w)) = (ls.map S).map D.str := by rw [List.map_map]; rfl
  rw [e, onStrs_map]
theorem sum_S {ls : List (List Nat)} {n : Nat} (h : ∀ w ∈ ls, w.length ≤ n) : ((ls.map S).map (·.length)).sum ≤ ls.length * n := by
  have := sum_le (n := n) ((ls.map S).map (·.length)) fun x hx => by
    obtain ⟨w, hw, rfl⟩ := List.mem_map.mp hx
    obtain ⟨l, hl, rfl⟩ := List.mem_map.mp hw
    rw [S_len]
    exact h l hl
  simpa using this
theorem lines_take {ps : List Plan} {i : Nat} {p : Plan} (e : ps[i]? = some p) : allLines (ps.take (i + 1)) = allLines (ps.take i) ++ linesOf p := by
  unfold allLines
  rw [List.take_succ, e, List.flatMap_append]
  simp
theorem rd_written {a : Ad} (ds : List D) (h : MH) (Kn : RV → MH → Prop) (Kx : XKm) (q : sp_written a ds h Kn Kx) : t_written a (bodyN Kn Kx) (startE ["plans", "rows", "plan", "row", "cell"] ds) h := by
  obtain ⟨ps, rfl, ok, l3, k⟩ := q
  show t_written a (bodyN Kn Kx) [some (.lst (ps.map planD)), none, none, none, none] h
  have big := line_big
  have sl : (1000000 : Nat) ≤ sizeLine := by rw [sizeLine_eq]; decide
  unfold t_written
  simp only [sSeq, sSet, sSkip, sForget, sFor, sIf, sRet, sRetN, sDrop, sSetI, sAsg, sPar, sFldM, sAug, frzV, valE, mVar, mC, mOp, mUn, mCall, mFun, mMeth, mMake, mFld, mTst, mNotT, mNotV, mAndV, mOrV, mAndT, mOrT, mIte, mNil, mCons, mTup, mLst, mChain, mIter_ap, mIsi_ap, mRng1, mRng2, mLc, mYes, mCell, mRel, mSl, oNo, oSome,
  gN, gT, gsCons, gsNil, frz_d, frz_l, frz_k, gIx_p, onSet_p, onQ_p, onL_p, gLen_p, onIns_p, put_put, atD_0, atD_1, atD_2, atD_3, atD_4, ixN_0, ixN_1, ixN_2, ixN_3, ixN_4, List.length_cons, List.length_nil, onBl_b, onInt_i, onTup_t, on1_1, on2_2, onQ_l, onQ_t, onQ_s, onL_l, onLs_l, onLs_s, onD_d, onOpt_s, gII, gB, gAdd_i, gAdd_s, gAdd_t, gAdd_l, gMul_i, gMul_l, gMul_t, gSub, gMod, gDiv, gPow, gNeg, gIx_l, gIx_t, gIx_s, gLen_l, gLen_t, gLen_s, gLen_d, iterD_t, iterD_l, iterD_s,
  kind_i, kind_b, kind_s, kind_n, kind_t, kind_l, gIsN, isNon, gTuple, gList, gAll, gAny, gSum, gMin, gMax, gMin2, gMax2, gAbs, gInt, gSorted,
  List.getElem?_cons_zero, List.getElem?_cons_succ, List.getElem?_nil, List.set_cons_zero, List.set_cons_succ, List.cons_append, List.nil_append, List.append_nil, wipeE, List.any_cons, List.any_nil, isK, Bool.or_false, Bool.false_or, Bool.or_true, Bool.true_or, Bool.not_true, Bool.not_false, if_true, if_false, Bool.false_eq_true, true_and, and_true, decide_eq_true_eq, id, reduceCtorEq, gEq_i, gNe_i, gEq_b, gNe_b, gEq_li, gNe_li, gEq_l0, gNe_l0, gEq_00, gNe_00, gEq_ti, gNe_ti, mEnum, Nat.zero_add, Nat.reduceAdd, Int.reduceEq, Int.cast_ofNat_Int, Nat.zero_le, sz1, sz2, sz3, sz4, sz5, sz6, decide_true, decide_false]
  intro p hp
  refine for_inv (fun i E h' => h' = put h p (.lst ((allLines (ps.take i)).map lnD)) ∧ E = [some (.lst (ps.map planD)), some (.ref p), none, none, none]) ⟨rfl, rfl⟩ ?_ ?_
  · rintro i d E h2 kc hi ⟨rfl, rfl⟩ hk
    rw [List.getElem?_map] at hi
    cases er : ps[i]? with
    | none => rw [er] at hi; cases hi
    | some p1 =>
      rw [er] at hi
      obtain rfl := Option.some.inj hi
      have ok1 := ok p1 (List.mem_of_getElem? er)
      have k2 := ok1.k2
      have w2 := ok1.w2
      have r2 := ok1.r2
      have ln0 : (allLines (ps.take i)).length ≤ 18 := by
        have := all_len (ps := ps.take i) fun q hq => ok q (List.mem_of_mem_take hq)
        have := List.length_take_le' i ps
        omega
      have n1 : (TL.numL p1.k).length ≤ 2 := num_len (by omega)
      have n2 : (TL.numL p1.w).length ≤ 2 := num_len (by omega)
      simp only [sSeq, sSet, sSkip, sForget, sFor, sIf, sRet, sRetN, sDrop, sSetI, sAsg, sPar, sFldM, sAug, frzV, valE, mVar, mC, mOp, mUn, mCall, mFun, mMeth, mMake, mFld, mTst, mNotT, mNotV, mAndV, mOrV, mAndT, mOrT, mIte, mNil, mCons, mTup, mLst, mChain, mIter_ap, mIsi_ap, mRng1, mRng2, mLc, mYes, mCell, mRel, mSl, oNo, oSome,
  gN, gT, gsCons, gsNil, frz_d, frz_l, frz_k, gIx_p, onSet_p, onQ_p, onL_p, gLen_p, onIns_p, put_put, atD_0, atD_1, atD_2, atD_3, atD_4, ixN_0, ixN_1, ixN_2, ixN_3, ixN_4, List.length_cons, List.length_nil, onBl_b, onInt_i, onTup_t, on1_1, on2_2, onQ_l, onQ_t, onQ_s, onL_l, onLs_l, onLs_s, onD_d, onOpt_s, gII, gB, gAdd_i, gAdd_s, gAdd_t, gAdd_l, gMul_i, gMul_l, gMul_t, gSub, gMod, gDiv, gPow, gNeg, gIx_l, gIx_t, gIx_s, gLen_l, gLen_t, gLen_s, gLen_d, iterD_t, iterD_l, iterD_s,
  kind_i, kind_b, kind_s, kind_n, kind_t, kind_l, gIsN, isNon, gTuple, gList, gAll, gAny, gSum, gMin, gMax, gMin2, gMax2, gAbs, gInt, gSorted,
  List.getElem?_cons_zero, List.getElem?_cons_succ, List.getElem?_nil, List.set_cons_zero, List.set_cons_succ, List.cons_append, List.nil_append, List.append_nil, wipeE, List.any_cons, List.any_nil, isK, Bool.or_false, Bool.false_or, Bool.or_true, Bool.true_or, Bool.not_true, Bool.not_false, if_true, if_false, Bool.false_eq_true, true_and, and_true, decide_eq_true_eq, id, reduceCtorEq, gEq_i, gNe_i, gEq_b, gNe_b, gEq_li, gNe_li, gEq_l0, gNe_l0, gEq_00, gNe_00, gEq_ti, gNe_ti, mEnum, Nat.zero_add, Nat.reduceAdd, Int.reduceEq, Int.cast_ofNat_Int, Nat.zero_le, sz1, sz2, sz3, sz4, sz5, sz6, decide_true, decide_false]
      refine ⟨p1, rfl, ok1, ?_⟩
      have pl : planL.length = 4 := rfl
      simp only [sSeq, sSet, sSkip, sForget, sFor, sIf, sRet, sRetN, sDrop, sSetI, sAsg, sPar, sFldM, sAug, frzV, valE, mVar, mC, mOp, mUn, mCall, mFun, mMeth, mMake, mFld, mTst, mNotT, mNotV, mAndV, mOrV, mAndT, mOrT, mIte, mNil, mCons, mTup, mLst, mChain, mIter_ap, mIsi_ap, mRng1, mRng2, mLc, mYes, mCell, mRel, mSl, oNo, oSome,
  gN, gT, gsCons, gsNil, frz_d, frz_l, frz_k, gIx_p, onSet_p, onQ_p, onL_p, gLen_p, onIns_p, put_put, atD_0, atD_1, atD_2, atD_3, atD_4, ixN_0, ixN_1, ixN_2, ixN_3, ixN_4, List.length_cons, List.length_nil, onBl_b, onInt_i, onTup_t, on1_1, on2_2, onQ_l, onQ_t, onQ_s, onL_l, onLs_l, onLs_s, onD_d, onOpt_s, gII, gB, gAdd_i, gAdd_s, gAdd_t, gAdd_l, gMul_i, gMul_l, gMul_t, gSub, gMod, gDiv, gPow, gNeg, gIx_l, gIx_t, gIx_s, gLen_l, gLen_t, gLen_s, gLen_d, iterD_t, iterD_l, iterD_s,
  kind_i, kind_b, kind_s, kind_n, kind_t, kind_l, gIsN, isNon, gTuple, gList, gAll, gAny, gSum, gMin, gMax, gMin2, gMax2, gAbs, gInt, gSorted,
  List.getElem?_cons_zero, List.getElem?_cons_succ, List.getElem?_nil, List.set_cons_zero, List.set_cons_succ, List.cons_append, List.nil_append, List.append_nil, wipeE, List.any_cons, List.any_nil, isK, Bool.or_false, Bool.false_or, Bool.or_true, Bool.true_or, Bool.not_true, Bool.not_false, if_true, if_false, Bool.false_eq_true, true_and, and_true, decide_eq_true_eq, id, reduceCtorEq, gEq_i, gNe_i, gEq_b, gNe_b, gEq_li, gNe_li, gEq_l0, gNe_l0, gEq_00, gNe_00, gEq_ti, gNe_ti, mEnum, Nat.zero_add, Nat.reduceAdd, Int.reduceEq, Int.cast_ofNat_Int, Nat.zero_le, sz1, sz2, sz3, sz4, sz5, sz6, decide_true, decide_false, sAugI, mPopAt, mApp, mExt, mGet, mDNew, sPar3, sFldAugM, mZip2, mZip3, mJoin, mSplit, cellL_p, onStr_x, gLen_x, gIx_x, gIn_1, iterS_ap, chD_S, S_len, S_cat, planD_e, gStrI, lit_plan, lit_sp, num_nat, List.length_append, List.length_map, pl]
      refine ⟨log_lt (by omega), by omega, by omega, log_lt (by omega), by omega, by omega, ?_⟩
      have e1 : S (planL ++ [32] ++ TL.numL p1.k ++ [32] ++ TL.numL p1.w) = S (lineL (.hd p1.k p1.w)) := by simp only [lineL, wordsL, TL.joinL, List.append_assoc]
      rw [e1]
      refine lc_mapA p1.rows (fun r => .tup (r.map D.int)) (fun r => lnD (.rw r)) (by omega) ?_ ?_
      · intro r hr acc kc2 ha q
        have okr := plan_rw ok1 hr
        simp only [sSeq, sSet, sSkip, sForget, sFor, sIf, sRet, sRetN, sDrop, sSetI, sAsg, sPar, sFldM, sAug, frzV, valE, mVar, mC, mOp, mUn, mCall, mFun, mMeth, mMake, mFld, mTst, mNotT, mNotV, mAndV, mOrV, mAndT, mOrT, mIte, mNil, mCons, mTup, mLst, mChain, mIter_ap, mIsi_ap, mRng1, mRng2, mLc, mYes, mCell, mRel, mSl, oNo, oSome,
  gN, gT, gsCons, gsNil, frz_d, frz_l, frz_k, gIx_p, onSet_p, onQ_p, onL_p, gLen_p, onIns_p, put_put, atD_0, atD_1, atD_2, atD_3, atD_4, ixN_0, ixN_1, ixN_2, ixN_3, ixN_4, List.length_cons, List.length_nil, onBl_b, onInt_i, onTup_t, on1_1, on2_2, onQ_l, onQ_t, onQ_s, onL_l, onLs_l, onLs_s, onD_d, onOpt_s, gII, gB, gAdd_i, gAdd_s, gAdd_t, gAdd_l, gMul_i, gMul_l, gMul_t, gSub, gMod, gDiv, gPow, gNeg, gIx_l, gIx_t, gIx_s, gLen_l, gLen_t, gLen_s, gLen_d, iterD_t, iterD_l, iterD_s,
  kind_i, kind_b, kind_s, kind_n, kind_t, kind_l, gIsN, isNon, gTuple, gList, gAll, gAny, gSum, gMin, gMax, gMin2, gMax2, gAbs, gInt, gSorted,
  List.getElem?_cons_zero, List.getElem?_cons_succ, List.getElem?_nil, List.set_cons_zero, List.set_cons_succ, List.cons_append, List.nil_append, List.append_nil, wipeE, List.any_cons, List.any_nil, isK, Bool.or_false, Bool.false_or, Bool.or_true, Bool.true_or, Bool.not_true, Bool.not_false, if_true, if_false, Bool.false_eq_true, true_and, and_true, decide_eq_true_eq, id, reduceCtorEq, gEq_i, gNe_i, gEq_b, gNe_b, gEq_li, gNe_li, gEq_l0, gNe_l0, gEq_00, gNe_00, gEq_ti, gNe_ti, mEnum, Nat.zero_add, Nat.reduceAdd, Int.reduceEq, Int.cast_ofNat_Int, Nat.zero_le, sz1, sz2, sz3, sz4, sz5, sz6, decide_true, decide_false, sAugI, mPopAt, mApp, mExt, mGet, mDNew, sPar3, sFldAugM, mZip2, mZip3, mJoin, mSplit, cellL_p, onStr_x, gLen_x, gIx_x, gIn_1, iterS_ap, chD_S, S_len, S_cat]
        refine row_join big okr (fun c hc => by have := ok1.cell r hr c hc; omega) 4 (fun d => rfl) ?_
        simp only [sSeq, sSet, sSkip, sForget, sFor, sIf, sRet, sRetN, sDrop, sSetI, sAsg, sPar, sFldM, sAug, frzV, valE, mVar, mC, mOp, mUn, mCall, mFun, mMeth, mMake, mFld, mTst, mNotT, mNotV, mAndV, mOrV, mAndT, mOrT, mIte, mNil, mCons, mTup, mLst, mChain, mIter_ap, mIsi_ap, mRng1, mRng2, mLc, mYes, mCell, mRel, mSl, oNo, oSome,
  gN, gT, gsCons, gsNil, frz_d, frz_l, frz_k, gIx_p, onSet_p, onQ_p, onL_p, gLen_p, onIns_p, put_put, atD_0, atD_1, atD_2, atD_3, atD_4, ixN_0, ixN_1, ixN_2, ixN_3, ixN_4, List.length_cons, List.length_nil, onBl_b, onInt_i, onTup_t, on1_1, on2_2, onQ_l, onQ_t, onQ_s, onL_l, onLs_l, onLs_s, onD_d, onOpt_s, gII, gB, gAdd_i, gAdd_s, gAdd_t, gAdd_l, gMul_i, gMul_l, gMul_t, gSub, gMod, gDiv, gPow, gNeg, gIx_l, gIx_t, gIx_s, gLen_l, gLen_t, gLen_s, gLen_d, iterD_t, iterD_l, iterD_s,
  kind_i, kind_b, kind_s, kind_n, kind_t, kind_l, gIsN, isNon, gTuple, gList, gAll, gAny, gSum, gMin, gMax, gMin2, gMax2, gAbs, gInt, gSorted,
  List.getElem?_cons_zero, List.getElem?_cons_succ, List.getElem?_nil, List.set_cons_zero, List.set_cons_succ, List.cons_append, List.nil_append, List.append_nil, wipeE, List.any_cons, List.any_nil, isK, Bool.or_false, Bool.false_or, Bool.or_true, Bool.true_or, Bool.not_true, Bool.not_false, if_true, if_false, Bool.false_eq_true, true_and, and_true, decide_eq_true_eq, id, reduceCtorEq, gEq_i, gNe_i, gEq_b, gNe_b, gEq_li, gNe_li, gEq_l0, gNe_l0, gEq_00, gNe_00, gEq_ti, gNe_ti, mEnum, Nat.zero_add, Nat.reduceAdd, Int.reduceEq, Int.cast_ofNat_Int, Nat.zero_le, sz1, sz2, sz3, sz4, sz5, sz6, decide_true, decide_false, sAugI, mPopAt, mApp, mExt, mGet, mDNew, sPar3, sFldAugM, mZip2, mZip3, mJoin, mSplit, cellL_p, onStr_x, gLen_x, gIx_x, gIn_1, iterS_ap, chD_S, S_len, S_cat, strs_S, joinS]
        refine ⟨?_, ha, q⟩
        have h1 := sum_S okr.each
        have h2 := okr.n1
        simp only [List.length_map] at h1 ⊢
        omega
      · simp only [cellL_p, List.length_append, List.length_map, List.length_cons, List.length_nil]
        refine ⟨by omega, hk _ _ ⟨?_, rfl⟩⟩
        rw [put_put, lines_take er, List.map_append, linesOf, List.map_cons, List.map_map, List.append_assoc]
        rfl
  · rintro E h2 ⟨rfl, rfl⟩
    have e0 : (ps.map planD).length = ps.length := List.length_map ..
    rw [e0, List.take_length]
    have al := all_len ok
    have e1 : (allLines ps).map lnD = ((allLines ps).map lineL).map fun w => D.str (S w) := by rw [List.map_map]; rfl
    simp only [sSeq, sSet, sSkip, sForget, sFor, sIf, sRet, sRetN, sDrop, sSetI, sAsg, sPar, sFldM, sAug, frzV, valE, mVar, mC, mOp, mUn, mCall, mFun, mMeth, mMake, mFld, mTst, mNotT, mNotV, mAndV, mOrV, mAndT, mOrT, mIte, mNil, mCons, mTup, mLst, mChain, mIter_ap, mIsi_ap, mRng1, mRng2, mLc, mYes, mCell, mRel, mSl, oNo, oSome,
  gN, gT, gsCons, gsNil, frz_d, frz_l, frz_k, gIx_p, onSet_p, onQ_p, onL_p, gLen_p, onIns_p, put_put, atD_0, atD_1, atD_2, atD_3, atD_4, ixN_0, ixN_1, ixN_2, ixN_3, ixN_4, List.length_cons, List.length_nil, onBl_b, onInt_i, onTup_t, on1_1, on2_2, onQ_l, onQ_t, onQ_s, onL_l, onLs_l, onLs_s, onD_d, onOpt_s, gII, gB, gAdd_i, gAdd_s, gAdd_t, gAdd_l, gMul_i, gMul_l, gMul_t, gSub, gMod, gDiv, gPow, gNeg, gIx_l, gIx_t, gIx_s, gLen_l, gLen_t, gLen_s, gLen_d, iterD_t, iterD_l, iterD_s,
  kind_i, kind_b, kind_s, kind_n, kind_t, kind_l, gIsN, isNon, gTuple, gList, gAll, gAny, gSum, gMin, gMax, gMin2, gMax2, gAbs, gInt, gSorted,
  List.getElem?_cons_zero, List.getElem?_cons_succ, List.getElem?_nil, List.set_cons_zero, List.set_cons_succ, List.cons_append, List.nil_append, List.append_nil, wipeE, List.any_cons, List.any_nil, isK, Bool.or_false, Bool.false_or, Bool.or_true, Bool.true_or, Bool.not_true, Bool.not_false, if_true, if_false, Bool.false_eq_true, true_and, and_true, decide_eq_true_eq, id, reduceCtorEq, gEq_i, gNe_i, gEq_b, gNe_b, gEq_li, gNe_li, gEq_l0, gNe_l0, gEq_00, gNe_00, gEq_ti, gNe_ti, mEnum, Nat.zero_add, Nat.reduceAdd, Int.reduceEq, Int.cast_ofNat_Int, Nat.zero_le, sz1, sz2, sz3, sz4, sz5, sz6, decide_true, decide_false, sAugI, mPopAt, mApp, mExt, mGet, mDNew, sPar3, sFldAugM, mZip2, mZip3, mJoin, mSplit, cellL_p, onStr_x, gLen_x, gIx_x, gIn_1, iterS_ap, chD_S, S_len, S_cat, lit_nl, e1, strs_S, join_S]
    refine ⟨?_, bodyN_rt (h := put h p _) k ?_⟩
    · have h1 := sum_S (n := 80) (ls := (allLines ps).map lineL) fun w hw => by
        obtain ⟨l, hl, rfl⟩ := List.mem_map.mp hw
        exact line_len (all_lines ok l hl)
      simp only [List.length_map] at h1 ⊢
      omega
    · intro a m e
      rw [put_ne]
      · exact e
      · rintro rfl
        rw [hp] at e
        cases e
theorem joinL_mem {S : List Nat} {c : Nat} : ∀ {ls : List (List Nat)}, c ∈ TL.joinL S ls → c ∈ S ∨ ∃ w ∈ ls, c ∈ w
  | [], h => by simp [TL.joinL] at h
  | [p], h => .inr ⟨p, List.mem_singleton.mpr rfl, h⟩
  | p :: q :: r, h => by
    have h : c ∈ p ++ (S ++ TL.joinL S (q :: r)) := h
    rcases List.mem_append.mp h with h | h
    · exact .inr ⟨p, List.mem_cons_self, h⟩
    · rcases List.mem_append.mp h with h | h
      · exact .inl h
      · rcases joinL_mem h with h | ⟨w, hw, h⟩
        · exact .inl h
        · exact .inr ⟨w, List.mem_cons_of_mem _ hw, h⟩
theorem joinL_ne {S p : List Nat} {ls : List (List Nat)} (h : p ≠ []) : TL.joinL S (p :: ls) ≠ [] := by
  cases ls with
  | nil => exact h
  | cons q r =>
    show p ++ _ ≠ []
    simp [h]
theorem line_code {l : Ln} (ok : LnOk l) {c : Nat} (h : c ∈ lineL l) : 32 ≤ c ∧ c ≤ 127 := by
  rcases joinL_mem h with h | ⟨w, hw, h⟩
  · simp at h
    omega
  · have := ok.code w hw c h
    omega
theorem split_line {l : Ln} (ok : LnOk l) : Txt.split (S (lineL l)) (S [32]) = (wordsL l).map S := by
  rw [split_S (by simp) (by decide), lineL, spl_join ok.n0 fun w hw hc => by have := ok.code w hw 32 hc; omega]
theorem split_text {ls : List Ln} (ok : ∀ l ∈ ls, LnOk l) (h : ls ≠ []) : Txt.split (S (TL.joinL [10] (ls.map lineL))) (S [10]) = (ls.map lineL).map S := by
  rw [split_S (by simp) (by decide), spl_join (by simpa using h) fun w hw hc => by
    obtain ⟨l, hl, rfl⟩ := List.mem_map.mp hw
    have := line_code (ok l hl) hc
    omega]
/-! what is read line by line -/
def addRow (r : List Int) (p : Plan) : Plan := { p with rows := p.rows ++ [r] }
def stepL (acc : List Plan) : Ln → List Plan
  | .hd k w => acc ++ [⟨k, w, []⟩]
  | .rw r => acc.dropLast ++ acc.getLast?.toList.map (addRow r)
theorem step_rw {acc : List Plan} {p : Plan} {r : List Int} : stepL (acc ++ [p]) (.rw r) = acc ++ [addRow r p] := by
  simp [stepL]
theorem fold_rows {acc : List Plan} : ∀ {rows : List (List Int)} {p : Plan}, (rows.map Ln.rw).foldl stepL (acc ++ [p]) = acc ++ [{ p with rows := p.rows ++ rows }]
  | [], p => by simp
  | r :: rs, p => by
    rw [List.map_cons, List.foldl_cons, step_rw, fold_rows]
    simp [addRow]
theorem fold_lines : ∀ {ps acc : List Plan}, (allLines ps).foldl stepL acc = acc ++ ps
  | [], acc => by simp [allLines]
  | p :: ps, acc => by
    have ih := fold_lines (ps := ps) (acc := acc ++ [p])
    unfold allLines at ih ⊢
    rw [List.flatMap_cons, List.foldl_append, linesOf, List.foldl_cons]
    show List.foldl stepL (List.foldl stepL (acc ++ [⟨p.k, p.w, []⟩]) (p.rows.map Ln.rw)) _ = _
    rw [fold_rows, List.nil_append, ih, List.append_assoc]
    rfl
theorem eqOk_plans {fs : List Plan} : eqOk (.lst (fs.map planD)) := ⟨4, by omega, by
  rw [show plD 4 (.lst (fs.map planD)) = (fs.map planD).all (plD 3) from rfl, List.all_eq_true]
  intro x hx
  obtain ⟨p, _, rfl⟩ := List.mem_map.mp hx
  show (true && (true && (plD 2 (.tup (p.rows.map fun r => .tup (r.map D.int))) && true))) = true
  obtain ⟨n, hn, h⟩ := eqOk_rows (rows := p.rows)
  rw [show plD 2 (.tup (p.rows.map fun r => .tup (r.map D.int))) = (p.rows.map fun r => D.tup (r.map D.int)).all (plD 1) from rfl]
  simp only [Bool.true_and, Bool.and_true, List.all_eq_true]
  intro y hy
  obtain ⟨r, _, rfl⟩ := List.mem_map.mp hy
  exact pl_ints⟩
theorem eqD_l0 {xs : List D} : eqD (.lst xs) (.lst []) = xs.isEmpty := by
  cases xs <;> rfl
theorem gEq_r0 {h : MH} {p : Addr} {fs : List Plan} {Kn : RV → MH → Prop} : gEq (.ref p) (.lst []) (put h p (.lst (fs.map planD))) Kn = Kn (.d (.bl fs.isEmpty)) (put h p (.lst (fs.map planD))) := by
  have e : res (put h p (.lst (fs.map planD))) (.ref p) = .lst (fs.map planD) := by
    show (match put h p (.lst (fs.map planD)) p with
      | some (.lst xs) => D.lst xs
      | _ => .ref p) = _
    rw [put_same]
  have e0 : res (put h p (.lst (fs.map planD))) (.lst []) = .lst [] := rfl
  rw [gEq_ok (x := .ref p) (y := .lst []) (by rw [e]; exact eqOk_plans) (by rw [e0]; exact ⟨1, by omega, rfl⟩), e, e0, eqD_l0]
  cases fs <;> rfl
theorem atD_last {xs : List D} {d : D} : atD (xs ++ [d]) (-1) = some d := by
  have e : ixN (xs ++ [d]).length (-1) = some xs.length := by
    unfold ixN
    simp
    omega
  unfold atD
  rw [e]
  simp
theorem ixN_last {n : Nat} : ixN (n + 1) (-1) = some n := by
  unfold ixN
  simp
  omega
def t_readL (a : Ad) : TSm :=
  (sForget [2, 3, 4, 5, 6, 7] (sSeq (sSet 4 (frzV (mSplit (mVar 3) (mC (.str " ")))))
  (sForget [5, 6, 7] (sIf (mTst (frzV (mOp gEq (frzV (mOp gIx (mVar 4) (mC (.int 0)))) (mC (.str "plan"))))) (sSeq (sIf (mTst (frzV (mOp gNe (frzV (mCall gLen (mCons (mVar 4) mNil))) (mC (.int 3))))) sNever sSkip)
  (sDrop (mApp (mVar 1) (mTup (mCons (frzV (mFun (sp_number_of a) [] (mCons (frzV (mOp gIx (mVar 4) (mC (.int 1)))) (mCons (mVar 2) mNil)))) (mCons (frzV (mFun (sp_number_of a) [] (mCons (frzV (mOp gIx (mVar 4) (mC (.int 2)))) (mCons (mVar 2) mNil)))) (mCons (mTup mNil) mNil))))))) (sForget [5, 6, 7] (sIf (mTst (frzV (mOp gEq (mVar 1) (frzV (mLst mNil))))) sNever (sSeq (sAsg (frzV (mOp gIx (mVar 1) (frzV (mUn gNeg (mC (.int 1)))))) (gT 3 (gsCons (gN 5) (gsCons (gN 6) (gsCons (gN 7) gsNil)))))
  (sSetI (mVar 1) (frzV (mUn gNeg (mC (.int 1)))) (mTup (mCons (mVar 5) (mCons (mVar 6) (mCons (frzV (mOp gAdd (mVar 7) (mTup (mCons (frzV (mCall gTuple (mCons (frzV (mLc (mIter (mVar 4)) (gN 9) mYes (frzV (mFun (sp_number_of a) [] (mCons (mVar 9) (mCons (mVar 2) mNil)))) [9])) mNil))) mNil)))) mNil))))))))))))
def t_readF (a : Ad) : TSm :=
  (sSeq (sForget [8] (sFor (mIter (mVar 1)) (gN 8)
   (sForget [8] (sDrop (mFun (sp_need_plan a) [] (mCons (mVar 8) mNil))))))
  (sRet (mRel (mVar 1))))
theorem t_read_eq {a : Ad} : t_read a =
  (sSeq (sSet 1 (frzV (mCell (mLst mNil))))
  (sSeq (sForget [2, 3, 4, 5, 6, 7] (sFor (mEnum (mCons (frzV (mIte (mTst (frzV (mOp gNe (mVar 0) (mC (.str ""))))) (mSplit (mVar 0) (mC (.str "\n"))) (mLst mNil))) mNil)) (gT 2 (gsCons (gN 2) (gsCons (gN 3) gsNil)))
   (t_readL a)))
  (t_readF a))) := rfl
theorem rd_readF {a : Ad} {x : D} {p : Addr} {ps : List Plan} {h : MH} {Kn : RV → MH → Prop} {Kx : XKm} (ok : ∀ q ∈ ps, PlanOk q) (hp : h p = none) (k : Kn (.ol (ps.map planD)) h) : t_readF a (bodyN Kn Kx) [some x, some (.ref p), none, none, none, none, none, none, none, none] (put h p (.lst (ps.map planD))) := by
  unfold t_readF
  simp only [sSeq, sSet, sSkip, sForget, sFor, sIf, sRet, sRetN, sDrop, sSetI, sAsg, sPar, sFldM, sAug, frzV, valE, mVar, mC, mOp, mUn, mCall, mFun, mMeth, mMake, mFld, mTst, mNotT, mNotV, mAndV, mOrV, mAndT, mOrT, mIte, mNil, mCons, mTup, mLst, mChain, mIter_ap, mIsi_ap, mRng1, mRng2, mLc, mYes, mCell, mRel, mSl, oNo, oSome,
  gN, gT, gsCons, gsNil, frz_d, frz_l, frz_k, gIx_p, onSet_p, onQ_p, onL_p, gLen_p, onIns_p, put_put, atD_0, atD_1, atD_2, atD_3, atD_4, ixN_0, ixN_1, ixN_2, ixN_3, ixN_4, List.length_cons, List.length_nil, onBl_b, onInt_i, onTup_t, on1_1, on2_2, onQ_l, onQ_t, onQ_s, onL_l, onLs_l, onLs_s, onD_d, onOpt_s, gII, gB, gAdd_i, gAdd_s, gAdd_t, gAdd_l, gMul_i, gMul_l, gMul_t, gSub, gMod, gDiv, gPow, gNeg, gIx_l, gIx_t, gIx_s, gLen_l, gLen_t, gLen_s, gLen_d, iterD_t, iterD_l, iterD_s,
  kind_i, kind_b, kind_s, kind_n, kind_t, kind_l, gIsN, isNon, gTuple, gList, gAll, gAny, gSum, gMin, gMax, gMin2, gMax2, gAbs, gInt, gSorted,
  List.getElem?_cons_zero, List.getElem?_cons_succ, List.getElem?_nil, List.set_cons_zero, List.set_cons_succ, List.cons_append, List.nil_append, List.append_nil, wipeE, List.any_cons, List.any_nil, isK, Bool.or_false, Bool.false_or, Bool.or_true, Bool.true_or, Bool.not_true, Bool.not_false, if_true, if_false, Bool.false_eq_true, true_and, and_true, decide_eq_true_eq, id, reduceCtorEq, gEq_i, gNe_i, gEq_b, gNe_b, gEq_li, gNe_li, gEq_l0, gNe_l0, gEq_00, gNe_00, gEq_ti, gNe_ti, mEnum, Nat.zero_add, Nat.reduceAdd, Int.reduceEq, Int.cast_ofNat_Int, Nat.zero_le, sz1, sz2, sz3, sz4, sz5, sz6, decide_true, decide_false, sAugI, mPopAt, mApp, mExt, mGet, mDNew, sPar3, sFldAugM, mZip2, mZip3, mJoin, mSplit, cellL_p, onStr_x, gLen_x, gIx_x, gIn_1, iterS_ap, chD_S, S_len, S_cat, iterD_r put_same, del_put]
  refine for_inv (fun i E h' => h' = del h p ∧ E = [some x, some (.ref p), none, none, none, none, none, none, none, none]) ⟨rfl, rfl⟩ ?_ ?_
  · rintro i d E h2 kc hi ⟨rfl, rfl⟩ hk
    rw [List.getElem?_map] at hi
    cases er : ps[i]? with
    | none => rw [er] at hi; cases hi
    | some p1 =>
      rw [er] at hi
      obtain rfl := Option.some.inj hi
      simp only [sSeq, sSet, sSkip, sForget, sFor, sIf, sRet, sRetN, sDrop, sSetI, sAsg, sPar, sFldM, sAug, frzV, valE, mVar, mC, mOp, mUn, mCall, mFun, mMeth, mMake, mFld, mTst, mNotT, mNotV, mAndV, mOrV, mAndT, mOrT, mIte, mNil, mCons, mTup, mLst, mChain, mIter_ap, mIsi_ap, mRng1, mRng2, mLc, mYes, mCell, mRel, mSl, oNo, oSome,
  gN, gT, gsCons, gsNil, frz_d, frz_l, frz_k, gIx_p, onSet_p, onQ_p, onL_p, gLen_p, onIns_p, put_put, atD_0, atD_1, atD_2, atD_3, atD_4, ixN_0, ixN_1, ixN_2, ixN_3, ixN_4, List.length_cons, List.length_nil, onBl_b, onInt_i, onTup_t, on1_1, on2_2, onQ_l, onQ_t, onQ_s, onL_l, onLs_l, onLs_s, onD_d, onOpt_s, gII, gB, gAdd_i, gAdd_s, gAdd_t, gAdd_l, gMul_i, gMul_l, gMul_t, gSub, gMod, gDiv, gPow, gNeg, gIx_l, gIx_t, gIx_s, gLen_l, gLen_t, gLen_s, gLen_d, iterD_t, iterD_l, iterD_s,
  kind_i, kind_b, kind_s, kind_n, kind_t, kind_l, gIsN, isNon, gTuple, gList, gAll, gAny, gSum, gMin, gMax, gMin2, gMax2, gAbs, gInt, gSorted,
  List.getElem?_cons_zero, List.getElem?_cons_succ, List.getElem?_nil, List.set_cons_zero, List.set_cons_succ, List.cons_append, List.nil_append, List.append_nil, wipeE, List.any_cons, List.any_nil, isK, Bool.or_false, Bool.false_or, Bool.or_true, Bool.true_or, Bool.not_true, Bool.not_false, if_true, if_false, Bool.false_eq_true, true_and, and_true, decide_eq_true_eq, id, reduceCtorEq, gEq_i, gNe_i, gEq_b, gNe_b, gEq_li, gNe_li, gEq_l0, gNe_l0, gEq_00, gNe_00, gEq_ti, gNe_ti, mEnum, Nat.zero_add, Nat.reduceAdd, Int.reduceEq, Int.cast_ofNat_Int, Nat.zero_le, sz1, sz2, sz3, sz4, sz5, sz6, decide_true, decide_false, sAugI, mPopAt, mApp, mExt, mGet, mDNew, sPar3, sFldAugM, mZip2, mZip3, mJoin, mSplit, cellL_p, onStr_x, gLen_x, gIx_x, gIn_1, iterS_ap, chD_S, S_len, S_cat]
      exact ⟨p1, rfl, ok p1 (List.mem_of_getElem? er), hk _ _ ⟨rfl, rfl⟩⟩
  · rintro E h2 ⟨rfl, rfl⟩
    simp only [sSeq, sSet, sSkip, sForget, sFor, sIf, sRet, sRetN, sDrop, sSetI, sAsg, sPar, sFldM, sAug, frzV, valE, mVar, mC, mOp, mUn, mCall, mFun, mMeth, mMake, mFld, mTst, mNotT, mNotV, mAndV, mOrV, mAndT, mOrT, mIte, mNil, mCons, mTup, mLst, mChain, mIter_ap, mIsi_ap, mRng1, mRng2, mLc, mYes, mCell, mRel, mSl, oNo, oSome,
  gN, gT, gsCons, gsNil, frz_d, frz_l, frz_k, gIx_p, onSet_p, onQ_p, onL_p, gLen_p, onIns_p, put_put, atD_0, atD_1, atD_2, atD_3, atD_4, ixN_0, ixN_1, ixN_2, ixN_3, ixN_4, List.length_cons, List.length_nil, onBl_b, onInt_i, onTup_t, on1_1, on2_2, onQ_l, onQ_t, onQ_s, onL_l, onLs_l, onLs_s, onD_d, onOpt_s, gII, gB, gAdd_i, gAdd_s, gAdd_t, gAdd_l, gMul_i, gMul_l, gMul_t, gSub, gMod, gDiv, gPow, gNeg, gIx_l, gIx_t, gIx_s, gLen_l, gLen_t, gLen_s, gLen_d, iterD_t, iterD_l, iterD_s,
  kind_i, kind_b, kind_s, kind_n, kind_t, kind_l, gIsN, isNon, gTuple, gList, gAll, gAny, gSum, gMin, gMax, gMin2, gMax2, gAbs, gInt, gSorted,
  List.getElem?_cons_zero, List.getElem?_cons_succ, List.getElem?_nil, List.set_cons_zero, List.set_cons_succ, List.cons_append, List.nil_append, List.append_nil, wipeE, List.any_cons, List.any_nil, isK, Bool.or_false, Bool.false_or, Bool.or_true, Bool.true_or, Bool.not_true, Bool.not_false, if_true, if_false, Bool.false_eq_true, true_and, and_true, decide_eq_true_eq, id, reduceCtorEq, gEq_i, gNe_i, gEq_b, gNe_b, gEq_li, gNe_li, gEq_l0, gNe_l0, gEq_00, gNe_00, gEq_ti, gNe_ti, mEnum, Nat.zero_add, Nat.reduceAdd, Int.reduceEq, Int.cast_ofNat_Int, Nat.zero_le, sz1, sz2, sz3, sz4, sz5, sz6, decide_true, decide_false, sAugI, mPopAt, mApp, mExt, mGet, mDNew, sPar3, sFldAugM, mZip2, mZip3, mJoin, mSplit, cellL_p, onStr_x, gLen_x, gIx_x, gIn_1, iterS_ap, chD_S, S_len, S_cat]
    rw [put_same]
    show (bodyN Kn Kx).rt (RV.ol _) (del (put (del h p) p _) p)
    rw [del_put, del_none hp, del_none hp]
    exact bodyN_rt0 k
theorem text_ne {ps : List Plan} (h : ps ≠ []) : textS ps ≠ S [] := by
  cases ps with
  | nil => exact absurd rfl h
  | cons p ps =>
    intro e
    have e := S_inj e
    have z : lineL (.hd p.k p.w) ≠ [] := by
      show planL ++ _ ≠ []
      simp [planL]
    exact joinL_ne (S := [10]) (ls := (p.rows.map Ln.rw ++ allLines ps).map lineL) z e
theorem ok_text {ps : List Plan} (ok : ∀ p ∈ ps, PlanOk p) : PyData.strOk (textS ps) = true := strOk_S fun c hc => by
  rcases joinL_mem hc with h | ⟨w, hw, h⟩
  · simp at h
    omega
  · obtain ⟨l, hl, rfl⟩ := List.mem_map.mp hw
    have := line_code (all_lines ok l hl) h
    omega
theorem fold_len : ∀ {ls : List Ln} {acc : List Plan}, (ls.foldl stepL acc).length ≤ acc.length + ls.length
  | [], acc => by simp
  | l :: ls, acc => by
    have ih := fold_len (ls := ls) (acc := stepL acc l)
    have e : (stepL acc l).length ≤ acc.length + 1 := by
      cases l with
      | hd k w => simp [stepL]
      | rw r =>
        simp only [stepL, List.length_append, List.length_dropLast, List.length_map]
        cases acc.getLast? <;> simp <;> omega
    rw [List.foldl_cons, List.length_cons]
    omega
theorem fold_row_len {n : Nat} : ∀ {ls : List Ln} {acc : List Plan}, (∀ p ∈ acc, p.rows.length ≤ n) → ∀ p ∈ ls.foldl stepL acc, p.rows.length ≤ n + ls.length
  | [], acc, h, p, hp => by have := h p hp; simpa using this
  | l :: ls, acc, h, p, hp => by
    have := fold_row_len (n := n + 1) (ls := ls) (acc := stepL acc l) (fun q hq => by
      cases l with
      | hd k w =>
        simp only [stepL, List.mem_append, List.mem_singleton] at hq
        rcases hq with hq | rfl
        · have := h q hq; omega
        · simp
      | rw r =>
        simp only [stepL, List.mem_append, List.mem_map] at hq
        rcases hq with hq | ⟨q, hq, rfl⟩
        · have := h q (List.dropLast_subset _ hq); omega
        · have hm : q ∈ acc := by
            cases e : acc.getLast? with
            | none => rw [e] at hq; simp at hq
            | some y =>
              rw [e] at hq
              simp at hq
              subst hq
              exact List.mem_of_getLast? e
          have := h q hm
          simp [addRow]
          omega) p hp
    simp only [List.length_cons]
    omega
theorem fold_ne : ∀ {ls : List Ln} {acc : List Plan}, acc ≠ [] → ls.foldl stepL acc ≠ []
  | [], acc, h => h
  | l :: ls, acc, h => by
    rw [List.foldl_cons]
    refine fold_ne ?_
    cases l with
    | hd k w => simp [stepL]
    | rw r =>
      intro e
      have e2 := (List.append_eq_nil_iff.mp e).2
      cases e3 : acc.getLast? with
      | none => rw [List.getLast?_eq_none_iff] at e3; exact h e3
      | some y => rw [e3] at e2; simp at e2
theorem wordD_map {ls : List (List Nat)} : (ls.map S).map D.str = ls.map fun w => D.str (S w) := by rw [List.map_map]; rfl
theorem word_ok {w : List Nat} (h : ∀ c ∈ w, 33 ≤ c ∧ c ≤ 127) : PyData.strOk (S w) = true := strOk_S fun c hc => by have := h c hc; omega
theorem plan_ok : PyData.strOk (S planL) = true := word_ok fun c hc => by
  simp only [planL, List.mem_cons, List.not_mem_nil, or_false] at hc
  omega
theorem rd_readL {a : Ad} {x : D} {p : Addr} {ls : List Ln} {h : MH} {N : Nd} (ok : ∀ l ∈ ls, LnOk l) (l18 : ls.length ≤ 18) (hd0 : ∀ l, ls[0]? = some l → ∃ k w, l = .hd k w)
    (nums : ∀ l ∈ ls, match l with
      | .hd k w => k < 100 ∧ w < 100
      | .rw r => 1 ≤ r.length ∧ r.length ≤ 16 ∧ ∀ c ∈ r, 0 ≤ c ∧ c < 100)
    (k : N.nx [some x, some (.ref p), none, none, none, none, none, none, none, none] (put h p (.lst ((ls.foldl stepL []).map planD)))) :
    forL (gT 2 (gsCons (gN 2) (gsCons (gN 3) gsNil))) (t_readL a) (enumD (ls.map lnD)) N [some x, some (.ref p), none, none, none, none, none, none, none, none] (put h p (.lst [])) := by
  have big := line_big
  refine for_inv (fun i E h' => h' = put h p (.lst (((ls.take i).foldl stepL []).map planD)) ∧ E = [some x, some (.ref p), none, none, none, none, none, none, none, none]) ⟨rfl, rfl⟩ ?_ ?_
  · rintro i d E h2 kc hi ⟨rfl, rfl⟩ hk
    obtain ⟨y, hy, rfl⟩ := enum_get hi
    rw [List.getElem?_map] at hy
    cases er : ls[i]? with
    | none => rw [er] at hy; cases hy
    | some l =>
      rw [er] at hy
      obtain rfl := Option.some.inj hy
      have ml := List.mem_of_getElem? er
      have okl := ok l ml
      have nl := nums l ml
      have ll := line_len okl
      have n1 := okl.n1
      have il : i < ls.length := (List.getElem?_eq_some_iff.mp er).1
      have ft : (ls.take (i + 1)).foldl stepL [] = stepL ((ls.take i).foldl stepL []) l := by
        rw [List.take_succ, er, List.foldl_append]
        rfl
      have fl := fold_len (ls := ls.take i) (acc := [])
      have fr := fold_row_len (n := 0) (ls := ls.take i) (acc := []) (by simp)
      have tl : (ls.take i).length ≤ i := List.length_take_le i ls
      have sp : S (lineL l) = S (lineL l) := rfl
      have fne0 : i ≠ 0 → (ls.take i).foldl stepL [] ≠ [] := fun z => by
        cases ls with
        | nil => simp at il
        | cons l0 ls =>
          obtain ⟨j, rfl⟩ := Nat.exists_eq_succ_of_ne_zero z
          obtain ⟨k0, w0, rfl⟩ := hd0 l0 rfl
          rw [List.take_succ_cons, List.foldl_cons]
          exact fold_ne (by simp [stepL])
      rw [ft] at hk
      generalize (ls.take i).foldl stepL [] = fs at hk fl fr fne0 ⊢
      simp only [List.length_nil, Nat.zero_add] at fl fr
      unfold t_readL lnD
      simp only [sSeq, sSet, sSkip, sForget, sFor, sIf, sRet, sRetN, sDrop, sSetI, sAsg, sPar, sFldM, sAug, frzV, valE, mVar, mC, mOp, mUn, mCall, mFun, mMeth, mMake, mFld, mTst, mNotT, mNotV, mAndV, mOrV, mAndT, mOrT, mIte, mNil, mCons, mTup, mLst, mChain, mIter_ap, mIsi_ap, mRng1, mRng2, mLc, mYes, mCell, mRel, mSl, oNo, oSome,
  gN, gT, gsCons, gsNil, frz_d, frz_l, frz_k, gIx_p, onSet_p, onQ_p, onL_p, gLen_p, onIns_p, put_put, atD_0, atD_1, atD_2, atD_3, atD_4, ixN_0, ixN_1, ixN_2, ixN_3, ixN_4, List.length_cons, List.length_nil, onBl_b, onInt_i, onTup_t, on1_1, on2_2, onQ_l, onQ_t, onQ_s, onL_l, onLs_l, onLs_s, onD_d, onOpt_s, gII, gB, gAdd_i, gAdd_s, gAdd_t, gAdd_l, gMul_i, gMul_l, gMul_t, gSub, gMod, gDiv, gPow, gNeg, gIx_l, gIx_t, gIx_s, gLen_l, gLen_t, gLen_s, gLen_d, iterD_t, iterD_l, iterD_s,
  kind_i, kind_b, kind_s, kind_n, kind_t, kind_l, gIsN, isNon, gTuple, gList, gAll, gAny, gSum, gMin, gMax, gMin2, gMax2, gAbs, gInt, gSorted,
  List.getElem?_cons_zero, List.getElem?_cons_succ, List.getElem?_nil, List.set_cons_zero, List.set_cons_succ, List.cons_append, List.nil_append, List.append_nil, wipeE, List.any_cons, List.any_nil, isK, Bool.or_false, Bool.false_or, Bool.or_true, Bool.true_or, Bool.not_true, Bool.not_false, if_true, if_false, Bool.false_eq_true, true_and, and_true, decide_eq_true_eq, id, reduceCtorEq, gEq_i, gNe_i, gEq_b, gNe_b, gEq_li, gNe_li, gEq_l0, gNe_l0, gEq_00, gNe_00, gEq_ti, gNe_ti, mEnum, Nat.zero_add, Nat.reduceAdd, Int.reduceEq, Int.cast_ofNat_Int, Nat.zero_le, sz1, sz2, sz3, sz4, sz5, sz6, decide_true, decide_false, sAugI, mPopAt, mApp, mExt, mGet, mDNew, sPar3, sFldAugM, mZip2, mZip3, mJoin, mSplit, cellL_p, onStr_x, gLen_x, gIx_x, gIn_1, iterS_ap, chD_S, S_len, S_cat, lit_sp, split_line okl, wordD_map]
      refine ⟨⟨by decide, by omega⟩, ?_⟩
      cases l with
      | hd k w =>
        have e0 : atD ((wordsL (.hd k w)).map fun w => D.str (S w)) 0 = some (.str (S planL)) := rfl
        have e1 : atD ((wordsL (.hd k w)).map fun w => D.str (S w)) 1 = some (.str (S (TL.numL k))) := rfl
        have e2 : atD ((wordsL (.hd k w)).map fun w => D.str (S w)) 2 = some (.str (S (TL.numL w))) := rfl
        have e3 : (wordsL (.hd k w)).length = 3 := rfl
        simp only [sSeq, sSet, sSkip, sForget, sFor, sIf, sRet, sRetN, sDrop, sSetI, sAsg, sPar, sFldM, sAug, frzV, valE, mVar, mC, mOp, mUn, mCall, mFun, mMeth, mMake, mFld, mTst, mNotT, mNotV, mAndV, mOrV, mAndT, mOrT, mIte, mNil, mCons, mTup, mLst, mChain, mIter_ap, mIsi_ap, mRng1, mRng2, mLc, mYes, mCell, mRel, mSl, oNo, oSome,
  gN, gT, gsCons, gsNil, frz_d, frz_l, frz_k, gIx_p, onSet_p, onQ_p, onL_p, gLen_p, onIns_p, put_put, atD_0, atD_1, atD_2, atD_3, atD_4, ixN_0, ixN_1, ixN_2, ixN_3, ixN_4, List.length_cons, List.length_nil, onBl_b, onInt_i, onTup_t, on1_1, on2_2, onQ_l, onQ_t, onQ_s, onL_l, onLs_l, onLs_s, onD_d, onOpt_s, gII, gB, gAdd_i, gAdd_s, gAdd_t, gAdd_l, gMul_i, gMul_l, gMul_t, gSub, gMod, gDiv, gPow, gNeg, gIx_l, gIx_t, gIx_s, gLen_l, gLen_t, gLen_s, gLen_d, iterD_t, iterD_l, iterD_s,
  kind_i, kind_b, kind_s, kind_n, kind_t, kind_l, gIsN, isNon, gTuple, gList, gAll, gAny, gSum, gMin, gMax, gMin2, gMax2, gAbs, gInt, gSorted,
  List.getElem?_cons_zero, List.getElem?_cons_succ, List.getElem?_nil, List.set_cons_zero, List.set_cons_succ, List.cons_append, List.nil_append, List.append_nil, wipeE, List.any_cons, List.any_nil, isK, Bool.or_false, Bool.false_or, Bool.or_true, Bool.true_or, Bool.not_true, Bool.not_false, if_true, if_false, Bool.false_eq_true, true_and, and_true, decide_eq_true_eq, id, reduceCtorEq, gEq_i, gNe_i, gEq_b, gNe_b, gEq_li, gNe_li, gEq_l0, gNe_l0, gEq_00, gNe_00, gEq_ti, gNe_ti, mEnum, Nat.zero_add, Nat.reduceAdd, Int.reduceEq, Int.cast_ofNat_Int, Nat.zero_le, sz1, sz2, sz3, sz4, sz5, sz6, decide_true, decide_false, sAugI, mPopAt, mApp, mExt, mGet, mDNew, sPar3, sFldAugM, mZip2, mZip3, mJoin, mSplit, cellL_p, onStr_x, gLen_x, gIx_x, gIn_1, iterS_ap, chD_S, S_len, S_cat, e0, e1, e2, List.length_map, e3, lit_plan, gEq_x plan_ok plan_ok, beq_self_eq_true]
        refine ⟨k, i, rfl, nl.1, ?_⟩
        simp only [sSeq, sSet, sSkip, sForget, sFor, sIf, sRet, sRetN, sDrop, sSetI, sAsg, sPar, sFldM, sAug, frzV, valE, mVar, mC, mOp, mUn, mCall, mFun, mMeth, mMake, mFld, mTst, mNotT, mNotV, mAndV, mOrV, mAndT, mOrT, mIte, mNil, mCons, mTup, mLst, mChain, mIter_ap, mIsi_ap, mRng1, mRng2, mLc, mYes, mCell, mRel, mSl, oNo, oSome,
  gN, gT, gsCons, gsNil, frz_d, frz_l, frz_k, gIx_p, onSet_p, onQ_p, onL_p, gLen_p, onIns_p, put_put, atD_0, atD_1, atD_2, atD_3, atD_4, ixN_0, ixN_1, ixN_2, ixN_3, ixN_4, List.length_cons, List.length_nil, onBl_b, onInt_i, onTup_t, on1_1, on2_2, onQ_l, onQ_t, onQ_s, onL_l, onLs_l, onLs_s, onD_d, onOpt_s, gII, gB, gAdd_i, gAdd_s, gAdd_t, gAdd_l, gMul_i, gMul_l, gMul_t, gSub, gMod, gDiv, gPow, gNeg, gIx_l, gIx_t, gIx_s, gLen_l, gLen_t, gLen_s, gLen_d, iterD_t, iterD_l, iterD_s,
  kind_i, kind_b, kind_s, kind_n, kind_t, kind_l, gIsN, isNon, gTuple, gList, gAll, gAny, gSum, gMin, gMax, gMin2, gMax2, gAbs, gInt, gSorted,
  List.getElem?_cons_zero, List.getElem?_cons_succ, List.getElem?_nil, List.set_cons_zero, List.set_cons_succ, List.cons_append, List.nil_append, List.append_nil, wipeE, List.any_cons, List.any_nil, isK, Bool.or_false, Bool.false_or, Bool.or_true, Bool.true_or, Bool.not_true, Bool.not_false, if_true, if_false, Bool.false_eq_true, true_and, and_true, decide_eq_true_eq, id, reduceCtorEq, gEq_i, gNe_i, gEq_b, gNe_b, gEq_li, gNe_li, gEq_l0, gNe_l0, gEq_00, gNe_00, gEq_ti, gNe_ti, mEnum, Nat.zero_add, Nat.reduceAdd, Int.reduceEq, Int.cast_ofNat_Int, Nat.zero_le, sz1, sz2, sz3, sz4, sz5, sz6, decide_true, decide_false, sAugI, mPopAt, mApp, mExt, mGet, mDNew, sPar3, sFldAugM, mZip2, mZip3, mJoin, mSplit, cellL_p, onStr_x, gLen_x, gIx_x, gIn_1, iterS_ap, chD_S, S_len, S_cat, e2]
        refine ⟨w, i, rfl, nl.2, ?_⟩
        simp only [sSeq, sSet, sSkip, sForget, sFor, sIf, sRet, sRetN, sDrop, sSetI, sAsg, sPar, sFldM, sAug, frzV, valE, mVar, mC, mOp, mUn, mCall, mFun, mMeth, mMake, mFld, mTst, mNotT, mNotV, mAndV, mOrV, mAndT, mOrT, mIte, mNil, mCons, mTup, mLst, mChain, mIter_ap, mIsi_ap, mRng1, mRng2, mLc, mYes, mCell, mRel, mSl, oNo, oSome,
  gN, gT, gsCons, gsNil, frz_d, frz_l, frz_k, gIx_p, onSet_p, onQ_p, onL_p, gLen_p, onIns_p, put_put, atD_0, atD_1, atD_2, atD_3, atD_4, ixN_0, ixN_1, ixN_2, ixN_3, ixN_4, List.length_cons, List.length_nil, onBl_b, onInt_i, onTup_t, on1_1, on2_2, onQ_l, onQ_t, onQ_s, onL_l, onLs_l, onLs_s, onD_d, onOpt_s, gII, gB, gAdd_i, gAdd_s, gAdd_t, gAdd_l, gMul_i, gMul_l, gMul_t, gSub, gMod, gDiv, gPow, gNeg, gIx_l, gIx_t, gIx_s, gLen_l, gLen_t, gLen_s, gLen_d, iterD_t, iterD_l, iterD_s,
  kind_i, kind_b, kind_s, kind_n, kind_t, kind_l, gIsN, isNon, gTuple, gList, gAll, gAny, gSum, gMin, gMax, gMin2, gMax2, gAbs, gInt, gSorted,
  List.getElem?_cons_zero, List.getElem?_cons_succ, List.getElem?_nil, List.set_cons_zero, List.set_cons_succ, List.cons_append, List.nil_append, List.append_nil, wipeE, List.any_cons, List.any_nil, isK, Bool.or_false, Bool.false_or, Bool.or_true, Bool.true_or, Bool.not_true, Bool.not_false, if_true, if_false, Bool.false_eq_true, true_and, and_true, decide_eq_true_eq, id, reduceCtorEq, gEq_i, gNe_i, gEq_b, gNe_b, gEq_li, gNe_li, gEq_l0, gNe_l0, gEq_00, gNe_00, gEq_ti, gNe_ti, mEnum, Nat.zero_add, Nat.reduceAdd, Int.reduceEq, Int.cast_ofNat_Int, Nat.zero_le, sz1, sz2, sz3, sz4, sz5, sz6, decide_true, decide_false, sAugI, mPopAt, mApp, mExt, mGet, mDNew, sPar3, sFldAugM, mZip2, mZip3, mJoin, mSplit, cellL_p, onStr_x, gLen_x, gIx_x, gIn_1, iterS_ap, chD_S, S_len, S_cat, List.length_map]
        refine ⟨by omega, hk _ _ ⟨?_, rfl⟩⟩
        show _ = put h p (.lst ((fs ++ [Plan.mk k w []]).map planD))
        rw [List.map_append]
        rfl
      | rw r =>
        obtain ⟨r1, r2, rc⟩ := nl
        cases r with
        | nil => simp at r1
        | cons c cs =>
          have e0 : atD ((wordsL (.rw (c :: cs))).map fun w => D.str (S w)) 0 = some (.str (S (TL.numL c.toNat))) := atD_0
          have ne : (S (TL.numL c.toNat) == S planL) = false := by
            rw [S_beq_eq, decide_eq_false_iff_not]
            intro e
            have := num_dig (n := c.toNat) (c := 112) (by rw [e]; decide)
            omega
          have i0 : i ≠ 0 := fun z => by
            obtain ⟨_, _, e⟩ := hd0 (.rw (c :: cs)) (by rw [← z]; exact er)
            cases e
          have fne : fs ≠ [] := fne0 i0
          obtain ⟨gs, q, rfl⟩ : ∃ gs q, fs = gs ++ [q] := ⟨fs.dropLast, fs.getLast fne, (List.dropLast_concat_getLast fne).symm⟩
          have em : (gs ++ [q]).isEmpty = false := by cases gs <;> rfl
          have ed : (gs ++ [q]).map planD = gs.map planD ++ [planD q] := by rw [List.map_append]; rfl
          have wd : (wordsL (.rw (c :: cs))).map (fun w => D.str (S w)) = (c :: cs).map fun c => D.str (S (TL.numL c.toNat)) := by
            rw [wordsL, List.map_map]
            rfl
          have okc : PyData.strOk (S (TL.numL c.toNat)) = true := num_ok
          have qr := fr q (by simp)
          have lk : -(1 : Int) = -1 := rfl
          have e1 : atD ((c :: cs).map fun c => D.str (S (TL.numL c.toNat))) 0 = some (.str (S (TL.numL c.toNat))) := atD_0
          have el : atD ((gs ++ [q]).map planD) (-1) = some (planD q) := by rw [ed, atD_last]
          simp only [sSeq, sSet, sSkip, sForget, sFor, sIf, sRet, sRetN, sDrop, sSetI, sAsg, sPar, sFldM, sAug, frzV, valE, mVar, mC, mOp, mUn, mCall, mFun, mMeth, mMake, mFld, mTst, mNotT, mNotV, mAndV, mOrV, mAndT, mOrT, mIte, mNil, mCons, mTup, mLst, mChain, mIter_ap, mIsi_ap, mRng1, mRng2, mLc, mYes, mCell, mRel, mSl, oNo, oSome,
  gN, gT, gsCons, gsNil, frz_d, frz_l, frz_k, gIx_p, onSet_p, onQ_p, onL_p, gLen_p, onIns_p, put_put, atD_0, atD_1, atD_2, atD_3, atD_4, ixN_0, ixN_1, ixN_2, ixN_3, ixN_4, List.length_cons, List.length_nil, onBl_b, onInt_i, onTup_t, on1_1, on2_2, onQ_l, onQ_t, onQ_s, onL_l, onLs_l, onLs_s, onD_d, onOpt_s, gII, gB, gAdd_i, gAdd_s, gAdd_t, gAdd_l, gMul_i, gMul_l, gMul_t, gSub, gMod, gDiv, gPow, gNeg, gIx_l, gIx_t, gIx_s, gLen_l, gLen_t, gLen_s, gLen_d, iterD_t, iterD_l, iterD_s,
  kind_i, kind_b, kind_s, kind_n, kind_t, kind_l, gIsN, isNon, gTuple, gList, gAll, gAny, gSum, gMin, gMax, gMin2, gMax2, gAbs, gInt, gSorted,
  List.getElem?_cons_zero, List.getElem?_cons_succ, List.getElem?_nil, List.set_cons_zero, List.set_cons_succ, List.cons_append, List.nil_append, List.append_nil, wipeE, List.any_cons, List.any_nil, isK, Bool.or_false, Bool.false_or, Bool.or_true, Bool.true_or, Bool.not_true, Bool.not_false, if_true, if_false, Bool.false_eq_true, true_and, and_true, decide_eq_true_eq, id, reduceCtorEq, gEq_i, gNe_i, gEq_b, gNe_b, gEq_li, gNe_li, gEq_l0, gNe_l0, gEq_00, gNe_00, gEq_ti, gNe_ti, mEnum, Nat.zero_add, Nat.reduceAdd, Int.reduceEq, Int.cast_ofNat_Int, Nat.zero_le, sz1, sz2, sz3, sz4, sz5, sz6, decide_true, decide_false, sAugI, mPopAt, mApp, mExt, mGet, mDNew, sPar3, sFldAugM, mZip2, mZip3, mJoin, mSplit, cellL_p, onStr_x, gLen_x, gIx_x, gIn_1, iterS_ap, chD_S, S_len, S_cat, wd, e1, lit_plan, gEq_x okc plan_ok, ne, gEq_r0, em, el, planD_e]
          refine lc_mapA (c :: cs) (fun c => .str (S (TL.numL c.toNat))) D.int (by simp at r2 ⊢; omega) ?_ ?_
          · intro b hb acc kc2 ha q2
            have := rc b hb
            simp only [sSeq, sSet, sSkip, sForget, sFor, sIf, sRet, sRetN, sDrop, sSetI, sAsg, sPar, sFldM, sAug, frzV, valE, mVar, mC, mOp, mUn, mCall, mFun, mMeth, mMake, mFld, mTst, mNotT, mNotV, mAndV, mOrV, mAndT, mOrT, mIte, mNil, mCons, mTup, mLst, mChain, mIter_ap, mIsi_ap, mRng1, mRng2, mLc, mYes, mCell, mRel, mSl, oNo, oSome,
  gN, gT, gsCons, gsNil, frz_d, frz_l, frz_k, gIx_p, onSet_p, onQ_p, onL_p, gLen_p, onIns_p, put_put, atD_0, atD_1, atD_2, atD_3, atD_4, ixN_0, ixN_1, ixN_2, ixN_3, ixN_4, List.length_cons, List.length_nil, onBl_b, onInt_i, onTup_t, on1_1, on2_2, onQ_l, onQ_t, onQ_s, onL_l, onLs_l, onLs_s, onD_d, onOpt_s, gII, gB, gAdd_i, gAdd_s, gAdd_t, gAdd_l, gMul_i, gMul_l, gMul_t, gSub, gMod, gDiv, gPow, gNeg, gIx_l, gIx_t, gIx_s, gLen_l, gLen_t, gLen_s, gLen_d, iterD_t, iterD_l, iterD_s,
  kind_i, kind_b, kind_s, kind_n, kind_t, kind_l, gIsN, isNon, gTuple, gList, gAll, gAny, gSum, gMin, gMax, gMin2, gMax2, gAbs, gInt, gSorted,
  List.getElem?_cons_zero, List.getElem?_cons_succ, List.getElem?_nil, List.set_cons_zero, List.set_cons_succ, List.cons_append, List.nil_append, List.append_nil, wipeE, List.any_cons, List.any_nil, isK, Bool.or_false, Bool.false_or, Bool.or_true, Bool.true_or, Bool.not_true, Bool.not_false, if_true, if_false, Bool.false_eq_true, true_and, and_true, decide_eq_true_eq, id, reduceCtorEq, gEq_i, gNe_i, gEq_b, gNe_b, gEq_li, gNe_li, gEq_l0, gNe_l0, gEq_00, gNe_00, gEq_ti, gNe_ti, mEnum, Nat.zero_add, Nat.reduceAdd, Int.reduceEq, Int.cast_ofNat_Int, Nat.zero_le, sz1, sz2, sz3, sz4, sz5, sz6, decide_true, decide_false, sAugI, mPopAt, mApp, mExt, mGet, mDNew, sPar3, sFldAugM, mZip2, mZip3, mJoin, mSplit, cellL_p, onStr_x, gLen_x, gIx_x, gIn_1, iterS_ap, chD_S, S_len, S_cat]
            refine ⟨b.toNat, i, rfl, by omega, ?_⟩
            rw [Int.toNat_of_nonneg this.1]
            exact ⟨ha, q2⟩
          · simp only [sSeq, sSet, sSkip, sForget, sFor, sIf, sRet, sRetN, sDrop, sSetI, sAsg, sPar, sFldM, sAug, frzV, valE, mVar, mC, mOp, mUn, mCall, mFun, mMeth, mMake, mFld, mTst, mNotT, mNotV, mAndV, mOrV, mAndT, mOrT, mIte, mNil, mCons, mTup, mLst, mChain, mIter_ap, mIsi_ap, mRng1, mRng2, mLc, mYes, mCell, mRel, mSl, oNo, oSome,
  gN, gT, gsCons, gsNil, frz_d, frz_l, frz_k, gIx_p, onSet_p, onQ_p, onL_p, gLen_p, onIns_p, put_put, atD_0, atD_1, atD_2, atD_3, atD_4, ixN_0, ixN_1, ixN_2, ixN_3, ixN_4, List.length_cons, List.length_nil, onBl_b, onInt_i, onTup_t, on1_1, on2_2, onQ_l, onQ_t, onQ_s, onL_l, onLs_l, onLs_s, onD_d, onOpt_s, gII, gB, gAdd_i, gAdd_s, gAdd_t, gAdd_l, gMul_i, gMul_l, gMul_t, gSub, gMod, gDiv, gPow, gNeg, gIx_l, gIx_t, gIx_s, gLen_l, gLen_t, gLen_s, gLen_d, iterD_t, iterD_l, iterD_s,
  kind_i, kind_b, kind_s, kind_n, kind_t, kind_l, gIsN, isNon, gTuple, gList, gAll, gAny, gSum, gMin, gMax, gMin2, gMax2, gAbs, gInt, gSorted,
  List.getElem?_cons_zero, List.getElem?_cons_succ, List.getElem?_nil, List.set_cons_zero, List.set_cons_succ, List.cons_append, List.nil_append, List.append_nil, wipeE, List.any_cons, List.any_nil, isK, Bool.or_false, Bool.false_or, Bool.or_true, Bool.true_or, Bool.not_true, Bool.not_false, if_true, if_false, Bool.false_eq_true, true_and, and_true, decide_eq_true_eq, id, reduceCtorEq, gEq_i, gNe_i, gEq_b, gNe_b, gEq_li, gNe_li, gEq_l0, gNe_l0, gEq_00, gNe_00, gEq_ti, gNe_ti, mEnum, Nat.zero_add, Nat.reduceAdd, Int.reduceEq, Int.cast_ofNat_Int, Nat.zero_le, sz1, sz2, sz3, sz4, sz5, sz6, decide_true, decide_false, sAugI, mPopAt, mApp, mExt, mGet, mDNew, sPar3, sFldAugM, mZip2, mZip3, mJoin, mSplit, cellL_p, onStr_x, gLen_x, gIx_x, gIn_1, iterS_ap, chD_S, S_len, S_cat, List.length_append, List.length_map, ixN_last]
            refine ⟨by omega, hk _ _ ⟨?_, rfl⟩⟩
            rw [step_rw, ed, List.map_append, List.set_append_right _ _ (by simp)]
            simp [addRow, planD_e]
  · rintro E h2 ⟨rfl, rfl⟩
    have e : (enumD (ls.map lnD)).length = ls.length := by rw [enumD_len, List.length_map]
    rw [e, List.take_length]
    exact k
theorem rd_read {a : Ad} (ds : List D) (h : MH) (Kn : RV → MH → Prop) (Kx : XKm) (q : sp_read a ds h Kn Kx) : t_read a (bodyN Kn Kx) (startE ["text", "found", "row", "line", "words", "keys", "wide", "rows", "plan", "word"] ds) h := by
  obtain ⟨ps, rfl, ok, l3, k⟩ := q
  show t_read a (bodyN Kn Kx) [some (.str (textS ps)), none, none, none, none, none, none, none, none, none] h
  have big := line_big
  have sl : (1000000 : Nat) ≤ sizeLine := by rw [sizeLine_eq]; decide
  have o0 : PyData.strOk (S []) = true := strOk_S (by simp)
  have al := all_len ok
  have tl := text_len (all_lines ok)
  rw [t_read_eq]
  simp only [sSeq, sSet, sSkip, sForget, sFor, sIf, sRet, sRetN, sDrop, sSetI, sAsg, sPar, sFldM, sAug, frzV, valE, mVar, mC, mOp, mUn, mCall, mFun, mMeth, mMake, mFld, mTst, mNotT, mNotV, mAndV, mOrV, mAndT, mOrT, mIte, mNil, mCons, mTup, mLst, mChain, mIter_ap, mIsi_ap, mRng1, mRng2, mLc, mYes, mCell, mRel, mSl, oNo, oSome,
  gN, gT, gsCons, gsNil, frz_d, frz_l, frz_k, gIx_p, onSet_p, onQ_p, onL_p, gLen_p, onIns_p, put_put, atD_0, atD_1, atD_2, atD_3, atD_4, ixN_0, ixN_1, ixN_2, ixN_3, ixN_4, List.length_cons, List.length_nil, onBl_b, onInt_i, onTup_t, on1_1, on2_2, onQ_l, onQ_t, onQ_s, onL_l, onLs_l, onLs_s, onD_d, onOpt_s, gII, gB, gAdd_i, gAdd_s, gAdd_t, gAdd_l, gMul_i, gMul_l, gMul_t, gSub, gMod, gDiv, gPow, gNeg, gIx_l, gIx_t, gIx_s, gLen_l, gLen_t, gLen_s, gLen_d, iterD_t, iterD_l, iterD_s,
  kind_i, kind_b, kind_s, kind_n, kind_t, kind_l, gIsN, isNon, gTuple, gList, gAll, gAny, gSum, gMin, gMax, gMin2, gMax2, gAbs, gInt, gSorted,
  List.getElem?_cons_zero, List.getElem?_cons_succ, List.getElem?_nil, List.set_cons_zero, List.set_cons_succ, List.cons_append, List.nil_append, List.append_nil, wipeE, List.any_cons, List.any_nil, isK, Bool.or_false, Bool.false_or, Bool.or_true, Bool.true_or, Bool.not_true, Bool.not_false, if_true, if_false, Bool.false_eq_true, true_and, and_true, decide_eq_true_eq, id, reduceCtorEq, gEq_i, gNe_i, gEq_b, gNe_b, gEq_li, gNe_li, gEq_l0, gNe_l0, gEq_00, gNe_00, gEq_ti, gNe_ti, mEnum, Nat.zero_add, Nat.reduceAdd, Int.reduceEq, Int.cast_ofNat_Int, Nat.zero_le, sz1, sz2, sz3, sz4, sz5, sz6, decide_true, decide_false, sAugI, mPopAt, mApp, mExt, mGet, mDNew, sPar3, sFldAugM, mZip2, mZip3, mJoin, mSplit, cellL_p, onStr_x, gLen_x, gIx_x, gIn_1, iterS_ap, chD_S, S_len, S_cat, lit_e, lit_nl, gNe_x (ok_text ok) o0]
  intro p hp
  by_cases c : ps = []
  · subst c
    have e : (textS [] == S []) = true := beq_self_eq_true _
    rw [if_neg (by rw [e]; decide)]
    show forL _ _ [] _ _ _
    rw [forL_nil]
    simp only [sSeq, sSet, sSkip, sForget, sFor, sIf, sRet, sRetN, sDrop, sSetI, sAsg, sPar, sFldM, sAug, frzV, valE, mVar, mC, mOp, mUn, mCall, mFun, mMeth, mMake, mFld, mTst, mNotT, mNotV, mAndV, mOrV, mAndT, mOrT, mIte, mNil, mCons, mTup, mLst, mChain, mIter_ap, mIsi_ap, mRng1, mRng2, mLc, mYes, mCell, mRel, mSl, oNo, oSome,
  gN, gT, gsCons, gsNil, frz_d, frz_l, frz_k, gIx_p, onSet_p, onQ_p, onL_p, gLen_p, onIns_p, put_put, atD_0, atD_1, atD_2, atD_3, atD_4, ixN_0, ixN_1, ixN_2, ixN_3, ixN_4, List.length_cons, List.length_nil, onBl_b, onInt_i, onTup_t, on1_1, on2_2, onQ_l, onQ_t, onQ_s, onL_l, onLs_l, onLs_s, onD_d, onOpt_s, gII, gB, gAdd_i, gAdd_s, gAdd_t, gAdd_l, gMul_i, gMul_l, gMul_t, gSub, gMod, gDiv, gPow, gNeg, gIx_l, gIx_t, gIx_s, gLen_l, gLen_t, gLen_s, gLen_d, iterD_t, iterD_l, iterD_s,
  kind_i, kind_b, kind_s, kind_n, kind_t, kind_l, gIsN, isNon, gTuple, gList, gAll, gAny, gSum, gMin, gMax, gMin2, gMax2, gAbs, gInt, gSorted,
  List.getElem?_cons_zero, List.getElem?_cons_succ, List.getElem?_nil, List.set_cons_zero, List.set_cons_succ, List.cons_append, List.nil_append, List.append_nil, wipeE, List.any_cons, List.any_nil, isK, Bool.or_false, Bool.false_or, Bool.or_true, Bool.true_or, Bool.not_true, Bool.not_false, if_true, if_false, Bool.false_eq_true, true_and, and_true, decide_eq_true_eq, id, reduceCtorEq, gEq_i, gNe_i, gEq_b, gNe_b, gEq_li, gNe_li, gEq_l0, gNe_l0, gEq_00, gNe_00, gEq_ti, gNe_ti, mEnum, Nat.zero_add, Nat.reduceAdd, Int.reduceEq, Int.cast_ofNat_Int, Nat.zero_le, sz1, sz2, sz3, sz4, sz5, sz6, decide_true, decide_false, sAugI, mPopAt, mApp, mExt, mGet, mDNew, sPar3, sFldAugM, mZip2, mZip3, mJoin, mSplit, cellL_p, onStr_x, gLen_x, gIx_x, gIn_1, iterS_ap, chD_S, S_len, S_cat]
    exact rd_readF (ps := []) ok hp k
  · have e : (textS ps == S []) = false := by
      rw [beq_eq_false_iff_ne]
      exact text_ne c
    have ne : allLines ps ≠ [] := by
      cases ps with
      | nil => exact absurd rfl c
      | cons p ps => simp [allLines, linesOf]
    rw [if_pos (by rw [e]; decide)]
    refine ⟨⟨by decide, by unfold textS; rw [S_len]; omega⟩, ?_⟩
    unfold textS
    rw [split_text (all_lines ok) ne]
    have ew : (List.map D.str (List.map S (List.map lineL (allLines ps)))) = (allLines ps).map lnD := by rw [List.map_map, List.map_map]; rfl
    rw [ew]
    refine rd_readL (all_lines ok) (by omega) (fun l hl => ?_) (fun l hl => ?_) ?_
    · cases ps with
      | nil => exact absurd rfl c
      | cons p ps =>
        refine ⟨p.k, p.w, ?_⟩
        have : (allLines (p :: ps))[0]? = some (.hd p.k p.w) := rfl
        rw [this] at hl
        exact (Option.some.inj hl).symm
    · obtain ⟨p, hp, hl⟩ := List.mem_flatMap.mp hl
      have okp := ok p hp
      have k2 := okp.k2
      have k1 := okp.k1
      have w2 := okp.w2
      simp only [linesOf, List.mem_cons, List.mem_map] at hl
      rcases hl with rfl | ⟨r, hr, rfl⟩
      · exact ⟨by omega, by omega⟩
      · have := okp.len r hr
        exact ⟨by omega, by omega, fun c hc => by have := okp.cell r hr c hc; omega⟩
    · rw [fold_lines, List.nil_append]
      exact rd_readF ok hp k
theorem gAdd_rl {h : MH} {q : Addr} {xs ys : List D} {Kn : RV → MH → Prop} (e : h q = some (.lst xs)) : gAdd (.ref q) (.lst ys) h Kn = (xs.length + ys.length ≤ sizeLine ∧ Kn (.ol (xs ++ ys)) h) := by
  show (onL h (.ref q) fun xs => onL h (.lst ys) fun ys => xs.length + ys.length ≤ sizeLine ∧ Kn (.ol (xs ++ ys)) h) = _
  rw [onL_r e]
  rfl
theorem RowAt.ne {h : MH} {r q : Addr} {m : MO} (R : RowAt h r) (n : r ≠ q) : RowAt (put h q m) r := by
  obtain ⟨ns, pos, ex, mx, e, hp⟩ := R
  exact ⟨ns, pos, ex, mx, (put_ne n).trans e, hp⟩
theorem RowAt.nn {h : MH} {r : Addr} (R : RowAt h r) : h r ≠ none := by
  obtain ⟨ns, pos, ex, mx, e2, hp⟩ := R
  rw [e2]
  simp
theorem RowAt.nq {h : MH} {r q : Addr} (R : RowAt h r) (e : h q = none) : r ≠ q := fun z => R.nn (by rw [z]; exact e)
theorem al_plans {ps : List Plan} (big : 1000 ≤ sizeLine) (l : ps.length ≤ 1000) (ok : ∀ p ∈ ps, PlanOk p) : alD 5 (.lst (ps.map planD)) = true := by
  simp only [alD, Bool.and_eq_true, decide_eq_true_eq, List.length_map, List.all_eq_true]
  refine ⟨by omega, fun d hd => ?_⟩
  obtain ⟨p, hp, rfl⟩ := List.mem_map.mp hd
  have okp := ok p hp
  have r2 := okp.r2
  have k2 := okp.k2
  simp only [planD_e, alD, Bool.and_eq_true, decide_eq_true_eq, List.length_map, List.all_eq_true, List.length_cons, List.length_nil, List.all_cons, List.all_nil, and_true, true_and]
  refine ⟨by omega, by omega, fun d hd => ?_⟩
  obtain ⟨r, hr, rfl⟩ := List.mem_map.mp hd
  have := okp.len r hr
  simp only [alD, Bool.and_eq_true, decide_eq_true_eq, List.length_map, List.all_eq_true]
  refine ⟨by omega, fun d hd => ?_⟩
  obtain ⟨c, _, rfl⟩ := List.mem_map.mp hd
  rfl
theorem cellL_rr {h : MH} {p : Addr} {xs : List D} {k : Addr → List D → Prop} (e : h p = some (.lst xs)) : cellL h (.ref p) k = k p xs := cellL_r e
theorem rd_law {a : Ad} (ds : List D) (h : MH) (Kn : RV → MH → Prop) (Kx : XKm) (q : sp_law a ds h Kn Kx) : t_law a (bodyN Kn Kx) (startE ["_law_script", "_law_row_here", "_law_turn", "_law_plans", "_law_rows", "_law_keys", "_law_cells", "_law_mine", "_law_text", "_law_again", "_law_back", "_law_k", "_law_one", "_law_cell"] ds) h := by
  obtain ⟨ns0, rfl, k⟩ := q
  show t_law a (bodyN Kn Kx) [some (.scr ns0), none, none, none, none, none, none, none, none, none, none, none, none, none] h
  have big := line_big
  have sl : (1000000 : Nat) ≤ sizeLine := by rw [sizeLine_eq]; decide
  unfold t_law
  simp only [sSeq, sSet, sSkip, sForget, sFor, sIf, sRet, sRetN, sDrop, sSetI, sAsg, sPar, sFldM, sAug, frzV, valE, mVar, mC, mOp, mUn, mCall, mFun, mMeth, mMake, mFld, mTst, mNotT, mNotV, mAndV, mOrV, mAndT, mOrT, mIte, mNil, mCons, mTup, mLst, mChain, mIter_ap, mIsi_ap, mRng1, mRng2, mLc, mYes, mCell, mRel, mSl, oNo, oSome,
  gN, gT, gsCons, gsNil, frz_d, frz_l, frz_k, gIx_p, onSet_p, onQ_p, onL_p, gLen_p, onIns_p, put_put, atD_0, atD_1, atD_2, atD_3, atD_4, ixN_0, ixN_1, ixN_2, ixN_3, ixN_4, List.length_cons, List.length_nil, onBl_b, onInt_i, onTup_t, on1_1, on2_2, onQ_l, onQ_t, onQ_s, onL_l, onLs_l, onLs_s, onD_d, onOpt_s, gII, gB, gAdd_i, gAdd_s, gAdd_t, gAdd_l, gMul_i, gMul_l, gMul_t, gSub, gMod, gDiv, gPow, gNeg, gIx_l, gIx_t, gIx_s, gLen_l, gLen_t, gLen_s, gLen_d, iterD_t, iterD_l, iterD_s,
  kind_i, kind_b, kind_s, kind_n, kind_t, kind_l, gIsN, isNon, gTuple, gList, gAll, gAny, gSum, gMin, gMax, gMin2, gMax2, gAbs, gInt, gSorted,
  List.getElem?_cons_zero, List.getElem?_cons_succ, List.getElem?_nil, List.set_cons_zero, List.set_cons_succ, List.cons_append, List.nil_append, List.append_nil, wipeE, List.any_cons, List.any_nil, isK, Bool.or_false, Bool.false_or, Bool.or_true, Bool.true_or, Bool.not_true, Bool.not_false, if_true, if_false, Bool.false_eq_true, true_and, and_true, decide_eq_true_eq, id, reduceCtorEq, gEq_i, gNe_i, gEq_b, gNe_b, gEq_li, gNe_li, gEq_l0, gNe_l0, gEq_00, gNe_00, gEq_ti, gNe_ti, mEnum, Nat.zero_add, Nat.reduceAdd, Int.reduceEq, Int.cast_ofNat_Int, Nat.zero_le, sz1, sz2, sz3, sz4, sz5, sz6, decide_true, decide_false, sAugI, mPopAt, mApp, mExt, mGet, mDNew, sPar3, sFldAugM, mZip2, mZip3, mJoin, mSplit, cellL_p, onStr_x, gLen_x, gIx_x, gIn_1, iterS_ap, chD_S, S_len, S_cat]
  refine ⟨ns0, rfl, fun mx => ?_⟩
  simp only [sSeq, sSet, sSkip, sForget, sFor, sIf, sRet, sRetN, sDrop, sSetI, sAsg, sPar, sFldM, sAug, frzV, valE, mVar, mC, mOp, mUn, mCall, mFun, mMeth, mMake, mFld, mTst, mNotT, mNotV, mAndV, mOrV, mAndT, mOrT, mIte, mNil, mCons, mTup, mLst, mChain, mIter_ap, mIsi_ap, mRng1, mRng2, mLc, mYes, mCell, mRel, mSl, oNo, oSome,
  gN, gT, gsCons, gsNil, frz_d, frz_l, frz_k, gIx_p, onSet_p, onQ_p, onL_p, gLen_p, onIns_p, put_put, atD_0, atD_1, atD_2, atD_3, atD_4, ixN_0, ixN_1, ixN_2, ixN_3, ixN_4, List.length_cons, List.length_nil, onBl_b, onInt_i, onTup_t, on1_1, on2_2, onQ_l, onQ_t, onQ_s, onL_l, onLs_l, onLs_s, onD_d, onOpt_s, gII, gB, gAdd_i, gAdd_s, gAdd_t, gAdd_l, gMul_i, gMul_l, gMul_t, gSub, gMod, gDiv, gPow, gNeg, gIx_l, gIx_t, gIx_s, gLen_l, gLen_t, gLen_s, gLen_d, iterD_t, iterD_l, iterD_s,
  kind_i, kind_b, kind_s, kind_n, kind_t, kind_l, gIsN, isNon, gTuple, gList, gAll, gAny, gSum, gMin, gMax, gMin2, gMax2, gAbs, gInt, gSorted,
  List.getElem?_cons_zero, List.getElem?_cons_succ, List.getElem?_nil, List.set_cons_zero, List.set_cons_succ, List.cons_append, List.nil_append, List.append_nil, wipeE, List.any_cons, List.any_nil, isK, Bool.or_false, Bool.false_or, Bool.or_true, Bool.true_or, Bool.not_true, Bool.not_false, if_true, if_false, Bool.false_eq_true, true_and, and_true, decide_eq_true_eq, id, reduceCtorEq, gEq_i, gNe_i, gEq_b, gNe_b, gEq_li, gNe_li, gEq_l0, gNe_l0, gEq_00, gNe_00, gEq_ti, gNe_ti, mEnum, Nat.zero_add, Nat.reduceAdd, Int.reduceEq, Int.cast_ofNat_Int, Nat.zero_le, sz1, sz2, sz3, sz4, sz5, sz6, decide_true, decide_false, sAugI, mPopAt, mApp, mExt, mGet, mDNew, sPar3, sFldAugM, mZip2, mZip3, mJoin, mSplit, cellL_p, onStr_x, gLen_x, gIx_x, gIn_1, iterS_ap, chD_S, S_len, S_cat]
  intro r hr
  have R0 : RowAt (put h r (.lst [.scr ns0, .int 0, .int 0, .int mx])) r := ⟨_, _, _, _, put_same, by decide⟩
  generalize put h r (.lst [.scr ns0, .int 0, .int 0, .int mx]) = h0 at R0 ⊢
  refine ⟨by decide, ?_⟩
  refine for_inv (fun _ E h' => RowAt h' r ∧ E = [some (.scr ns0), some (.ref r), none, none, none, none, none, none, none, none, none, none, none, none]) ⟨R0, rfl⟩ ?_ ?_
  · rintro i d E h1 kc hi ⟨R1, rfl⟩ hk
    obtain ⟨hi2, rfl⟩ := rng_get hi
    generalize (i : Int) = i
    simp only [sSeq, sSet, sSkip, sForget, sFor, sIf, sRet, sRetN, sDrop, sSetI, sAsg, sPar, sFldM, sAug, frzV, valE, mVar, mC, mOp, mUn, mCall, mFun, mMeth, mMake, mFld, mTst, mNotT, mNotV, mAndV, mOrV, mAndT, mOrT, mIte, mNil, mCons, mTup, mLst, mChain, mIter_ap, mIsi_ap, mRng1, mRng2, mLc, mYes, mCell, mRel, mSl, oNo, oSome,
  gN, gT, gsCons, gsNil, frz_d, frz_l, frz_k, gIx_p, onSet_p, onQ_p, onL_p, gLen_p, onIns_p, put_put, atD_0, atD_1, atD_2, atD_3, atD_4, ixN_0, ixN_1, ixN_2, ixN_3, ixN_4, List.length_cons, List.length_nil, onBl_b, onInt_i, onTup_t, on1_1, on2_2, onQ_l, onQ_t, onQ_s, onL_l, onLs_l, onLs_s, onD_d, onOpt_s, gII, gB, gAdd_i, gAdd_s, gAdd_t, gAdd_l, gMul_i, gMul_l, gMul_t, gSub, gMod, gDiv, gPow, gNeg, gIx_l, gIx_t, gIx_s, gLen_l, gLen_t, gLen_s, gLen_d, iterD_t, iterD_l, iterD_s,
  kind_i, kind_b, kind_s, kind_n, kind_t, kind_l, gIsN, isNon, gTuple, gList, gAll, gAny, gSum, gMin, gMax, gMin2, gMax2, gAbs, gInt, gSorted,
  List.getElem?_cons_zero, List.getElem?_cons_succ, List.getElem?_nil, List.set_cons_zero, List.set_cons_succ, List.cons_append, List.nil_append, List.append_nil, wipeE, List.any_cons, List.any_nil, isK, Bool.or_false, Bool.false_or, Bool.or_true, Bool.true_or, Bool.not_true, Bool.not_false, if_true, if_false, Bool.false_eq_true, true_and, and_true, decide_eq_true_eq, id, reduceCtorEq, gEq_i, gNe_i, gEq_b, gNe_b, gEq_li, gNe_li, gEq_l0, gNe_l0, gEq_00, gNe_00, gEq_ti, gNe_ti, mEnum, Nat.zero_add, Nat.reduceAdd, Int.reduceEq, Int.cast_ofNat_Int, Nat.zero_le, sz1, sz2, sz3, sz4, sz5, sz6, decide_true, decide_false, sAugI, mPopAt, mApp, mExt, mGet, mDNew, sPar3, sFldAugM, mZip2, mZip3, mJoin, mSplit, cellL_p, onStr_x, gLen_x, gIx_x, gIn_1, iterS_ap, chD_S, S_len, S_cat]
    refine ⟨r, 4, rfl, by decide, by decide, R1, fun v h2 v0 v1 f2 R2 => ?_⟩
    simp only [sSeq, sSet, sSkip, sForget, sFor, sIf, sRet, sRetN, sDrop, sSetI, sAsg, sPar, sFldM, sAug, frzV, valE, mVar, mC, mOp, mUn, mCall, mFun, mMeth, mMake, mFld, mTst, mNotT, mNotV, mAndV, mOrV, mAndT, mOrT, mIte, mNil, mCons, mTup, mLst, mChain, mIter_ap, mIsi_ap, mRng1, mRng2, mLc, mYes, mCell, mRel, mSl, oNo, oSome,
  gN, gT, gsCons, gsNil, frz_d, frz_l, frz_k, gIx_p, onSet_p, onQ_p, onL_p, gLen_p, onIns_p, put_put, atD_0, atD_1, atD_2, atD_3, atD_4, ixN_0, ixN_1, ixN_2, ixN_3, ixN_4, List.length_cons, List.length_nil, onBl_b, onInt_i, onTup_t, on1_1, on2_2, onQ_l, onQ_t, onQ_s, onL_l, onLs_l, onLs_s, onD_d, onOpt_s, gII, gB, gAdd_i, gAdd_s, gAdd_t, gAdd_l, gMul_i, gMul_l, gMul_t, gSub, gMod, gDiv, gPow, gNeg, gIx_l, gIx_t, gIx_s, gLen_l, gLen_t, gLen_s, gLen_d, iterD_t, iterD_l, iterD_s,
  kind_i, kind_b, kind_s, kind_n, kind_t, kind_l, gIsN, isNon, gTuple, gList, gAll, gAny, gSum, gMin, gMax, gMin2, gMax2, gAbs, gInt, gSorted,
  List.getElem?_cons_zero, List.getElem?_cons_succ, List.getElem?_nil, List.set_cons_zero, List.set_cons_succ, List.cons_append, List.nil_append, List.append_nil, wipeE, List.any_cons, List.any_nil, isK, Bool.or_false, Bool.false_or, Bool.or_true, Bool.true_or, Bool.not_true, Bool.not_false, if_true, if_false, Bool.false_eq_true, true_and, and_true, decide_eq_true_eq, id, reduceCtorEq, gEq_i, gNe_i, gEq_b, gNe_b, gEq_li, gNe_li, gEq_l0, gNe_l0, gEq_00, gNe_00, gEq_ti, gNe_ti, mEnum, Nat.zero_add, Nat.reduceAdd, Int.reduceEq, Int.cast_ofNat_Int, Nat.zero_le, sz1, sz2, sz3, sz4, sz5, sz6, decide_true, decide_false, sAugI, mPopAt, mApp, mExt, mGet, mDNew, sPar3, sFldAugM, mZip2, mZip3, mJoin, mSplit, cellL_p, onStr_x, gLen_x, gIx_x, gIn_1, iterS_ap, chD_S, S_len, S_cat]
    refine ⟨⟨by omega, by omega⟩, ?_⟩
    refine lc_inv (fun j acc h' => RowAt h' r ∧ ∃ ps : List Plan, acc = ps.map planD ∧ ps.length = j ∧ ∀ p ∈ ps, PlanOk p) ⟨R2, [], rfl, rfl, by simp⟩ ?_ ?_
    · rintro j d acc h3 kc2 hj ⟨R3, ps, rfl, lj, okj⟩ hk2
      obtain ⟨hj2, rfl⟩ := rng_get hj
      simp only [sSeq, sSet, sSkip, sForget, sFor, sIf, sRet, sRetN, sDrop, sSetI, sAsg, sPar, sFldM, sAug, frzV, valE, mVar, mC, mOp, mUn, mCall, mFun, mMeth, mMake, mFld, mTst, mNotT, mNotV, mAndV, mOrV, mAndT, mOrT, mIte, mNil, mCons, mTup, mLst, mChain, mIter_ap, mIsi_ap, mRng1, mRng2, mLc, mYes, mCell, mRel, mSl, oNo, oSome,
  gN, gT, gsCons, gsNil, frz_d, frz_l, frz_k, gIx_p, onSet_p, onQ_p, onL_p, gLen_p, onIns_p, put_put, atD_0, atD_1, atD_2, atD_3, atD_4, ixN_0, ixN_1, ixN_2, ixN_3, ixN_4, List.length_cons, List.length_nil, onBl_b, onInt_i, onTup_t, on1_1, on2_2, onQ_l, onQ_t, onQ_s, onL_l, onLs_l, onLs_s, onD_d, onOpt_s, gII, gB, gAdd_i, gAdd_s, gAdd_t, gAdd_l, gMul_i, gMul_l, gMul_t, gSub, gMod, gDiv, gPow, gNeg, gIx_l, gIx_t, gIx_s, gLen_l, gLen_t, gLen_s, gLen_d, iterD_t, iterD_l, iterD_s,
  kind_i, kind_b, kind_s, kind_n, kind_t, kind_l, gIsN, isNon, gTuple, gList, gAll, gAny, gSum, gMin, gMax, gMin2, gMax2, gAbs, gInt, gSorted,
  List.getElem?_cons_zero, List.getElem?_cons_succ, List.getElem?_nil, List.set_cons_zero, List.set_cons_succ, List.cons_append, List.nil_append, List.append_nil, wipeE, List.any_cons, List.any_nil, isK, Bool.or_false, Bool.false_or, Bool.or_true, Bool.true_or, Bool.not_true, Bool.not_false, if_true, if_false, Bool.false_eq_true, true_and, and_true, decide_eq_true_eq, id, reduceCtorEq, gEq_i, gNe_i, gEq_b, gNe_b, gEq_li, gNe_li, gEq_l0, gNe_l0, gEq_00, gNe_00, gEq_ti, gNe_ti, mEnum, Nat.zero_add, Nat.reduceAdd, Int.reduceEq, Int.cast_ofNat_Int, Nat.zero_le, sz1, sz2, sz3, sz4, sz5, sz6, decide_true, decide_false, sAugI, mPopAt, mApp, mExt, mGet, mDNew, sPar3, sFldAugM, mZip2, mZip3, mJoin, mSplit, cellL_p, onStr_x, gLen_x, gIx_x, gIn_1, iterS_ap, chD_S, S_len, S_cat]
      refine ⟨r, 16, 32, 5, rfl, by decide, by decide, by decide, by decide, by decide, by decide, R3, fun p h4 ok4 _ _ _ f4 R4 => ?_⟩
      simp only [sSeq, sSet, sSkip, sForget, sFor, sIf, sRet, sRetN, sDrop, sSetI, sAsg, sPar, sFldM, sAug, frzV, valE, mVar, mC, mOp, mUn, mCall, mFun, mMeth, mMake, mFld, mTst, mNotT, mNotV, mAndV, mOrV, mAndT, mOrT, mIte, mNil, mCons, mTup, mLst, mChain, mIter_ap, mIsi_ap, mRng1, mRng2, mLc, mYes, mCell, mRel, mSl, oNo, oSome,
  gN, gT, gsCons, gsNil, frz_d, frz_l, frz_k, gIx_p, onSet_p, onQ_p, onL_p, gLen_p, onIns_p, put_put, atD_0, atD_1, atD_2, atD_3, atD_4, ixN_0, ixN_1, ixN_2, ixN_3, ixN_4, List.length_cons, List.length_nil, onBl_b, onInt_i, onTup_t, on1_1, on2_2, onQ_l, onQ_t, onQ_s, onL_l, onLs_l, onLs_s, onD_d, onOpt_s, gII, gB, gAdd_i, gAdd_s, gAdd_t, gAdd_l, gMul_i, gMul_l, gMul_t, gSub, gMod, gDiv, gPow, gNeg, gIx_l, gIx_t, gIx_s, gLen_l, gLen_t, gLen_s, gLen_d, iterD_t, iterD_l, iterD_s,
  kind_i, kind_b, kind_s, kind_n, kind_t, kind_l, gIsN, isNon, gTuple, gList, gAll, gAny, gSum, gMin, gMax, gMin2, gMax2, gAbs, gInt, gSorted,
  List.getElem?_cons_zero, List.getElem?_cons_succ, List.getElem?_nil, List.set_cons_zero, List.set_cons_succ, List.cons_append, List.nil_append, List.append_nil, wipeE, List.any_cons, List.any_nil, isK, Bool.or_false, Bool.false_or, Bool.or_true, Bool.true_or, Bool.not_true, Bool.not_false, if_true, if_false, Bool.false_eq_true, true_and, and_true, decide_eq_true_eq, id, reduceCtorEq, gEq_i, gNe_i, gEq_b, gNe_b, gEq_li, gNe_li, gEq_l0, gNe_l0, gEq_00, gNe_00, gEq_ti, gNe_ti, mEnum, Nat.zero_add, Nat.reduceAdd, Int.reduceEq, Int.cast_ofNat_Int, Nat.zero_le, sz1, sz2, sz3, sz4, sz5, sz6, decide_true, decide_false, sAugI, mPopAt, mApp, mExt, mGet, mDNew, sPar3, sFldAugM, mZip2, mZip3, mJoin, mSplit, cellL_p, onStr_x, gLen_x, gIx_x, gIn_1, iterS_ap, chD_S, S_len, S_cat, List.length_map]
      refine ⟨by omega, hk2 _ _ ⟨R4, ps ++ [p], by rw [List.map_append]; rfl, by simp; omega, fun p' hp' => ?_⟩⟩
      rcases List.mem_append.mp hp' with z | z
      · exact okj p' z
      · rw [List.mem_singleton.mp z]
        exact ok4
    · rintro acc h3 ⟨R3, ps, rfl, lps, ok⟩
      have l3 : ps.length ≤ 3 := by
        rw [lps]
        simp only [rngD, List.length_map, List.length_range]
        omega
      have al := all_len ok
      intro q hq
      have R4 := R3.ne (m := .lst []) (R3.nq hq)
      have eq : put h3 q (.lst []) q = some (.lst []) := put_same
      generalize put h3 q (.lst []) = h4 at R4 eq ⊢
      have nrq : r ≠ q := R3.nq hq
      refine for_inv (fun n E h' => RowAt h' r ∧ ∃ q, r ≠ q ∧ h' q = some (.lst ((allLines (ps.take n)).map lnD)) ∧ E = [some (.scr ns0), some (.ref r), some (.int i), some (.lst (ps.map planD)), some (.ref q), none, none, none, none, none, none, none, none, none]) ⟨R4, q, nrq, eq, rfl⟩ ?_ ?_
      · rintro n d E h5 kc3 hn ⟨R5, q, n5, e5, rfl⟩ hk3
        rw [List.getElem?_map] at hn
        cases er : ps[n]? with
        | none => rw [er] at hn; cases hn
        | some p1 =>
          rw [er] at hn
          obtain rfl := Option.some.inj hn
          have ok1 := ok p1 (List.mem_of_getElem? er)
          have k2 := ok1.k2
          have w2 := ok1.w2
          have r2 := ok1.r2
          have ln0 : (allLines (ps.take n)).length ≤ 18 := by
            have := all_len (ps := ps.take n) fun q hq => ok q (List.mem_of_mem_take hq)
            have := List.length_take_le' n ps
            omega
          have n1 : (TL.numL p1.k).length ≤ 2 := num_len (by omega)
          have n2 : (TL.numL p1.w).length ≤ 2 := num_len (by omega)
          have pl : planL.length = 4 := rfl
          simp only [sSeq, sSet, sSkip, sForget, sFor, sIf, sRet, sRetN, sDrop, sSetI, sAsg, sPar, sFldM, sAug, frzV, valE, mVar, mC, mOp, mUn, mCall, mFun, mMeth, mMake, mFld, mTst, mNotT, mNotV, mAndV, mOrV, mAndT, mOrT, mIte, mNil, mCons, mTup, mLst, mChain, mIter_ap, mIsi_ap, mRng1, mRng2, mLc, mYes, mCell, mRel, mSl, oNo, oSome,
  gN, gT, gsCons, gsNil, frz_d, frz_l, frz_k, gIx_p, onSet_p, onQ_p, onL_p, gLen_p, onIns_p, put_put, atD_0, atD_1, atD_2, atD_3, atD_4, ixN_0, ixN_1, ixN_2, ixN_3, ixN_4, List.length_cons, List.length_nil, onBl_b, onInt_i, onTup_t, on1_1, on2_2, onQ_l, onQ_t, onQ_s, onL_l, onLs_l, onLs_s, onD_d, onOpt_s, gII, gB, gAdd_i, gAdd_s, gAdd_t, gAdd_l, gMul_i, gMul_l, gMul_t, gSub, gMod, gDiv, gPow, gNeg, gIx_l, gIx_t, gIx_s, gLen_l, gLen_t, gLen_s, gLen_d, iterD_t, iterD_l, iterD_s,
  kind_i, kind_b, kind_s, kind_n, kind_t, kind_l, gIsN, isNon, gTuple, gList, gAll, gAny, gSum, gMin, gMax, gMin2, gMax2, gAbs, gInt, gSorted,
  List.getElem?_cons_zero, List.getElem?_cons_succ, List.getElem?_nil, List.set_cons_zero, List.set_cons_succ, List.cons_append, List.nil_append, List.append_nil, wipeE, List.any_cons, List.any_nil, isK, Bool.or_false, Bool.false_or, Bool.or_true, Bool.true_or, Bool.not_true, Bool.not_false, if_true, if_false, Bool.false_eq_true, true_and, and_true, decide_eq_true_eq, id, reduceCtorEq, gEq_i, gNe_i, gEq_b, gNe_b, gEq_li, gNe_li, gEq_l0, gNe_l0, gEq_00, gNe_00, gEq_ti, gNe_ti, mEnum, Nat.zero_add, Nat.reduceAdd, Int.reduceEq, Int.cast_ofNat_Int, Nat.zero_le, sz1, sz2, sz3, sz4, sz5, sz6, decide_true, decide_false, sAugI, mPopAt, mApp, mExt, mGet, mDNew, sPar3, sFldAugM, mZip2, mZip3, mJoin, mSplit, cellL_p, onStr_x, gLen_x, gIx_x, gIn_1, iterS_ap, chD_S, S_len, S_cat, planD_e, gStrI, lit_plan1, lit_sp, num_nat, List.length_append, List.length_map, pl, cellL_rr e5]
          refine ⟨log_lt (by omega), by omega, by omega, log_lt (by omega), by omega, by omega, ?_⟩
          have e1 : S (planL ++ [32] ++ TL.numL p1.k ++ [32] ++ TL.numL p1.w) = S (lineL (.hd p1.k p1.w)) := by simp only [lineL, wordsL, TL.joinL, List.append_assoc]
          rw [e1]
          refine lc_mapA p1.rows (fun r => .tup (r.map D.int)) (fun r => lnD (.rw r)) (by omega) ?_ ?_
          · intro r hr acc kc2 ha q
            have okr := plan_rw ok1 hr
            simp only [sSeq, sSet, sSkip, sForget, sFor, sIf, sRet, sRetN, sDrop, sSetI, sAsg, sPar, sFldM, sAug, frzV, valE, mVar, mC, mOp, mUn, mCall, mFun, mMeth, mMake, mFld, mTst, mNotT, mNotV, mAndV, mOrV, mAndT, mOrT, mIte, mNil, mCons, mTup, mLst, mChain, mIter_ap, mIsi_ap, mRng1, mRng2, mLc, mYes, mCell, mRel, mSl, oNo, oSome,
  gN, gT, gsCons, gsNil, frz_d, frz_l, frz_k, gIx_p, onSet_p, onQ_p, onL_p, gLen_p, onIns_p, put_put, atD_0, atD_1, atD_2, atD_3, atD_4, ixN_0, ixN_1, ixN_2, ixN_3, ixN_4, List.length_cons, List.length_nil, onBl_b, onInt_i, onTup_t, on1_1, on2_2, onQ_l, onQ_t, onQ_s, onL_l, onLs_l, onLs_s, onD_d, onOpt_s, gII, gB, gAdd_i, gAdd_s, gAdd_t, gAdd_l, gMul_i, gMul_l, gMul_t, gSub, gMod, gDiv, gPow, gNeg, gIx_l, gIx_t, gIx_s, gLen_l, gLen_t, gLen_s, gLen_d, iterD_t, iterD_l, iterD_s,
  kind_i, kind_b, kind_s, kind_n, kind_t, kind_l, gIsN, isNon, gTuple, gList, gAll, gAny, gSum, gMin, gMax, gMin2, gMax2, gAbs, gInt, gSorted,
  List.getElem?_cons_zero, List.getElem?_cons_succ, List.getElem?_nil, List.set_cons_zero, List.set_cons_succ, List.cons_append, List.nil_append, List.append_nil, wipeE, List.any_cons, List.any_nil, isK, Bool.or_false, Bool.false_or, Bool.or_true, Bool.true_or, Bool.not_true, Bool.not_false, if_true, if_false, Bool.false_eq_true, true_and, and_true, decide_eq_true_eq, id, reduceCtorEq, gEq_i, gNe_i, gEq_b, gNe_b, gEq_li, gNe_li, gEq_l0, gNe_l0, gEq_00, gNe_00, gEq_ti, gNe_ti, mEnum, Nat.zero_add, Nat.reduceAdd, Int.reduceEq, Int.cast_ofNat_Int, Nat.zero_le, sz1, sz2, sz3, sz4, sz5, sz6, decide_true, decide_false, sAugI, mPopAt, mApp, mExt, mGet, mDNew, sPar3, sFldAugM, mZip2, mZip3, mJoin, mSplit, cellL_p, onStr_x, gLen_x, gIx_x, gIn_1, iterS_ap, chD_S, S_len, S_cat]
            refine row_join big okr (fun c hc => by have := ok1.cell r hr c hc; omega) 13 (fun d => rfl) ?_
            simp only [sSeq, sSet, sSkip, sForget, sFor, sIf, sRet, sRetN, sDrop, sSetI, sAsg, sPar, sFldM, sAug, frzV, valE, mVar, mC, mOp, mUn, mCall, mFun, mMeth, mMake, mFld, mTst, mNotT, mNotV, mAndV, mOrV, mAndT, mOrT, mIte, mNil, mCons, mTup, mLst, mChain, mIter_ap, mIsi_ap, mRng1, mRng2, mLc, mYes, mCell, mRel, mSl, oNo, oSome,
  gN, gT, gsCons, gsNil, frz_d, frz_l, frz_k, gIx_p, onSet_p, onQ_p, onL_p, gLen_p, onIns_p, put_put, atD_0, atD_1, atD_2, atD_3, atD_4, ixN_0, ixN_1, ixN_2, ixN_3, ixN_4, List.length_cons, List.length_nil, onBl_b, onInt_i, onTup_t, on1_1, on2_2, onQ_l, onQ_t, onQ_s, onL_l, onLs_l, onLs_s, onD_d, onOpt_s, gII, gB, gAdd_i, gAdd_s, gAdd_t, gAdd_l, gMul_i, gMul_l, gMul_t, gSub, gMod, gDiv, gPow, gNeg, gIx_l, gIx_t, gIx_s, gLen_l, gLen_t, gLen_s, gLen_d, iterD_t, iterD_l, iterD_s,
  kind_i, kind_b, kind_s, kind_n, kind_t, kind_l, gIsN, isNon, gTuple, gList, gAll, gAny, gSum, gMin, gMax, gMin2, gMax2, gAbs, gInt, gSorted,
  List.getElem?_cons_zero, List.getElem?_cons_succ, List.getElem?_nil, List.set_cons_zero, List.set_cons_succ, List.cons_append, List.nil_append, List.append_nil, wipeE, List.any_cons, List.any_nil, isK, Bool.or_false, Bool.false_or, Bool.or_true, Bool.true_or, Bool.not_true, Bool.not_false, if_true, if_false, Bool.false_eq_true, true_and, and_true, decide_eq_true_eq, id, reduceCtorEq, gEq_i, gNe_i, gEq_b, gNe_b, gEq_li, gNe_li, gEq_l0, gNe_l0, gEq_00, gNe_00, gEq_ti, gNe_ti, mEnum, Nat.zero_add, Nat.reduceAdd, Int.reduceEq, Int.cast_ofNat_Int, Nat.zero_le, sz1, sz2, sz3, sz4, sz5, sz6, decide_true, decide_false, sAugI, mPopAt, mApp, mExt, mGet, mDNew, sPar3, sFldAugM, mZip2, mZip3, mJoin, mSplit, cellL_p, onStr_x, gLen_x, gIx_x, gIn_1, iterS_ap, chD_S, S_len, S_cat, strs_S, joinS]
            refine ⟨?_, ha, q⟩
            have h1 := sum_S okr.each
            have h2 := okr.n1
            simp only [List.length_map] at h1 ⊢
            omega
          · rw [gAdd_rl put_same]
            simp only [List.length_append, List.length_map, List.length_cons, List.length_nil]
            refine ⟨by omega, fun q2 hq2 => hk3 _ _ ⟨?_, q2, ?_, ?_, rfl⟩⟩
            · exact (R5.ne n5).ne ((R5.ne n5).nq hq2)
            · exact (R5.ne n5).nq hq2
            · rw [put_same, lines_take er, List.map_append, linesOf, List.map_cons, List.map_map, List.append_assoc]
              rfl
      · rintro E h5 ⟨R5, q, n5, e5, rfl⟩
        have e0 : (ps.map planD).length = ps.length := List.length_map ..
        rw [e0, List.take_length] at e5
        have e1 : (allLines ps).map lnD = ((allLines ps).map lineL).map fun w => D.str (S w) := by rw [List.map_map]; rfl
        have tx : S (TL.joinL [10] ((allLines ps).map lineL)) = textS ps := rfl
        simp only [sSeq, sSet, sSkip, sForget, sFor, sIf, sRet, sRetN, sDrop, sSetI, sAsg, sPar, sFldM, sAug, frzV, valE, mVar, mC, mOp, mUn, mCall, mFun, mMeth, mMake, mFld, mTst, mNotT, mNotV, mAndV, mOrV, mAndT, mOrT, mIte, mNil, mCons, mTup, mLst, mChain, mIter_ap, mIsi_ap, mRng1, mRng2, mLc, mYes, mCell, mRel, mSl, oNo, oSome,
  gN, gT, gsCons, gsNil, frz_d, frz_l, frz_k, gIx_p, onSet_p, onQ_p, onL_p, gLen_p, onIns_p, put_put, atD_0, atD_1, atD_2, atD_3, atD_4, ixN_0, ixN_1, ixN_2, ixN_3, ixN_4, List.length_cons, List.length_nil, onBl_b, onInt_i, onTup_t, on1_1, on2_2, onQ_l, onQ_t, onQ_s, onL_l, onLs_l, onLs_s, onD_d, onOpt_s, gII, gB, gAdd_i, gAdd_s, gAdd_t, gAdd_l, gMul_i, gMul_l, gMul_t, gSub, gMod, gDiv, gPow, gNeg, gIx_l, gIx_t, gIx_s, gLen_l, gLen_t, gLen_s, gLen_d, iterD_t, iterD_l, iterD_s,
  kind_i, kind_b, kind_s, kind_n, kind_t, kind_l, gIsN, isNon, gTuple, gList, gAll, gAny, gSum, gMin, gMax, gMin2, gMax2, gAbs, gInt, gSorted,
  List.getElem?_cons_zero, List.getElem?_cons_succ, List.getElem?_nil, List.set_cons_zero, List.set_cons_succ, List.cons_append, List.nil_append, List.append_nil, wipeE, List.any_cons, List.any_nil, isK, Bool.or_false, Bool.false_or, Bool.or_true, Bool.true_or, Bool.not_true, Bool.not_false, if_true, if_false, Bool.false_eq_true, true_and, and_true, decide_eq_true_eq, id, reduceCtorEq, gEq_i, gNe_i, gEq_b, gNe_b, gEq_li, gNe_li, gEq_l0, gNe_l0, gEq_00, gNe_00, gEq_ti, gNe_ti, mEnum, Nat.zero_add, Nat.reduceAdd, Int.reduceEq, Int.cast_ofNat_Int, Nat.zero_le, sz1, sz2, sz3, sz4, sz5, sz6, decide_true, decide_false, sAugI, mPopAt, mApp, mExt, mGet, mDNew, sPar3, sFldAugM, mZip2, mZip3, mJoin, mSplit, cellL_p, onStr_x, gLen_x, gIx_x, gIn_1, iterS_ap, chD_S, S_len, S_cat, lit_nl, onQ_r e5, e1, strs_S, join_S, tx]
        refine ⟨?_, by decide, ?_⟩
        · have h1 := sum_S (n := 80) (ls := (allLines ps).map lineL) fun w hw => by
            obtain ⟨l, hl, rfl⟩ := List.mem_map.mp hw
            exact line_len (all_lines ok l hl)
          simp only [List.length_map] at h1 ⊢
          omega
        refine for_inv (fun n E h' => RowAt h' r ∧ E = [some (.scr ns0), some (.ref r), some (.int i), some (.lst (ps.map planD)), some (.ref q), none, none, none, some (.str (textS ps)), none, none, none, none, none]) ⟨R5, rfl⟩ ?_ ?_
        · rintro n d E h6 kc3 hn ⟨R6, rfl⟩ hk3
          obtain ⟨hn2, rfl⟩ := rng_get hn
          simp only [sSeq, sSet, sSkip, sForget, sFor, sIf, sRet, sRetN, sDrop, sSetI, sAsg, sPar, sFldM, sAug, frzV, valE, mVar, mC, mOp, mUn, mCall, mFun, mMeth, mMake, mFld, mTst, mNotT, mNotV, mAndV, mOrV, mAndT, mOrT, mIte, mNil, mCons, mTup, mLst, mChain, mIter_ap, mIsi_ap, mRng1, mRng2, mLc, mYes, mCell, mRel, mSl, oNo, oSome,
  gN, gT, gsCons, gsNil, frz_d, frz_l, frz_k, gIx_p, onSet_p, onQ_p, onL_p, gLen_p, onIns_p, put_put, atD_0, atD_1, atD_2, atD_3, atD_4, ixN_0, ixN_1, ixN_2, ixN_3, ixN_4, List.length_cons, List.length_nil, onBl_b, onInt_i, onTup_t, on1_1, on2_2, onQ_l, onQ_t, onQ_s, onL_l, onLs_l, onLs_s, onD_d, onOpt_s, gII, gB, gAdd_i, gAdd_s, gAdd_t, gAdd_l, gMul_i, gMul_l, gMul_t, gSub, gMod, gDiv, gPow, gNeg, gIx_l, gIx_t, gIx_s, gLen_l, gLen_t, gLen_s, gLen_d, iterD_t, iterD_l, iterD_s,
  kind_i, kind_b, kind_s, kind_n, kind_t, kind_l, gIsN, isNon, gTuple, gList, gAll, gAny, gSum, gMin, gMax, gMin2, gMax2, gAbs, gInt, gSorted,
  List.getElem?_cons_zero, List.getElem?_cons_succ, List.getElem?_nil, List.set_cons_zero, List.set_cons_succ, List.cons_append, List.nil_append, List.append_nil, wipeE, List.any_cons, List.any_nil, isK, Bool.or_false, Bool.false_or, Bool.or_true, Bool.true_or, Bool.not_true, Bool.not_false, if_true, if_false, Bool.false_eq_true, true_and, and_true, decide_eq_true_eq, id, reduceCtorEq, gEq_i, gNe_i, gEq_b, gNe_b, gEq_li, gNe_li, gEq_l0, gNe_l0, gEq_00, gNe_00, gEq_ti, gNe_ti, mEnum, Nat.zero_add, Nat.reduceAdd, Int.reduceEq, Int.cast_ofNat_Int, Nat.zero_le, sz1, sz2, sz3, sz4, sz5, sz6, decide_true, decide_false, sAugI, mPopAt, mApp, mExt, mGet, mDNew, sPar3, sFldAugM, mZip2, mZip3, mJoin, mSplit, cellL_p, onStr_x, gLen_x, gIx_x, gIn_1, iterS_ap, chD_S, S_len, S_cat]
          refine ⟨ps, rfl, ok, l3, ?_⟩
          intro b hb
          have R7 := R6.ne (m := .lst (ps.map planD)) (R6.nq hb)
          have nb := R6.nq hb
          have eb : put h6 b (.lst (ps.map planD)) b = some (.lst (ps.map planD)) := put_same
          generalize put h6 b (.lst (ps.map planD)) = h7 at R7 eb ⊢
          refine ⟨ps, rfl, ok, l3, ?_⟩
          simp only [sSeq, sSet, sSkip, sForget, sFor, sIf, sRet, sRetN, sDrop, sSetI, sAsg, sPar, sFldM, sAug, frzV, valE, mVar, mC, mOp, mUn, mCall, mFun, mMeth, mMake, mFld, mTst, mNotT, mNotV, mAndV, mOrV, mAndT, mOrT, mIte, mNil, mCons, mTup, mLst, mChain, mIter_ap, mIsi_ap, mRng1, mRng2, mLc, mYes, mCell, mRel, mSl, oNo, oSome,
  gN, gT, gsCons, gsNil, frz_d, frz_l, frz_k, gIx_p, onSet_p, onQ_p, onL_p, gLen_p, onIns_p, put_put, atD_0, atD_1, atD_2, atD_3, atD_4, ixN_0, ixN_1, ixN_2, ixN_3, ixN_4, List.length_cons, List.length_nil, onBl_b, onInt_i, onTup_t, on1_1, on2_2, onQ_l, onQ_t, onQ_s, onL_l, onLs_l, onLs_s, onD_d, onOpt_s, gII, gB, gAdd_i, gAdd_s, gAdd_t, gAdd_l, gMul_i, gMul_l, gMul_t, gSub, gMod, gDiv, gPow, gNeg, gIx_l, gIx_t, gIx_s, gLen_l, gLen_t, gLen_s, gLen_d, iterD_t, iterD_l, iterD_s,
  kind_i, kind_b, kind_s, kind_n, kind_t, kind_l, gIsN, isNon, gTuple, gList, gAll, gAny, gSum, gMin, gMax, gMin2, gMax2, gAbs, gInt, gSorted,
  List.getElem?_cons_zero, List.getElem?_cons_succ, List.getElem?_nil, List.set_cons_zero, List.set_cons_succ, List.cons_append, List.nil_append, List.append_nil, wipeE, List.any_cons, List.any_nil, isK, Bool.or_false, Bool.false_or, Bool.or_true, Bool.true_or, Bool.not_true, Bool.not_false, if_true, if_false, Bool.false_eq_true, true_and, and_true, decide_eq_true_eq, id, reduceCtorEq, gEq_i, gNe_i, gEq_b, gNe_b, gEq_li, gNe_li, gEq_l0, gNe_l0, gEq_00, gNe_00, gEq_ti, gNe_ti, mEnum, Nat.zero_add, Nat.reduceAdd, Int.reduceEq, Int.cast_ofNat_Int, Nat.zero_le, sz1, sz2, sz3, sz4, sz5, sz6, decide_true, decide_false, sAugI, mPopAt, mApp, mExt, mGet, mDNew, sPar3, sFldAugM, mZip2, mZip3, mJoin, mSplit, cellL_p, onStr_x, gLen_x, gIx_x, gIn_1, iterS_ap, chD_S, S_len, S_cat]
          refine ⟨.str (textS ps), .str (textS ps), rfl, rfl, by decide, ok_text ok, ?_⟩
          simp only [sSeq, sSet, sSkip, sForget, sFor, sIf, sRet, sRetN, sDrop, sSetI, sAsg, sPar, sFldM, sAug, frzV, valE, mVar, mC, mOp, mUn, mCall, mFun, mMeth, mMake, mFld, mTst, mNotT, mNotV, mAndV, mOrV, mAndT, mOrT, mIte, mNil, mCons, mTup, mLst, mChain, mIter_ap, mIsi_ap, mRng1, mRng2, mLc, mYes, mCell, mRel, mSl, oNo, oSome,
  gN, gT, gsCons, gsNil, frz_d, frz_l, frz_k, gIx_p, onSet_p, onQ_p, onL_p, gLen_p, onIns_p, put_put, atD_0, atD_1, atD_2, atD_3, atD_4, ixN_0, ixN_1, ixN_2, ixN_3, ixN_4, List.length_cons, List.length_nil, onBl_b, onInt_i, onTup_t, on1_1, on2_2, onQ_l, onQ_t, onQ_s, onL_l, onLs_l, onLs_s, onD_d, onOpt_s, gII, gB, gAdd_i, gAdd_s, gAdd_t, gAdd_l, gMul_i, gMul_l, gMul_t, gSub, gMod, gDiv, gPow, gNeg, gIx_l, gIx_t, gIx_s, gLen_l, gLen_t, gLen_s, gLen_d, iterD_t, iterD_l, iterD_s,
  kind_i, kind_b, kind_s, kind_n, kind_t, kind_l, gIsN, isNon, gTuple, gList, gAll, gAny, gSum, gMin, gMax, gMin2, gMax2, gAbs, gInt, gSorted,
  List.getElem?_cons_zero, List.getElem?_cons_succ, List.getElem?_nil, List.set_cons_zero, List.set_cons_succ, List.cons_append, List.nil_append, List.append_nil, wipeE, List.any_cons, List.any_nil, isK, Bool.or_false, Bool.false_or, Bool.or_true, Bool.true_or, Bool.not_true, Bool.not_false, if_true, if_false, Bool.false_eq_true, true_and, and_true, decide_eq_true_eq, id, reduceCtorEq, gEq_i, gNe_i, gEq_b, gNe_b, gEq_li, gNe_li, gEq_l0, gNe_l0, gEq_00, gNe_00, gEq_ti, gNe_ti, mEnum, Nat.zero_add, Nat.reduceAdd, Int.reduceEq, Int.cast_ofNat_Int, Nat.zero_le, sz1, sz2, sz3, sz4, sz5, sz6, decide_true, decide_false, sAugI, mPopAt, mApp, mExt, mGet, mDNew, sPar3, sFldAugM, mZip2, mZip3, mJoin, mSplit, cellL_p, onStr_x, gLen_x, gIx_x, gIn_1, iterS_ap, chD_S, S_len, S_cat]
          refine ⟨.ref b, .lst (ps.map planD), rfl, res_r eb, by decide, ?_, ?_⟩
          · rw [res_r eb]
            exact al_plans big (by omega) ok
          simp only [sSeq, sSet, sSkip, sForget, sFor, sIf, sRet, sRetN, sDrop, sSetI, sAsg, sPar, sFldM, sAug, frzV, valE, mVar, mC, mOp, mUn, mCall, mFun, mMeth, mMake, mFld, mTst, mNotT, mNotV, mAndV, mOrV, mAndT, mOrT, mIte, mNil, mCons, mTup, mLst, mChain, mIter_ap, mIsi_ap, mRng1, mRng2, mLc, mYes, mCell, mRel, mSl, oNo, oSome,
  gN, gT, gsCons, gsNil, frz_d, frz_l, frz_k, gIx_p, onSet_p, onQ_p, onL_p, gLen_p, onIns_p, put_put, atD_0, atD_1, atD_2, atD_3, atD_4, ixN_0, ixN_1, ixN_2, ixN_3, ixN_4, List.length_cons, List.length_nil, onBl_b, onInt_i, onTup_t, on1_1, on2_2, onQ_l, onQ_t, onQ_s, onL_l, onLs_l, onLs_s, onD_d, onOpt_s, gII, gB, gAdd_i, gAdd_s, gAdd_t, gAdd_l, gMul_i, gMul_l, gMul_t, gSub, gMod, gDiv, gPow, gNeg, gIx_l, gIx_t, gIx_s, gLen_l, gLen_t, gLen_s, gLen_d, iterD_t, iterD_l, iterD_s,
  kind_i, kind_b, kind_s, kind_n, kind_t, kind_l, gIsN, isNon, gTuple, gList, gAll, gAny, gSum, gMin, gMax, gMin2, gMax2, gAbs, gInt, gSorted,
  List.getElem?_cons_zero, List.getElem?_cons_succ, List.getElem?_nil, List.set_cons_zero, List.set_cons_succ, List.cons_append, List.nil_append, List.append_nil, wipeE, List.any_cons, List.any_nil, isK, Bool.or_false, Bool.false_or, Bool.or_true, Bool.true_or, Bool.not_true, Bool.not_false, if_true, if_false, Bool.false_eq_true, true_and, and_true, decide_eq_true_eq, id, reduceCtorEq, gEq_i, gNe_i, gEq_b, gNe_b, gEq_li, gNe_li, gEq_l0, gNe_l0, gEq_00, gNe_00, gEq_ti, gNe_ti, mEnum, Nat.zero_add, Nat.reduceAdd, Int.reduceEq, Int.cast_ofNat_Int, Nat.zero_le, sz1, sz2, sz3, sz4, sz5, sz6, decide_true, decide_false, sAugI, mPopAt, mApp, mExt, mGet, mDNew, sPar3, sFldAugM, mZip2, mZip3, mJoin, mSplit, cellL_p, onStr_x, gLen_x, gIx_x, gIn_1, iterS_ap, chD_S, S_len, S_cat, cellL_rr eb, List.length_map]
          exact ⟨by omega, hk3 _ _ ⟨R7.ne nb, rfl⟩⟩
        · rintro E h6 ⟨R6, rfl⟩
          exact hk _ _ ⟨R6, rfl⟩
  · rintro E h1 ⟨R1, rfl⟩
    simp only [sSeq, sSet, sSkip, sForget, sFor, sIf, sRet, sRetN, sDrop, sSetI, sAsg, sPar, sFldM, sAug, frzV, valE, mVar, mC, mOp, mUn, mCall, mFun, mMeth, mMake, mFld, mTst, mNotT, mNotV, mAndV, mOrV, mAndT, mOrT, mIte, mNil, mCons, mTup, mLst, mChain, mIter_ap, mIsi_ap, mRng1, mRng2, mLc, mYes, mCell, mRel, mSl, oNo, oSome,
  gN, gT, gsCons, gsNil, frz_d, frz_l, frz_k, gIx_p, onSet_p, onQ_p, onL_p, gLen_p, onIns_p, put_put, atD_0, atD_1, atD_2, atD_3, atD_4, ixN_0, ixN_1, ixN_2, ixN_3, ixN_4, List.length_cons, List.length_nil, onBl_b, onInt_i, onTup_t, on1_1, on2_2, onQ_l, onQ_t, onQ_s, onL_l, onLs_l, onLs_s, onD_d, onOpt_s, gII, gB, gAdd_i, gAdd_s, gAdd_t, gAdd_l, gMul_i, gMul_l, gMul_t, gSub, gMod, gDiv, gPow, gNeg, gIx_l, gIx_t, gIx_s, gLen_l, gLen_t, gLen_s, gLen_d, iterD_t, iterD_l, iterD_s,
  kind_i, kind_b, kind_s, kind_n, kind_t, kind_l, gIsN, isNon, gTuple, gList, gAll, gAny, gSum, gMin, gMax, gMin2, gMax2, gAbs, gInt, gSorted,
  List.getElem?_cons_zero, List.getElem?_cons_succ, List.getElem?_nil, List.set_cons_zero, List.set_cons_succ, List.cons_append, List.nil_append, List.append_nil, wipeE, List.any_cons, List.any_nil, isK, Bool.or_false, Bool.false_or, Bool.or_true, Bool.true_or, Bool.not_true, Bool.not_false, if_true, if_false, Bool.false_eq_true, true_and, and_true, decide_eq_true_eq, id, reduceCtorEq, gEq_i, gNe_i, gEq_b, gNe_b, gEq_li, gNe_li, gEq_l0, gNe_l0, gEq_00, gNe_00, gEq_ti, gNe_ti, mEnum, Nat.zero_add, Nat.reduceAdd, Int.reduceEq, Int.cast_ofNat_Int, Nat.zero_le, sz1, sz2, sz3, sz4, sz5, sz6, decide_true, decide_false, sAugI, mPopAt, mApp, mExt, mGet, mDNew, sPar3, sFldAugM, mZip2, mZip3, mJoin, mSplit, cellL_p, onStr_x, gLen_x, gIx_x, gIn_1, iterS_ap, chD_S, S_len, S_cat]
    exact bodyN_rt0 (k h1)
end M3
set_option Elab.async false
set_option linter.all false
set_option maxRecDepth 100000
set_option maxHeartbeats 4000000
namespace M3
open PySem PySem.Spec PyProof.Rows L2
def top (i : Nat) : Stmt := PySem.Challenge.pw_fewcells_k22_written_and_read.main.body.getD i (.Pass ⟨0, 0, 0, 0⟩)
abbrev s_law_row : Stmt := top 18
theorem sc_law_row : FnScope ["_law_script", "_law_mixed", "_law_cell"] ["_law_script"] (defScope s_law_row) := ⟨rfl, rfl, rfl, by decide +kernel, rfl, by decide +kernel, by decide +kernel⟩
abbrev s_law_taken : Stmt := top 19
theorem sc_law_taken : FnScope ["_law_row_here", "_law_many", "_law_found", "_law_cell"] ["_law_row_here", "_law_many"] (defScope s_law_taken) := ⟨rfl, rfl, rfl, by decide +kernel, rfl, by decide +kernel, by decide +kernel⟩
abbrev s_law_plan : Stmt := top 20
theorem sc_law_plan : FnScope ["_law_row_here", "_law_keys", "_law_wide", "_law_deep", "_law_many", "_law_cells", "_law_rows", "_law_k", "_law_key"] ["_law_row_here", "_law_keys", "_law_wide", "_law_deep"] (defScope s_law_plan) := ⟨rfl, rfl, rfl, by decide +kernel, rfl, by decide +kernel, by decide +kernel⟩
abbrev s_number_of : Stmt := top 15
theorem sc_number_of : FnScope ["word", "row", "sign"] ["word", "row"] (defScope s_number_of) := ⟨rfl, rfl, rfl, by decide +kernel, rfl, by decide +kernel, by decide +kernel⟩
abbrev s_is_number : Stmt := top 8
theorem sc_is_number : FnScope ["part", "low", "high"] ["part", "low", "high"] (defScope s_is_number) := ⟨rfl, rfl, rfl, by decide +kernel, rfl, by decide +kernel, by decide +kernel⟩
abbrev s_need_plan : Stmt := top 9
theorem sc_need_plan : FnScope ["plan", "keys", "wide", "rows", "number", "row", "cell"] ["plan"] (defScope s_need_plan) := ⟨rfl, rfl, rfl, by decide +kernel, rfl, by decide +kernel, by decide +kernel⟩
abbrev s_read : Stmt := top 16
theorem sc_read : FnScope ["text", "found", "row", "line", "words", "keys", "wide", "rows", "plan", "word"] ["text"] (defScope s_read) := ⟨rfl, rfl, rfl, by decide +kernel, rfl, by decide +kernel, by decide +kernel⟩
abbrev s_written : Stmt := top 14
theorem sc_written : FnScope ["plans", "rows", "plan", "row", "cell"] ["plans"] (defScope s_written) := ⟨rfl, rfl, rfl, by decide +kernel, rfl, by decide +kernel, by decide +kernel⟩
abbrev s_law_alike : Stmt := top 21
theorem sc_law_alike : FnScope ["_law_found", "_law_due", "_law_same_kind", "_law_k"] ["_law_found", "_law_due"] (defScope s_law_alike) := ⟨rfl, rfl, rfl, by decide +kernel, rfl, by decide +kernel, by decide +kernel⟩
abbrev s_law : Stmt := top 22
theorem sc_law : FnScope ["_law_script", "_law_row_here", "_law_turn", "_law_plans", "_law_rows", "_law_keys", "_law_cells", "_law_mine", "_law_text", "_law_again", "_law_back", "_law_k", "_law_one", "_law_cell"] ["_law_script"] (defScope s_law) := ⟨rfl, rfl, rfl, by decide +kernel, rfl, by decide +kernel, by decide +kernel⟩
structure Fns where
  f_law_row : Addr
  fd_law_row : FuncData
  f_law_taken : Addr
  fd_law_taken : FuncData
  f_law_plan : Addr
  fd_law_plan : FuncData
  f_number_of : Addr
  fd_number_of : FuncData
  f_is_number : Addr
  fd_is_number : FuncData
  f_need_plan : Addr
  fd_need_plan : FuncData
  f_read : Addr
  fd_read : FuncData
  f_written : Addr
  fd_written : FuncData
  f_law_alike : Addr
  fd_law_alike : FuncData
  f_law : Addr
  fd_law : FuncData
structure Txt (K : Kf) (mg : Str → Option Value) (a : Ad) (n : Fns) : Prop where
  F_law_row : Fun K "_law_row" "_law_row" s_law_row n.f_law_row n.fd_law_row
  b_law_row : Binds K n.fd_law_row ["_law_script"] []
  g_law_row : mg "_law_row" = some (.ref n.f_law_row)
  F_law_taken : Fun K "_law_taken" "_law_taken" s_law_taken n.f_law_taken n.fd_law_taken
  b_law_taken : Binds K n.fd_law_taken ["_law_row_here", "_law_many"] []
  g_law_taken : mg "_law_taken" = some (.ref n.f_law_taken)
  F_law_plan : Fun K "_law_plan" "_law_plan" s_law_plan n.f_law_plan n.fd_law_plan
  b_law_plan : Binds K n.fd_law_plan ["_law_row_here", "_law_keys", "_law_wide", "_law_deep"] []
  g_law_plan : mg "_law_plan" = some (.ref n.f_law_plan)
  F_number_of : Fun K "number_of" "number_of" s_number_of n.f_number_of n.fd_number_of
  b_number_of : Binds K n.fd_number_of ["word", "row"] []
  g_number_of : mg "number_of" = some (.ref n.f_number_of)
  F_is_number : Fun K "is_number" "is_number" s_is_number n.f_is_number n.fd_is_number
  b_is_number : Binds K n.fd_is_number ["part", "low", "high"] []
  g_is_number : mg "is_number" = some (.ref n.f_is_number)
  F_need_plan : Fun K "need_plan" "need_plan" s_need_plan n.f_need_plan n.fd_need_plan
  b_need_plan : Binds K n.fd_need_plan ["plan"] []
  g_need_plan : mg "need_plan" = some (.ref n.f_need_plan)
  F_read : Fun K "read" "read" s_read n.f_read n.fd_read
  b_read : Binds K n.fd_read ["text"] []
  g_read : mg "read" = some (.ref n.f_read)
  F_written : Fun K "written" "written" s_written n.f_written n.fd_written
  b_written : Binds K n.fd_written ["plans"] []
  g_written : mg "written" = some (.ref n.f_written)
  F_law_alike : Fun K "_law_alike" "_law_alike" s_law_alike n.f_law_alike n.fd_law_alike
  b_law_alike : Binds K n.fd_law_alike ["_law_found", "_law_due"] []
  g_law_alike : mg "_law_alike" = some (.ref n.f_law_alike)
  F_law : Fun K "law" "law" s_law n.f_law n.fd_law
  b_law : Binds K n.fd_law ["_law_script"] []
  g_law : mg "law" = some (.ref n.f_law)
  z_all : mg "all" = none
  z_any : mg "any" = none
  z_bool : mg "bool" = none
  z_enumerate : mg "enumerate" = none
  z_int : mg "int" = none
  z_isinstance : mg "isinstance" = none
  k_FIGURES : ∃ t, mg "FIGURES" = some (.str "0123456789" t)
  k_MOST_DEEP : ∃ t, mg "MOST_DEEP" = some (.int 5 t)
  k_MOST_FIGURES : ∃ t, mg "MOST_FIGURES" = some (.int 2 t)
  k_MOST_KEYS : ∃ t, mg "MOST_KEYS" = some (.int 16 t)
  k_MOST_WIDE : ∃ t, mg "MOST_WIDE" = some (.int 32 t)
  k_PLAN : ∃ t, mg "PLAN" = some (.str "plan" t)
  z_len : mg "len" = none
  z_list : mg "list" = none
  z_range : mg "range" = none
  z_str : mg "str" = none
  z_tuple : mg "tuple" = none
section
variable {P : Program} {w : World} {K : Kf} {mg : Str → Option Value} {base : Heap} {a : Ad} {n : Fns}
set_option maxHeartbeats 4000000 in
theorem d_law_row  (T : Txt K mg a n)  (cdv : Value) (A : Around) (outer : List Env) (s : Shared) (H : Hp) (E : XK) (hr : Room 0 (A.deeper (envOfC "_law_row" (defScope s_law_row) s.heap.objs.size n.f_law_row cdv))) : MB (cxOf (L2.CX P w) P w K mg base ["_law_script", "_law_mixed", "_law_cell"] "_law_row" (defScope s_law_row) n.f_law_row cdv A outer s H E) (WB E) (defBody s_law_row) (t_law_row a) := by
  have tk := takes_of (X := cxOf (L2.CX P w) P w K mg base ["_law_script", "_law_mixed", "_law_cell"] "_law_row" (defScope s_law_row) n.f_law_row cdv A outer s H E) rfl rfl rfl rfl
  exact mb_cons (ms_set (i := 1) sc_law_row.nd rfl (Or.inl rfl) (mv_int)) (
  mb_cons (ms_forget [2] (ms_for (ws := [2]) (passes_of rfl) rfl (mi_seq (mv_var (pv 0))) (mg_name (pg_name (i := 2) sc_law_row.nd rfl (Or.inl rfl))) (
   mb_forget [2] (mb_one (ms_set (i := 1) sc_law_row.nd rfl (Or.inl rfl) (mv (me_mod (mv (me_add (mv (me_add (mv (me_mul (mv_var (pv 1)) (mv_int))) (mv_var (pv 2)))) (mv_int))) (mv_int)))))))) (
  mb_one (ms_ret (me_lst (ma_cons (mv_var (pv 0)) (ma_cons (mv_int) (ma_cons (mv_int) (ma_cons (mv_var (pv 1)) (ma_nil)))))))))
set_option maxHeartbeats 4000000 in
theorem d_law_taken  (T : Txt K mg a n)  (cdv : Value) (A : Around) (outer : List Env) (s : Shared) (H : Hp) (E : XK) (hr : Room 0 (A.deeper (envOfC "_law_taken" (defScope s_law_taken) s.heap.objs.size n.f_law_taken cdv))) : MB (cxOf (L2.CX P w) P w K mg base ["_law_row_here", "_law_many", "_law_found", "_law_cell"] "_law_taken" (defScope s_law_taken) n.f_law_taken cdv A outer s H E) (WB E) (defBody s_law_taken) (t_law_taken a) := by
  have tk := takes_of (X := cxOf (L2.CX P w) P w K mg base ["_law_row_here", "_law_many", "_law_found", "_law_cell"] "_law_taken" (defScope s_law_taken) n.f_law_taken cdv A outer s H E) rfl rfl rfl rfl
  exact mb_cons (ms_forget [2] (ms_if (mt_cmp op_gt (has_int0 fun _ _ _ => .bl _) (mv (me_ix (hu_of hr) (mv_var (pv 0)) (mv_int))) (mv_int) (nomark _)) (mb_cons (ms_set (i := 2) sc_law_taken.nd rfl (Or.inl rfl) (mv (me_mod (mv (me_ix (hu_of hr) (mv_var (pv 0)) (mv_int))) (mv_var (pv 1))))) (
  mb_cons (ms_setI (hu_of hr) (mv_var (pv 0)) (mv_int) (mv (me_fdiv (mv (me_ix (hu_of hr) (mv_var (pv 0)) (mv_int))) (mv_var (pv 1))))) (
  mb_one (ms_ret (me (mv_var (pv 2))))))) (mb_nil))) (
  mb_cons (ms_forget [3] (ms_if (mt_cmp op_lt (has_int0 fun _ _ _ => .bl _) (mv (me_ix (hu_of hr) (mv_var (pv 0)) (mv_int))) (mv (me_callB call_lenA has_len (by rfl) T.z_len (by decide +kernel) (ma_cons (mv (me_ix (hu_of hr) (mv_var (pv 0)) (mv_int))) (ma_nil)))) (nomark _)) (mb_cons (ms_set (i := 3) sc_law_taken.nd rfl (Or.inl rfl) (mv (me_ix (hu_of hr) (mv (me_ix (hu_of hr) (mv_var (pv 0)) (mv_int))) (mv (me_ix (hu_of hr) (mv_var (pv 0)) (mv_int)))))) (
  mb_cons (ms_setI (hu_of hr) (mv_var (pv 0)) (mv_int) (mv (me_add (mv (me_ix (hu_of hr) (mv_var (pv 0)) (mv_int))) (mv_int)))) (
  mb_cons (ms_if (mt_cmp op_ge (has_int0 fun _ _ _ => .bl _) (mv_var (pv 3)) (mv (me_pow (mv_int) (mv_int))) (nomark _)) (mb_one (ms_setI (hu_of hr) (mv_var (pv 0)) (mv_int) (mv (me_fdiv (mv_var (pv 3)) (mv_var (pv 1)))))) (mb_nil)) (
  mb_one (ms_ret (me_mod (mv_var (pv 3)) (mv_var (pv 1)))))))) (mb_nil))) (
  mb_cons (ms_setI (hu_of hr) (mv_var (pv 0)) (mv_int) (mv (me_mod (mv (me_add (mv (me_mul (mv (me_ix (hu_of hr) (mv_var (pv 0)) (mv_int))) (mv_int))) (mv_int))) (mv_int)))) (
  mb_one (ms_ret (me_mod (mv (me_fdiv (mv (me_ix (hu_of hr) (mv_var (pv 0)) (mv_int))) (mv_int))) (mv_var (pv 1)))))))
set_option maxHeartbeats 4000000 in
theorem d_law_plan  (T : Txt K mg a n) (G_law_taken : FM P w K mg base 1 n.f_law_taken n.fd_law_taken ["_law_row_here", "_law_many"] (sp_law_taken a)) (cdv : Value) (A : Around) (outer : List Env) (s : Shared) (H : Hp) (E : XK) (hr : Room 1 (A.deeper (envOfC "_law_plan" (defScope s_law_plan) s.heap.objs.size n.f_law_plan cdv))) : MB (cxOf (L2.CX P w) P w K mg base ["_law_row_here", "_law_keys", "_law_wide", "_law_deep", "_law_many", "_law_cells", "_law_rows", "_law_k", "_law_key"] "_law_plan" (defScope s_law_plan) n.f_law_plan cdv A outer s H E) (WB E) (defBody s_law_plan) (t_law_plan a) := by
  have tk := takes_of (X := cxOf (L2.CX P w) P w K mg base ["_law_row_here", "_law_keys", "_law_wide", "_law_deep", "_law_many", "_law_cells", "_law_rows", "_law_k", "_law_key"] "_law_plan" (defScope s_law_plan) n.f_law_plan cdv A outer s H E) rfl rfl rfl rfl
  exact mb_cons (ms_asg (ws := [4, 5, 6]) (mv_tup (ma_cons (mv (me_add (mv_int) (mv (me_call G_law_taken (hr.mono (by first | decide | omega)) (by rfl) T.g_law_taken T.F_law_taken.kp T.b_law_taken .nil (fun _ _ => .nil) tk (ma_cons (mv_var (pv 0)) (ma_cons (mv_var (pv 1)) (ma_nil))))))) (ma_cons (mv (me_add (mv_int) (mv (me_call G_law_taken (hr.mono (by first | decide | omega)) (by rfl) T.g_law_taken T.F_law_taken.kp T.b_law_taken .nil (fun _ _ => .nil) tk (ma_cons (mv_var (pv 0)) (ma_cons (mv_var (pv 2)) (ma_nil))))))) (ma_cons (mv_tup (ma_nil)) (ma_nil))))) (mg_tup rfl (mgs_cons (mg_name (pg_name (i := 4) sc_law_plan.nd rfl (Or.inl rfl))) (mgs_cons (mg_name (pg_name (i := 5) sc_law_plan.nd rfl (Or.inr rfl))) (mgs_cons (mg_name (pg_name (i := 6) sc_law_plan.nd rfl (Or.inl rfl))) (mgs_nil)))))) (
  mb_cons (ms_forget [7] (ms_for (ws := [7]) (passes_of rfl) rfl (mi_range1 (by rfl) T.z_range (ma_cons (mv (me_add (mv_int) (mv (me_call G_law_taken (hr.mono (by first | decide | omega)) (by rfl) T.g_law_taken T.F_law_taken.kp T.b_law_taken .nil (fun _ _ => .nil) tk (ma_cons (mv_var (pv 0)) (ma_cons (mv_var (pv 3)) (ma_nil))))))) (ma_nil))) (mg_name (pg_name (i := 7) sc_law_plan.nd rfl (Or.inl rfl))) (
   mb_forget [7] (mb_one (ms_set (i := 6) sc_law_plan.nd rfl (Or.inl rfl) (mv (me_add (mv_var (pv 6)) (mv_tup (ma_cons (mv (me_callT call_tuple_of has_tuple (by rfl) T.z_tuple (by decide +kernel) (ma_cons (mv (me_lc (own := [("_law_key", 8)]) rfl sc_law_plan.nd (mi_range1 (by rfl) T.z_range (ma_cons (mv_var (pv 4)) (ma_nil))) (blkOk_by (N := ["_law_row_here", "_law_keys", "_law_wide", "_law_deep", "_law_many", "_law_cells", "_law_rows", "_law_k", "_law_key"]) (sc := defScope s_law_plan) (own := [("_law_key", 8)]) (by decide +kernel)) (fun _ _ _ _ _ => mg_name (pg_name (i := 8) sc_law_plan.nd rfl (Or.inl rfl))) (fun _ _ _ _ _ => mts_nil) (fun _ _ _ _ _ => mv (me_call G_law_taken (hr.mono (by first | decide | omega)) (by rfl) T.g_law_taken T.F_law_taken.kp T.b_law_taken .nil (fun _ _ => .nil) takes0 (ma_cons (mv_var (pv 0)) (ma_cons (mv_var (pv 5)) (ma_nil))))))) (ma_nil)))) (ma_nil)))))))))) (
  mb_one (ms_ret (me (mv_tup (ma_cons (mv_var (pv 4)) (ma_cons (mv_var (pv 5)) (ma_cons (mv_var (pv 6)) (ma_nil)))))))))
set_option maxHeartbeats 4000000 in
theorem d_number_of  (T : Txt K mg a n)  (cdv : Value) (A : Around) (outer : List Env) (s : Shared) (H : Hp) (E : XK) (hr : Room 0 (A.deeper (envOfC "number_of" (defScope s_number_of) s.heap.objs.size n.f_number_of cdv))) : MB (cxOf (L2.CX P w) P w K mg base ["word", "row", "sign"] "number_of" (defScope s_number_of) n.f_number_of cdv A outer s H E) (WB E) (defBody s_number_of) (t_number_of a) := by
  have tk := takes_of (X := cxOf (L2.CX P w) P w K mg base ["word", "row", "sign"] "number_of" (defScope s_number_of) n.f_number_of cdv A outer s H E) rfl rfl rfl rfl
  exact mb_cons (ms_if (MW.mt (mw_or (mt_not (mt_chain op_le op_le (has_int0 fun _ _ _ => .bl _) (has_int0 fun _ _ _ => .bl _) (mv_int) (mv (me_callB call_lenA has_len (by rfl) T.z_len (by decide +kernel) (ma_cons (mv_var (pv 0)) (ma_nil)))) (mv_gint (by rfl) T.k_MOST_FIGURES))) (mw_or1 (mt_of (mv (me_callB (cr_any rfl) has_any (by rfl) T.z_any (by decide +kernel) (ma_cons (mv (me_lc (own := [("sign", 2)]) rfl sc_number_of.nd (mi_str (mv_var (pv 0))) (blkOk_by (N := ["word", "row", "sign"]) (sc := defScope s_number_of) (own := [("sign", 2)]) (by decide +kernel)) (fun _ _ _ _ _ => mg_name (pg_name (i := 2) sc_number_of.nd rfl (Or.inl rfl))) (fun _ _ _ _ _ => mts_nil) (fun _ _ _ _ _ => mv (me_cmp (op_notInA (hu_of hr)) has_in (mv_var (pv 2)) (mv_gstr (by rfl) T.k_FIGURES) (by rfl))))) (ma_nil)))))))) (mb_one (ms_never)) (mb_nil)) (
  mb_cons (ms_if (MW.mt (mw_and (mt_cmp (op_eqD hr.units) has_eq (mv (me_ix (hu_of hr) (mv_var (pv 0)) (mv_int))) (mv_str) (nomark _)) (mw_and1 (mt_cmp (op_neD hr.units) has_ne (mv_var (pv 0)) (mv_str) (nomark _))))) (mb_one (ms_never)) (mb_nil)) (
  mb_one (ms_ret (me_callT call_int_str has_intS (by rfl) T.z_int (by decide +kernel) (ma_cons (mv_var (pv 0)) (ma_nil))))))
set_option maxHeartbeats 4000000 in
theorem d_is_number  (T : Txt K mg a n)  (cdv : Value) (A : Around) (outer : List Env) (s : Shared) (H : Hp) (E : XK) (hr : Room 0 (A.deeper (envOfC "is_number" (defScope s_is_number) s.heap.objs.size n.f_is_number cdv))) : MB (cxOf (L2.CX P w) P w K mg base ["part", "low", "high"] "is_number" (defScope s_is_number) n.f_is_number cdv A outer s H E) (WB E) (defBody s_is_number) (t_is_number a) := by
  have tk := takes_of (X := cxOf (L2.CX P w) P w K mg base ["part", "low", "high"] "is_number" (defScope s_is_number) n.f_is_number cdv A outer s H E) rfl rfl rfl rfl
  exact mb_one (ms_ret (me (mv_and (mv_isi .int (by rfl) T.z_isinstance (by rfl) T.z_int (by decide +kernel) (mv_var (pv 0))) (mv_and (mv_notV (mv_isi .bool (by rfl) T.z_isinstance (by rfl) T.z_bool (by decide +kernel) (mv_var (pv 0)))) (mv_one (mv (me_chain op_le op_le (has_int0 fun _ _ _ => .bl _) (has_int0 fun _ _ _ => .bl _) (mv_var (pv 1)) (mv_var (pv 0)) (mv_var (pv 2)))))))))
set_option maxHeartbeats 4000000 in
theorem d_need_plan  (T : Txt K mg a n) (G_is_number : FM P w K mg base 1 n.f_is_number n.fd_is_number ["part", "low", "high"] (sp_is_number a)) (cdv : Value) (A : Around) (outer : List Env) (s : Shared) (H : Hp) (E : XK) (hr : Room 1 (A.deeper (envOfC "need_plan" (defScope s_need_plan) s.heap.objs.size n.f_need_plan cdv))) : MB (cxOf (L2.CX P w) P w K mg base ["plan", "keys", "wide", "rows", "number", "row", "cell"] "need_plan" (defScope s_need_plan) n.f_need_plan cdv A outer s H E) (WB E) (defBody s_need_plan) (t_need_plan a) := by
  have tk := takes_of (X := cxOf (L2.CX P w) P w K mg base ["plan", "keys", "wide", "rows", "number", "row", "cell"] "need_plan" (defScope s_need_plan) n.f_need_plan cdv A outer s H E) rfl rfl rfl rfl
  exact mb_cons (ms_if (MW.mt (mw_or (mt_not (mt_of (mv_isi .tuple (by rfl) T.z_isinstance (by rfl) T.z_tuple (by decide +kernel) (mv_var (pv 0))))) (mw_or1 (mt_cmp (op_neD hr.units) has_ne (mv (me_callB call_lenA has_len (by rfl) T.z_len (by decide +kernel) (ma_cons (mv_var (pv 0)) (ma_nil)))) (mv_int) (nomark _))))) (mb_one (ms_never)) (mb_nil)) (
  mb_cons (ms_asg (ws := [1, 2, 3]) (mv_var (pv 0)) (mg_tup rfl (mgs_cons (mg_name (pg_name (i := 1) sc_need_plan.nd rfl (Or.inl rfl))) (mgs_cons (mg_name (pg_name (i := 2) sc_need_plan.nd rfl (Or.inr rfl))) (mgs_cons (mg_name (pg_name (i := 3) sc_need_plan.nd rfl (Or.inl rfl))) (mgs_nil)))))) (
  mb_cons (ms_if (mt_not (mt_of (mv (me_call G_is_number (hr.mono (by first | decide | omega)) (by rfl) T.g_is_number T.F_is_number.kp T.b_is_number .nil (fun _ _ => .nil) tk (ma_cons (mv_var (pv 1)) (ma_cons (mv_int) (ma_cons (mv_gint (by rfl) T.k_MOST_KEYS) (ma_nil)))))))) (mb_one (ms_never)) (mb_nil)) (
  mb_cons (ms_if (mt_not (mt_of (mv (me_call G_is_number (hr.mono (by first | decide | omega)) (by rfl) T.g_is_number T.F_is_number.kp T.b_is_number .nil (fun _ _ => .nil) tk (ma_cons (mv_var (pv 2)) (ma_cons (mv_int) (ma_cons (mv_gint (by rfl) T.k_MOST_WIDE) (ma_nil)))))))) (mb_one (ms_never)) (mb_nil)) (
  mb_cons (ms_if (MW.mt (mw_or (mt_not (mt_of (mv_isi .tuple (by rfl) T.z_isinstance (by rfl) T.z_tuple (by decide +kernel) (mv_var (pv 3))))) (mw_or1 (mt_cmp (op_eqD hr.units) has_eq (mv_var (pv 3)) (mv_tup (ma_nil)) (nomark _))))) (mb_one (ms_never)) (mb_nil)) (
  mb_one (ms_forget [4, 5] (ms_for (ws := [4, 5]) (passes_of rfl) rfl (mi_enum (by rfl) T.z_enumerate (ma_cons (mv_var (pv 3)) (ma_nil))) (mg_tup rfl (mgs_cons (mg_name (pg_name (i := 4) sc_need_plan.nd rfl (Or.inl rfl))) (mgs_cons (mg_name (pg_name (i := 5) sc_need_plan.nd rfl (Or.inl rfl))) (mgs_nil)))) (
   mb_forget [4, 5] (mb_cons (ms_if (MW.mt (mw_or (mt_cmp (op_eqD hr.units) has_eq (mv_var (pv 4)) (mv_gint (by rfl) T.k_MOST_DEEP) (nomark _)) (mw_or (mt_not (mt_of (mv_isi .tuple (by rfl) T.z_isinstance (by rfl) T.z_tuple (by decide +kernel) (mv_var (pv 5))))) (mw_or1 (mt_cmp (op_neD hr.units) has_ne (mv (me_callB call_lenA has_len (by rfl) T.z_len (by decide +kernel) (ma_cons (mv_var (pv 5)) (ma_nil)))) (mv_var (pv 1)) (nomark _)))))) (mb_one (ms_never)) (mb_nil)) (
  mb_one (ms_if (mt_not (mt_of (mv (me_callB (cr_all rfl) has_all (by rfl) T.z_all (by decide +kernel) (ma_cons (mv (me_lc (own := [("cell", 6)]) rfl sc_need_plan.nd (mi_seq (mv_var (pv 5))) (blkOk_by (N := ["plan", "keys", "wide", "rows", "number", "row", "cell"]) (sc := defScope s_need_plan) (own := [("cell", 6)]) (by decide +kernel)) (fun _ _ _ _ _ => mg_name (pg_name (i := 6) sc_need_plan.nd rfl (Or.inl rfl))) (fun _ _ _ _ _ => mts_nil) (fun _ _ _ _ _ => mv (me_call G_is_number (hr.mono (by first | decide | omega)) (by rfl) T.g_is_number T.F_is_number.kp T.b_is_number .nil (fun _ _ => .nil) takes0 (ma_cons (mv_var (pv 6)) (ma_cons (mv_int) (ma_cons (mv (me_sub (mv_var (pv 2)) (mv_int))) (ma_nil)))))))) (ma_nil)))))) (mb_one (ms_never)) (mb_nil))))))))))))
set_option maxHeartbeats 4000000 in
theorem d_read  (T : Txt K mg a n) (G_number_of : FM P w K mg base 1 n.f_number_of n.fd_number_of ["word", "row"] (sp_number_of a)) (G_need_plan : FM P w K mg base 2 n.f_need_plan n.fd_need_plan ["plan"] (sp_need_plan a)) (cdv : Value) (A : Around) (outer : List Env) (s : Shared) (H : Hp) (E : XK) (hr : Room 2 (A.deeper (envOfC "read" (defScope s_read) s.heap.objs.size n.f_read cdv))) : MB (cxOf (L2.CX P w) P w K mg base ["text", "found", "row", "line", "words", "keys", "wide", "rows", "plan", "word"] "read" (defScope s_read) n.f_read cdv A outer s H E) (WB E) (defBody s_read) (t_read a) := by
  have tk := takes_of (X := cxOf (L2.CX P w) P w K mg base ["text", "found", "row", "line", "words", "keys", "wide", "rows", "plan", "word"] "read" (defScope s_read) n.f_read cdv A outer s H E) rfl rfl rfl rfl
  exact mb_cons (ms_set (i := 1) sc_read.nd rfl (Or.inl rfl) (mv (me_cell (me_lst (ma_nil))))) (
  mb_cons (ms_forget [2, 3, 4, 5, 6, 7] (ms_for (ws := [2, 3]) (passes_of rfl) rfl (mi_enum (by rfl) T.z_enumerate (ma_cons (mv (me_ite (mt_cmp (op_neD hr.units) has_ne (mv_var (pv 0)) (mv_str) (nomark _)) (me_split (mv_var (pv 0)) (mv_str)) (me_lst (ma_nil)))) (ma_nil))) (mg_tup rfl (mgs_cons (mg_name (pg_name (i := 2) sc_read.nd rfl (Or.inr rfl))) (mgs_cons (mg_name (pg_name (i := 3) sc_read.nd rfl (Or.inl rfl))) (mgs_nil)))) (
   mb_forget [2, 3, 4, 5, 6, 7] (mb_cons (ms_set (i := 4) sc_read.nd rfl (Or.inl rfl) (mv (me_split (mv_var (pv 3)) (mv_str)))) (
  mb_one (ms_forget [5, 6, 7] (ms_if (mt_cmp (op_eqD hr.units) has_eq (mv (me_ix (hu_of hr) (mv_var (pv 4)) (mv_int))) (mv_gstr (by rfl) T.k_PLAN) (nomark _)) (mb_cons (ms_if (mt_cmp (op_neD hr.units) has_ne (mv (me_callB call_lenA has_len (by rfl) T.z_len (by decide +kernel) (ma_cons (mv_var (pv 4)) (ma_nil)))) (mv_int) (nomark _)) (mb_one (ms_never)) (mb_nil)) (
  mb_one (ms_expr (me_append (mv_var (pv 1)) (mv_tup (ma_cons (mv (me_call G_number_of (hr.mono (by first | decide | omega)) (by rfl) T.g_number_of T.F_number_of.kp T.b_number_of .nil (fun _ _ => .nil) tk (ma_cons (mv (me_ix (hu_of hr) (mv_var (pv 4)) (mv_int))) (ma_cons (mv_var (pv 2)) (ma_nil))))) (ma_cons (mv (me_call G_number_of (hr.mono (by first | decide | omega)) (by rfl) T.g_number_of T.F_number_of.kp T.b_number_of .nil (fun _ _ => .nil) tk (ma_cons (mv (me_ix (hu_of hr) (mv_var (pv 4)) (mv_int))) (ma_cons (mv_var (pv 2)) (ma_nil))))) (ma_cons (mv_tup (ma_nil)) (ma_nil))))))))) (mb_one (ms_forget [5, 6, 7] (ms_if (mt_cmp (op_eqD hr.units) has_eq (mv_var (pv 1)) (mv (me_lst (ma_nil))) (nomark _)) (mb_one (ms_never)) (mb_cons (ms_asg (ws := [5, 6, 7]) (mv (me_ix (hu_of hr) (mv_var (pv 1)) (mv (me_neg (mv_int))))) (mg_tup rfl (mgs_cons (mg_name (pg_name (i := 5) sc_read.nd rfl (Or.inl rfl))) (mgs_cons (mg_name (pg_name (i := 6) sc_read.nd rfl (Or.inl rfl))) (mgs_cons (mg_name (pg_name (i := 7) sc_read.nd rfl (Or.inl rfl))) (mgs_nil)))))) (
  mb_one (ms_setI (hu_of hr) (mv_var (pv 1)) (mv (me_neg (mv_int))) (mv_tup (ma_cons (mv_var (pv 5)) (ma_cons (mv_var (pv 6)) (ma_cons (mv (me_add (mv_var (pv 7)) (mv_tup (ma_cons (mv (me_callT call_tuple_of has_tuple (by rfl) T.z_tuple (by decide +kernel) (ma_cons (mv (me_lc (own := [("word", 9)]) rfl sc_read.nd (mi_seq (mv_var (pv 4))) (blkOk_by (N := ["text", "found", "row", "line", "words", "keys", "wide", "rows", "plan", "word"]) (sc := defScope s_read) (own := [("word", 9)]) (by decide +kernel)) (fun _ _ _ _ _ => mg_name (pg_name (i := 9) sc_read.nd rfl (Or.inl rfl))) (fun _ _ _ _ _ => mts_nil) (fun _ _ _ _ _ => mv (me_call G_number_of (hr.mono (by first | decide | omega)) (by rfl) T.g_number_of T.F_number_of.kp T.b_number_of .nil (fun _ _ => .nil) takes0 (ma_cons (mv_var (pv 9)) (ma_cons (mv_var (pv 2)) (ma_nil))))))) (ma_nil)))) (ma_nil))))) (ma_nil)))))))))))))))))) (
  mb_cons (ms_forget [8] (ms_for (ws := [8]) (passes_of rfl) rfl (mi_seq (mv_var (pv 1))) (mg_name (pg_name (i := 8) sc_read.nd rfl (Or.inl rfl))) (
   mb_forget [8] (mb_one (ms_expr (me_call G_need_plan (hr.mono (by first | decide | omega)) (by rfl) T.g_need_plan T.F_need_plan.kp T.b_need_plan .nil (fun _ _ => .nil) tk (ma_cons (mv_var (pv 8)) (ma_nil)))))))) (
  mb_one (ms_ret (me_rel (mv_var (pv 1)))))))
set_option maxHeartbeats 4000000 in
theorem d_written  (T : Txt K mg a n) (G_need_plan : FM P w K mg base 2 n.f_need_plan n.fd_need_plan ["plan"] (sp_need_plan a)) (cdv : Value) (A : Around) (outer : List Env) (s : Shared) (H : Hp) (E : XK) (hr : Room 2 (A.deeper (envOfC "written" (defScope s_written) s.heap.objs.size n.f_written cdv))) : MB (cxOf (L2.CX P w) P w K mg base ["plans", "rows", "plan", "row", "cell"] "written" (defScope s_written) n.f_written cdv A outer s H E) (WB E) (defBody s_written) (t_written a) := by
  have tk := takes_of (X := cxOf (L2.CX P w) P w K mg base ["plans", "rows", "plan", "row", "cell"] "written" (defScope s_written) n.f_written cdv A outer s H E) rfl rfl rfl rfl
  exact mb_cons (ms_set (i := 1) sc_written.nd rfl (Or.inl rfl) (mv (me_cell (me_lst (ma_nil))))) (
  mb_cons (ms_forget [2] (ms_for (ws := [2]) (passes_of rfl) rfl (mi_seq (mv_var (pv 0))) (mg_name (pg_name (i := 2) sc_written.nd rfl (Or.inl rfl))) (
   mb_forget [2] (mb_cons (ms_expr (me_call G_need_plan (hr.mono (by first | decide | omega)) (by rfl) T.g_need_plan T.F_need_plan.kp T.b_need_plan .nil (fun _ _ => .nil) tk (ma_cons (mv_var (pv 2)) (ma_nil)))) (
  mb_cons (ms_expr (me_append (mv_var (pv 1)) (mv (me_add (mv (me_add (mv (me_add (mv (me_add (mv_gstr (by rfl) T.k_PLAN) (mv_str))) (mv (me_callT call_str_int has_strI (by rfl) T.z_str (by decide +kernel) (ma_cons (mv (me_ix (hu_of hr) (mv_var (pv 2)) (mv_int))) (ma_nil)))))) (mv_str))) (mv (me_callT call_str_int has_strI (by rfl) T.z_str (by decide +kernel) (ma_cons (mv (me_ix (hu_of hr) (mv_var (pv 2)) (mv_int))) (ma_nil)))))))) (
  mb_one (ms_expr (me_extend (mv_var (pv 1)) (mv (me_lc (own := [("row", 3)]) rfl sc_written.nd (mi_seq (mv (me_ix (hu_of hr) (mv_var (pv 2)) (mv_int)))) (blkOk_by (N := ["plans", "rows", "plan", "row", "cell"]) (sc := defScope s_written) (own := [("row", 3)]) (by decide +kernel)) (fun _ _ _ _ _ => mg_name (pg_name (i := 3) sc_written.nd rfl (Or.inl rfl))) (fun _ _ _ _ _ => mts_nil) (fun _ _ _ _ _ => mv (me_join (mv_str) (mv (me_lc (own := [("cell", 4)]) rfl sc_written.nd (mi_seq (mv_var (pv 3))) (blkOk_by (own := [("cell", 4)]) (by kernel_rfl)) (fun _ _ _ _ _ => mg_name (pg_name (i := 4) sc_written.nd rfl (Or.inl rfl))) (fun _ _ _ _ _ => mts_nil) (fun _ _ _ _ _ => mv (me_callT call_str_int has_strI (by rfl) T.z_str (by decide +kernel) (ma_cons (mv_var (pv 4)) (ma_nil)))))))))))))))))) (
  mb_one (ms_ret (me_join (mv_str) (mv_var (pv 1))))))
set_option maxHeartbeats 4000000 in
theorem d_law_alike (k : Nat) (T : Txt K mg a n) (G_law_alike : FM P w K mg base k n.f_law_alike n.fd_law_alike ["_law_found", "_law_due"] (sp_law_alike a k)) (cdv : Value) (A : Around) (outer : List Env) (s : Shared) (H : Hp) (E : XK) (hr : Room k (A.deeper (envOfC "_law_alike" (defScope s_law_alike) s.heap.objs.size n.f_law_alike cdv))) : MB (cxOf (L2.CX P w) P w K mg base ["_law_found", "_law_due", "_law_same_kind", "_law_k"] "_law_alike" (defScope s_law_alike) n.f_law_alike cdv A outer s H E) (WB E) (defBody s_law_alike) (t_law_alike a k) := by
  have tk := takes_of (X := cxOf (L2.CX P w) P w K mg base ["_law_found", "_law_due", "_law_same_kind", "_law_k"] "_law_alike" (defScope s_law_alike) n.f_law_alike cdv A outer s H E) rfl rfl rfl rfl
  exact mb_cons (ms_if (mt_of (mv_isi2 .tuple .list (by rfl) T.z_isinstance (by rfl) T.z_tuple (by decide +kernel) (by rfl) T.z_list (by decide +kernel) (mv_var (pv 1)))) (mb_cons (ms_if (MW.mt (mw_or (mt_cmp (op_neD hr.units) has_ne (mv_isi .tuple (by rfl) T.z_isinstance (by rfl) T.z_tuple (by decide +kernel) (mv_var (pv 0))) (mv_isi .tuple (by rfl) T.z_isinstance (by rfl) T.z_tuple (by decide +kernel) (mv_var (pv 1))) (nomark _)) (mw_or1 (mt_not (mt_of (mv_isi2 .tuple .list (by rfl) T.z_isinstance (by rfl) T.z_tuple (by decide +kernel) (by rfl) T.z_list (by decide +kernel) (mv_var (pv 0)))))))) (mb_one (ms_ret (me (mv_bl)))) (mb_nil)) (
  mb_cons (ms_if (mt_cmp (op_neD hr.units) has_ne (mv (me_callB call_lenA has_len (by rfl) T.z_len (by decide +kernel) (ma_cons (mv_var (pv 0)) (ma_nil)))) (mv (me_callB call_lenA has_len (by rfl) T.z_len (by decide +kernel) (ma_cons (mv_var (pv 1)) (ma_nil)))) (nomark _)) (mb_one (ms_ret (me (mv_bl)))) (mb_nil)) (
  mb_one (ms_ret (me_cmp (op_eqD hr.units) has_eq (mv (me_lc (own := [("_law_k", 3)]) rfl sc_law_alike.nd (mi_range1 (by rfl) T.z_range (ma_cons (mv (me_callB call_lenA has_len (by rfl) T.z_len (by decide +kernel) (ma_cons (mv_var (pv 1)) (ma_nil)))) (ma_nil))) (blkOk_by (N := ["_law_found", "_law_due", "_law_same_kind", "_law_k"]) (sc := defScope s_law_alike) (own := [("_law_k", 3)]) (by decide +kernel)) (fun _ _ _ _ _ => mg_name (pg_name (i := 3) sc_law_alike.nd rfl (Or.inl rfl))) (fun _ _ _ _ _ => mts_one (mt_not (mt_of (mv (me_call G_law_alike (hr.mono (by first | decide | omega)) (by rfl) T.g_law_alike T.F_law_alike.kp T.b_law_alike .nil (fun _ _ => .nil) takes0 (ma_cons (mv (me_ix (hu_of hr) (mv_var (pv 0)) (mv_var (pv 3)))) (ma_cons (mv (me_ix (hu_of hr) (mv_var (pv 1)) (mv_var (pv 3)))) (ma_nil)))))))) (fun _ _ _ _ _ => mv_var (pv 3)))) (mv (me_lst (ma_nil))) (nomark _)))))) (mb_nil)) (
  mb_cons (ms_if (MW.mt (mw_or (mt_cmp op_isN (has_isN (p := id)) (mv_var (pv 1)) (mv_non) (nomark _)) (mw_or1 (mt_cmp op_isN (has_isN (p := id)) (mv_var (pv 0)) (mv_non) (nomark _))))) (mb_one (ms_ret (me (mv_and (mv (me_cmp op_isN (has_isN (p := id)) (mv_var (pv 1)) (mv_non) (nomark _))) (mv_one (mv (me_cmp op_isN (has_isN (p := id)) (mv_var (pv 0)) (mv_non) (nomark _)))))))) (mb_nil)) (
  mb_cons (ms_set (i := 2) sc_law_alike.nd rfl (Or.inl rfl) (mv (me_cmp (op_eqD hr.units) has_eq (mv_isi .str (by rfl) T.z_isinstance (by rfl) T.z_str (by decide +kernel) (mv_var (pv 1))) (mv_isi .str (by rfl) T.z_isinstance (by rfl) T.z_str (by decide +kernel) (mv_var (pv 0))) (nomark _)))) (
  mb_one (ms_ret (me (mv_and (mv_var (pv 2)) (mv_and (mv (me_cmp (op_eqD hr.units) has_eq (mv_isi .bool (by rfl) T.z_isinstance (by rfl) T.z_bool (by decide +kernel) (mv_var (pv 1))) (mv_isi .bool (by rfl) T.z_isinstance (by rfl) T.z_bool (by decide +kernel) (mv_var (pv 0))) (nomark _))) (mv_one (mv (me_cmp (op_eqD hr.units) has_eq (mv_var (pv 0)) (mv_var (pv 1)) (nomark _)))))))))))
set_option maxHeartbeats 4000000 in
theorem d_law  (T : Txt K mg a n) (G_law_row : FM P w K mg base 1 n.f_law_row n.fd_law_row ["_law_script"] (sp_law_row a)) (G_law_taken : FM P w K mg base 1 n.f_law_taken n.fd_law_taken ["_law_row_here", "_law_many"] (sp_law_taken a)) (G_law_plan : FM P w K mg base 2 n.f_law_plan n.fd_law_plan ["_law_row_here", "_law_keys", "_law_wide", "_law_deep"] (sp_law_plan a)) (G_read : FM P w K mg base 3 n.f_read n.fd_read ["text"] (sp_read a)) (G_written : FM P w K mg base 3 n.f_written n.fd_written ["plans"] (sp_written a)) (G_law_alike : FM P w K mg base 6 n.f_law_alike n.fd_law_alike ["_law_found", "_law_due"] (sp_law_alike a 6)) (cdv : Value) (A : Around) (outer : List Env) (s : Shared) (H : Hp) (E : XK) (hr : Room 6 (A.deeper (envOfC "law" (defScope s_law) s.heap.objs.size n.f_law cdv))) : MB (cxOf (L2.CX P w) P w K mg base ["_law_script", "_law_row_here", "_law_turn", "_law_plans", "_law_rows", "_law_keys", "_law_cells", "_law_mine", "_law_text", "_law_again", "_law_back", "_law_k", "_law_one", "_law_cell"] "law" (defScope s_law) n.f_law cdv A outer s H E) (WB E) (defBody s_law) (t_law a) := by
  have tk := takes_of (X := cxOf (L2.CX P w) P w K mg base ["_law_script", "_law_row_here", "_law_turn", "_law_plans", "_law_rows", "_law_keys", "_law_cells", "_law_mine", "_law_text", "_law_again", "_law_back", "_law_k", "_law_one", "_law_cell"] "law" (defScope s_law) n.f_law cdv A outer s H E) rfl rfl rfl rfl
  exact mb_cons (ms_set (i := 1) sc_law.nd rfl (Or.inr rfl) (mv (me_cell (me_call G_law_row (hr.mono (by first | decide | omega)) (by rfl) T.g_law_row T.F_law_row.kp T.b_law_row .nil (fun _ _ => .nil) tk (ma_cons (mv_var (pv 0)) (ma_nil)))))) (
  mb_cons (ms_forget [2, 3, 4, 5, 6, 7, 8, 9, 10] (ms_for (ws := [2]) (passes_of rfl) rfl (mi_range1 (by rfl) T.z_range (ma_cons (mv_int) (ma_nil))) (mg_name (pg_name (i := 2) sc_law.nd rfl (Or.inl rfl))) (
   mb_forget [2, 3, 4, 5, 6, 7, 8, 9, 10] (mb_cons (ms_par (i := 3) (j := 4) rfl sc_law.nd rfl rfl (by decide) rfl rfl (ma_cons (mv (me_lc (own := [("_law_k", 11)]) rfl sc_law.nd (mi_range1 (by rfl) T.z_range (ma_cons (mv (me_call G_law_taken (hr.mono (by first | decide | omega)) (by rfl) T.g_law_taken T.F_law_taken.kp T.b_law_taken .nil (fun _ _ => .nil) tk (ma_cons (mv_var (pv 1)) (ma_cons (mv_int) (ma_nil))))) (ma_nil))) (blkOk_by (N := ["_law_script", "_law_row_here", "_law_turn", "_law_plans", "_law_rows", "_law_keys", "_law_cells", "_law_mine", "_law_text", "_law_again", "_law_back", "_law_k", "_law_one", "_law_cell"]) (sc := defScope s_law) (own := [("_law_k", 11)]) (by decide +kernel)) (fun _ _ _ _ _ => mg_name (pg_name (i := 11) sc_law.nd rfl (Or.inl rfl))) (fun _ _ _ _ _ => mts_nil) (fun _ _ _ _ _ => mv (me_call G_law_plan (hr.mono (by first | decide | omega)) (by rfl) T.g_law_plan T.F_law_plan.kp T.b_law_plan .nil (fun _ _ => .nil) takes0 (ma_cons (mv_var (pv 1)) (ma_cons (mv_int) (ma_cons (mv_int) (ma_cons (mv_int) (ma_nil))))))))) (ma_cons (mv (me_cell (me_lst (ma_nil)))) (ma_nil))) (by rfl)) (
  mb_cons (ms_forget [5, 6, 7] (ms_for (ws := [5, 6, 7]) (passes_of rfl) rfl (mi_seq (mv_var (pv 3))) (mg_tup rfl (mgs_cons (mg_name (pg_name (i := 5) sc_law.nd rfl (Or.inl rfl))) (mgs_cons (mg_name (pg_name (i := 6) sc_law.nd rfl (Or.inl rfl))) (mgs_cons (mg_name (pg_name (i := 7) sc_law.nd rfl (Or.inl rfl))) (mgs_nil))))) (
   mb_forget [5, 6, 7] (mb_cons (ms_expr (me_append (mv_var (pv 4)) (mv (me_add (mv (me_add (mv (me_add (mv_str) (mv (me_callT call_str_int has_strI (by rfl) T.z_str (by decide +kernel) (ma_cons (mv_var (pv 5)) (ma_nil)))))) (mv_str))) (mv (me_callT call_str_int has_strI (by rfl) T.z_str (by decide +kernel) (ma_cons (mv_var (pv 6)) (ma_nil)))))))) (
  mb_one (ms_set (i := 4) sc_law.nd rfl (Or.inl rfl) (mv (me_cell (me_add (mv_var (pv 4)) (mv (me_lc (own := [("_law_one", 12)]) rfl sc_law.nd (mi_seq (mv_var (pv 7))) (blkOk_by (N := ["_law_script", "_law_row_here", "_law_turn", "_law_plans", "_law_rows", "_law_keys", "_law_cells", "_law_mine", "_law_text", "_law_again", "_law_back", "_law_k", "_law_one", "_law_cell"]) (sc := defScope s_law) (own := [("_law_one", 12)]) (by decide +kernel)) (fun _ _ _ _ _ => mg_name (pg_name (i := 12) sc_law.nd rfl (Or.inl rfl))) (fun _ _ _ _ _ => mts_nil) (fun _ _ _ _ _ => mv (me_join (mv_str) (mv (me_lc (own := [("_law_cell", 13)]) rfl sc_law.nd (mi_seq (mv_var (pv 12))) (blkOk_by (own := [("_law_cell", 13)]) (by kernel_rfl)) (fun _ _ _ _ _ => mg_name (pg_name (i := 13) sc_law.nd rfl (Or.inl rfl))) (fun _ _ _ _ _ => mts_nil) (fun _ _ _ _ _ => mv (me_callT call_str_int has_strI (by rfl) T.z_str (by decide +kernel) (ma_cons (mv_var (pv 13)) (ma_nil))))))))))))))))))) (
  mb_cons (ms_set (i := 8) sc_law.nd rfl (Or.inl rfl) (mv (me_join (mv_str) (mv_var (pv 4))))) (
  mb_one (ms_forget [9, 10] (ms_for (ws := [9]) (passes_of rfl) rfl (mi_range1 (by rfl) T.z_range (ma_cons (mv_int) (ma_nil))) (mg_name (pg_name (i := 9) sc_law.nd rfl (Or.inl rfl))) (
   mb_forget [9, 10] (mb_cons (ms_set (i := 10) sc_law.nd rfl (Or.inl rfl) (mv (me_cell (me_call G_read (hr.mono (by first | decide | omega)) (by rfl) T.g_read T.F_read.kp T.b_read .nil (fun _ _ => .nil) tk (ma_cons (mv_var (pv 8)) (ma_nil)))))) (
  mb_cons (ms_if (MW.mt (mw_or (mt_not (mt_of (mv (me_call G_law_alike (hr.mono (by first | decide | omega)) (by rfl) T.g_law_alike T.F_law_alike.kp T.b_law_alike .nil (fun _ _ => .nil) tk (ma_cons (mv (me_call G_written (hr.mono (by first | decide | omega)) (by rfl) T.g_written T.F_written.kp T.b_written .nil (fun _ _ => .nil) tk (ma_cons (mv_var (pv 3)) (ma_nil)))) (ma_cons (mv_var (pv 8)) (ma_nil))))))) (mw_or1 (mt_not (mt_of (mv (me_call G_law_alike (hr.mono (by first | decide | omega)) (by rfl) T.g_law_alike T.F_law_alike.kp T.b_law_alike .nil (fun _ _ => .nil) tk (ma_cons (mv_var (pv 10)) (ma_cons (mv_var (pv 3)) (ma_nil)))))))))) (mb_one (ms_ret (me (mv_bl)))) (mb_nil)) (
  mb_one (ms_expr (me_append (mv_var (pv 10)) (mv_tup (ma_nil))))))))))))))))) (
  mb_one (ms_ret (me (mv_bl)))))
end
end M3
set_option Elab.async false
set_option linter.all false
set_option maxRecDepth 100000
set_option maxHeartbeats 4000000
namespace M3
open PySem PySem.Spec PyProof.Rows L2
theorem len_law_row {a : Ad} : ∀ ds h Kn Kx, sp_law_row a ds h Kn Kx → ds.length = (["_law_script"] : List Str).length := by
  intro ds h Kn Kx q
  unfold sp_law_row at q
  repeat (first | (obtain ⟨rfl, _⟩ := q; rfl) | (obtain ⟨_, q⟩ := q))
theorem len_law_taken {a : Ad} : ∀ ds h Kn Kx, sp_law_taken a ds h Kn Kx → ds.length = (["_law_row_here", "_law_many"] : List Str).length := by
  intro ds h Kn Kx q
  unfold sp_law_taken at q
  repeat (first | (obtain ⟨rfl, _⟩ := q; rfl) | (obtain ⟨_, q⟩ := q))
theorem len_law_plan {a : Ad} : ∀ ds h Kn Kx, sp_law_plan a ds h Kn Kx → ds.length = (["_law_row_here", "_law_keys", "_law_wide", "_law_deep"] : List Str).length := by
  intro ds h Kn Kx q
  unfold sp_law_plan at q
  repeat (first | (obtain ⟨rfl, _⟩ := q; rfl) | (obtain ⟨_, q⟩ := q))
theorem len_number_of {a : Ad} : ∀ ds h Kn Kx, sp_number_of a ds h Kn Kx → ds.length = (["word", "row"] : List Str).length := by
  intro ds h Kn Kx q
  unfold sp_number_of at q
  repeat (first | (obtain ⟨rfl, _⟩ := q; rfl) | (obtain ⟨_, q⟩ := q))
theorem len_is_number {a : Ad} : ∀ ds h Kn Kx, sp_is_number a ds h Kn Kx → ds.length = (["part", "low", "high"] : List Str).length := by
  intro ds h Kn Kx q
  unfold sp_is_number at q
  repeat (first | (obtain ⟨rfl, _⟩ := q; rfl) | (obtain ⟨_, q⟩ := q))
theorem len_need_plan {a : Ad} : ∀ ds h Kn Kx, sp_need_plan a ds h Kn Kx → ds.length = (["plan"] : List Str).length := by
  intro ds h Kn Kx q
  unfold sp_need_plan at q
  repeat (first | (obtain ⟨rfl, _⟩ := q; rfl) | (obtain ⟨_, q⟩ := q))
theorem len_read {a : Ad} : ∀ ds h Kn Kx, sp_read a ds h Kn Kx → ds.length = (["text"] : List Str).length := by
  intro ds h Kn Kx q
  unfold sp_read at q
  repeat (first | (obtain ⟨rfl, _⟩ := q; rfl) | (obtain ⟨_, q⟩ := q))
theorem len_written {a : Ad} : ∀ ds h Kn Kx, sp_written a ds h Kn Kx → ds.length = (["plans"] : List Str).length := by
  intro ds h Kn Kx q
  unfold sp_written at q
  repeat (first | (obtain ⟨rfl, _⟩ := q; rfl) | (obtain ⟨_, q⟩ := q))
theorem len_law_alike {a : Ad} {k : Nat} : ∀ ds h Kn Kx, sp_law_alike a (k + 1) ds h Kn Kx → ds.length = (["_law_found", "_law_due"] : List Str).length := by
  intro ds h Kn Kx q
  unfold sp_law_alike at q
  repeat (first | (obtain ⟨rfl, _⟩ := q; rfl) | (obtain ⟨_, q⟩ := q))
theorem len_law {a : Ad} : ∀ ds h Kn Kx, sp_law a ds h Kn Kx → ds.length = (["_law_script"] : List Str).length := by
  intro ds h Kn Kx q
  unfold sp_law at q
  repeat (first | (obtain ⟨rfl, _⟩ := q; rfl) | (obtain ⟨_, q⟩ := q))
section
variable {P : Program} {w : World} {K : Kf} {mg : Str → Option Value} {base : Heap} {a : Ad} {n : Fns}
theorem ok_law_row (T : Txt K mg a n) : FM P w K mg base 1 n.f_law_row n.fd_law_row ["_law_script"] (sp_law_row a) := fm_of T.F_law_row sc_law_row len_law_row fun cdv A outer s H E hr => ⟨_, d_law_row T  cdv A outer s H E hr, fun ds h Kn Kx q => rd_law_row ds h Kn Kx q⟩
theorem ok_law_taken (T : Txt K mg a n) : FM P w K mg base 1 n.f_law_taken n.fd_law_taken ["_law_row_here", "_law_many"] (sp_law_taken a) := fm_of T.F_law_taken sc_law_taken len_law_taken fun cdv A outer s H E hr => ⟨_, d_law_taken T  cdv A outer s H E hr, fun ds h Kn Kx q => rd_law_taken ds h Kn Kx q⟩
theorem ok_law_plan (T : Txt K mg a n) : FM P w K mg base 2 n.f_law_plan n.fd_law_plan ["_law_row_here", "_law_keys", "_law_wide", "_law_deep"] (sp_law_plan a) := fm_of T.F_law_plan sc_law_plan len_law_plan fun cdv A outer s H E hr => ⟨_, d_law_plan T (ok_law_taken T) cdv A outer s H E hr, fun ds h Kn Kx q => rd_law_plan ds h Kn Kx q⟩
theorem ok_number_of (T : Txt K mg a n) : FM P w K mg base 1 n.f_number_of n.fd_number_of ["word", "row"] (sp_number_of a) := fm_of T.F_number_of sc_number_of len_number_of fun cdv A outer s H E hr => ⟨_, d_number_of T  cdv A outer s H E hr, fun ds h Kn Kx q => rd_number_of ds h Kn Kx q⟩
theorem ok_is_number (T : Txt K mg a n) : FM P w K mg base 1 n.f_is_number n.fd_is_number ["part", "low", "high"] (sp_is_number a) := fm_of T.F_is_number sc_is_number len_is_number fun cdv A outer s H E hr => ⟨_, d_is_number T  cdv A outer s H E hr, fun ds h Kn Kx q => rd_is_number ds h Kn Kx q⟩
theorem ok_need_plan (T : Txt K mg a n) : FM P w K mg base 2 n.f_need_plan n.fd_need_plan ["plan"] (sp_need_plan a) := fm_of T.F_need_plan sc_need_plan len_need_plan fun cdv A outer s H E hr => ⟨_, d_need_plan T (ok_is_number T) cdv A outer s H E hr, fun ds h Kn Kx q => rd_need_plan ds h Kn Kx q⟩
theorem ok_read (T : Txt K mg a n) : FM P w K mg base 3 n.f_read n.fd_read ["text"] (sp_read a) := fm_of T.F_read sc_read len_read fun cdv A outer s H E hr => ⟨_, d_read T (ok_number_of T) (ok_need_plan T) cdv A outer s H E hr, fun ds h Kn Kx q => rd_read ds h Kn Kx q⟩
theorem ok_written (T : Txt K mg a n) : FM P w K mg base 3 n.f_written n.fd_written ["plans"] (sp_written a) := fm_of T.F_written sc_written len_written fun cdv A outer s H E hr => ⟨_, d_written T (ok_need_plan T) cdv A outer s H E hr, fun ds h Kn Kx q => rd_written ds h Kn Kx q⟩
theorem ok_law_alike (T : Txt K mg a n) : ∀ k, FM P w K mg base k n.f_law_alike n.fd_law_alike ["_law_found", "_law_due"] (sp_law_alike a k)
  | 0 => ⟨fun _ _ _ _ ⟨_, _, _, _, _, _, _, _, q, _⟩ => q.elim, fun _ _ _ _ _ _ _ _ _ _ _ _ _ ⟨_, _, _, _, _, _, _, _, q, _⟩ => q.elim⟩
  | k + 1 => fm_of T.F_law_alike sc_law_alike len_law_alike fun cdv A outer s H E hr => ⟨_, d_law_alike k T (ok_law_alike T k) cdv A outer s H E hr, fun ds h Kn Kx q => rd_law_alike ds h Kn Kx q⟩
theorem ok_law (T : Txt K mg a n) : FM P w K mg base 7 n.f_law n.fd_law ["_law_script"] (sp_law a) := fm_of T.F_law sc_law len_law fun cdv A outer s H E hr => ⟨_, d_law T (ok_law_row T) (ok_law_taken T) (ok_law_plan T) (ok_read T) (ok_written T) (ok_law_alike T 6) cdv A outer s H E hr, fun ds h Kn Kx q => rd_law ds h Kn Kx q⟩
end
def a0 : Ad := { Filter := 0, Counter := 0, Signed := 0, Heavy := 0, Fewest := 0, Desk := 0, CellError := 0, BadPlan := 0, BadKey := 0, BadCounts := 0, BadNumber := 0, BadMeet := 0, BadDeed := 0, Halted := 0, BadText := 0 }
set_option maxHeartbeats 8000000 in
theorem all_mk {P : Program} {w : World} {K : PySem.W.Frag} {h : Heap} {mg : Str → Option Value} {fa : Addr} (X : K.In h) (G : h.Ns mainGlobals mg) (hfa : mg "law" = some (.ref fa))
    {f_law_row : Addr} {od_law_row an_law_row : Option Addr} {sl_law_row : Array (Option Value)} {oc_law_row kV_law_row dc_law_row pm_law_row cd_law_row ct_law_row : Value}
    {f_law_taken : Addr} {od_law_taken an_law_taken : Option Addr} {sl_law_taken : Array (Option Value)} {oc_law_taken kV_law_taken dc_law_taken pm_law_taken cd_law_taken ct_law_taken : Value}
    {f_law_plan : Addr} {od_law_plan an_law_plan : Option Addr} {sl_law_plan : Array (Option Value)} {oc_law_plan kV_law_plan dc_law_plan pm_law_plan cd_law_plan ct_law_plan : Value}
    {f_number_of : Addr} {od_number_of an_number_of : Option Addr} {sl_number_of : Array (Option Value)} {oc_number_of kV_number_of dc_number_of pm_number_of cd_number_of ct_number_of : Value}
    {f_is_number : Addr} {od_is_number an_is_number : Option Addr} {sl_is_number : Array (Option Value)} {oc_is_number kV_is_number dc_is_number pm_is_number cd_is_number ct_is_number : Value}
    {f_need_plan : Addr} {od_need_plan an_need_plan : Option Addr} {sl_need_plan : Array (Option Value)} {oc_need_plan kV_need_plan dc_need_plan pm_need_plan cd_need_plan ct_need_plan : Value}
    {f_read : Addr} {od_read an_read : Option Addr} {sl_read : Array (Option Value)} {oc_read kV_read dc_read pm_read cd_read ct_read : Value}
    {f_written : Addr} {od_written an_written : Option Addr} {sl_written : Array (Option Value)} {oc_written kV_written dc_written pm_written cd_written ct_written : Value}
    {f_law_alike : Addr} {od_law_alike an_law_alike : Option Addr} {sl_law_alike : Array (Option Value)} {oc_law_alike kV_law_alike dc_law_alike pm_law_alike cd_law_alike ct_law_alike : Value}
    {f_law : Addr} {od_law an_law : Option Addr} {sl_law : Array (Option Value)} {oc_law kV_law dc_law pm_law cd_law ct_law : Value}
    {t_FIGURES : _}
    {t_MOST_DEEP : _}
    {t_MOST_FIGURES : _}
    {t_MOST_KEYS : _}
    {t_MOST_WIDE : _}
    {t_PLAN : _}
    (a_law_row : PySem.W.nsIn K mainGlobals "_law_row" = some (some (.ref f_law_row)))
    (l_law_row : K.lookup f_law_row = some ⟨oc_law_row, od_law_row, .func (PySem.W.fnOf "_law_row" "_law_row" (defArgs s_law_row) (defBody s_law_row) (defScope s_law_row) .none kV_law_row dc_law_row pm_law_row an_law_row cd_law_row ct_law_row), sl_law_row⟩)
    (c_law_row : PySem.W.codeIn K cd_law_row "_law_row" = true)
    (k_law_row : PySem.W.keepIn K (.ref f_law_row) = true)
    (a_law_taken : PySem.W.nsIn K mainGlobals "_law_taken" = some (some (.ref f_law_taken)))
    (l_law_taken : K.lookup f_law_taken = some ⟨oc_law_taken, od_law_taken, .func (PySem.W.fnOf "_law_taken" "_law_taken" (defArgs s_law_taken) (defBody s_law_taken) (defScope s_law_taken) .none kV_law_taken dc_law_taken pm_law_taken an_law_taken cd_law_taken ct_law_taken), sl_law_taken⟩)
    (c_law_taken : PySem.W.codeIn K cd_law_taken "_law_taken" = true)
    (k_law_taken : PySem.W.keepIn K (.ref f_law_taken) = true)
    (a_law_plan : PySem.W.nsIn K mainGlobals "_law_plan" = some (some (.ref f_law_plan)))
    (l_law_plan : K.lookup f_law_plan = some ⟨oc_law_plan, od_law_plan, .func (PySem.W.fnOf "_law_plan" "_law_plan" (defArgs s_law_plan) (defBody s_law_plan) (defScope s_law_plan) .none kV_law_plan dc_law_plan pm_law_plan an_law_plan cd_law_plan ct_law_plan), sl_law_plan⟩)
    (c_law_plan : PySem.W.codeIn K cd_law_plan "_law_plan" = true)
    (k_law_plan : PySem.W.keepIn K (.ref f_law_plan) = true)
    (a_number_of : PySem.W.nsIn K mainGlobals "number_of" = some (some (.ref f_number_of)))
    (l_number_of : K.lookup f_number_of = some ⟨oc_number_of, od_number_of, .func (PySem.W.fnOf "number_of" "number_of" (defArgs s_number_of) (defBody s_number_of) (defScope s_number_of) .none kV_number_of dc_number_of pm_number_of an_number_of cd_number_of ct_number_of), sl_number_of⟩)
    (c_number_of : PySem.W.codeIn K cd_number_of "number_of" = true)
    (k_number_of : PySem.W.keepIn K (.ref f_number_of) = true)
    (a_is_number : PySem.W.nsIn K mainGlobals "is_number" = some (some (.ref f_is_number)))
    (l_is_number : K.lookup f_is_number = some ⟨oc_is_number, od_is_number, .func (PySem.W.fnOf "is_number" "is_number" (defArgs s_is_number) (defBody s_is_number) (defScope s_is_number) .none kV_is_number dc_is_number pm_is_number an_is_number cd_is_number ct_is_number), sl_is_number⟩)
    (c_is_number : PySem.W.codeIn K cd_is_number "is_number" = true)
    (k_is_number : PySem.W.keepIn K (.ref f_is_number) = true)
    (a_need_plan : PySem.W.nsIn K mainGlobals "need_plan" = some (some (.ref f_need_plan)))
    (l_need_plan : K.lookup f_need_plan = some ⟨oc_need_plan, od_need_plan, .func (PySem.W.fnOf "need_plan" "need_plan" (defArgs s_need_plan) (defBody s_need_plan) (defScope s_need_plan) .none kV_need_plan dc_need_plan pm_need_plan an_need_plan cd_need_plan ct_need_plan), sl_need_plan⟩)
    (c_need_plan : PySem.W.codeIn K cd_need_plan "need_plan" = true)
    (k_need_plan : PySem.W.keepIn K (.ref f_need_plan) = true)
    (a_read : PySem.W.nsIn K mainGlobals "read" = some (some (.ref f_read)))
    (l_read : K.lookup f_read = some ⟨oc_read, od_read, .func (PySem.W.fnOf "read" "read" (defArgs s_read) (defBody s_read) (defScope s_read) .none kV_read dc_read pm_read an_read cd_read ct_read), sl_read⟩)
    (c_read : PySem.W.codeIn K cd_read "read" = true)
    (k_read : PySem.W.keepIn K (.ref f_read) = true)
    (a_written : PySem.W.nsIn K mainGlobals "written" = some (some (.ref f_written)))
    (l_written : K.lookup f_written = some ⟨oc_written, od_written, .func (PySem.W.fnOf "written" "written" (defArgs s_written) (defBody s_written) (defScope s_written) .none kV_written dc_written pm_written an_written cd_written ct_written), sl_written⟩)
    (c_written : PySem.W.codeIn K cd_written "written" = true)
    (k_written : PySem.W.keepIn K (.ref f_written) = true)
    (a_law_alike : PySem.W.nsIn K mainGlobals "_law_alike" = some (some (.ref f_law_alike)))
    (l_law_alike : K.lookup f_law_alike = some ⟨oc_law_alike, od_law_alike, .func (PySem.W.fnOf "_law_alike" "_law_alike" (defArgs s_law_alike) (defBody s_law_alike) (defScope s_law_alike) .none kV_law_alike dc_law_alike pm_law_alike an_law_alike cd_law_alike ct_law_alike), sl_law_alike⟩)
    (c_law_alike : PySem.W.codeIn K cd_law_alike "_law_alike" = true)
    (k_law_alike : PySem.W.keepIn K (.ref f_law_alike) = true)
    (a_law : PySem.W.nsIn K mainGlobals "law" = some (some (.ref f_law)))
    (l_law : K.lookup f_law = some ⟨oc_law, od_law, .func (PySem.W.fnOf "law" "law" (defArgs s_law) (defBody s_law) (defScope s_law) .none kV_law dc_law pm_law an_law cd_law ct_law), sl_law⟩)
    (c_law : PySem.W.codeIn K cd_law "law" = true)
    (k_law : PySem.W.keepIn K (.ref f_law) = true)
    (z_all : PySem.W.nsIn K mainGlobals "all" = some none)
    (z_any : PySem.W.nsIn K mainGlobals "any" = some none)
    (z_bool : PySem.W.nsIn K mainGlobals "bool" = some none)
    (z_enumerate : PySem.W.nsIn K mainGlobals "enumerate" = some none)
    (z_int : PySem.W.nsIn K mainGlobals "int" = some none)
    (z_isinstance : PySem.W.nsIn K mainGlobals "isinstance" = some none)
    (kc_FIGURES : PySem.W.nsIn K mainGlobals "FIGURES" = some (some (.str "0123456789" t_FIGURES)))
    (kc_MOST_DEEP : PySem.W.nsIn K mainGlobals "MOST_DEEP" = some (some (.int 5 t_MOST_DEEP)))
    (kc_MOST_FIGURES : PySem.W.nsIn K mainGlobals "MOST_FIGURES" = some (some (.int 2 t_MOST_FIGURES)))
    (kc_MOST_KEYS : PySem.W.nsIn K mainGlobals "MOST_KEYS" = some (some (.int 16 t_MOST_KEYS)))
    (kc_MOST_WIDE : PySem.W.nsIn K mainGlobals "MOST_WIDE" = some (some (.int 32 t_MOST_WIDE)))
    (kc_PLAN : PySem.W.nsIn K mainGlobals "PLAN" = some (some (.str "plan" t_PLAN)))
    (z_len : PySem.W.nsIn K mainGlobals "len" = some none)
    (z_list : PySem.W.nsIn K mainGlobals "list" = some none)
    (z_range : PySem.W.nsIn K mainGlobals "range" = some none)
    (z_str : PySem.W.nsIn K mainGlobals "str" = some none)
    (z_tuple : PySem.W.nsIn K mainGlobals "tuple" = some none) :
    ∃ fd : FuncData, (∀ (s : Shared) (v : Value), BindsTo s fd ⟨[v], []⟩ [("_law_script", v)]) ∧ ∀ base : Heap, K.In base → base.Ns mainGlobals mg → FnOk P w K mg base (L2.CX P w) 7 fa fd ["_law_script"] (LSp K (sp_law a0)) := by
  have e := hfa.symm.trans (PySem.W.mg_of X G a_law)
  cases e
  have F_law_row := fun_mk (st := s_law_row) l_law_row c_law_row k_law_row
  have F_law_taken := fun_mk (st := s_law_taken) l_law_taken c_law_taken k_law_taken
  have F_law_plan := fun_mk (st := s_law_plan) l_law_plan c_law_plan k_law_plan
  have F_number_of := fun_mk (st := s_number_of) l_number_of c_number_of k_number_of
  have F_is_number := fun_mk (st := s_is_number) l_is_number c_is_number k_is_number
  have F_need_plan := fun_mk (st := s_need_plan) l_need_plan c_need_plan k_need_plan
  have F_read := fun_mk (st := s_read) l_read c_read k_read
  have F_written := fun_mk (st := s_written) l_written c_written k_written
  have F_law_alike := fun_mk (st := s_law_alike) l_law_alike c_law_alike k_law_alike
  have F_law := fun_mk (st := s_law) l_law c_law k_law
  have T : Txt K mg { Filter := fa, Counter := fa, Signed := fa, Heavy := fa, Fewest := fa, Desk := fa, CellError := fa, BadPlan := fa, BadKey := fa, BadCounts := fa, BadNumber := fa, BadMeet := fa, BadDeed := fa, Halted := fa, BadText := fa } { f_law_row := f_law_row, fd_law_row := PySem.W.fnOf "_law_row" "_law_row" (defArgs s_law_row) (defBody s_law_row) (defScope s_law_row) .none kV_law_row dc_law_row pm_law_row an_law_row cd_law_row ct_law_row, f_law_taken := f_law_taken, fd_law_taken := PySem.W.fnOf "_law_taken" "_law_taken" (defArgs s_law_taken) (defBody s_law_taken) (defScope s_law_taken) .none kV_law_taken dc_law_taken pm_law_taken an_law_taken cd_law_taken ct_law_taken, f_law_plan := f_law_plan, fd_law_plan := PySem.W.fnOf "_law_plan" "_law_plan" (defArgs s_law_plan) (defBody s_law_plan) (defScope s_law_plan) .none kV_law_plan dc_law_plan pm_law_plan an_law_plan cd_law_plan ct_law_plan, f_number_of := f_number_of, fd_number_of := PySem.W.fnOf "number_of" "number_of" (defArgs s_number_of) (defBody s_number_of) (defScope s_number_of) .none kV_number_of dc_number_of pm_number_of an_number_of cd_number_of ct_number_of, f_is_number := f_is_number, fd_is_number := PySem.W.fnOf "is_number" "is_number" (defArgs s_is_number) (defBody s_is_number) (defScope s_is_number) .none kV_is_number dc_is_number pm_is_number an_is_number cd_is_number ct_is_number, f_need_plan := f_need_plan, fd_need_plan := PySem.W.fnOf "need_plan" "need_plan" (defArgs s_need_plan) (defBody s_need_plan) (defScope s_need_plan) .none kV_need_plan dc_need_plan pm_need_plan an_need_plan cd_need_plan ct_need_plan, f_read := f_read, fd_read := PySem.W.fnOf "read" "read" (defArgs s_read) (defBody s_read) (defScope s_read) .none kV_read dc_read pm_read an_read cd_read ct_read, f_written := f_written, fd_written := PySem.W.fnOf "written" "written" (defArgs s_written) (defBody s_written) (defScope s_written) .none kV_written dc_written pm_written an_written cd_written ct_written, f_law_alike := f_law_alike, fd_law_alike := PySem.W.fnOf "_law_alike" "_law_alike" (defArgs s_law_alike) (defBody s_law_alike) (defScope s_law_alike) .none kV_law_alike dc_law_alike pm_law_alike an_law_alike cd_law_alike ct_law_alike, f_law := fa, fd_law := PySem.W.fnOf "law" "law" (defArgs s_law) (defBody s_law) (defScope s_law) .none kV_law dc_law pm_law an_law cd_law ct_law } :=
    { F_law_row := F_law_row,
      b_law_row := F_law_row.binds (ps := ["_law_script"]) fun _ _ _ _ _ _ us hl => match us, hl with | [_], _ => rfl,
      g_law_row := PySem.W.mg_of X G a_law_row,
      F_law_taken := F_law_taken,
      b_law_taken := F_law_taken.binds (ps := ["_law_row_here", "_law_many"]) fun _ _ _ _ _ _ us hl => match us, hl with | [_, _], _ => rfl,
      g_law_taken := PySem.W.mg_of X G a_law_taken,
      F_law_plan := F_law_plan,
      b_law_plan := F_law_plan.binds (ps := ["_law_row_here", "_law_keys", "_law_wide", "_law_deep"]) fun _ _ _ _ _ _ us hl => match us, hl with | [_, _, _, _], _ => rfl,
      g_law_plan := PySem.W.mg_of X G a_law_plan,
      F_number_of := F_number_of,
      b_number_of := F_number_of.binds (ps := ["word", "row"]) fun _ _ _ _ _ _ us hl => match us, hl with | [_, _], _ => rfl,
      g_number_of := PySem.W.mg_of X G a_number_of,
      F_is_number := F_is_number,
      b_is_number := F_is_number.binds (ps := ["part", "low", "high"]) fun _ _ _ _ _ _ us hl => match us, hl with | [_, _, _], _ => rfl,
      g_is_number := PySem.W.mg_of X G a_is_number,
      F_need_plan := F_need_plan,
      b_need_plan := F_need_plan.binds (ps := ["plan"]) fun _ _ _ _ _ _ us hl => match us, hl with | [_], _ => rfl,
      g_need_plan := PySem.W.mg_of X G a_need_plan,
      F_read := F_read,
      b_read := F_read.binds (ps := ["text"]) fun _ _ _ _ _ _ us hl => match us, hl with | [_], _ => rfl,
      g_read := PySem.W.mg_of X G a_read,
      F_written := F_written,
      b_written := F_written.binds (ps := ["plans"]) fun _ _ _ _ _ _ us hl => match us, hl with | [_], _ => rfl,
      g_written := PySem.W.mg_of X G a_written,
      F_law_alike := F_law_alike,
      b_law_alike := F_law_alike.binds (ps := ["_law_found", "_law_due"]) fun _ _ _ _ _ _ us hl => match us, hl with | [_, _], _ => rfl,
      g_law_alike := PySem.W.mg_of X G a_law_alike,
      F_law := F_law,
      b_law := F_law.binds (ps := ["_law_script"]) fun _ _ _ _ _ _ us hl => match us, hl with | [_], _ => rfl,
      g_law := PySem.W.mg_of X G a_law,
      z_all := PySem.W.mg_none_of X G z_all,
      z_any := PySem.W.mg_none_of X G z_any,
      z_bool := PySem.W.mg_none_of X G z_bool,
      z_enumerate := PySem.W.mg_none_of X G z_enumerate,
      z_int := PySem.W.mg_none_of X G z_int,
      z_isinstance := PySem.W.mg_none_of X G z_isinstance,
      k_FIGURES := ⟨_, PySem.W.mg_of X G kc_FIGURES⟩,
      k_MOST_DEEP := ⟨_, PySem.W.mg_of X G kc_MOST_DEEP⟩,
      k_MOST_FIGURES := ⟨_, PySem.W.mg_of X G kc_MOST_FIGURES⟩,
      k_MOST_KEYS := ⟨_, PySem.W.mg_of X G kc_MOST_KEYS⟩,
      k_MOST_WIDE := ⟨_, PySem.W.mg_of X G kc_MOST_WIDE⟩,
      k_PLAN := ⟨_, PySem.W.mg_of X G kc_PLAN⟩,
      z_len := PySem.W.mg_none_of X G z_len,
      z_list := PySem.W.mg_none_of X G z_list,
      z_range := PySem.W.mg_none_of X G z_range,
      z_str := PySem.W.mg_none_of X G z_str,
      z_tuple := PySem.W.mg_none_of X G z_tuple }
  exact ⟨_, fun s v => .of_eq rfl, fun base _ _ => ok_law T⟩
theorem law_sp {K : Kf} {n : Nat} {H : Hp} {a : Addr} {ns : List Int} (hl : ns.length ≤ n) (hS : SqL K H a (ns.map V.int)) (hn : n ≤ 63) : LSp K (sp_law a0) [.ref a] H (fun v _ => v = .bl true) fun _ _ _ => False :=
  ⟨fun _ => none, H, fun _ => none, [.scr ns], fun r _ => r = .d (.bl true), fun _ _ => False, ⟨nofun, fun _ _ e => ⟨e, rfl⟩, nofun, .nil⟩, .cons (.scr hS) .nil, ⟨ns, rfl, fun _ => rfl⟩, fun r h' F' H' v _ _ q e => by
    subst e
    cases q
    rfl, fun _ _ _ _ _ _ _ _ _ q => q⟩
end M3
open PySem PySem.W PyProof.Rows in
set_option maxRecDepth 100000 in
set_option maxHeartbeats 0 in
theorem PySem.Challenge.cw_fewcells_k22_written_and_read_holds : PySem.Challenge.rw_fewcells_k22_written_and_read.Holds := by
  w_on; o_law; k_head; (case hw => w_witness2)
  k_fill
  refine L2.walk_of (l := PySem.Challenge.rw_fewcells_k22_written_and_read) (n := 63) (k := 7) (x := "_law_script") (CX := fun w => L2.CX PySem.Challenge.rw_fewcells_k22_written_and_read.prog w) (sp := fun w => M3.LSp _ (M3.sp_law M3.a0)) rfl (by decide) rfl ⟨rfl, by decide, by decide⟩ (fun w h Y => PySem.W.kIn_of Y) ?F (fun _ _ a ns hl _ hS => M3.law_sp hl hS (Nat.le_refl _)) (fun _ _ _ _ _ ⟨_, _, _, _, _, _, _, _, _, _, _, _, z⟩ => z)
  case F =>
    intro w mg fa h KX G hmg
    refine' M3.all_mk KX G hmg ?a_law_row ?l_law_row ?c_law_row ?k_law_row ?a_law_taken ?l_law_taken ?c_law_taken ?k_law_taken ?a_law_plan ?l_law_plan ?c_law_plan ?k_law_plan ?a_number_of ?l_number_of ?c_number_of ?k_number_of ?a_is_number ?l_is_number ?c_is_number ?k_is_number ?a_need_plan ?l_need_plan ?c_need_plan ?k_need_plan ?a_read ?l_read ?c_read ?k_read ?a_written ?l_written ?c_written ?k_written ?a_law_alike ?l_law_alike ?c_law_alike ?k_law_alike ?a_law ?l_law ?c_law ?k_law ?z_all ?z_any ?z_bool ?z_enumerate ?z_int ?z_isinstance ?kc_FIGURES ?kc_MOST_DEEP ?kc_MOST_FIGURES ?kc_MOST_KEYS ?kc_MOST_WIDE ?kc_PLAN ?z_len ?z_list ?z_range ?z_str ?z_tuple
    (case a_law_row => k_is)
    (case l_law_row => k_is)
    (case c_law_row => k_is)
    (case k_law_row => k_is)
    (case a_law_taken => k_is)
    (case l_law_taken => k_is)
    (case c_law_taken => k_is)
    (case k_law_taken => k_is)
    (case a_law_plan => k_is)
    (case l_law_plan => k_is)
    (case c_law_plan => k_is)
    (case k_law_plan => k_is)
    (case a_number_of => k_is)
    (case l_number_of => k_is)
    (case c_number_of => k_is)
    (case k_number_of => k_is)
    (case a_is_number => k_is)
    (case l_is_number => k_is)
    (case c_is_number => k_is)
    (case k_is_number => k_is)
    (case a_need_plan => k_is)
    (case l_need_plan => k_is)
    (case c_need_plan => k_is)
    (case k_need_plan => k_is)
    (case a_read => k_is)
    (case l_read => k_is)
    (case c_read => k_is)
    (case k_read => k_is)
    (case a_written => k_is)
    (case l_written => k_is)
    (case c_written => k_is)
    (case k_written => k_is)
    (case a_law_alike => k_is)
    (case l_law_alike => k_is)
    (case c_law_alike => k_is)
    (case k_law_alike => k_is)
    (case a_law => k_is)
    (case l_law => k_is)
    (case c_law => k_is)
    (case k_law => k_is)
    (case z_all => k_is)
    (case z_any => k_is)
    (case z_bool => k_is)
    (case z_enumerate => k_is)
    (case z_int => k_is)
    (case z_isinstance => k_is)
    (case kc_FIGURES => k_is)
    (case kc_MOST_DEEP => k_is)
    (case kc_MOST_FIGURES => k_is)
    (case kc_MOST_KEYS => k_is)
    (case kc_MOST_WIDE => k_is)
    (case kc_PLAN => k_is)
    (case z_len => k_is)
    (case z_list => k_is)
    (case z_range => k_is)
    (case z_str => k_is)
    (case z_tuple => k_is)
