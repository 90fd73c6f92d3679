import PyProof.Rows.All
import Wide.All
import OpenK.AllK
import Wide.FinOn
import HandS.ForMost
import HandS.ForExc
import HandS.CallSlots
import HandS.Walk
import HandS.Zip
import HandS.Conv
import HandS.TupAny
import HandS.DictComp
import HandS.IsInst
import HandS.SortInts
import HandS.Wide
import HandS.Lambda
import KE.KNestM
import KE.KDflt
import HandS.TupMul
import HandS.WordsDict
import KE.GoesEnum
import KE.GoesMore
import KE.GoesZip
import HandS.Style
import HandS.BoundList
import HandS.MakeKwOnly
import HandS.SetFor
import HandS.Strs
import HandS.ExcInit
import HandS.ClsMeth
import HandS.FStr
import HandS.RaiseMore
import HandS.Nested
import HandS.ExcIs
import HandS.ExcField
import HandS.EndTab
import HandS.More
import PyProof.Fits
import PyProof.FitsInt
import PySem.Challenge.RW_fewcells_k05_lines
set_option Elab.async false
set_option linter.all false
set_option maxRecDepth 100000
set_option maxHeartbeats 4000000
/-! M3: data of any depth, a small heap of cells, each construct's meaning on them. -/
namespace M3
open PySem L2
abbrev Kf := PySem.W.Frag
/-- a lambda's own text -/
structure LamT where
  params : Arguments
  body : Expr
  scope : Scope
/-- the lambdas of a def: their name, the def's cells, their texts by number -/
structure LX where
  q : Str
  cells : List (Str × Addr)
  lam : Nat → LamT
/-- what a program computes with, without the heap; ref: a cell that may change; scr: the script -/
inductive D where
  | non | bl (b : Bool) | int (i : Int) | str (x : Str)
  | tup (xs : List D) | lst (xs : List D) | dct (kvs : List (Key × D)) | ref (a : Addr) | scr (ns : List Int) | lam (j : Nat) (c : LX)
/-- a cell: a list, a dict, an instance -/
inductive MO where
  | lst (xs : List D) | dct (kvs : List (Key × D)) | ins (C : Addr) (fs : List (Str × D))
abbrev MH := Addr → Option MO
def put (h : MH) (a : Addr) (m : MO) : MH := fun b => if b = a then some m else h b
def del (h : MH) (a : Addr) : MH := fun b => if b = a then none else h b
abbrev En := List (Option D)
/-- a result: data, or a list, a dict that nobody else has -/
inductive RV where
  | d (x : D) | ol (xs : List D) | od (kvs : List (Key × D))
def RV.frz : RV → D
  | .d x => x
  | .ol xs => .lst xs
  | .od kvs => .dct kvs
structure EX where
  c : Addr
  fs : List (Str × D)
abbrev XKm := EX → MH → Prop
abbrev TEm := En → MH → (RV → MH → Prop) → XKm → Prop
abbrev TVm := En → MH → (D → MH → Prop) → XKm → Prop
abbrev TTm := En → MH → (Bool → MH → Prop) → XKm → Prop
abbrev TAm := En → MH → (List D → MH → Prop) → XKm → Prop
structure Nd where
  nx : En → MH → Prop
  rt : RV → MH → Prop
  bk : En → MH → Prop := fun _ _ => False
  ct : En → MH → Prop := fun _ _ => False
  xs : EX → En → MH → Prop := fun _ _ _ => False
def Nd.xk (N : Nd) (E : En) : XKm := fun x h => N.xs x E h
abbrev TSm := Nd → En → MH → Prop

/-! ### how data lies in the heap -/
/-- a lambda's function object -/
def LamO (f c' : Addr) (dV : Value) (c : LX) (j : Nat) : HO := .ext fun h => ∃ doc pm ctv : Value, h.get? f = some (PySem.W.kdv_obj "<lambda>" c.q (c.lam j).params (.expr (c.lam j).body) (c.lam j).scope (cloFrom c.cells (c.lam j).scope.names []) dV doc pm c' ctv)
/-- a default, 0, or none -/
def DefOk (F : Hp) (a : Arguments) (dV : Value) : Prop := (a.defaults = [] ∧ dV = .none) ∨ (a.defaults ≠ [] ∧ ∃ d, dV = .ref d ∧ F d = some (.tup [.int 0]))
mutual
inductive Rep (K : Kf) (F : Hp) : D → V → Prop
  | non : Rep K F .non .non
  | bl (b : Bool) : Rep K F (.bl b) (.bl b)
  | int (i : Int) : Rep K F (.int i) (.int i)
  | str (x : Str) : Rep K F (.str x) (.str x)
  | ref (a : Addr) : Rep K F (.ref a) (.ref a)
  | tup {a : Addr} {vs : List V} {ds : List D} : SqT K F a vs → Reps K F ds vs → Rep K F (.tup ds) (.ref a)
  | lst {a : Addr} {vs : List V} {ds : List D} : F a = some (.lst vs) → Reps K F ds vs → Rep K F (.lst ds) (.ref a)
  | dct {a : Addr} {ws : List (Key × V)} {kvs : List (Key × D)} : Rd F a (.dK ws) → RepK K F kvs ws → Rep K F (.dct kvs) (.ref a)
  | scr {a : Addr} {ns : List Int} : SqL K F a (ns.map V.int) → Rep K F (.scr ns) (.ref a)
  | lam {f c' : Addr} {dV : Value} {j : Nat} {c : LX} : F f = some (LamO f c' dV c j) → F c' = some (LamX.CodeO c' c.q) → DefOk F (c.lam j).params dV → Rep K F (.lam j c) (.ref f)
inductive Reps (K : Kf) (F : Hp) : List D → List V → Prop
  | nil : Reps K F [] []
  | cons {d : D} {v : V} {ds : List D} {vs : List V} : Rep K F d v → Reps K F ds vs → Reps K F (d :: ds) (v :: vs)
inductive RepK (K : Kf) (F : Hp) : List (Key × D) → List (Key × V) → Prop
  | nil : RepK K F [] []
  | cons {k : Key} {d : D} {v : V} {ds : List (Key × D)} {vs : List (Key × V)} : Rep K F d v → RepK K F ds vs → RepK K F ((k, d) :: ds) ((k, v) :: vs)
end
inductive RepF (K : Kf) (F : Hp) : List (Str × D) → List (Str × V) → Prop
  | nil : RepF K F [] []
  | cons {k : Str} {d : D} {v : V} {ds : List (Str × D)} {vs : List (Str × V)} : Rep K F d v → RepF K F ds vs → RepF K F ((k, d) :: ds) ((k, v) :: vs)
/-- what is read in F is read in F' -/
structure Le (F F' : Hp) : Prop where
  rd : ∀ a u, Rd F a u → Rd F' a u
  ls : ∀ a vs, F a = some (.lst vs) → F' a = some (.lst vs)
  tp : ∀ a vs, F a = some (.tup vs) → F' a = some (.tup vs)
  ex : ∀ a φ, F a = some (.ext φ) → F' a = some (.ext φ)
theorem Le.refl (F : Hp) : Le F F := ⟨fun _ _ h => h, fun _ _ h => h, fun _ _ h => h, fun _ _ h => h⟩
theorem Le.trans {F F1 F2 : Hp} (a : Le F F1) (b : Le F1 F2) : Le F F2 := ⟨fun x u h => b.rd x u (a.rd x u h), fun x u h => b.ls x u (a.ls x u h), fun x u h => b.tp x u (a.tp x u h), fun x u h => b.ex x u (a.ex x u h)⟩
theorem Le.new {F : Hp} {p : Addr} {o : HO} (h : F p = none) : Le F (upd F p o) := by
  refine ⟨fun a u q => ?_, fun a vs q => ?_, fun a vs q => ?_, fun a vs q => ?_⟩
  · rcases q with q | ⟨ob, q⟩
    · exact .inl (by rw [upd_ne (ne_of_none q h)]; exact q)
    · exact .inr ⟨ob, by rw [upd_ne (ne_of_none q h)]; exact q⟩
  · rw [upd_ne (ne_of_none q h)]; exact q
  · rw [upd_ne (ne_of_none q h)]; exact q
  · rw [upd_ne (ne_of_none q h)]; exact q
theorem DefOk.mono {F F' : Hp} {a : Arguments} {dV : Value} (e : Le F F') (h : DefOk F a dV) : DefOk F' a dV := by
  rcases h with h | ⟨n, d, h1, h2⟩
  · exact .inl h
  · exact .inr ⟨n, d, h1, e.tp _ _ h2⟩
theorem Le.sqT {K : Kf} {F F' : Hp} {a : Addr} {xs : List V} (e : Le F F') (h : SqT K F a xs) : SqT K F' a xs := by
  rcases h with h | h
  · exact .inl (e.rd _ _ h)
  · exact .inr h
theorem Le.sqL {K : Kf} {F F' : Hp} {a : Addr} {xs : List V} (e : Le F F') (h : SqL K F a xs) : SqL K F' a xs := by
  rcases h with h | h
  · exact .inl (e.rd _ _ h)
  · exact .inr h
mutual
theorem Rep.mono {K : Kf} {F F' : Hp} (e : Le F F') : ∀ {d : D} {v : V}, Rep K F d v → Rep K F' d v
  | _, _, .non => .non
  | _, _, .bl b => .bl b
  | _, _, .int i => .int i
  | _, _, .str x => .str x
  | _, _, .ref a => .ref a
  | _, _, .tup h r => .tup (e.sqT h) (Reps.mono e r)
  | _, _, .lst h r => .lst (e.ls _ _ h) (Reps.mono e r)
  | _, _, .dct h r => .dct (e.rd _ _ h) (RepK.mono e r)
  | _, _, .scr h => .scr (e.sqL h)
  | _, _, .lam h h2 h3 => .lam (e.ex _ _ h) (e.ex _ _ h2) (h3.mono e)
theorem Reps.mono {K : Kf} {F F' : Hp} (e : Le F F') : ∀ {ds : List D} {vs : List V}, Reps K F ds vs → Reps K F' ds vs
  | _, _, .nil => .nil
  | _, _, .cons a r => .cons (Rep.mono e a) (Reps.mono e r)
theorem RepK.mono {K : Kf} {F F' : Hp} (e : Le F F') : ∀ {ds : List (Key × D)} {vs : List (Key × V)}, RepK K F ds vs → RepK K F' ds vs
  | _, _, .nil => .nil
  | _, _, .cons a r => .cons (Rep.mono e a) (RepK.mono e r)
end
theorem RepF.mono {K : Kf} {F F' : Hp} (e : Le F F') : ∀ {ds : List (Str × D)} {vs : List (Str × V)}, RepF K F ds vs → RepF K F' ds vs
  | _, _, .nil => .nil
  | _, _, .cons a r => .cons (Rep.mono e a) (RepF.mono e r)
section
variable {K : Kf} {F : Hp}
theorem Reps.len : ∀ {ds : List D} {vs : List V}, Reps K F ds vs → ds.length = vs.length
  | _, _, .nil => rfl
  | _, _, .cons _ r => congrArg (· + 1) r.len
theorem RepK.len : ∀ {ds : List (Key × D)} {vs : List (Key × V)}, RepK K F ds vs → ds.length = vs.length
  | _, _, .nil => rfl
  | _, _, .cons _ r => congrArg (· + 1) r.len
theorem RepF.len : ∀ {ds : List (Str × D)} {vs : List (Str × V)}, RepF K F ds vs → ds.length = vs.length
  | _, _, .nil => rfl
  | _, _, .cons _ r => congrArg (· + 1) r.len
theorem Reps.get : ∀ {ds : List D} {vs : List V} {i : Nat} {d : D}, Reps K F ds vs → ds[i]? = some d → ∃ v, vs[i]? = some v ∧ Rep K F d v
  | _, _, 0, _, .cons a _, e => by
    cases e
    exact ⟨_, rfl, a⟩
  | _, _, i + 1, d, .cons _ r, e => Reps.get (i := i) r e
theorem Reps.getV : ∀ {ds : List D} {vs : List V} {i : Nat} {v : V}, Reps K F ds vs → vs[i]? = some v → ∃ d, ds[i]? = some d ∧ Rep K F d v
  | _, _, 0, _, .cons a _, e => by
    cases e
    exact ⟨_, rfl, a⟩
  | _, _, i + 1, d, .cons _ r, e => Reps.getV (i := i) r e
theorem Reps.app : ∀ {ds es : List D} {vs ws : List V}, Reps K F ds vs → Reps K F es ws → Reps K F (ds ++ es) (vs ++ ws)
  | _, _, _, _, .nil, b => b
  | _, _, _, _, .cons a r, b => .cons a (Reps.app r b)
theorem Reps.set {d : D} {v : V} (a : Rep K F d v) : ∀ {ds : List D} {vs : List V} (i : Nat), Reps K F ds vs → Reps K F (ds.set i d) (vs.set i v)
  | _, _, _, .nil => .nil
  | _, _, 0, .cons _ r => .cons a r
  | _, _, i + 1, .cons b r => .cons b (Reps.set a i r)
theorem Reps.take : ∀ {ds : List D} {vs : List V} (n : Nat), Reps K F ds vs → Reps K F (ds.take n) (vs.take n)
  | _, _, 0, _ => .nil
  | _, _, _ + 1, .nil => .nil
  | _, _, n + 1, .cons a r => .cons a (Reps.take n r)
theorem Reps.drop : ∀ {ds : List D} {vs : List V} (n : Nat), Reps K F ds vs → Reps K F (ds.drop n) (vs.drop n)
  | _, _, 0, r => r
  | _, _, _ + 1, .nil => .nil
  | _, _, n + 1, .cons _ r => Reps.drop n r
theorem Reps.rev : ∀ {ds : List D} {vs : List V}, Reps K F ds vs → Reps K F ds.reverse vs.reverse
  | _, _, .nil => .nil
  | _, _, .cons a r => by
    rw [List.reverse_cons, List.reverse_cons]
    exact (Reps.rev r).app (.cons a .nil)
theorem Reps.erase : ∀ {ds : List D} {vs : List V} (i : Nat), Reps K F ds vs → Reps K F (ds.eraseIdx i) (vs.eraseIdx i)
  | _, _, _, .nil => .nil
  | _, _, 0, .cons _ r => r
  | _, _, i + 1, .cons a r => .cons a (Reps.erase i r)
theorem Reps.rep {ds : List D} {vs : List V} (r : Reps K F ds vs) : ∀ n, Reps K F (List.replicate n ds).flatten (List.replicate n vs).flatten
  | 0 => .nil
  | n + 1 => by
    rw [List.replicate_succ, List.replicate_succ, List.flatten_cons, List.flatten_cons]
    exact r.app (Reps.rep r n)
theorem Reps.of_ints : ∀ {ns : List Int} {vs : List V}, Reps K F (ns.map D.int) vs → vs = ns.map V.int
  | [], _, .nil => rfl
  | n :: ns, _, .cons (.int _) r => by
    show _ = V.int n :: ns.map V.int
    rw [Reps.of_ints r]
theorem Reps.ints : ∀ (ns : List Int), Reps K F (ns.map D.int) (ns.map V.int)
  | [] => .nil
  | _ :: ns => .cons (.int _) (Reps.ints ns)
theorem Reps.of_bls : ∀ {ns : List Bool} {vs : List V}, Reps K F (ns.map D.bl) vs → vs = ns.map V.bl
  | [], _, .nil => rfl
  | n :: ns, _, .cons (.bl _) r => by
    show _ = V.bl n :: ns.map V.bl
    rw [Reps.of_bls r]
theorem Reps.of_strs : ∀ {ns : List Str} {vs : List V}, Reps K F (ns.map D.str) vs → vs = ns.map V.str
  | [], _, .nil => rfl
  | n :: ns, _, .cons (.str _) r => by
    show _ = V.str n :: ns.map V.str
    rw [Reps.of_strs r]
theorem Reps.strs : ∀ (ns : List Str), Reps K F (ns.map D.str) (ns.map V.str)
  | [] => .nil
  | _ :: ns => .cons (.str _) (Reps.strs ns)
end

/-! ### a state of the mirror and a state of the layer -/
def Cel (K : Kf) (F H : Hp) (a : Addr) : MO → Prop
  | .lst xs => ∃ vs, H a = some (.lst vs) ∧ Reps K F xs vs
  | .dct kvs => ∃ ws, H a = some (.dK ws) ∧ RepK K F kvs ws
  | .ins C fs => ∃ dx ws, H a = some (.ins C dx ws) ∧ RepF K F fs ws
inductive Slots (K : Kf) (F : Hp) : En → St → Prop
  | nil : Slots K F [] []
  | non {w : Option V} {E : En} {σ : St} : Slots K F E σ → Slots K F (none :: E) (w :: σ)
  | val {d : D} {v : V} {E : En} {σ : St} : Rep K F d v → Slots K F E σ → Slots K F (some d :: E) (some v :: σ)
/-- defs that hold lambdas -/
def lamDefs : List Str := ["law", "_law_done", "_law_counts_refused", "Heavy.counted"]
/-- a code object: its table and its name -/
def codeTab : Obj → Option (Addr × Str)
  | ⟨.type "code", _, .fields vs, _⟩ => (match (vs[11]? : Option Value), vs.toList with
    | some (.ref P), _ :: .str n _ :: _ => some (P, n)
    | _, _ => none)
  | _ => none
def ctab (K : Kf) (P : Addr) : Option Str := K.findSome? fun p => match codeTab p.2 with
  | some (P', n) => if P' = P ∧ n ∈ lamDefs then some (n ++ ".<locals>." ++ "<lambda>") else none
  | none => none
/-- the table at P of a def's code object, its lambdas' name q -/
def CT (K : Kf) (P : Addr) (q : Str) : Prop := ctab K P = some q
def TabF (F H : Hp) (P : Addr) (q : Str) : Prop := ∃ ps : Array Value, H P = some (.tbl ps) ∧ TriplesOk ps.toList ∧ ∀ (pos : Pos) (cv : Value), codeAmong pos ps.toList = some cv → ∃ c, cv = .ref c ∧ F c = some (LamX.CodeO c q)
structure Rel (K : Kf) (B F : Hp) (E : En) (h : MH) (σ : St) (H : Hp) : Prop where
  out : ∀ a o, B a = some o → H a = some o ∧ F a = none ∧ h a = none
  frz : ∀ a o, F a = some o → H a = some o ∧ h a = none
  cel : ∀ a m, h a = some m → Cel K F H a m
  slot : Slots K F E σ
  tab : ∀ P q, CT K P q → TabF F H P q ∧ B P = none ∧ F P = none ∧ h P = none
theorem Cel.some {K : Kf} {F H : Hp} {a : Addr} {m : MO} (c : Cel K F H a m) : ∃ o, H a = some o := by
  cases m with
  | lst xs => obtain ⟨_, e, _⟩ := c; exact ⟨_, e⟩
  | dct xs => obtain ⟨_, e, _⟩ := c; exact ⟨_, e⟩
  | ins xs => obtain ⟨_, _, e, _⟩ := c; exact ⟨_, e⟩
theorem Cel.mono {K : Kf} {F F' H H' : Hp} {a : Addr} {m : MO} (c : Cel K F H a m) (e : Le F F') (k : H' a = H a) : Cel K F' H' a m := by
  cases m with
  | lst xs => obtain ⟨vs, q, r⟩ := c; exact ⟨vs, k.trans q, r.mono e⟩
  | dct xs => obtain ⟨vs, q, r⟩ := c; exact ⟨vs, k.trans q, r.mono e⟩
  | ins xs => obtain ⟨dx, vs, q, r⟩ := c; exact ⟨dx, vs, k.trans q, r.mono e⟩
theorem Slots.mono {K : Kf} {F F' : Hp} (e : Le F F') : ∀ {E : En} {σ : St}, Slots K F E σ → Slots K F' E σ
  | _, _, .nil => .nil
  | _, _, .non r => .non (Slots.mono e r)
  | _, _, .val a r => .val (a.mono e) (Slots.mono e r)
theorem Slots.len {K : Kf} {F : Hp} : ∀ {E : En} {σ : St}, Slots K F E σ → E.length = σ.length
  | _, _, .nil => rfl
  | _, _, .non r => congrArg (· + 1) r.len
  | _, _, .val _ r => congrArg (· + 1) r.len
theorem Slots.get {K : Kf} {F : Hp} : ∀ {E : En} {σ : St} {i : Nat} {d : D}, Slots K F E σ → E[i]? = some (some d) → ∃ v, σ[i]? = some (some v) ∧ Rep K F d v
  | _, _, 0, _, .val a _, e => by
    cases e
    exact ⟨_, rfl, a⟩
  | _, _, 0, _, .non _, e => by cases e
  | _, _, i + 1, d, .non r, e => Slots.get (i := i) r e
  | _, _, i + 1, d, .val _ r, e => Slots.get (i := i) r e
theorem Slots.set {K : Kf} {F : Hp} {d : D} {v : V} (a : Rep K F d v) : ∀ {E : En} {σ : St} (i : Nat), Slots K F E σ → Slots K F (E.set i (some d)) (σ.set i (some v))
  | _, _, _, .nil => .nil
  | _, _, 0, .non r => .val a r
  | _, _, 0, .val _ r => .val a r
  | _, _, i + 1, .non r => .non (Slots.set a i r)
  | _, _, i + 1, .val b r => .val b (Slots.set a i r)
/-- forget a slot; what the layer has there may be anything -/
theorem Slots.gone {K : Kf} {F : Hp} {w : Option V} : ∀ {E : En} {σ : St} (i : Nat), Slots K F E σ → Slots K F (E.set i none) (σ.set i w)
  | _, _, _, .nil => .nil
  | _, _, 0, .non r => .non r
  | _, _, 0, .val _ r => .non r
  | _, _, i + 1, .non r => .non (Slots.gone i r)
  | _, _, i + 1, .val b r => .val b (Slots.gone i r)
theorem Slots.gone' {K : Kf} {F : Hp} : ∀ {E : En} {σ : St} (i : Nat), Slots K F E σ → Slots K F (E.set i none) σ
  | _, _, _, .nil => .nil
  | _, _, 0, .non r => .non r
  | _, _, 0, .val _ r => .non r
  | _, _, i + 1, .non r => .non (Slots.gone' i r)
  | _, _, i + 1, .val b r => .val b (Slots.gone' i r)
section
variable {K : Kf} {B F : Hp} {E : En} {h : MH} {σ : St} {H : Hp}
theorem Rel.noB (R : Rel K B F E h σ H) {p : Addr} (q : H p = none) : B p = none := by
  cases e : B p with
  | none => rfl
  | some o => rw [(R.out p o e).1] at q; cases q
theorem Rel.noF (R : Rel K B F E h σ H) {p : Addr} (q : H p = none) : F p = none := by
  cases e : F p with
  | none => rfl
  | some o => rw [(R.frz p o e).1] at q; cases q
theorem Rel.noh (R : Rel K B F E h σ H) {p : Addr} (q : H p = none) : h p = none := by
  cases e : h p with
  | none => rfl
  | some m =>
    obtain ⟨o, z⟩ := (R.cel p m e).some
    rw [z] at q; cases q
theorem Rel.Bh (R : Rel K B F E h σ H) {p : Addr} {m : MO} (q : h p = some m) : B p = none := by
  cases e : B p with
  | none => rfl
  | some o => rw [(R.out p o e).2.2] at q; cases q
theorem Rel.Fh (R : Rel K B F E h σ H) {p : Addr} {m : MO} (q : h p = some m) : F p = none := by
  cases e : F p with
  | none => rfl
  | some o => rw [(R.frz p o e).2] at q; cases q
theorem Rel.rd (R : Rel K B F E h σ H) {a : Addr} {u : HO} (q : Rd F a u) : Rd H a u := by
  rcases q with q | ⟨ob, q⟩
  · exact .inl (R.frz _ _ q).1
  · exact .inr ⟨ob, (R.frz _ _ q).1⟩
theorem Rel.sqT (R : Rel K B F E h σ H) {a : Addr} {xs : List V} (q : SqT K F a xs) : SqT K H a xs := by
  rcases q with q | q
  · exact .inl (R.rd q)
  · exact .inr q
theorem Rel.sqL (R : Rel K B F E h σ H) {a : Addr} {xs : List V} (q : SqL K F a xs) : SqL K H a xs := by
  rcases q with q | q
  · exact .inl (R.rd q)
  · exact .inr q
theorem TabF.mono {F F' H H' : Hp} {P : Addr} {q : Str} (t : TabF F H P q) (e : Le F F') (k : H' P = H P) : TabF F' H' P q := by
  obtain ⟨ps, e1, e2, e3⟩ := t
  exact ⟨ps, k.trans e1, e2, fun pos cv z => by
    obtain ⟨c, h1, h2⟩ := e3 pos cv z
    exact ⟨c, h1, e.ex _ _ h2⟩⟩
theorem TabF.some {F H : Hp} {P : Addr} {q : Str} (t : TabF F H P q) : ∃ ps, H P = some (.tbl ps) := by
  obtain ⟨ps, e1, _⟩ := t
  exact ⟨ps, e1⟩
theorem Rel.nt (R : Rel K B F E h σ H) {P p : Addr} {q : Str} {o : HO} (z : CT K P q) (e : H p = some o) (nt : ∀ ps, o ≠ .tbl ps) : P ≠ p := fun y => by
  obtain ⟨ps, t⟩ := (R.tab P q z).1.some
  rw [y, e] at t
  exact nt ps (Option.some.inj t)
theorem Rel.nn (R : Rel K B F E h σ H) {P p : Addr} {q : Str} (z : CT K P q) (e : H p = none) : P ≠ p := fun y => by
  obtain ⟨ps, t⟩ := (R.tab P q z).1.some
  rw [y, e] at t
  cases t
theorem Cel.ntbl {m : MO} {a : Addr} {o : HO} (c : Cel K F H a m) (e : H a = Option.some o) (ps : Array Value) : o ≠ .tbl ps := by
  cases m with
  | lst xs => obtain ⟨_, q, _⟩ := c; rw [e] at q; cases q; intro z; cases z
  | dct xs => obtain ⟨_, q, _⟩ := c; rw [e] at q; cases q; intro z; cases z
  | ins xs => obtain ⟨_, _, q, _⟩ := c; rw [e] at q; cases q; intro z; cases z
theorem Rel.nc (R : Rel K B F E h σ H) {P p : Addr} {q : Str} {m : MO} (z : CT K P q) (c : Cel K F H p m) : P ≠ p := by
  obtain ⟨o, e⟩ := c.some
  exact R.nt z e (c.ntbl e)
theorem Rel.nh (R : Rel K B F E h σ H) {P p : Addr} {q : Str} {m : MO} (z : CT K P q) (e : h p = some m) : P ≠ p := fun y => by
  have t := (R.tab P q z).2.2.2
  rw [y, e] at t
  cases t
/-- a new object that nobody changes -/
theorem Rel.newF (R : Rel K B F E h σ H) {p : Addr} {o : HO} (q : H p = none) : Rel K B (upd F p o) E h σ (upd H p o) where
  out := fun a u e => by
    have z := R.out a u e
    have n : a ≠ p := ne_of_none z.1 q
    rw [upd_ne n, upd_ne n]
    exact z
  frz := fun a u e => by
    by_cases n : a = p
    · subst n
      rw [upd_same] at e ⊢
      exact ⟨e, R.noh q⟩
    · rw [upd_ne n] at e ⊢
      exact R.frz a u e
  cel := fun a m e => by
    have n : a ≠ p := fun z => by
      rw [z, R.noh q] at e
      cases e
    exact (R.cel a m e).mono (Le.new (R.noF q)) (upd_ne n)
  slot := R.slot.mono (Le.new (R.noF q))
  tab := fun P q' z => by
    have np := R.nn z q
    have t := R.tab P q' z
    exact ⟨t.1.mono (Le.new (R.noF q)) (upd_ne np), t.2.1, (upd_ne np).trans t.2.2.1, t.2.2.2⟩
/-- a new object that is not spoken of -/
theorem Rel.newO (R : Rel K B F E h σ H) {p : Addr} {o : HO} (q : H p = none) : Rel K B F E h σ (upd H p o) where
  out := fun a u e => by
    have z := R.out a u e
    rw [upd_ne (ne_of_none z.1 q)]
    exact z
  frz := fun a u e => by
    have z := R.frz a u e
    rw [upd_ne (ne_of_none z.1 q)]
    exact z
  cel := fun a m e => by
    have n : a ≠ p := fun z => by
      rw [z, R.noh q] at e
      cases e
    exact (R.cel a m e).mono (Le.refl F) (upd_ne n)
  slot := R.slot
  tab := fun P q' z => by
    have t := R.tab P q' z
    exact ⟨t.1.mono (Le.refl F) (upd_ne (R.nn z q)), t.2⟩
/-- what nobody has may become frozen -/
theorem Rel.toF (R : Rel K B F E h σ H) {p : Addr} {o : HO} (q : H p = some o) (b : B p = none) (f : F p = none) (n : h p = none) (nt : ∀ ps, o ≠ .tbl ps := by (intro _ z; cases z)) : Rel K B (upd F p o) E h σ H where
  out := fun a u e => by
    have z := R.out a u e
    have nn : a ≠ p := ne_of_none e b
    rw [upd_ne nn]
    exact z
  frz := fun a u e => by
    by_cases nn : a = p
    · subst nn
      rw [upd_same] at e
      cases e
      exact ⟨q, n⟩
    · rw [upd_ne nn] at e
      exact R.frz a u e
  cel := fun a m e => (R.cel a m e).mono (Le.new f) rfl
  slot := R.slot.mono (Le.new f)
  tab := fun P q' z => by
    have np := R.nt z q nt
    have t := R.tab P q' z
    exact ⟨t.1.mono (Le.new f) rfl, t.2.1, (upd_ne np).trans t.2.2.1, t.2.2.2⟩
/-- .. or a cell -/
theorem Rel.toC (R : Rel K B F E h σ H) {p : Addr} {m : MO} (c : Cel K F H p m) (b : B p = none) (f : F p = none) : Rel K B F E (put h p m) σ H where
  out := fun a u e => by
    have z := R.out a u e
    have nn : a ≠ p := ne_of_none e b
    refine ⟨z.1, z.2.1, ?_⟩
    show (if a = p then _ else _) = _
    rw [if_neg nn]
    exact z.2.2
  frz := fun a u e => by
    have z := R.frz a u e
    have nn : a ≠ p := ne_of_none e f
    refine ⟨z.1, ?_⟩
    show (if a = p then _ else _) = _
    rw [if_neg nn]
    exact z.2
  cel := fun a m' e => by
    have e : (if a = p then some m else h a) = some m' := e
    by_cases nn : a = p
    · rw [if_pos nn] at e
      cases e
      rw [nn]
      exact c
    · rw [if_neg nn] at e
      exact R.cel a m' e
  slot := R.slot
  tab := fun P q' z => by
    have t := R.tab P q' z
    refine ⟨t.1, t.2.1, t.2.2.1, ?_⟩
    show (if P = p then _ else _) = _
    rw [if_neg (R.nc z c)]
    exact t.2.2.2
/-- forget cells -/
theorem Rel.less (R : Rel K B F E h σ H) {h' : MH} (k : ∀ a m, h' a = some m → h a = some m) : Rel K B F E h' σ H where
  out := fun a u e => by
    have z := R.out a u e
    refine ⟨z.1, z.2.1, ?_⟩
    cases q : h' a with
    | none => rfl
    | some m =>
      have := k a m q
      rw [z.2.2] at this
      cases this
  frz := fun a u e => by
    have z := R.frz a u e
    refine ⟨z.1, ?_⟩
    cases q : h' a with
    | none => rfl
    | some m =>
      have := k a m q
      rw [z.2] at this
      cases this
  cel := fun a m e => R.cel a m (k a m e)
  slot := R.slot
  tab := fun P q' z => by
    have t := R.tab P q' z
    refine ⟨t.1, t.2.1, t.2.2.1, ?_⟩
    cases q : h' P with
    | none => rfl
    | some m =>
      have := k P m q
      rw [t.2.2.2] at this
      cases this
theorem del_some {h : MH} {p a : Addr} {m : MO} (e : del h p a = some m) : h a = some m ∧ a ≠ p := by
  have e : (if a = p then none else h a) = some m := e
  by_cases n : a = p
  · rw [if_pos n] at e
    cases e
  · rw [if_neg n] at e
    exact ⟨e, n⟩
theorem del_same {h : MH} {p : Addr} : del h p p = none := if_pos rfl
/-- a cell changes -/
theorem Rel.write (R : Rel K B F E h σ H) {p : Addr} {m m' : MO} {o : HO} (c : h p = some m) (n : Cel K F (upd H p o) p m') : Rel K B F E (put h p m') σ (upd H p o) := by
  have b := R.Bh c
  have f := R.Fh c
  have R1 : Rel K B F E (del h p) σ (upd H p o) := by
    refine ⟨fun a u e => ?_, fun a u e => ?_, fun a m e => ?_, R.slot, fun P q' z => ?_⟩
    · have z := R.out a u e
      rw [upd_ne (ne_of_none e b)]
      refine ⟨z.1, z.2.1, ?_⟩
      show (if a = p then _ else _) = _
      rw [if_neg (ne_of_none e b)]
      exact z.2.2
    · have z := R.frz a u e
      rw [upd_ne (ne_of_none e f)]
      refine ⟨z.1, ?_⟩
      show (if a = p then _ else _) = _
      rw [if_neg (ne_of_none e f)]
      exact z.2
    · obtain ⟨e, nn⟩ := del_some e
      exact (R.cel a m e).mono (Le.refl F) (upd_ne nn)
    · have np := R.nh z c
      have t := R.tab P q' z
      refine ⟨t.1.mono (Le.refl F) (upd_ne np), t.2.1, t.2.2.1, ?_⟩
      show (if P = p then _ else _) = _
      rw [if_neg np]
      exact t.2.2.2
  have R2 := R1.toC n b f
  have eq : put (del h p) p m' = put h p m' := by
    funext a
    show (if a = p then _ else (if a = p then _ else _)) = if a = p then _ else _
    by_cases z : a = p
    · rw [if_pos z, if_pos z]
    · rw [if_neg z, if_neg z, if_neg z]
  rw [eq] at R2
  exact R2
theorem Rel.slots (R : Rel K B F E h σ H) {E' : En} {σ' : St} (s : Slots K F E' σ') : Rel K B F E' h σ' H := ⟨R.out, R.frz, R.cel, s, R.tab⟩
theorem Rel.set (R : Rel K B F E h σ H) {d : D} {v : V} (a : Rep K F d v) (i : Nat) : Rel K B F (E.set i (some d)) h (σ.set i (some v)) H := R.slots (R.slot.set a i)
end

/-! ### the judgements -/
def RvOk (K : Kf) (B F : Hp) (h : MH) (H : Hp) : RV → V → Prop
  | .d x, v => Rep K F x v
  | .ol xs, v => ∃ l vs, v = .ref l ∧ H l = some (.lst vs) ∧ Reps K F xs vs ∧ B l = none ∧ F l = none ∧ h l = none
  | .od kvs, v => ∃ l ws, v = .ref l ∧ H l = some (.dK ws) ∧ RepK K F kvs ws ∧ B l = none ∧ F l = none ∧ h l = none
def XOk (K : Kf) (F : Hp) (x : EX) (c : Value) (dx : Option Addr) : Prop :=
  c = .ref x.c ∧ ((x.fs = [] ∧ dx = none) ∨ ∃ d ws, dx = some d ∧ F d = some (.xd ws) ∧ RepF K F x.fs ws)
/-- what is wanted behind an expression: of its result, of an exception -/
structure Fin (K : Kf) (B F : Hp) (E : En) (σ : St) (W : WX) (Kn : RV → MH → Prop) (Kx : XKm) (Q : VK) : Prop where
  ok : ∀ r h' F' H' v, Le F F' → Rel K B F' E h' σ H' → RvOk K B F' h' H' r v → Kn r h' → Q v H'
  ex : ∀ x h' F' H' c dx, Le F F' → Rel K B F' E h' σ H' → XOk K F' x c dx → Kx x h' → W c dx σ H'
/-- an exception that leaves: the wish about it -/
abbrev XFin (K : Kf) (B F : Hp) (E : En) (σ : St) (W : WX) (Kx : XKm) : Prop := ∀ x h' F' H' c dx, Le F F' → Rel K B F' E h' σ H' → XOk K F' x c dx → Kx x h' → W c dx σ H'
theorem XFin.up {K : Kf} {B F F' : Hp} {E : En} {σ : St} {W : WX} {Kx : XKm} (x : XFin K B F E σ W Kx) (e : Le F F') : XFin K B F' E σ W Kx := fun a h' F2 H' c dx l => x a h' F2 H' c dx (e.trans l)
def LE (K : Kf) (B : Hp) (W : WX) (t : TEm) : TE := fun σ H Q => ∃ F E h Kn Kx, Rel K B F E h σ H ∧ t E h Kn Kx ∧ XFin K B F E σ W Kx ∧
  ∀ r h' F' H' v, Le F F' → Rel K B F' E h' σ H' → RvOk K B F' h' H' r v → Kn r h' → Q v H'
def LV (K : Kf) (B : Hp) (W : WX) (t : TVm) : TE := fun σ H Q => ∃ F E h Kn Kx, Rel K B F E h σ H ∧ t E h Kn Kx ∧ XFin K B F E σ W Kx ∧
  ∀ d h' F' H' v, Le F F' → Rel K B F' E h' σ H' → Rep K F' d v → Kn d h' → Q v H'
def LT (K : Kf) (B : Hp) (W : WX) (t : TTm) : TT := fun σ H Q => ∃ F E h Kn Kx, Rel K B F E h σ H ∧ t E h Kn Kx ∧ XFin K B F E σ W Kx ∧
  ∀ b h' F' H', Le F F' → Rel K B F' E h' σ H' → Kn b h' → Q b H'
def LA (K : Kf) (B : Hp) (W : WX) (t : TAm) : TA := fun σ H Q => ∃ F E h Kn Kx, Rel K B F E h σ H ∧ t E h Kn Kx ∧ XFin K B F E σ W Kx ∧
  ∀ ds h' F' H' vs, Le F F' → Rel K B F' E h' σ H' → Reps K F' ds vs → Kn ds h' → Q vs H'
def LS (K : Kf) (B : Hp) (W : WX) (t : TSm) : TS := fun D σ H => ∃ (F : Hp) (E : En) (h : MH) (N : Nd), Rel K B F E h σ H ∧ t N E h ∧
  (∀ E' h' F' σ' H', Le F F' → Rel K B F' E' h' σ' H' → N.nx E' h' → D.nx σ' H') ∧
  (∀ r h' F' E' σ' H' v, Le F F' → Rel K B F' E' h' σ' H' → RvOk K B F' h' H' r v → N.rt r h' → D.rt v H') ∧
  (∀ E' h' F' σ' H', Le F F' → Rel K B F' E' h' σ' H' → N.bk E' h' → D.bk σ' H') ∧
  (∀ E' h' F' σ' H', Le F F' → Rel K B F' E' h' σ' H' → N.ct E' h' → D.ct σ' H') ∧
  (∀ x h' F' E' σ' H' c dx, Le F F' → Rel K B F' E' h' σ' H' → XOk K F' x c dx → N.xs x E' h' → W c dx σ' H')
/-- e means t (a result) -/
def ME (X : Cx) (W : WX) (e : Expr) (t : TEm) : Prop := ∀ B : Hp, PE X e (LE X.K B W t)
/-- e means t (data) -/
def MV (X : Cx) (W : WX) (e : Expr) (t : TVm) : Prop := ∀ B : Hp, PE X e (LV X.K B W t)
def MT (X : Cx) (W : WX) (e : Expr) (t : TTm) : Prop := ∀ B : Hp, PT X e (LT X.K B W t)
def MW (X : Cx) (W : WX) (e : Expr) (t : TTm) : Prop := ∀ B : Hp, PW X e (LT X.K B W t)
def MA (X : Cx) (W : WX) (es : List Expr) (t : TAm) : Prop := ∀ B : Hp, PA X es (LA X.K B W t)
def MS (X : Cx) (W : WX) (st : Stmt) (t : TSm) : Prop := ∀ B : Hp, PS X st (LS X.K B W t)
def MB (X : Cx) (W : WX) (st : List Stmt) (t : TSm) : Prop := ∀ B : Hp, PSs X st (LS X.K B W t)
theorem _root_.L2.PE.impM {X : Cx} {e : Expr} {t t' : TE} (p : PE X e t) (h : ∀ σ H Q, t' σ H Q → t σ H Q) : PE X e t' := ⟨fun pins s σ H Q I q => p.run pins s σ H Q I (h σ H Q q)⟩
theorem _root_.L2.PT.impM {X : Cx} {e : Expr} {t t' : TT} (p : PT X e t) (h : ∀ σ H Q, t' σ H Q → t σ H Q) : PT X e t' := ⟨fun pins s σ H Q I q => p.run pins s σ H Q I (h σ H Q q)⟩
theorem _root_.L2.PW.impM {X : Cx} {e : Expr} {t t' : TT} (p : PW X e t) (h : ∀ σ H Q, t' σ H Q → t σ H Q) : PW X e t' := ⟨fun w pins s σ H Q I q => p.run w pins s σ H Q I (h σ H Q q)⟩
theorem _root_.L2.PA.impM {X : Cx} {e : List Expr} {t t' : TA} (p : PA X e t) (h : ∀ σ H Q, t' σ H Q → t σ H Q) : PA X e t' := ⟨fun w pins s σ H Q I q => p.run w pins s σ H Q I (h σ H Q q)⟩
theorem _root_.L2.PS.impM {X : Cx} {e : Stmt} {t t' : TS} (p : PS X e t) (h : ∀ D σ H, t' D σ H → t D σ H) : PS X e t' := ⟨fun pins s σ H D I q => p.run pins s σ H D I (h D σ H q)⟩
theorem _root_.L2.PSs.impM {X : Cx} {e : List Stmt} {t t' : TS} (p : PSs X e t) (h : ∀ D σ H, t' D σ H → t D σ H) : PSs X e t' := ⟨fun pins s σ H D I q => p.run pins s σ H D I (h D σ H q)⟩

section
variable {X : Cx} {W : WX}
/-! ### coercions -/
def frzV (t : TEm) : TVm := fun E h Kn Kx => t E h (fun r h' => Kn r.frz h') Kx
def valE (t : TVm) : TEm := fun E h Kn Kx => t E h (fun x h' => Kn (.d x) h') Kx
theorem RvOk.frz {K : Kf} {B F : Hp} {E : En} {h : MH} {σ : St} {H : Hp} {r : RV} {v : V} (R : Rel K B F E h σ H) (q : RvOk K B F h H r v) : ∃ F', Le F F' ∧ Rel K B F' E h σ H ∧ Rep K F' r.frz v := by
  cases r with
  | d x => exact ⟨F, Le.refl F, R, q⟩
  | ol xs =>
    obtain ⟨l, vs, rfl, e, rs, b, f, n⟩ := q
    exact ⟨_, Le.new f, R.toF e b f n, .lst upd_same (rs.mono (Le.new f))⟩
  | od xs =>
    obtain ⟨l, vs, rfl, e, rs, b, f, n⟩ := q
    exact ⟨_, Le.new f, R.toF e b f n, .dct (.inl upd_same) (rs.mono (Le.new f))⟩
theorem mv {e : Expr} {t : TEm} (p : ME X W e t) : MV X W e (frzV t) := fun B => (p B).impM fun σ H Q ⟨F, E, h, Kn, Kx, R, ht, hx, hn⟩ =>
  ⟨F, E, h, _, Kx, R, ht, hx, fun r h' F' H' v l R' q k => by
    obtain ⟨F2, l2, R2, rp⟩ := q.frz R'
    exact hn _ h' F2 H' v (l.trans l2) R2 rp k⟩
theorem me {e : Expr} {t : TVm} (p : MV X W e t) : ME X W e (valE t) := fun B => (p B).impM fun σ H Q ⟨F, E, h, Kn, Kx, R, ht, hx, hn⟩ =>
  ⟨F, E, h, _, Kx, R, ht, hx, fun r h' F' H' v l R' q k => hn (.d r) h' F' H' v l R' q k⟩

/-! ### names, constants -/
def mVar (i : Nat) : TVm := fun E h Kn _ => match E[i]? with
  | some (some d) => Kn d h
  | _ => False
def mC (d : D) : TVm := fun _ h Kn _ => Kn d h
theorem mv_var {e : Expr} {i : Nat} (p : PE X e (tVar i)) : MV X W e (mVar i) := fun B => p.impM fun σ H Q ⟨F, E, h, Kn, Kx, R, ht, hx, hn⟩ => by
  unfold mVar at ht
  cases q : E[i]? with
  | none => rw [q] at ht; exact ht.elim
  | some o =>
    cases o with
    | none => rw [q] at ht; exact ht.elim
    | some d =>
      rw [q] at ht
      obtain ⟨v, e, rp⟩ := R.slot.get q
      exact ⟨v, e, hn d h F H v (Le.refl F) R rp ht⟩
theorem mv_const {e : Expr} {d : D} {v : V} (p : PE X e (tC v)) (r : ∀ K F, Rep K F d v) : MV X W e (mC d) := fun B => p.impM fun σ H Q ⟨F, E, h, Kn, Kx, R, ht, hx, hn⟩ =>
  hn d h F H v (Le.refl F) R (r _ _) ht
theorem mv_int {i j pos} : MV X W (.Constant (.int i) j pos) (mC (.int i)) := mv_const pe_int fun _ _ => .int _
theorem mv_bl {i j pos} : MV X W (.Constant (.bool i) j pos) (mC (.bl i)) := mv_const pe_bl fun _ _ => .bl _
theorem mv_non {j pos} : MV X W (.Constant .none j pos) (mC .non) := mv_const pe_non fun _ _ => .non
theorem mv_str {i j pos} : MV X W (.Constant (.str i) j pos) (mC (.str i)) := mv_const pe_str fun _ _ => .str _

/-! ### operations by values -/
/-- an operation on two things: what it asks and gives -/
abbrev G2 := D → D → MH → (RV → MH → Prop) → Prop
abbrev G1 := D → MH → (RV → MH → Prop) → Prop
abbrev GA := List D → MH → (RV → MH → Prop) → Prop
def Has2 (K : Kf) (r : R2) (g : G2) : Prop := ∀ B F E h σ H x y vx vy (Q : VK) Kn, Rel K B F E h σ H → Rep K F x vx → Rep K F y vy → g x y h Kn →
  (∀ r h' F' H' v, Le F F' → Rel K B F' E h' σ H' → RvOk K B F' h' H' r v → Kn r h' → Q v H') → r vx vy H Q
def Has1 (K : Kf) (r : V → Hp → VK → Prop) (g : G1) : Prop := ∀ B F E h σ H x vx (Q : VK) Kn, Rel K B F E h σ H → Rep K F x vx → g x h Kn →
  (∀ r h' F' H' v, Le F F' → Rel K B F' E h' σ H' → RvOk K B F' h' H' r v → Kn r h' → Q v H') → r vx H Q
def HasA (K : Kf) (r : List V → Hp → VK → Prop) (g : GA) : Prop := ∀ B F E h σ H xs vs (Q : VK) Kn, Rel K B F E h σ H → Reps K F xs vs → g xs h Kn →
  (∀ r h' F' H' v, Le F F' → Rel K B F' E h' σ H' → RvOk K B F' h' H' r v → Kn r h' → Q v H') → r vs H Q
def mOp (g : G2) (ta tb : TVm) : TEm := fun E h Kn Kx => ta E h (fun x h1 => tb E h1 (fun y h2 => g x y h2 Kn) Kx) Kx
def mUn (g : G1) (ta : TVm) : TEm := fun E h Kn Kx => ta E h (fun x h1 => g x h1 Kn) Kx
def mCall (g : GA) (ta : TAm) : TEm := fun E h Kn Kx => ta E h (fun xs h1 => g xs h1 Kn) Kx
theorem two {K : Kf} {B : Hp} {r : R2} {g : G2} (o : Has2 K r g) {ta tb : TVm} {σ : St} {H : Hp} {Q : VK} (q : LE K B W (mOp g ta tb) σ H Q) : tOp r (LV K B W ta) (LV K B W tb) σ H Q := by
  obtain ⟨F, E, h, Kn, Kx, R, ht, hx, hn⟩ := q
  refine ⟨F, E, h, _, Kx, R, ht, hx, fun x h1 F1 H1 v l1 R1 r1 k1 => ?_⟩
  refine ⟨F1, E, h1, _, Kx, R1, k1, hx.up l1, fun y h2 F2 H2 u l2 R2 r2 k2 => ?_⟩
  exact o B F2 E h2 σ H2 x y v u Q Kn R2 (r1.mono l2) r2 k2 fun r h' F' H' w l3 => hn r h' F' H' w ((l1.trans l2).trans l3)
theorem one {K : Kf} {B : Hp} {r : V → Hp → VK → Prop} {g : G1} (o : Has1 K r g) {ta : TVm} {σ : St} {H : Hp} {Q : VK} (q : LE K B W (mUn g ta) σ H Q) : tUn r (LV K B W ta) σ H Q := by
  obtain ⟨F, E, h, Kn, Kx, R, ht, hx, hn⟩ := q
  refine ⟨F, E, h, _, Kx, R, ht, hx, fun x h1 F1 H1 v l1 R1 r1 k1 => ?_⟩
  exact o B F1 E h1 σ H1 x v Q Kn R1 r1 k1 fun r h' F' H' w l3 => hn r h' F' H' w (l1.trans l3)
theorem many {K : Kf} {B : Hp} {r : List V → Hp → VK → Prop} {g : GA} (o : HasA K r g) {ta : TAm} {σ : St} {H : Hp} {Q : VK} (q : LE K B W (mCall g ta) σ H Q) : tCB r (LA K B W ta) σ H Q := by
  obtain ⟨F, E, h, Kn, Kx, R, ht, hx, hn⟩ := q
  refine ⟨F, E, h, _, Kx, R, ht, hx, fun x h1 F1 H1 v l1 R1 r1 k1 => ?_⟩
  exact o B F1 E h1 σ H1 x v Q Kn R1 r1 k1 fun r h' F' H' w l3 => hn r h' F' H' w (l1.trans l3)
/-! ### argument lists -/
def mNil : TAm := fun _ h Kn _ => Kn [] h
def mCons (ta : TVm) (tr : TAm) : TAm := fun E h Kn Kx => ta E h (fun x h1 => tr E h1 (fun xs h2 => Kn (x :: xs) h2) Kx) Kx
theorem ma_nil : MA X W [] mNil := fun B => pa_nil.impM fun σ H Q ⟨F, E, h, Kn, Kx, R, ht, hx, hn⟩ => hn [] h F H [] (Le.refl F) R .nil ht
theorem ma_cons {e : Expr} {es : List Expr} {ta : TVm} {tr : TAm} (a : MV X W e ta) (r : MA X W es tr) (hs : starEach (e :: es) X.env = (false, eval e X.env) :: starEach es X.env := by rfl) : MA X W (e :: es) (mCons ta tr) := fun B =>
  (pa_cons (a B) (r B) hs).impM fun σ H Q ⟨F, E, h, Kn, Kx, R, ht, hx, hn⟩ => by
    refine ⟨F, E, h, _, Kx, R, ht, hx, fun x h1 F1 H1 v l1 R1 r1 k1 => ?_⟩
    refine ⟨F1, E, h1, _, Kx, R1, k1, hx.up l1, fun y h2 F2 H2 u l2 R2 r2 k2 => ?_⟩
    exact hn (x :: y) h2 F2 H2 (v :: u) (l1.trans l2) R2 (.cons (r1.mono l2) r2) k2
def mTup (t : TAm) : TVm := fun E h Kn Kx => t E h (fun xs h' => xs.length ≤ sizeLine ∧ Kn (.tup xs) h') Kx
def mLst (t : TAm) : TEm := fun E h Kn Kx => t E h (fun xs h' => xs.length ≤ sizeLine ∧ Kn (.ol xs) h') Kx
theorem mv_tup {es : List Expr} {x1 pos} {t : TAm} (a : MA X W es t) : MV X W (.Tuple es x1 pos) (mTup t) := fun B => (pe_tup (a B)).impM fun σ H Q ⟨F, E, h, Kn, Kx, R, ht, hx, hn⟩ => by
  refine ⟨F, E, h, _, Kx, R, ht, hx, fun ds h1 F1 H1 vs l1 R1 r1 k1 => ⟨by rw [← r1.len]; exact k1.1, fun p hp => ?_⟩⟩
  have l2 : Le F1 (upd F1 p (.tup vs)) := Le.new (R1.noF hp)
  exact hn _ h1 _ _ _ (l1.trans l2) (R1.newF hp) (.tup (.inl (.inl upd_same)) (r1.mono l2)) k1.2
theorem me_lst {es : List Expr} {pos} {t : TAm} (a : MA X W es t) : ME X W (.List es pos) (mLst t) := fun B => (pe_lst (a B)).impM fun σ H Q ⟨F, E, h, Kn, Kx, R, ht, hx, hn⟩ => by
  refine ⟨F, E, h, _, Kx, R, ht, hx, fun ds h1 F1 H1 vs l1 R1 r1 k1 => ⟨by rw [← r1.len]; exact k1.1, fun p hp => ?_⟩⟩
  exact hn (.ol ds) h1 _ _ _ l1 (R1.newO hp) ⟨p, vs, rfl, upd_same, r1, R1.noB hp, R1.noF hp, R1.noh hp⟩ k1.2
end
end M3
set_option Elab.async false
set_option linter.all false
set_option maxRecDepth 100000
set_option maxHeartbeats 4000000
namespace M3
open PySem L2
section
variable {X : Cx} {W : WX}
/-! ### tests -/
def onBl (d : D) (p : Bool → Prop) : Prop := match d with
  | .bl b => p b
  | _ => False
def mTst (t : TVm) : TTm := fun E h Kn Kx => t E h (fun d h' => onBl d fun b => Kn b h') Kx
theorem bl_of {K : Kf} {F : Hp} {d : D} {v : V} {p : Bool → Prop} (r : Rep K F d v) (q : onBl d p) : ∃ b, v = .bl b ∧ d = .bl b ∧ p b := by
  cases r with
  | bl b => exact ⟨b, rfl, rfl, q⟩
  | _ => exact q.elim
/-- a truth value as a test -/
theorem mt_val {e : Expr} {t : TVm} (p : ∀ B, PT X e (tB (LV X.K B W t))) : MT X W e (mTst t) := fun B => (p B).impM fun σ H Q ⟨F, E, h, Kn, Kx, R, ht, hx, hn⟩ =>
  ⟨F, E, h, _, Kx, R, ht, hx, fun d h' F' H' v l R' q k => by
    obtain ⟨b, rfl, rfl, k⟩ := bl_of (p := fun b => Kn b h') q k
    exact ⟨b, rfl, hn b h' F' H' l R' k⟩⟩
/-- any expression that gives True or False -/
theorem mt_of {e : Expr} {t : TVm} (p : MV X W e t) (hb : ∀ te, PE X e te → PT X e (tB te) := by exact fun _ h => pt_val h) : MT X W e (mTst t) := mt_val fun B => hb _ (p B)
def mNotT (t : TTm) : TTm := fun E h Kn Kx => t E h (fun b h' => Kn (!b) h') Kx
theorem mt_not {e : Expr} {pos} {t : TTm} (p : MT X W e t) : MT X W (.UnaryOp .Not e pos) (mNotT t) := fun B => (pt_not (p B)).impM fun σ H Q ⟨F, E, h, Kn, Kx, R, ht, hx, hn⟩ =>
  ⟨F, E, h, _, Kx, R, ht, hx, fun b h' F' H' l R' k => hn (!b) h' F' H' l R' k⟩
def mAndT (t u : TTm) : TTm := fun E h Kn Kx => t E h (fun b h' => if b = true then u E h' Kn Kx else Kn false h') Kx
def mOrT (t u : TTm) : TTm := fun E h Kn Kx => t E h (fun b h' => if b = true then Kn true h' else u E h' Kn Kx) Kx
theorem andT_ok {K : Kf} {B : Hp} {t u : TTm} {σ : L2.St} {H : Hp} {Q : Bool → Hp → Prop} (q : LT K B W (mAndT t u) σ H Q) : tAnd (LT K B W t) (LT K B W u) σ H Q := by
  obtain ⟨F, E, h, Kn, Kx, R, ht, hx, hn⟩ := q
  refine ⟨F, E, h, _, Kx, R, ht, hx, fun b h' F' H' l R' k => ?_⟩
  cases b with
  | true => exact ⟨F', E, h', Kn, Kx, R', k, hx.up l, fun b h2 F2 H2 l2 => hn b h2 F2 H2 (l.trans l2)⟩
  | false => exact hn false h' F' H' l R' k
theorem orT_ok {K : Kf} {B : Hp} {t u : TTm} {σ : L2.St} {H : Hp} {Q : Bool → Hp → Prop} (q : LT K B W (mOrT t u) σ H Q) : tOr (LT K B W t) (LT K B W u) σ H Q := by
  obtain ⟨F, E, h, Kn, Kx, R, ht, hx, hn⟩ := q
  refine ⟨F, E, h, _, Kx, R, ht, hx, fun b h' F' H' l R' k => ?_⟩
  cases b with
  | true => exact hn true h' F' H' l R' k
  | false => exact ⟨F', E, h', Kn, Kx, R', k, hx.up l, fun b h2 F2 H2 l2 => hn b h2 F2 H2 (l.trans l2)⟩
/-! ### truth values -/
def mNotV (t : TTm) : TVm := fun E h Kn Kx => t E h (fun b h' => Kn (.bl (!b)) h') Kx
def mTV (t : TTm) : TVm := fun E h Kn Kx => t E h (fun b h' => Kn (.bl b) h') Kx
def LB (K : Kf) (B : Hp) (W : WX) (t : TTm) : TE := fun σ H Q => LT K B W t σ H fun b H' => Q (.bl b) H'
theorem lv_bl {K : Kf} {B : Hp} {t : TTm} {σ : L2.St} {H : Hp} {Q : VK} (q : LV K B W (mTV t) σ H Q) : LB K B W t σ H Q := by
  obtain ⟨F, E, h, Kn, Kx, R, ht, hx, hn⟩ := q
  exact ⟨F, E, h, _, Kx, R, ht, hx, fun b h' F' H' l R' k => hn (.bl b) h' F' H' (.bl b) l R' (.bl b) k⟩
theorem bl_lv {K : Kf} {B : Hp} {t : TVm} {σ : L2.St} {H : Hp} {Q : VK} (q : LB K B W (mTst t) σ H Q) : tB (LV K B W t) σ H fun b H' => Q (.bl b) H' := by
  obtain ⟨F, E, h, Kn, Kx, R, ht, hx, hn⟩ := q
  refine ⟨F, E, h, _, Kx, R, ht, hx, fun d h' F' H' v l R' r k => ?_⟩
  obtain ⟨b, rfl, rfl, k⟩ := bl_of (p := fun b => Kn b h') r k
  exact ⟨b, rfl, hn b h' F' H' l R' k⟩
theorem mv_notV {e : Expr} {pos} {t : TVm} (p : MV X W e t) : MV X W (.UnaryOp .Not e pos) (mNotV (mTst t)) := fun B => (pe_not (p B)).impM fun σ H Q ⟨F, E, h, Kn, Kx, R, ht, hx, hn⟩ => by
  refine ⟨F, E, h, _, Kx, R, ht, hx, fun d h' F' H' v l R' r k => ?_⟩
  obtain ⟨b, rfl, rfl, k⟩ := bl_of (p := fun b => Kn (.bl (!b)) h') r k
  exact ⟨b, rfl, hn (.bl (!b)) h' F' H' (.bl (!b)) l R' (.bl _) k⟩
def mAndV (ta tb : TVm) : TVm := fun E h Kn Kx => ta E h (fun d h' => onBl d fun b => if b = true then tb E h' Kn Kx else Kn (.bl false) h') Kx
def mOrV (ta tb : TVm) : TVm := fun E h Kn Kx => ta E h (fun d h' => onBl d fun b => if b = true then Kn (.bl true) h' else tb E h' Kn Kx) Kx
theorem andV_ok {K : Kf} {B : Hp} {ta tb : TVm} {σ : L2.St} {H : Hp} {Q : VK} (q : LV K B W (mAndV ta tb) σ H Q) : tAndV (LV K B W ta) (LV K B W tb) σ H Q := by
  obtain ⟨F, E, h, Kn, Kx, R, ht, hx, hn⟩ := q
  refine ⟨F, E, h, _, Kx, R, ht, hx, fun d h' F' H' v l R' r k => ?_⟩
  obtain ⟨b, rfl, rfl, k⟩ := bl_of (p := fun b => if b = true then tb E h' Kn Kx else Kn (.bl false) h') r k
  refine ⟨b, rfl, ?_⟩
  cases b with
  | true => exact ⟨F', E, h', Kn, Kx, R', k, hx.up l, fun b h2 F2 H2 v l2 => hn b h2 F2 H2 v (l.trans l2)⟩
  | false => exact hn (.bl false) h' F' H' (.bl false) l R' (.bl _) k
theorem orV_ok {K : Kf} {B : Hp} {ta tb : TVm} {σ : L2.St} {H : Hp} {Q : VK} (q : LV K B W (mOrV ta tb) σ H Q) : tOrV (LV K B W ta) (LV K B W tb) σ H Q := by
  obtain ⟨F, E, h, Kn, Kx, R, ht, hx, hn⟩ := q
  refine ⟨F, E, h, _, Kx, R, ht, hx, fun d h' F' H' v l R' r k => ?_⟩
  obtain ⟨b, rfl, rfl, k⟩ := bl_of (p := fun b => if b = true then Kn (.bl true) h' else tb E h' Kn Kx) r k
  refine ⟨b, rfl, ?_⟩
  cases b with
  | true => exact hn (.bl true) h' F' H' (.bl true) l R' (.bl _) k
  | false => exact ⟨F', E, h', Kn, Kx, R', k, hx.up l, fun b h2 F2 H2 v l2 => hn b h2 F2 H2 v (l.trans l2)⟩
def mIte (t : TTm) (ta tb : TEm) : TEm := fun E h Kn Kx => t E h (fun b h' => if b = true then ta E h' Kn Kx else tb E h' Kn Kx) Kx
theorem me_ite {c a b : Expr} {pos} {t : TTm} {ta tb : TEm} (hc : MT X W c t) (ha : ME X W a ta) (hb : ME X W b tb) : ME X W (.IfExp c a b pos) (mIte t ta tb) := fun B => (pe_ifExp (hc B) (ha B) (hb B)).impM fun σ H Q ⟨F, E, h, Kn, Kx, R, ht, hx, hn⟩ => by
  refine ⟨F, E, h, _, Kx, R, ht, hx, fun b h' F' H' l R' k => ?_⟩
  cases b with
  | true => exact ⟨F', E, h', Kn, Kx, R', k, hx.up l, fun b h2 F2 H2 v l2 => hn b h2 F2 H2 v (l.trans l2)⟩
  | false => exact ⟨F', E, h', Kn, Kx, R', k, hx.up l, fun b h2 F2 H2 v l2 => hn b h2 F2 H2 v (l.trans l2)⟩
end

/-! ### a cell of a fresh thing; a cell given away -/
section
variable {X : Cx} {W : WX}
def mCell (t : TEm) : TEm := fun E h Kn Kx => t E h (fun r h' => match r with
  | .d x => Kn (.d x) h'
  | .ol xs => ∀ p, h' p = none → Kn (.d (.ref p)) (put h' p (.lst xs))
  | .od kvs => ∀ p, h' p = none → Kn (.d (.ref p)) (put h' p (.dct kvs))) Kx
theorem me_cell {e : Expr} {t : TEm} (p : ME X W e t) : ME X W e (mCell t) := fun B => (p B).impM fun σ H Q ⟨F, E, h, Kn, Kx, R, ht, hx, hn⟩ =>
  ⟨F, E, h, _, Kx, R, ht, hx, fun r h' F' H' v l R' q k => by
    cases r with
    | d x => exact hn (.d x) h' F' H' v l R' q k
    | ol xs =>
      obtain ⟨a, vs, rfl, e, rs, b, f, n⟩ := q
      exact hn (.d (.ref a)) _ F' H' _ l (R'.toC (m := .lst xs) ⟨vs, e, rs⟩ b f) (.ref a) (k a n)
    | od xs =>
      obtain ⟨a, vs, rfl, e, rs, b, f, n⟩ := q
      exact hn (.d (.ref a)) _ F' H' _ l (R'.toC (m := .dct xs) ⟨vs, e, rs⟩ b f) (.ref a) (k a n)⟩
def mRel (t : TVm) : TEm := fun E h Kn Kx => t E h (fun d h' => match d with
  | .ref p => (match h' p with
    | some (.lst xs) => Kn (.ol xs) (del h' p)
    | some (.dct kvs) => Kn (.od kvs) (del h' p)
    | _ => False)
  | _ => False) Kx
theorem me_rel {e : Expr} {t : TVm} (p : MV X W e t) : ME X W e (mRel t) := fun B => (p B).impM fun σ H Q ⟨F, E, h, Kn, Kx, R, ht, hx, hn⟩ =>
  ⟨F, E, h, _, Kx, R, ht, hx, fun r h' F' H' v l R' q k => by
    cases q with
    | ref a =>
      have k : (match h' a with
        | some (.lst xs) => Kn (.ol xs) (del h' a)
        | some (.dct kvs) => Kn (.od kvs) (del h' a)
        | _ => False) := k
      have R2 : Rel X.K B F' E (del h' a) σ H' := R'.less fun b m z => (del_some z).1
      cases e : h' a with
      | none => rw [e] at k; exact k.elim
      | some m =>
        rw [e] at k
        cases m with
        | lst xs =>
          obtain ⟨vs, e2, rs⟩ := R'.cel a _ e
          exact hn (.ol xs) _ F' H' _ l R2 ⟨a, vs, rfl, e2, rs, R'.Bh e, R'.Fh e, del_same⟩ k
        | dct xs =>
          obtain ⟨vs, e2, rs⟩ := R'.cel a _ e
          exact hn (.od xs) _ F' H' _ l R2 ⟨a, vs, rfl, e2, rs, R'.Bh e, R'.Fh e, del_same⟩ k
        | ins C fs => exact k.elim
    | _ => exact k.elim⟩
end

/-! ### statements -/
section
variable {X : Cx} {W : WX}
def sSkip : TSm := fun N E h => N.nx E h
def sSeq (t u : TSm) : TSm := fun N E h => t { N with nx := u N } E h
theorem mb_nil : MB X W [] sSkip := fun B => pss_nil.impM fun D σ H ⟨F, E, h, N, R, ht, h1, _⟩ => h1 E h F σ H (Le.refl F) R ht
theorem LS.up {K : Kf} {B F F' : Hp} {E : En} {h : MH} {N : Nd} {D : Ends} {σ : L2.St} {H : Hp} {t : TSm} (l : Le F F') (R : Rel K B F' E h σ H) (ht : t N E h)
    (c : (∀ E' h' F' σ' H', Le F F' → Rel K B F' E' h' σ' H' → N.nx E' h' → D.nx σ' H') ∧
  (∀ r h' F' E' σ' H' v, Le F F' → Rel K B F' E' h' σ' H' → RvOk K B F' h' H' r v → N.rt r h' → D.rt v H') ∧
  (∀ E' h' F' σ' H', Le F F' → Rel K B F' E' h' σ' H' → N.bk E' h' → D.bk σ' H') ∧
  (∀ E' h' F' σ' H', Le F F' → Rel K B F' E' h' σ' H' → N.ct E' h' → D.ct σ' H') ∧
  (∀ x h' F' E' σ' H' c dx, Le F F' → Rel K B F' E' h' σ' H' → XOk K F' x c dx → N.xs x E' h' → W c dx σ' H')) : LS K B W t D σ H :=
  ⟨F', E, h, N, R, ht, fun E' h' F2 σ' H' l2 => c.1 E' h' F2 σ' H' (l.trans l2), fun r h' F2 E' σ' H' v l2 => c.2.1 r h' F2 E' σ' H' v (l.trans l2),
    fun E' h' F2 σ' H' l2 => c.2.2.1 E' h' F2 σ' H' (l.trans l2), fun E' h' F2 σ' H' l2 => c.2.2.2.1 E' h' F2 σ' H' (l.trans l2), fun x h' F2 E' σ' H' a dx l2 => c.2.2.2.2 x h' F2 E' σ' H' a dx (l.trans l2)⟩
theorem mb_cons {st : Stmt} {rest : List Stmt} {t u : TSm} (a : MS X W st t) (b : MB X W rest u) : MB X W (st :: rest) (sSeq t u) := fun B => (pss_cons (a B) (b B)).impM fun D σ H ⟨F, E, h, N, R, ht, c⟩ =>
  ⟨F, E, h, { N with nx := u N }, R, ht, fun E' h' F' σ' H' l R' k => LS.up l R' k c, c.2⟩
theorem mb_one {st : Stmt} {t : TSm} (a : MS X W st t) : MB X W [st] t := fun B => pss_one (a B)
theorem ms_pass {pos} : MS X W (.Pass pos) sSkip := fun B => ps_pass.impM fun D σ H ⟨F, E, h, N, R, ht, h1, _⟩ => h1 E h F σ H (Le.refl F) R ht
def sBrk : TSm := fun N E h => N.bk E h
def sCnt : TSm := fun N E h => N.ct E h
theorem ms_break {pos} : MS X W (.Break pos) sBrk := fun B => ps_break.impM fun D σ H ⟨F, E, h, N, R, ht, _, _, h1, _⟩ => h1 E h F σ H (Le.refl F) R ht
theorem ms_continue {pos} : MS X W (.Continue pos) sCnt := fun B => ps_continue.impM fun D σ H ⟨F, E, h, N, R, ht, _, _, _, h1, _⟩ => h1 E h F σ H (Le.refl F) R ht
def sNever : TSm := fun _ _ _ => False
theorem ms_never {st : Stmt} : MS X W st sNever := fun B => ps_never.impM fun D σ H ⟨F, E, h, N, R, ht, _⟩ => ht
theorem mb_never {st : List Stmt} : MB X W st sNever := fun B => pss_never.impM fun D σ H ⟨F, E, h, N, R, ht, _⟩ => ht
theorem ms_doc {x j pos pos'} : MS X W (.Expr (.Constant (.str x) j pos) pos') sSkip := fun B => ps_doc.impM fun D σ H ⟨F, E, h, N, R, ht, h1, _⟩ => h1 E h F σ H (Le.refl F) R ht
def sDrop (t : TEm) : TSm := fun N E h => t E h (fun _ h' => N.nx E h') (N.xk E)
theorem ms_expr {e : Expr} {pos : Pos} {t : TEm} (a : ME X W e t) (hs : swapsWith e none pos.line X.env = pure false := by rfl) : MS X W (.Expr e pos) (sDrop t) := fun B => (ps_expr (a B) hs).impM fun D σ H ⟨F, E, h, N, R, ht, c⟩ =>
  ⟨F, E, h, _, (N.xk E), R, ht, fun x h' F' H' a dx l R' q k => c.2.2.2.2 x h' F' E σ H' a dx l R' q k, fun r h' F' H' v l R' q k => c.1 E h' F' σ H' l R' k⟩
def sRet (t : TEm) : TSm := fun N E h => t E h N.rt (N.xk E)
theorem ms_ret {e : Expr} {pos : Pos} {t : TEm} (a : ME X W e t) : MS X W (.Return (some e) pos) (sRet t) := fun B => (ps_ret (a B)).impM fun D σ H ⟨F, E, h, N, R, ht, c⟩ =>
  ⟨F, E, h, _, (N.xk E), R, ht, fun x h' F' H' a dx l R' q k => c.2.2.2.2 x h' F' E σ H' a dx l R' q k, fun r h' F' H' v l R' q k => c.2.1 r h' F' E σ H' v l R' q k⟩
def sRetN : TSm := fun N E h => N.rt (.d .non) h
theorem ms_retN {pos : Pos} : MS X W (.Return none pos) sRetN := fun B => ps_retN.impM fun D σ H ⟨F, E, h, N, R, ht, c⟩ => c.2.1 (.d .non) h F E σ H .non (Le.refl F) R .non ht
def sIf (c : TTm) (t u : TSm) : TSm := fun N E h => c E h (fun b h' => if b = true then t N E h' else u N E h') (N.xk E)
theorem ms_if {c : Expr} {a b : List Stmt} {pos : Pos} {tc : TTm} {t u : TSm} (hc : MT X W c tc) (ha : MB X W a t) (hb : MB X W b u) : MS X W (.If c a b pos) (sIf tc t u) := fun B => (ps_if (hc B) (ha B) (hb B)).impM fun D σ H ⟨F, E, h, N, R, ht, c⟩ => by
  refine ⟨F, E, h, _, (N.xk E), R, ht, fun x h' F' H' a dx l R' q k => c.2.2.2.2 x h' F' E σ H' a dx l R' q k, fun b h' F' H' l R' k => ?_⟩
  cases b with
  | true => exact LS.up l R' k c
  | false => exact LS.up l R' k c

/-! ### targets -/
abbrev TGm := D → En → MH → (En → MH → Prop) → Prop
abbrev TGsm := List D → En → MH → (En → MH → Prop) → Prop
def LG (K : Kf) (B : Hp) (ws : List Nat) (g : TGm) : TG := fun v σ H Q => ∃ F E h d Kn, Rel K B F E h σ H ∧ Rep K F d v ∧ g d E h Kn ∧
  ∀ E' h' F' σ' H', wipe σ' ws = wipe σ ws → Le F F' → Rel K B F' E' h' σ' H' → Kn E' h' → Q σ' H'
def LGs (K : Kf) (B : Hp) (ws : List Nat) (g : TGsm) : TGs := fun vs σ H Q => ∃ F E h ds Kn, Rel K B F E h σ H ∧ Reps K F ds vs ∧ g ds E h Kn ∧
  ∀ E' h' F' σ' H', wipe σ' ws = wipe σ ws → Le F F' → Rel K B F' E' h' σ' H' → Kn E' h' → Q σ' H'
def MG (X : Cx) (tg : Expr) (ws : List Nat) (g : TGm) : Prop := ∀ B, PG X tg (LG X.K B ws g)
def MGs (X : Cx) (tgs : List Expr) (ws : List Nat) (g : TGsm) : Prop := ∀ B, PGs X tgs (LGs X.K B ws g)
theorem _root_.L2.PG.impM {X : Cx} {e : Expr} {t t' : TG} (p : PG X e t) (h : ∀ v σ H Q, t' v σ H Q → t v σ H Q) : PG X e t' := ⟨fun pins s σ H v u Q I r q => p.run pins s σ H v u Q I r (h v σ H Q q)⟩
theorem _root_.L2.PGs.impM {X : Cx} {e : List Expr} {t t' : TGs} (p : PGs X e t) (h : ∀ v σ H Q, t' v σ H Q → t v σ H Q) : PGs X e t' := ⟨fun pins s σ H v u Q I r q => p.run pins s σ H v u Q I r (h v σ H Q q)⟩
def gN (i : Nat) : TGm := fun d E h k => k (E.set i (some d)) h
theorem wipe_set {σ : L2.St} {v : Option V} {i : Nat} : ∀ {ws : List Nat}, i ∈ ws → wipe (σ.set i v) ws = wipe σ ws
  | [], hm => absurd hm (by simp)
  | w :: ws, hm => by
    show (wipe (σ.set i v) ws).set w none = (wipe σ ws).set w none
    by_cases e : i ∈ ws
    · rw [wipe_set e]
    · have ei : i = w := by
        rcases List.mem_cons.mp hm with h | h
        · exact h
        · exact absurd h e
      subst ei
      have out : ∀ ws : List Nat, i ∉ ws → wipe (σ.set i v) ws = (wipe σ ws).set i v := by
        intro ws
        induction ws with
        | nil => intro _; rfl
        | cons a as ih =>
          intro hn
          have hn2 : i ∉ as := fun z => hn (List.mem_cons_of_mem _ z)
          have ha : i ≠ a := fun z => hn (z ▸ List.mem_cons_self)
          show (wipe (σ.set i v) as).set a none = ((wipe σ as).set a none).set i v
          rw [ih hn2, List.set_comm _ _ ha]
      rw [out ws e, List.set_set]
theorem mg_name {i : Nat} {x : Str} {pos : Pos} {ws : List Nat} (p : PG X (.Name x pos) (gName i)) (hw : i ∈ ws := by simp) : MG X (.Name x pos) ws (gN i) := fun B => p.impM fun v σ H Q ⟨F, E, h, d, Kn, R, r, hg, k⟩ =>
  k (E.set i (some d)) h F (σ.set i (some v)) H (wipe_set hw) (Le.refl F) (R.set r i) hg
def gsNil : TGsm := fun ds E h k => ds = [] ∧ k E h
def gsCons (g : TGm) (gs : TGsm) : TGsm := fun ds E h k => match ds with
  | d :: r => g d E h fun E' h' => gs r E' h' k
  | [] => False
theorem mgs_nil {ws : List Nat} : MGs X [] ws gsNil := fun B => pgs_nil.impM fun vs σ H Q ⟨F, E, h, ds, Kn, R, r, hg, k⟩ => by
  obtain ⟨rfl, hg⟩ := hg
  cases r
  exact ⟨rfl, k E h F σ H rfl (Le.refl F) R hg⟩
theorem mgs_cons {e : Expr} {es : List Expr} {ws : List Nat} {g : TGm} {gs : TGsm} (a : MG X e ws g) (b : MGs X es ws gs) (hs : (assignEach (e :: es) X.env).map (·.2) = assign e X.env :: (assignEach es X.env).map (·.2) := by rfl) : MGs X (e :: es) ws (gsCons g gs) := fun B =>
  (pgs_cons (a B) (b B) hs).impM fun vs σ H Q ⟨F, E, h, ds, Kn, R, r, hg, k⟩ => by
    cases r with
    | nil => exact hg.elim
    | cons rd rr =>
      refine ⟨_, _, rfl, F, E, h, _, _, R, rd, hg, fun E1 h1 F1 σ1 H1 w1 l1 R1 k1 => ?_⟩
      exact ⟨F1, E1, h1, _, _, R1, rr.mono l1, k1, fun E2 h2 F2 σ2 H2 w2 l2 R2 k2 => k E2 h2 F2 σ2 H2 (w2.trans w1) (l1.trans l2) R2 k2⟩
def gT (n : Nat) (gs : TGsm) : TGm := fun d E h k => match d with
  | .tup xs => xs.length = n ∧ gs xs E h k
  | _ => False
theorem mg_tup {es : List Expr} {j : Nat} {pos : Pos} {ws : List Nat} {gs : TGsm} {n : Nat} (hc : X.calm = true) (b : MGs X es ws gs) (hn : (assignEach es X.env).length = n := by rfl) (hst : (assignEach es X.env).findIdx? (·.1) = none := by rfl) :
    MG X (.Tuple es j pos) ws (gT n gs) := fun B => (pg_tup hc (b B) hn hst).impM fun v σ H Q ⟨F, E, h, d, Kn, R, r, hg, k⟩ => by
  cases r with
  | tup q rs =>
    obtain ⟨hl, hg⟩ := hg
    exact ⟨_, _, rfl, R.sqT q, by rw [← rs.len]; exact hl, F, E, h, _, Kn, R, rs, hg, k⟩
  | _ => exact hg.elim
def sAsg (t : TVm) (g : TGm) : TSm := fun N E h => t E h (fun d h' => g d E h' N.nx) (N.xk E)
theorem asg_ok {K : Kf} {B : Hp} {t : TVm} {g : TGm} {ws : List Nat} {D : Ends} {σ : L2.St} {H : Hp} (q : LS K B W (sAsg t g) D σ H) : tAsg (LV K B W t) (LG K B ws g) D σ H := by
  obtain ⟨F, E, h, N, R, ht, c⟩ := q
  refine ⟨F, E, h, _, (N.xk E), R, ht, fun x h' F' H' a dx l R' q k => c.2.2.2.2 x h' F' E σ H' a dx l R' q k, fun d h' F' H' v l R' r k => ?_⟩
  exact ⟨F', E, h', d, _, R', r, k, fun E2 h2 F2 σ2 H2 w l2 R2 k2 => c.1 E2 h2 F2 σ2 H2 (l.trans l2) R2 k2⟩
theorem ms_asg {tg e : Expr} {ws : List Nat} {pos : Pos} {t : TVm} {g : TGm} (he : MV X W e t) (hg : MG X tg ws g) (hs : swapsWithSole [tg] e pos.line X.env = pure false := by rfl) (hw : swappedStores [tg] e X.env = pure none := by rfl)
    (h1 : (assignEach [tg] X.env).map (·.2) = [assign tg X.env] := by rfl) : MS X W (.Assign [tg] e pos) (sAsg t g) := fun B => (ps_asg (he B) (hg B) hs hw h1).impM fun _ _ _ q => asg_ok q
def sSet (i : Nat) (t : TVm) : TSm := fun N E h => t E h (fun d h' => N.nx (E.set i (some d)) h') (N.xk E)
theorem set_ok {K : Kf} {B : Hp} {t : TVm} {i : Nat} {D : Ends} {σ : L2.St} {H : Hp} (q : LS K B W (sSet i t) D σ H) : tAsg (LV K B W t) (gName i) D σ H := by
  obtain ⟨F, E, h, N, R, ht, c⟩ := q
  refine ⟨F, E, h, _, (N.xk E), R, ht, fun x h' F' H' a dx l R' q k => c.2.2.2.2 x h' F' E σ H' a dx l R' q k, fun d h' F' H' v l R' r k => ?_⟩
  exact c.1 _ h' F' _ H' l (R'.set r i) k
theorem ms_set {i : Nat} {x : Str} {e : Expr} {pos pos' : Pos} {t : TVm} (hN : X.N.Nodup) (hi : X.N[i]? = some x) (hx : Loc X.env.scope x) (he : MV X W e t) (hs : swapsWith e (some (.Name x pos')) pos.line X.env = pure false := by rfl) (hf : X.fn x = true ∨ X.env.scope.names.lookup x = some .local := by first | exact .inl rfl | exact .inr rfl | assumption) :
    MS X W (.Assign [.Name x pos'] e pos) (sSet i t) := fun B => (ps_set hN hi hx (he B) hs hf).impM fun _ _ _ q => set_ok q
/-- a, b = e1, e2 -/
def sPar (i j : Nat) (ta : TAm) : TSm := fun N E h => ta E h (fun ds h' => match ds with
  | [x, y] => N.nx ((E.set i (some x)).set j (some y)) h'
  | _ => False) (N.xk E)
theorem ms_par {i j : Nat} {x y : Str} {a b : Expr} {ta : TAm} {px py pt pos : Pos} {kt k2 pt2} (hc : X.calm = true) (hN : X.N.Nodup) (hi : X.N[i]? = some x) (hj : X.N[j]? = some y) (hij : i ≠ j)
    (hx : X.env.scope.names.lookup x = some .local) (hy : X.env.scope.names.lookup y = some .local) (ha : MA X W [a, b] ta)
    (hw : swappedStores [.Tuple [.Name x px, .Name y py] kt pt] (.Tuple [a, b] k2 pt2) X.env = pure (some [x, y]))
    (hs : swapsWithSole [.Tuple [.Name x px, .Name y py] kt pt] (.Tuple [a, b] k2 pt2) pos.line X.env = pure false := by rfl) :
    MS X W (.Assign [.Tuple [.Name x px, .Name y py] kt pt] (.Tuple [a, b] k2 pt2) pos) (sPar i j ta) := fun B => (ps_par hc hN hi hj hij hx hy (ha B) hw hs).impM fun D σ H ⟨F, E, h, N, R, ht, c⟩ => by
  refine ⟨F, E, h, _, (N.xk E), R, ht, fun x h' F' H' a dx l R' q k => c.2.2.2.2 x h' F' E σ H' a dx l R' q k, fun ds h' F' H' vs l R' r k => ?_⟩
  match ds, vs, r, k with
  | [_, _], [_, _], .cons r1 (.cons r2 .nil), k => exact ⟨_, _, rfl, c.1 _ h' F' _ H' l ((R'.set r1 i).set r2 j) k⟩
/-- x op= e by values -/
def HasIp (K : Kf) (t : TIp) (g : G2) : Prop := Has2 K t g
def sAug (i : Nat) (t : TVm) (g : G2) : TSm := fun N E h => match E[i]? with
  | some (some x) => t E h (fun y h' => g x y h' (fun r h2 => N.nx (E.set i (some r.frz)) h2)) (N.xk E)
  | _ => False
theorem ms_aug {i : Nat} {x : Str} {e : Expr} {t : TVm} {op : Operator} {ti : TIp} {g : G2} {pos pos' : Pos} (hN : X.N.Nodup) (hi : X.N[i]? = some x) (hx : Loc X.env.scope x) (he : MV X W e t) (ho : PIp X op ti) (hg : Has2 X.K ti g) (hf : X.fn x = true ∨ X.env.scope.names.lookup x = some .local := by first | exact .inl rfl | exact .inr rfl | assumption) :
    MS X W (.AugAssign (.Name x pos') op e pos) (sAug i t g) := fun B => (ps_aug hN hi hx (he B) ho hf).impM fun D σ H ⟨F, E, h, N, R, ht, c⟩ => by
  unfold sAug at ht
  cases q : E[i]? with
  | none => rw [q] at ht; exact ht.elim
  | some o =>
    cases o with
    | none => rw [q] at ht; exact ht.elim
    | some d =>
      rw [q] at ht
      obtain ⟨v, ev, rp⟩ := R.slot.get q
      refine ⟨v, ev, F, E, h, _, (N.xk E), R, ht, fun x h' F' H' a dx l R' q k => c.2.2.2.2 x h' F' E σ H' a dx l R' q k, fun y h' F' H' w l R' r k => ?_⟩
      refine hg B F' E h' σ H' d y v w _ _ R' (rp.mono l) r k fun r h2 F2 H2 z l2 R2 q2 k2 => ?_
      obtain ⟨F3, l3, R3, rp3⟩ := q2.frz R2
      exact c.1 _ h2 F3 _ H2 ((l.trans l2).trans l3) (R3.set rp3 i) k2
/-- forget names -/
def wipeE (E : En) : List Nat → En
  | [] => E
  | v :: vs => (wipeE E vs).set v none
theorem Slots.wiped {K : Kf} {F : Hp} {E : En} {σ : L2.St} (s : Slots K F E σ) : ∀ ws : List Nat, Slots K F (wipeE E ws) (wipe σ ws)
  | [] => s
  | w :: ws => (Slots.wiped s ws).gone w
theorem Slots.wiped' {K : Kf} {F : Hp} {E : En} {σ : L2.St} (s : Slots K F E σ) : ∀ ws : List Nat, Slots K F (wipeE E ws) σ
  | [] => s
  | w :: ws => (Slots.wiped' s ws).gone' w
/-- a statement behind which names are forgotten -/
def sForget (ws : List Nat) (t : TSm) : TSm := fun N E h => t { N with nx := fun E' h' => N.nx (wipeE E' ws) h' } E h
theorem ms_forget {st : Stmt} {t : TSm} (ws : List Nat) (a : MS X W st t) : MS X W st (sForget ws t) := fun B => (a B).impM fun D σ H ⟨F, E, h, N, R, ht, c⟩ =>
  ⟨F, E, h, { N with nx := fun E' h' => N.nx (wipeE E' ws) h' }, R, ht, fun E' h' F' σ' H' l R' k => c.1 _ h' F' σ' H' l (R'.slots (R'.slot.wiped' ws)) k, c.2⟩
end
end M3
set_option Elab.async false
set_option linter.all false
set_option maxRecDepth 100000
set_option maxHeartbeats 4000000
namespace M3
open PySem L2
/-! ### what is walked -/
abbrev TIm := En → MH → (List D → MH → (MH → MH) → Prop) → XKm → Prop
/-- the iterator J walks items while the state is a state over B'; back gives the state over B again -/
structure Src (K : Kf) (B F : Hp) (items : List D) (B' : Hp) (back : MH → MH) (J : It) : Prop where
  ex : ∃ (G : Hp → Prop) (Y : Nat → Hp → V → Hp → Prop), Walk J items.length G Y ∧
    (∀ B2 F2 E2 h2 σ2 H2, (∀ a o, B' a = some o → B2 a = some o) → Le F F2 → Rel K B2 F2 E2 h2 σ2 H2 → G H2) ∧
    ∀ B2 F2 E2 h2 σ2 H2 i x H3, (∀ a o, B' a = some o → B2 a = some o) → Le F F2 → Rel K B2 F2 E2 h2 σ2 H2 → i < items.length → Y i H2 x H3 → ∃ F3 d, items[i]? = some d ∧ Le F2 F3 ∧ Rel K B2 F3 E2 h2 σ2 H3 ∧ Rep K F3 d x
  bak : ∀ F2 E2 h2 σ2 H2, Le F F2 → Rel K B' F2 E2 h2 σ2 H2 → Rel K B F2 E2 (back h2) σ2 H2
  val : ∀ F2 h2 H2 r v, Le F F2 → RvOk K B' F2 h2 H2 r v → RvOk K B F2 (back h2) H2 r v
def LI (K : Kf) (B : Hp) (W : WX) (ti : TIm) : TI := fun σ H R => ∃ F E h Kn Kx, Rel K B F E h σ H ∧ ti E h Kn Kx ∧ XFin K B F E σ W Kx ∧
  ∀ items h' back F' H' B' J, Le F F' → Rel K B' F' E h' σ H' → Src K B F' items B' back J → Kn items h' back → R J H'
def MI (X : Cx) (W : WX) (tg iter : Expr) (ti : TIm) : Prop := ∀ B, PI X tg iter (LI X.K B W ti)
theorem _root_.L2.PI.impM {X : Cx} {tg e : Expr} {t t' : TI} (p : PI X tg e t) (h : ∀ σ H R, t' σ H R → t σ H R) : PI X tg e t' := ⟨fun pins s σ H R I q => p.run pins s σ H R I (h σ H R q)⟩
section
variable {X : Cx} {W : WX} {tg : Expr}
/-- a list or a tuple, whichever comes -/
def iSeq (K : Kf) (tl : TE) : TI := fun σ H R => tl σ H fun x H1 => ∃ a, x = .ref a ∧ (((∃ xs, SqL K H1 a xs) ∧ R (Itl K a) H1) ∨ ((∃ xs, SqT K H1 a xs) ∧ R (Itt K a) H1))
theorem pi_seq {l : Expr} {tl : TE} (hl : PE X l tl) : PI X tg l (iSeq X.K tl) := by
  refine ⟨fun pins s σ H R I h => ?_⟩
  refine thn (hl.run pins s σ H _ I h) fun v s1 ⟨x, H1, I1, r1, q1⟩ => ?_
  obtain ⟨a, e, q⟩ := q1
  subst e
  cases r1
  rcases q with ⟨⟨xs, hq⟩, q⟩ | ⟨⟨xs, hq⟩, q⟩
  · obtain ⟨its, rv, p, hz⟩ := I1.list hq
    refine wpAny_pyIter_list p.isList ?_
    refine ⟨s1.heap.objs.size, [s1.heap.objs.size], _, _, H1, rfl, I1.kept (t' := s1.toks) fun b o e => Heap.get?_push_of_some _ e, turn_list a _, ⟨_, Heap.get?_push_size _ rfl, rfl, rfl⟩, fun b hb => ?_, q⟩
    have e : b = s1.heap.objs.size := by simpa using hb
    subst e
    exact I1.fpOk (Nat.le_refl _) (I1.hok.fresh (Nat.le_refl _))
  · obtain ⟨its, rv, p, hz⟩ := I1.tuple hq
    refine wpAny_pyIter_tuple (show s1.heap.IsTuple a its.toArray from p) ?_
    refine ⟨s1.heap.objs.size, [s1.heap.objs.size], _, _, H1, rfl, I1.kept (t' := s1.toks) fun b o e => Heap.get?_push_of_some _ e, turn_tuple a _, ⟨_, Heap.get?_push_size _ rfl, rfl, rfl⟩, fun b hb => ?_, q⟩
    have e : b = s1.heap.objs.size := by simpa using hb
    subst e
    exact I1.fpOk (Nat.le_refl _) (I1.hok.fresh (Nat.le_refl _))
def mIter (t : TVm) : TIm := fun E h Kn Kx => t E h (fun d h' => match d with
  | .tup xs => Kn xs h' id
  | .lst xs => Kn xs h' id
  | .scr ns => Kn (ns.map D.int) h' id
  | .ref p => (match h' p with
    | some (.lst xs) => Kn xs (del h' p) (fun h2 => put h2 p (.lst xs))
    | _ => False)
  | _ => False) Kx
theorem Src.same {K : Kf} {B F : Hp} {items : List D} {J : It} {vs : List V} {G : Hp → Prop} (w : Walk J vs.length G (YAt vs)) (r : Reps K F items vs) (g : ∀ B2 F2 E2 h2 σ2 H2, Le F F2 → Rel K B2 F2 E2 h2 σ2 H2 → G H2) : Src K B F items B id J := by
  refine ⟨⟨G, YAt vs, by rw [r.len]; exact w, fun B2 F2 E2 h2 σ2 H2 _ l R => g B2 F2 E2 h2 σ2 H2 l R, ?_⟩, fun _ _ _ _ _ _ R => R, fun _ _ _ _ _ _ q => q⟩
  intro B2 F2 E2 h2 σ2 H2 i x H3 _ l R hi y
  obtain ⟨rfl, e⟩ := y
  obtain ⟨d, e2, rp⟩ := r.getV e
  exact ⟨F2, d, e2, Le.refl _, R, rp.mono l⟩
theorem Rel.hide {K : Kf} {B F : Hp} {E : En} {h : MH} {σ : L2.St} {H : Hp} (R : Rel K B F E h σ H) {p : Addr} {m : MO} {o : HO} (e : h p = some m) (eH : H p = some o) : Rel K (upd B p o) F E (del h p) σ H where
  out := fun a u q => by
    by_cases n : a = p
    · subst n
      rw [upd_same] at q
      cases q
      exact ⟨eH, R.Fh e, del_same⟩
    · rw [upd_ne n] at q
      have z := R.out a u q
      refine ⟨z.1, z.2.1, ?_⟩
      show (if a = p then none else h a) = none
      rw [if_neg n]
      exact z.2.2
  frz := fun a u q => by
    have z := R.frz a u q
    refine ⟨z.1, ?_⟩
    show (if a = p then none else h a) = none
    split
    · rfl
    · exact z.2
  cel := fun a m q => R.cel a m (del_some q).1
  slot := R.slot
  tab := fun P q' z => by
    have np := R.nh z e
    have t := R.tab P q' z
    refine ⟨t.1, (upd_ne np).trans t.2.1, t.2.2.1, ?_⟩
    show (if P = p then none else h P) = none
    rw [if_neg np]
    exact t.2.2.2
theorem Rel.show {K : Kf} {B F : Hp} {E : En} {h : MH} {σ : L2.St} {H : Hp} {p : Addr} {m : MO} {o : HO} (R : Rel K (upd B p o) F E h σ H) (b : B p = none) (c : H p = some o → Cel K F H p m) : Rel K B F E (put h p m) σ H := by
  have z := R.out p o upd_same
  have R1 : Rel K B F E h σ H := ⟨fun a u q => R.out a u (by rw [upd_ne (ne_of_none q b)]; exact q), R.frz, R.cel, R.slot, fun P q' y => by
    have t := R.tab P q' y
    refine ⟨t.1, ?_, t.2.2⟩
    cases e : B P with
    | none => rfl
    | some u =>
      have t1 := t.2.1
      rw [upd_ne (ne_of_none e b), e] at t1
      cases t1⟩
  exact R1.toC (c z.1) b z.2.1
theorem RvOk.show {K : Kf} {B F : Hp} {h : MH} {H : Hp} {p : Addr} {m : MO} {o : HO} {r : RV} {v : V} (b : B p = none) (q : RvOk K (upd B p o) F h H r v) : RvOk K B F (put h p m) H r v := by
  have aux : ∀ l, (upd B p o) l = none → B l = none ∧ l ≠ p := fun l z => by
    by_cases n : l = p
    · subst n
      rw [upd_same] at z
      cases z
    · rw [upd_ne n] at z
      exact ⟨z, n⟩
  have aux2 : ∀ l, l ≠ p → h l = none → put h p m l = none := fun l n z => by
    show (if l = p then _ else h l) = none
    rw [if_neg n]
    exact z
  cases r with
  | d x => exact q
  | ol xs =>
    obtain ⟨l, vs, e, e2, rs, q1, q2, q3⟩ := q
    exact ⟨l, vs, e, e2, rs, (aux l q1).1, q2, aux2 l (aux l q1).2 q3⟩
  | od xs =>
    obtain ⟨l, vs, e, e2, rs, q1, q2, q3⟩ := q
    exact ⟨l, vs, e, e2, rs, (aux l q1).1, q2, aux2 l (aux l q1).2 q3⟩
theorem mi_seq {l : Expr} {t : TVm} (p : MV X W l t) : MI X W tg l (mIter t) := fun B => (pi_seq (p B)).impM fun σ H Rr ⟨F, E, h, Kn, Kx, R, ht, hx, hn⟩ => by
  refine ⟨F, E, h, _, Kx, R, ht, hx, fun d h' F' H' v l R' rp k => ?_⟩
  cases rp with
  | @tup a vs ds q rs => exact ⟨_, rfl, .inr ⟨⟨_, R'.sqT q⟩, hn ds h' id F' H' B _ l R' (Src.same walk_tup rs fun _ F2 _ _ _ _ l2 R2 => R2.sqT (l2.sqT q)) k⟩⟩
  | @lst a vs ds q rs => exact ⟨_, rfl, .inl ⟨⟨_, .of (R'.frz _ _ q).1⟩, hn ds h' id F' H' B _ l R' (Src.same walk_list rs fun _ F2 _ _ _ _ l2 R2 => .of (R2.frz _ _ (l2.ls _ _ q)).1) k⟩⟩
  | @scr a ns q => exact ⟨_, rfl, .inl ⟨⟨_, R'.sqL q⟩, hn (ns.map D.int) h' id F' H' B _ l R' (Src.same walk_list (Reps.ints ns) fun _ F2 _ _ _ _ l2 R2 => R2.sqL (l2.sqL q)) k⟩⟩
  | ref a =>
    have k : (match h' a with
      | some (.lst xs) => Kn xs (del h' a) (fun h2 => put h2 a (.lst xs))
      | _ => False) := k
    cases e : h' a with
    | none => rw [e] at k; exact k.elim
    | some m =>
      rw [e] at k
      cases m with
      | lst xs =>
        obtain ⟨vs, e2, rs⟩ := R'.cel a _ e
        have b := R'.Bh e
        refine ⟨a, rfl, .inl ⟨⟨_, .of e2⟩, hn xs (del h' a) _ F' H' (upd B a (.lst vs)) _ l (R'.hide e e2) ⟨⟨fun H => SqL X.K H a vs, YAt vs, by rw [rs.len]; exact walk_list, fun B2 F2 _ _ _ _ sb _ R2 => .of (R2.out a _ (sb _ _ upd_same)).1, ?_⟩, ?_, ?_⟩ k⟩⟩
        · intro B2 F2 E2 h2 σ2 H2 i x H3 _ l2 R2 hi y
          obtain ⟨rfl, e⟩ := y
          obtain ⟨d, e2, rp⟩ := rs.getV e
          exact ⟨F2, d, e2, Le.refl _, R2, rp.mono l2⟩
        · intro F2 E2 h2 σ2 H2 l2 R2
          exact R2.show b fun z => ⟨vs, z, rs.mono l2⟩
        · intro F2 h2 H2 r v l2 q
          exact q.show b
      | dct xs => exact k.elim
      | ins C fs => exact k.elim
  | _ => exact k.elim
/-- range(n), range(a, b) -/
def rngD (lo : Int) (n : Nat) : List D := (List.range n).map fun i => D.int (lo + (i : Nat))
theorem Src.rng {K : Kf} {B F : Hp} {lo : Int} {n : Nat} : Src K B F (rngD lo n) B id (Itr lo n) := by
  have hl : (rngD lo n).length = n := by simp [rngD]
  refine ⟨⟨fun _ => True, _, by rw [hl]; exact walk_range, fun _ _ _ _ _ _ _ _ _ => True.intro, ?_⟩, fun _ _ _ _ _ _ R => R, fun _ _ _ _ _ _ q => q⟩
  intro B2 F2 E2 h2 σ2 H2 i x H3 _ l R hi y
  obtain ⟨rfl, rfl⟩ := y
  rw [hl] at hi
  exact ⟨F2, .int (lo + (i : Nat)), by simp [rngD, hi], Le.refl _, R, .int _⟩
def mRng1 (ta : TAm) : TIm := fun E h Kn Kx => ta E h (fun ds h' => match ds with
  | [.int j] => (-(2 ^ 62) ≤ j ∧ j < 2 ^ 62) ∧ Kn (rngD 0 j.toNat) h' id
  | _ => False) Kx
def mRng2 (ta : TAm) : TIm := fun E h Kn Kx => ta E h (fun ds h' => match ds with
  | [.int i, .int j] => (-(2 ^ 62) ≤ i ∧ i < 2 ^ 62 ∧ -(2 ^ 62) ≤ j ∧ j < 2 ^ 62) ∧ Kn (rngD i (j - i).toNat) h' id
  | _ => False) Kx
theorem mi_range1 {a : Expr} {ta : TAm} {p pos : Pos} (hg : Gl X "range") (hm : X.mg "range" = none) (ha : MA X W [a] ta) (hs : starEach [a] X.env = [(false, eval a X.env)] := by rfl) : MI X W tg (.Call (.Name "range" p) [a] [] pos) (mRng1 ta) := fun B =>
  (pi_range1 hg hm (ha B) hs).impM fun σ H Rr ⟨F, E, h, Kn, Kx, R, ht, hx, hn⟩ => by
    refine ⟨F, E, h, _, Kx, R, ht, hx, fun ds h' F' H' vs l R' r k => ?_⟩
    match ds, vs, r, k with
    | [.int j], [_], .cons (.int _) .nil, k => exact ⟨j, rfl, k.1.1, k.1.2, hn _ h' id F' H' B _ l R' Src.rng k.2⟩
theorem mi_range2 {a b : Expr} {ta : TAm} {p pos : Pos} (hg : Gl X "range") (hm : X.mg "range" = none) (ha : MA X W [a, b] ta) (hs : starEach [a, b] X.env = [(false, eval a X.env), (false, eval b X.env)] := by rfl) (hs2 : starEach [b] X.env = [(false, eval b X.env)] := by rfl) :
    MI X W tg (.Call (.Name "range" p) [a, b] [] pos) (mRng2 ta) := fun B =>
  (pi_range2 hg hm (ha B) hs hs2).impM fun σ H Rr ⟨F, E, h, Kn, Kx, R, ht, hx, hn⟩ => by
    refine ⟨F, E, h, _, Kx, R, ht, hx, fun ds h' F' H' vs l R' r k => ?_⟩
    match ds, vs, r, k with
    | [.int i, .int j], [_, _], .cons (.int _) (.cons (.int _) .nil), k => exact ⟨i, j, rfl, k.1, hn _ h' id F' H' B _ l R' Src.rng k.2⟩
end
/-! ### for -/
def forL (g : TGm) (tb : TSm) : List D → Nd → En → MH → Prop
  | [], N, E, h => N.nx E h
  | d :: ds, N, E, h => g d E h fun E2 h2 => tb { nx := fun E3 h3 => forL g tb ds N E3 h3, rt := N.rt, bk := N.nx, ct := fun E3 h3 => forL g tb ds N E3 h3, xs := N.xs } E2 h2
def sFor (ti : TIm) (g : TGm) (tb : TSm) : TSm := fun N E h => ti E h (fun items h' back => forL g tb items { nx := fun E2 h2 => N.nx E2 (back h2), rt := fun r h2 => N.rt r (back h2), xs := fun x E2 h2 => N.xs x E2 (back h2) } E h') (N.xk E)
section
variable {X : Cx} {W : WX}
theorem PSs.any {st : List Stmt} {t : Hp → TS} (p : ∀ B, PSs X st (t B)) : PSs X st (fun D σ H => ∃ B, t B D σ H) := ⟨fun pins s σ H D I ⟨B, q⟩ => (p B).run pins s σ H D I q⟩
theorem PG.any {e : Expr} {t : Hp → TG} (p : ∀ B, PG X e (t B)) : PG X e (fun v σ H Q => ∃ B, t B v σ H Q) := ⟨fun pins s σ H v u Q I r ⟨B, q⟩ => (p B).run pins s σ H v u Q I r q⟩
theorem PE.any {e : Expr} {t : Hp → TE} (p : ∀ B, PE X e (t B)) : PE X e (fun σ H Q => ∃ B, t B σ H Q) := ⟨fun pins s σ H Q I ⟨B, q⟩ => (p B).run pins s σ H Q I q⟩
theorem ms_for {tg iter : Expr} {body : List Stmt} {ti : TIm} {g : TGm} {tb : TSm} {ws : List Nat} {pos : Pos} (hp : PassesOwn (model X.prog X.w) X.A X.env X.xe) (hc : X.calm = true) (hi : MI X W tg iter ti) (hg : MG X tg ws g) (hb : MB X W body tb)
    (hs : ∀ x, foldedSetIterable iter X.env x = pure x := by intro _; rfl) : MS X W (.For tg iter body [] pos) (sFor ti g tb) := fun B => (ps_for hp hc (hi B) (PG.any hg) (PSs.any hb) hs).impM fun D σ H ⟨F, E, h, N, R, ht, c⟩ => by
  refine ⟨F, E, h, _, (N.xk E), R, ht, fun x h' F' H' a dx l R' q k => c.2.2.2.2 x h' F' E σ H' a dx l R' q k, fun items h' back F' H' B' J l R' S k => ?_⟩
  obtain ⟨G, Y, w, hG, hY⟩ := S.ex
  refine for_it (g := fun v σ H Q => ∃ B, LG X.K B ws g v σ H Q) (tb := fun D σ H => ∃ B, LS X.K B W tb D σ H) (D := D) w (fun i σ H => ∃ F2 E2 h2, Le F' F2 ∧ Rel X.K B' F2 E2 h2 σ H ∧ forL g tb (items.drop i) { nx := fun E2 h2 => N.nx E2 (back h2), rt := fun r h2 => N.rt r (back h2), xs := fun x E2 h2 => N.xs x E2 (back h2) } E2 h2)
    ⟨F', E, h', Le.refl _, R', k⟩ (fun i σ H _ ⟨F2, E2, h2, l2, R2, _⟩ => hG B' F2 E2 h2 σ H (fun _ _ z => z) l2 R2) ?_ ?_
  · rintro i x σ2 H2 H3 hi ⟨F2, E2, h2, l2, R2, k2⟩ y
    obtain ⟨F3, d, ed, l3, R3, rp⟩ := hY B' F2 E2 h2 σ2 H2 i x H3 (fun _ _ z => z) l2 R2 hi y
    have l3 := l2.trans l3
    have edr : items.drop i = d :: items.drop (i + 1) := by
      obtain ⟨hlt, e⟩ := List.getElem?_eq_some_iff.mp ed
      rw [List.drop_eq_getElem_cons hlt, e]
    rw [edr] at k2
    refine ⟨B', F3, E2, h2, d, _, R3, rp, k2, fun E4 h4 F4 σ4 H4 _ l4 R4 k4 => ?_⟩
    have l4 := l3.trans l4
    refine ⟨B', F4, E4, h4, _, R4, k4, ?_, ?_, ?_, ?_, ?_⟩
    · exact fun E5 h5 F5 σ5 H5 l5 R5 k5 => ⟨F5, E5, h5, l4.trans l5, R5, k5⟩
    · exact fun r h5 F5 E5 σ5 H5 v l5 R5 q5 k5 => c.2.1 r _ F5 E5 σ5 H5 v (l.trans (l4.trans l5)) (S.bak F5 E5 h5 σ5 H5 (l4.trans l5) R5) (S.val F5 h5 H5 r v (l4.trans l5) q5) k5
    · exact fun E5 h5 F5 σ5 H5 l5 R5 k5 => c.1 E5 _ F5 σ5 H5 (l.trans (l4.trans l5)) (S.bak F5 E5 h5 σ5 H5 (l4.trans l5) R5) k5
    · exact fun E5 h5 F5 σ5 H5 l5 R5 k5 => ⟨F5, E5, h5, l4.trans l5, R5, k5⟩
    · exact fun x h5 F5 E5 σ5 H5 a dx l5 R5 q5 k5 => c.2.2.2.2 x _ F5 E5 σ5 H5 a dx (l.trans (l4.trans l5)) (S.bak F5 E5 h5 σ5 H5 (l4.trans l5) R5) q5 k5
  · rintro σ2 H2 ⟨F2, E2, h2, l2, R2, k2⟩
    rw [List.drop_length] at k2
    exact c.1 E2 _ F2 σ2 H2 (l.trans l2) (S.bak F2 E2 h2 σ2 H2 l2 R2) k2
/-! ### while -/
/-- by turns: at most so many -/
def whileN (c : TTm) (tb : TSm) : Nat → Nd → En → MH → Prop
  | 0, _, _, _ => False
  | n + 1, N, E, h => c E h (fun b h' => if b = true then tb { nx := fun E2 h2 => whileN c tb n N E2 h2, rt := N.rt, bk := N.nx, ct := fun E2 h2 => whileN c tb n N E2 h2, xs := N.xs } E h' else N.nx E h') (N.xk E)
def sWhile (c : TTm) (tb : TSm) : TSm := fun N E h => ∃ n, whileN c tb n N E h
theorem ms_while {c : Expr} {body : List Stmt} {tc : TTm} {tb : TSm} {pos : Pos} (hp : PassesOwn (model X.prog X.w) X.A X.env X.xe) (hc : MT X W c tc) (hb : MB X W body tb) : MS X W (.While c body [] pos) (sWhile tc tb) := fun B => (ps_while hp (hc B) (hb B)).impM fun D σ H ⟨F, E, h, N, R, ⟨n, ht⟩, c⟩ => by
  refine ⟨fun m σ H => ∃ F2 E2 h2, Le F F2 ∧ Rel X.K B F2 E2 h2 σ H ∧ whileN tc tb m N E2 h2, ⟨n, F, E, h, Le.refl _, R, ht⟩, ?_⟩
  rintro m σ2 H2 ⟨F2, E2, h2, l2, R2, k2⟩
  cases m with
  | zero => exact k2.elim
  | succ m =>
    refine ⟨F2, E2, h2, _, (N.xk E2), R2, k2, fun x h' F' H' a dx l R' q k => c.2.2.2.2 x h' F' E2 σ2 H' a dx (l2.trans l) R' q k, fun b h3 F3 H3 l3 R3 k3 => ?_⟩
    have l3 := l2.trans l3
    cases b with
    | true =>
      refine ⟨fun σ H => ∃ F2 E2 h2, Le F F2 ∧ Rel X.K B F2 E2 h2 σ H ∧ whileN tc tb m N E2 h2, fun σ' H' q => ⟨m, Nat.lt_succ_self m, q⟩, ?_⟩
      refine ⟨F3, E2, h3, _, R3, k3, ?_, ?_, ?_, ?_, ?_⟩
      · exact fun E5 h5 F5 σ5 H5 l5 R5 k5 => ⟨F5, E5, h5, l3.trans l5, R5, k5⟩
      · exact fun r h5 F5 E5 σ5 H5 v l5 R5 q5 k5 => c.2.1 r _ F5 E5 σ5 H5 v (l3.trans l5) R5 q5 k5
      · exact fun E5 h5 F5 σ5 H5 l5 R5 k5 => c.1 E5 _ F5 σ5 H5 (l3.trans l5) R5 k5
      · exact fun E5 h5 F5 σ5 H5 l5 R5 k5 => ⟨F5, E5, h5, l3.trans l5, R5, k5⟩
      · exact fun x h5 F5 E5 σ5 H5 a dx l5 R5 q5 k5 => c.2.2.2.2 x _ F5 E5 σ5 H5 a dx (l3.trans l5) R5 q5 k5
    | false => exact c.1 E2 h3 F3 σ2 H3 l3 R3 k3
end
/-! ### comprehensions -/
abbrev W0 : WX := fun _ _ _ _ => False
def xNo : XKm := fun _ _ => False
def lcL (g : TGm) (tt : TTm) (te : TVm) (E : En) : List D → List D → MH → (List D → MH → Prop) → Prop
  | [], acc, h, k => k acc h
  | d :: ds, acc, h, k => g d E h fun E2 h2 => tt E2 h2 (fun b h3 => if b = true then te E2 h3 (fun y h4 => acc.length < sizeLine ∧ lcL g tt te E ds (acc ++ [y]) h4 k) xNo else lcL g tt te E ds acc h3 k) xNo
def mLc (ti : TIm) (g : TGm) (tt : TTm) (te : TVm) (ws : List Nat) : TEm := fun E h Kn Kx => ti E h (fun items h' back => lcL g tt te (wipeE E ws) items [] h' fun acc h2 => Kn (.ol acc) (back h2)) Kx
def mYes : TTm := fun _ h Kn _ => Kn true h
def MTs (X : Cx) (W : WX) (ifs : List Expr) (t : TTm) : Prop := ∀ B, PTs X ifs (LT X.K B W t)
theorem _root_.L2.PTs.impM {X : Cx} {e : List Expr} {t t' : TT} (p : PTs X e t) (h : ∀ σ H Q, t' σ H Q → t σ H Q) : PTs X e t' := ⟨fun pins s σ H Q I q => p.run pins s σ H Q I (h σ H Q q)⟩
theorem mts_nil {X : Cx} {W : WX} : MTs X W [] mYes := fun B => pts_nil.impM fun σ H Q ⟨F, E, h, Kn, Kx, R, ht, hx, hn⟩ => hn true h F H (Le.refl F) R ht
theorem mts_one {X : Cx} {W : WX} {c : Expr} {t : TTm} (p : MT X W c t) : MTs X W [c] t := fun B => pts_one (p B)
theorem PTs.any {X : Cx} {e : List Expr} {t : Hp → TT} (p : ∀ B, PTs X e (t B)) : PTs X e (fun σ H Q => ∃ B, t B σ H Q) := ⟨fun pins s σ H Q I ⟨B, q⟩ => (p B).run pins s σ H Q I q⟩
section
variable {X : Cx} {W : WX}
theorem wipe_wipe {σ : L2.St} : ∀ {ws : List Nat}, wipe (wipe σ ws) ws = wipe σ ws := by
  have hmem : ∀ (us ws : List Nat) (σ : L2.St), (∀ u ∈ us, u ∈ ws) → wipe (wipe σ us) ws = wipe σ ws := by
    intro us
    induction us with
    | nil => intro _ _ _; rfl
    | cons u us ih =>
      intro ws σ h
      show wipe ((wipe σ us).set u none) ws = _
      rw [wipe_set (h u List.mem_cons_self)]
      exact ih ws σ fun v hv => h v (List.mem_cons_of_mem _ hv)
  intro ws
  exact hmem ws ws σ fun _ h => h
theorem lc_ok {K : Kf} {B : Hp} {ti : TIm} {g : TGm} {tt : TTm} {te : TVm} {ws : List Nat} {σ : L2.St} {H : Hp} {Q : VK} (q : LE K B W (mLc ti g tt te ws) σ H Q) :
    tLc (LI K B W ti) (fun v σ H Q => ∃ B, LG K B ws g v σ H Q) (fun σ H Q => ∃ B, LT K B W0 tt σ H Q) (fun σ H Q => ∃ B, LV K B W0 te σ H Q) ws σ H Q := by
  obtain ⟨F, E, h, Kn, Kx, R, ht, hx, hn⟩ := q
  refine ⟨F, E, h, _, Kx, R, ht, hx, fun items h' back F' H' B' J l R' S k => ?_⟩
  obtain ⟨G, Y, w, hG, hY⟩ := S.ex
  intro D nD
  refine lc_it (g := fun v σ H Q => ∃ B, LG K B ws g v σ H Q) (tt := fun σ H Q => ∃ B, LT K B W0 tt σ H Q) (te := fun σ H Q => ∃ B, LV K B W0 te σ H Q) (vs := ws) (σ := σ) (Qd := fun H => Q (.ref D) H) w (fun i H => ∃ F2 h2 acc vs, Le F' F2 ∧ acc.length ≤ sizeLine ∧ Rel K (upd B' D (.lst vs)) F2 (wipeE E ws) h2 (wipe σ ws) H ∧ B' D = none ∧ Reps K F2 acc vs ∧ lcL g tt te (wipeE E ws) (items.drop i) acc h2 fun acc h2 => Kn (.ol acc) (back h2)) ?_ ?_ ?_ ?_
  · have R2 : Rel K B' F' (wipeE E ws) h' (wipe σ ws) (upd H' D (.lst [])) := (R'.slots (R'.slot.wiped ws)).newO nD
    refine ⟨F', h', [], [], Le.refl _, Nat.zero_le _, ⟨fun a u e => ?_, R2.frz, R2.cel, R2.slot, fun P q' z => ⟨(R2.tab P q' z).1, (upd_ne (R'.nn z nD)).trans (R2.tab P q' z).2.1, (R2.tab P q' z).2.2⟩⟩, R'.noB nD, .nil, k⟩
    by_cases n : a = D
    · subst n
      rw [upd_same] at e
      cases e
      exact ⟨upd_same, R'.noF nD, R'.noh nD⟩
    · rw [upd_ne n] at e
      exact R2.out a u e
  · rintro i H _ ⟨F2, h2, acc, vs, l2, _, R2, bD, _⟩
    exact hG _ F2 _ h2 _ _ (fun a o z => by rw [upd_ne (ne_of_none z bD)]; exact z) l2 R2
  · rintro i x H2 H3 hi ⟨F2, h2, acc, vs, l2, hz, R2, bD, rs, k2⟩ y
    obtain ⟨F3, d, ed, l3, R3, rp⟩ := hY _ F2 _ h2 _ H2 i x H3 (fun a o z => by rw [upd_ne (ne_of_none z bD)]; exact z) l2 R2 hi y
    have edr : items.drop i = d :: items.drop (i + 1) := by
      obtain ⟨hlt, e⟩ := List.getElem?_eq_some_iff.mp ed
      rw [List.drop_eq_getElem_cons hlt, e]
    rw [edr] at k2
    refine ⟨_, F3, _, h2, d, _, R3, rp, k2, fun E4 h4 F4 σ4 H4 w4 l4 R4 k4 => ⟨by rw [w4, wipe_wipe], ?_⟩⟩
    refine ⟨_, F4, E4, h4, _, xNo, R4, k4, fun x h' F' H' c dx _ _ _ z => z.elim, fun b h5 F5 H5 l5 R5 k5 => ?_⟩
    have keep : ∀ {F6 : Hp} {h6 : MH} {E6 : En} {H6 : Hp} {vs' : List V}, Le F4 F6 → Rel K (upd B' D (.lst vs')) F6 E6 h6 σ4 H6 → Rel K (upd B' D (.lst vs')) F6 (wipeE E ws) h6 (wipe σ ws) H6 := fun {F6 h6 E6 H6 vs'} l6 R6 =>
      R6.slots ((R'.slot.wiped ws).mono (((l2.trans l3).trans l4).trans l6))
    have lx := (l2.trans l3).trans l4
    cases b with
    | false => exact ⟨F5, h5, acc, vs, lx.trans l5, hz, keep l5 R5, bD, rs.mono ((l3.trans l4).trans l5), k5⟩
    | true =>
      refine ⟨_, F5, E4, h5, _, xNo, R5, k5, fun x h' F' H' c dx _ _ _ z => z.elim, fun y h6 F6 H6 u l6 R6 r6 k6 => ?_⟩
      have rs6 := rs.mono (((l3.trans l4).trans l5).trans l6)
      refine ⟨vs, (R6.out D _ upd_same).1, by rw [← rs.len]; exact k6.1, F6, h6, acc ++ [y], vs ++ [u], lx.trans (l5.trans l6), ?_, ?_, bD, rs6.app (.cons r6 .nil), k6.2⟩
      · rw [List.length_append]
        exact k6.1
      · have R7 := keep (l5.trans l6) R6
        have zD := R7.out D _ upd_same
        refine ⟨fun a o z => ?_, fun a o z => ?_, fun a m z => ?_, R7.slot, fun P q' z => ?_⟩
        · by_cases n : a = D
          · subst n
            rw [upd_same] at z ⊢
            exact ⟨z, zD.2⟩
          · rw [upd_ne n] at z ⊢
            exact R7.out a o (by rw [upd_ne n]; exact z)
        · have n : a ≠ D := ne_of_none z zD.2.1
          rw [upd_ne n]
          exact R7.frz a o z
        · have n : a ≠ D := fun q => by
            rw [q, zD.2.2] at z
            cases z
          exact (R7.cel a m z).mono (Le.refl _) (upd_ne n)
        · have np : P ≠ D := R7.nt z zD.1 (by intro _ y; cases y)
          have t := R7.tab P q' z
          have b := t.2.1
          rw [upd_ne np] at b
          exact ⟨t.1.mono (Le.refl _) (upd_ne np), (upd_ne np).trans b, t.2.2⟩
  · rintro H2 ⟨F2, h2, acc, vs, l2, hz, R2, bD, rs, k2⟩
    rw [List.drop_length] at k2
    have zD := R2.out D _ upd_same
    have R2' : Rel K B' F2 (wipeE E ws) h2 (wipe σ ws) H2 := ⟨fun a u e => R2.out a u (by rw [upd_ne (ne_of_none e bD)]; exact e), R2.frz, R2.cel, R2.slot, fun P q' z => by
      have np : P ≠ D := R2.nt z zD.1 (by intro _ y; cases y)
      have t := R2.tab P q' z
      have b := t.2.1
      rw [upd_ne np] at b
      exact ⟨t.1, b, t.2.2⟩⟩
    have R3 : Rel K B' F2 E h2 σ H2 := R2'.slots (R'.slot.mono l2)
    exact hn (.ol acc) _ F2 H2 (.ref D) (l.trans l2) (S.bak F2 E h2 σ H2 l2 R3) (S.val F2 h2 H2 (.ol acc) _ l2 ⟨D, vs, rfl, zD.1, rs, bD, zD.2.1, zD.2.2⟩) k2
end
end M3
set_option Elab.async false
set_option linter.all false
set_option maxRecDepth 100000
set_option maxHeartbeats 4000000
namespace M3
open PySem PySem.Spec PyProof.Rows L2
section
variable {X : Cx} {W : WX}
/-! ### comprehensions, as values and as statements -/
theorem me_lc {elt tg iter : Expr} {ifs : List Expr} {scope : Scope} {own : List (Str × Nat)} {pos : Pos} {ti : TIm} {g : TGm} {tt : TTm} {te : TVm} (hc : X.calm = true) (hN : X.N.Nodup) (hi : MI X W tg iter ti) (ok : BlkOk X.N X.env.scope scope own)
    (hg : ∀ (s : Shared) (H : Hp) (C : Addr) (cl : List (Str × Addr)) (fp : List Addr), MG (X.blk s H scope (compEnvC scope cl C X.env) fp) tg (own.map (·.2)) g) (ht : ∀ (s : Shared) (H : Hp) (C : Addr) (cl : List (Str × Addr)) (fp : List Addr), MTs (X.blk s H scope (compEnvC scope cl C X.env) fp) W0 ifs tt)
    (he : ∀ (s : Shared) (H : Hp) (C : Addr) (cl : List (Str × Addr)) (fp : List Addr), MV (X.blk s H scope (compEnvC scope cl C X.env) fp) W0 elt te) (hs : ∀ x, foldedSetIterable iter X.env x = pure x := by intro _; rfl) :
    ME X W (.ListComp elt [⟨tg, iter, ifs, 0⟩] scope pos) (mLc ti g tt te (own.map (·.2))) := fun B =>
  (pe_lc hc hN (hi B) ok (fun s H C cl fp => PG.any (X := X.blk s H scope (compEnvC scope cl C X.env) fp) (e := tg) (t := fun B => LG X.K B (List.map (fun (p : Str × Nat) => p.2) own) g) (hg s H C cl fp)) (fun s H C cl fp => PTs.any (t := fun B => LT X.K B W0 tt) (ht s H C cl fp)) (fun s H C cl fp => PE.any (t := fun B => LV X.K B W0 te) (he s H C cl fp)) hs).impM fun _ _ _ q => lc_ok q
theorem frz_ok {K : Kf} {B : Hp} {t : TEm} {σ : L2.St} {H : Hp} {Q : VK} (q : LV K B W (frzV t) σ H Q) : LE K B W t σ H Q := by
  obtain ⟨F, E, h, Kn, Kx, R, ht, hx, hn⟩ := q
  exact ⟨F, E, h, _, Kx, R, ht, hx, fun r h' F' H' v l R' q k => by
    obtain ⟨F2, l2, R2, rp⟩ := q.frz R'
    exact hn _ h' F2 H' v (l.trans l2) R2 rp k⟩
theorem cell_ok {K : Kf} {B : Hp} {t : TEm} {σ : L2.St} {H : Hp} {Q : VK} (q : LE K B W (mCell t) σ H Q) : LE K B W t σ H Q := by
  obtain ⟨F, E, h, Kn, Kx, R, ht, hx, hn⟩ := q
  exact ⟨F, E, h, _, Kx, R, ht, hx, fun r h' F' H' v l R' q k => by
    cases r with
    | d x => exact hn (.d x) h' F' H' v l R' q k
    | ol xs =>
      obtain ⟨a, vs, rfl, e, rs, b, f, n⟩ := q
      exact hn (.d (.ref a)) _ F' H' _ l (R'.toC (m := .lst xs) ⟨vs, e, rs⟩ b f) (.ref a) (k a n)
    | od xs =>
      obtain ⟨a, vs, rfl, e, rs, b, f, n⟩ := q
      exact hn (.d (.ref a)) _ F' H' _ l (R'.toC (m := .dct xs) ⟨vs, e, rs⟩ b f) (.ref a) (k a n)⟩
/-- t' tells of t -/
def Via (W : WX) (t' t : TEm) : Prop := ∀ K B σ H Q, LE K B W t' σ H Q → LE K B W t σ H Q
theorem via_id {t : TEm} : Via W t t := fun _ _ _ _ _ q => q
theorem via_cell {t : TEm} : Via W (mCell t) t := fun _ _ _ _ _ q => cell_ok q
theorem ms_setLc {i : Nat} {y : Str} {py : Pos} {elt tg iter : Expr} {ifs : List Expr} {scope : Scope} {own : List (Str × Nat)} {pos spos : Pos} {ti : TIm} {g : TGm} {tt : TTm} {te : TVm} {t' : TEm} (hc : X.calm = true) (hN : X.N.Nodup) (hy : X.N[i]? = some y) (hyl : X.env.scope.names.lookup y = some .local)
    (hsw : swapsWith (.ListComp elt [⟨tg, iter, ifs, 0⟩] scope pos) (some (.Name y py)) spos.line X.env = pure true) (hi : MI X W tg iter ti) (ok : BlkOk X.N X.env.scope scope own)
    (hg : ∀ (s : Shared) (H : Hp) (C : Addr) (cl : List (Str × Addr)) (fp : List Addr), MG (X.blk s H scope (compEnvC scope cl C X.env) fp) tg (own.map (·.2)) g) (ht : ∀ (s : Shared) (H : Hp) (C : Addr) (cl : List (Str × Addr)) (fp : List Addr), MTs (X.blk s H scope (compEnvC scope cl C X.env) fp) W0 ifs tt)
    (he : ∀ (s : Shared) (H : Hp) (C : Addr) (cl : List (Str × Addr)) (fp : List Addr), MV (X.blk s H scope (compEnvC scope cl C X.env) fp) W0 elt te) (via : Via W t' (mLc ti g tt te (own.map (·.2)))) (hs : ∀ x, foldedSetIterable iter X.env x = pure x := by intro _; rfl) :
    MS X W (.Assign [.Name y py] (.ListComp elt [⟨tg, iter, ifs, 0⟩] scope pos) spos) (sSet i (frzV t')) := fun B =>
  (ps_setLc hc hN hy hyl hsw (hi B) ok (fun s H C cl fp => PG.any (X := X.blk s H scope (compEnvC scope cl C X.env) fp) (e := tg) (t := fun B => LG X.K B (List.map (fun (p : Str × Nat) => p.2) own) g) (hg s H C cl fp)) (fun s H C cl fp => PTs.any (t := fun B => LT X.K B W0 tt) (ht s H C cl fp)) (fun s H C cl fp => PE.any (t := fun B => LV X.K B W0 te) (he s H C cl fp)) hs).impM fun _ _ _ q => lc_ok (via _ _ _ _ _ (frz_ok (set_ok q)))

/-! ### what a def promises, over data -/
abbrev MSp := List D → MH → (RV → MH → Prop) → XKm → Prop
def LSp (K : Kf) (sp : MSp) : Sp := fun vs H Q Ex => ∃ B F h ds Kn Kx, Rel K B F [] h [] H ∧ Reps K F ds vs ∧ sp ds h Kn Kx ∧
  (∀ r h' F' H' v, Le F F' → Rel K B F' [] h' [] H' → RvOk K B F' h' H' r v → Kn r h' → Q v H') ∧
  (∀ x h' F' H' c dx, Le F F' → Rel K B F' [] h' [] H' → XOk K F' x c dx → Kx x h' → Ex c dx H')
abbrev FM (P : Program) (w : World) (K : Kf) (mg : Str → Option Value) (base : Heap) (k : Nat) (f : Addr) (fd : FuncData) (ps : List Str) (sp : MSp) : Prop := FnOk P w K mg base (L2.CX P w) k f fd ps (LSp K sp)
theorem sp_ok {K : Kf} {B F : Hp} {E : En} {h : MH} {σ : L2.St} {H : Hp} {ds : List D} {vs : List V} {sp : MSp} {Kn : RV → MH → Prop} {Kx : XKm} {Q : VK} (R : Rel K B F E h σ H) (r : Reps K F ds vs) (k : sp ds h Kn Kx)
    (hx : XFin K B F E σ W Kx) (hn : ∀ r h' F' H' v, Le F F' → Rel K B F' E h' σ H' → RvOk K B F' h' H' r v → Kn r h' → Q v H') : LSp K sp vs H Q (WE W σ) :=
  ⟨B, F, h, ds, Kn, Kx, R.slots .nil, r, k, fun r h' F' H' v l R' q k => hn r h' F' H' v l (R'.slots (R.slot.mono l)) q k, fun x h' F' H' c dx l R' q k => hx x h' F' H' c dx l (R'.slots (R.slot.mono l)) q k⟩
def mFun (sp : MSp) (dds : List D) (t : TAm) : TEm := fun E h Kn Kx => t E h (fun ds h' => sp (ds ++ dds) h' Kn Kx) Kx
variable {k : Nat} {f C : Addr} {fd : FuncData} {ps : List Str} {sp : MSp} {dvs : List V} {ds : List Value} {dds : List D} {x m : Str} {p pos apos : Pos} {e o : Expr} {es : List Expr} {t : TAm} {to : TVm}
theorem me_call (F : FM X.prog X.w X.K X.mg X.base k f fd ps sp) (hr : Room k X.A) (hg : Gl X x) (hm : X.mg x = some (.ref f)) (hk : PySem.W.keepIn X.K (.ref f) = true) (hb : Binds X.K fd ps ds) (hd : Vals dvs ds) (hdd : ∀ K F, Reps K F dds dvs) (tk : Takes X W)
    (ha : MA X W (e :: es) t) (hdb : (x == ("__debug__" : Str)) = false := by decide) (he : starEach (e :: es) X.env = (false, eval e X.env) :: starEach es X.env := by rfl) (hpl : (backTo pos (starEach es X.env)).any (·.1) = false := by rfl) :
    ME X W (.Call (.Name x p) (e :: es) [] pos) (mFun sp dds t) := fun B => (pe_callSD (E := WE W) F hr hg hm hk hb hd (fun σ => passAt tk σ) (ha B) hdb he hpl).impM fun σ H Q ⟨F, E, h, Kn, Kx, R, ht, hx, hn⟩ => by
  refine ⟨F, E, h, _, Kx, R, ht, hx, fun ds' h' F' H' vs l R' r k => ?_⟩
  exact sp_ok R' (r.app (hdd _ _)) k (hx.up l) fun r h2 F2 H2 v l2 R2 q2 k2 => hn r h2 F2 H2 v (l.trans l2) R2 q2 k2
theorem call0_S {sp : Sp} {E : L2.St → XK} (F : FnOk X.prog X.w X.K X.mg X.base (L2.CX X.prog X.w) k f fd ps sp) (hr : Room k X.A) (hg : Gl X x) (hm : X.mg x = some (.ref f)) (hk : PySem.W.keepIn X.K (.ref f) = true) (hb : Binds X.K fd ps ds) (hd : Vals dvs ds) (hx : ∀ σ, PassesAt (L2.CX X.prog X.w) X σ (E σ))
    (hdb : (x == ("__debug__" : Str)) = false := by decide) : PE X (.Call (.Name x p) [] [] pos) (tCallSD sp dvs E tNil) := by
  refine ⟨fun pins s σ H Q I h => ?_⟩
  refine wpAny_Call_Name_kw (ld_glob I hg hm ?_ hdb)
  exact PySem.W.callWith_K0 I.kIn hk (run_fnSD (us := []) F hr hb hd (hx σ) I .nil h)
theorem me_call0 (F : FM X.prog X.w X.K X.mg X.base k f fd ps sp) (hr : Room k X.A) (hg : Gl X x) (hm : X.mg x = some (.ref f)) (hk : PySem.W.keepIn X.K (.ref f) = true) (hb : Binds X.K fd ps ds) (hd : Vals dvs ds) (hdd : ∀ K F, Reps K F dds dvs) (tk : Takes X W)
    (hdb : (x == ("__debug__" : Str)) = false := by decide) : ME X W (.Call (.Name x p) [] [] pos) (mFun sp dds mNil) := fun B => (call0_S (E := WE W) F hr hg hm hk hb hd (fun σ => passAt tk σ) hdb).impM fun σ H Q ⟨F, E, h, Kn, Kx, R, ht, hx, hn⟩ => by
  exact sp_ok (ds := [] ++ dds) (vs := [] ++ dvs) R (hdd _ _) ht hx hn
/-! methods -/
def tMethS (C : Addr) (m : Str) (sp : Sp) (dvs : List V) (E : L2.St → XK) (ta : TE) (t : TA) : TE := fun σ H Q => ta σ H fun x H1 => ∃ a dx fs, x = .ref a ∧ H1 a = some (.ins C dx fs) ∧ fs.lookup m = none ∧
  t σ H1 fun vs H2 => sp (x :: (vs ++ dvs)) H2 Q (E σ)
theorem meth_S {sp : Sp} {E : L2.St → XK} {ta : TE} {t : TA} {pl : Sem Bool} (he : PE X o ta) (c : Cls X.K C) (hm : Meth X.K C m f) (F : FnOk X.prog X.w X.K X.mg X.base (L2.CX X.prog X.w) k f fd ps sp) (hr : Room k X.A) (hb : Binds X.K fd ps ds) (hd : Vals dvs ds) (hx : ∀ σ, PassesAt (L2.CX X.prog X.w) X σ (E σ)) (ha : PA X (e :: es) t)
    (hst : starEach (e :: es) X.env = (false, eval e X.env) :: starEach es X.env := by rfl) (hpl : (backTo pos (starEach es X.env)).any (·.1) = false := by rfl)
    (ht : eval (.Call (.Attribute o m apos) (e :: es) [] pos) X.env = (do
      let ov ← eval o X.env
      standAt apos.atName
      let (f, first) ← holding [ov] (getMethod ov m pl)
      callWith pos f first (backTo pos (starEach (e :: es) X.env)) (backToKw pos (keywordEach [] X.env))) := by rfl) :
    PE X (.Call (.Attribute o m apos) (e :: es) [] pos) (tMethS C m sp dvs E ta t) := by
  refine ⟨fun pins s σ H Q I h => ?_⟩
  refine PySem.W.methodCall_KW (pl := pl) (thn (he.run pins s σ H _ I h) fun u s1 ⟨x, H1, I1, rx, a, dx, fs, ex, ea, l, q⟩ => ?_) ht
  subst ex
  obtain rfl : u = Value.ref a := rx
  refine getmeth_ok I1 ea c hm l ?_
  refine PySem.W.callWith_K (first := [.ref a]) (h₀ := X.base) I.ok.mod.kin hm.kp (thn (ha.run pos pins s1 σ H1 _ I1 q) fun us s2 ⟨vs, H2, I2, r, q2⟩ => ⟨I2.kIn, ?_⟩) hst hpl
  exact run_fnSD (us := .ref a :: us) (vs := .ref a :: vs) F hr hb hd (hx σ) I2 (.cons rfl r) q2
theorem meth0_S {sp : Sp} {E : L2.St → XK} {ta : TE} {pl : Sem Bool} (he : PE X o ta) (c : Cls X.K C) (hm : Meth X.K C m f) (F : FnOk X.prog X.w X.K X.mg X.base (L2.CX X.prog X.w) k f fd ps sp) (hr : Room k X.A) (hb : Binds X.K fd ps ds) (hd : Vals dvs ds) (hx : ∀ σ, PassesAt (L2.CX X.prog X.w) X σ (E σ))
    (ht : eval (.Call (.Attribute o m apos) [] [] pos) X.env = (do
      let ov ← eval o X.env
      standAt apos.atName
      let (f, first) ← holding [ov] (getMethod ov m pl)
      callWith pos f first (backTo pos (starEach [] X.env)) (backToKw pos (keywordEach [] X.env))) := by rfl) :
    PE X (.Call (.Attribute o m apos) [] [] pos) (tMethS C m sp dvs E ta tNil) := by
  refine ⟨fun pins s σ H Q I h => ?_⟩
  refine PySem.W.methodCall_KW (pl := pl) (thn (he.run pins s σ H _ I h) fun u s1 ⟨x, H1, I1, rx, a, dx, fs, ex, ea, l, q⟩ => ?_) ht
  subst ex
  obtain rfl : u = Value.ref a := rx
  refine getmeth_ok I1 ea c hm l ?_
  exact PySem.W.callWith_K0 (first := [.ref a]) I1.kIn hm.kp (run_fnSD (us := [.ref a]) (vs := [.ref a]) F hr hb hd (hx σ) I1 (.cons rfl .nil) q)
theorem RepF.none {K : Kf} {F : Hp} {n : Str} : ∀ {fs : List (Str × D)} {ws : List (Str × V)}, RepF K F fs ws → fs.lookup n = none → ws.lookup n = none
  | _, _, .nil, _ => rfl
  | (k, d) :: fs, (_, v) :: ws, .cons _ r, h => by
    rw [List.lookup_cons] at h ⊢
    cases e : n == k with
    | true => rw [e] at h; cases h
    | false =>
      rw [e] at h
      exact RepF.none r h
theorem RepF.some {K : Kf} {F : Hp} {n : Str} {d : D} : ∀ {fs : List (Str × D)} {ws : List (Str × V)}, RepF K F fs ws → fs.lookup n = some d → ∃ v, ws.lookup n = some v ∧ Rep K F d v
  | (k, d) :: fs, (_, v) :: ws, .cons a r, h => by
    rw [List.lookup_cons] at h ⊢
    cases e : n == k with
    | true =>
      rw [e] at h
      cases h
      exact ⟨v, rfl, a⟩
    | false =>
      rw [e] at h
      exact RepF.some r h
/-- the cell of an instance -/
def onIns (h : MH) (d : D) (C : Addr) (k : Addr → List (Str × D) → Prop) : Prop := match d with
  | .ref a => (match h a with
    | .some (.ins C' fs) => C' = C ∧ k a fs
    | _ => False)
  | _ => False
theorem ins_of {K : Kf} {B F : Hp} {E : En} {h : MH} {σ : L2.St} {H : Hp} {d : D} {v : V} {C : Addr} {k : Addr → List (Str × D) → Prop} (R : Rel K B F E h σ H) (r : Rep K F d v) (q : onIns h d C k) :
    ∃ a fs dx ws, v = .ref a ∧ d = .ref a ∧ h a = Option.some (.ins C fs) ∧ H a = Option.some (.ins C dx ws) ∧ RepF K F fs ws ∧ k a fs := by
  cases r with
  | ref a =>
    have q : (match h a with
      | Option.some (.ins C' fs) => C' = C ∧ k a fs
      | _ => False) := q
    cases e : h a with
    | none => rw [e] at q; exact q.elim
    | some m =>
      rw [e] at q
      cases m with
      | ins C' fs =>
        obtain ⟨rfl, q2⟩ := q
        obtain ⟨dx, ws, e2, rs⟩ := R.cel a _ e
        exact ⟨a, fs, dx, ws, rfl, rfl, e, e2, rs, q2⟩
      | lst xs => exact q.elim
      | dct xs => exact q.elim
  | _ => exact q.elim
def mMeth (C : Addr) (m : Str) (sp : MSp) (dds : List D) (to : TVm) (t : TAm) : TEm := fun E h Kn Kx => to E h (fun d h' => onIns h' d C fun _ fs => fs.lookup m = none ∧ t E h' (fun ds h2 => sp (d :: (ds ++ dds)) h2 Kn Kx) Kx) Kx
theorem meth_ok {K : Kf} {B : Hp} {σ : L2.St} {H : Hp} {Q : VK} (hdd : ∀ K F, Reps K F dds dvs) (q : LE K B W (mMeth C m sp dds to t) σ H Q) : tMethS C m (LSp K sp) dvs (WE W) (LV K B W to) (LA K B W t) σ H Q := by
  obtain ⟨F, E, h, Kn, Kx, R, ht, hx, hn⟩ := q
  refine ⟨F, E, h, _, Kx, R, ht, hx, fun d h' F' H' v l R' rp k => ?_⟩
  obtain ⟨a, fs, dx, ws, rfl, rfl, ea, eH, rs, hl, k⟩ := ins_of R' rp k
  refine ⟨a, dx, ws, rfl, eH, RepF.none rs hl, F', E, h', _, Kx, R', k, hx.up l, fun ds2 h2 F2 H2 vs2 l2 R2 r2 k2 => ?_⟩
  exact sp_ok R2 (.cons (rp.mono l2) (r2.app (hdd _ _))) k2 (hx.up (l.trans l2)) fun r h2 F2 H2 v l3 R2 q2 k2 => hn r h2 F2 H2 v ((l.trans l2).trans l3) R2 q2 k2
theorem me_meth {pl : Sem Bool} (he : MV X W o to) (c : Cls X.K C) (hm : Meth X.K C m f) (F : FM X.prog X.w X.K X.mg X.base k f fd ps sp) (hr : Room k X.A) (hb : Binds X.K fd ps ds) (hd : Vals dvs ds) (hdd : ∀ K F, Reps K F dds dvs) (tk : Takes X W) (ha : MA X W (e :: es) t)
    (hst : starEach (e :: es) X.env = (false, eval e X.env) :: starEach es X.env := by rfl) (hpl : (backTo pos (starEach es X.env)).any (·.1) = false := by rfl)
    (ht : eval (.Call (.Attribute o m apos) (e :: es) [] pos) X.env = (do
      let ov ← eval o X.env
      standAt apos.atName
      let (f, first) ← holding [ov] (getMethod ov m pl)
      callWith pos f first (backTo pos (starEach (e :: es) X.env)) (backToKw pos (keywordEach [] X.env))) := by rfl) :
    ME X W (.Call (.Attribute o m apos) (e :: es) [] pos) (mMeth C m sp dds to t) := fun B => (meth_S (E := WE W) (he B) c hm F hr hb hd (fun σ => passAt tk σ) (ha B) hst hpl ht).impM fun _ _ _ q => meth_ok hdd q
theorem me_meth0 {pl : Sem Bool} (he : MV X W o to) (c : Cls X.K C) (hm : Meth X.K C m f) (F : FM X.prog X.w X.K X.mg X.base k f fd ps sp) (hr : Room k X.A) (hb : Binds X.K fd ps ds) (hd : Vals dvs ds) (hdd : ∀ K F, Reps K F dds dvs) (tk : Takes X W)
    (ht : eval (.Call (.Attribute o m apos) [] [] pos) X.env = (do
      let ov ← eval o X.env
      standAt apos.atName
      let (f, first) ← holding [ov] (getMethod ov m pl)
      callWith pos f first (backTo pos (starEach [] X.env)) (backToKw pos (keywordEach [] X.env))) := by rfl) :
    ME X W (.Call (.Attribute o m apos) [] [] pos) (mMeth C m sp dds to mNil) := fun B => (meth0_S (E := WE W) (he B) c hm F hr hb hd (fun σ => passAt tk σ) ht).impM fun _ _ _ ⟨F, E, h, Kn, Kx, R, ht, hx, hn⟩ => by
  refine ⟨F, E, h, _, Kx, R, ht, hx, fun d h' F' H' v l R' rp k => ?_⟩
  obtain ⟨a, fs, dx, ws, rfl, rfl, ea, eH, rs, hl, k⟩ := ins_of R' rp k
  refine ⟨a, dx, ws, rfl, eH, RepF.none rs hl, ?_⟩
  exact sp_ok (ds := .ref a :: ([] ++ dds)) (vs := .ref a :: ([] ++ dvs)) R' (.cons rp (hdd _ _)) k (hx.up l) fun r h2 F2 H2 v l3 R2 q2 k2 => hn r h2 F2 H2 v (l.trans l3) R2 q2 k2
/-! C(..): a new instance -/
def tMakeS (C : Addr) (sp : Sp) (dvs : List V) (E : L2.St → XK) (t : TA) : TE := fun σ H Q => t σ H fun vs H1 => ∀ x dx, H1 x = none → H1 dx = none → dx ≠ x →
  sp (.ref x :: (vs ++ dvs)) (upd (upd H1 dx (.own x)) x (.ins C dx [])) (fun v H2 => v = .non ∧ Q (.ref x) H2) (E σ)
theorem run_makeS {sp : Sp} {E : XK} {pins : List (Addr × Obj)} {σ : L2.St} {H : Hp} {s : Shared} {Q : VK} {us : List Value} {vs : List V} (M : Mk X.K C f) (F : FnOk X.prog X.w X.K X.mg X.base (L2.CX X.prog X.w) k f fd ps sp) (hr : Room (k + 1) X.A) (hb : Binds X.K fd ps ds) (hd : Vals dvs ds)
    (hx : PassesAt (L2.CX X.prog X.w) X σ E) (I : Inv X pins σ H s) (r : Vals vs us)
    (h : ∀ x dx, H x = none → H dx = none → dx ≠ x → sp (.ref x :: (vs ++ dvs)) (upd (upd H dx (.own x)) x (.ins C dx [])) (fun v H2 => v = .non ∧ Q (.ref x) H2) E) :
    wpAny (model X.prog X.w) X.A (call (.ref C) us) (EP X pins σ Q) X.xe s := by
  have hq := h (s.heap.objs.size + 1) s.heap.objs.size (I.hok.fresh (Nat.le_succ _)) (I.hok.fresh (Nat.le_refl _)) (Nat.ne_of_lt (Nat.lt_succ_self _))
  have I2 := Inv.made (C := C) I
  have r2 : Vals (V.ref (s.heap.objs.size + 1) :: (vs ++ dvs)) (Value.ref (s.heap.objs.size + 1) :: (us ++ ds)) := .cons rfl (r.append hd)
  have hl : (Value.ref (s.heap.objs.size + 1) :: us ++ ds).length = ps.length := by
    have e := r2.length
    rw [F.len _ _ _ _ hq] at e
    exact e.symm
  refine wpAny_call (make_map (f := f) I.kIn M.makes M.init (beq_iff_eq.mp M.fn) (codeAny_mono (F.run _ X.stack _ _ ⟨Value.ref (s.heap.objs.size + 1) :: us, []⟩ (Value.ref (s.heap.objs.size + 1) :: (us ++ ds)) _ _ E (hr.make C us [])
    (I2.env0.make C us []) (hb _ (Value.ref (s.heap.objs.size + 1) :: us) I2.kIn hl) r2 hq) fun r s' hq' => ?_))
  cases r with
  | error e => exact hx pins _ _ e s' I2 hq'
  | ok fl =>
    cases fl with
    | ret u =>
      obtain ⟨v, H', I3, rv, ev, q3⟩ := I2.after hq'
      subst ev
      exact ⟨rv, ⟨V.ref (s.heap.objs.size + 1), H', I3, rfl, q3⟩⟩
    | next => exact False.elim hq'
    | brk => exact False.elim hq'
    | cont => exact False.elim hq'
theorem make_S {sp : Sp} {E : L2.St → XK} {t : TA} (M : Mk X.K C f) (F : FnOk X.prog X.w X.K X.mg X.base (L2.CX X.prog X.w) k f fd ps sp) (hr : Room (k + 1) X.A) (hg : Gl X x) (hm : X.mg x = some (.ref C)) (hb : Binds X.K fd ps ds) (hd : Vals dvs ds) (hx : ∀ σ, PassesAt (L2.CX X.prog X.w) X σ (E σ))
    (ha : PA X (e :: es) t) (hdb : (x == ("__debug__" : Str)) = false := by decide) (he : starEach (e :: es) X.env = (false, eval e X.env) :: starEach es X.env := by rfl) (hpl : (backTo pos (starEach es X.env)).any (·.1) = false := by rfl) :
    PE X (.Call (.Name x p) (e :: es) [] pos) (tMakeS C sp dvs E t) := by
  refine ⟨fun pins s σ H Q I h => ?_⟩
  refine wpAny_Call_Name_kw (ld_glob I hg hm ?_ hdb)
  refine PySem.W.callWith_K (h₀ := X.base) I.ok.mod.kin M.kp (thn (ha.run pos pins s σ H _ I h) fun us s1 ⟨vs, H1, I1, r, q⟩ => ⟨I1.kIn, ?_⟩) he hpl
  exact run_makeS M F hr hb hd (hx σ) I1 r q
def mMake (C : Addr) (sp : MSp) (dds : List D) (t : TAm) : TEm := fun E h Kn Kx => t E h (fun ds h' => ∀ x, h' x = none → sp (.ref x :: (ds ++ dds)) (put h' x (.ins C [])) (fun r h2 => Kn (.d (.ref x)) h2) Kx) Kx
theorem make_ok {K : Kf} {B : Hp} {σ : L2.St} {H : Hp} {Q : VK} (hnon : ∀ ds h Kn Kx, sp ds h Kn Kx → sp ds h (fun r h' => r = .d .non ∧ Kn r h') Kx) (hdd : ∀ K F, Reps K F dds dvs) (q : LE K B W (mMake C sp dds t) σ H Q) : tMakeS C (LSp K sp) dvs (WE W) (LA K B W t) σ H Q := by
  obtain ⟨F, E, h, Kn, Kx, R, ht, hx, hn⟩ := q
  refine ⟨F, E, h, _, Kx, R, ht, hx, fun ds h' F' H' vs l R' r k => ?_⟩
  intro x dx nx ndx nex
  have R1 : Rel K B F' E h' σ (upd H' dx (.own x)) := R'.newO ndx
  have nx1 : (upd H' dx (.own x)) x = none := by rw [upd_ne nex.symm]; exact nx
  have R2 : Rel K B F' E h' σ (upd (upd H' dx (.own x)) x (.ins C dx [])) := R1.newO nx1
  have R3 := R2.toC (p := x) (m := .ins C []) ⟨dx, [], upd_same, .nil⟩ (R'.noB nx) (R'.noF nx)
  refine sp_ok R3 (.cons (.ref x) (r.app (hdd _ _))) (hnon _ _ _ _ (k x (R'.noh nx))) (hx.up l) fun r h2 F2 H2 v l2 R2 q2 k2 => ?_
  obtain ⟨rfl, k2⟩ := k2
  refine ⟨?_, hn (.d (.ref x)) h2 F2 H2 _ (l.trans l2) R2 (.ref x) k2⟩
  cases q2
  rfl
theorem me_make (M : Mk X.K C f) (F : FM X.prog X.w X.K X.mg X.base k f fd ps sp) (hnon : ∀ ds h Kn Kx, sp ds h Kn Kx → sp ds h (fun r h' => r = .d .non ∧ Kn r h') Kx) (hr : Room (k + 1) X.A) (hg : Gl X x) (hm : X.mg x = some (.ref C)) (hb : Binds X.K fd ps ds) (hd : Vals dvs ds) (hdd : ∀ K F, Reps K F dds dvs) (tk : Takes X W)
    (ha : MA X W (e :: es) t) (hdb : (x == ("__debug__" : Str)) = false := by decide) (he : starEach (e :: es) X.env = (false, eval e X.env) :: starEach es X.env := by rfl) (hpl : (backTo pos (starEach es X.env)).any (·.1) = false := by rfl) :
    ME X W (.Call (.Name x p) (e :: es) [] pos) (mMake C sp dds t) := fun B => (make_S (E := WE W) M F hr hg hm hb hd (fun σ => passAt tk σ) (ha B) hdb he hpl).impM fun _ _ _ q => make_ok hnon hdd q

/-! ### fields -/
def mFld (C : Addr) (n : Str) (t : TVm) : TVm := fun E h Kn Kx => t E h (fun d h' => onIns h' d C fun _ fs => match fs.lookup n with
  | some y => Kn y h'
  | none => False) Kx
theorem mv_fld (he : MV X W e to) (c : Cls X.K C) (na : NoAttr X.K C m) (hb : attributeBase e m X.env (eval e X.env) = eval e X.env := by rfl) : MV X W (.Attribute e m pos) (mFld C m to) := fun B => (pe_fld (he B) hb).impM fun σ H Q ⟨F, E, h, Kn, Kx, R, ht, hx, hn⟩ => by
  refine ⟨F, E, h, _, Kx, R, ht, hx, fun d h' F' H' v l R' rp k => ?_⟩
  obtain ⟨a, fs, dx, ws, rfl, rfl, ea, eH, rs, k⟩ := ins_of R' rp k
  cases e2 : fs.lookup m with
  | none => rw [e2] at k; exact k.elim
  | some y =>
    rw [e2] at k
    obtain ⟨u, eu, ru⟩ := RepF.some rs e2
    exact ⟨a, C, dx, ws, u, rfl, eH, c, na, eu, hn y h' F' H' u l R' ru k⟩
def putD (n : Str) (v : D) : List (Str × D) → List (Str × D)
  | [] => [(n, v)]
  | (g, x) :: r => if g = n then (g, v) :: r else (g, x) :: putD n v r
theorem RepF.put {K : Kf} {F : Hp} {n : Str} {d : D} {v : V} (a : Rep K F d v) : ∀ {fs : List (Str × D)} {ws : List (Str × V)}, RepF K F fs ws → RepF K F (putD n d fs) (putF n v ws)
  | _, _, .nil => .cons a .nil
  | (g, x) :: r, (_, y) :: s, .cons b t => by
    show RepF K F (if g = n then _ else _) (if g = n then _ else _)
    split
    · exact .cons a t
    · exact .cons b (RepF.put a t)
def sFldM (C : Addr) (n : Str) (to tv : TVm) : TSm := fun N E h => tv E h (fun y h1 => to E h1 (fun d h2 => onIns h2 d C fun a fs => fs.length < 1000 ∧ N.nx E (put h2 a (.ins C (putD n y fs)))) (N.xk E)) (N.xk E)
theorem ms_fld {value : Expr} {pos' : Pos} {tv : TVm} (ha : MV X W o to) (hv : MV X W value tv) (c : Cls X.K C) (na : NoAttr X.K C m) (hs : swapsWith value (some (.Attribute o m pos')) pos.line X.env = pure false := by rfl) : MS X W (.Assign [.Attribute o m pos'] value pos) (sFldM C m to tv) := fun B =>
  (ps_fld (ha B) (hv B) hs).impM fun D σ H ⟨F, E, h, N, R, ht, cc⟩ => by
    refine ⟨F, E, h, _, (N.xk E), R, ht, fun x h' F' H' a dx l R' q k => cc.2.2.2.2 x h' F' E σ H' a dx l R' q k, fun y h1 F1 H1 u l1 R1 r1 k1 => ?_⟩
    refine ⟨F1, E, h1, _, (N.xk E), R1, k1, fun x h' F' H' a dx l R' q k => cc.2.2.2.2 x h' F' E σ H' a dx (l1.trans l) R' q k, fun d h2 F2 H2 v l2 R2 r2 k2 => ?_⟩
    obtain ⟨a, fs, dx, ws, rfl, rfl, ea, eH, rs, hl, k2⟩ := ins_of R2 r2 k2
    refine ⟨a, C, dx, ws, rfl, eH, c, na, by rw [← rs.len]; exact hl, ?_⟩
    exact cc.1 E _ F2 σ _ (l1.trans l2) (R2.write (m' := .ins C (putD m y fs)) ea ⟨dx, _, upd_same, RepF.put (r1.mono l2) rs⟩) k2
end
/-! ### a def keeps its promise -/
section
variable {P : Program} {w : World} {K : Kf} {mg : Str → Option Value} {base : Heap}
def startE (N : List Str) (ds : List D) : En := ds.map some ++ List.replicate (N.length - ds.length) none
theorem slots_start {F : Hp} : ∀ {ds : List D} {vs : List V} {n : Nat}, Reps K F ds vs → Slots K F (ds.map some ++ List.replicate n none) (vs.map some ++ List.replicate n none)
  | _, _, 0, .nil => .nil
  | _, _, n + 1, .nil => by
    rw [List.replicate_succ, List.replicate_succ]
    exact .non (slots_start (n := n) .nil)
  | _, _, _, .cons a r => .val a (slots_start r)
/-- what a def's body is to reach -/
def subH (h2 h' : MH) : Prop := ∀ a m, h2 a = some m → h' a = some m
def bodyN (Kn : RV → MH → Prop) (Kx : XKm) : Nd where
  nx := fun _ h' => ∃ h2 : MH, subH h2 h' ∧ Kn (.d .non) h2
  rt := fun r h' => ∃ h2 : MH, subH h2 h' ∧ Kn r h2
  xs := fun x _ h' => ∃ h2 : MH, subH h2 h' ∧ Kx x h2
abbrev WB (E : XK) : WX := fun c d _ H => E c d H
theorem fm_of {x qual : Str} {st : Stmt} {f : Addr} {fd : FuncData} {N ps : List Str} {k : Nat} {sp : MSp} (F : Fun K x qual st f fd) (S : FnScope N ps (defScope st)) (len : ∀ ds h Kn Kx, sp ds h Kn Kx → ds.length = ps.length)
    (hb : ∀ (cdv : Value) (A : Around) (outer : List Env) (s : Shared) (H : Hp) (E : XK), Room k (A.deeper (envOfC qual (defScope st) s.heap.objs.size f cdv)) →
      ∃ t, MB (cxOf (L2.CX P w) P w K mg base N qual (defScope st) f cdv A outer s H E) (WB E) (defBody st) t ∧ ∀ ds h Kn Kx, sp ds h Kn Kx → t (bodyN Kn Kx) (startE N ds) h) : FM P w K mg base (k + 1) f fd ps sp := by
  refine F.okX S (fun vs H Q E ⟨B, Fh, h, ds, Kn, Kx, R, r, q, _⟩ => by rw [← r.len]; exact len _ _ _ _ q) (fun cdv A outer s H vs Q E hr ⟨B, Fh, h, ds, Kn, Kx, R, r, q, hn, hx⟩ => ?_)
  obtain ⟨t, ht, hq⟩ := hb cdv A outer s H E hr
  refine ⟨_, ht B, Fh, startE N ds, h, bodyN Kn Kx, R.slots ?_, hq ds h Kn Kx q, ?_, ?_, ?_, ?_, ?_⟩
  · unfold startE L2.start
    rw [r.len]
    exact slots_start r
  · rintro E' h' F' σ' H' l R' ⟨h2, sub, k⟩
    exact hn (.d .non) h2 F' H' .non l ((R'.slots .nil).less sub) .non k
  · rintro r h' F' E' σ' H' v l R' q ⟨h2, sub, k⟩
    refine hn r h2 F' H' v l ((R'.slots .nil).less sub) ?_ k
    have nn : ∀ l, h' l = none → h2 l = none := fun l z => by
      cases e : h2 l with
      | none => rfl
      | some m =>
        have := sub l m e
        rw [z] at this
        cases this
    cases r with
    | d x => exact q
    | ol xs =>
      obtain ⟨l, vs, e, e2, rs, q1, q2, q3⟩ := q
      exact ⟨l, vs, e, e2, rs, q1, q2, nn l q3⟩
    | od xs =>
      obtain ⟨l, vs, e, e2, rs, q1, q2, q3⟩ := q
      exact ⟨l, vs, e, e2, rs, q1, q2, nn l q3⟩
  · exact fun _ _ _ _ _ _ _ z => z.elim
  · exact fun _ _ _ _ _ _ _ z => z.elim
  · rintro x h' F' E' σ' H' c dx l R' q ⟨h2, sub, k⟩
    exact hx x h2 F' H' c dx l ((R'.slots .nil).less sub) q k
end
end M3
set_option Elab.async false
set_option linter.all false
set_option maxRecDepth 100000
set_option maxHeartbeats 4000000
namespace L2
open PySem PySem.Spec PyProof.Rows
theorem m3_tuple_mul1 (l : Addr) (items : Array Value) (n : Nat) (dd : Option Addr) (sl : Array (Option Value)) (u : Tok) :
    Meets (Builtin.«tuple.__mul__» ⟨[.ref l, .int 1 u], []⟩) (fun _ R s => s.heap.get? l = some { cls := .type "tuple", dict := dd, data := .seq items n, slots := sl } ∧ R (.ok (.ret (Value.ref l))) s) :=
  .of_wp fun prog w A R s h => by
    obtain ⟨hp, g, d, tk, os⟩ := s
    obtain ⟨hl, h⟩ := h
    have f1 := AutoSeq1.idx_int
    wp_walk using wpAny_loadPart' hl
    exact ⟨_, rfl, h⟩
def m3Rep1 (K : PySem.W.Frag) : R2 := fun x y H Q => ∃ l xs, x = .ref l ∧ y = .int 1 ∧ SqT K H l xs ∧ Q (.ref l) H
theorem m3op_rep1 {X : Cx} : OpR X (binaryOp .Mult) (m3Rep1 X.K) := by
  intro pins s σ H x y v u Q I rx ry h
  obtain ⟨l, xs, rfl, rfl, hT, q⟩ := h
  cases rx
  obtain ⟨t, rfl⟩ := ry
  obtain ⟨its, r, ⟨⟨cls, dd, data, sl⟩, ho, hc, n, hd⟩, hs⟩ := I.tuple hT
  simp only at hc hd
  subst hc hd
  exact wpAny_binaryOp_repeat_ref (T := "tuple") (U := "int") (by decide) ⟨_, ho, rfl⟩ (fun s' => typeIs_int s' 1 t) noFill_tuple_mul F.fills_int_mul F.slot_int_rmul repeat_tuple F.slot_int_index.lookup
    (call_meets F.slot_int_rmul (typeIs_int s 1 t) F.entry_int_rmul (F.args_int_rmul_2 _ _) (int_rmul_tuple 1 t l its.toArray n dd sl)
      ⟨ho, rfl, ⟨_, ho, rfl⟩, call_meets F.slot_tuple_mul ⟨_, ho, rfl⟩ F.entry_tuple_mul (F.args_tuple_mul_2 _ _) (m3_tuple_mul1 l its.toArray n dd sl t) ⟨ho, .ref l, H, I, rfl, q⟩⟩)
end L2
namespace M3
open PySem PySem.Spec PyProof.Rows L2
/-! ### views -/
/-- a list -/
def onL (h : MH) (d : D) (k : List D → Prop) : Prop := match d with
  | .lst xs => k xs
  | .ref p => (match h p with
    | some (.lst xs) => k xs
    | _ => False)
  | _ => False
/-- a list or a tuple, to be read -/
def onQ (h : MH) (d : D) (k : List D → Prop) : Prop := match d with
  | .lst xs => k xs
  | .tup xs => k xs
  | .scr ns => k (ns.map D.int)
  | .ref p => (match h p with
    | some (.lst xs) => k xs
    | _ => False)
  | _ => False
def onD (h : MH) (d : D) (k : List (Key × D) → Prop) : Prop := match d with
  | .dct xs => k xs
  | .ref p => (match h p with
    | some (.dct xs) => k xs
    | _ => False)
  | _ => False
def onInt (d : D) (k : Int → Prop) : Prop := match d with
  | .int i => k i
  | _ => False
def onStr (d : D) (k : Str → Prop) : Prop := match d with
  | .str i => k i
  | _ => False
def onTup (d : D) (k : List D → Prop) : Prop := match d with
  | .tup i => k i
  | _ => False
section
variable {K : Kf} {B F : Hp} {E : En} {h : MH} {σ : L2.St} {H : Hp} {d : D} {v : V}
theorem lst_of {k : List D → Prop} (R : Rel K B F E h σ H) (r : Rep K F d v) (q : onL h d k) : ∃ a xs vs, v = .ref a ∧ H a = some (.lst vs) ∧ Reps K F xs vs ∧ k xs := by
  cases r with
  | lst e rs => exact ⟨_, _, _, rfl, (R.frz _ _ e).1, rs, q⟩
  | ref a =>
    have q : (match h a with
      | some (.lst xs) => k xs
      | _ => False) := q
    cases e : h a with
    | none => rw [e] at q; exact q.elim
    | some m =>
      rw [e] at q
      cases m with
      | lst xs =>
        obtain ⟨vs, e2, rs⟩ := R.cel a _ e
        exact ⟨a, xs, vs, rfl, e2, rs, q⟩
      | dct xs => exact q.elim
      | ins C fs => exact q.elim
  | _ => exact q.elim
theorem seq_of {k : List D → Prop} (R : Rel K B F E h σ H) (r : Rep K F d v) (q : onQ h d k) : ∃ a xs vs, v = .ref a ∧ (SqL K H a vs ∨ SqT K H a vs) ∧ Reps K F xs vs ∧ k xs := by
  cases r with
  | lst e rs => exact ⟨_, _, _, rfl, .inl (.of (R.frz _ _ e).1), rs, q⟩
  | tup e rs => exact ⟨_, _, _, rfl, .inr (R.sqT e), rs, q⟩
  | scr e => exact ⟨_, _, _, rfl, .inl (R.sqL e), Reps.ints _, q⟩
  | ref a =>
    have q : (match h a with
      | some (.lst xs) => k xs
      | _ => False) := q
    cases e : h a with
    | none => rw [e] at q; exact q.elim
    | some m =>
      rw [e] at q
      cases m with
      | lst xs =>
        obtain ⟨vs, e2, rs⟩ := R.cel a _ e
        exact ⟨a, xs, vs, rfl, .inl (.of e2), rs, q⟩
      | dct xs => exact q.elim
      | ins C fs => exact q.elim
  | _ => exact q.elim
theorem dct_of {k : List (Key × D) → Prop} (R : Rel K B F E h σ H) (r : Rep K F d v) (q : onD h d k) : ∃ a xs vs, v = .ref a ∧ Rd H a (.dK vs) ∧ RepK K F xs vs ∧ k xs := by
  cases r with
  | dct e rs => exact ⟨_, _, _, rfl, R.rd e, rs, q⟩
  | ref a =>
    have q : (match h a with
      | some (.dct xs) => k xs
      | _ => False) := q
    cases e : h a with
    | none => rw [e] at q; exact q.elim
    | some m =>
      rw [e] at q
      cases m with
      | dct xs =>
        obtain ⟨vs, e2, rs⟩ := R.cel a _ e
        exact ⟨a, xs, vs, rfl, .inl e2, rs, q⟩
      | lst xs => exact q.elim
      | ins C fs => exact q.elim
  | _ => exact q.elim
theorem int_of {k : Int → Prop} (r : Rep K F d v) (q : onInt d k) : ∃ i, v = .int i ∧ d = .int i ∧ k i := by
  cases r with
  | int i => exact ⟨i, rfl, rfl, q⟩
  | _ => exact q.elim
theorem str_of {k : Str → Prop} (r : Rep K F d v) (q : onStr d k) : ∃ i, v = .str i ∧ d = .str i ∧ k i := by
  cases r with
  | str i => exact ⟨i, rfl, rfl, q⟩
  | _ => exact q.elim
theorem tup_of {k : List D → Prop} (R : Rel K B F E h σ H) (r : Rep K F d v) (q : onTup d k) : ∃ a xs vs, v = .ref a ∧ SqT K H a vs ∧ Reps K F xs vs ∧ d = .tup xs ∧ k xs := by
  cases r with
  | tup e rs => exact ⟨_, _, _, rfl, R.sqT e, rs, rfl, q⟩
  | _ => exact q.elim
theorem OpR.or2 {X : Cx} {f : Value → Value → Sem Value} {r r' : R2} (h : OpR X f r) (h' : OpR X f r') : OpR X f (fun x y H Q => r x y H Q ∨ r' x y H Q) := h.or h'
end

/-! ### arithmetic -/
def gII (C : Int → Int → Prop) (f : Int → Int → D) : G2 := fun x y h Kn => onInt x fun i => onInt y fun j => C i j ∧ Kn (.d (f i j)) h
section
variable {X : Cx} {W : WX}
theorem has_int {K : Kf} {C : Int → Int → Prop} {f : Int → Int → D} {g : Int → Int → V} (hr : ∀ F i j, Rep K F (f i j) (g i j)) : Has2 K (rI C g) (gII C f) := by
  intro B F E h σ H x y vx vy Q Kn R rx ry q hn
  obtain ⟨i, rfl, rfl, q⟩ := int_of rx q
  obtain ⟨j, rfl, rfl, c, q⟩ := int_of ry q
  exact ⟨i, j, rfl, rfl, c, hn (.d (f i j)) h F H _ (Le.refl F) R (hr F i j) q⟩
theorem has_int0 {K : Kf} {f : Int → Int → D} {g : Int → Int → V} (hr : ∀ F i j, Rep K F (f i j) (g i j)) : Has2 K (rI0 g) (gII (fun _ _ => True) f) := by
  intro B F E h σ H x y vx vy Q Kn R rx ry q hn
  obtain ⟨i, rfl, rfl, q⟩ := int_of rx q
  obtain ⟨j, rfl, rfl, _, q⟩ := int_of ry q
  exact ⟨i, j, rfl, rfl, hn (.d (f i j)) h F H _ (Le.refl F) R (hr F i j) q⟩
theorem me_op {op : Operator} {r : R2} {g : G2} {a b : Expr} {pos : Pos} {ta tb : TVm} (ho : OpR X (binaryOp op) r) (hg : Has2 X.K r g) (ha : MV X W a ta) (hb : MV X W b tb) : ME X W (.BinOp a op b pos) (mOp g ta tb) := fun B => (pe_op ho (ha B) (hb B)).impM fun _ _ _ q => two hg q
theorem me_cmp {op : CmpOp} {r : R2} {g : G2} {a b : Expr} {pos : Pos} {ta tb : TVm} (ho : OpR X (compareOp op) r) (hg : Has2 X.K r g) (ha : MV X W a ta) (hb : MV X W b tb) (hm : behindInMarks op b = false) : ME X W (.Compare a [op] [b] pos) (mOp g ta tb) := fun B => (pe_cmpR ho (ha B) (hb B) hm).impM fun _ _ _ q => two hg q
/-- + -/
def gAdd : G2 := fun x y h Kn => match x, y with
  | .int i, .int j => Kn (.d (.int (i + j))) h
  | .str a, .str b => a.length + b.length ≤ sizeLine ∧ Kn (.d (.str (a ++ b))) h
  | .tup xs, .tup ys => xs.length + ys.length ≤ sizeLine ∧ Kn (.d (.tup (xs ++ ys))) h
  | x, y => onL h x fun xs => onL h y fun ys => xs.length + ys.length ≤ sizeLine ∧ Kn (.ol (xs ++ ys)) h
abbrev rAddA (K : Kf) : R2 := fun x y H Q => (rI0 (fun i j => .int (i + j)) x y H Q ∨ (∃ i j, x = .str i ∧ y = .str j ∧ i.length + j.length ≤ sizeLine ∧ Q (.str (i ++ j)) H)) ∨ (rCatA K x y H Q ∨ rCat x y H Q)
theorem op_addA : OpR X (binaryOp .Add) (rAddA X.K) := (op_add.or op_add_str).or (op_catA.or op_cat)
theorem has_add {K : Kf} : Has2 K (rAddA K) gAdd := by
  intro B F E h σ H x y vx vy Q Kn R rx ry q hn
  have lists : ∀ {x y : D} {vx vy : V}, Rep K F x vx → Rep K F y vy → (onL h x fun xs => onL h y fun ys => xs.length + ys.length ≤ sizeLine ∧ Kn (.ol (xs ++ ys)) h) → rAddA K vx vy H Q := by
    intro x y vx vy rx ry q
    obtain ⟨a, xs, vs, rfl, e, rs, q⟩ := lst_of R rx q
    obtain ⟨b, ys, ws, rfl, e2, rs2, hz, q⟩ := lst_of R ry q
    refine .inr (.inr ⟨a, b, vs, ws, rfl, rfl, e, e2, by rw [← rs.len, ← rs2.len]; exact hz, fun p hp => ?_⟩)
    exact hn (.ol _) h F _ _ (Le.refl F) (R.newO hp) ⟨p, _, rfl, upd_same, rs.app rs2, R.noB hp, R.noF hp, R.noh hp⟩ q
  match x, y, rx, ry, q with
  | .int i, .int j, .int _, .int _, q => exact .inl (.inl ⟨i, j, rfl, rfl, hn (.d (.int (i + j))) h F H _ (Le.refl F) R (.int _) q⟩)
  | .str i, .str j, .str _, .str _, q => exact .inl (.inr ⟨i, j, rfl, rfl, q.1, hn (.d (.str (i ++ j))) h F H _ (Le.refl F) R (.str _) q.2⟩)
  | .tup xs, .tup ys, rx, ry, q =>
    cases rx with
    | @tup a vs _ e rs =>
      cases ry with
      | @tup b ws _ e2 rs2 =>
        obtain ⟨hz, q⟩ := q
        have rt : ∀ {F' : Hp} {c : Addr}, Le F F' → SqT K F' c (vs ++ ws) → Rep K F' (.tup (xs ++ ys)) (.ref c) := fun l z => .tup z ((rs.app rs2).mono l)
        refine .inr (.inl ⟨a, b, vs, ws, rfl, rfl, R.sqT e, R.sqT e2, by rw [← rs.len, ← rs2.len]; exact hz, ?_, ?_, ?_⟩)
        · rintro rfl
          exact hn (.d (.tup _)) h F H _ (Le.refl F) R (rt (Le.refl F) (by simpa using e2)) q
        · rintro _ rfl
          exact hn (.d (.tup _)) h F H _ (Le.refl F) R (rt (Le.refl F) (by simpa using e)) q
        · intro _ _ p hp
          have l : Le F (upd F p (.tup (vs ++ ws))) := Le.new (R.noF hp)
          exact hn (.d (.tup _)) h _ _ _ l (R.newF hp) (rt l (.inl (.inl upd_same))) q
  | .lst _, y, rx, ry, q => exact lists rx ry (by cases y <;> exact q)
  | .ref _, y, rx, ry, q => exact lists rx ry (by cases y <;> exact q)
  | .int _, .non, _, _, q | .int _, .bl _, _, _, q | .int _, .str _, _, _, q | .int _, .tup _, _, _, q | .int _, .lst _, _, _, q | .int _, .dct _, _, _, q | .int _, .ref _, _, _, q | .int _, .scr _, _, _, q => exact q.elim
  | .str _, .non, _, _, q | .str _, .bl _, _, _, q | .str _, .int _, _, _, q | .str _, .tup _, _, _, q | .str _, .lst _, _, _, q | .str _, .dct _, _, _, q | .str _, .ref _, _, _, q | .str _, .scr _, _, _, q => exact q.elim
  | .tup _, .non, _, _, q | .tup _, .bl _, _, _, q | .tup _, .int _, _, _, q | .tup _, .str _, _, _, q | .tup _, .lst _, _, _, q | .tup _, .dct _, _, _, q | .tup _, .ref _, _, _, q | .tup _, .scr _, _, _, q => exact q.elim
  | .non, y, _, _, q | .bl _, y, _, _, q | .dct _, y, _, _, q | .scr _, y, _, _, q => cases y <;> exact q.elim
theorem me_add {a b : Expr} {pos : Pos} {ta tb : TVm} (ha : MV X W a ta) (hb : MV X W b tb) : ME X W (.BinOp a .Add b pos) (mOp gAdd ta tb) := me_op op_addA has_add ha hb
def gSub : G2 := gII (fun _ _ => True) fun i j => .int (i - j)
theorem me_sub {a b : Expr} {pos : Pos} {ta tb : TVm} (ha : MV X W a ta) (hb : MV X W b tb) : ME X W (.BinOp a .Sub b pos) (mOp gSub ta tb) := me_op op_sub (has_int0 fun _ _ _ => .int _) ha hb
def gMod : G2 := gII (fun _ j => 0 < j) fun i j => .int (i % j)
theorem me_mod {a b : Expr} {pos : Pos} {ta tb : TVm} (ha : MV X W a ta) (hb : MV X W b tb) : ME X W (.BinOp a .Mod b pos) (mOp gMod ta tb) := me_op op_mod (has_int fun _ _ _ => .int _) ha hb
def gDiv : G2 := gII (fun _ j => 0 < j ∧ j.natAbs.log2 < 9000) fun i j => .int (i / j)
theorem me_fdiv {a b : Expr} {pos : Pos} {ta tb : TVm} (ha : MV X W a ta) (hb : MV X W b tb) : ME X W (.BinOp a .FloorDiv b pos) (mOp gDiv ta tb) := me_op op_fdivW (has_int fun _ _ _ => .int _) ha hb
def gPow : G2 := gII CPow fun i j => .int (i ^ j.toNat)
theorem me_pow {a b : Expr} {pos : Pos} {ta tb : TVm} (ha : MV X W a ta) (hb : MV X W b tb) : ME X W (.BinOp a .Pow b pos) (mOp gPow ta tb) := me_op op_pow (has_int fun _ _ _ => .int _) ha hb
/-- *: ints; a list by an int; a tuple by an int from 2 on -/
def MulOk (i j : Int) : Prop := CMul i j ∨ CMulW i j
def gMul : G2 := fun x y h Kn => match x, y with
  | .int i, .int j => MulOk i j ∧ Kn (.d (.int (i * j))) h
  | .tup xs, .int k => (xs ≠ [] ∧ 1 ≤ k ∧ k ≤ 1000 ∧ xs.length ≤ 1000) ∧ Kn (.d (.tup (List.replicate k.toNat xs).flatten)) h
  | x, .int k => onL h x fun xs => (-(2 ^ 63) ≤ k ∧ k < 2 ^ 63 ∧ xs.length * k.toNat ≤ sizeLine) ∧ Kn (.ol (List.replicate k.toNat xs).flatten) h
  | _, _ => False
abbrev rMulA (K : Kf) : R2 := fun x y H Q => (rI CMul (fun i j => .int (i * j)) x y H Q ∨ rI CMulW (fun i j => .int (i * j)) x y H Q) ∨ ((m3Rep1 K x y H Q ∨ rRepT K x y H Q) ∨ rRep x y H Q)
theorem op_mulA : OpR X (binaryOp .Mult) (rMulA X.K) := (op_mul.or op_mulW).or ((m3op_rep1.or op_repT).or op_rep)
theorem has_mul {K : Kf} : Has2 K (rMulA K) gMul := by
  intro B F E h σ H x y vx vy Q Kn R rx ry q hn
  have lists : ∀ {x : D} {k : Int} {vx : V}, Rep K F x vx → (onL h x fun xs => (-(2 ^ 63) ≤ k ∧ k < 2 ^ 63 ∧ xs.length * k.toNat ≤ sizeLine) ∧ Kn (.ol (List.replicate k.toNat xs).flatten) h) → rMulA K vx (.int k) H Q := by
    intro x k vx rx q
    obtain ⟨a, xs, vs, rfl, e, rs, c, q⟩ := lst_of R rx q
    refine .inr (.inr ⟨a, k, vs, rfl, rfl, e, c.1, c.2.1, by rw [← rs.len]; exact c.2.2, fun p hp => ?_⟩)
    exact hn (.ol _) h F _ _ (Le.refl F) (R.newO hp) ⟨p, _, rfl, upd_same, rs.rep _, R.noB hp, R.noF hp, R.noh hp⟩ q
  match x, y, rx, ry, q with
  | .int i, .int j, .int _, .int _, q =>
    rcases q.1 with c | c
    · exact .inl (.inl ⟨i, j, rfl, rfl, c, hn (.d (.int (i * j))) h F H _ (Le.refl F) R (.int _) q.2⟩)
    · exact .inl (.inr ⟨i, j, rfl, rfl, c, hn (.d (.int (i * j))) h F H _ (Le.refl F) R (.int _) q.2⟩)
  | .tup xs, .int k, .tup (a := a) (vs := vs) e rs, .int _, q =>
    obtain ⟨⟨c1, c2, c3, c4⟩, q⟩ := q
    have ne : vs ≠ [] := fun z => c1 (List.length_eq_zero_iff.mp (by rw [rs.len, z]; rfl))
    by_cases k1 : k = 1
    · subst k1
      have er : (List.replicate (1 : Int).toNat xs).flatten = xs := by simp
      rw [er] at q
      exact .inr (.inl (.inl ⟨a, vs, rfl, rfl, R.sqT e, hn (.d (.tup xs)) h F H _ (Le.refl F) R (.tup e rs) q⟩))
    refine .inr (.inl (.inr ⟨a, k, vs, rfl, rfl, R.sqT e, ne, by omega, c3, by rw [← rs.len]; exact c4, fun p hp => ?_⟩))
    have l : Le F (upd F p (.tup (List.replicate k.toNat vs).flatten)) := Le.new (R.noF hp)
    exact hn (.d (.tup _)) h _ _ _ l (R.newF hp) (.tup (.inl (.inl upd_same)) ((rs.rep _).mono l)) q
  | .lst _, .int k, rx, .int _, q => exact lists rx q
  | .ref _, .int k, rx, .int _, q => exact lists rx q
  | .non, .int _, _, _, q | .bl _, .int _, _, _, q | .dct _, .int _, _, _, q | .scr _, .int _, _, _, q | .str _, .int _, _, _, q => exact q.elim
  | x, .non, _, _, q | x, .bl _, _, _, q | x, .str _, _, _, q | x, .tup _, _, _, q | x, .lst _, _, _, q | x, .dct _, _, _, q | x, .ref _, _, _, q | x, .scr _, _, _, q => cases x <;> exact q.elim
theorem me_mul {a b : Expr} {pos : Pos} {ta tb : TVm} (ha : MV X W a ta) (hb : MV X W b tb) : ME X W (.BinOp a .Mult b pos) (mOp gMul ta tb) := me_op op_mulA has_mul ha hb
def gNeg : G1 := fun x h Kn => onInt x fun i => Kn (.d (.int (-i))) h
theorem me_neg {a : Expr} {pos : Pos} {ta : TVm} (ha : MV X W a ta) : ME X W (.UnaryOp .USub a pos) (mUn gNeg ta) := fun B => (pe_un un_neg (ha B)).impM fun _ _ _ q => one (r := rU fun i => .int (-i)) (g := gNeg) (by
  intro B F E h σ H x vx Q Kn R rx q hn
  obtain ⟨i, rfl, rfl, q⟩ := int_of rx q
  exact ⟨i, rfl, hn (.d (.int (-i))) h F H _ (Le.refl F) R (.int _) q⟩) q
/-! ### comparisons -/
def gB (p : Int → Int → Bool) : G2 := gII (fun _ _ => True) fun i j => .bl (p i j)
theorem me_lt {a b : Expr} {pos : Pos} {ta tb : TVm} (ha : MV X W a ta) (hb : MV X W b tb) : ME X W (.Compare a [.Lt] [b] pos) (mOp (gB fun i j => decide (i < j)) ta tb) := me_cmp op_lt (has_int0 fun _ _ _ => .bl _) ha hb (nomark _)
theorem me_le {a b : Expr} {pos : Pos} {ta tb : TVm} (ha : MV X W a ta) (hb : MV X W b tb) : ME X W (.Compare a [.LtE] [b] pos) (mOp (gB fun i j => decide (i ≤ j)) ta tb) := me_cmp op_le (has_int0 fun _ _ _ => .bl _) ha hb (nomark _)
theorem me_gt {a b : Expr} {pos : Pos} {ta tb : TVm} (ha : MV X W a ta) (hb : MV X W b tb) : ME X W (.Compare a [.Gt] [b] pos) (mOp (gB fun i j => decide (j < i)) ta tb) := me_cmp op_gt (has_int0 fun _ _ _ => .bl _) ha hb (nomark _)
theorem me_ge {a b : Expr} {pos : Pos} {ta tb : TVm} (ha : MV X W a ta) (hb : MV X W b tb) : ME X W (.Compare a [.GtE] [b] pos) (mOp (gB fun i j => decide (j ≤ i)) ta tb) := me_cmp op_ge (has_int0 fun _ _ _ => .bl _) ha hb (nomark _)
/-- a < b < c of ints -/
def mChain (g g' : G2) (ta tb tc : TVm) : TEm := fun E h Kn Kx => ta E h (fun x h1 => tb E h1 (fun y h2 => g x y h2 fun r h3 => onBl r.frz fun b => if b = true then tc E h3 (fun z h4 => g' y z h4 Kn) Kx else Kn (.d (.bl false)) h3) Kx) Kx
theorem me_chain {op op' : CmpOp} {r r' : R2} {g g' : G2} {a b c : Expr} {pos : Pos} {ta tb tc : TVm} (ho : OpR X (compareOp op) r) (ho' : OpR X (compareOp op') r') (hg : Has2 X.K r g) (hg' : Has2 X.K r' g') (ha : MV X W a ta) (hb : MV X W b tb) (hc : MV X W c tc)
    (hm : lastMarks [op, op'] [b, c] = false := by with_unfolding_all rfl) : ME X W (.Compare a [op, op'] [b, c] pos) (mChain g g' ta tb tc) := fun B => (pe_chain ho ho' (ha B) (hb B) (hc B) hm).impM fun σ H Q ⟨F, E, h, Kn, Kx, R, ht, hx, hn⟩ => by
  refine ⟨F, E, h, _, Kx, R, ht, hx, fun x h1 F1 H1 v l1 R1 r1 k1 => ?_⟩
  refine ⟨F1, E, h1, _, Kx, R1, k1, hx.up l1, fun y h2 F2 H2 u l2 R2 r2 k2 => ?_⟩
  refine hg B F2 E h2 σ H2 x y v u _ _ R2 (r1.mono l2) r2 k2 fun r h3 F3 H3 w l3 R3 q3 k3 => ?_
  obtain ⟨F4, l4, R4, rp⟩ := q3.frz R3
  obtain ⟨b, rfl, e, k3⟩ := bl_of rp k3
  refine ⟨b, rfl, ?_⟩
  have l4 := ((l1.trans l2).trans l3).trans l4
  cases b with
  | false => exact hn (.d (.bl false)) h3 F4 H3 _ l4 R4 (.bl _) k3
  | true =>
    refine ⟨F4, E, h3, _, Kx, R4, k3, hx.up l4, fun z h5 F5 H5 w l5 R5 r5 k5 => ?_⟩
    exact hg' B F5 E h5 σ H5 y z u w Q Kn R5 ((r2.mono l3).mono ((show Le F3 F4 by assumption).trans l5)) r5 k5 fun r h' F' H' w l6 => hn r h' F' H' w ((l4.trans l5).trans l6)
end
end M3
set_option Elab.async false
set_option linter.all false
set_option maxRecDepth 100000
set_option maxHeartbeats 4000000
namespace M3
open PySem PySem.Spec PyProof.Rows L2
/-! ### == of data -/
mutual
def toP : D → PyData
  | .non => .none
  | .bl b => .bool b
  | .int i => .int i
  | .str x => .str x
  | .tup xs => .tuple (toPs xs)
  | .lst xs => .list (toPs xs)
  | _ => .none
def toPs : List D → List PyData
  | [] => []
  | x :: xs => toP x :: toPs xs
end
/-- plain data of at most that depth -/
def plD : Nat → D → Bool
  | _, .non | _, .bl _ | _, .int _ => true
  | _, .str x => PyData.strOk x
  | n + 1, .tup xs => xs.all (plD n)
  | n + 1, .lst xs => xs.all (plD n)
  | _, _ => false
def eqD (d e : D) : Bool := PyData.eqv (toP d) (toP e)
/-- what stands at a cell that is a list -/
def res (h : MH) (d : D) : D := match d with
  | .ref p => (match h p with
    | some (.lst xs) => .lst xs
    | _ => .ref p)
  | d => d
mutual
theorem dp_of {K : Kf} {F H : Hp} (sT : ∀ a xs, SqT K F a xs → SqT K H a xs) (sL : ∀ a xs, F a = some (.lst xs) → SqL K H a xs) : ∀ (n : Nat) (d : D) (v : V), Rep K F d v → plD n d = true → Dp K H v (toP d)
  | _, .non, _, .non, _ => by simp only [toP]; exact .non
  | _, .bl b, _, .bl _, _ => by simp only [toP]; exact .bl b
  | _, .int i, _, .int _, _ => by simp only [toP]; exact .int i
  | _, .str x, _, .str _, _ => by simp only [toP]; exact .str x
  | n + 1, .tup xs, _, .tup e rs, h => by
    simp only [toP]
    exact .tup (sT _ _ e) (dps_of sT sL n xs _ rs (by simpa [plD] using h))
  | n + 1, .lst xs, _, .lst e rs, h => by
    simp only [toP]
    exact .lst (sL _ _ e) (dps_of sT sL n xs _ rs (by simpa [plD] using h))
  | 0, .tup xs, _, _, h => by simp [plD] at h
  | 0, .lst xs, _, _, h => by simp [plD] at h
  | n, .dct _, _, _, h => by cases n <;> simp [plD] at h
  | n, .ref _, _, _, h => by cases n <;> simp [plD] at h
  | n, .scr _, _, _, h => by cases n <;> simp [plD] at h
  | n, .lam _ _, _, _, h => by cases n <;> simp [plD] at h
theorem dps_of {K : Kf} {F H : Hp} (sT : ∀ a xs, SqT K F a xs → SqT K H a xs) (sL : ∀ a xs, F a = some (.lst xs) → SqL K H a xs) : ∀ (n : Nat) (ds : List D) (vs : List V), Reps K F ds vs → (∀ x ∈ ds, plD n x = true) → DpAll K H vs (toPs ds)
  | _, [], _, .nil, _ => by simp only [toPs]; exact .nil
  | n, d :: ds, _, .cons r rs, h => by
    simp only [toPs]
    exact .cons (dp_of sT sL n d _ r (h d List.mem_cons_self)) (dps_of sT sL n ds _ rs fun x hx => h x (List.mem_cons_of_mem _ hx))
end
mutual
theorem canLay_pl : ∀ (n : Nat) (d : D), plD n d = true → (toP d).canLay0 = true
  | _, .non, _ => by simp [toP, PyData.canLay0]
  | _, .bl b, _ => by simp [toP, PyData.canLay0]
  | _, .int i, _ => by simp [toP, PyData.canLay0]
  | n, .str x, h => by cases n <;> (simp only [plD] at h; simpa [toP, PyData.canLay0] using h)
  | n + 1, .tup xs, h => by
    simp only [toP, PyData.canLay0]
    exact canLays_pl n xs (by simpa [plD] using h)
  | n + 1, .lst xs, h => by
    simp only [toP, PyData.canLay0]
    exact canLays_pl n xs (by simpa [plD] using h)
  | 0, .tup xs, h => by simp [plD] at h
  | 0, .lst xs, h => by simp [plD] at h
  | n, .dct _, h => by cases n <;> simp [plD] at h
  | n, .ref _, h => by cases n <;> simp [plD] at h
  | n, .scr _, h => by cases n <;> simp [plD] at h
  | n, .lam _ _, h => by cases n <;> simp [plD] at h
theorem canLays_pl : ∀ (n : Nat) (ds : List D), (∀ x ∈ ds, plD n x = true) → PyData.canLayAll0 (toPs ds) = true
  | _, [], _ => by simp [toPs, PyData.canLayAll0]
  | n, d :: ds, h => by
    simp only [toPs, PyData.canLayAll0, Bool.and_eq_true]
    exact ⟨canLay_pl n d (h d List.mem_cons_self), canLays_pl n ds fun x hx => h x (List.mem_cons_of_mem _ hx)⟩
end
mutual
theorem depth_pl : ∀ (n : Nat) (d : D), plD n d = true → (toP d).depth ≤ n + 1
  | _, .non, _ => by simp [toP, PyData.depth]
  | _, .bl b, _ => by simp [toP, PyData.depth]
  | _, .int i, _ => by simp [toP, PyData.depth]
  | n, .str x, h => by simp [toP, PyData.depth]
  | n + 1, .tup xs, h => by
    simp only [toP, PyData.depth]
    have := depths_pl n xs (by simpa [plD] using h)
    omega
  | n + 1, .lst xs, h => by
    simp only [toP, PyData.depth]
    have := depths_pl n xs (by simpa [plD] using h)
    omega
  | 0, .tup xs, h => by simp [plD] at h
  | 0, .lst xs, h => by simp [plD] at h
  | n, .dct _, h => by cases n <;> simp [plD] at h
  | n, .ref _, h => by cases n <;> simp [plD] at h
  | n, .scr _, h => by cases n <;> simp [plD] at h
  | n, .lam _ _, h => by cases n <;> simp [plD] at h
theorem depths_pl : ∀ (n : Nat) (ds : List D), (∀ x ∈ ds, plD n x = true) → PyData.depthAll (toPs ds) ≤ n + 1
  | n, [], _ => by simp [toPs, PyData.depthAll]
  | n, d :: ds, h => by
    simp only [toPs, PyData.depthAll]
    have h1 := depth_pl n d (h d List.mem_cons_self)
    have h2 := depths_pl n ds fun x hx => h x (List.mem_cons_of_mem _ hx)
    omega
end
def eqOk (d : D) : Prop := ∃ n, n ≤ 60 ∧ plD n d = true
theorem shaped_pl {d : D} (h : eqOk d) : SeqAt.shaped (toP d) = true := by
  obtain ⟨n, hn, h⟩ := h
  have h1 := canLay_pl n d h
  have h2 := depth_pl n d h
  exact Bool.and_eq_true_iff.mpr ⟨h1, decide_eq_true (by omega)⟩
theorem res_rep {K : Kf} {B F : Hp} {E : En} {h : MH} {σ : L2.St} {H : Hp} {d : D} {v : V} (R : Rel K B F E h σ H) (r : Rep K F d v) (q : eqOk (res h d)) : Dp K H v (toP (res h d)) := by
  obtain ⟨n, _, q⟩ := q
  have go : ∀ {d : D} {v : V}, Rep K F d v → plD n d = true → Dp K H v (toP d) := fun r q => dp_of (fun a xs => R.sqT) (fun a xs e => .of (R.frz _ _ e).1) n _ _ r q
  cases r with
  | ref a =>
    show Dp K H _ (toP (match h a with
      | some (.lst xs) => .lst xs
      | _ => .ref a))
    have q : plD n (match h a with
      | some (.lst xs) => .lst xs
      | _ => .ref a) = true := q
    cases e : h a with
    | none => rw [e] at q; cases n <;> simp [plD] at q
    | some m =>
      rw [e] at q
      cases m with
      | lst xs =>
        obtain ⟨vs, e2, rs⟩ := R.cel a _ e
        cases n with
        | zero => simp [plD] at q
        | succ n =>
          simp only [toP]
          exact .lst (.of e2) (dps_of (fun a xs => R.sqT) (fun a xs e => .of (R.frz _ _ e).1) n xs _ rs (by simpa [plD] using q))
      | dct xs => cases n <;> simp [plD] at q
      | ins C fs => cases n <;> simp [plD] at q
  | non => exact go .non q
  | bl b => exact go (.bl b) q
  | int b => exact go (.int b) q
  | str b => exact go (.str b) q
  | tup e rs => exact go (.tup e rs) q
  | lst e rs => exact go (.lst e rs) q
  | dct e rs => exact go (.dct e rs) q
  | scr e => exact go (.scr e) q
  | lam e e2 e3 => exact go (.lam e e2 e3) q
def gEq : G2 := fun x y h Kn => eqOk (res h x) ∧ eqOk (res h y) ∧ Kn (.d (.bl (eqD (res h x) (res h y)))) h
def gNe : G2 := fun x y h Kn => eqOk (res h x) ∧ eqOk (res h y) ∧ Kn (.d (.bl (!eqD (res h x) (res h y)))) h
theorem has_eq {K : Kf} : Has2 K (rEqD K) gEq := fun B F E h σ H x y vx vy Q Kn R rx ry ⟨q1, q2, q⟩ hn =>
  ⟨_, _, res_rep R rx q1, res_rep R ry q2, shaped_pl q1, shaped_pl q2, hn (.d (.bl _)) h F H _ (Le.refl F) R (.bl _) q⟩
theorem has_ne {K : Kf} : Has2 K (rNeD K) gNe := fun B F E h σ H x y vx vy Q Kn R rx ry ⟨q1, q2, q⟩ hn =>
  ⟨_, _, res_rep R rx q1, res_rep R ry q2, shaped_pl q1, shaped_pl q2, hn (.d (.bl _)) h F H _ (Le.refl F) R (.bl _) q⟩
section
variable {X : Cx} {W : WX} {a b : Expr} {pos : Pos} {ta tb : TVm}
theorem mt_cmp {op : CmpOp} {r : R2} {g : G2} (ho : OpR X (compareOp op) r) (hg : Has2 X.K r g) (ha : MV X W a ta) (hb : MV X W b tb) (hm : behindInMarks op b = false) : MT X W (.Compare a [op] [b] pos) (mTst (frzV (mOp g ta tb))) := fun B => (pt_cmpR ho (ha B) (hb B) hm).impM fun σ H Q ⟨F, E, h, Kn, Kx, R, ht, hx, hn⟩ => by
  refine two hg (W := W) ⟨F, E, h, _, Kx, R, ht, hx, fun r h' F' H' v l R' q k => ?_⟩
  obtain ⟨F2, l2, R2, rp⟩ := q.frz R'
  obtain ⟨b, rfl, e, k⟩ := bl_of rp k
  exact ⟨b, rfl, hn b h' F2 H' (l.trans l2) R2 k⟩
theorem mt_chain {op op' : CmpOp} {r r' : R2} {g g' : G2} {c : Expr} {tc : TVm} (ho : OpR X (compareOp op) r) (ho' : OpR X (compareOp op') r') (hg : Has2 X.K r g) (hg' : Has2 X.K r' g') (ha : MV X W a ta) (hb : MV X W b tb) (hc : MV X W c tc)
    (hm : lastMarks [op, op'] [b, c] = false := by with_unfolding_all rfl) : MT X W (.Compare a [op, op'] [b, c] pos) (mTst (frzV (mChain g g' ta tb tc))) := fun B => (pt_chain ho ho' (ha B) (hb B) (hc B) hm).impM fun σ H Q ⟨F, E, h, Kn, Kx, R, ht, hx, hn⟩ => by
  refine ⟨F, E, h, _, Kx, R, ht, hx, fun x h1 F1 H1 v l1 R1 r1 k1 => ?_⟩
  refine ⟨F1, E, h1, _, Kx, R1, k1, hx.up l1, fun y h2 F2 H2 u l2 R2 r2 k2 => ?_⟩
  refine hg B F2 E h2 σ H2 x y v u _ _ R2 (r1.mono l2) r2 k2 fun r h3 F3 H3 w l3 R3 q3 k3 => ?_
  obtain ⟨F4, l4', R4, rp⟩ := q3.frz R3
  obtain ⟨b, rfl, e, k3⟩ := bl_of rp k3
  refine ⟨b, rfl, ?_⟩
  have l4 := ((l1.trans l2).trans l3).trans l4'
  cases b with
  | false => exact ⟨false, rfl, hn false h3 F4 H3 l4 R4 k3⟩
  | true =>
    refine ⟨F4, E, h3, _, Kx, R4, k3, hx.up l4, fun z h5 F5 H5 w l5 R5 r5 k5 => ?_⟩
    refine hg' B F5 E h5 σ H5 y z u w _ _ R5 ((r2.mono l3).mono (l4'.trans l5)) r5 k5 fun r h' F' H' w l6 R6 q6 k6 => ?_
    obtain ⟨F7, l7, R7, rp7⟩ := q6.frz R6
    obtain ⟨b, rfl, e, k6⟩ := bl_of rp7 k6
    exact ⟨b, rfl, hn b h' F7 H' (((l4.trans l5).trans l6).trans l7) R7 k6⟩
theorem mw_and1 {t : TTm} (h : MT X W a t) : MW X W (.BoolOp .And [a] pos) t := fun B => pw_and1 (h B)
theorem mw_or1 {t : TTm} (h : MT X W a t) : MW X W (.BoolOp .Or [a] pos) t := fun B => pw_or1 (h B)
theorem mw_and {rest : List Expr} {t u : TTm} (h : MT X W a t) (h2 : MW X W (.BoolOp .And (b :: rest) pos) u) : MW X W (.BoolOp .And (a :: b :: rest) pos) (mAndT t u) := fun B => (pw_and (h B) (h2 B)).impM fun _ _ _ q => andT_ok q
theorem mw_or {rest : List Expr} {t u : TTm} (h : MT X W a t) (h2 : MW X W (.BoolOp .Or (b :: rest) pos) u) : MW X W (.BoolOp .Or (a :: b :: rest) pos) (mOrT t u) := fun B => (pw_or (h B) (h2 B)).impM fun _ _ _ q => orT_ok q
theorem MW.mt {t : TTm} (h : MW X W a t) : MT X W a t := fun B => (h B).pt
theorem mv_one {op} {t : TVm} (h : MV X W a t) : MV X W (.BoolOp op [a] pos) t := fun B => pe_one (h B)
theorem mv_and {rest : List Expr} (h : MV X W a ta) (h2 : MV X W (.BoolOp .And (b :: rest) pos) tb) : MV X W (.BoolOp .And (a :: b :: rest) pos) (mAndV ta tb) := fun B => (pe_and (h B) (h2 B)).impM fun _ _ _ q => andV_ok q
theorem mv_or {rest : List Expr} (h : MV X W a ta) (h2 : MV X W (.BoolOp .Or (b :: rest) pos) tb) : MV X W (.BoolOp .Or (a :: b :: rest) pos) (mOrV ta tb) := fun B => (pe_or (h B) (h2 B)).impM fun _ _ _ q => orV_ok q
/-! ### is None -/
def isNon : D → Bool
  | .non => true
  | _ => false
theorem isNon_rep {K : Kf} {F : Hp} {d : D} {v : V} (r : Rep K F d v) : decide (v = .non) = isNon d := by
  cases r <;> simp [isNon]
def gIsN (p : Bool → Bool) : G2 := fun x y h Kn => y = .non ∧ Kn (.d (.bl (p (isNon x)))) h
theorem has_isN {K : Kf} {p : Bool → Bool} : Has2 K (fun x y H Q => y = .non ∧ Q (.bl (p (decide (x = .non)))) H) (gIsN p) := by
  intro B F E h σ H x y vx vy Q Kn R rx ry q hn
  obtain ⟨rfl, q⟩ := q
  cases ry
  exact ⟨rfl, hn (.d (.bl _)) h F H _ (Le.refl F) R (by rw [isNon_rep rx]; exact .bl _) q⟩
/-! ### in -/
def flD : D → Bool
  | .non | .bl _ | .int _ | .str _ => true
  | _ => false
def eqF : D → D → Bool
  | .non, .non => true
  | .bl a, .bl b => a == b
  | .bl a, .int j => (if a then 1 else 0) == j
  | .int i, .bl b => i == (if b then 1 else 0)
  | .int i, .int j => i == j
  | .str x, .str y => x == y
  | _, _ => false
theorem fl_rep {K : Kf} {F : Hp} {d : D} {v : V} (r : Rep K F d v) (q : flD d = true) : flatV v = true := by
  cases r <;> first | rfl | (simp [flD] at q)
theorem eqF_rep {K : Kf} {F : Hp} {d e : D} {v u : V} (r : Rep K F d v) (r2 : Rep K F e u) (q : flD d = true) (q2 : flD e = true) : eqV v u = eqF d e := by
  cases r <;> first | (simp [flD] at q; done) | (cases r2 <;> first | rfl | (simp [flD] at q2; done))
def inD (x : D) (xs : List D) : Bool := xs.any fun y => eqF y x
theorem in_rep {K : Kf} {F : Hp} {x : D} {v : V} (r : Rep K F x v) (q : flD x = true) : ∀ {xs : List D} {vs : List V}, Reps K F xs vs → xs.all flD = true → vs.all flatV = true ∧ inV v vs = inD x xs
  | _, _, .nil, _ => ⟨rfl, rfl⟩
  | _, _, .cons a rs, h => by
    simp only [List.all_cons, Bool.and_eq_true] at h ⊢
    obtain ⟨h1, h2⟩ := in_rep r q rs h.2
    refine ⟨⟨fl_rep a h.1, h1⟩, ?_⟩
    show (eqV _ v || inV v _) = (eqF _ x || inD x _)
    rw [h2, eqF_rep a r h.1 q]
/-- a key -/
def keyD : D → Option Key
  | .int i => some (.inl i)
  | .str x => some (.inr x)
  | _ => none
theorem key_rep {K : Kf} {F : Hp} {d : D} {v : V} {k : Key} (r : Rep K F d v) (q : keyD d = some k) : v = kV k := by
  cases r <;> first | (simp [keyD] at q; done) | (simp only [keyD, Option.some.injEq] at q; subst q; rfl)
def valD (kvs : List (Key × D)) (k : Key) : Option D := (kvs.find? fun kv => decide (kv.1 = k)).map (·.2)
def putKD (kvs : List (Key × D)) (k : Key) (v : D) : List (Key × D) :=
  if (kvs.any fun kv => decide (kv.1 = k)) = true then kvs.map (fun kv => if kv.1 = k then (kv.1, v) else kv) else kvs ++ [(k, v)]
theorem RepK.val {K : Kf} {F : Hp} {k : Key} : ∀ {xs : List (Key × D)} {vs : List (Key × V)}, RepK K F xs vs → (valD xs k = none ∧ valV vs k = none) ∨ ∃ d v, valD xs k = some d ∧ valV vs k = some v ∧ Rep K F d v
  | _, _, .nil => .inl ⟨rfl, rfl⟩
  | _, _, .cons (k := k') a r => by
    unfold valD valV
    by_cases e : k' = k
    · refine .inr ⟨_, _, ?_, ?_, a⟩ <;> simp [List.find?_cons, e]
    · simp only [List.find?_cons, e, decide_false]
      exact RepK.val r
theorem RepK.any {K : Kf} {F : Hp} {k : Key} : ∀ {xs : List (Key × D)} {vs : List (Key × V)}, RepK K F xs vs → (xs.any fun kv => decide (kv.1 = k)) = vs.any fun kv => decide (kv.1 = k)
  | _, _, .nil => rfl
  | _, _, .cons a r => by
    simp only [List.any_cons]
    rw [RepK.any r]
theorem RepK.map {K : Kf} {F : Hp} {k : Key} {d : D} {v : V} (a : Rep K F d v) : ∀ {xs : List (Key × D)} {vs : List (Key × V)}, RepK K F xs vs → RepK K F (xs.map (fun kv => if kv.1 = k then (kv.1, d) else kv)) (vs.map (fun kv => if kv.1 = k then (kv.1, v) else kv))
  | _, _, .nil => .nil
  | _, _, .cons (k := k') b r => by
    simp only [List.map_cons]
    by_cases e : k' = k
    · rw [if_pos e, if_pos e]
      exact .cons a (RepK.map a r)
    · rw [if_neg e, if_neg e]
      exact .cons b (RepK.map a r)
theorem RepK.app {K : Kf} {F : Hp} : ∀ {xs ys : List (Key × D)} {vs ws : List (Key × V)}, RepK K F xs vs → RepK K F ys ws → RepK K F (xs ++ ys) (vs ++ ws)
  | _, _, _, _, .nil, r => r
  | _, _, _, _, .cons a r, s => .cons a (RepK.app r s)
theorem RepK.put {K : Kf} {F : Hp} {k : Key} {d : D} {v : V} (a : Rep K F d v) {xs : List (Key × D)} {vs : List (Key × V)} (r : RepK K F xs vs) : RepK K F (putKD xs k d) (putK vs k v) := by
  unfold putKD putK
  rw [r.any]
  split
  · exact r.map a
  · exact r.app (.cons a .nil)
theorem dget_ok {K : Kf} {B F : Hp} {E : En} {h : MH} {σ : L2.St} {H : Hp} {d y : D} {v u : V} {p : Option D → Prop} (R : Rel K B F E h σ H) (r : Rep K F d v) (ry : Rep K F y u) (q : onD h d fun kvs => match keyD y with
    | some k => p (valD kvs k)
    | none => False) : ∃ a o o', v = .ref a ∧ DGet H a u o' ∧ p o ∧ ((o = none ∧ o' = none) ∨ ∃ d v, o = some d ∧ o' = some v ∧ Rep K F d v) := by
  obtain ⟨a, xs, vs, rfl, e, rs, q⟩ := dct_of R r q
  cases ek : keyD y with
  | none => rw [ek] at q; exact q.elim
  | some k =>
    rw [ek] at q
    obtain rfl := key_rep ry ek
    exact ⟨a, _, _, rfl, .inl ⟨vs, k, e, rfl, rfl⟩, q, rs.val⟩
/-- x in what: a list, a tuple, a dict, a text -/
def gIn (p : Bool → Bool) : G2 := fun x y h Kn => match y with
  | .str z => onStr x fun c => Kn (.d (.bl (p (!(Builtin.Str.occurrences z c 0 z.length 1).isEmpty)))) h
  | .dct _ => onD h y fun kvs => match keyD x with
    | some k => Kn (.d (.bl (p (valD kvs k).isSome))) h
    | none => False
  | .ref a => (match h a with
    | some (.dct kvs) => (match keyD x with
      | some k => Kn (.d (.bl (p (valD kvs k).isSome))) h
      | none => False)
    | _ => onQ h y fun xs => flD x = true ∧ xs.all flD = true ∧ Kn (.d (.bl (p (inD x xs)))) h)
  | _ => onQ h y fun xs => flD x = true ∧ xs.all flD = true ∧ Kn (.d (.bl (p (inD x xs)))) h
def rDIn (p : Bool → Bool) : R2 := fun y x H Q => ∃ a o, x = .ref a ∧ DGet H a y o ∧ Q (.bl (p o.isSome)) H
theorem op_inD (hu : X.A.units + 1 < cLine) : OpR X (compareOp .In) (rDIn id) := by
  intro pins s σ H x y v u Q I rx ry h
  obtain ⟨a, o, rfl, g, q⟩ := h
  obtain rfl : u = Value.ref a := ry
  exact d_in hu I g rx fun s3 I3 => ⟨.bl o.isSome, H, I3, rfl, q⟩
theorem op_notInD (hu : X.A.units + 1 < cLine) : OpR X (compareOp .NotIn) (rDIn not) := by
  intro pins s σ H x y v u Q I rx ry h
  obtain ⟨a, o, rfl, g, q⟩ := h
  obtain rfl : u = Value.ref a := ry
  exact d_notIn hu I g rx fun s3 I3 => ⟨.bl (!o.isSome), H, I3, rfl, q⟩
abbrev rInA (K : Kf) (p : Bool → Bool) : R2 := fun x y H Q => (∃ i j, x = .str i ∧ y = .str j ∧ Q (.bl (p (!(Builtin.Str.occurrences j i 0 j.length 1).isEmpty))) H) ∨ ((∃ a xs, y = .ref a ∧ (SqL K H a xs ∨ SqT K H a xs) ∧ flatV x = true ∧ xs.all flatV = true ∧ Q (.bl (p (inV x xs))) H) ∨ rDIn p x y H Q)
theorem op_inA (hu : X.A.units + 1 < cLine) : OpR X (compareOp .In) (rInA X.K id) := op_in_str.or (op_in_seq.or (op_inD hu))
theorem op_notInA (hu : X.A.units + 1 < cLine) : OpR X (compareOp .NotIn) (rInA X.K not) := L2.op_notIn_str.or (op_notIn_seq.or (op_notInD hu))
theorem has_in {K : Kf} {p : Bool → Bool} : Has2 K (rInA K p) (gIn p) := by
  intro B F E h σ H x y vx vy Q Kn R rx ry q hn
  have sq : (onQ h y fun xs => flD x = true ∧ xs.all flD = true ∧ Kn (.d (.bl (p (inD x xs)))) h) → rInA K p vx vy H Q := fun q => by
    obtain ⟨a, xs, vs, rfl, e, rs, q1, q2, q⟩ := seq_of R ry q
    obtain ⟨z1, z2⟩ := in_rep rx q1 rs q2
    exact .inr (.inl ⟨a, vs, rfl, e, fl_rep rx q1, z1, by rw [z2]; exact hn (.d (.bl _)) h F H _ (Le.refl F) R (.bl _) q⟩)
  have dc : (onD h y fun kvs => match keyD x with
    | some k => Kn (.d (.bl (p (valD kvs k).isSome))) h
    | none => False) → rInA K p vx vy H Q := fun q => by
    obtain ⟨a, o, o', rfl, g, q, z⟩ := dget_ok (p := fun o => Kn (.d (.bl (p o.isSome))) h) R ry rx q
    have e : o'.isSome = o.isSome := by
      rcases z with ⟨rfl, rfl⟩ | ⟨_, _, rfl, rfl, _⟩ <;> rfl
    exact .inr (.inr ⟨a, o', rfl, g, by rw [e]; exact hn (.d (.bl _)) h F H _ (Le.refl F) R (.bl _) q⟩)
  cases ry with
  | str z =>
    obtain ⟨i, rfl, rfl, q⟩ := str_of rx q
    exact .inl ⟨i, z, rfl, rfl, hn (.d (.bl _)) h F H _ (Le.refl F) R (.bl _) q⟩
  | dct e rs => exact dc q
  | tup e rs => exact sq q
  | lst e rs => exact sq q
  | scr e => exact sq q
  | lam e e2 e3 => exact sq q
  | ref a =>
    have q' : (match h a with
    | some (.dct kvs) => (match keyD x with
      | some k => Kn (.d (.bl (p (valD kvs k).isSome))) h
      | none => False)
    | _ => onQ h (.ref a) fun xs => flD x = true ∧ xs.all flD = true ∧ Kn (.d (.bl (p (inD x xs)))) h) := q
    cases e : h a with
    | none =>
      rw [e] at q'
      exact sq q'
    | some m =>
      rw [e] at q'
      cases m with
      | lst xs => exact sq q'
      | ins C fs => exact sq q'
      | dct kvs =>
        refine dc ?_
        show (match h a with
          | some (.dct xs) => (match keyD x with
            | some k => Kn (.d (.bl (p (valD xs k).isSome))) h
            | none => False)
          | _ => False)
        rw [e]
        exact q'
  | non => exact sq q
  | bl b => exact sq q
  | int b => exact sq q
end
end M3
set_option Elab.async false
set_option linter.all false
set_option maxRecDepth 100000
set_option maxHeartbeats 4000000
namespace M3
open PySem PySem.Spec PyProof.Rows L2
section
variable {X : Cx} {W : WX} {a b e : Expr} {pos pos' : Pos} {ta tb tv : TVm}
/-! ### o[i] -/
def rIxD : R2 := fun x y H Q => ∃ a v, x = .ref a ∧ DGet H a y (some v) ∧ Q v H
theorem ix_dict (hu : X.A.units + 1 < cLine) : IxR X rIxD := by
  intro value slice pins s σ H x y v u Q I rx ry h hs
  obtain ⟨a, z, rfl, g, q⟩ := h
  obtain rfl : v = Value.ref a := rx
  have hT := dict_typeIs I g
  have h₂ : wpAny (model X.prog X.w) X.A (getItem (.ref a) u) (EP X pins σ Q) X.xe s := d_getItem hu I g ry fun w' s3 I3 rw' => ⟨z, H, I3, rw', q⟩
  unfold subscriptTail
  refine wpAny_bind ?_
  rw [getitemInPython_of_ne hT.not_modules]
  refine wpAny_bind (wpAny_specialOf hT PySem.F.slot_dict_getitem.lookup ?_)
  have fin : wpAny (model X.prog X.w) X.A (subscripted slice false (.ref a) u) (fun r s₃ => wpAny (model X.prog X.w) X.A (letTemporaryGo value (.ref a) r >>= fun _ => pure r) (EP X pins σ Q) X.xe s₃) X.xe s := by
    rw [hs]
    exact wpAny_operating (wpAny_mono h₂ (fun r s₃ h₃ => wpAny_bind (wpAny_letTemporaryGo (wpAny_pure h₃))) fun _ _ x => x)
  first
    | exact wpAny_pure (wpAny_bind fin)
    | exact wpAny_bind (wpAny_pure (wpAny_bind fin))
    | exact wpAny_bind fin
def atD (xs : List D) (i : Int) : Option D := (ixN xs.length i).bind fun j => xs[j]?
def gIxQ (h : MH) (x : D) (i : Int) (k : D → Prop) : Prop := onQ h x fun xs => match atD xs i with
  | some d => k d
  | none => False
def gIxD (h : MH) (x y : D) (k : D → Prop) : Prop := onD h x fun kvs => match keyD y with
  | some key => (match valD kvs key with
    | some d => k d
    | none => False)
  | none => False
def gIx : G2 := fun x y h Kn => match x with
  | .str z => onInt y fun i => z.length ≤ sizeLine ∧ (match atI z.cps.toList i with
    | some c => Kn (.d (.str ⟨#[c]⟩)) h
    | none => False)
  | .dct _ => gIxD h x y fun d => Kn (.d d) h
  | .ref a => (match h a with
    | some (.dct _) => gIxD h x y fun d => Kn (.d d) h
    | _ => onInt y fun i => gIxQ h x i fun d => Kn (.d d) h)
  | _ => onInt y fun i => gIxQ h x i fun d => Kn (.d d) h
theorem at_rep {K : Kf} {F : Hp} {xs : List D} {vs : List V} {i : Int} {d : D} (r : Reps K F xs vs) (e : atD xs i = some d) : ∃ v, atI vs i = some v ∧ Rep K F d v := by
  unfold atD at e
  unfold atI
  rw [← r.len]
  cases q : ixN xs.length i with
  | none => rw [q] at e; cases e
  | some j =>
    rw [q] at e
    exact r.get (i := j) e
theorem has_ix {K : Kf} : Has2 K (fun x y H Q => rIx K x y H Q ∨ rIxD x y H Q) gIx := by
  intro B F E h σ H x y vx vy Q Kn R rx ry q hn
  have sq : (onInt y fun i => gIxQ h x i fun d => Kn (.d d) h) → (rIx K vx vy H Q ∨ rIxD vx vy H Q) := fun q => by
    obtain ⟨i, rfl, rfl, q⟩ := int_of ry q
    obtain ⟨a, xs, vs, rfl, e, rs, q⟩ := seq_of R rx q
    cases ea : atD xs i with
    | none => rw [ea] at q; exact q.elim
    | some d =>
      rw [ea] at q
      obtain ⟨v, ev, rv⟩ := at_rep rs ea
      have fin := hn (.d d) h F H v (Le.refl F) R rv q
      rcases e with e | e
      · exact .inl (.inl ⟨a, vs, i, v, rfl, rfl, e, ev, fin⟩)
      · exact .inl (.inr (.inl ⟨a, vs, i, v, rfl, rfl, e, ev, fin⟩))
  have dc : (gIxD h x y fun d => Kn (.d d) h) → (rIx K vx vy H Q ∨ rIxD vx vy H Q) := fun q => by
    obtain ⟨a, xs, vs, rfl, e, rs, q⟩ := dct_of R rx q
    cases ek : keyD y with
    | none => rw [ek] at q; exact q.elim
    | some k =>
      rw [ek] at q
      obtain rfl := key_rep ry ek
      have q : (match valD xs k with
        | some d => Kn (.d d) h
        | none => False) := q
      rcases rs.val (k := k) with ⟨z1, z2⟩ | ⟨d, v, z1, z2, rv⟩
      · rw [z1] at q; exact q.elim
      · rw [z1] at q
        exact .inr ⟨a, v, rfl, .inl ⟨vs, k, e, rfl, z2.symm⟩, hn (.d d) h F H v (Le.refl F) R rv q⟩
  cases rx with
  | str z =>
    obtain ⟨i, rfl, rfl, q⟩ := int_of ry q
    obtain ⟨hz, q⟩ := q
    cases ea : atI z.cps.toList i with
    | none => rw [ea] at q; exact q.elim
    | some c =>
      rw [ea] at q
      exact .inl (.inr (.inr ⟨z, i, c, rfl, rfl, hz, ea, hn (.d (.str _)) h F H _ (Le.refl F) R (.str _) q⟩))
  | dct e rs => exact dc q
  | tup e rs => exact sq q
  | lst e rs => exact sq q
  | scr e => exact sq q
  | lam e e2 e3 => exact sq q
  | non => exact sq q
  | bl b => exact sq q
  | int b => exact sq q
  | ref a =>
    have q' : (match h a with
    | some (.dct _) => gIxD h (.ref a) y fun d => Kn (.d d) h
    | _ => onInt y fun i => gIxQ h (.ref a) i fun d => Kn (.d d) h) := q
    cases e : h a with
    | none => rw [e] at q'; exact sq q'
    | some m =>
      rw [e] at q'
      cases m with
      | lst xs => exact sq q'
      | ins C fs => exact sq q'
      | dct kvs => exact dc q'
theorem me_ix (hu : X.A.units + 1 < cLine) (ha : MV X W a ta) (hb : MV X W b tb) (hs : PlainIx b := by exact fun _ _ => rfl) : ME X W (.Subscript a b pos) (mOp gIx ta tb) := fun B => (pe_ix (ix_seq.or (ix_dict hu)) (ha B) (hb B) hs).impM fun _ _ _ q => two has_ix q
/-! ### o[i] = v -/
def rSetD : TSet := fun o i v H Q => ∃ a H4, o = .ref a ∧ DPut H a i v H4 ∧ Q H4
theorem set_dict (hu : X.A.units + 1 < cLine) : PSet X rSetD := by
  intro pins s σ H o i v ov iv u Q I ro ri rv h
  obtain ⟨a, H4, rfl, g, q⟩ := h
  obtain rfl : ov = Value.ref a := ro
  exact d_setItem hu I g ri rv fun s4 I4 => ⟨H4, I4, q⟩
abbrev rSetA : TSet := fun o i v H Q => rSetL o i v H Q ∨ rSetD o i v H Q
theorem set_any (hu : X.A.units + 1 < cLine) : PSet X rSetA := by
  intro pins s σ H o i v ov iv u Q I ro ri rv h
  rcases h with h | h
  · exact set_list pins s σ H o i v ov iv u Q I ro ri rv h
  · exact set_dict hu pins s σ H o i v ov iv u Q I ro ri rv h
def onSet (h : MH) (o i v : D) (k : MH → Prop) : Prop := match o with
  | .ref p => (match h p with
    | some (.lst xs) => onInt i fun j => (match ixN xs.length j with
      | some n => k (put h p (.lst (xs.set n v)))
      | none => False)
    | some (.dct kvs) => (match keyD i with
      | some key => kvs.length < sizeLine ∧ k (put h p (.dct (putKD kvs key v)))
      | none => False)
    | _ => False)
  | _ => False
theorem set_ok2 {K : Kf} {B F : Hp} {E : En} {h : MH} {σ : L2.St} {H : Hp} {o i v : D} {vo vi vv : V} {k : MH → Prop} {Q : Hp → Prop} (R : Rel K B F E h σ H) (ro : Rep K F o vo) (ri : Rep K F i vi) (rv : Rep K F v vv) (q : onSet h o i v k)
    (hn : ∀ h' H', Rel K B F E h' σ H' → k h' → Q H') : rSetA vo vi vv H Q := by
  cases ro with
  | ref a =>
    have q : (match h a with
      | some (.lst xs) => onInt i fun j => (match ixN xs.length j with
        | some n => k (put h a (.lst (xs.set n v)))
        | none => False)
      | some (.dct kvs) => (match keyD i with
        | some key => kvs.length < sizeLine ∧ k (put h a (.dct (putKD kvs key v)))
        | none => False)
      | _ => False) := q
    cases e : h a with
    | none => rw [e] at q; exact q.elim
    | some m =>
      rw [e] at q
      cases m with
      | lst xs =>
        obtain ⟨j, rfl, rfl, q2⟩ := int_of ri q
        obtain ⟨vs, e2, rs⟩ := R.cel a _ e
        cases ej : ixN xs.length j with
        | none => rw [ej] at q2; exact q2.elim
        | some n =>
          rw [ej] at q2
          exact .inl ⟨a, vs, j, n, rfl, rfl, e2, by rw [← rs.len]; exact ej, hn _ _ (R.write (m' := .lst (xs.set n v)) e ⟨_, upd_same, rs.set rv n⟩) q2⟩
      | dct kvs =>
        obtain ⟨vs, e2, rs⟩ := R.cel a _ e
        cases ek : keyD i with
        | none => rw [ek] at q; exact q.elim
        | some key =>
          rw [ek] at q
          obtain rfl := key_rep ri ek
          exact .inr ⟨a, _, rfl, .inl ⟨vs, key, e2, rfl, by rw [← rs.len]; exact q.1, rfl⟩, hn _ _ (R.write (m' := .dct (putKD kvs key v)) e ⟨_, upd_same, RepK.put rv rs⟩) q.2⟩
      | ins C fs => exact q.elim
  | _ => exact q.elim
def sSetI (to ti tv : TVm) : TSm := fun N E h => tv E h (fun v h1 => to E h1 (fun o h2 => ti E h2 (fun i h3 => onSet h3 o i v fun h4 => N.nx E h4) (N.xk E)) (N.xk E)) (N.xk E)
theorem ms_setI {o i : Expr} {to ti : TVm} (hu : X.A.units + 1 < cLine) (ho : MV X W o to) (hi : MV X W i ti) (hv : MV X W e tv)
    (ha : ∀ v, assign (.Subscript o i pos') X.env v = (do
      let ov ← holding [v] (eval o X.env)
      let iv ← holding [v, ov] (eval i X.env)
      standAt pos'
      holding [v, ov, iv] (setItem ov iv v)
      release [v, ov, iv] []) := by intro _; rfl)
    (hs : swapsWithSole [.Subscript o i pos'] e pos.line X.env = pure false := by rfl) (hw : swappedStores [.Subscript o i pos'] e X.env = pure none := by rfl)
    (h1 : (assignEach [.Subscript o i pos'] X.env).map (·.2) = [assign (.Subscript o i pos') X.env] := by rfl) : MS X W (.Assign [.Subscript o i pos'] e pos) (sSetI to ti tv) := fun B =>
  (ps_asg (hv B) (pg_sub (ho B) (hi B) (set_any hu) ha) hs hw h1).impM fun D σ H ⟨F, E, h, N, R, ht, c⟩ => by
    refine ⟨F, E, h, _, (N.xk E), R, ht, fun x h' F' H' a dx l R' q k => c.2.2.2.2 x h' F' E σ H' a dx l R' q k, fun v h1 F1 H1 vv l1 R1 r1 k1 => ?_⟩
    refine ⟨F1, E, h1, _, (N.xk E), R1, k1, fun x h' F' H' a dx l R' q k => c.2.2.2.2 x h' F' E σ H' a dx (l1.trans l) R' q k, fun o h2 F2 H2 vo l2 R2 r2 k2 => ?_⟩
    refine ⟨F2, E, h2, _, (N.xk E), R2, k2, fun x h' F' H' a dx l R' q k => c.2.2.2.2 x h' F' E σ H' a dx ((l1.trans l2).trans l) R' q k, fun i h3 F3 H3 vi l3 R3 r3 k3 => ?_⟩
    exact set_ok2 R3 (r2.mono l3) r3 (r1.mono (l2.trans l3)) k3 fun h' H' R' k => c.1 E h' F3 σ H' ((l1.trans l2).trans l3) R' k
/-- xs[i] op= e -/
def rGetL (K : Kf) : V → V → Hp → VK → Prop := fun x y H Q => ∃ p xs i v, x = .ref p ∧ y = .int i ∧ 0 ≤ i ∧ SqL K H p xs ∧ atI xs i = some v ∧ Q v H
theorem get_list : PGet X (rGetL X.K) := by
  intro pins s σ H x y v u Q I rx ry h
  obtain ⟨p, xs, i, z, rfl, rfl, h0, hq, he, q⟩ := h
  cases rx
  obtain ⟨t, rfl⟩ := ry
  obtain ⟨its, r, pl, hz⟩ := I.list hq
  obtain ⟨j, h1, h2, h3, h4, h5⟩ := atI_get he
  obtain ⟨w, ew, rw'⟩ := r.get h2
  have hl := r.length
  have hn := line63
  have hj : i.toNat = j := by
    rw [seqIndex_of h0 h5] at h1
    exact Option.some.inj h1
  exact wpAny_getItem_list pl.isList h0 (by omega) (by rw [hj]; simpa using ew) ⟨z, H, I, rw', q⟩
def sAugI (to ti tv : TVm) (g : G2) : TSm := fun N E h => to E h (fun o h1 => ti E h1 (fun i h2 => onL h2 o fun xs => onInt i fun j => 0 ≤ j ∧ (match atD xs j with
  | some x => tv E h2 (fun y h3 => g x y h3 fun r h4 => onSet h4 o i r.frz fun h5 => N.nx E h5) (N.xk E)
  | none => False)) (N.xk E)) (N.xk E)
theorem ms_augI {o i : Expr} {to ti : TVm} {op : Operator} {tip : TIp} {g : G2} {tpos : Pos} (hu : X.A.units + 1 < cLine) (ho : MV X W o to) (hi : MV X W i ti) (hv : MV X W e tv) (hp : PIp X op tip) (hg : Has2 X.K tip g)
    (ha : ∀ ov iv new, augStore i ov iv new = (do holding [new, ov, iv] (setItem ov iv new); release [new, ov, iv] []; pure .next) := by intros; rfl) : MS X W (.AugAssign (.Subscript o i tpos) op e pos) (sAugI to ti tv g) := fun B =>
  (ps_augS (ho B) (hi B) get_list (hv B) hp (set_any hu) ha).impM fun D σ H ⟨F, E, h, N, R, ht, c⟩ => by
    refine ⟨F, E, h, _, (N.xk E), R, ht, fun x h' F' H' a dx l R' q k => c.2.2.2.2 x h' F' E σ H' a dx l R' q k, fun o h1 F1 H1 vo l1 R1 r1 k1 => ?_⟩
    refine ⟨F1, E, h1, _, (N.xk E), R1, k1, fun x h' F' H' a dx l R' q k => c.2.2.2.2 x h' F' E σ H' a dx (l1.trans l) R' q k, fun i h2 F2 H2 vi l2 R2 r2 k2 => ?_⟩
    obtain ⟨a, xs, vs, rfl, e, rs, k2⟩ := lst_of R2 (r1.mono l2) k2
    obtain ⟨j, rfl, rfl, h0, k2⟩ := int_of r2 k2
    cases ea : atD xs j with
    | none => rw [ea] at k2; exact k2.elim
    | some x =>
      rw [ea] at k2
      obtain ⟨v, ev, rv⟩ := at_rep rs ea
      refine ⟨a, vs, j, v, rfl, rfl, h0, .of e, ev, F2, E, h2, _, (N.xk E), R2, k2, fun x h' F' H' a dx l R' q k => c.2.2.2.2 x h' F' E σ H' a dx ((l1.trans l2).trans l) R' q k, fun y h3 F3 H3 vy l3 R3 r3 k3 => ?_⟩
      refine hg B F3 E h3 σ H3 x y v vy _ _ R3 (rv.mono l3) r3 k3 fun r h4 F4 H4 z l4 R4 q4 k4 => ?_
      obtain ⟨F5, l5, R5, rp⟩ := q4.frz R4
      exact set_ok2 R5 (r1.mono (((l2.trans l3).trans l4).trans l5)) (.int j) rp k4 fun h' H' R' k => c.1 E h' F5 σ H' ((((l1.trans l2).trans l3).trans l4).trans l5) R' k
/-! ### slices -/
abbrev TOm := En → MH → (Option Int → MH → Prop) → XKm → Prop
def LO (K : Kf) (B : Hp) (W : WX) (t : TOm) : TO := fun σ H Q => ∃ F E h Kn Kx, Rel K B F E h σ H ∧ t E h Kn Kx ∧ XFin K B F E σ W Kx ∧
  ∀ o h' F' H', Le F F' → Rel K B F' E h' σ H' → Kn o h' → Q o H'
def MO_ (X : Cx) (W : WX) (e : Option Expr) (t : TOm) : Prop := ∀ B, PO X e (LO X.K B W t)
def oNo : TOm := fun _ h Kn _ => Kn none h
def oSome (t : TVm) : TOm := fun E h Kn Kx => t E h (fun d h' => onInt d fun i => Kn (some i) h') Kx
theorem _root_.L2.PO.impM {X : Cx} {e : Option Expr} {t t' : TO} (p : PO X e t) (h : ∀ σ H Q, t' σ H Q → t σ H Q) : PO X e t' := by
  obtain ⟨p⟩ := p
  exact ⟨fun pins s σ H Q I q => p pins s σ H Q I (h σ H Q q)⟩
theorem mo_none : MO_ X W none oNo := fun B => po_none.impM fun σ H Q ⟨F, E, h, Kn, Kx, R, ht, hx, hn⟩ => hn none h F H (Le.refl F) R ht
theorem mo_some (p : MV X W e tv) : MO_ X W (some e) (oSome tv) := fun B => (po_some (p B)).impM fun σ H Q ⟨F, E, h, Kn, Kx, R, ht, hx, hn⟩ =>
  ⟨F, E, h, _, Kx, R, ht, hx, fun d h' F' H' v l R' r k => by
    obtain ⟨i, rfl, rfl, k⟩ := int_of r k
    exact ⟨i, rfl, hn (some i) h' F' H' l R' k⟩⟩
def cutD (xs : List D) (lo hi : Option Int) : List D := (xs.drop (HT.sIx xs.length 0 lo)).take (HT.sIx xs.length xs.length hi - HT.sIx xs.length 0 lo)
theorem cut_rep {K : Kf} {F : Hp} {xs : List D} {vs : List V} (lo hi : Option Int) (r : Reps K F xs vs) : Reps K F (cutD xs lo hi) (cutV vs lo hi) := by
  unfold cutD cutV
  rw [r.len]
  exact (r.drop _).take _
def gSl (h : MH) (x : D) (lo hi : Option Int) (Kn : RV → Prop) : Prop := match x with
  | .str z => z.length ≤ sizeLine ∧ Kn (.d (.str (cutS z lo hi)))
  | .tup xs => Kn (.d (.tup (cutD xs lo hi)))
  | _ => onL h x fun xs => Kn (.ol (cutD xs lo hi))
def mSl (te : TVm) (tl th : TOm) : TEm := fun E h Kn Kx => te E h (fun x h1 => tl E h1 (fun l h2 => th E h2 (fun u h3 => gSl h3 x l u fun r => Kn r h3) Kx) Kx) Kx
theorem me_slice {lo hi : Option Expr} {tl th : TOm} {p2 : Pos} (he : MV X W e ta) (hl : MO_ X W lo tl) (hh : MO_ X W hi th) : ME X W (.Subscript e (.Slice lo hi none p2) pos) (mSl ta tl th) := fun B => (pe_slice (sl_tupA.or (sl_list.or sl_str)) (he B) (hl B) (hh B)).impM fun σ H Q ⟨F, E, h, Kn, Kx, R, ht, hx, hn⟩ => by
  refine ⟨F, E, h, _, Kx, R, ht, hx, fun x h1 F1 H1 v l1 R1 r1 k1 => ?_⟩
  refine ⟨F1, E, h1, _, Kx, R1, k1, hx.up l1, fun lo h2 F2 H2 l2 R2 k2 => ?_⟩
  refine ⟨F2, E, h2, _, Kx, R2, k2, (hx.up l1).up l2, fun hi h3 F3 H3 l3 R3 k3 => ?_⟩
  have r3 := (r1.mono l2).mono l3
  have ll := (l1.trans l2).trans l3
  have lists : (onL h3 x fun xs => Kn (.ol (cutD xs lo hi)) h3) → rSlL X.K v lo hi H3 Q := fun q => by
    obtain ⟨a, xs, vs, rfl, e, rs, q⟩ := lst_of R3 r3 q
    refine ⟨a, vs, rfl, .of e, fun p hp => ?_⟩
    exact hn (.ol _) h3 F3 _ _ ll (R3.newO hp) ⟨p, _, rfl, upd_same, cut_rep lo hi rs, R3.noB hp, R3.noF hp, R3.noh hp⟩ q
  cases r3 with
  | str z => exact .inr (.inr ⟨z, rfl, k3.1, hn (.d (.str _)) h3 F3 H3 _ ll R3 (.str _) k3.2⟩)
  | @tup a vs ds e rs =>
    refine .inl ⟨a, vs, rfl, R3.sqT e, fun z => ?_, fun _ p hp => ?_⟩
    · have e2 : cutV vs lo hi = vs := by
        unfold cutV
        rw [z.1, z.2]
        simp
      exact hn (.d (.tup _)) h3 F3 H3 _ ll R3 (.tup e (by have := cut_rep lo hi rs; rw [e2] at this; exact this)) k3
    · have l4 : Le F3 (upd F3 p (.tup (cutV vs lo hi))) := Le.new (R3.noF hp)
      exact hn (.d (.tup _)) h3 _ _ _ (ll.trans l4) (R3.newF hp) (.tup (.inl (.inl upd_same)) ((cut_rep lo hi rs).mono l4)) k3
  | ref a => exact .inr (.inl (lists k3))
  | lst e rs => exact .inr (.inl (lists k3))
  | non => exact .inr (.inl (lists k3))
  | bl b => exact .inr (.inl (lists k3))
  | int b => exact .inr (.inl (lists k3))
  | dct e rs => exact .inr (.inl (lists k3))
  | scr e => exact .inr (.inl (lists k3))
  | lam e e2 e3 => exact .inr (.inl (lists k3))
/-! ### built-in calls by name -/
variable {x : Str} {bid bty : String} {p : Pos} {es : List Expr} {t : TAm}
theorem me_callB {r : List V → Hp → VK → Prop} {g : GA} (hc : CallR X (.builtin bid) r) (hh : HasA X.K r g) (hg : Gl X x) (hm : X.mg x = none) (hv : bootBuiltins x = some (.builtin bid)) (ha : MA X W (e :: es) t) (hn : x ≠ "__name__" := by decide) (hdb : (x == ("__debug__" : Str)) = false := by decide)
    (he : starEach (e :: es) X.env = (false, eval e X.env) :: starEach es X.env := by rfl) (hpl : (backTo pos (starEach es X.env)).any (·.1) = false := by rfl) : ME X W (.Call (.Name x p) (e :: es) [] pos) (mCall g t) := fun B => (pe_callB hc hg hm hv (ha B) hn hdb he hpl).impM fun _ _ _ q => many hh q
theorem me_callT {r : List V → Hp → VK → Prop} {g : GA} (hc : CallR X (.type bty) r) (hh : HasA X.K r g) (hg : Gl X x) (hm : X.mg x = none) (hv : bootBuiltins x = some (.type bty)) (ha : MA X W (e :: es) t) (hn : x ≠ "__name__" := by decide) (hdb : (x == ("__debug__" : Str)) = false := by decide)
    (he : starEach (e :: es) X.env = (false, eval e X.env) :: starEach es X.env := by rfl) (hpl : (backTo pos (starEach es X.env)).any (·.1) = false := by rfl) : ME X W (.Call (.Name x p) (e :: es) [] pos) (mCall g t) := fun B => (pe_callTy hc hg hm hv (ha B) hn hdb he hpl).impM fun _ _ _ q => many hh q
def on1 (ds : List D) (k : D → Prop) : Prop := match ds with
  | [d] => k d
  | _ => False
def on2 (ds : List D) (k : D → D → Prop) : Prop := match ds with
  | [d, e] => k d e
  | _ => False
theorem one_of {K : Kf} {F : Hp} {ds : List D} {vs : List V} {k : D → Prop} (r : Reps K F ds vs) (q : on1 ds k) : ∃ d v, ds = [d] ∧ vs = [v] ∧ Rep K F d v ∧ k d := by
  match ds, vs, r, q with
  | [d], [v], .cons a .nil, q => exact ⟨d, v, rfl, rfl, a, q⟩
theorem two_of {K : Kf} {F : Hp} {ds : List D} {vs : List V} {k : D → D → Prop} (r : Reps K F ds vs) (q : on2 ds k) : ∃ d e v u, ds = [d, e] ∧ vs = [v, u] ∧ Rep K F d v ∧ Rep K F e u ∧ k d e := by
  match ds, vs, r, q with
  | [d, e], [v, u], .cons a (.cons b .nil), q => exact ⟨d, e, v, u, rfl, rfl, a, b, q⟩
/-! len -/
def gLen : GA := fun ds h Kn => on1 ds fun x => match x with
  | .str z => z.length ≤ sizeLine ∧ Kn (.d (.int z.length)) h
  | .dct kvs => Kn (.d (.int kvs.length)) h
  | .ref a => (match h a with
    | some (.dct kvs) => Kn (.d (.int kvs.length)) h
    | _ => onQ h x fun xs => Kn (.d (.int xs.length)) h)
  | _ => onQ h x fun xs => Kn (.d (.int xs.length)) h
theorem call_lenR : CallR X (.builtin "len") (fun xs H Q => ∃ a kvs, xs = [V.ref a] ∧ Rd H a (.dK kvs) ∧ Q (.int kvs.length) H) := by
  intro pins s σ H xs us Q I r h
  obtain ⟨a, kvs, rfl, ha, q⟩ := h
  obtain ⟨u, rfl, ru⟩ := vals1 r
  cases ru
  exact d_len I ha fun t s' I' => ⟨.int kvs.length, H, I', ⟨t, rfl⟩, q⟩
theorem has_len {K : Kf} : HasA K (fun xs H Q => (∃ x n, xs = [x] ∧ LenV K x H n ∧ Q (.int n) H) ∨ ∃ a kvs, xs = [V.ref a] ∧ Rd H a (.dK kvs) ∧ Q (.int kvs.length) H) gLen := by
  intro B F E h σ H xs vs Q Kn R r q hn
  obtain ⟨d, v, rfl, rfl, rp, q⟩ := one_of r q
  have sq : (onQ h d fun xs => Kn (.d (.int xs.length)) h) → ∃ x n, [v] = [x] ∧ LenV K x H n ∧ Q (.int n) H := fun q => by
    obtain ⟨a, xs, vs, rfl, e, rs, q⟩ := seq_of R rp q
    refine ⟨_, vs.length, rfl, ?_, by rw [← rs.len]; exact hn (.d (.int _)) h F H _ (Le.refl F) R (.int _) q⟩
    rcases e with e | e
    · exact .inl ⟨vs, e, rfl⟩
    · exact .inr ⟨vs, e, rfl⟩
  cases rp with
  | str z => exact .inl ⟨_, z.length, rfl, ⟨q.1, rfl⟩, hn (.d (.int _)) h F H _ (Le.refl F) R (.int _) q.2⟩
  | dct e rs => exact .inr ⟨_, _, rfl, R.rd e, by rw [← rs.len]; exact hn (.d (.int _)) h F H _ (Le.refl F) R (.int _) q⟩
  | ref a =>
    have q' : (match h a with
    | some (.dct kvs) => Kn (.d (.int kvs.length)) h
    | _ => onQ h (.ref a) fun xs => Kn (.d (.int xs.length)) h) := q
    cases e : h a with
    | none => rw [e] at q'; exact .inl (sq q')
    | some m =>
      rw [e] at q'
      cases m with
      | lst xs => exact .inl (sq q')
      | ins C fs => exact .inl (sq q')
      | dct kvs =>
        obtain ⟨ws, e2, rs⟩ := R.cel a _ e
        exact .inr ⟨a, ws, rfl, .inl e2, by rw [← rs.len]; exact hn (.d (.int _)) h F H _ (Le.refl F) R (.int _) q'⟩
  | non => exact .inl (sq q)
  | bl b => exact .inl (sq q)
  | int b => exact .inl (sq q)
  | tup e rs => exact .inl (sq q)
  | lst e rs => exact .inl (sq q)
  | scr e => exact .inl (sq q)
  | lam e e2 e3 => exact .inl (sq q)
theorem call_lenA : CallR X (.builtin "len") (fun xs H Q => (∃ x n, xs = [x] ∧ LenV X.K x H n ∧ Q (.int n) H) ∨ ∃ a kvs, xs = [V.ref a] ∧ Rd H a (.dK kvs) ∧ Q (.int kvs.length) H) := call_len.or call_lenR
/-! list(..), tuple(..) of a list or a tuple -/
def gList : GA := fun ds h Kn => on1 ds fun x => onQ h x fun xs => Kn (.ol xs) h
theorem has_list {K : Kf} : HasA K (fun xs H Q => ∃ p ys, xs = [.ref p] ∧ (SqL K H p ys ∨ SqT K H p ys) ∧ ∀ l, H l = none → Q (.ref l) (upd H l (.lst ys))) gList := by
  intro B F E h σ H xs vs Q Kn R r q hn
  obtain ⟨d, v, rfl, rfl, rp, q⟩ := one_of r q
  obtain ⟨a, xs, vs, rfl, e, rs, q⟩ := seq_of R rp q
  exact ⟨a, vs, rfl, e, fun p hp => hn (.ol xs) h F _ _ (Le.refl F) (R.newO hp) ⟨p, _, rfl, upd_same, rs, R.noB hp, R.noF hp, R.noh hp⟩ q⟩
def gTuple : GA := fun ds h Kn => on1 ds fun x => onQ h x fun xs => Kn (.d (.tup xs)) h
theorem has_tuple {K : Kf} : HasA K (fun xs H Q => ∃ p ys, xs = [.ref p] ∧ ((SqL K H p ys ∧ ∀ l, H l = none → Q (.ref l) (upd H l (.tup ys))) ∨ (SqT K H p ys ∧ Q (.ref p) H))) gTuple := by
  intro B F E h σ H xs vs Q Kn R r q hn
  obtain ⟨d, v, rfl, rfl, rp, q⟩ := one_of r q
  have lst : ∀ {a : Addr} {xs : List D} {vs : List V}, SqL K H a vs → Reps K F xs vs → Kn (.d (.tup xs)) h → (∃ p ys, [V.ref a] = [.ref p] ∧ ((SqL K H p ys ∧ ∀ l, H l = none → Q (.ref l) (upd H l (.tup ys))) ∨ (SqT K H p ys ∧ Q (.ref p) H))) := fun e rs q =>
    ⟨_, _, rfl, .inl ⟨e, fun p hp => hn (.d (.tup _)) h _ _ _ (Le.new (R.noF hp)) (R.newF hp) (.tup (.inl (.inl upd_same)) (rs.mono (Le.new (R.noF hp)))) q⟩⟩
  cases rp with
  | tup e rs => exact ⟨_, _, rfl, .inr ⟨R.sqT e, hn (.d (.tup _)) h F H _ (Le.refl F) R (.tup e rs) q⟩⟩
  | lst e rs => exact lst (.of (R.frz _ _ e).1) rs q
  | scr e => exact lst (R.sqL e) (Reps.ints _) q
  | ref a =>
    have q' : (match h a with
      | some (.lst xs) => Kn (.d (.tup xs)) h
      | _ => False) := q
    cases e : h a with
    | none => rw [e] at q'; exact q'.elim
    | some m =>
      rw [e] at q'
      cases m with
      | lst xs =>
        obtain ⟨vs, e2, rs⟩ := R.cel a _ e
        exact lst (.of e2) rs q'
      | ins C fs => exact q'.elim
      | dct kvs => exact q'.elim
  | _ => exact q.elim
/-! sums, bounds, all -/
def intsD : List D → Option (List Int)
  | [] => some []
  | .int i :: r => (intsD r).map (i :: ·)
  | _ => none
theorem ints_eq : ∀ {xs : List D} {ns : List Int}, intsD xs = some ns → xs = ns.map D.int
  | [], ns, h => by cases h; rfl
  | .int i :: r, ns, h => by
    simp only [intsD, Option.map_eq_some_iff] at h
    obtain ⟨ms, h, rfl⟩ := h
    rw [ints_eq h]
    rfl
  | .non :: _, _, h | .bl _ :: _, _, h | .str _ :: _, _, h | .tup _ :: _, _, h | .lst _ :: _, _, h | .dct _ :: _, _, h | .ref _ :: _, _, h | .scr _ :: _, _, h => by cases h
theorem ints_map (ns : List Int) : intsD (ns.map D.int) = some ns := by
  induction ns with
  | nil => rfl
  | cons n r ih =>
    show (intsD (r.map D.int)).map (n :: ·) = _
    rw [ih]
    rfl
def blsD : List D → Option (List Bool)
  | [] => some []
  | .bl i :: r => (blsD r).map (i :: ·)
  | _ => none
theorem bls_eq : ∀ {xs : List D} {ns : List Bool}, blsD xs = some ns → xs = ns.map D.bl
  | [], ns, h => by cases h; rfl
  | .bl i :: r, ns, h => by
    simp only [blsD, Option.map_eq_some_iff] at h
    obtain ⟨ms, h, rfl⟩ := h
    rw [bls_eq h]
    rfl
  | .non :: _, _, h | .int _ :: _, _, h | .str _ :: _, _, h | .tup _ :: _, _, h | .lst _ :: _, _, h | .dct _ :: _, _, h | .ref _ :: _, _, h | .scr _ :: _, _, h => by cases h
theorem bls_map (ns : List Bool) : blsD (ns.map D.bl) = some ns := by
  induction ns with
  | nil => rfl
  | cons n r ih =>
    show (blsD (r.map D.bl)).map (n :: ·) = _
    rw [ih]
    rfl
def onInts (xs : List D) (k : List Int → Prop) : Prop := match intsD xs with
  | some ns => k ns
  | none => False
def onBls (xs : List D) (k : List Bool → Prop) : Prop := match blsD xs with
  | some ns => k ns
  | none => False
theorem onInts_of {xs : List D} {k : List Int → Prop} (q : onInts xs k) : ∃ ns, xs = ns.map D.int ∧ k ns := by
  unfold onInts at q
  cases e : intsD xs with
  | none => rw [e] at q; exact q.elim
  | some ns => rw [e] at q; exact ⟨ns, ints_eq e, q⟩
theorem onBls_of {xs : List D} {k : List Bool → Prop} (q : onBls xs k) : ∃ ns, xs = ns.map D.bl ∧ k ns := by
  unfold onBls at q
  cases e : blsD xs with
  | none => rw [e] at q; exact q.elim
  | some ns => rw [e] at q; exact ⟨ns, bls_eq e, q⟩
/-- lists alone (no tuple) -/
def onLs (h : MH) (d : D) (k : List D → Prop) : Prop := match d with
  | .tup _ => False
  | d => onQ h d k
theorem lsq_of {K : Kf} {B F : Hp} {E : En} {h : MH} {σ : L2.St} {H : Hp} {d : D} {v : V} {k : List D → Prop} (R : Rel K B F E h σ H) (r : Rep K F d v) (q : onLs h d k) : ∃ a xs vs, v = .ref a ∧ SqL K H a vs ∧ Reps K F xs vs ∧ k xs := by
  cases r with
  | lst e rs => exact ⟨_, _, _, rfl, .of (R.frz _ _ e).1, rs, q⟩
  | tup e rs => exact q.elim
  | scr e => exact ⟨_, _, _, rfl, R.sqL e, Reps.ints _, q⟩
  | ref a =>
    have q : (match h a with
      | some (.lst xs) => k xs
      | _ => False) := q
    cases e : h a with
    | none => rw [e] at q; exact q.elim
    | some m =>
      rw [e] at q
      cases m with
      | lst xs =>
        obtain ⟨vs, e2, rs⟩ := R.cel a _ e
        exact ⟨a, xs, vs, rfl, .of e2, rs, q⟩
      | dct xs => exact q.elim
      | ins C fs => exact q.elim
  | _ => exact q.elim
def gSum : GA := fun ds h Kn => on1 ds fun x => onLs h x fun xs => onInts xs fun ns => Kn (.d (.int ns.sum)) h
theorem has_sum {K : Kf} : HasA K (rSum K) gSum := by
  intro B F E h σ H xs vs Q Kn R r q hn
  obtain ⟨d, v, rfl, rfl, rp, q⟩ := one_of r q
  obtain ⟨a, xs, vs, rfl, e, rs, q⟩ := lsq_of R rp q
  obtain ⟨ns, rfl, q2⟩ := onInts_of q
  rw [rs.of_ints] at e
  exact ⟨a, ns, rfl, e, hn (.d (.int _)) h F H _ (Le.refl F) R (.int _) q2⟩
def gMin : GA := fun ds h Kn => on1 ds fun x => onLs h x fun xs => onInts xs fun ns => 0 < ns.length ∧ ∀ m, m ∈ ns → (∀ y, y ∈ ns → m ≤ y) → Kn (.d (.int m)) h
theorem has_min {K : Kf} : HasA K (rMin K) gMin := by
  intro B F E h σ H xs vs Q Kn R r q hn
  obtain ⟨d, v, rfl, rfl, rp, q⟩ := one_of r q
  obtain ⟨a, xs, vs, rfl, e, rs, q⟩ := lsq_of R rp q
  obtain ⟨ns, rfl, q1, q2⟩ := onInts_of q
  rw [rs.of_ints] at e
  exact ⟨a, ns, rfl, e, q1, fun m hm hy => hn (.d (.int m)) h F H _ (Le.refl F) R (.int _) (q2 m hm hy)⟩
def gMax : GA := fun ds h Kn => on1 ds fun x => onLs h x fun xs => onInts xs fun ns => 0 < ns.length ∧ ∀ m, m ∈ ns → (∀ y, y ∈ ns → y ≤ m) → Kn (.d (.int m)) h
theorem has_max {K : Kf} : HasA K (rMax K) gMax := by
  intro B F E h σ H xs vs Q Kn R r q hn
  obtain ⟨d, v, rfl, rfl, rp, q⟩ := one_of r q
  obtain ⟨a, xs, vs, rfl, e, rs, q⟩ := lsq_of R rp q
  obtain ⟨ns, rfl, q1, q2⟩ := onInts_of q
  rw [rs.of_ints] at e
  exact ⟨a, ns, rfl, e, q1, fun m hm hy => hn (.d (.int m)) h F H _ (Le.refl F) R (.int _) (q2 m hm hy)⟩
def gAll : GA := fun ds h Kn => on1 ds fun x => onLs h x fun xs => onBls xs fun bs => Kn (.d (.bl (bs.all id))) h
theorem has_all {K : Kf} : HasA K (rAll K) gAll := by
  intro B F E h σ H xs vs Q Kn R r q hn
  obtain ⟨d, v, rfl, rfl, rp, q⟩ := one_of r q
  obtain ⟨a, xs, vs, rfl, e, rs, q⟩ := lsq_of R rp q
  obtain ⟨ns, rfl, q2⟩ := onBls_of q
  rw [rs.of_bls] at e
  exact ⟨a, ns, rfl, e, hn (.d (.bl _)) h F H _ (Le.refl F) R (.bl _) q2⟩
def gAny : GA := fun ds h Kn => on1 ds fun x => onLs h x fun xs => onBls xs fun bs => Kn (.d (.bl (bs.any id))) h
theorem has_any {K : Kf} : HasA K (rAny K) gAny := by
  intro B F E h σ H xs vs Q Kn R r q hn
  obtain ⟨d, v, rfl, rfl, rp, q⟩ := one_of r q
  obtain ⟨a, xs, vs, rfl, e, rs, q⟩ := lsq_of R rp q
  obtain ⟨ns, rfl, q2⟩ := onBls_of q
  rw [rs.of_bls] at e
  exact ⟨a, ns, rfl, e, hn (.d (.bl _)) h F H _ (Le.refl F) R (.bl _) q2⟩
/-- max(i, j), min(i, j) -/
def gMax2 : GA := fun ds h Kn => on2 ds fun x y => onInt x fun i => onInt y fun j => Kn (.d (.int (if j > i then j else i))) h
theorem has_max2 {K : Kf} : HasA K (fun xs H Q => ∃ i j, xs = [.int i, .int j] ∧ Q (.int (if j > i then j else i)) H) gMax2 := by
  intro B F E h σ H xs vs Q Kn R r q hn
  obtain ⟨d, e, v, u, rfl, rfl, rp, rq, q⟩ := two_of r q
  obtain ⟨i, rfl, rfl, q⟩ := int_of rp q
  obtain ⟨j, rfl, rfl, q⟩ := int_of rq q
  exact ⟨i, j, rfl, hn (.d (.int _)) h F H _ (Le.refl F) R (.int _) q⟩
def gMin2 : GA := fun ds h Kn => on2 ds fun x y => onInt x fun i => onInt y fun j => Kn (.d (.int (if j < i then j else i))) h
theorem has_min2 {K : Kf} : HasA K (fun xs H Q => ∃ i j, xs = [.int i, .int j] ∧ Q (.int (if j < i then j else i)) H) gMin2 := by
  intro B F E h σ H xs vs Q Kn R r q hn
  obtain ⟨d, e, v, u, rfl, rfl, rp, rq, q⟩ := two_of r q
  obtain ⟨i, rfl, rfl, q⟩ := int_of rp q
  obtain ⟨j, rfl, rfl, q⟩ := int_of rq q
  exact ⟨i, j, rfl, hn (.d (.int _)) h F H _ (Le.refl F) R (.int _) q⟩
def gAbs : GA := fun ds h Kn => on1 ds fun x => onInt x fun i => Kn (.d (.int (if i < 0 then -i else i))) h
theorem has_abs {K : Kf} : HasA K (fun xs H Q => ∃ i, xs = [.int i] ∧ Q (.int (if i < 0 then -i else i)) H) gAbs := by
  intro B F E h σ H xs vs Q Kn R r q hn
  obtain ⟨d, v, rfl, rfl, rp, q⟩ := one_of r q
  obtain ⟨i, rfl, rfl, q⟩ := int_of rp q
  exact ⟨i, rfl, hn (.d (.int _)) h F H _ (Le.refl F) R (.int _) q⟩
/-- int(b), int(i) -/
def gInt : GA := fun ds h Kn => on1 ds fun x => match x with
  | .int i => Kn (.d (.int i)) h
  | .bl b => Kn (.d (.int (if b then 1 else 0))) h
  | _ => False
theorem has_intC {K : Kf} : HasA K (fun xs H Q => (∃ i, xs = [.int i] ∧ Q (.int i) H) ∨ ∃ k, xs = [.bl k] ∧ Q (.int (if k then 1 else 0)) H) gInt := by
  intro B F E h σ H xs vs Q Kn R r q hn
  obtain ⟨d, v, rfl, rfl, rp, q⟩ := one_of r q
  cases rp with
  | int i => exact .inl ⟨i, rfl, hn (.d (.int _)) h F H _ (Le.refl F) R (.int _) q⟩
  | bl b => exact .inr ⟨b, rfl, hn (.d (.int _)) h F H _ (Le.refl F) R (.int _) q⟩
  | _ => exact q.elim
/-- sorted(list of ints) -/
def gSorted : GA := fun ds h Kn => on1 ds fun x => onLs h x fun xs => onInts xs fun ns => ∀ ms : List Int, ms.Perm ns → ms.Pairwise (· ≤ ·) → Kn (.ol (ms.map D.int)) h
theorem has_sorted {K : Kf} : HasA K (rSortedI K) gSorted := by
  intro B F E h σ H xs vs Q Kn R r q hn
  obtain ⟨d, v, rfl, rfl, rp, q⟩ := one_of r q
  obtain ⟨a, xs, vs, rfl, e, rs, q⟩ := lsq_of R rp q
  obtain ⟨ns, rfl, q2⟩ := onInts_of q
  rw [rs.of_ints] at e
  exact ⟨a, ns, rfl, e, fun ms p h1 h2 hp => hn (.ol (ms.map D.int)) h F _ _ (Le.refl F) (R.newO hp) ⟨p, _, rfl, upd_same, Reps.ints ms, R.noB hp, R.noF hp, R.noh hp⟩ (q2 ms h1 h2)⟩
end
end M3
set_option Elab.async false
set_option linter.all false
set_option maxRecDepth 100000
set_option maxHeartbeats 4000000
namespace PySem
open Sem (wp)
theorem m3_enumerate_newB1 {v : Value} {o : Obj} {H : Heap → Prop} (B : Begins v o H) :
    Meets (Builtin.«enumerate.__new__» ⟨[.type "enumerate", v], []⟩) (fun _ R s => H s.heap ∧
      R (.ok (.ret (.ref (s.heap.push o).objs.size))) { s with heap := (s.heap.push o).push { cls := .type "enumerate", data := .fields #[.none, .bool false, .ref s.heap.objs.size, rawInt 0, .none, .none] } }) :=
  .of_wp fun prog w A R s h => by
    obtain ⟨hp, g, d, tk, os⟩ := s; obtain ⟨h1, h⟩ := h
    have hsub := sub_enumerate
    have q1 : ∀ {A' : Around} {E : Value → Shared → Prop} {Q : Value → Shared → Prop}, Q (.ref hp.objs.size) ⟨hp.push o, g, d, tk, os⟩ → wpAny (model prog w) A' (pyIter v) Q E ⟨hp, g, d, tk, os⟩ :=
      fun q => B.iter prog w _ _ ⟨hp, g, d, tk, os⟩ _ h1 q
    wp_walk using q1
    refine wpAny_stack_any fun st => wpAny_pure ?_
    split
    · rename_i c _ _ _ _ _
      cases (c == Value.type "enumerate")
      · wp_walk using q1
        exact ⟨_, rfl, h⟩
      · wp_walk using q1
        exact ⟨_, rfl, h⟩
    · wp_walk using q1
      exact ⟨_, rfl, h⟩
theorem m3_enum_begins1 {prog : Program} {w : World} {A : Around} {E : Value → Shared → Prop} {s : Shared} {v : Value} {o : Obj} {H : Heap → Prop} {Q : Value → Shared → Prop} (B : Begins v o H) (h1 : H s.heap)
    (h : ∀ h', IsEnum h' (s.heap.objs.size + 1) s.heap.objs.size 0 .none → h'.get? s.heap.objs.size = some o → h'.objs.size = s.heap.objs.size + 2 →
      (∀ b o, s.heap.get? b = some o → h'.get? b = some o) → Q (.ref (s.heap.objs.size + 1)) { s with heap := h' }) :
    wpAny (model prog w) A (call (.type "enumerate") [v]) Q E s := by
  refine callType_new F.called_enumerate (by decide) (F.typeCall_enumerate_1 _) (F.newCall_enumerate_1 _) (fun obj => F.args_object_init_2 obj _) F.entry_enumerate_new
    (m3_enumerate_newB1 B) ⟨h1, ?_⟩
  have hz : (s.heap.push o).objs.size = s.heap.objs.size + 1 := Heap.size_push ..
  show _ ∧ _
  rw [hz]
  have he : IsEnum ((s.heap.push o).push { cls := .type "enumerate", data := .fields #[.none, .bool false, .ref s.heap.objs.size, rawInt 0, .none, .none] }) (s.heap.objs.size + 1) s.heap.objs.size 0 .none := by
    have := Heap.get?_push_size (s.heap.push o) (o := { cls := .type "enumerate", data := .fields #[.none, .bool false, .ref s.heap.objs.size, rawInt 0, .none, .none] }) rfl
    rw [hz] at this; exact this
  refine ⟨⟨_, he, rfl⟩, h _ he (Heap.get?_push_of_some _ (Heap.get?_push_size _ B.free)) (by rw [Heap.size_push, hz]) fun b o x => Heap.get?_push_of_some _ (Heap.get?_push_of_some _ x)⟩
end PySem
namespace M3
open PySem PySem.Spec PyProof.Rows L2
/-! ### enumerate of a tuple -/
def IteT (K : PySem.W.Frag) (a : Addr) : It :=
  ⟨fun i H => ∃ (xs : List V) (x : V), SqT K H a xs ∧ xs[i]? = some x, fun i H v H' => ∃ T x, v = .ref T ∧ H T = none ∧ H' = upd H T (.tup [.int (i : Nat), x]) ∧ ∀ xs, SqT K H a xs → xs[i]? = some x, fun i H => ∃ xs : List V, SqT K H a xs ∧ xs.length ≤ i⟩
theorem turn_enumT {P : Program} {w : World} {K : PySem.W.Frag} {elts : List Expr} {kk : Nat} {tpos : Pos} (a e it : Addr) (hae : a ≠ e) (hai : a ≠ it) :
    Turn P w K (.Tuple elts kk tpos) (IteT K a) [e, it] e (fun i h => (∃ old, IsEnum h e it ((i : Nat) : Int) old) ∧ h.IsTupleIter it a i ∧ e ≠ it) where
  mem := by simp
  obj := fun i h st b hb => by
    obtain ⟨⟨old, he⟩, ⟨o, ho, hc, hd⟩, _⟩ := st
    have e' : b = e ∨ b = it := by simpa using hb
    rcases e' with z | z
    · rw [z]; exact ⟨_, he, fun v q => nomatch q⟩
    · rw [z]; exact ⟨o, ho, fun v q => by rw [hd] at q; cases q⟩
  keep := fun i h h' st k => let ⟨⟨old, he⟩, hi, hne⟩ := st; ⟨⟨old, k e (by simp) _ he⟩, hi.at fun o q => k it (by simp) o q, hne⟩
  item := by
    intro X hP hw hK hc i pins s σ H E I hf st hg
    subst hP hw hK
    obtain ⟨⟨old, he⟩, hit, hne⟩ := st
    obtain ⟨xs, x, hq, hx⟩ := hg
    obtain ⟨its, rv, p, hz⟩ := I.tuple hq
    obtain ⟨u, hu, ru⟩ := rv.get hx
    have hel : e < s.heap.objs.size := Heap.lt_size he
    have hil : it < s.heap.objs.size := by obtain ⟨_, q, _⟩ := hit; exact Heap.lt_size q
    have hlen : i < its.toArray.size := by
      rw [List.size_toArray]
      exact (List.getElem?_eq_some_iff.mp hu).1
    refine wpAny_pyNext_enum_itemD (D := Draws.tuple (A := X.A.in1) (I.ok.hd hc) it a hai its.toArray) he ⟨hit, (show s.heap.IsTuple a its.toArray from p)⟩ hlen hne (by simp [hne, Ne.symm hae]) fun y h' tk hy ho hst' hT hsz hk => ?_
    have ey : y = u := by
      have h1 : its[i]? = some y := by simpa using hy
      rw [h1] at hu
      exact Option.some.inj hu
    subst ey
    refine ⟨_, rfl, wpAny_letOwnedTupleGo_enum (s := { s with heap := h', toks := tk + 1 }) ho fun h'' he' sb => ?_⟩
    have hT2 : h''.get? s.heap.objs.size = some { cls := .type "tuple", data := .seq #[.int i tk, y] } := (sb.2 _ (Nat.ne_of_gt hel)).trans hT
    have new : ObjOk X.prog X.w (upd H s.heap.objs.size (.tup [.int (i : Nat), x])) h'' s.heap.objs.size (.tup [.int (i : Nat), x]) :=
      ⟨by show 2 ≤ sizeLine; decide, [.int i tk, y], .cons ⟨_, rfl⟩ (.cons ru .nil), ⟨_, hT2, rfl, _, rfl⟩⟩
    have I1 : Inv X pins σ (upd H s.heap.objs.size (.tup [.int (i : Nat), x])) { s with heap := h'', toks := tk + 1 } :=
      I.turnedNew (ch := [e, it]) (fun b ob hb q => (sb.2 b (fun z => hb (by simp [z]))).trans (hk b ob (fun z => hb (by simp [z])) (fun z => hb (by simp [z])) q)) hf (Nat.le_refl _) new
    refine ⟨.ref s.heap.objs.size, _, I1, rfl, ⟨_, x, rfl, I.hok.fresh (Nat.le_refl _), rfl, fun ys hy => by rw [I.tuple_inj hy hq]; exact hx⟩, ⟨⟨y, ?_⟩, hst'.1.at fun o q => (sb.2 it (Ne.symm hne)).trans q, hne⟩, fun b hb => ?_⟩
    · have e1 : ((i + 1 : Nat) : Int) = (i : Int) + 1 := by omega
      rw [e1]; exact he'
    · have hb' : b < s.heap.objs.size := by
        have e' : b = e ∨ b = it := by simpa using hb
        rcases e' with z | z
        · rw [z]; exact hel
        · rw [z]; exact hil
      rw [upd_ne (Nat.ne_of_lt hb')]
      exact (hf b hb).1
  done := by
    intro X hP hw hK hc i pins s σ H E I hf st hg
    subst hP hw hK
    obtain ⟨⟨old, he⟩, hit, hne⟩ := st
    obtain ⟨xs, hq, hx⟩ := hg
    obtain ⟨its, rv, p, hz⟩ := I.tuple hq
    obtain ⟨f0, f1, f2, f3, f4, f5⟩ := hf it (by simp)
    have hl := rv.length
    have hT : s.TypeIs (.ref e) "enumerate" := ⟨_, he, rfl⟩
    unfold pyNext
    refine wpAny_bind (wpAny_attempt (wpAny_callSpecial?_slot (name := Str.ofString "__next__") hT F.slot_enumerate_next
      (wpAny_call_entry F.slot_enumerate_next hT F.entry_enumerate_next ?_ (F.args_enumerate_next_1 _))))
    show wpAny _ _ (field (.ref e) 2 >>= _) _ _ _
    refine wpAny_bind (wpAny_field he rfl (x := .ref it) rfl ?_)
    refine wpAny_bind (wpAny_nextOf_tuple_end (I.ok.hd hc) hit (show s.heap.IsTuple a its.toArray from p) (by simp; omega) fun h' x he' hx' => ?_)
    obtain ⟨o, ho, hc2⟩ := hx'
    refine wpAny_bind (wpAny_isInstance (T := "StopIteration") (b := true) ⟨o, ho, hc2⟩ isSubtype_stop ?_)
    exact wpAny_pure ⟨rfl, I.turned (t' := s.toks) (fun b o hb q => he' b o hb q) f0 f1 f3 f4 f5⟩
  self := fun A i s Q E st h => let ⟨⟨_, he⟩, _⟩ := st; wpAny_pyIter_enum he h
def iEnumA (K : PySem.W.Frag) (ta : TA) : TI := fun σ H R => ta σ H fun vs H1 => ∃ a xs, vs = [.ref a] ∧ ((SqL K H1 a xs ∧ R (Ite K a) H1) ∨ (SqT K H1 a xs ∧ R (IteT K a) H1))
theorem pi_enumA {X : Cx} {e : Expr} {ta : TA} {p pos tpos : Pos} {elts : List Expr} {kk : Nat} (hg : Gl X "enumerate") (hm : X.mg "enumerate" = none) (ha : PA X [e] ta) (hs : starEach [e] X.env = [(false, eval e X.env)] := by rfl) :
    PI X (.Tuple elts kk tpos) (.Call (.Name "enumerate" p) [e] [] pos) (iEnumA X.K ta) := by
  refine ⟨fun pins s σ H R I h => ?_⟩
  refine Call_ (ld_blt I hg hm boot_enumerate (PyProof.Rows.callWith_type1 (thn (ha.run pos pins s σ H _ I h) fun us s1 ⟨vs, H1, I1, r1, q1⟩ => ?_) hs rfl))
  obtain ⟨a, xs, ex, q⟩ := q1
  subst ex
  have fr : ∀ b ∈ [s1.heap.objs.size + 1, s1.heap.objs.size], FpOk X pins H1 b := fun b hb => by
    have e' : b = s1.heap.objs.size + 1 ∨ b = s1.heap.objs.size := by simpa using hb
    have hle : s1.heap.objs.size ≤ b := by
      rcases e' with z | z
      · rw [z]; exact Nat.le_add_right _ _
      · rw [z]; exact Nat.le_refl _
    exact I1.fpOk hle (I1.hok.fresh hle)
  cases r1 with
  | cons r rr =>
    cases rr
    cases r
    rcases q with ⟨hq, q⟩ | ⟨hq, q⟩
    · obtain ⟨its, rv, p', hz⟩ := I1.list hq
      refine call_enumerate_list p'.isList fun h' he hit hsz hk => wpAny_pyIter_enum he ?_
      have I2 : Inv X pins σ H1 { s1 with heap := h' } := I1.kept (t' := s1.toks) hk
      exact ⟨s1.heap.objs.size + 1, [s1.heap.objs.size + 1, s1.heap.objs.size], _, _, H1, rfl, I2, turn_enum a (s1.heap.objs.size + 1) s1.heap.objs.size, ⟨⟨.none, he⟩, hit, Nat.succ_ne_self _⟩, fr, q⟩
    · obtain ⟨its, rv, p', hz⟩ := I1.tuple hq
      have hal : a < s1.heap.objs.size := by
        obtain ⟨_, e, _⟩ := id p'
        exact Heap.lt_size e
      refine m3_enum_begins1 (begins_tuple a its.toArray) (show s1.heap.IsTuple a its.toArray from p') fun h' he hit hsz hk => wpAny_pyIter_enum he ?_
      have I2 : Inv X pins σ H1 { s1 with heap := h' } := I1.kept (t' := s1.toks) hk
      exact ⟨s1.heap.objs.size + 1, [s1.heap.objs.size + 1, s1.heap.objs.size], _, _, H1, rfl, I2, turn_enumT a (s1.heap.objs.size + 1) s1.heap.objs.size (Nat.ne_of_lt (Nat.lt_succ_of_lt hal)) (Nat.ne_of_lt hal), ⟨⟨.none, he⟩, ⟨_, hit, rfl, rfl⟩, Nat.succ_ne_self _⟩, fr, q⟩
theorem walk_enumT {K : PySem.W.Frag} {a : Addr} {xs : List V} : Walk (IteT K a) xs.length (fun H => SqT K H a xs) (YPair (fun i => some (.int (i : Nat))) (fun i => xs[i]?)) := by
  refine ⟨fun i _ hi q => ⟨xs, xs[i], q, by simp [hi]⟩, fun _ q => ⟨xs, q, Nat.le_refl _⟩, fun i H v H' _ q y => ?_⟩
  obtain ⟨T, x, h1, h2, h3, h4⟩ := y
  exact ⟨T, .int (i : Nat), x, h1, h2, h3, rfl, h4 xs q⟩
/-- a walk that makes a new pair each turn -/
theorem Src.pairs {K : Kf} {B F : Hp} {items : List D} {J : It} {f g : Nat → Option V} {G : Hp → Prop} (w : Walk J items.length G (YPair f g)) (r : ∀ i x y, i < items.length → f i = some x → g i = some y → ∃ d e, items[i]? = some (.tup [d, e]) ∧ Rep K F d x ∧ Rep K F e y)
    (hG : ∀ B2 F2 E2 h2 σ2 H2, (∀ a o, B a = some o → B2 a = some o) → Le F F2 → Rel K B2 F2 E2 h2 σ2 H2 → G H2) {back : MH → MH} {B0 : Hp}
    (bk : ∀ F2 E2 h2 σ2 H2, Le F F2 → Rel K B F2 E2 h2 σ2 H2 → Rel K B0 F2 E2 (back h2) σ2 H2) (vl : ∀ F2 h2 H2 r v, Le F F2 → RvOk K B F2 h2 H2 r v → RvOk K B0 F2 (back h2) H2 r v) : Src K B0 F items B back J := by
  refine ⟨⟨G, _, w, hG, ?_⟩, bk, vl⟩
  rintro B2 F2 E2 h2 σ2 H2 i x H3 sb l R hi ⟨T, x, y, rfl, nT, rfl, e1, e2⟩
  obtain ⟨d, e, ed, r1, r2⟩ := r i x y hi e1 e2
  have l2 : Le F2 (upd F2 T (.tup [x, y])) := Le.new (R.noF nT)
  exact ⟨_, _, ed, l2, R.newF nT, .tup (.inl (.inl upd_same)) (.cons (r1.mono (l.trans l2)) (.cons (r2.mono (l.trans l2)) .nil))⟩
def enumD (xs : List D) : List D := (List.range xs.length).zipWith (fun i x => D.tup [.int (i : Nat), x]) xs
theorem enumD_len (xs : List D) : (enumD xs).length = xs.length := by simp [enumD]
theorem enumD_get {K : Kf} {F : Hp} {xs : List D} {vs : List V} (rs : Reps K F xs vs) (i : Nat) (x y : V) (hi : i < (enumD xs).length) (h1 : some (V.int (i : Nat)) = some x) (h2 : vs[i]? = some y) : ∃ d e, (enumD xs)[i]? = some (.tup [d, e]) ∧ Rep K F d x ∧ Rep K F e y := by
  rw [enumD_len] at hi
  obtain ⟨d, ed, rd⟩ := rs.getV h2
  cases h1
  refine ⟨.int (i : Nat), d, ?_, .int _, rd⟩
  have e2 : xs[i] = d := by
    rw [List.getElem?_eq_getElem hi] at ed
    exact Option.some.inj ed
  simp [enumD, hi, e2]
def mEnum (ta : TAm) : TIm := fun E h Kn Kx => ta E h (fun ds h' => on1 ds fun d => match d with
  | .tup xs => Kn (enumD xs) h' id
  | .lst xs => Kn (enumD xs) h' id
  | .ref p => (match h' p with
    | some (.lst xs) => Kn (enumD xs) (del h' p) (fun h2 => put h2 p (.lst xs))
    | _ => False)
  | _ => False) Kx
theorem mi_enum {X : Cx} {W : WX} {e : Expr} {ta : TAm} {p pos tpos : Pos} {elts : List Expr} {kk : Nat} (hg : Gl X "enumerate") (hm : X.mg "enumerate" = none) (ha : MA X W [e] ta) (hs : starEach [e] X.env = [(false, eval e X.env)] := by rfl) :
    MI X W (.Tuple elts kk tpos) (.Call (.Name "enumerate" p) [e] [] pos) (mEnum ta) := fun B => (pi_enumA hg hm (ha B) hs).impM fun σ H Rr ⟨F, E, h, Kn, Kx, R, ht, hx, hn⟩ => by
  refine ⟨F, E, h, _, Kx, R, ht, hx, fun ds h' F' H' vs l R' r k => ?_⟩
  obtain ⟨d, v, rfl, rfl, rp, k⟩ := one_of r k
  cases rp with
  | @tup a vs ds q rs => exact ⟨_, _, rfl, .inr ⟨R'.sqT q, hn (enumD ds) h' id F' H' B _ l R' (Src.pairs (by rw [enumD_len, rs.len]; exact walk_enumT) (enumD_get rs) (fun B2 F2 _ _ _ _ _ l2 R2 => R2.sqT (l2.sqT q)) (fun _ _ _ _ _ _ R => R) (fun _ _ _ _ _ _ q => q)) k⟩⟩
  | @lst a vs ds q rs => exact ⟨_, _, rfl, .inl ⟨.of (R'.frz _ _ q).1, hn (enumD ds) h' id F' H' B _ l R' (Src.pairs (by rw [enumD_len, rs.len]; exact walk_enum) (enumD_get rs) (fun B2 F2 _ _ _ _ _ l2 R2 => SqL.of (R2.frz _ _ (l2.ls _ _ q)).1) (fun _ _ _ _ _ _ R => R) (fun _ _ _ _ _ _ q => q)) k⟩⟩
  | ref a =>
    have k : (match h' a with
      | some (.lst xs) => Kn (enumD xs) (del h' a) (fun h2 => put h2 a (.lst xs))
      | _ => False) := k
    cases e : h' a with
    | none => rw [e] at k; exact k.elim
    | some m =>
      rw [e] at k
      cases m with
      | lst xs =>
        obtain ⟨vs, e2, rs⟩ := R'.cel a _ e
        have b := R'.Bh e
        refine ⟨a, vs, rfl, .inl ⟨.of e2, hn (enumD xs) (del h' a) _ F' H' (upd B a (.lst vs)) _ l (R'.hide e e2) (Src.pairs (by rw [enumD_len, rs.len]; exact walk_enum) (enumD_get rs) (fun B2 F2 _ _ _ _ sb _ R2 => SqL.of (R2.out a _ (sb _ _ upd_same)).1) ?_ ?_) k⟩⟩
        · intro F2 E2 h2 σ2 H2 l2 R2
          exact R2.show b fun z => ⟨vs, z, rs.mono l2⟩
        · intro F2 h2 H2 r v l2 q
          exact q.show b
      | dct xs => exact k.elim
      | ins C fs => exact k.elim
  | _ => exact k.elim
/-! ### isinstance by built-in classes -/
inductive Ty5 where
  | int | bool | str | tuple | list
def Ty5.nm : Ty5 → String
  | .int => "int"
  | .bool => "bool"
  | .str => "str"
  | .tuple => "tuple"
  | .list => "list"
inductive Kd where
  | non | bl | int | str | tup | lst | dct
def Kd.nm : Kd → String
  | .non => "NoneType"
  | .bl => "bool"
  | .int => "int"
  | .str => "str"
  | .tup => "tuple"
  | .lst => "list"
  | .dct => "dict"
def isK : Ty5 → Kd → Bool
  | .int, .int => true
  | .int, .bl => true
  | .bool, .bl => true
  | .str, .str => true
  | .tuple, .tup => true
  | .list, .lst => true
  | _, _ => false
theorem kit5 (T : Ty5) (k : Kd) : kitB k.nm T.nm = some (isK T k) := by
  cases T <;> cases k <;> decide +kernel
def kindD (h : MH) : D → Option Kd
  | .non => some .non
  | .bl _ => some .bl
  | .int _ => some .int
  | .str _ => some .str
  | .tup _ => some .tup
  | .lst _ => some .lst
  | .scr _ => some .lst
  | .dct _ => some .dct
  | .lam _ _ => none
  | .ref p => match h p with
    | some (.lst _) => some .lst
    | some (.dct _) => some .dct
    | _ => none
theorem kind_of {K : Kf} {B F : Hp} {E : En} {h : MH} {σ : L2.St} {H : Hp} {d : D} {v : V} {k : Kd} (R : Rel K B F E h σ H) (r : Rep K F d v) (q : kindD h d = some k) : TyX K H v (.type k.nm) := by
  have tT : ∀ {a : Addr} {vs : List V}, SqT K H a vs → TyX K H (.ref a) (.type "tuple") := fun e => by
    rcases e with (e | ⟨o, e⟩) | ⟨o, its, n, e, c, _⟩
    · exact .base (.tup e)
    · exact .fTuple e
    · exact .kTuple e c
  have tL : ∀ {a : Addr} {vs : List V}, SqL K H a vs → TyX K H (.ref a) (.type "list") := fun e => by
    rcases e with (e | ⟨o, e⟩) | ⟨o, its, n, e, c, _⟩
    · exact .base (.lst e)
    · exact .base (.frz e)
    · exact .kList e c
  have tD : ∀ {a : Addr} {vs : List (Key × V)}, Rd H a (.dK vs) → TyX K H (.ref a) (.type "dict") := fun e => by
    rcases e with e | ⟨o, e⟩
    · exact .base (.dK e)
    · exact .fDict e
  cases r with
  | non => cases q; exact .base .non
  | bl b => cases q; exact .base (.bl b)
  | int b => cases q; exact .base (.int b)
  | str b => cases q; exact .base (.str b)
  | tup e rs => cases q; exact tT (R.sqT e)
  | lst e rs => cases q; exact tL (.of (R.frz _ _ e).1)
  | scr e => cases q; exact tL (R.sqL e)
  | dct e rs => cases q; exact tD (R.rd e)
  | lam e e2 e3 => cases q
  | ref a =>
    have q : (match h a with
      | some (.lst _) => some Kd.lst
      | some (.dct _) => some Kd.dct
      | _ => none) = some k := q
    cases e : h a with
    | none => rw [e] at q; cases q
    | some m =>
      rw [e] at q
      cases m with
      | lst xs =>
        cases q
        obtain ⟨vs, e2, rs⟩ := R.cel a _ e
        exact tL (.of e2)
      | dct xs =>
        cases q
        obtain ⟨vs, e2, rs⟩ := R.cel a _ e
        exact tD (.inl e2)
      | ins C fs => cases q
def mIsi (Ts : List Ty5) (t : TVm) : TVm := fun E h Kn Kx => t E h (fun d h' => match kindD h' d with
  | some k => Kn (.bl (Ts.any fun T => isK T k)) h'
  | none => False) Kx
section
variable {X : Cx} {W : WX} {e : Expr} {t : TVm}
theorem isi_ok {K : Kf} {B : Hp} {Ts : List Ty5} {σ : L2.St} {H : Hp} {Q : VK} {r : V → Hp → VK → Prop} (hr : ∀ v H k Q, TyX K H v (.type k.nm) → Q (.bl (Ts.any fun T => isK T k)) H → r v H Q) (q : LV K B W (mIsi Ts t) σ H Q) : LV K B W t σ H fun v H1 => r v H1 Q := by
  obtain ⟨F, E, h, Kn, Kx, R, ht, hx, hn⟩ := q
  refine ⟨F, E, h, _, Kx, R, ht, hx, fun d h' F' H' v l R' rp k => ?_⟩
  cases ek : kindD h' d with
  | none => rw [ek] at k; exact k.elim
  | some kd =>
    rw [ek] at k
    exact hr v H' kd Q (kind_of R' rp ek) (hn (.bl _) h' F' H' _ l R' (.bl _) k)
theorem mv_isi (T : Ty5) {x2 : Str} {p p2 pos : Pos} (hg : Gl X "isinstance") (hm : X.mg "isinstance" = none) (hg2 : Gl X x2) (hm2 : X.mg x2 = none) (hv2 : bootBuiltins x2 = some (.type T.nm)) (h : MV X W e t) (hn2 : x2 ≠ "__name__" := by decide) (hd2 : (x2 == ("__debug__" : Str)) = false := by decide)
    (na : starEach [e, .Name x2 p2] X.env = (false, eval e X.env) :: starEach [.Name x2 p2] X.env := by rfl) (nb : starEach [.Name x2 p2] X.env = (false, eval (.Name x2 p2) X.env) :: starEach [] X.env := by rfl) (hpl : (backTo pos (starEach [.Name x2 p2] X.env)).any (·.1) = false := by rfl) :
    MV X W (.Call (.Name "isinstance" p) [e, .Name x2 p2] [] pos) (mIsi [T] t) := fun B =>
  (pe_callB call_isi hg hm (by decide +kernel) (pa_cons (h B) (pa_cons (pe_bltn (v := .ty T.nm) hg2 hm2 hv2 rfl hn2 hd2) pa_nil nb) na) (by decide) (by decide) na hpl).impM fun σ H Q q =>
    isi_ok (r := fun v H1 Q => rIsi X.K [v, .ty T.nm] H1 Q) (fun v H k Q ty z => ⟨v, .ty T.nm, .type k.nm, .type T.nm, isK T k, rfl, .ty _, ty, kit_ty (kit5 T k), by
      have e : ([T].any fun T => isK T k) = isK T k := by simp
      rw [e] at z
      exact z⟩) q
theorem mv_isi2 (T U : Ty5) {x2 x3 : Str} {k : Nat} {p p2 p3 p4 pos : Pos} (hg : Gl X "isinstance") (hm : X.mg "isinstance" = none) (hg2 : Gl X x2) (hm2 : X.mg x2 = none) (hv2 : bootBuiltins x2 = some (.type T.nm)) (hg3 : Gl X x3) (hm3 : X.mg x3 = none) (hv3 : bootBuiltins x3 = some (.type U.nm)) (h : MV X W e t)
    (hn2 : x2 ≠ "__name__" := by decide) (hd2 : (x2 == ("__debug__" : Str)) = false := by decide) (hn3 : x3 ≠ "__name__" := by decide) (hd3 : (x3 == ("__debug__" : Str)) = false := by decide)
    (nc : starEach [.Name x2 p2, .Name x3 p3] X.env = (false, eval (.Name x2 p2) X.env) :: starEach [.Name x3 p3] X.env := by rfl) (nd : starEach [.Name x3 p3] X.env = (false, eval (.Name x3 p3) X.env) :: starEach [] X.env := by rfl)
    (na : starEach [e, .Tuple [.Name x2 p2, .Name x3 p3] k p4] X.env = (false, eval e X.env) :: starEach [.Tuple [.Name x2 p2, .Name x3 p3] k p4] X.env := by rfl) (nb : starEach [.Tuple [.Name x2 p2, .Name x3 p3] k p4] X.env = (false, eval (.Tuple [.Name x2 p2, .Name x3 p3] k p4) X.env) :: starEach [] X.env := by rfl) (hpl : (backTo pos (starEach [.Tuple [.Name x2 p2, .Name x3 p3] k p4] X.env)).any (·.1) = false := by rfl) :
    MV X W (.Call (.Name "isinstance" p) [e, .Tuple [.Name x2 p2, .Name x3 p3] k p4] [] pos) (mIsi [T, U] t) := fun B =>
  (pe_callB call_isiT hg hm (by decide +kernel) (pa_cons (h B) (pa_cons (pe_tup (pa_cons (pe_bltn (v := .ty T.nm) hg2 hm2 hv2 rfl hn2 hd2) (pa_cons (pe_bltn (v := .ty U.nm) hg3 hm3 hv3 rfl hn3 hd3) pa_nil nd) nc)) pa_nil nb) na) (by decide) (by decide) na hpl).impM fun σ H Q ⟨F, E, h, Kn, Kx, R, ht, hx, hn⟩ => by
    refine ⟨F, E, h, _, Kx, R, ht, hx, fun d h' F' H' v l R' rp kk => ?_⟩
    cases ek : kindD h' d with
    | none => rw [ek] at kk; exact kk.elim
    | some kd =>
      rw [ek] at kk
      refine ⟨by show 2 ≤ sizeLine; decide, fun q hq => ?_⟩
      have R2 := R'.newO (o := .tup [.ty T.nm, .ty U.nm]) hq
      refine ⟨v, q, [.ty T.nm, .ty U.nm], .type kd.nm, [.type T.nm, .type U.nm], _, rfl, upd_same, .cons (.ty _) (.cons (.ty _) .nil), kind_of R2 rp ek, ?_, hn (.bl _) h' F' _ _ l R2 (.bl _) kk⟩
      have k1 := kit_ty (K := X.K) (kit5 T kd)
      have k2 := kit_ty (K := X.K) (kit5 U kd)
      refine kitAny_cons k1 (fun e => kitAny_cons k2 (fun e2 => ?_) (fun e2 => ?_)) (fun e => ?_)
      · simp [e, e2, kitAny_nil]
      · simp [e2]
      · simp [e]
end
end M3
set_option Elab.async false
set_option linter.all false
set_option maxRecDepth 100000
set_option maxHeartbeats 4000000
namespace M3
open PySem PySem.Spec PyProof.Rows L2
section
variable {X : Cx} {W : WX}
theorem mb_forget {st : List Stmt} {t : TSm} (ws : List Nat) (a : MB X W st t) : MB X W st (sForget ws t) := fun B => (a B).impM fun D σ H ⟨F, E, h, N, R, ht, c⟩ =>
  ⟨F, E, h, { N with nx := fun E' h' => N.nx (wipeE E' ws) h' }, R, ht, fun E' h' F' σ' H' l R' k => c.1 _ h' F' σ' H' l (R'.slots (R'.slot.wiped' ws)) k, c.2⟩
theorem mv_gint {x : Str} {i : Int} {pos : Pos} (hg : Gl X x) (hm : ∃ t, X.mg x = some (.int i t)) (hd : (x == ("__debug__" : Str)) = false := by decide) : MV X W (.Name x pos) (mC (.int i)) := by
  obtain ⟨t, hm⟩ := hm
  exact mv_const (pe_glob (v := .int i) hg hm ⟨t, rfl⟩ hd) fun _ _ => .int _
theorem mv_gstr {x : Str} {i : Str} {pos : Pos} (hg : Gl X x) (hm : ∃ t, X.mg x = some (.str i t)) (hd : (x == ("__debug__" : Str)) = false := by decide) : MV X W (.Name x pos) (mC (.str i)) := by
  obtain ⟨t, hm⟩ := hm
  exact mv_const (pe_glob (v := .str i) hg hm ⟨t, rfl⟩ hd) fun _ _ => .str _
end
/-! ### the classes' addresses -/
structure Ad where
  Filter : Addr
  Counter : Addr
  Signed : Addr
  Heavy : Addr
  Fewest : Addr
  Desk : Addr
  CellError : Addr
  BadPlan : Addr
  BadKey : Addr
  BadCounts : Addr
  BadNumber : Addr
  BadMeet : Addr
  BadDeed : Addr
  Halted : Addr
  BadText : Addr
theorem bodyN_rt {Kn : RV → MH → Prop} {Kx : XKm} {r : RV} {h h2 : MH} (k : Kn r h2) (s : ∀ a m, h2 a = some m → h a = some m) : (bodyN Kn Kx).rt r h := ⟨h2, s, k⟩
theorem bodyN_rt0 {Kn : RV → MH → Prop} {Kx : XKm} {r : RV} {h : MH} (k : Kn r h) : (bodyN Kn Kx).rt r h := ⟨h, fun _ _ e => e, k⟩
theorem bodyN_nx0 {Kn : RV → MH → Prop} {Kx : XKm} {E : En} {h : MH} (k : Kn (.d .non) h) : (bodyN Kn Kx).nx E h := ⟨h, fun _ _ e => e, k⟩
/-! ### heaps -/
theorem put_same {h : MH} {p : Addr} {m : MO} : put h p m p = some m := if_pos rfl
theorem put_ne {h : MH} {p q : Addr} {m : MO} (n : q ≠ p) : put h p m q = h q := if_neg n
theorem del_ne {h : MH} {p q : Addr} (n : q ≠ p) : del h p q = h q := if_neg n
theorem put_put {h : MH} {p : Addr} {m m' : MO} : put (put h p m) p m' = put h p m' := by
  funext b
  show (if b = p then some m' else if b = p then some m else h b) = if b = p then some m' else h b
  split <;> rfl
theorem put_comm {h : MH} {p q : Addr} {m m' : MO} (n : p ≠ q) : put (put h p m) q m' = put (put h q m') p m := by
  funext b
  unfold put
  by_cases h1 : b = p
  · subst h1
    simp [n]
  · simp [h1]
theorem put_del {h : MH} {p : Addr} {m : MO} : put (del h p) p m = put h p m := by
  funext b
  show (if b = p then some m else if b = p then none else h b) = if b = p then some m else h b
  split <;> rfl
theorem del_put {h : MH} {p : Addr} {m : MO} : del (put h p m) p = del h p := by
  funext b
  show (if b = p then none else if b = p then some m else h b) = if b = p then none else h b
  split <;> rfl
theorem put_self {h : MH} {p : Addr} {m : MO} (e : h p = some m) : put h p m = h := by
  funext b
  unfold put
  by_cases n : b = p
  · subst n
    simp [e]
  · simp [n]
theorem del_none {h : MH} {p : Addr} (e : h p = none) : del h p = h := by
  funext b
  unfold del
  by_cases n : b = p
  · subst n
    simp [e]
  · simp [n]
theorem ne_new {h : MH} {p q : Addr} {m : MO} (e : h q = some m) (n : h p = none) : q ≠ p := by
  rintro rfl
  rw [e] at n
  cases n
end M3
set_option Elab.async false
set_option linter.all false
set_option maxRecDepth 100000
set_option maxHeartbeats 4000000
namespace M3
open PySem PySem.Spec PyProof.Rows L2
/-! ### equations by kind -/
section
variable {h : MH} {Kn : RV → MH → Prop} {k : D → Prop} {i j : Int} {a b : Addr} {xs ys : List D} {x y z : Str} {kb : Bool → Prop} {ki : Int → Prop} {kl : List D → Prop} {kd : List (Key × D) → Prop} {kvs : List (Key × D)} {ns : List Int} {d e : D} {bb : Bool}
theorem onBl_b : onBl (.bl bb) kb = kb bb := rfl
theorem onInt_i : onInt (.int i) ki = ki i := rfl
theorem onTup_t : onTup (.tup xs) kl = kl xs := rfl
theorem on1_1 : on1 [d] k = k d := rfl
theorem on2_2 {k : D → D → Prop} : on2 [d, e] k = k d e := rfl
theorem onQ_l : onQ h (.lst xs) kl = kl xs := rfl
theorem onQ_t : onQ h (.tup xs) kl = kl xs := rfl
theorem onQ_s : onQ h (.scr ns) kl = kl (ns.map D.int) := rfl
theorem onQ_r (q : h a = some (.lst xs)) : onQ h (.ref a) kl = kl xs := by
  show (match h a with
    | some (.lst xs) => kl xs
    | _ => False) = kl xs
  rw [q]
theorem onL_l : onL h (.lst xs) kl = kl xs := rfl
theorem onL_r (q : h a = some (.lst xs)) : onL h (.ref a) kl = kl xs := by
  show (match h a with
    | some (.lst xs) => kl xs
    | _ => False) = kl xs
  rw [q]
theorem onLs_l : onLs h (.lst xs) kl = kl xs := rfl
theorem onLs_s : onLs h (.scr ns) kl = kl (ns.map D.int) := rfl
theorem onLs_r (q : h a = some (.lst xs)) : onLs h (.ref a) kl = kl xs := onQ_r q
theorem onD_d : onD h (.dct kvs) kd = kd kvs := rfl
theorem onD_r (q : h a = some (.dct kvs)) : onD h (.ref a) kd = kd kvs := by
  show (match h a with
    | some (.dct xs) => kd xs
    | _ => False) = kd kvs
  rw [q]
theorem onIns_r {C : Addr} {fs : List (Str × D)} {k : Addr → List (Str × D) → Prop} (q : h a = some (.ins C fs)) : onIns h (.ref a) C k = k a fs := by
  show (match h a with
    | some (.ins C' fs) => C' = C ∧ k a fs
    | _ => False) = k a fs
  rw [q]
  simp
theorem gAdd_i : gAdd (.int i) (.int j) h Kn = Kn (.d (.int (i + j))) h := rfl
theorem gAdd_s : gAdd (.str x) (.str y) h Kn = (x.length + y.length ≤ sizeLine ∧ Kn (.d (.str (x ++ y))) h) := rfl
theorem gAdd_t : gAdd (.tup xs) (.tup ys) h Kn = (xs.length + ys.length ≤ sizeLine ∧ Kn (.d (.tup (xs ++ ys))) h) := rfl
theorem gAdd_l : gAdd (.lst xs) (.lst ys) h Kn = (xs.length + ys.length ≤ sizeLine ∧ Kn (.ol (xs ++ ys)) h) := rfl
theorem gMul_i : gMul (.int i) (.int j) h Kn = (MulOk i j ∧ Kn (.d (.int (i * j))) h) := rfl
theorem gMul_l : gMul (.lst xs) (.int i) h Kn = ((-(2 ^ 63) ≤ i ∧ i < 2 ^ 63 ∧ xs.length * i.toNat ≤ sizeLine) ∧ Kn (.ol (List.replicate i.toNat xs).flatten) h) := rfl
theorem gMul_t : gMul (.tup xs) (.int i) h Kn = ((xs ≠ [] ∧ 1 ≤ i ∧ i ≤ 1000 ∧ xs.length ≤ 1000) ∧ Kn (.d (.tup (List.replicate i.toNat xs).flatten)) h) := rfl
def onOpt {α : Type} (o : Option α) (k : α → Prop) : Prop := match o with
  | some x => k x
  | none => False
theorem onOpt_s {α : Type} {x : α} {k : α → Prop} : onOpt (some x) k = k x := rfl
theorem gIxQ_o {k : D → Prop} {x : D} : gIxQ h x i k = onQ h x fun xs => onOpt (atD xs i) k := by
  unfold gIxQ onOpt
  congr 1
  funext xs
  cases atD xs i <;> rfl
theorem gIx_l : gIx (.lst xs) (.int i) h Kn = onOpt (atD xs i) fun d => Kn (.d d) h := (gIxQ_o (h := h) (x := .lst xs) (i := i) (k := fun d => Kn (.d d) h))
theorem gIx_t : gIx (.tup xs) (.int i) h Kn = onOpt (atD xs i) fun d => Kn (.d d) h := (gIxQ_o (h := h) (x := .tup xs) (i := i) (k := fun d => Kn (.d d) h))
theorem gIx_s : gIx (.scr ns) (.int i) h Kn = onOpt (atD (ns.map D.int) i) fun d => Kn (.d d) h := (gIxQ_o (h := h) (x := .scr ns) (i := i) (k := fun d => Kn (.d d) h))
theorem gIx_r (q : h a = some (.lst xs)) : gIx (.ref a) (.int i) h Kn = onOpt (atD xs i) fun d => Kn (.d d) h := by
  show (match h a with
    | some (.dct _) => gIxD h (.ref a) (.int i) fun d => Kn (.d d) h
    | _ => onInt (.int i) fun i => gIxQ h (.ref a) i fun d => Kn (.d d) h) = _
  rw [q]
  show (gIxQ h (.ref a) i fun d => Kn (.d d) h) = _
  rw [gIxQ_o, onQ_r q]
theorem gLen_l : gLen [.lst xs] h Kn = Kn (.d (.int xs.length)) h := rfl
theorem gLen_t : gLen [.tup xs] h Kn = Kn (.d (.int xs.length)) h := rfl
theorem gLen_s : gLen [.scr ns] h Kn = Kn (.d (.int ns.length)) h := by
  show Kn (.d (.int (ns.map D.int).length)) h = _
  rw [List.length_map]
theorem gLen_d : gLen [.dct kvs] h Kn = Kn (.d (.int kvs.length)) h := rfl
theorem gLen_r (q : h a = some (.lst xs)) : gLen [.ref a] h Kn = Kn (.d (.int xs.length)) h := by
  show (match h a with
    | some (.dct kvs) => Kn (.d (.int kvs.length)) h
    | _ => onQ h (.ref a) fun xs => Kn (.d (.int xs.length)) h) = _
  rw [q]
  exact onQ_r q
theorem gLen_rd (q : h a = some (.dct kvs)) : gLen [.ref a] h Kn = Kn (.d (.int kvs.length)) h := by
  show (match h a with
    | some (.dct kvs) => Kn (.d (.int kvs.length)) h
    | _ => onQ h (.ref a) fun xs => Kn (.d (.int xs.length)) h) = _
  rw [q]
theorem onSet_l {v : D} {k : MH → Prop} (q : h a = some (.lst xs)) : onSet h (.ref a) (.int i) v k = onOpt (ixN xs.length i) fun n => k (put h a (.lst (xs.set n v))) := by
  show (match h a with
    | some (.lst xs) => onInt (.int i) fun j => (match ixN xs.length j with
      | some n => k (put h a (.lst (xs.set n v)))
      | none => False)
    | some (.dct kvs) => (match keyD (.int i) with
      | some key => kvs.length < sizeLine ∧ k (put h a (.dct (putKD kvs key v)))
      | none => False)
    | _ => False) = _
  rw [q]
  show (match ixN xs.length i with
      | some n => k (put h a (.lst (xs.set n v)))
      | none => False) = _
  cases ixN xs.length i <;> rfl
theorem onSet_d {v : D} {k : MH → Prop} {key : Key} {y : D} (q : h a = some (.dct kvs)) (e : keyD y = some key) : onSet h (.ref a) y v k = (kvs.length < sizeLine ∧ k (put h a (.dct (putKD kvs key v)))) := by
  show (match h a with
    | some (.lst xs) => onInt y fun j => (match ixN xs.length j with
      | some n => k (put h a (.lst (xs.set n v)))
      | none => False)
    | some (.dct kvs) => (match keyD y with
      | some key => kvs.length < sizeLine ∧ k (put h a (.dct (putKD kvs key v)))
      | none => False)
    | _ => False) = _
  rw [q]
  simp only [e]
def iterD (h : MH) (d : D) (Kn : List D → MH → (MH → MH) → Prop) : Prop := match d with
  | .tup xs => Kn xs h id
  | .lst xs => Kn xs h id
  | .scr ns => Kn (ns.map D.int) h id
  | .ref p => (match h p with
    | some (.lst xs) => Kn xs (del h p) (fun h2 => put h2 p (.lst xs))
    | _ => False)
  | _ => False
theorem mIter_ap {t : TVm} {E : En} {K : List D → MH → (MH → MH) → Prop} {Kx : XKm} : mIter t E h K Kx = t E h (fun d h' => iterD h' d K) Kx := rfl
theorem iterD_t {K : List D → MH → (MH → MH) → Prop} : iterD h (.tup xs) K = K xs h id := rfl
theorem iterD_l {K : List D → MH → (MH → MH) → Prop} : iterD h (.lst xs) K = K xs h id := rfl
theorem iterD_s {K : List D → MH → (MH → MH) → Prop} : iterD h (.scr ns) K = K (ns.map D.int) h id := rfl
theorem iterD_r {K : List D → MH → (MH → MH) → Prop} (q : h a = some (.lst xs)) : iterD h (.ref a) K = K xs (del h a) (fun h2 => put h2 a (.lst xs)) := by
  show (match h a with
    | some (.lst xs) => K xs (del h a) (fun h2 => put h2 a (.lst xs))
    | _ => False) = _
  rw [q]
theorem kind_i : kindD h (.int i) = some .int := rfl
theorem kind_b : kindD h (.bl bb) = some .bl := rfl
theorem kind_s : kindD h (.str x) = some .str := rfl
theorem kind_n : kindD h .non = some .non := rfl
theorem kind_t : kindD h (.tup xs) = some .tup := rfl
theorem kind_l : kindD h (.lst xs) = some .lst := rfl
theorem kind_r (q : h a = some (.lst xs)) : kindD h (.ref a) = some .lst := by
  show (match h a with
    | some (.lst _) => some Kd.lst
    | some (.dct _) => some Kd.dct
    | _ => none) = _
  rw [q]
theorem mIsi_ap {Ts : List Ty5} {t : TVm} {E : En} {K : D → MH → Prop} {Kx : XKm} : mIsi Ts t E h K Kx = t E h (fun d h' => onOpt (kindD h' d) fun k => K (.bl (Ts.any fun T => isK T k)) h') Kx := by
  unfold mIsi
  congr 1
  funext d h'
  cases kindD h' d <;> rfl
theorem atD_0 : atD (d :: xs) 0 = some d := by simp [atD, ixN]
theorem ixN_nat {n m : Nat} (h : m < n) : ixN n (m : Int) = some m := by
  unfold ixN
  have h1 : (0 : Int) ≤ m := by omega
  have h2 : (m : Int) < n := by omega
  simp [h1, h2]
theorem atD_nat {m : Nat} (q : xs[m]? = some d) : atD xs (m : Int) = some d := by
  have hm : m < xs.length := (List.getElem?_eq_some_iff.mp q).1
  unfold atD
  rw [ixN_nat hm]
  exact q
theorem ixN_int {n : Nat} {i : Int} (h0 : 0 ≤ i) (h : i < n) : ixN n i = some i.toNat := by
  unfold ixN
  simp [h0, h]
theorem atD_int {i : Int} (h0 : 0 ≤ i) (q : xs[i.toNat]? = some d) : atD xs i = some d := by
  have hm : i.toNat < xs.length := (List.getElem?_eq_some_iff.mp q).1
  unfold atD
  rw [ixN_int h0 (by omega)]
  exact q
end
/-! ### equations behind a store; small places -/
section
variable {h : MH} {Kn : RV → MH → Prop} {i : Int} {a : Addr} {xs ys : List D} {kl : List D → Prop} {kvs : List (Key × D)} {m : MO}
theorem gIx_p : gIx (.ref a) (.int i) (put h a (.lst xs)) Kn = onOpt (atD xs i) fun d => Kn (.d d) (put h a (.lst xs)) := gIx_r put_same
theorem onSet_p {v : D} {k : MH → Prop} : onSet (put h a (.lst xs)) (.ref a) (.int i) v k = onOpt (ixN xs.length i) fun n => k (put h a (.lst (xs.set n v))) := by
  rw [onSet_l put_same]
  simp only [put_put]
theorem onQ_p : onQ (put h a (.lst xs)) (.ref a) kl = kl xs := onQ_r put_same
theorem onL_p : onL (put h a (.lst xs)) (.ref a) kl = kl xs := onL_r put_same
theorem gLen_p : gLen [.ref a] (put h a (.lst xs)) Kn = Kn (.d (.int xs.length)) (put h a (.lst xs)) := gLen_r put_same
theorem onIns_p {C : Addr} {fs : List (Str × D)} {k : Addr → List (Str × D) → Prop} : onIns (put h a (.ins C fs)) (.ref a) C k = k a fs := onIns_r put_same
theorem frz_d {x : D} : RV.frz (.d x) = x := rfl
theorem frz_l : RV.frz (.ol xs) = .lst xs := rfl
theorem frz_k : RV.frz (.od kvs) = .dct kvs := rfl
variable {d0 d1 d2 d3 d4 : D}
theorem atD_1 : atD (d0 :: d1 :: xs) 1 = some d1 := atD_nat (m := 1) rfl
theorem atD_2 : atD (d0 :: d1 :: d2 :: xs) 2 = some d2 := atD_nat (m := 2) rfl
theorem atD_3 : atD (d0 :: d1 :: d2 :: d3 :: xs) 3 = some d3 := atD_nat (m := 3) rfl
theorem atD_4 : atD (d0 :: d1 :: d2 :: d3 :: d4 :: xs) 4 = some d4 := atD_nat (m := 4) rfl
theorem ixN_0 {n : Nat} : ixN (n + 1) 0 = some 0 := ixN_nat (m := 0) (by omega)
theorem ixN_1 {n : Nat} : ixN (n + 1 + 1) 1 = some 1 := ixN_nat (m := 1) (by omega)
theorem ixN_2 {n : Nat} : ixN (n + 1 + 1 + 1) 2 = some 2 := ixN_nat (m := 2) (by omega)
theorem ixN_3 {n : Nat} : ixN (n + 1 + 1 + 1 + 1) 3 = some 3 := ixN_nat (m := 3) (by omega)
theorem ixN_4 {n : Nat} : ixN (n + 1 + 1 + 1 + 1 + 1) 4 = some 4 := ixN_nat (m := 4) (by omega)
theorem log2_lt {m : Int} (h : m < 10 ^ 9) (h0 : 0 < m) : m.natAbs.log2 < 9000 := by
  have h1 : m.natAbs < 2 ^ 9000 := Nat.lt_of_lt_of_le (show m.natAbs < 10 ^ 9 by omega) (by decide +kernel)
  exact PySem.Flt.log2_lt_of (by decide) h1
end
/-! ### loops -/
theorem forL_nil {g : TGm} {tb : TSm} {N : Nd} {E : En} {h : MH} : forL g tb [] N E h = N.nx E h := rfl
theorem forL_inv {g : TGm} {tb : TSm} {N : Nd} (I : Nat → En → MH → Prop) : ∀ (items : List D) (c : Nat) (E : En) (h : MH), I c E h →
    (∀ i d E h (k : En → MH → Prop), items[i]? = some d → I (c + i) E h → (∀ E h, I (c + i + 1) E h → k E h) → g d E h fun E2 h2 => tb { nx := k, rt := N.rt, bk := N.nx, ct := k, xs := N.xs } E2 h2) →
    (∀ E h, I (c + items.length) E h → N.nx E h) → forL g tb items N E h
  | [], c, E, h, h0, _, hd => hd E h h0
  | d :: ds, c, E, h, h0, hs, hd => by
    show g d E h fun E2 h2 => tb { nx := fun E3 h3 => forL g tb ds N E3 h3, rt := N.rt, bk := N.nx, ct := fun E3 h3 => forL g tb ds N E3 h3, xs := N.xs } E2 h2
    refine hs 0 d E h _ rfl h0 fun E2 h2 h1 => ?_
    refine forL_inv I ds (c + 1) E2 h2 h1 (fun i d E h k e hi hk => ?_) fun E h he => ?_
    · have e1 : c + 1 + i = c + (i + 1) := by omega
      rw [e1] at hi hk
      exact hs (i + 1) d E h k (by simpa using e) hi hk
    · refine hd E h ?_
      have e1 : c + (d :: ds).length = c + 1 + ds.length := by simp; omega
      rw [e1]
      exact he
/-- a loop from turn 0 -/
theorem for_inv {g : TGm} {tb : TSm} {N : Nd} {items : List D} {E : En} {h : MH} (I : Nat → En → MH → Prop) (h0 : I 0 E h)
    (hs : ∀ i d E h (k : En → MH → Prop), items[i]? = some d → I i E h → (∀ E h, I (i + 1) E h → k E h) → g d E h fun E2 h2 => tb { nx := k, rt := N.rt, bk := N.nx, ct := k, xs := N.xs } E2 h2)
    (hd : ∀ E h, I items.length E h → N.nx E h) : forL g tb items N E h :=
  forL_inv I items 0 E h h0 (fun i d E h k e hi hk => hs i d E h k e (by rw [Nat.zero_add] at hi; exact hi) (by rw [Nat.zero_add] at hk; exact hk)) fun E h he => hd E h (by rw [Nat.zero_add] at he; exact he)
/-- a state that is a fold -/
theorem for_fold {α : Type} {g : TGm} {tb : TSm} {N : Nd} (S : α → En) (Hh : α → MH) (f : α → D → α) : ∀ (items : List D) (s : α),
    (∀ d ∈ items, ∀ s (k : En → MH → Prop), k (S (f s d)) (Hh (f s d)) → g d (S s) (Hh s) fun E2 h2 => tb { nx := k, rt := N.rt, bk := N.nx, ct := k, xs := N.xs } E2 h2) →
    N.nx (S (items.foldl f s)) (Hh (items.foldl f s)) → forL g tb items N (S s) (Hh s)
  | [], s, _, hd => hd
  | d :: ds, s, hs, hd => hs d List.mem_cons_self s _ (for_fold S Hh f ds (f s d) (fun d hd => hs d (List.mem_cons_of_mem _ hd)) hd)
theorem lcL_inv {g : TGm} {tt : TTm} {te : TVm} {E : En} {K : List D → MH → Prop} (I : Nat → List D → MH → Prop) : ∀ (items : List D) (c : Nat) (acc : List D) (h : MH), I c acc h →
    (∀ i d acc h (k : List D → MH → Prop), items[i]? = some d → I (c + i) acc h → (∀ acc h, I (c + i + 1) acc h → k acc h) → g d E h fun E2 h2 => tt E2 h2 (fun b h3 => if b = true then te E2 h3 (fun y h4 => acc.length < sizeLine ∧ k (acc ++ [y]) h4) xNo else k acc h3) xNo) →
    (∀ acc h, I (c + items.length) acc h → K acc h) → lcL g tt te E items acc h K
  | [], c, acc, h, h0, _, hd => hd acc h h0
  | d :: ds, c, acc, h, h0, hs, hd => by
    refine hs 0 d acc h (fun acc h => lcL g tt te E ds acc h K) rfl h0 fun acc2 h2 h1 => ?_
    refine lcL_inv I ds (c + 1) acc2 h2 h1 (fun i d acc h k e hi hk => ?_) fun acc h he => ?_
    · have e1 : c + 1 + i = c + (i + 1) := by omega
      rw [e1] at hi hk
      exact hs (i + 1) d acc h k (by simpa using e) hi hk
    · refine hd acc h ?_
      have e1 : c + (d :: ds).length = c + 1 + ds.length := by simp; omega
      rw [e1]
      exact he
theorem lc_inv {g : TGm} {tt : TTm} {te : TVm} {E : En} {K : List D → MH → Prop} {items : List D} {h : MH} (I : Nat → List D → MH → Prop) (h0 : I 0 [] h)
    (hs : ∀ i d acc h (k : List D → MH → Prop), items[i]? = some d → I i acc h → (∀ acc h, I (i + 1) acc h → k acc h) → g d E h fun E2 h2 => tt E2 h2 (fun b h3 => if b = true then te E2 h3 (fun y h4 => acc.length < sizeLine ∧ k (acc ++ [y]) h4) xNo else k acc h3) xNo)
    (hd : ∀ acc h, I items.length acc h → K acc h) : lcL g tt te E items [] h K :=
  lcL_inv I items 0 [] h h0 (fun i d acc h k e hi hk => hs i d acc h k e (by rw [Nat.zero_add] at hi; exact hi) (by rw [Nat.zero_add] at hk; exact hk)) fun acc h he => hd acc h (by rw [Nat.zero_add] at he; exact he)
/-- items that are kept or left out, each by itself, the heap as it is -/
theorem lc_fm {g : TGm} {tt : TTm} {te : TVm} {E : En} {h : MH} {K : List D → MH → Prop} (f : D → Option D) {items : List D} (hl : items.length ≤ sizeLine)
    (hs : ∀ d ∈ items, ∀ (acc : List D) (k : List D → MH → Prop), acc.length < sizeLine → (match f d with
      | some y => k (acc ++ [y]) h
      | none => k acc h) → g d E h fun E2 h2 => tt E2 h2 (fun b h3 => if b = true then te E2 h3 (fun y h4 => acc.length < sizeLine ∧ k (acc ++ [y]) h4) xNo else k acc h3) xNo)
    (hd : K (items.filterMap f) h) : lcL g tt te E items [] h K := by
  have go : ∀ (items acc : List D), acc.length + items.length ≤ sizeLine → (∀ d ∈ items, ∀ (acc : List D) (k : List D → MH → Prop), acc.length < sizeLine → (match f d with
      | some y => k (acc ++ [y]) h
      | none => k acc h) → g d E h fun E2 h2 => tt E2 h2 (fun b h3 => if b = true then te E2 h3 (fun y h4 => acc.length < sizeLine ∧ k (acc ++ [y]) h4) xNo else k acc h3) xNo) → K (acc ++ items.filterMap f) h → lcL g tt te E items acc h K := by
    intro items
    induction items with
    | nil =>
      intro acc _ _ hd
      rw [List.filterMap_nil, List.append_nil] at hd
      exact hd
    | cons d ds ih =>
      intro acc hl hs hd
      simp only [List.length_cons] at hl
      refine hs d List.mem_cons_self acc (fun acc h => lcL g tt te E ds acc h K) (by omega) ?_
      cases e : f d with
      | none =>
        rw [List.filterMap_cons_none e] at hd
        exact ih acc (by omega) (fun d hd => hs d (List.mem_cons_of_mem _ hd)) hd
      | some y =>
        rw [List.filterMap_cons_some e] at hd
        refine ih (acc ++ [y]) (by rw [List.length_append]; simp; omega) (fun d hd => hs d (List.mem_cons_of_mem _ hd)) ?_
        rw [List.append_assoc]
        exact hd
  exact go items [] (by simpa using hl) hs (by simpa using hd)
theorem lc_map {g : TGm} {tt : TTm} {te : TVm} {E : En} {h : MH} {K : List D → MH → Prop} (f : D → D) {items : List D} (hl : items.length ≤ sizeLine)
    (hs : ∀ d ∈ items, ∀ (acc : List D) (k : List D → MH → Prop), acc.length < sizeLine → k (acc ++ [f d]) h → g d E h fun E2 h2 => tt E2 h2 (fun b h3 => if b = true then te E2 h3 (fun y h4 => acc.length < sizeLine ∧ k (acc ++ [y]) h4) xNo else k acc h3) xNo)
    (hd : K (items.map f) h) : lcL g tt te E items [] h K := by
  refine lc_fm (fun d => some (f d)) hl (fun d hm acc k ha q => hs d hm acc k ha q) ?_
  have e : items.filterMap (fun d => some (f d)) = items.map f := by
    induction items with
    | nil => rfl
    | cons d ds ih => simp
  rw [e]
  exact hd
end M3
set_option Elab.async false
set_option linter.all false
set_option maxRecDepth 100000
set_option maxHeartbeats 4000000
namespace M3
open PySem PySem.Spec PyProof.Rows L2
/-! ### promises of what the laws share -/
def isNum (p : D) (lo hi : Int) : Bool := match p with
  | .int i => decide (lo ≤ i) && decide (i ≤ hi)
  | _ => false
def sp_is_number (a : Ad) : MSp := fun ds h Kn Kx => ∃ p lo hi, ds = [p, .int lo, .int hi] ∧ kindD h p ≠ none ∧ Kn (.d (.bl (isNum p lo hi))) h
def RowAt (h : MH) (r : Addr) : Prop := ∃ ns pos ex mx, h r = some (.lst [.scr ns, .int pos, .int ex, .int mx]) ∧ 0 ≤ pos
def sp_law_row (a : Ad) : MSp := fun ds h Kn Kx => ∃ ns : List Int, ds = [.scr ns] ∧ ∀ mx, Kn (.ol [.scr ns, .int 0, .int 0, .int mx]) h
def sp_law_taken (a : Ad) : MSp := fun ds h Kn Kx => ∃ r m, ds = [.ref r, .int m] ∧ 0 < m ∧ m < 10 ^ 9 ∧ RowAt h r ∧ ∀ v h', 0 ≤ v → v < m → (∀ b, b ≠ r → h' b = h b) → RowAt h' r → Kn (.d (.int v)) h'
/-! ### mirrors -/
def t_law_row (a : Ad) : TSm :=
  (sSeq (sSet 1 (mC (.int 7)))
  (sSeq (sForget [2] (sFor (mIter (mVar 0)) (gN 2)
   (sForget [2] (sSet 1 (frzV (mOp gMod (frzV (mOp gAdd (frzV (mOp gAdd (frzV (mOp gMul (mVar 1) (mC (.int 48271)))) (mVar 2))) (mC (.int 11)))) (mC (.int 2147483647))))))))
  (sRet (mLst (mCons (mVar 0) (mCons (mC (.int 0)) (mCons (mC (.int 0)) (mCons (mVar 1) mNil))))))))
def t_is_number (a : Ad) : TSm :=
  (sRet (valE (mAndV (mIsi [.int] (mVar 0)) (mAndV (mNotV (mTst (mIsi [.bool] (mVar 0)))) (frzV (mChain (gB fun i j => decide (i ≤ j)) (gB fun i j => decide (i ≤ j)) (mVar 1) (mVar 0) (mVar 2)))))))
def t_law_taken (a : Ad) : TSm :=
  (sSeq (sForget [2] (sIf (mTst (frzV (mOp (gB fun i j => decide (j < i)) (frzV (mOp gIx (mVar 0) (mC (.int 2)))) (mC (.int 0))))) (sSeq (sSet 2 (frzV (mOp gMod (frzV (mOp gIx (mVar 0) (mC (.int 2)))) (mVar 1))))
  (sSeq (sSetI (mVar 0) (mC (.int 2)) (frzV (mOp gDiv (frzV (mOp gIx (mVar 0) (mC (.int 2)))) (mVar 1))))
  (sRet (valE (mVar 2))))) sSkip))
  (sSeq (sForget [3] (sIf (mTst (frzV (mOp (gB fun i j => decide (i < j)) (frzV (mOp gIx (mVar 0) (mC (.int 1)))) (frzV (mCall gLen (mCons (frzV (mOp gIx (mVar 0) (mC (.int 0)))) mNil)))))) (sSeq (sSet 3 (frzV (mOp gIx (frzV (mOp gIx (mVar 0) (mC (.int 0)))) (frzV (mOp gIx (mVar 0) (mC (.int 1)))))))
  (sSeq (sSetI (mVar 0) (mC (.int 1)) (frzV (mOp gAdd (frzV (mOp gIx (mVar 0) (mC (.int 1)))) (mC (.int 1)))))
  (sSeq (sIf (mTst (frzV (mOp (gB fun i j => decide (j ≤ i)) (mVar 3) (frzV (mOp gPow (mC (.int 10)) (mC (.int 18))))))) (sSetI (mVar 0) (mC (.int 2)) (frzV (mOp gDiv (mVar 3) (mVar 1)))) sSkip)
  (sRet (mOp gMod (mVar 3) (mVar 1)))))) sSkip))
  (sSeq (sSetI (mVar 0) (mC (.int 3)) (frzV (mOp gMod (frzV (mOp gAdd (frzV (mOp gMul (frzV (mOp gIx (mVar 0) (mC (.int 3)))) (mC (.int 48271)))) (mC (.int 12345)))) (mC (.int 2147483647)))))
  (sRet (mOp gMod (frzV (mOp gDiv (frzV (mOp gIx (mVar 0) (mC (.int 3)))) (mC (.int 1009)))) (mVar 1))))))
theorem rd_is_number {a : Ad} (ds : List D) (h : MH) (Kn : RV → MH → Prop) (Kx : XKm) (q : sp_is_number a ds h Kn Kx) : t_is_number a (bodyN Kn Kx) (startE ["part", "low", "high"] ds) h := by
  obtain ⟨p, lo, hi, rfl, hk, k⟩ := q
  show t_is_number a (bodyN Kn Kx) [some p, some (.int lo), some (.int hi)] h
  have fin : ∀ {b : Bool}, isNum p lo hi = b → (bodyN Kn Kx).rt (.d (.bl b)) h := fun e => bodyN_rt0 (by rw [← e]; exact k)
  unfold t_is_number
  cases p with
  | int i =>
    simp only [sSeq, sSet, sSkip, sForget, sFor, sIf, sRet, sRetN, sDrop, sSetI, sAsg, sPar, sFldM, sAug, frzV, valE, mVar, mC, mOp, mUn, mCall, mFun, mMeth, mMake, mFld, mTst, mNotT, mNotV, mAndV, mOrV, mAndT, mOrT, mIte, mNil, mCons, mTup, mLst, mChain, mIter_ap, mIsi_ap, mRng1, mRng2, mLc, mYes, mCell, mRel, mSl, oNo, oSome,
  gN, gT, gsCons, gsNil, frz_d, frz_l, frz_k, gIx_p, onSet_p, onQ_p, onL_p, gLen_p, onIns_p, put_put, atD_0, atD_1, atD_2, atD_3, atD_4, ixN_0, ixN_1, ixN_2, ixN_3, ixN_4, List.length_cons, List.length_nil, onBl_b, onInt_i, onTup_t, on1_1, on2_2, onQ_l, onQ_t, onQ_s, onL_l, onLs_l, onLs_s, onD_d, onOpt_s, gII, gB, gAdd_i, gAdd_s, gAdd_t, gAdd_l, gMul_i, gMul_l, gMul_t, gSub, gMod, gDiv, gPow, gNeg, gIx_l, gIx_t, gIx_s, gLen_l, gLen_t, gLen_s, gLen_d, iterD_t, iterD_l, iterD_s,
  kind_i, kind_b, kind_s, kind_n, kind_t, kind_l, gIsN, isNon, gTuple, gList, gAll, gAny, gSum, gMin, gMax, gMin2, gMax2, gAbs, gInt, gSorted,
  List.getElem?_cons_zero, List.getElem?_cons_succ, List.getElem?_nil, List.set_cons_zero, List.set_cons_succ, List.cons_append, List.nil_append, List.append_nil, wipeE, List.any_cons, List.any_nil, isK, Bool.or_false, Bool.false_or, Bool.or_true, Bool.true_or, Bool.not_true, Bool.not_false, if_true, if_false, Bool.false_eq_true, true_and, and_true, decide_eq_true_eq, id, reduceCtorEq]
    split
    · rename_i h1
      exact fin (by simp [isNum, h1])
    · rename_i h1
      exact fin (by simp [isNum, h1])
  | ref p =>
    cases e : kindD h (.ref p) with
    | none => exact absurd e hk
    | some k =>
      have e' : k = .lst ∨ k = .dct := by
        have e : (match h p with
          | some (.lst _) => some Kd.lst
          | some (.dct _) => some Kd.dct
          | _ => none) = some k := e
        split at e <;> simp_all
      rcases e' with rfl | rfl <;> (simp only [sSeq, sSet, sSkip, sForget, sFor, sIf, sRet, sRetN, sDrop, sSetI, sAsg, sPar, sFldM, sAug, frzV, valE, mVar, mC, mOp, mUn, mCall, mFun, mMeth, mMake, mFld, mTst, mNotT, mNotV, mAndV, mOrV, mAndT, mOrT, mIte, mNil, mCons, mTup, mLst, mChain, mIter_ap, mIsi_ap, mRng1, mRng2, mLc, mYes, mCell, mRel, mSl, oNo, oSome,
  gN, gT, gsCons, gsNil, frz_d, frz_l, frz_k, gIx_p, onSet_p, onQ_p, onL_p, gLen_p, onIns_p, put_put, atD_0, atD_1, atD_2, atD_3, atD_4, ixN_0, ixN_1, ixN_2, ixN_3, ixN_4, List.length_cons, List.length_nil, onBl_b, onInt_i, onTup_t, on1_1, on2_2, onQ_l, onQ_t, onQ_s, onL_l, onLs_l, onLs_s, onD_d, onOpt_s, gII, gB, gAdd_i, gAdd_s, gAdd_t, gAdd_l, gMul_i, gMul_l, gMul_t, gSub, gMod, gDiv, gPow, gNeg, gIx_l, gIx_t, gIx_s, gLen_l, gLen_t, gLen_s, gLen_d, iterD_t, iterD_l, iterD_s,
  kind_i, kind_b, kind_s, kind_n, kind_t, kind_l, gIsN, isNon, gTuple, gList, gAll, gAny, gSum, gMin, gMax, gMin2, gMax2, gAbs, gInt, gSorted,
  List.getElem?_cons_zero, List.getElem?_cons_succ, List.getElem?_nil, List.set_cons_zero, List.set_cons_succ, List.cons_append, List.nil_append, List.append_nil, wipeE, List.any_cons, List.any_nil, isK, Bool.or_false, Bool.false_or, Bool.or_true, Bool.true_or, Bool.not_true, Bool.not_false, if_true, if_false, Bool.false_eq_true, true_and, and_true, decide_eq_true_eq, id, reduceCtorEq, e]; exact fin rfl)
  | dct kvs => simp only [sSeq, sSet, sSkip, sForget, sFor, sIf, sRet, sRetN, sDrop, sSetI, sAsg, sPar, sFldM, sAug, frzV, valE, mVar, mC, mOp, mUn, mCall, mFun, mMeth, mMake, mFld, mTst, mNotT, mNotV, mAndV, mOrV, mAndT, mOrT, mIte, mNil, mCons, mTup, mLst, mChain, mIter_ap, mIsi_ap, mRng1, mRng2, mLc, mYes, mCell, mRel, mSl, oNo, oSome,
  gN, gT, gsCons, gsNil, frz_d, frz_l, frz_k, gIx_p, onSet_p, onQ_p, onL_p, gLen_p, onIns_p, put_put, atD_0, atD_1, atD_2, atD_3, atD_4, ixN_0, ixN_1, ixN_2, ixN_3, ixN_4, List.length_cons, List.length_nil, onBl_b, onInt_i, onTup_t, on1_1, on2_2, onQ_l, onQ_t, onQ_s, onL_l, onLs_l, onLs_s, onD_d, onOpt_s, gII, gB, gAdd_i, gAdd_s, gAdd_t, gAdd_l, gMul_i, gMul_l, gMul_t, gSub, gMod, gDiv, gPow, gNeg, gIx_l, gIx_t, gIx_s, gLen_l, gLen_t, gLen_s, gLen_d, iterD_t, iterD_l, iterD_s,
  kind_i, kind_b, kind_s, kind_n, kind_t, kind_l, gIsN, isNon, gTuple, gList, gAll, gAny, gSum, gMin, gMax, gMin2, gMax2, gAbs, gInt, gSorted,
  List.getElem?_cons_zero, List.getElem?_cons_succ, List.getElem?_nil, List.set_cons_zero, List.set_cons_succ, List.cons_append, List.nil_append, List.append_nil, wipeE, List.any_cons, List.any_nil, isK, Bool.or_false, Bool.false_or, Bool.or_true, Bool.true_or, Bool.not_true, Bool.not_false, if_true, if_false, Bool.false_eq_true, true_and, and_true, decide_eq_true_eq, id, reduceCtorEq, show kindD h (.dct kvs) = some .dct from rfl]; exact fin rfl
  | scr kvs => simp only [sSeq, sSet, sSkip, sForget, sFor, sIf, sRet, sRetN, sDrop, sSetI, sAsg, sPar, sFldM, sAug, frzV, valE, mVar, mC, mOp, mUn, mCall, mFun, mMeth, mMake, mFld, mTst, mNotT, mNotV, mAndV, mOrV, mAndT, mOrT, mIte, mNil, mCons, mTup, mLst, mChain, mIter_ap, mIsi_ap, mRng1, mRng2, mLc, mYes, mCell, mRel, mSl, oNo, oSome,
  gN, gT, gsCons, gsNil, frz_d, frz_l, frz_k, gIx_p, onSet_p, onQ_p, onL_p, gLen_p, onIns_p, put_put, atD_0, atD_1, atD_2, atD_3, atD_4, ixN_0, ixN_1, ixN_2, ixN_3, ixN_4, List.length_cons, List.length_nil, onBl_b, onInt_i, onTup_t, on1_1, on2_2, onQ_l, onQ_t, onQ_s, onL_l, onLs_l, onLs_s, onD_d, onOpt_s, gII, gB, gAdd_i, gAdd_s, gAdd_t, gAdd_l, gMul_i, gMul_l, gMul_t, gSub, gMod, gDiv, gPow, gNeg, gIx_l, gIx_t, gIx_s, gLen_l, gLen_t, gLen_s, gLen_d, iterD_t, iterD_l, iterD_s,
  kind_i, kind_b, kind_s, kind_n, kind_t, kind_l, gIsN, isNon, gTuple, gList, gAll, gAny, gSum, gMin, gMax, gMin2, gMax2, gAbs, gInt, gSorted,
  List.getElem?_cons_zero, List.getElem?_cons_succ, List.getElem?_nil, List.set_cons_zero, List.set_cons_succ, List.cons_append, List.nil_append, List.append_nil, wipeE, List.any_cons, List.any_nil, isK, Bool.or_false, Bool.false_or, Bool.or_true, Bool.true_or, Bool.not_true, Bool.not_false, if_true, if_false, Bool.false_eq_true, true_and, and_true, decide_eq_true_eq, id, reduceCtorEq, show kindD h (.scr kvs) = some .lst from rfl]; exact fin rfl
  | lam j c => exact absurd rfl hk
  | _ => simp only [sSeq, sSet, sSkip, sForget, sFor, sIf, sRet, sRetN, sDrop, sSetI, sAsg, sPar, sFldM, sAug, frzV, valE, mVar, mC, mOp, mUn, mCall, mFun, mMeth, mMake, mFld, mTst, mNotT, mNotV, mAndV, mOrV, mAndT, mOrT, mIte, mNil, mCons, mTup, mLst, mChain, mIter_ap, mIsi_ap, mRng1, mRng2, mLc, mYes, mCell, mRel, mSl, oNo, oSome,
  gN, gT, gsCons, gsNil, frz_d, frz_l, frz_k, gIx_p, onSet_p, onQ_p, onL_p, gLen_p, onIns_p, put_put, atD_0, atD_1, atD_2, atD_3, atD_4, ixN_0, ixN_1, ixN_2, ixN_3, ixN_4, List.length_cons, List.length_nil, onBl_b, onInt_i, onTup_t, on1_1, on2_2, onQ_l, onQ_t, onQ_s, onL_l, onLs_l, onLs_s, onD_d, onOpt_s, gII, gB, gAdd_i, gAdd_s, gAdd_t, gAdd_l, gMul_i, gMul_l, gMul_t, gSub, gMod, gDiv, gPow, gNeg, gIx_l, gIx_t, gIx_s, gLen_l, gLen_t, gLen_s, gLen_d, iterD_t, iterD_l, iterD_s,
  kind_i, kind_b, kind_s, kind_n, kind_t, kind_l, gIsN, isNon, gTuple, gList, gAll, gAny, gSum, gMin, gMax, gMin2, gMax2, gAbs, gInt, gSorted,
  List.getElem?_cons_zero, List.getElem?_cons_succ, List.getElem?_nil, List.set_cons_zero, List.set_cons_succ, List.cons_append, List.nil_append, List.append_nil, wipeE, List.any_cons, List.any_nil, isK, Bool.or_false, Bool.false_or, Bool.or_true, Bool.true_or, Bool.not_true, Bool.not_false, if_true, if_false, Bool.false_eq_true, true_and, and_true, decide_eq_true_eq, id, reduceCtorEq]; exact fin rfl
theorem mulok_r {i j : Int} (h1 : -(2 ^ 64) < j) (h2 : j < 2 ^ 64) : MulOk i j := .inl (.inr ⟨h1, h2⟩)
theorem rd_law_row {a : Ad} (ds : List D) (h : MH) (Kn : RV → MH → Prop) (Kx : XKm) (q : sp_law_row a ds h Kn Kx) : t_law_row a (bodyN Kn Kx) (startE ["_law_script", "_law_mixed", "_law_cell"] ds) h := by
  obtain ⟨ns, rfl, k⟩ := q
  show t_law_row a (bodyN Kn Kx) [some (.scr ns), none, none] h
  unfold t_law_row
  simp only [sSeq, sSet, sSkip, sForget, sFor, sIf, sRet, sRetN, sDrop, sSetI, sAsg, sPar, sFldM, sAug, frzV, valE, mVar, mC, mOp, mUn, mCall, mFun, mMeth, mMake, mFld, mTst, mNotT, mNotV, mAndV, mOrV, mAndT, mOrT, mIte, mNil, mCons, mTup, mLst, mChain, mIter_ap, mIsi_ap, mRng1, mRng2, mLc, mYes, mCell, mRel, mSl, oNo, oSome,
  gN, gT, gsCons, gsNil, frz_d, frz_l, frz_k, gIx_p, onSet_p, onQ_p, onL_p, gLen_p, onIns_p, put_put, atD_0, atD_1, atD_2, atD_3, atD_4, ixN_0, ixN_1, ixN_2, ixN_3, ixN_4, List.length_cons, List.length_nil, onBl_b, onInt_i, onTup_t, on1_1, on2_2, onQ_l, onQ_t, onQ_s, onL_l, onLs_l, onLs_s, onD_d, onOpt_s, gII, gB, gAdd_i, gAdd_s, gAdd_t, gAdd_l, gMul_i, gMul_l, gMul_t, gSub, gMod, gDiv, gPow, gNeg, gIx_l, gIx_t, gIx_s, gLen_l, gLen_t, gLen_s, gLen_d, iterD_t, iterD_l, iterD_s,
  kind_i, kind_b, kind_s, kind_n, kind_t, kind_l, gIsN, isNon, gTuple, gList, gAll, gAny, gSum, gMin, gMax, gMin2, gMax2, gAbs, gInt, gSorted,
  List.getElem?_cons_zero, List.getElem?_cons_succ, List.getElem?_nil, List.set_cons_zero, List.set_cons_succ, List.cons_append, List.nil_append, List.append_nil, wipeE, List.any_cons, List.any_nil, isK, Bool.or_false, Bool.false_or, Bool.or_true, Bool.true_or, Bool.not_true, Bool.not_false, if_true, if_false, Bool.false_eq_true, true_and, and_true, decide_eq_true_eq, id, reduceCtorEq]
  refine for_inv (fun _ E h' => h' = h ∧ ∃ mx, E = [some (.scr ns), some (.int mx), none]) ⟨rfl, 7, rfl⟩ ?_ ?_
  · rintro i d E h2 k hi ⟨rfl, mx, rfl⟩ hk
    obtain ⟨c, rfl⟩ : ∃ c, d = .int c := by
      rw [List.getElem?_map] at hi
      cases e : ns[i]? with
      | none => rw [e] at hi; cases hi
      | some c => rw [e] at hi; exact ⟨c, (Option.some.inj hi).symm⟩
    simp only [sSeq, sSet, sSkip, sForget, sFor, sIf, sRet, sRetN, sDrop, sSetI, sAsg, sPar, sFldM, sAug, frzV, valE, mVar, mC, mOp, mUn, mCall, mFun, mMeth, mMake, mFld, mTst, mNotT, mNotV, mAndV, mOrV, mAndT, mOrT, mIte, mNil, mCons, mTup, mLst, mChain, mIter_ap, mIsi_ap, mRng1, mRng2, mLc, mYes, mCell, mRel, mSl, oNo, oSome,
  gN, gT, gsCons, gsNil, frz_d, frz_l, frz_k, gIx_p, onSet_p, onQ_p, onL_p, gLen_p, onIns_p, put_put, atD_0, atD_1, atD_2, atD_3, atD_4, ixN_0, ixN_1, ixN_2, ixN_3, ixN_4, List.length_cons, List.length_nil, onBl_b, onInt_i, onTup_t, on1_1, on2_2, onQ_l, onQ_t, onQ_s, onL_l, onLs_l, onLs_s, onD_d, onOpt_s, gII, gB, gAdd_i, gAdd_s, gAdd_t, gAdd_l, gMul_i, gMul_l, gMul_t, gSub, gMod, gDiv, gPow, gNeg, gIx_l, gIx_t, gIx_s, gLen_l, gLen_t, gLen_s, gLen_d, iterD_t, iterD_l, iterD_s,
  kind_i, kind_b, kind_s, kind_n, kind_t, kind_l, gIsN, isNon, gTuple, gList, gAll, gAny, gSum, gMin, gMax, gMin2, gMax2, gAbs, gInt, gSorted,
  List.getElem?_cons_zero, List.getElem?_cons_succ, List.getElem?_nil, List.set_cons_zero, List.set_cons_succ, List.cons_append, List.nil_append, List.append_nil, wipeE, List.any_cons, List.any_nil, isK, Bool.or_false, Bool.false_or, Bool.or_true, Bool.true_or, Bool.not_true, Bool.not_false, if_true, if_false, Bool.false_eq_true, true_and, and_true, decide_eq_true_eq, id, reduceCtorEq]
    refine ⟨mulok_r (by decide) (by decide), by decide, hk _ _ ⟨rfl, _, rfl⟩⟩
  · rintro E h2 ⟨rfl, mx, rfl⟩
    simp only [sSeq, sSet, sSkip, sForget, sFor, sIf, sRet, sRetN, sDrop, sSetI, sAsg, sPar, sFldM, sAug, frzV, valE, mVar, mC, mOp, mUn, mCall, mFun, mMeth, mMake, mFld, mTst, mNotT, mNotV, mAndV, mOrV, mAndT, mOrT, mIte, mNil, mCons, mTup, mLst, mChain, mIter_ap, mIsi_ap, mRng1, mRng2, mLc, mYes, mCell, mRel, mSl, oNo, oSome,
  gN, gT, gsCons, gsNil, frz_d, frz_l, frz_k, gIx_p, onSet_p, onQ_p, onL_p, gLen_p, onIns_p, put_put, atD_0, atD_1, atD_2, atD_3, atD_4, ixN_0, ixN_1, ixN_2, ixN_3, ixN_4, List.length_cons, List.length_nil, onBl_b, onInt_i, onTup_t, on1_1, on2_2, onQ_l, onQ_t, onQ_s, onL_l, onLs_l, onLs_s, onD_d, onOpt_s, gII, gB, gAdd_i, gAdd_s, gAdd_t, gAdd_l, gMul_i, gMul_l, gMul_t, gSub, gMod, gDiv, gPow, gNeg, gIx_l, gIx_t, gIx_s, gLen_l, gLen_t, gLen_s, gLen_d, iterD_t, iterD_l, iterD_s,
  kind_i, kind_b, kind_s, kind_n, kind_t, kind_l, gIsN, isNon, gTuple, gList, gAll, gAny, gSum, gMin, gMax, gMin2, gMax2, gAbs, gInt, gSorted,
  List.getElem?_cons_zero, List.getElem?_cons_succ, List.getElem?_nil, List.set_cons_zero, List.set_cons_succ, List.cons_append, List.nil_append, List.append_nil, wipeE, List.any_cons, List.any_nil, isK, Bool.or_false, Bool.false_or, Bool.or_true, Bool.true_or, Bool.not_true, Bool.not_false, if_true, if_false, Bool.false_eq_true, true_and, and_true, decide_eq_true_eq, id, reduceCtorEq]
    exact ⟨by show 4 ≤ sizeLine; decide, bodyN_rt0 (k mx)⟩
theorem rd_law_taken {a : Ad} (ds : List D) (h : MH) (Kn : RV → MH → Prop) (Kx : XKm) (q : sp_law_taken a ds h Kn Kx) : t_law_taken a (bodyN Kn Kx) (startE ["_law_row_here", "_law_many", "_law_found", "_law_cell"] ds) h := by
  obtain ⟨r, m, rfl, h0, h9, ⟨ns, pos, ex, mx, e, hp⟩, k⟩ := q
  show t_law_taken a (bodyN Kn Kx) [some (.ref r), some (.int m), none, none] h
  have lg : m.natAbs.log2 < 9000 := log2_lt h9 h0
  unfold t_law_taken
  have fin : ∀ {v pos' ex' mx' : Int}, 0 ≤ v → v < m → 0 ≤ pos' → (bodyN Kn Kx).rt (.d (.int v)) (put h r (.lst [.scr ns, .int pos', .int ex', .int mx'])) := fun h1 h2 h3 =>
    bodyN_rt0 (k _ _ h1 h2 (fun b hb => put_ne hb) ⟨_, _, _, _, put_same, h3⟩)
  have m0 : ∀ x : Int, 0 ≤ x % m := fun x => Int.emod_nonneg x (by omega)
  have m1 : ∀ x : Int, x % m < m := fun x => Int.emod_lt_of_pos x h0
  simp only [sSeq, sSet, sSkip, sForget, sFor, sIf, sRet, sRetN, sDrop, sSetI, sAsg, sPar, sFldM, sAug, frzV, valE, mVar, mC, mOp, mUn, mCall, mFun, mMeth, mMake, mFld, mTst, mNotT, mNotV, mAndV, mOrV, mAndT, mOrT, mIte, mNil, mCons, mTup, mLst, mChain, mIter_ap, mIsi_ap, mRng1, mRng2, mLc, mYes, mCell, mRel, mSl, oNo, oSome,
  gN, gT, gsCons, gsNil, frz_d, frz_l, frz_k, gIx_p, onSet_p, onQ_p, onL_p, gLen_p, onIns_p, put_put, atD_0, atD_1, atD_2, atD_3, atD_4, ixN_0, ixN_1, ixN_2, ixN_3, ixN_4, List.length_cons, List.length_nil, onBl_b, onInt_i, onTup_t, on1_1, on2_2, onQ_l, onQ_t, onQ_s, onL_l, onLs_l, onLs_s, onD_d, onOpt_s, gII, gB, gAdd_i, gAdd_s, gAdd_t, gAdd_l, gMul_i, gMul_l, gMul_t, gSub, gMod, gDiv, gPow, gNeg, gIx_l, gIx_t, gIx_s, gLen_l, gLen_t, gLen_s, gLen_d, iterD_t, iterD_l, iterD_s,
  kind_i, kind_b, kind_s, kind_n, kind_t, kind_l, gIsN, isNon, gTuple, gList, gAll, gAny, gSum, gMin, gMax, gMin2, gMax2, gAbs, gInt, gSorted,
  List.getElem?_cons_zero, List.getElem?_cons_succ, List.getElem?_nil, List.set_cons_zero, List.set_cons_succ, List.cons_append, List.nil_append, List.append_nil, wipeE, List.any_cons, List.any_nil, isK, Bool.or_false, Bool.false_or, Bool.or_true, Bool.true_or, Bool.not_true, Bool.not_false, if_true, if_false, Bool.false_eq_true, true_and, and_true, decide_eq_true_eq, id, reduceCtorEq, gIx_r e, onSet_l e]
  split
  · exact ⟨h0, ⟨h0, lg⟩, fin (m0 _) (m1 _) hp⟩
  split
  · rename_i h1 h2
    obtain ⟨c, ec⟩ : ∃ c, ns[pos.toNat]? = some c := ⟨_, List.getElem?_eq_getElem (by omega)⟩
    have ea : atD (ns.map D.int) pos = some (.int c) := atD_int hp (by rw [List.getElem?_map, ec]; rfl)
    simp only [sSeq, sSet, sSkip, sForget, sFor, sIf, sRet, sRetN, sDrop, sSetI, sAsg, sPar, sFldM, sAug, frzV, valE, mVar, mC, mOp, mUn, mCall, mFun, mMeth, mMake, mFld, mTst, mNotT, mNotV, mAndV, mOrV, mAndT, mOrT, mIte, mNil, mCons, mTup, mLst, mChain, mIter_ap, mIsi_ap, mRng1, mRng2, mLc, mYes, mCell, mRel, mSl, oNo, oSome,
  gN, gT, gsCons, gsNil, frz_d, frz_l, frz_k, gIx_p, onSet_p, onQ_p, onL_p, gLen_p, onIns_p, put_put, atD_0, atD_1, atD_2, atD_3, atD_4, ixN_0, ixN_1, ixN_2, ixN_3, ixN_4, List.length_cons, List.length_nil, onBl_b, onInt_i, onTup_t, on1_1, on2_2, onQ_l, onQ_t, onQ_s, onL_l, onLs_l, onLs_s, onD_d, onOpt_s, gII, gB, gAdd_i, gAdd_s, gAdd_t, gAdd_l, gMul_i, gMul_l, gMul_t, gSub, gMod, gDiv, gPow, gNeg, gIx_l, gIx_t, gIx_s, gLen_l, gLen_t, gLen_s, gLen_d, iterD_t, iterD_l, iterD_s,
  kind_i, kind_b, kind_s, kind_n, kind_t, kind_l, gIsN, isNon, gTuple, gList, gAll, gAny, gSum, gMin, gMax, gMin2, gMax2, gAbs, gInt, gSorted,
  List.getElem?_cons_zero, List.getElem?_cons_succ, List.getElem?_nil, List.set_cons_zero, List.set_cons_succ, List.cons_append, List.nil_append, List.append_nil, wipeE, List.any_cons, List.any_nil, isK, Bool.or_false, Bool.false_or, Bool.or_true, Bool.true_or, Bool.not_true, Bool.not_false, if_true, if_false, Bool.false_eq_true, true_and, and_true, decide_eq_true_eq, id, reduceCtorEq, ea]
    refine ⟨⟨by decide, by decide, by decide⟩, ?_⟩
    split
    · exact ⟨⟨h0, lg⟩, h0, fin (m0 _) (m1 _) (by omega)⟩
    · exact ⟨h0, fin (m0 _) (m1 _) (by omega)⟩
  · exact ⟨mulok_r (by decide) (by decide), by decide, ⟨by decide, by decide +kernel⟩, h0, fin (m0 _) (m1 _) hp⟩
end M3
set_option Elab.async false
set_option linter.all false
set_option maxRecDepth 100000
set_option maxHeartbeats 4000000
namespace M3
open PySem PySem.Spec PyProof.Rows L2
/-! ### equality, told by kind -/
theorem plD_zero : ∀ {n : Nat} {i : Int}, plD n (.int i) = true
  | 0, _ => rfl
  | _ + 1, _ => rfl
theorem plD_mono : ∀ {n : Nat} {d : D}, plD n d = true → plD (n + 1) d = true
  | 0, .non, _ => rfl
  | 0, .bl _, _ => rfl
  | 0, .int _, _ => rfl
  | 0, .str _, h => h
  | 0, .tup _, h => by cases h
  | 0, .lst _, h => by cases h
  | 0, .dct _, h => by cases h
  | 0, .ref _, h => by cases h
  | 0, .scr _, h => by cases h
  | 0, .lam _ _, h => by cases h
  | _ + 1, .non, _ => rfl
  | _ + 1, .bl _, _ => rfl
  | _ + 1, .int _, _ => rfl
  | _ + 1, .str _, h => h
  | n + 1, .tup xs, h => by
    simp only [plD, List.all_eq_true] at h ⊢
    exact fun x hx => plD_mono (h x hx)
  | n + 1, .lst xs, h => by
    simp only [plD, List.all_eq_true] at h ⊢
    exact fun x hx => plD_mono (h x hx)
  | _ + 1, .dct _, h => by cases h
  | _ + 1, .ref _, h => by cases h
  | _ + 1, .scr _, h => by cases h
  | _ + 1, .lam _ _, h => by cases h
theorem plD_le {n m : Nat} {d : D} (h : plD n d = true) (l : n ≤ m) : plD m d = true := by
  induction l with
  | refl => exact h
  | step _ ih => exact plD_mono ih
theorem eqOk_i {i : Int} : eqOk (.int i) := ⟨0, by omega, rfl⟩
theorem eqOk_b {i : Bool} : eqOk (.bl i) := ⟨0, by omega, rfl⟩
theorem eqOk_n : eqOk .non := ⟨0, by omega, rfl⟩
theorem pl_ints {ns : List Int} : (ns.map D.int).all (plD 0) = true := by
  rw [List.all_eq_true]
  intro x hx
  obtain ⟨i, _, rfl⟩ := List.mem_map.mp hx
  rfl
theorem eqOk_li {ns : List Int} : eqOk (.lst (ns.map D.int)) := ⟨1, by omega, pl_ints⟩
theorem eqOk_ti {ns : List Int} : eqOk (.tup (ns.map D.int)) := ⟨1, by omega, pl_ints⟩
theorem eqvAll_ints : ∀ {xs ys : List Int}, PyData.eqvAll (toPs (xs.map D.int)) (toPs (ys.map D.int)) = decide (xs = ys)
  | [], [] => by simp [toPs, PyData.eqvAll]
  | [], _ :: _ => by simp [toPs, PyData.eqvAll]
  | _ :: _, [] => by simp [toPs, PyData.eqvAll]
  | x :: xs, y :: ys => by
    show (PyData.eqv (.int x) (.int y) && PyData.eqvAll (toPs (xs.map D.int)) (toPs (ys.map D.int))) = _
    rw [eqvAll_ints, PyData.eqv]
    by_cases h : x = y <;> simp [h]
theorem eqD_i {i j : Int} : eqD (.int i) (.int j) = decide (i = j) := by
  show PyData.eqv (.int i) (.int j) = _
  rw [PyData.eqv]
  by_cases h : i = j <;> simp [h]
theorem eqD_b {i j : Bool} : eqD (.bl i) (.bl j) = (i == j) := by
  show PyData.eqv (.bool i) (.bool j) = _
  rw [PyData.eqv]
theorem eqD_li {xs ys : List Int} : eqD (.lst (xs.map D.int)) (.lst (ys.map D.int)) = decide (xs = ys) := by
  show PyData.eqv (.list _) (.list _) = _
  rw [PyData.eqv]
  exact eqvAll_ints
theorem eqD_ti {xs ys : List Int} : eqD (.tup (xs.map D.int)) (.tup (ys.map D.int)) = decide (xs = ys) := by
  show PyData.eqv (.tuple _) (.tuple _) = _
  rw [PyData.eqv]
  exact eqvAll_ints
mutual
theorem eqv_pl : ∀ {n : Nat} {d : D}, plD n d = true → PyData.eqv (toP d) (toP d) = true
  | _, .non, _ => by simp [toP, PyData.eqv]
  | _, .bl _, _ => by simp [toP, PyData.eqv]
  | _, .int _, _ => by simp [toP, PyData.eqv]
  | _, .str _, _ => by simp [toP, PyData.eqv]
  | n + 1, .tup xs, h => by
    simp only [plD, List.all_eq_true] at h
    simp only [toP, PyData.eqv]
    exact eqvs_pl xs h
  | n + 1, .lst xs, h => by
    simp only [plD, List.all_eq_true] at h
    simp only [toP, PyData.eqv]
    exact eqvs_pl xs h
  | 0, .tup _, h => by cases h
  | 0, .lst _, h => by cases h
  | 0, .dct _, h => by cases h
  | 0, .ref _, h => by cases h
  | 0, .scr _, h => by cases h
  | 0, .lam _ _, h => by cases h
  | _ + 1, .dct _, h => by cases h
  | _ + 1, .ref _, h => by cases h
  | _ + 1, .scr _, h => by cases h
  | _ + 1, .lam _ _, h => by cases h
theorem eqvs_pl : ∀ {n : Nat} (ds : List D), (∀ x ∈ ds, plD n x = true) → PyData.eqvAll (toPs ds) (toPs ds) = true
  | _, [], _ => by simp [toPs, PyData.eqvAll]
  | _, d :: ds, h => by
    show (PyData.eqv (toP d) (toP d) && PyData.eqvAll (toPs ds) (toPs ds)) = true
    rw [eqv_pl (h d List.mem_cons_self), eqvs_pl ds fun x hx => h x (List.mem_cons_of_mem _ hx)]
    rfl
end
theorem eqD_refl {n : Nat} {d : D} (h : plD n d = true) : eqD d d = true := eqv_pl h
section
variable {h : MH} {Kn : RV → MH → Prop} {i j : Int} {a b : Addr} {xs ys : List D} {ns ms : List Int} {p q : Bool}
theorem gEq_ok {x y : D} (hx : eqOk (res h x)) (hy : eqOk (res h y)) : gEq x y h Kn = Kn (.d (.bl (eqD (res h x) (res h y)))) h := by
  unfold gEq
  simp [hx, hy]
theorem gNe_ok {x y : D} (hx : eqOk (res h x)) (hy : eqOk (res h y)) : gNe x y h Kn = Kn (.d (.bl (!eqD (res h x) (res h y)))) h := by
  unfold gNe
  simp [hx, hy]
theorem res_i : res h (.int i) = .int i := rfl
theorem res_b : res h (.bl p) = .bl p := rfl
theorem res_n : res h .non = .non := rfl
theorem res_l : res h (.lst xs) = .lst xs := rfl
theorem res_t : res h (.tup xs) = .tup xs := rfl
theorem res_s {x : Str} : res h (.str x) = .str x := rfl
theorem res_r (e : h a = some (.lst xs)) : res h (.ref a) = .lst xs := by
  show (match h a with
    | some (.lst xs) => D.lst xs
    | _ => .ref a) = _
  rw [e]
theorem gEq_i : gEq (.int i) (.int j) h Kn = Kn (.d (.bl (decide (i = j)))) h := by rw [gEq_ok (x := .int i) (y := .int j) eqOk_i eqOk_i, res_i, res_i, eqD_i]
theorem gNe_i : gNe (.int i) (.int j) h Kn = Kn (.d (.bl (!decide (i = j)))) h := by rw [gNe_ok (x := .int i) (y := .int j) eqOk_i eqOk_i, res_i, res_i, eqD_i]
theorem gEq_b : gEq (.bl p) (.bl q) h Kn = Kn (.d (.bl (p == q))) h := by rw [gEq_ok (x := .bl p) (y := .bl q) eqOk_b eqOk_b, res_b, res_b, eqD_b]
theorem gNe_b : gNe (.bl p) (.bl q) h Kn = Kn (.d (.bl (!(p == q)))) h := by rw [gNe_ok (x := .bl p) (y := .bl q) eqOk_b eqOk_b, res_b, res_b, eqD_b]
theorem gEq_li : gEq (.lst (ns.map D.int)) (.lst (ms.map D.int)) h Kn = Kn (.d (.bl (decide (ns = ms)))) h := by rw [gEq_ok (x := .lst (ns.map D.int)) (y := .lst (ms.map D.int)) eqOk_li eqOk_li, res_l, res_l, eqD_li]
theorem gNe_li : gNe (.lst (ns.map D.int)) (.lst (ms.map D.int)) h Kn = Kn (.d (.bl (!decide (ns = ms)))) h := by rw [gNe_ok (x := .lst (ns.map D.int)) (y := .lst (ms.map D.int)) eqOk_li eqOk_li, res_l, res_l, eqD_li]
theorem gEq_l0 : gEq (.lst (ns.map D.int)) (.lst []) h Kn = Kn (.d (.bl (decide (ns = [])))) h := gEq_li (ms := [])
theorem gNe_l0 : gNe (.lst (ns.map D.int)) (.lst []) h Kn = Kn (.d (.bl (!decide (ns = [])))) h := gNe_li (ms := [])
theorem gEq_00 : gEq (.lst []) (.lst []) h Kn = Kn (.d (.bl true)) h := gEq_li (ns := []) (ms := [])
theorem gNe_00 : gNe (.lst []) (.lst []) h Kn = Kn (.d (.bl false)) h := gNe_li (ns := []) (ms := [])
theorem gEq_ti : gEq (.tup (ns.map D.int)) (.tup (ms.map D.int)) h Kn = Kn (.d (.bl (decide (ns = ms)))) h := by rw [gEq_ok (x := .tup (ns.map D.int)) (y := .tup (ms.map D.int)) eqOk_ti eqOk_ti, res_t, res_t, eqD_ti]
theorem gNe_ti : gNe (.tup (ns.map D.int)) (.tup (ms.map D.int)) h Kn = Kn (.d (.bl (!decide (ns = ms)))) h := by rw [gNe_ok (x := .tup (ns.map D.int)) (y := .tup (ms.map D.int)) eqOk_ti eqOk_ti, res_t, res_t, eqD_ti]
end
/-- what a list of items answers where it stands -/
theorem seq_onQ {h : MH} {x : D} {xs : List D} {k : List D → Prop} (e : res h x = .lst xs ∨ res h x = .tup xs) : onQ h x k = k xs := by
  cases x with
  | ref p =>
    rcases e with e | e
    · cases q : h p with
      | none => rw [show res h (.ref p) = (match h p with
          | some (.lst xs) => D.lst xs
          | _ => .ref p) from rfl, q] at e; cases e
      | some m =>
        cases m with
        | lst ys => rw [res_r q] at e; cases e; exact onQ_r q
        | dct ys => rw [show res h (.ref p) = (match h p with
          | some (.lst xs) => D.lst xs
          | _ => .ref p) from rfl, q] at e; cases e
        | ins C ys => rw [show res h (.ref p) = (match h p with
          | some (.lst xs) => D.lst xs
          | _ => .ref p) from rfl, q] at e; cases e
    · exfalso
      rw [show res h (.ref p) = (match h p with
          | some (.lst xs) => D.lst xs
          | _ => .ref p) from rfl] at e
      split at e <;> cases e
  | lst ys => rcases e with e | e <;> cases e; rfl
  | tup ys => rcases e with e | e <;> cases e; rfl
  | _ => rcases e with e | e <;> cases e
theorem seq_ref {h : MH} {p : Addr} {xs : List D} (e : res h (.ref p) = .lst xs ∨ res h (.ref p) = .tup xs) : h p = some (.lst xs) := by
  rw [show res h (.ref p) = (match h p with
          | some (.lst xs) => D.lst xs
          | _ => .ref p) from rfl] at e
  split at e
  · rcases e with e | e <;> cases e
    assumption
  · rcases e with e | e <;> cases e
theorem seq_kindL {h : MH} {x : D} {xs : List D} (e : res h x = .lst xs) : kindD h x = some .lst := by
  cases x with
  | ref p => exact kind_r (seq_ref (.inl e))
  | lst ys => rfl
  | _ => cases e
theorem seq_tup {h : MH} {x : D} {xs : List D} (e : res h x = .tup xs) : x = .tup xs := by
  cases x with
  | ref p =>
    rw [show res h (.ref p) = (match h p with
          | some (.lst xs) => D.lst xs
          | _ => .ref p) from rfl] at e
    split at e <;> cases e
  | lst ys => cases e
  | tup ys => cases e; rfl
  | _ => cases e
theorem seq_len {h : MH} {x : D} {xs : List D} {Kn : RV → MH → Prop} (e : res h x = .lst xs ∨ res h x = .tup xs) : gLen [x] h Kn = Kn (.d (.int xs.length)) h := by
  cases x with
  | ref p => exact gLen_r (seq_ref e)
  | lst ys => rcases e with e | e <;> cases e; rfl
  | tup ys => rcases e with e | e <;> cases e; rfl
  | _ => rcases e with e | e <;> cases e
theorem seq_ix {h : MH} {x : D} {i : Int} {xs : List D} {Kn : RV → MH → Prop} (e : res h x = .lst xs ∨ res h x = .tup xs) : gIx x (.int i) h Kn = onOpt (atD xs i) fun d => Kn (.d d) h := by
  cases x with
  | ref p => exact gIx_r (seq_ref e)
  | lst ys => rcases e with e | e <;> cases e; exact gIx_l
  | tup ys => rcases e with e | e <;> cases e; exact gIx_t
  | _ => rcases e with e | e <;> cases e
theorem pl_res {n : Nat} {h : MH} {d : D} (q : plD n d = true) : res h d = d := by
  cases d with
  | ref p => cases n <;> cases q
  | _ => rfl
theorem rng_len {lo : Int} {n : Nat} : (rngD lo n).length = n := by simp [rngD]
theorem rng_get {n i : Nat} {d : D} (h : (rngD 0 n)[i]? = some d) : i < n ∧ d = .int i := by
  unfold rngD at h
  rw [List.getElem?_map] at h
  cases e : (List.range n)[i]? with
  | none => rw [e] at h; cases h
  | some c =>
    rw [e] at h
    obtain ⟨hi, rfl⟩ := List.getElem?_eq_some_iff.mp e
    simp at hi h
    exact ⟨hi, by rw [← h]⟩
theorem sz1 : (1 ≤ sizeLine) = True := eq_true (by decide)
theorem sz2 : (2 ≤ sizeLine) = True := eq_true (by decide)
theorem sz3 : (3 ≤ sizeLine) = True := eq_true (by decide)
theorem sz4 : (4 ≤ sizeLine) = True := eq_true (by decide)
theorem sz5 : (5 ≤ sizeLine) = True := eq_true (by decide)
theorem sz6 : (6 ≤ sizeLine) = True := eq_true (by decide)
theorem line_big : (1000 : Nat) ≤ sizeLine := by decide
theorem enum_get {xs : List D} {i : Nat} {d : D} (h : (enumD xs)[i]? = some d) : ∃ x, xs[i]? = some x ∧ d = .tup [.int i, x] := by
  unfold enumD at h
  rw [List.getElem?_zipWith] at h
  cases e : xs[i]? with
  | none => rw [e] at h; cases e2 : (List.range xs.length)[i]? <;> rw [e2] at h <;> cases h
  | some x =>
    rw [e] at h
    cases e2 : (List.range xs.length)[i]? with
    | none => rw [e2] at h; cases h
    | some j =>
      rw [e2] at h
      obtain ⟨hi, rfl⟩ := List.getElem?_eq_some_iff.mp e2
      simp at h
      exact ⟨x, rfl, h.symm⟩
theorem num_yes {lo hi i : Int} (h1 : lo ≤ i) (h2 : i ≤ hi) : isNum (.int i) lo hi = true := by simp [isNum, h1, h2]
theorem is_num {a : Ad} {i lo hi : Int} {h : MH} {Kn : RV → MH → Prop} {Kx : XKm} (h1 : lo ≤ i) (h2 : i ≤ hi) (k : Kn (.d (.bl true)) h) : sp_is_number a [.int i, .int lo, .int hi] h Kn Kx := ⟨_, _, _, rfl, nofun, by rw [num_yes h1 h2]; exact k⟩
theorem gEq_t0 {xs : List D} {h : MH} {Kn : RV → MH → Prop} (e : eqOk (.tup xs)) : gEq (.tup xs) (.tup []) h Kn = Kn (.d (.bl xs.isEmpty)) h := by
  rw [gEq_ok (x := .tup xs) (y := .tup []) e ⟨1, by omega, rfl⟩]
  cases xs <;> rfl
theorem eqOk_rows {rows : List (List Int)} : eqOk (.tup (rows.map fun r => .tup (r.map D.int))) := ⟨2, by omega, by
  rw [show plD 2 (.tup (rows.map fun r => D.tup (r.map D.int))) = (rows.map fun r => D.tup (r.map D.int)).all (plD 1) from rfl, List.all_eq_true]
  intro x hx
  obtain ⟨i, _, rfl⟩ := List.mem_map.mp hx
  exact pl_ints⟩
theorem all_yes {xs : List D} (h : ∀ x ∈ xs, x = .bl true) : blsD xs = some (List.replicate xs.length true) := by
  induction xs with
  | nil => rfl
  | cons x xs ih =>
    obtain rfl := h x List.mem_cons_self
    rw [blsD, ih fun x hx => h x (List.mem_cons_of_mem _ hx)]
    rfl
theorem onBls_map {bs : List Bool} {k : List Bool → Prop} : onBls (bs.map D.bl) k = k bs := by
  unfold onBls
  rw [bls_map]

/-! ### loops over mapped lists -/
theorem for_foldA {α β : Type} {g : TGm} {tb : TSm} {N : Nd} {E : En} {h : MH} (S : α → En) (Hh : α → MH) (f : α → β → α) (P : α → Prop) (v : β → D) : ∀ (xs : List β) (s : α), E = S s → h = Hh s → P s →
    (∀ x ∈ xs, ∀ s (k : En → MH → Prop), P s → (P (f s x) → k (S (f s x)) (Hh (f s x))) → g (v x) (S s) (Hh s) fun E2 h2 => tb { nx := k, rt := N.rt, bk := N.nx, ct := k, xs := N.xs } E2 h2) →
    (∀ s x, x ∈ xs → P s → P (f s x)) →
    (P (xs.foldl f s) → N.nx (S (xs.foldl f s)) (Hh (xs.foldl f s))) → forL g tb (xs.map v) N E h
  | [], s, e1, e2, p, _, _, hd => by
    subst e1 e2
    exact hd p
  | x :: xs, s, e1, e2, p, hs, hp, hd => by
    subst e1 e2
    exact hs x List.mem_cons_self s _ p fun p2 => for_foldA S Hh f P v xs (f s x) rfl rfl p2 (fun d hd => hs d (List.mem_cons_of_mem _ hd)) (fun s x hx => hp s x (List.mem_cons_of_mem _ hx)) hd
theorem lc_fmA {α : Type} {g : TGm} {tt : TTm} {te : TVm} {E : En} {h : MH} {K : List D → MH → Prop} (xs : List α) (v : α → D) (f : α → Option D) (hl : xs.length ≤ sizeLine)
    (hs : ∀ x ∈ xs, ∀ (acc : List D) (k : List D → MH → Prop), acc.length < sizeLine → (match f x with
      | some y => k (acc ++ [y]) h
      | none => k acc h) → g (v x) E h fun E2 h2 => tt E2 h2 (fun b h3 => if b = true then te E2 h3 (fun y h4 => acc.length < sizeLine ∧ k (acc ++ [y]) h4) xNo else k acc h3) xNo)
    (hd : K (xs.filterMap f) h) : lcL g tt te E (xs.map v) [] h K := by
  have go : ∀ (xs : List α) (acc : List D), acc.length + xs.length ≤ sizeLine → (∀ x ∈ xs, ∀ (acc : List D) (k : List D → MH → Prop), acc.length < sizeLine → (match f x with
      | some y => k (acc ++ [y]) h
      | none => k acc h) → g (v x) E h fun E2 h2 => tt E2 h2 (fun b h3 => if b = true then te E2 h3 (fun y h4 => acc.length < sizeLine ∧ k (acc ++ [y]) h4) xNo else k acc h3) xNo) → K (acc ++ xs.filterMap f) h → lcL g tt te E (xs.map v) acc h K := by
    intro xs
    induction xs with
    | nil =>
      intro acc _ _ hd
      rw [List.filterMap_nil, List.append_nil] at hd
      exact hd
    | cons d ds ih =>
      intro acc hl hs hd
      simp only [List.length_cons] at hl
      refine hs d List.mem_cons_self acc (fun acc h => lcL g tt te E (ds.map v) acc h K) (by omega) ?_
      cases e : f d with
      | none =>
        rw [List.filterMap_cons_none e] at hd
        exact ih acc (by omega) (fun d hd => hs d (List.mem_cons_of_mem _ hd)) hd
      | some y =>
        rw [List.filterMap_cons_some e] at hd
        refine ih (acc ++ [y]) (by rw [List.length_append]; simp; omega) (fun d hd => hs d (List.mem_cons_of_mem _ hd)) ?_
        rw [List.append_assoc]
        exact hd
  exact go xs [] (by simpa using hl) hs (by simpa using hd)
theorem lc_mapA {α : Type} {g : TGm} {tt : TTm} {te : TVm} {E : En} {h : MH} {K : List D → MH → Prop} (xs : List α) (v : α → D) (f : α → D) (hl : xs.length ≤ sizeLine)
    (hs : ∀ x ∈ xs, ∀ (acc : List D) (k : List D → MH → Prop), acc.length < sizeLine → k (acc ++ [f x]) h → g (v x) E h fun E2 h2 => tt E2 h2 (fun b h3 => if b = true then te E2 h3 (fun y h4 => acc.length < sizeLine ∧ k (acc ++ [y]) h4) xNo else k acc h3) xNo)
    (hd : K (xs.map f) h) : lcL g tt te E (xs.map v) [] h K := by
  refine lc_fmA xs v (fun d => some (f d)) hl (fun d hm acc k ha q => hs d hm acc k ha q) ?_
  have e : xs.filterMap (fun d => some (f d)) = xs.map f := by
    induction xs with
    | nil => rfl
    | cons d ds ih => simp
  rw [e]
  exact hd
theorem lc_filA {α : Type} {g : TGm} {tt : TTm} {te : TVm} {E : En} {h : MH} {K : List D → MH → Prop} (xs : List α) (v : α → D) (p : α → Bool) (hl : xs.length ≤ sizeLine)
    (hs : ∀ x ∈ xs, ∀ (acc : List D) (k : List D → MH → Prop), acc.length < sizeLine → (if p x = true then k (acc ++ [v x]) h else k acc h) → g (v x) E h fun E2 h2 => tt E2 h2 (fun b h3 => if b = true then te E2 h3 (fun y h4 => acc.length < sizeLine ∧ k (acc ++ [y]) h4) xNo else k acc h3) xNo)
    (hd : K ((xs.filter p).map v) h) : lcL g tt te E (xs.map v) [] h K := by
  refine lc_fmA xs v (fun d => if p d = true then some (v d) else none) hl (fun d hm acc k ha q => hs d hm acc k ha ?_) ?_
  · by_cases e : p d = true
    · simp only [e, if_true] at q ⊢
      exact q
    · simp only [e] at q ⊢
      exact q
  · have e : xs.filterMap (fun d => if p d = true then some (v d) else none) = (xs.filter p).map v := by
      clear hs hd hl
      induction xs with
      | nil => rfl
      | cons d ds ih =>
        by_cases e : p d = true
        · simp [e, ih]
        · simp [e, ih]
    rw [e]
    exact hd
theorem atD_ints {cs : List Int} {c : Int} (h0 : 0 ≤ c) (h1 : c < cs.length) : atD (cs.map D.int) c = some (.int (cs.getD c.toNat 0)) := by
  refine atD_int h0 ?_
  rw [List.getElem?_map, List.getD_eq_getElem?_getD, List.getElem?_eq_getElem (by omega : c.toNat < cs.length)]
  rfl
theorem atD_map {α : Type} {xs : List α} {v : α → D} {i : Nat} (h : i < xs.length) : atD (xs.map v) (i : Int) = some (v (xs[i]'h)) := by
  refine atD_nat ?_
  rw [List.getElem?_map, List.getElem?_eq_getElem h]
  rfl
theorem rep_ints {n : Nat} {c : Int} : (List.replicate n [D.int c]).flatten = (List.replicate n c).map D.int := by
  induction n with
  | zero => rfl
  | succ n ih => rw [List.replicate_succ, List.flatten_cons, ih]; rfl
end M3
set_option Elab.async false
set_option linter.all false
set_option maxRecDepth 100000
set_option maxHeartbeats 4000000
namespace M3
open PySem PySem.Spec PyProof.Rows L2
structure Plan where
  k : Nat
  w : Nat
  rows : List (List Int)
def planD (p : Plan) : D := .tup [.int p.k, .int p.w, .tup (p.rows.map fun r => .tup (r.map D.int))]
structure PlanOk (p : Plan) : Prop where
  k1 : 1 ≤ p.k
  k2 : p.k ≤ 16
  w1 : 1 ≤ p.w
  w2 : p.w ≤ 32
  r1 : 1 ≤ p.rows.length
  r2 : p.rows.length ≤ 5
  len : ∀ r ∈ p.rows, r.length = p.k
  cell : ∀ r ∈ p.rows, ∀ c ∈ r, 0 ≤ c ∧ c < p.w
def sp_law_plan (a : Ad) : MSp := fun ds h Kn Kx => ∃ (r : Addr) (k w d : Int), ds = [.ref r, .int k, .int w, .int d] ∧ 1 ≤ k ∧ k ≤ 16 ∧ 1 ≤ w ∧ w ≤ 32 ∧ 1 ≤ d ∧ d ≤ 5 ∧ RowAt h r ∧ ∀ p h', PlanOk p → (p.k : Int) ≤ k → (p.w : Int) ≤ w → (p.rows.length : Int) ≤ d → (∀ b, b ≠ r → h' b = h b) → RowAt h' r → Kn (.d (planD p)) h'
def sp_need_plan (a : Ad) : MSp := fun ds h Kn Kx => ∃ p, ds = [planD p] ∧ PlanOk p ∧ Kn (.d .non) h
def sp_need_key (a : Ad) : MSp := fun ds h Kn Kx => ∃ (p : Plan) (k : Nat), ds = [planD p, .int k] ∧ PlanOk p ∧ k < p.k ∧ Kn (.d .non) h
/-- plain data of at most that depth, no list longer than sizeLine -/
def alD : Nat → D → Bool
  | _, .non | _, .bl _ | _, .int _ => true
  | _, .str x => PyData.strOk x
  | n + 1, .tup xs => decide (xs.length ≤ sizeLine) && xs.all (alD n)
  | n + 1, .lst xs => decide (xs.length ≤ sizeLine) && xs.all (alD n)
  | _, _ => false
theorem al_pl : ∀ {n : Nat} {d : D}, alD n d = true → plD n d = true
  | 0, .non, _ => rfl
  | 0, .bl _, _ => rfl
  | 0, .int _, _ => rfl
  | 0, .str _, h => h
  | 0, .tup _, h => by cases h
  | 0, .lst _, h => by cases h
  | 0, .dct _, h => by cases h
  | 0, .ref _, h => by cases h
  | 0, .scr _, h => by cases h
  | 0, .lam _ _, h => by cases h
  | _ + 1, .non, _ => rfl
  | _ + 1, .bl _, _ => rfl
  | _ + 1, .int _, _ => rfl
  | _ + 1, .str _, h => h
  | n + 1, .tup xs, h => by
    simp only [alD, plD, Bool.and_eq_true, List.all_eq_true] at h ⊢
    exact fun x hx => al_pl (h.2 x hx)
  | n + 1, .lst xs, h => by
    simp only [alD, plD, Bool.and_eq_true, List.all_eq_true] at h ⊢
    exact fun x hx => al_pl (h.2 x hx)
  | _ + 1, .dct _, h => by cases h
  | _ + 1, .ref _, h => by cases h
  | _ + 1, .scr _, h => by cases h
  | _ + 1, .lam _ _, h => by cases h
theorem alD_mono : ∀ {n : Nat} {d : D}, alD n d = true → alD (n + 1) d = true
  | 0, .non, _ => rfl
  | 0, .bl _, _ => rfl
  | 0, .int _, _ => rfl
  | 0, .str _, h => h
  | 0, .tup _, h => by cases h
  | 0, .lst _, h => by cases h
  | 0, .dct _, h => by cases h
  | 0, .ref _, h => by cases h
  | 0, .scr _, h => by cases h
  | 0, .lam _ _, h => by cases h
  | _ + 1, .non, _ => rfl
  | _ + 1, .bl _, _ => rfl
  | _ + 1, .int _, _ => rfl
  | _ + 1, .str _, h => h
  | n + 1, .tup xs, h => by
    simp only [alD, Bool.and_eq_true, List.all_eq_true] at h ⊢
    exact ⟨h.1, fun x hx => alD_mono (h.2 x hx)⟩
  | n + 1, .lst xs, h => by
    simp only [alD, Bool.and_eq_true, List.all_eq_true] at h ⊢
    exact ⟨h.1, fun x hx => alD_mono (h.2 x hx)⟩
  | _ + 1, .dct _, h => by cases h
  | _ + 1, .ref _, h => by cases h
  | _ + 1, .scr _, h => by cases h
  | _ + 1, .lam _ _, h => by cases h
theorem alD_le {n m : Nat} {d : D} (h : alD n d = true) (l : n ≤ m) : alD m d = true := by
  induction l with
  | refl => exact h
  | step _ ih => exact alD_mono ih
def sp_law_alike (a : Ad) : Nat → MSp
  | 0 => fun _ _ _ _ => False
  | n + 1 => fun ds h Kn Kx => ∃ x y, ds = [x, y] ∧ res h x = res h y ∧ n ≤ 50 ∧ alD n (res h x) = true ∧ Kn (.d (.bl true)) h
def t_law_plan (a : Ad) : TSm :=
  (sSeq (sAsg (mTup (mCons (frzV (mOp gAdd (mC (.int 1)) (frzV (mFun (sp_law_taken a) [] (mCons (mVar 0) (mCons (mVar 1) mNil)))))) (mCons (frzV (mOp gAdd (mC (.int 1)) (frzV (mFun (sp_law_taken a) [] (mCons (mVar 0) (mCons (mVar 2) mNil)))))) (mCons (mTup mNil) mNil)))) (gT 3 (gsCons (gN 4) (gsCons (gN 5) (gsCons (gN 6) gsNil)))))
  (sSeq (sForget [7] (sFor (mRng1 (mCons (frzV (mOp gAdd (mC (.int 1)) (frzV (mFun (sp_law_taken a) [] (mCons (mVar 0) (mCons (mVar 3) mNil)))))) mNil)) (gN 7)
   (sForget [7] (sSet 6 (frzV (mOp gAdd (mVar 6) (mTup (mCons (frzV (mCall gTuple (mCons (frzV (mLc (mRng1 (mCons (mVar 4) mNil)) (gN 8) mYes (frzV (mFun (sp_law_taken a) [] (mCons (mVar 0) (mCons (mVar 5) mNil)))) [8])) mNil))) mNil))))))))
  (sRet (valE (mTup (mCons (mVar 4) (mCons (mVar 5) (mCons (mVar 6) mNil))))))))
def t_need_plan (a : Ad) : TSm :=
  (sSeq (sIf (mOrT (mNotT (mTst (mIsi [.tuple] (mVar 0)))) (mTst (frzV (mOp gNe (frzV (mCall gLen (mCons (mVar 0) mNil))) (mC (.int 3)))))) sNever sSkip)
  (sSeq (sAsg (mVar 0) (gT 3 (gsCons (gN 1) (gsCons (gN 2) (gsCons (gN 3) gsNil)))))
  (sSeq (sIf (mNotT (mTst (frzV (mFun (sp_is_number a) [] (mCons (mVar 1) (mCons (mC (.int 1)) (mCons (mC (.int 16)) mNil))))))) sNever sSkip)
  (sSeq (sIf (mNotT (mTst (frzV (mFun (sp_is_number a) [] (mCons (mVar 2) (mCons (mC (.int 1)) (mCons (mC (.int 32)) mNil))))))) sNever sSkip)
  (sSeq (sIf (mOrT (mNotT (mTst (mIsi [.tuple] (mVar 3)))) (mTst (frzV (mOp gEq (mVar 3) (mTup mNil))))) sNever sSkip)
  (sForget [4, 5] (sFor (mEnum (mCons (mVar 3) mNil)) (gT 2 (gsCons (gN 4) (gsCons (gN 5) gsNil)))
   (sForget [4, 5] (sSeq (sIf (mOrT (mTst (frzV (mOp gEq (mVar 4) (mC (.int 5))))) (mOrT (mNotT (mTst (mIsi [.tuple] (mVar 5)))) (mTst (frzV (mOp gNe (frzV (mCall gLen (mCons (mVar 5) mNil))) (mVar 1)))))) sNever sSkip)
  (sIf (mNotT (mTst (frzV (mCall gAll (mCons (frzV (mLc (mIter (mVar 5)) (gN 6) mYes (frzV (mFun (sp_is_number a) [] (mCons (mVar 6) (mCons (mC (.int 0)) (mCons (frzV (mOp gSub (mVar 2) (mC (.int 1)))) mNil))))) [6])) mNil))))) sNever sSkip))))))))))
def t_need_key (a : Ad) : TSm :=
  (sIf (mNotT (mTst (frzV (mFun (sp_is_number a) [] (mCons (mVar 1) (mCons (mC (.int 0)) (mCons (frzV (mOp gSub (frzV (mOp gIx (mVar 0) (mC (.int 0)))) (mC (.int 1)))) mNil))))))) sNever sSkip)
def t_law_alike (a : Ad) (k : Nat) : TSm :=
  (sSeq (sIf (mTst (mIsi [.tuple, .list] (mVar 1))) (sSeq (sIf (mOrT (mTst (frzV (mOp gNe (mIsi [.tuple] (mVar 0)) (mIsi [.tuple] (mVar 1))))) (mNotT (mTst (mIsi [.tuple, .list] (mVar 0))))) (sRet (valE (mC (.bl false)))) sSkip)
  (sSeq (sIf (mTst (frzV (mOp gNe (frzV (mCall gLen (mCons (mVar 0) mNil))) (frzV (mCall gLen (mCons (mVar 1) mNil)))))) (sRet (valE (mC (.bl false)))) sSkip)
  (sRet (mOp gEq (frzV (mLc (mRng1 (mCons (frzV (mCall gLen (mCons (mVar 1) mNil))) mNil)) (gN 3) (mNotT (mTst (frzV (mFun (sp_law_alike a k) [] (mCons (frzV (mOp gIx (mVar 0) (mVar 3))) (mCons (frzV (mOp gIx (mVar 1) (mVar 3))) mNil)))))) (mVar 3) [3])) (frzV (mLst mNil)))))) sSkip)
  (sSeq (sIf (mOrT (mTst (frzV (mOp (gIsN id) (mVar 1) (mC .non)))) (mTst (frzV (mOp (gIsN id) (mVar 0) (mC .non))))) (sRet (valE (mAndV (frzV (mOp (gIsN id) (mVar 1) (mC .non))) (frzV (mOp (gIsN id) (mVar 0) (mC .non)))))) sSkip)
  (sSeq (sSet 2 (frzV (mOp gEq (mIsi [.str] (mVar 1)) (mIsi [.str] (mVar 0)))))
  (sRet (valE (mAndV (mVar 2) (mAndV (frzV (mOp gEq (mIsi [.bool] (mVar 1)) (mIsi [.bool] (mVar 0)))) (frzV (mOp gEq (mVar 0) (mVar 1))))))))))
theorem rd_law_plan {a : Ad} (ds : List D) (h : MH) (Kn : RV → MH → Prop) (Kx : XKm) (q : sp_law_plan a ds h Kn Kx) : t_law_plan a (bodyN Kn Kx) (startE ["_law_row_here", "_law_keys", "_law_wide", "_law_deep", "_law_many", "_law_cells", "_law_rows", "_law_k", "_law_key"] ds) h := by
  obtain ⟨r, kk, ww, dd, rfl, k1, k2, w1, w2, d1, d2, hr, k⟩ := q
  show t_law_plan a (bodyN Kn Kx) [some (.ref r), some (.int kk), some (.int ww), some (.int dd), none, none, none, none, none] h
  unfold t_law_plan
  have big := line_big
  simp only [sSeq, sSet, sSkip, sForget, sFor, sIf, sRet, sRetN, sDrop, sSetI, sAsg, sPar, sFldM, sAug, frzV, valE, mVar, mC, mOp, mUn, mCall, mFun, mMeth, mMake, mFld, mTst, mNotT, mNotV, mAndV, mOrV, mAndT, mOrT, mIte, mNil, mCons, mTup, mLst, mChain, mIter_ap, mIsi_ap, mRng1, mRng2, mLc, mYes, mCell, mRel, mSl, oNo, oSome,
  gN, gT, gsCons, gsNil, frz_d, frz_l, frz_k, gIx_p, onSet_p, onQ_p, onL_p, gLen_p, onIns_p, put_put, atD_0, atD_1, atD_2, atD_3, atD_4, ixN_0, ixN_1, ixN_2, ixN_3, ixN_4, List.length_cons, List.length_nil, onBl_b, onInt_i, onTup_t, on1_1, on2_2, onQ_l, onQ_t, onQ_s, onL_l, onLs_l, onLs_s, onD_d, onOpt_s, gII, gB, gAdd_i, gAdd_s, gAdd_t, gAdd_l, gMul_i, gMul_l, gMul_t, gSub, gMod, gDiv, gPow, gNeg, gIx_l, gIx_t, gIx_s, gLen_l, gLen_t, gLen_s, gLen_d, iterD_t, iterD_l, iterD_s,
  kind_i, kind_b, kind_s, kind_n, kind_t, kind_l, gIsN, isNon, gTuple, gList, gAll, gAny, gSum, gMin, gMax, gMin2, gMax2, gAbs, gInt, gSorted,
  List.getElem?_cons_zero, List.getElem?_cons_succ, List.getElem?_nil, List.set_cons_zero, List.set_cons_succ, List.cons_append, List.nil_append, List.append_nil, wipeE, List.any_cons, List.any_nil, isK, Bool.or_false, Bool.false_or, Bool.or_true, Bool.true_or, Bool.not_true, Bool.not_false, if_true, if_false, Bool.false_eq_true, true_and, and_true, decide_eq_true_eq, id, reduceCtorEq]
  refine ⟨r, kk, rfl, by omega, by omega, hr, fun kn h1 a1 a2 f1 r1 => ?_⟩
  simp only [sSeq, sSet, sSkip, sForget, sFor, sIf, sRet, sRetN, sDrop, sSetI, sAsg, sPar, sFldM, sAug, frzV, valE, mVar, mC, mOp, mUn, mCall, mFun, mMeth, mMake, mFld, mTst, mNotT, mNotV, mAndV, mOrV, mAndT, mOrT, mIte, mNil, mCons, mTup, mLst, mChain, mIter_ap, mIsi_ap, mRng1, mRng2, mLc, mYes, mCell, mRel, mSl, oNo, oSome,
  gN, gT, gsCons, gsNil, frz_d, frz_l, frz_k, gIx_p, onSet_p, onQ_p, onL_p, gLen_p, onIns_p, put_put, atD_0, atD_1, atD_2, atD_3, atD_4, ixN_0, ixN_1, ixN_2, ixN_3, ixN_4, List.length_cons, List.length_nil, onBl_b, onInt_i, onTup_t, on1_1, on2_2, onQ_l, onQ_t, onQ_s, onL_l, onLs_l, onLs_s, onD_d, onOpt_s, gII, gB, gAdd_i, gAdd_s, gAdd_t, gAdd_l, gMul_i, gMul_l, gMul_t, gSub, gMod, gDiv, gPow, gNeg, gIx_l, gIx_t, gIx_s, gLen_l, gLen_t, gLen_s, gLen_d, iterD_t, iterD_l, iterD_s,
  kind_i, kind_b, kind_s, kind_n, kind_t, kind_l, gIsN, isNon, gTuple, gList, gAll, gAny, gSum, gMin, gMax, gMin2, gMax2, gAbs, gInt, gSorted,
  List.getElem?_cons_zero, List.getElem?_cons_succ, List.getElem?_nil, List.set_cons_zero, List.set_cons_succ, List.cons_append, List.nil_append, List.append_nil, wipeE, List.any_cons, List.any_nil, isK, Bool.or_false, Bool.false_or, Bool.or_true, Bool.true_or, Bool.not_true, Bool.not_false, if_true, if_false, Bool.false_eq_true, true_and, and_true, decide_eq_true_eq, id, reduceCtorEq]
  refine ⟨r, ww, rfl, by omega, by omega, r1, fun wn h2 b1 b2 f2 r2 => ?_⟩
  simp only [sSeq, sSet, sSkip, sForget, sFor, sIf, sRet, sRetN, sDrop, sSetI, sAsg, sPar, sFldM, sAug, frzV, valE, mVar, mC, mOp, mUn, mCall, mFun, mMeth, mMake, mFld, mTst, mNotT, mNotV, mAndV, mOrV, mAndT, mOrT, mIte, mNil, mCons, mTup, mLst, mChain, mIter_ap, mIsi_ap, mRng1, mRng2, mLc, mYes, mCell, mRel, mSl, oNo, oSome,
  gN, gT, gsCons, gsNil, frz_d, frz_l, frz_k, gIx_p, onSet_p, onQ_p, onL_p, gLen_p, onIns_p, put_put, atD_0, atD_1, atD_2, atD_3, atD_4, ixN_0, ixN_1, ixN_2, ixN_3, ixN_4, List.length_cons, List.length_nil, onBl_b, onInt_i, onTup_t, on1_1, on2_2, onQ_l, onQ_t, onQ_s, onL_l, onLs_l, onLs_s, onD_d, onOpt_s, gII, gB, gAdd_i, gAdd_s, gAdd_t, gAdd_l, gMul_i, gMul_l, gMul_t, gSub, gMod, gDiv, gPow, gNeg, gIx_l, gIx_t, gIx_s, gLen_l, gLen_t, gLen_s, gLen_d, iterD_t, iterD_l, iterD_s,
  kind_i, kind_b, kind_s, kind_n, kind_t, kind_l, gIsN, isNon, gTuple, gList, gAll, gAny, gSum, gMin, gMax, gMin2, gMax2, gAbs, gInt, gSorted,
  List.getElem?_cons_zero, List.getElem?_cons_succ, List.getElem?_nil, List.set_cons_zero, List.set_cons_succ, List.cons_append, List.nil_append, List.append_nil, wipeE, List.any_cons, List.any_nil, isK, Bool.or_false, Bool.false_or, Bool.or_true, Bool.true_or, Bool.not_true, Bool.not_false, if_true, if_false, Bool.false_eq_true, true_and, and_true, decide_eq_true_eq, id, reduceCtorEq]
  refine ⟨by omega, by omega, r, dd, rfl, by omega, by omega, r2, fun dn h3 c1 c2 f3 r3 => ?_⟩
  simp only [sSeq, sSet, sSkip, sForget, sFor, sIf, sRet, sRetN, sDrop, sSetI, sAsg, sPar, sFldM, sAug, frzV, valE, mVar, mC, mOp, mUn, mCall, mFun, mMeth, mMake, mFld, mTst, mNotT, mNotV, mAndV, mOrV, mAndT, mOrT, mIte, mNil, mCons, mTup, mLst, mChain, mIter_ap, mIsi_ap, mRng1, mRng2, mLc, mYes, mCell, mRel, mSl, oNo, oSome,
  gN, gT, gsCons, gsNil, frz_d, frz_l, frz_k, gIx_p, onSet_p, onQ_p, onL_p, gLen_p, onIns_p, put_put, atD_0, atD_1, atD_2, atD_3, atD_4, ixN_0, ixN_1, ixN_2, ixN_3, ixN_4, List.length_cons, List.length_nil, onBl_b, onInt_i, onTup_t, on1_1, on2_2, onQ_l, onQ_t, onQ_s, onL_l, onLs_l, onLs_s, onD_d, onOpt_s, gII, gB, gAdd_i, gAdd_s, gAdd_t, gAdd_l, gMul_i, gMul_l, gMul_t, gSub, gMod, gDiv, gPow, gNeg, gIx_l, gIx_t, gIx_s, gLen_l, gLen_t, gLen_s, gLen_d, iterD_t, iterD_l, iterD_s,
  kind_i, kind_b, kind_s, kind_n, kind_t, kind_l, gIsN, isNon, gTuple, gList, gAll, gAny, gSum, gMin, gMax, gMin2, gMax2, gAbs, gInt, gSorted,
  List.getElem?_cons_zero, List.getElem?_cons_succ, List.getElem?_nil, List.set_cons_zero, List.set_cons_succ, List.cons_append, List.nil_append, List.append_nil, wipeE, List.any_cons, List.any_nil, isK, Bool.or_false, Bool.false_or, Bool.or_true, Bool.true_or, Bool.not_true, Bool.not_false, if_true, if_false, Bool.false_eq_true, true_and, and_true, decide_eq_true_eq, id, reduceCtorEq]
  refine ⟨by omega, ?_⟩
  obtain ⟨kn, rfl⟩ := Int.eq_ofNat_of_zero_le a1
  obtain ⟨wn, rfl⟩ := Int.eq_ofNat_of_zero_le b1
  obtain ⟨dn, rfl⟩ := Int.eq_ofNat_of_zero_le c1
  have e1 : (1 + (dn : Int)).toNat = dn + 1 := by omega
  rw [e1]
  refine for_inv (fun i E h' => ∃ rows : List (List Int), rows.length = i ∧ (∀ r ∈ rows, r.length = kn + 1) ∧ (∀ r ∈ rows, ∀ c ∈ r, 0 ≤ c ∧ c < (wn : Int) + 1) ∧ RowAt h' r ∧ (∀ b, b ≠ r → h' b = h b) ∧
      E = [some (.ref r), some (.int kk), some (.int ww), some (.int dd), some (.int (1 + kn)), some (.int (1 + wn)), some (.tup (rows.map fun r => .tup (r.map D.int))), none, none]) ⟨[], rfl, by simp, by simp, r3, fun b hb => by rw [f3 b hb, f2 b hb, f1 b hb], rfl⟩ ?_ ?_
  · rintro i d E h4 kc hi ⟨rows, li, lr, lc, rh, fr, rfl⟩ hk
    obtain ⟨hi, rfl⟩ := rng_get hi
    simp only [sSeq, sSet, sSkip, sForget, sFor, sIf, sRet, sRetN, sDrop, sSetI, sAsg, sPar, sFldM, sAug, frzV, valE, mVar, mC, mOp, mUn, mCall, mFun, mMeth, mMake, mFld, mTst, mNotT, mNotV, mAndV, mOrV, mAndT, mOrT, mIte, mNil, mCons, mTup, mLst, mChain, mIter_ap, mIsi_ap, mRng1, mRng2, mLc, mYes, mCell, mRel, mSl, oNo, oSome,
  gN, gT, gsCons, gsNil, frz_d, frz_l, frz_k, gIx_p, onSet_p, onQ_p, onL_p, gLen_p, onIns_p, put_put, atD_0, atD_1, atD_2, atD_3, atD_4, ixN_0, ixN_1, ixN_2, ixN_3, ixN_4, List.length_cons, List.length_nil, onBl_b, onInt_i, onTup_t, on1_1, on2_2, onQ_l, onQ_t, onQ_s, onL_l, onLs_l, onLs_s, onD_d, onOpt_s, gII, gB, gAdd_i, gAdd_s, gAdd_t, gAdd_l, gMul_i, gMul_l, gMul_t, gSub, gMod, gDiv, gPow, gNeg, gIx_l, gIx_t, gIx_s, gLen_l, gLen_t, gLen_s, gLen_d, iterD_t, iterD_l, iterD_s,
  kind_i, kind_b, kind_s, kind_n, kind_t, kind_l, gIsN, isNon, gTuple, gList, gAll, gAny, gSum, gMin, gMax, gMin2, gMax2, gAbs, gInt, gSorted,
  List.getElem?_cons_zero, List.getElem?_cons_succ, List.getElem?_nil, List.set_cons_zero, List.set_cons_succ, List.cons_append, List.nil_append, List.append_nil, wipeE, List.any_cons, List.any_nil, isK, Bool.or_false, Bool.false_or, Bool.or_true, Bool.true_or, Bool.not_true, Bool.not_false, if_true, if_false, Bool.false_eq_true, true_and, and_true, decide_eq_true_eq, id, reduceCtorEq]
    refine ⟨by omega, ?_⟩
    have e2 : (1 + (kn : Int)).toNat = kn + 1 := by omega
    rw [e2]
    refine lc_inv (fun j acc h' => ∃ cs : List Int, acc = cs.map D.int ∧ cs.length = j ∧ (∀ c ∈ cs, 0 ≤ c ∧ c < (wn : Int) + 1) ∧ RowAt h' r ∧ (∀ b, b ≠ r → h' b = h b)) ⟨[], rfl, rfl, by simp, rh, fr⟩ ?_ ?_
    · rintro j d acc h5 kc2 hj ⟨cs, rfl, lj, cb, rh5, fr5⟩ hk2
      obtain ⟨hj, rfl⟩ := rng_get hj
      simp only [sSeq, sSet, sSkip, sForget, sFor, sIf, sRet, sRetN, sDrop, sSetI, sAsg, sPar, sFldM, sAug, frzV, valE, mVar, mC, mOp, mUn, mCall, mFun, mMeth, mMake, mFld, mTst, mNotT, mNotV, mAndV, mOrV, mAndT, mOrT, mIte, mNil, mCons, mTup, mLst, mChain, mIter_ap, mIsi_ap, mRng1, mRng2, mLc, mYes, mCell, mRel, mSl, oNo, oSome,
  gN, gT, gsCons, gsNil, frz_d, frz_l, frz_k, gIx_p, onSet_p, onQ_p, onL_p, gLen_p, onIns_p, put_put, atD_0, atD_1, atD_2, atD_3, atD_4, ixN_0, ixN_1, ixN_2, ixN_3, ixN_4, List.length_cons, List.length_nil, onBl_b, onInt_i, onTup_t, on1_1, on2_2, onQ_l, onQ_t, onQ_s, onL_l, onLs_l, onLs_s, onD_d, onOpt_s, gII, gB, gAdd_i, gAdd_s, gAdd_t, gAdd_l, gMul_i, gMul_l, gMul_t, gSub, gMod, gDiv, gPow, gNeg, gIx_l, gIx_t, gIx_s, gLen_l, gLen_t, gLen_s, gLen_d, iterD_t, iterD_l, iterD_s,
  kind_i, kind_b, kind_s, kind_n, kind_t, kind_l, gIsN, isNon, gTuple, gList, gAll, gAny, gSum, gMin, gMax, gMin2, gMax2, gAbs, gInt, gSorted,
  List.getElem?_cons_zero, List.getElem?_cons_succ, List.getElem?_nil, List.set_cons_zero, List.set_cons_succ, List.cons_append, List.nil_append, List.append_nil, wipeE, List.any_cons, List.any_nil, isK, Bool.or_false, Bool.false_or, Bool.or_true, Bool.true_or, Bool.not_true, Bool.not_false, if_true, if_false, Bool.false_eq_true, true_and, and_true, decide_eq_true_eq, id, reduceCtorEq]
      refine ⟨r, 1 + wn, rfl, by omega, by omega, rh5, fun v h6 v1 v2 f6 r6 => ⟨by simp only [List.length_map]; omega, hk2 _ _ ⟨cs ++ [v], by simp [RV.frz], by simp [lj], ?_, r6, fun b hb => by rw [f6 b hb, fr5 b hb]⟩⟩⟩
      intro c hc
      rcases List.mem_append.mp hc with hc | hc
      · exact cb c hc
      · simp at hc
        omega
    · rintro acc h5 ⟨cs, rfl, lj, cb, rh5, fr5⟩
      rw [rng_len] at lj
      have e5 : rows.length < dn + 1 := by omega
      refine ⟨by omega, by simp; omega, hk _ _ ⟨rows ++ [cs], by simp [li], ?_, ?_, rh5, fr5, by simp⟩⟩
      · intro c hc
        rcases List.mem_append.mp hc with hc | hc
        · exact lr c hc
        · simp at hc
          rw [hc]
          omega
      · intro c hc
        rcases List.mem_append.mp hc with hc | hc
        · exact lc c hc
        · simp at hc
          rw [hc]
          exact cb
  · rintro E h4 ⟨rows, li, lr, lc, rh, fr, rfl⟩
    rw [rng_len] at li
    simp only [sSeq, sSet, sSkip, sForget, sFor, sIf, sRet, sRetN, sDrop, sSetI, sAsg, sPar, sFldM, sAug, frzV, valE, mVar, mC, mOp, mUn, mCall, mFun, mMeth, mMake, mFld, mTst, mNotT, mNotV, mAndV, mOrV, mAndT, mOrT, mIte, mNil, mCons, mTup, mLst, mChain, mIter_ap, mIsi_ap, mRng1, mRng2, mLc, mYes, mCell, mRel, mSl, oNo, oSome,
  gN, gT, gsCons, gsNil, frz_d, frz_l, frz_k, gIx_p, onSet_p, onQ_p, onL_p, gLen_p, onIns_p, put_put, atD_0, atD_1, atD_2, atD_3, atD_4, ixN_0, ixN_1, ixN_2, ixN_3, ixN_4, List.length_cons, List.length_nil, onBl_b, onInt_i, onTup_t, on1_1, on2_2, onQ_l, onQ_t, onQ_s, onL_l, onLs_l, onLs_s, onD_d, onOpt_s, gII, gB, gAdd_i, gAdd_s, gAdd_t, gAdd_l, gMul_i, gMul_l, gMul_t, gSub, gMod, gDiv, gPow, gNeg, gIx_l, gIx_t, gIx_s, gLen_l, gLen_t, gLen_s, gLen_d, iterD_t, iterD_l, iterD_s,
  kind_i, kind_b, kind_s, kind_n, kind_t, kind_l, gIsN, isNon, gTuple, gList, gAll, gAny, gSum, gMin, gMax, gMin2, gMax2, gAbs, gInt, gSorted,
  List.getElem?_cons_zero, List.getElem?_cons_succ, List.getElem?_nil, List.set_cons_zero, List.set_cons_succ, List.cons_append, List.nil_append, List.append_nil, wipeE, List.any_cons, List.any_nil, isK, Bool.or_false, Bool.false_or, Bool.or_true, Bool.true_or, Bool.not_true, Bool.not_false, if_true, if_false, Bool.false_eq_true, true_and, and_true, decide_eq_true_eq, id, reduceCtorEq]
    have e3 : (1 + (kn : Int)) = ((kn + 1 : Nat) : Int) := by omega
    have e4 : (1 + (wn : Int)) = ((wn + 1 : Nat) : Int) := by omega
    rw [e3, e4]
    refine ⟨by omega, bodyN_rt0 (k ⟨kn + 1, wn + 1, rows⟩ h4 ⟨by show 1 ≤ kn + 1; omega, by show kn + 1 ≤ 16; omega, by show 1 ≤ wn + 1; omega, by show wn + 1 ≤ 32; omega, by show 1 ≤ rows.length; omega, by show rows.length ≤ 5; omega, lr, fun r hr c hc => by have := lc r hr c hc; show 0 ≤ c ∧ c < ((wn + 1 : Nat) : Int); omega⟩ ?_ ?_ ?_ fr rh)⟩
    · show ((kn + 1 : Nat) : Int) ≤ kk; omega
    · show ((wn + 1 : Nat) : Int) ≤ ww; omega
    · show (rows.length : Int) ≤ dd; omega

theorem rd_need_plan {a : Ad} (ds : List D) (h : MH) (Kn : RV → MH → Prop) (Kx : XKm) (q : sp_need_plan a ds h Kn Kx) : t_need_plan a (bodyN Kn Kx) (startE ["plan", "keys", "wide", "rows", "number", "row", "cell"] ds) h := by
  obtain ⟨p, rfl, ok, k⟩ := q
  show t_need_plan a (bodyN Kn Kx) [some (planD p), none, none, none, none, none, none] h
  have big := line_big
  obtain ⟨k1, k2, w1, w2, r1, r2, len, cell⟩ := ok
  unfold t_need_plan planD
  simp only [sSeq, sSet, sSkip, sForget, sFor, sIf, sRet, sRetN, sDrop, sSetI, sAsg, sPar, sFldM, sAug, frzV, valE, mVar, mC, mOp, mUn, mCall, mFun, mMeth, mMake, mFld, mTst, mNotT, mNotV, mAndV, mOrV, mAndT, mOrT, mIte, mNil, mCons, mTup, mLst, mChain, mIter_ap, mIsi_ap, mRng1, mRng2, mLc, mYes, mCell, mRel, mSl, oNo, oSome,
  gN, gT, gsCons, gsNil, frz_d, frz_l, frz_k, gIx_p, onSet_p, onQ_p, onL_p, gLen_p, onIns_p, put_put, atD_0, atD_1, atD_2, atD_3, atD_4, ixN_0, ixN_1, ixN_2, ixN_3, ixN_4, List.length_cons, List.length_nil, onBl_b, onInt_i, onTup_t, on1_1, on2_2, onQ_l, onQ_t, onQ_s, onL_l, onLs_l, onLs_s, onD_d, onOpt_s, gII, gB, gAdd_i, gAdd_s, gAdd_t, gAdd_l, gMul_i, gMul_l, gMul_t, gSub, gMod, gDiv, gPow, gNeg, gIx_l, gIx_t, gIx_s, gLen_l, gLen_t, gLen_s, gLen_d, iterD_t, iterD_l, iterD_s,
  kind_i, kind_b, kind_s, kind_n, kind_t, kind_l, gIsN, isNon, gTuple, gList, gAll, gAny, gSum, gMin, gMax, gMin2, gMax2, gAbs, gInt, gSorted,
  List.getElem?_cons_zero, List.getElem?_cons_succ, List.getElem?_nil, List.set_cons_zero, List.set_cons_succ, List.cons_append, List.nil_append, List.append_nil, wipeE, List.any_cons, List.any_nil, isK, Bool.or_false, Bool.false_or, Bool.or_true, Bool.true_or, Bool.not_true, Bool.not_false, if_true, if_false, Bool.false_eq_true, true_and, and_true, decide_eq_true_eq, id, reduceCtorEq, gEq_i, gNe_i, gEq_b, gNe_b, gEq_li, gNe_li, gEq_l0, gNe_l0, gEq_00, gNe_00, gEq_ti, gNe_ti, mEnum, Nat.zero_add, Nat.reduceAdd, Int.reduceEq, Int.cast_ofNat_Int, Nat.zero_le, sz1, sz2, sz3, sz4, sz5, sz6, decide_true, decide_false]
  refine is_num (by omega) (by omega) ?_
  simp only [sSeq, sSet, sSkip, sForget, sFor, sIf, sRet, sRetN, sDrop, sSetI, sAsg, sPar, sFldM, sAug, frzV, valE, mVar, mC, mOp, mUn, mCall, mFun, mMeth, mMake, mFld, mTst, mNotT, mNotV, mAndV, mOrV, mAndT, mOrT, mIte, mNil, mCons, mTup, mLst, mChain, mIter_ap, mIsi_ap, mRng1, mRng2, mLc, mYes, mCell, mRel, mSl, oNo, oSome,
  gN, gT, gsCons, gsNil, frz_d, frz_l, frz_k, gIx_p, onSet_p, onQ_p, onL_p, gLen_p, onIns_p, put_put, atD_0, atD_1, atD_2, atD_3, atD_4, ixN_0, ixN_1, ixN_2, ixN_3, ixN_4, List.length_cons, List.length_nil, onBl_b, onInt_i, onTup_t, on1_1, on2_2, onQ_l, onQ_t, onQ_s, onL_l, onLs_l, onLs_s, onD_d, onOpt_s, gII, gB, gAdd_i, gAdd_s, gAdd_t, gAdd_l, gMul_i, gMul_l, gMul_t, gSub, gMod, gDiv, gPow, gNeg, gIx_l, gIx_t, gIx_s, gLen_l, gLen_t, gLen_s, gLen_d, iterD_t, iterD_l, iterD_s,
  kind_i, kind_b, kind_s, kind_n, kind_t, kind_l, gIsN, isNon, gTuple, gList, gAll, gAny, gSum, gMin, gMax, gMin2, gMax2, gAbs, gInt, gSorted,
  List.getElem?_cons_zero, List.getElem?_cons_succ, List.getElem?_nil, List.set_cons_zero, List.set_cons_succ, List.cons_append, List.nil_append, List.append_nil, wipeE, List.any_cons, List.any_nil, isK, Bool.or_false, Bool.false_or, Bool.or_true, Bool.true_or, Bool.not_true, Bool.not_false, if_true, if_false, Bool.false_eq_true, true_and, and_true, decide_eq_true_eq, id, reduceCtorEq, gEq_i, gNe_i, gEq_b, gNe_b, gEq_li, gNe_li, gEq_l0, gNe_l0, gEq_00, gNe_00, gEq_ti, gNe_ti, mEnum, Nat.zero_add, Nat.reduceAdd, Int.reduceEq, Int.cast_ofNat_Int, Nat.zero_le, sz1, sz2, sz3, sz4, sz5, sz6, decide_true, decide_false]
  refine is_num (by omega) (by omega) ?_
  simp only [sSeq, sSet, sSkip, sForget, sFor, sIf, sRet, sRetN, sDrop, sSetI, sAsg, sPar, sFldM, sAug, frzV, valE, mVar, mC, mOp, mUn, mCall, mFun, mMeth, mMake, mFld, mTst, mNotT, mNotV, mAndV, mOrV, mAndT, mOrT, mIte, mNil, mCons, mTup, mLst, mChain, mIter_ap, mIsi_ap, mRng1, mRng2, mLc, mYes, mCell, mRel, mSl, oNo, oSome,
  gN, gT, gsCons, gsNil, frz_d, frz_l, frz_k, gIx_p, onSet_p, onQ_p, onL_p, gLen_p, onIns_p, put_put, atD_0, atD_1, atD_2, atD_3, atD_4, ixN_0, ixN_1, ixN_2, ixN_3, ixN_4, List.length_cons, List.length_nil, onBl_b, onInt_i, onTup_t, on1_1, on2_2, onQ_l, onQ_t, onQ_s, onL_l, onLs_l, onLs_s, onD_d, onOpt_s, gII, gB, gAdd_i, gAdd_s, gAdd_t, gAdd_l, gMul_i, gMul_l, gMul_t, gSub, gMod, gDiv, gPow, gNeg, gIx_l, gIx_t, gIx_s, gLen_l, gLen_t, gLen_s, gLen_d, iterD_t, iterD_l, iterD_s,
  kind_i, kind_b, kind_s, kind_n, kind_t, kind_l, gIsN, isNon, gTuple, gList, gAll, gAny, gSum, gMin, gMax, gMin2, gMax2, gAbs, gInt, gSorted,
  List.getElem?_cons_zero, List.getElem?_cons_succ, List.getElem?_nil, List.set_cons_zero, List.set_cons_succ, List.cons_append, List.nil_append, List.append_nil, wipeE, List.any_cons, List.any_nil, isK, Bool.or_false, Bool.false_or, Bool.or_true, Bool.true_or, Bool.not_true, Bool.not_false, if_true, if_false, Bool.false_eq_true, true_and, and_true, decide_eq_true_eq, id, reduceCtorEq, gEq_i, gNe_i, gEq_b, gNe_b, gEq_li, gNe_li, gEq_l0, gNe_l0, gEq_00, gNe_00, gEq_ti, gNe_ti, mEnum, Nat.zero_add, Nat.reduceAdd, Int.reduceEq, Int.cast_ofNat_Int, Nat.zero_le, sz1, sz2, sz3, sz4, sz5, sz6, decide_true, decide_false, gEq_t0 eqOk_rows]
  have e0 : (p.rows.map fun r => D.tup (r.map D.int)).isEmpty = false := by
    rw [List.isEmpty_map]
    cases e : p.rows with
    | nil => rw [e] at r1; simp at r1
    | cons _ _ => rfl
  rw [e0]
  simp only [sSeq, sSet, sSkip, sForget, sFor, sIf, sRet, sRetN, sDrop, sSetI, sAsg, sPar, sFldM, sAug, frzV, valE, mVar, mC, mOp, mUn, mCall, mFun, mMeth, mMake, mFld, mTst, mNotT, mNotV, mAndV, mOrV, mAndT, mOrT, mIte, mNil, mCons, mTup, mLst, mChain, mIter_ap, mIsi_ap, mRng1, mRng2, mLc, mYes, mCell, mRel, mSl, oNo, oSome,
  gN, gT, gsCons, gsNil, frz_d, frz_l, frz_k, gIx_p, onSet_p, onQ_p, onL_p, gLen_p, onIns_p, put_put, atD_0, atD_1, atD_2, atD_3, atD_4, ixN_0, ixN_1, ixN_2, ixN_3, ixN_4, List.length_cons, List.length_nil, onBl_b, onInt_i, onTup_t, on1_1, on2_2, onQ_l, onQ_t, onQ_s, onL_l, onLs_l, onLs_s, onD_d, onOpt_s, gII, gB, gAdd_i, gAdd_s, gAdd_t, gAdd_l, gMul_i, gMul_l, gMul_t, gSub, gMod, gDiv, gPow, gNeg, gIx_l, gIx_t, gIx_s, gLen_l, gLen_t, gLen_s, gLen_d, iterD_t, iterD_l, iterD_s,
  kind_i, kind_b, kind_s, kind_n, kind_t, kind_l, gIsN, isNon, gTuple, gList, gAll, gAny, gSum, gMin, gMax, gMin2, gMax2, gAbs, gInt, gSorted,
  List.getElem?_cons_zero, List.getElem?_cons_succ, List.getElem?_nil, List.set_cons_zero, List.set_cons_succ, List.cons_append, List.nil_append, List.append_nil, wipeE, List.any_cons, List.any_nil, isK, Bool.or_false, Bool.false_or, Bool.or_true, Bool.true_or, Bool.not_true, Bool.not_false, if_true, if_false, Bool.false_eq_true, true_and, and_true, decide_eq_true_eq, id, reduceCtorEq, gEq_i, gNe_i, gEq_b, gNe_b, gEq_li, gNe_li, gEq_l0, gNe_l0, gEq_00, gNe_00, gEq_ti, gNe_ti, mEnum, Nat.zero_add, Nat.reduceAdd, Int.reduceEq, Int.cast_ofNat_Int, Nat.zero_le, sz1, sz2, sz3, sz4, sz5, sz6, decide_true, decide_false]
  refine for_inv (fun i E h' => h' = h ∧ E = [some (planD p), some (.int p.k), some (.int p.w), some (.tup (p.rows.map fun r => .tup (r.map D.int))), none, none, none]) ⟨rfl, rfl⟩ ?_ ?_
  · rintro i d E h2 kc hi ⟨rfl, rfl⟩ hk
    obtain ⟨x, hx, rfl⟩ := enum_get hi
    rw [List.getElem?_map] at hx
    cases er : p.rows[i]? with
    | none => rw [er] at hx; cases hx
    | some row =>
      rw [er] at hx
      obtain rfl := Option.some.inj hx
      obtain ⟨il, e⟩ := List.getElem?_eq_some_iff.mp er
      have mr : row ∈ p.rows := e ▸ List.getElem_mem il
      have l5 : ¬ ((i : Int) = 5) := by omega
      have lk : ((row.length : Nat) : Int) = p.k := by rw [len row mr]
      simp only [sSeq, sSet, sSkip, sForget, sFor, sIf, sRet, sRetN, sDrop, sSetI, sAsg, sPar, sFldM, sAug, frzV, valE, mVar, mC, mOp, mUn, mCall, mFun, mMeth, mMake, mFld, mTst, mNotT, mNotV, mAndV, mOrV, mAndT, mOrT, mIte, mNil, mCons, mTup, mLst, mChain, mIter_ap, mIsi_ap, mRng1, mRng2, mLc, mYes, mCell, mRel, mSl, oNo, oSome,
  gN, gT, gsCons, gsNil, frz_d, frz_l, frz_k, gIx_p, onSet_p, onQ_p, onL_p, gLen_p, onIns_p, put_put, atD_0, atD_1, atD_2, atD_3, atD_4, ixN_0, ixN_1, ixN_2, ixN_3, ixN_4, List.length_cons, List.length_nil, onBl_b, onInt_i, onTup_t, on1_1, on2_2, onQ_l, onQ_t, onQ_s, onL_l, onLs_l, onLs_s, onD_d, onOpt_s, gII, gB, gAdd_i, gAdd_s, gAdd_t, gAdd_l, gMul_i, gMul_l, gMul_t, gSub, gMod, gDiv, gPow, gNeg, gIx_l, gIx_t, gIx_s, gLen_l, gLen_t, gLen_s, gLen_d, iterD_t, iterD_l, iterD_s,
  kind_i, kind_b, kind_s, kind_n, kind_t, kind_l, gIsN, isNon, gTuple, gList, gAll, gAny, gSum, gMin, gMax, gMin2, gMax2, gAbs, gInt, gSorted,
  List.getElem?_cons_zero, List.getElem?_cons_succ, List.getElem?_nil, List.set_cons_zero, List.set_cons_succ, List.cons_append, List.nil_append, List.append_nil, wipeE, List.any_cons, List.any_nil, isK, Bool.or_false, Bool.false_or, Bool.or_true, Bool.true_or, Bool.not_true, Bool.not_false, if_true, if_false, Bool.false_eq_true, true_and, and_true, decide_eq_true_eq, id, reduceCtorEq, gEq_i, gNe_i, gEq_b, gNe_b, gEq_li, gNe_li, gEq_l0, gNe_l0, gEq_00, gNe_00, gEq_ti, gNe_ti, mEnum, Nat.zero_add, Nat.reduceAdd, Int.reduceEq, Int.cast_ofNat_Int, Nat.zero_le, sz1, sz2, sz3, sz4, sz5, sz6, decide_true, decide_false, l5, List.length_map, lk]
      refine lc_map (fun _ => .bl true) (by rw [List.length_map, len row mr]; omega) ?_ ?_
      · intro d hd acc kc2 ha q
        obtain ⟨c, hc, rfl⟩ := List.mem_map.mp hd
        have hcc := cell row mr c hc
        simp only [sSeq, sSet, sSkip, sForget, sFor, sIf, sRet, sRetN, sDrop, sSetI, sAsg, sPar, sFldM, sAug, frzV, valE, mVar, mC, mOp, mUn, mCall, mFun, mMeth, mMake, mFld, mTst, mNotT, mNotV, mAndV, mOrV, mAndT, mOrT, mIte, mNil, mCons, mTup, mLst, mChain, mIter_ap, mIsi_ap, mRng1, mRng2, mLc, mYes, mCell, mRel, mSl, oNo, oSome,
  gN, gT, gsCons, gsNil, frz_d, frz_l, frz_k, gIx_p, onSet_p, onQ_p, onL_p, gLen_p, onIns_p, put_put, atD_0, atD_1, atD_2, atD_3, atD_4, ixN_0, ixN_1, ixN_2, ixN_3, ixN_4, List.length_cons, List.length_nil, onBl_b, onInt_i, onTup_t, on1_1, on2_2, onQ_l, onQ_t, onQ_s, onL_l, onLs_l, onLs_s, onD_d, onOpt_s, gII, gB, gAdd_i, gAdd_s, gAdd_t, gAdd_l, gMul_i, gMul_l, gMul_t, gSub, gMod, gDiv, gPow, gNeg, gIx_l, gIx_t, gIx_s, gLen_l, gLen_t, gLen_s, gLen_d, iterD_t, iterD_l, iterD_s,
  kind_i, kind_b, kind_s, kind_n, kind_t, kind_l, gIsN, isNon, gTuple, gList, gAll, gAny, gSum, gMin, gMax, gMin2, gMax2, gAbs, gInt, gSorted,
  List.getElem?_cons_zero, List.getElem?_cons_succ, List.getElem?_nil, List.set_cons_zero, List.set_cons_succ, List.cons_append, List.nil_append, List.append_nil, wipeE, List.any_cons, List.any_nil, isK, Bool.or_false, Bool.false_or, Bool.or_true, Bool.true_or, Bool.not_true, Bool.not_false, if_true, if_false, Bool.false_eq_true, true_and, and_true, decide_eq_true_eq, id, reduceCtorEq, gEq_i, gNe_i, gEq_b, gNe_b, gEq_li, gNe_li, gEq_l0, gNe_l0, gEq_00, gNe_00, gEq_ti, gNe_ti, mEnum, Nat.zero_add, Nat.reduceAdd, Int.reduceEq, Int.cast_ofNat_Int, Nat.zero_le, sz1, sz2, sz3, sz4, sz5, sz6, decide_true, decide_false]
        refine is_num (by omega) (by omega) ⟨ha, q⟩
      · have e1 : (row.map D.int).map (fun _ => D.bl true) = (List.replicate row.length true).map D.bl := by
          rw [List.map_map, List.map_replicate]
          exact List.map_const' ..
        rw [e1]
        simp only [sSeq, sSet, sSkip, sForget, sFor, sIf, sRet, sRetN, sDrop, sSetI, sAsg, sPar, sFldM, sAug, frzV, valE, mVar, mC, mOp, mUn, mCall, mFun, mMeth, mMake, mFld, mTst, mNotT, mNotV, mAndV, mOrV, mAndT, mOrT, mIte, mNil, mCons, mTup, mLst, mChain, mIter_ap, mIsi_ap, mRng1, mRng2, mLc, mYes, mCell, mRel, mSl, oNo, oSome,
  gN, gT, gsCons, gsNil, frz_d, frz_l, frz_k, gIx_p, onSet_p, onQ_p, onL_p, gLen_p, onIns_p, put_put, atD_0, atD_1, atD_2, atD_3, atD_4, ixN_0, ixN_1, ixN_2, ixN_3, ixN_4, List.length_cons, List.length_nil, onBl_b, onInt_i, onTup_t, on1_1, on2_2, onQ_l, onQ_t, onQ_s, onL_l, onLs_l, onLs_s, onD_d, onOpt_s, gII, gB, gAdd_i, gAdd_s, gAdd_t, gAdd_l, gMul_i, gMul_l, gMul_t, gSub, gMod, gDiv, gPow, gNeg, gIx_l, gIx_t, gIx_s, gLen_l, gLen_t, gLen_s, gLen_d, iterD_t, iterD_l, iterD_s,
  kind_i, kind_b, kind_s, kind_n, kind_t, kind_l, gIsN, isNon, gTuple, gList, gAll, gAny, gSum, gMin, gMax, gMin2, gMax2, gAbs, gInt, gSorted,
  List.getElem?_cons_zero, List.getElem?_cons_succ, List.getElem?_nil, List.set_cons_zero, List.set_cons_succ, List.cons_append, List.nil_append, List.append_nil, wipeE, List.any_cons, List.any_nil, isK, Bool.or_false, Bool.false_or, Bool.or_true, Bool.true_or, Bool.not_true, Bool.not_false, if_true, if_false, Bool.false_eq_true, true_and, and_true, decide_eq_true_eq, id, reduceCtorEq, gEq_i, gNe_i, gEq_b, gNe_b, gEq_li, gNe_li, gEq_l0, gNe_l0, gEq_00, gNe_00, gEq_ti, gNe_ti, mEnum, Nat.zero_add, Nat.reduceAdd, Int.reduceEq, Int.cast_ofNat_Int, Nat.zero_le, sz1, sz2, sz3, sz4, sz5, sz6, decide_true, decide_false, onBls_map]
        have e2 : (List.replicate row.length true).all id = true := by simp
        rw [e2]
        simp only [sSeq, sSet, sSkip, sForget, sFor, sIf, sRet, sRetN, sDrop, sSetI, sAsg, sPar, sFldM, sAug, frzV, valE, mVar, mC, mOp, mUn, mCall, mFun, mMeth, mMake, mFld, mTst, mNotT, mNotV, mAndV, mOrV, mAndT, mOrT, mIte, mNil, mCons, mTup, mLst, mChain, mIter_ap, mIsi_ap, mRng1, mRng2, mLc, mYes, mCell, mRel, mSl, oNo, oSome,
  gN, gT, gsCons, gsNil, frz_d, frz_l, frz_k, gIx_p, onSet_p, onQ_p, onL_p, gLen_p, onIns_p, put_put, atD_0, atD_1, atD_2, atD_3, atD_4, ixN_0, ixN_1, ixN_2, ixN_3, ixN_4, List.length_cons, List.length_nil, onBl_b, onInt_i, onTup_t, on1_1, on2_2, onQ_l, onQ_t, onQ_s, onL_l, onLs_l, onLs_s, onD_d, onOpt_s, gII, gB, gAdd_i, gAdd_s, gAdd_t, gAdd_l, gMul_i, gMul_l, gMul_t, gSub, gMod, gDiv, gPow, gNeg, gIx_l, gIx_t, gIx_s, gLen_l, gLen_t, gLen_s, gLen_d, iterD_t, iterD_l, iterD_s,
  kind_i, kind_b, kind_s, kind_n, kind_t, kind_l, gIsN, isNon, gTuple, gList, gAll, gAny, gSum, gMin, gMax, gMin2, gMax2, gAbs, gInt, gSorted,
  List.getElem?_cons_zero, List.getElem?_cons_succ, List.getElem?_nil, List.set_cons_zero, List.set_cons_succ, List.cons_append, List.nil_append, List.append_nil, wipeE, List.any_cons, List.any_nil, isK, Bool.or_false, Bool.false_or, Bool.or_true, Bool.true_or, Bool.not_true, Bool.not_false, if_true, if_false, Bool.false_eq_true, true_and, and_true, decide_eq_true_eq, id, reduceCtorEq, gEq_i, gNe_i, gEq_b, gNe_b, gEq_li, gNe_li, gEq_l0, gNe_l0, gEq_00, gNe_00, gEq_ti, gNe_ti, mEnum, Nat.zero_add, Nat.reduceAdd, Int.reduceEq, Int.cast_ofNat_Int, Nat.zero_le, sz1, sz2, sz3, sz4, sz5, sz6, decide_true, decide_false]
        exact hk _ _ ⟨rfl, rfl⟩
  · rintro E h2 ⟨rfl, rfl⟩
    simp only [sSeq, sSet, sSkip, sForget, sFor, sIf, sRet, sRetN, sDrop, sSetI, sAsg, sPar, sFldM, sAug, frzV, valE, mVar, mC, mOp, mUn, mCall, mFun, mMeth, mMake, mFld, mTst, mNotT, mNotV, mAndV, mOrV, mAndT, mOrT, mIte, mNil, mCons, mTup, mLst, mChain, mIter_ap, mIsi_ap, mRng1, mRng2, mLc, mYes, mCell, mRel, mSl, oNo, oSome,
  gN, gT, gsCons, gsNil, frz_d, frz_l, frz_k, gIx_p, onSet_p, onQ_p, onL_p, gLen_p, onIns_p, put_put, atD_0, atD_1, atD_2, atD_3, atD_4, ixN_0, ixN_1, ixN_2, ixN_3, ixN_4, List.length_cons, List.length_nil, onBl_b, onInt_i, onTup_t, on1_1, on2_2, onQ_l, onQ_t, onQ_s, onL_l, onLs_l, onLs_s, onD_d, onOpt_s, gII, gB, gAdd_i, gAdd_s, gAdd_t, gAdd_l, gMul_i, gMul_l, gMul_t, gSub, gMod, gDiv, gPow, gNeg, gIx_l, gIx_t, gIx_s, gLen_l, gLen_t, gLen_s, gLen_d, iterD_t, iterD_l, iterD_s,
  kind_i, kind_b, kind_s, kind_n, kind_t, kind_l, gIsN, isNon, gTuple, gList, gAll, gAny, gSum, gMin, gMax, gMin2, gMax2, gAbs, gInt, gSorted,
  List.getElem?_cons_zero, List.getElem?_cons_succ, List.getElem?_nil, List.set_cons_zero, List.set_cons_succ, List.cons_append, List.nil_append, List.append_nil, wipeE, List.any_cons, List.any_nil, isK, Bool.or_false, Bool.false_or, Bool.or_true, Bool.true_or, Bool.not_true, Bool.not_false, if_true, if_false, Bool.false_eq_true, true_and, and_true, decide_eq_true_eq, id, reduceCtorEq, gEq_i, gNe_i, gEq_b, gNe_b, gEq_li, gNe_li, gEq_l0, gNe_l0, gEq_00, gNe_00, gEq_ti, gNe_ti, mEnum, Nat.zero_add, Nat.reduceAdd, Int.reduceEq, Int.cast_ofNat_Int, Nat.zero_le, sz1, sz2, sz3, sz4, sz5, sz6, decide_true, decide_false]
    exact bodyN_nx0 k
theorem rd_need_key {a : Ad} (ds : List D) (h : MH) (Kn : RV → MH → Prop) (Kx : XKm) (q : sp_need_key a ds h Kn Kx) : t_need_key a (bodyN Kn Kx) (startE ["plan", "key"] ds) h := by
  obtain ⟨p, k, rfl, ok, hk, kk⟩ := q
  show t_need_key a (bodyN Kn Kx) [some (planD p), some (.int k)] h
  unfold t_need_key planD
  simp only [sSeq, sSet, sSkip, sForget, sFor, sIf, sRet, sRetN, sDrop, sSetI, sAsg, sPar, sFldM, sAug, frzV, valE, mVar, mC, mOp, mUn, mCall, mFun, mMeth, mMake, mFld, mTst, mNotT, mNotV, mAndV, mOrV, mAndT, mOrT, mIte, mNil, mCons, mTup, mLst, mChain, mIter_ap, mIsi_ap, mRng1, mRng2, mLc, mYes, mCell, mRel, mSl, oNo, oSome,
  gN, gT, gsCons, gsNil, frz_d, frz_l, frz_k, gIx_p, onSet_p, onQ_p, onL_p, gLen_p, onIns_p, put_put, atD_0, atD_1, atD_2, atD_3, atD_4, ixN_0, ixN_1, ixN_2, ixN_3, ixN_4, List.length_cons, List.length_nil, onBl_b, onInt_i, onTup_t, on1_1, on2_2, onQ_l, onQ_t, onQ_s, onL_l, onLs_l, onLs_s, onD_d, onOpt_s, gII, gB, gAdd_i, gAdd_s, gAdd_t, gAdd_l, gMul_i, gMul_l, gMul_t, gSub, gMod, gDiv, gPow, gNeg, gIx_l, gIx_t, gIx_s, gLen_l, gLen_t, gLen_s, gLen_d, iterD_t, iterD_l, iterD_s,
  kind_i, kind_b, kind_s, kind_n, kind_t, kind_l, gIsN, isNon, gTuple, gList, gAll, gAny, gSum, gMin, gMax, gMin2, gMax2, gAbs, gInt, gSorted,
  List.getElem?_cons_zero, List.getElem?_cons_succ, List.getElem?_nil, List.set_cons_zero, List.set_cons_succ, List.cons_append, List.nil_append, List.append_nil, wipeE, List.any_cons, List.any_nil, isK, Bool.or_false, Bool.false_or, Bool.or_true, Bool.true_or, Bool.not_true, Bool.not_false, if_true, if_false, Bool.false_eq_true, true_and, and_true, decide_eq_true_eq, id, reduceCtorEq, gEq_i, gNe_i, gEq_b, gNe_b, gEq_li, gNe_li, gEq_l0, gNe_l0, gEq_00, gNe_00, gEq_ti, gNe_ti, mEnum, Nat.zero_add, Nat.reduceAdd, Int.reduceEq, Int.cast_ofNat_Int, Nat.zero_le, sz1, sz2, sz3, sz4, sz5, sz6, decide_true, decide_false]
  refine is_num (by omega) (by omega) ?_
  simp only [sSeq, sSet, sSkip, sForget, sFor, sIf, sRet, sRetN, sDrop, sSetI, sAsg, sPar, sFldM, sAug, frzV, valE, mVar, mC, mOp, mUn, mCall, mFun, mMeth, mMake, mFld, mTst, mNotT, mNotV, mAndV, mOrV, mAndT, mOrT, mIte, mNil, mCons, mTup, mLst, mChain, mIter_ap, mIsi_ap, mRng1, mRng2, mLc, mYes, mCell, mRel, mSl, oNo, oSome,
  gN, gT, gsCons, gsNil, frz_d, frz_l, frz_k, gIx_p, onSet_p, onQ_p, onL_p, gLen_p, onIns_p, put_put, atD_0, atD_1, atD_2, atD_3, atD_4, ixN_0, ixN_1, ixN_2, ixN_3, ixN_4, List.length_cons, List.length_nil, onBl_b, onInt_i, onTup_t, on1_1, on2_2, onQ_l, onQ_t, onQ_s, onL_l, onLs_l, onLs_s, onD_d, onOpt_s, gII, gB, gAdd_i, gAdd_s, gAdd_t, gAdd_l, gMul_i, gMul_l, gMul_t, gSub, gMod, gDiv, gPow, gNeg, gIx_l, gIx_t, gIx_s, gLen_l, gLen_t, gLen_s, gLen_d, iterD_t, iterD_l, iterD_s,
  kind_i, kind_b, kind_s, kind_n, kind_t, kind_l, gIsN, isNon, gTuple, gList, gAll, gAny, gSum, gMin, gMax, gMin2, gMax2, gAbs, gInt, gSorted,
  List.getElem?_cons_zero, List.getElem?_cons_succ, List.getElem?_nil, List.set_cons_zero, List.set_cons_succ, List.cons_append, List.nil_append, List.append_nil, wipeE, List.any_cons, List.any_nil, isK, Bool.or_false, Bool.false_or, Bool.or_true, Bool.true_or, Bool.not_true, Bool.not_false, if_true, if_false, Bool.false_eq_true, true_and, and_true, decide_eq_true_eq, id, reduceCtorEq, gEq_i, gNe_i, gEq_b, gNe_b, gEq_li, gNe_li, gEq_l0, gNe_l0, gEq_00, gNe_00, gEq_ti, gNe_ti, mEnum, Nat.zero_add, Nat.reduceAdd, Int.reduceEq, Int.cast_ofNat_Int, Nat.zero_le, sz1, sz2, sz3, sz4, sz5, sz6, decide_true, decide_false]
  exact bodyN_nx0 kk

theorem res_flat {h : MH} {x y : D} (q : x = .non ∨ (∃ b, x = .bl b) ∨ (∃ b, x = .int b) ∨ ∃ b, x = .str b) (e : res h x = res h y) : y = x := by
  have ex : res h x = x := by rcases q with rfl | ⟨_, rfl⟩ | ⟨_, rfl⟩ | ⟨_, rfl⟩ <;> rfl
  rw [ex] at e
  cases y with
  | ref p =>
    exfalso
    rw [show res h (.ref p) = (match h p with
          | some (.lst xs) => D.lst xs
          | _ => .ref p) from rfl] at e
    split at e <;> subst e <;> simp at q
  | _ => exact e.symm
theorem big62 : sizeLine < 2 ^ 62 := by decide
theorem rd_law_alike {a : Ad} {n : Nat} (ds : List D) (h : MH) (Kn : RV → MH → Prop) (Kx : XKm) (q : sp_law_alike a (n + 1) ds h Kn Kx) : t_law_alike a n (bodyN Kn Kx) (startE ["_law_found", "_law_due", "_law_same_kind", "_law_k"] ds) h := by
  obtain ⟨x, y, rfl, exy, hn, pl, k⟩ := q
  show t_law_alike a n (bodyN Kn Kx) [some x, some y, none, none] h
  have big := line_big
  have kk : ∀ b, b = true → (bodyN Kn Kx).rt (.d (.bl b)) h := fun b e => bodyN_rt0 (by rw [e]; exact k)
  have sq : ∀ (xs : List D) (kd : Kd), kd = .lst ∨ kd = .tup → kindD h x = some kd → kindD h y = some kd → (res h x = .lst xs ∨ res h x = .tup xs) → (res h y = .lst xs ∨ res h y = .tup xs) → xs.all (alD (n - 1)) = true → 0 < n → xs.length ≤ sizeLine →
      t_law_alike a n (bodyN Kn Kx) [some x, some y, none, none] h := by
    intro xs kd hkd kx ky rx ry pls n0 lb
    obtain ⟨m, rfl⟩ : ∃ m, n = m + 1 := ⟨n - 1, by omega⟩
    unfold t_law_alike
    have fin : lcL (gN 3) (mNotT (mTst (frzV (mFun (sp_law_alike a (m + 1)) [] (mCons (frzV (mOp gIx (mVar 0) (mVar 3))) (mCons (frzV (mOp gIx (mVar 1) (mVar 3))) mNil)))))) (mVar 3) [some x, some y, none, none] (rngD 0 xs.length) [] h fun acc h2 => gEq (.lst acc) (.lst []) h2 (bodyN Kn Kx).rt := by
      refine lc_inv (fun _ acc h' => h' = h ∧ acc = []) ⟨rfl, rfl⟩ ?_ ?_
      · rintro i d acc h2 kc hi ⟨rfl, rfl⟩ hk
        obtain ⟨hj, rfl⟩ := rng_get hi
        have e1 : atD xs (i : Int) = some (xs[i]'hj) := atD_nat (List.getElem?_eq_getElem hj)
        have p1 : alD m (xs[i]'hj) = true := by
          rw [List.all_eq_true] at pls
          exact pls _ (List.getElem_mem hj)
        simp only [sSeq, sSet, sSkip, sForget, sFor, sIf, sRet, sRetN, sDrop, sSetI, sAsg, sPar, sFldM, sAug, frzV, valE, mVar, mC, mOp, mUn, mCall, mFun, mMeth, mMake, mFld, mTst, mNotT, mNotV, mAndV, mOrV, mAndT, mOrT, mIte, mNil, mCons, mTup, mLst, mChain, mIter_ap, mIsi_ap, mRng1, mRng2, mLc, mYes, mCell, mRel, mSl, oNo, oSome,
  gN, gT, gsCons, gsNil, frz_d, frz_l, frz_k, gIx_p, onSet_p, onQ_p, onL_p, gLen_p, onIns_p, put_put, atD_0, atD_1, atD_2, atD_3, atD_4, ixN_0, ixN_1, ixN_2, ixN_3, ixN_4, List.length_cons, List.length_nil, onBl_b, onInt_i, onTup_t, on1_1, on2_2, onQ_l, onQ_t, onQ_s, onL_l, onLs_l, onLs_s, onD_d, onOpt_s, gII, gB, gAdd_i, gAdd_s, gAdd_t, gAdd_l, gMul_i, gMul_l, gMul_t, gSub, gMod, gDiv, gPow, gNeg, gIx_l, gIx_t, gIx_s, gLen_l, gLen_t, gLen_s, gLen_d, iterD_t, iterD_l, iterD_s,
  kind_i, kind_b, kind_s, kind_n, kind_t, kind_l, gIsN, isNon, gTuple, gList, gAll, gAny, gSum, gMin, gMax, gMin2, gMax2, gAbs, gInt, gSorted,
  List.getElem?_cons_zero, List.getElem?_cons_succ, List.getElem?_nil, List.set_cons_zero, List.set_cons_succ, List.cons_append, List.nil_append, List.append_nil, wipeE, List.any_cons, List.any_nil, isK, Bool.or_false, Bool.false_or, Bool.or_true, Bool.true_or, Bool.not_true, Bool.not_false, if_true, if_false, Bool.false_eq_true, true_and, and_true, decide_eq_true_eq, id, reduceCtorEq, gEq_i, gNe_i, gEq_b, gNe_b, gEq_li, gNe_li, gEq_l0, gNe_l0, gEq_00, gNe_00, gEq_ti, gNe_ti, mEnum, Nat.zero_add, Nat.reduceAdd, Int.reduceEq, Int.cast_ofNat_Int, Nat.zero_le, sz1, sz2, sz3, sz4, sz5, sz6, decide_true, decide_false, seq_ix rx, seq_ix ry, e1]
        refine ⟨_, _, rfl, rfl, by omega, by rw [pl_res (al_pl p1)]; exact p1, ?_⟩
        simp only [sSeq, sSet, sSkip, sForget, sFor, sIf, sRet, sRetN, sDrop, sSetI, sAsg, sPar, sFldM, sAug, frzV, valE, mVar, mC, mOp, mUn, mCall, mFun, mMeth, mMake, mFld, mTst, mNotT, mNotV, mAndV, mOrV, mAndT, mOrT, mIte, mNil, mCons, mTup, mLst, mChain, mIter_ap, mIsi_ap, mRng1, mRng2, mLc, mYes, mCell, mRel, mSl, oNo, oSome,
  gN, gT, gsCons, gsNil, frz_d, frz_l, frz_k, gIx_p, onSet_p, onQ_p, onL_p, gLen_p, onIns_p, put_put, atD_0, atD_1, atD_2, atD_3, atD_4, ixN_0, ixN_1, ixN_2, ixN_3, ixN_4, List.length_cons, List.length_nil, onBl_b, onInt_i, onTup_t, on1_1, on2_2, onQ_l, onQ_t, onQ_s, onL_l, onLs_l, onLs_s, onD_d, onOpt_s, gII, gB, gAdd_i, gAdd_s, gAdd_t, gAdd_l, gMul_i, gMul_l, gMul_t, gSub, gMod, gDiv, gPow, gNeg, gIx_l, gIx_t, gIx_s, gLen_l, gLen_t, gLen_s, gLen_d, iterD_t, iterD_l, iterD_s,
  kind_i, kind_b, kind_s, kind_n, kind_t, kind_l, gIsN, isNon, gTuple, gList, gAll, gAny, gSum, gMin, gMax, gMin2, gMax2, gAbs, gInt, gSorted,
  List.getElem?_cons_zero, List.getElem?_cons_succ, List.getElem?_nil, List.set_cons_zero, List.set_cons_succ, List.cons_append, List.nil_append, List.append_nil, wipeE, List.any_cons, List.any_nil, isK, Bool.or_false, Bool.false_or, Bool.or_true, Bool.true_or, Bool.not_true, Bool.not_false, if_true, if_false, Bool.false_eq_true, true_and, and_true, decide_eq_true_eq, id, reduceCtorEq, gEq_i, gNe_i, gEq_b, gNe_b, gEq_li, gNe_li, gEq_l0, gNe_l0, gEq_00, gNe_00, gEq_ti, gNe_ti, mEnum, Nat.zero_add, Nat.reduceAdd, Int.reduceEq, Int.cast_ofNat_Int, Nat.zero_le, sz1, sz2, sz3, sz4, sz5, sz6, decide_true, decide_false]
        exact hk _ _ ⟨rfl, rfl⟩
      · rintro acc h2 ⟨rfl, rfl⟩
        simp only [sSeq, sSet, sSkip, sForget, sFor, sIf, sRet, sRetN, sDrop, sSetI, sAsg, sPar, sFldM, sAug, frzV, valE, mVar, mC, mOp, mUn, mCall, mFun, mMeth, mMake, mFld, mTst, mNotT, mNotV, mAndV, mOrV, mAndT, mOrT, mIte, mNil, mCons, mTup, mLst, mChain, mIter_ap, mIsi_ap, mRng1, mRng2, mLc, mYes, mCell, mRel, mSl, oNo, oSome,
  gN, gT, gsCons, gsNil, frz_d, frz_l, frz_k, gIx_p, onSet_p, onQ_p, onL_p, gLen_p, onIns_p, put_put, atD_0, atD_1, atD_2, atD_3, atD_4, ixN_0, ixN_1, ixN_2, ixN_3, ixN_4, List.length_cons, List.length_nil, onBl_b, onInt_i, onTup_t, on1_1, on2_2, onQ_l, onQ_t, onQ_s, onL_l, onLs_l, onLs_s, onD_d, onOpt_s, gII, gB, gAdd_i, gAdd_s, gAdd_t, gAdd_l, gMul_i, gMul_l, gMul_t, gSub, gMod, gDiv, gPow, gNeg, gIx_l, gIx_t, gIx_s, gLen_l, gLen_t, gLen_s, gLen_d, iterD_t, iterD_l, iterD_s,
  kind_i, kind_b, kind_s, kind_n, kind_t, kind_l, gIsN, isNon, gTuple, gList, gAll, gAny, gSum, gMin, gMax, gMin2, gMax2, gAbs, gInt, gSorted,
  List.getElem?_cons_zero, List.getElem?_cons_succ, List.getElem?_nil, List.set_cons_zero, List.set_cons_succ, List.cons_append, List.nil_append, List.append_nil, wipeE, List.any_cons, List.any_nil, isK, Bool.or_false, Bool.false_or, Bool.or_true, Bool.true_or, Bool.not_true, Bool.not_false, if_true, if_false, Bool.false_eq_true, true_and, and_true, decide_eq_true_eq, id, reduceCtorEq, gEq_i, gNe_i, gEq_b, gNe_b, gEq_li, gNe_li, gEq_l0, gNe_l0, gEq_00, gNe_00, gEq_ti, gNe_ti, mEnum, Nat.zero_add, Nat.reduceAdd, Int.reduceEq, Int.cast_ofNat_Int, Nat.zero_le, sz1, sz2, sz3, sz4, sz5, sz6, decide_true, decide_false]
        exact kk _ rfl
    rcases hkd with rfl | rfl <;> simp only [sSeq, sSet, sSkip, sForget, sFor, sIf, sRet, sRetN, sDrop, sSetI, sAsg, sPar, sFldM, sAug, frzV, valE, mVar, mC, mOp, mUn, mCall, mFun, mMeth, mMake, mFld, mTst, mNotT, mNotV, mAndV, mOrV, mAndT, mOrT, mIte, mNil, mCons, mTup, mLst, mChain, mIter_ap, mIsi_ap, mRng1, mRng2, mLc, mYes, mCell, mRel, mSl, oNo, oSome,
  gN, gT, gsCons, gsNil, frz_d, frz_l, frz_k, gIx_p, onSet_p, onQ_p, onL_p, gLen_p, onIns_p, put_put, atD_0, atD_1, atD_2, atD_3, atD_4, ixN_0, ixN_1, ixN_2, ixN_3, ixN_4, List.length_cons, List.length_nil, onBl_b, onInt_i, onTup_t, on1_1, on2_2, onQ_l, onQ_t, onQ_s, onL_l, onLs_l, onLs_s, onD_d, onOpt_s, gII, gB, gAdd_i, gAdd_s, gAdd_t, gAdd_l, gMul_i, gMul_l, gMul_t, gSub, gMod, gDiv, gPow, gNeg, gIx_l, gIx_t, gIx_s, gLen_l, gLen_t, gLen_s, gLen_d, iterD_t, iterD_l, iterD_s,
  kind_i, kind_b, kind_s, kind_n, kind_t, kind_l, gIsN, isNon, gTuple, gList, gAll, gAny, gSum, gMin, gMax, gMin2, gMax2, gAbs, gInt, gSorted,
  List.getElem?_cons_zero, List.getElem?_cons_succ, List.getElem?_nil, List.set_cons_zero, List.set_cons_succ, List.cons_append, List.nil_append, List.append_nil, wipeE, List.any_cons, List.any_nil, isK, Bool.or_false, Bool.false_or, Bool.or_true, Bool.true_or, Bool.not_true, Bool.not_false, if_true, if_false, Bool.false_eq_true, true_and, and_true, decide_eq_true_eq, id, reduceCtorEq, gEq_i, gNe_i, gEq_b, gNe_b, gEq_li, gNe_li, gEq_l0, gNe_l0, gEq_00, gNe_00, gEq_ti, gNe_ti, mEnum, Nat.zero_add, Nat.reduceAdd, Int.reduceEq, Int.cast_ofNat_Int, Nat.zero_le, sz1, sz2, sz3, sz4, sz5, sz6, decide_true, decide_false, kx, ky, seq_len rx, seq_len ry, beq_self_eq_true] <;> exact ⟨⟨by omega, by have := big62; omega⟩, fin⟩
  have sqL : ∀ xs, res h x = .lst xs → t_law_alike a n (bodyN Kn Kx) [some x, some y, none, none] h := by
    intro xs e
    have n0 : 0 < n := by
      cases n with
      | zero => rw [e] at pl; cases pl
      | succ _ => omega
    obtain ⟨m, rfl⟩ : ∃ m, n = m + 1 := ⟨n - 1, by omega⟩
    rw [e] at pl
    simp only [alD, Bool.and_eq_true, decide_eq_true_eq] at pl
    exact sq xs .lst (.inl rfl) (seq_kindL e) (seq_kindL (exy ▸ e)) (.inl e) (.inl (exy ▸ e)) pl.2 n0 pl.1
  cases x with
  | ref p =>
    cases q : h p with
    | none =>
      rw [show res h (.ref p) = (match h p with
          | some (.lst xs) => D.lst xs
          | _ => .ref p) from rfl, q] at pl
      cases n <;> cases pl
    | some m =>
      cases m with
      | lst ys => exact sqL ys (res_r q)
      | dct ys =>
        rw [show res h (.ref p) = (match h p with
          | some (.lst xs) => D.lst xs
          | _ => .ref p) from rfl, q] at pl
        cases n <;> cases pl
      | ins C ys =>
        rw [show res h (.ref p) = (match h p with
          | some (.lst xs) => D.lst xs
          | _ => .ref p) from rfl, q] at pl
        cases n <;> cases pl
  | lst xs => exact sqL xs rfl
  | tup xs =>
    have n0 : 0 < n := by
      cases n with
      | zero => cases pl
      | succ _ => omega
    obtain ⟨m, rfl⟩ : ∃ m, n = m + 1 := ⟨n - 1, by omega⟩
    rw [res_t] at pl
    simp only [alD, Bool.and_eq_true, decide_eq_true_eq] at pl
    obtain rfl := seq_tup (h := h) (x := y) (xs := xs) exy.symm
    exact sq xs .tup (.inr rfl) rfl rfl (.inr rfl) (.inr rfl) pl.2 n0 pl.1
  | dct _ => cases n <;> cases pl
  | scr _ => cases n <;> cases pl
  | lam _ _ => cases n <;> cases pl
  | non =>
    obtain rfl := res_flat (h := h) (y := y) (.inl rfl) exy
    unfold t_law_alike
    simp only [sSeq, sSet, sSkip, sForget, sFor, sIf, sRet, sRetN, sDrop, sSetI, sAsg, sPar, sFldM, sAug, frzV, valE, mVar, mC, mOp, mUn, mCall, mFun, mMeth, mMake, mFld, mTst, mNotT, mNotV, mAndV, mOrV, mAndT, mOrT, mIte, mNil, mCons, mTup, mLst, mChain, mIter_ap, mIsi_ap, mRng1, mRng2, mLc, mYes, mCell, mRel, mSl, oNo, oSome,
  gN, gT, gsCons, gsNil, frz_d, frz_l, frz_k, gIx_p, onSet_p, onQ_p, onL_p, gLen_p, onIns_p, put_put, atD_0, atD_1, atD_2, atD_3, atD_4, ixN_0, ixN_1, ixN_2, ixN_3, ixN_4, List.length_cons, List.length_nil, onBl_b, onInt_i, onTup_t, on1_1, on2_2, onQ_l, onQ_t, onQ_s, onL_l, onLs_l, onLs_s, onD_d, onOpt_s, gII, gB, gAdd_i, gAdd_s, gAdd_t, gAdd_l, gMul_i, gMul_l, gMul_t, gSub, gMod, gDiv, gPow, gNeg, gIx_l, gIx_t, gIx_s, gLen_l, gLen_t, gLen_s, gLen_d, iterD_t, iterD_l, iterD_s,
  kind_i, kind_b, kind_s, kind_n, kind_t, kind_l, gIsN, isNon, gTuple, gList, gAll, gAny, gSum, gMin, gMax, gMin2, gMax2, gAbs, gInt, gSorted,
  List.getElem?_cons_zero, List.getElem?_cons_succ, List.getElem?_nil, List.set_cons_zero, List.set_cons_succ, List.cons_append, List.nil_append, List.append_nil, wipeE, List.any_cons, List.any_nil, isK, Bool.or_false, Bool.false_or, Bool.or_true, Bool.true_or, Bool.not_true, Bool.not_false, if_true, if_false, Bool.false_eq_true, true_and, and_true, decide_eq_true_eq, id, reduceCtorEq, gEq_i, gNe_i, gEq_b, gNe_b, gEq_li, gNe_li, gEq_l0, gNe_l0, gEq_00, gNe_00, gEq_ti, gNe_ti, mEnum, Nat.zero_add, Nat.reduceAdd, Int.reduceEq, Int.cast_ofNat_Int, Nat.zero_le, sz1, sz2, sz3, sz4, sz5, sz6, decide_true, decide_false]
    exact kk _ rfl
  | bl b =>
    obtain rfl := res_flat (h := h) (y := y) (.inr (.inl ⟨_, rfl⟩)) exy
    unfold t_law_alike
    simp only [sSeq, sSet, sSkip, sForget, sFor, sIf, sRet, sRetN, sDrop, sSetI, sAsg, sPar, sFldM, sAug, frzV, valE, mVar, mC, mOp, mUn, mCall, mFun, mMeth, mMake, mFld, mTst, mNotT, mNotV, mAndV, mOrV, mAndT, mOrT, mIte, mNil, mCons, mTup, mLst, mChain, mIter_ap, mIsi_ap, mRng1, mRng2, mLc, mYes, mCell, mRel, mSl, oNo, oSome,
  gN, gT, gsCons, gsNil, frz_d, frz_l, frz_k, gIx_p, onSet_p, onQ_p, onL_p, gLen_p, onIns_p, put_put, atD_0, atD_1, atD_2, atD_3, atD_4, ixN_0, ixN_1, ixN_2, ixN_3, ixN_4, List.length_cons, List.length_nil, onBl_b, onInt_i, onTup_t, on1_1, on2_2, onQ_l, onQ_t, onQ_s, onL_l, onLs_l, onLs_s, onD_d, onOpt_s, gII, gB, gAdd_i, gAdd_s, gAdd_t, gAdd_l, gMul_i, gMul_l, gMul_t, gSub, gMod, gDiv, gPow, gNeg, gIx_l, gIx_t, gIx_s, gLen_l, gLen_t, gLen_s, gLen_d, iterD_t, iterD_l, iterD_s,
  kind_i, kind_b, kind_s, kind_n, kind_t, kind_l, gIsN, isNon, gTuple, gList, gAll, gAny, gSum, gMin, gMax, gMin2, gMax2, gAbs, gInt, gSorted,
  List.getElem?_cons_zero, List.getElem?_cons_succ, List.getElem?_nil, List.set_cons_zero, List.set_cons_succ, List.cons_append, List.nil_append, List.append_nil, wipeE, List.any_cons, List.any_nil, isK, Bool.or_false, Bool.false_or, Bool.or_true, Bool.true_or, Bool.not_true, Bool.not_false, if_true, if_false, Bool.false_eq_true, true_and, and_true, decide_eq_true_eq, id, reduceCtorEq, gEq_i, gNe_i, gEq_b, gNe_b, gEq_li, gNe_li, gEq_l0, gNe_l0, gEq_00, gNe_00, gEq_ti, gNe_ti, mEnum, Nat.zero_add, Nat.reduceAdd, Int.reduceEq, Int.cast_ofNat_Int, Nat.zero_le, sz1, sz2, sz3, sz4, sz5, sz6, decide_true, decide_false, beq_self_eq_true]
    exact kk _ rfl
  | int i =>
    obtain rfl := res_flat (h := h) (y := y) (.inr (.inr (.inl ⟨_, rfl⟩))) exy
    unfold t_law_alike
    simp only [sSeq, sSet, sSkip, sForget, sFor, sIf, sRet, sRetN, sDrop, sSetI, sAsg, sPar, sFldM, sAug, frzV, valE, mVar, mC, mOp, mUn, mCall, mFun, mMeth, mMake, mFld, mTst, mNotT, mNotV, mAndV, mOrV, mAndT, mOrT, mIte, mNil, mCons, mTup, mLst, mChain, mIter_ap, mIsi_ap, mRng1, mRng2, mLc, mYes, mCell, mRel, mSl, oNo, oSome,
  gN, gT, gsCons, gsNil, frz_d, frz_l, frz_k, gIx_p, onSet_p, onQ_p, onL_p, gLen_p, onIns_p, put_put, atD_0, atD_1, atD_2, atD_3, atD_4, ixN_0, ixN_1, ixN_2, ixN_3, ixN_4, List.length_cons, List.length_nil, onBl_b, onInt_i, onTup_t, on1_1, on2_2, onQ_l, onQ_t, onQ_s, onL_l, onLs_l, onLs_s, onD_d, onOpt_s, gII, gB, gAdd_i, gAdd_s, gAdd_t, gAdd_l, gMul_i, gMul_l, gMul_t, gSub, gMod, gDiv, gPow, gNeg, gIx_l, gIx_t, gIx_s, gLen_l, gLen_t, gLen_s, gLen_d, iterD_t, iterD_l, iterD_s,
  kind_i, kind_b, kind_s, kind_n, kind_t, kind_l, gIsN, isNon, gTuple, gList, gAll, gAny, gSum, gMin, gMax, gMin2, gMax2, gAbs, gInt, gSorted,
  List.getElem?_cons_zero, List.getElem?_cons_succ, List.getElem?_nil, List.set_cons_zero, List.set_cons_succ, List.cons_append, List.nil_append, List.append_nil, wipeE, List.any_cons, List.any_nil, isK, Bool.or_false, Bool.false_or, Bool.or_true, Bool.true_or, Bool.not_true, Bool.not_false, if_true, if_false, Bool.false_eq_true, true_and, and_true, decide_eq_true_eq, id, reduceCtorEq, gEq_i, gNe_i, gEq_b, gNe_b, gEq_li, gNe_li, gEq_l0, gNe_l0, gEq_00, gNe_00, gEq_ti, gNe_ti, mEnum, Nat.zero_add, Nat.reduceAdd, Int.reduceEq, Int.cast_ofNat_Int, Nat.zero_le, sz1, sz2, sz3, sz4, sz5, sz6, decide_true, decide_false, beq_self_eq_true]
    exact kk _ rfl
  | str i =>
    have ok : eqOk (res h (.str i)) := ⟨n, by omega, al_pl pl⟩
    have er : eqD (res h (.str i)) (res h (.str i)) = true := eqD_refl (al_pl pl)
    obtain rfl := res_flat (h := h) (y := y) (.inr (.inr (.inr ⟨_, rfl⟩))) exy
    unfold t_law_alike
    simp only [sSeq, sSet, sSkip, sForget, sFor, sIf, sRet, sRetN, sDrop, sSetI, sAsg, sPar, sFldM, sAug, frzV, valE, mVar, mC, mOp, mUn, mCall, mFun, mMeth, mMake, mFld, mTst, mNotT, mNotV, mAndV, mOrV, mAndT, mOrT, mIte, mNil, mCons, mTup, mLst, mChain, mIter_ap, mIsi_ap, mRng1, mRng2, mLc, mYes, mCell, mRel, mSl, oNo, oSome,
  gN, gT, gsCons, gsNil, frz_d, frz_l, frz_k, gIx_p, onSet_p, onQ_p, onL_p, gLen_p, onIns_p, put_put, atD_0, atD_1, atD_2, atD_3, atD_4, ixN_0, ixN_1, ixN_2, ixN_3, ixN_4, List.length_cons, List.length_nil, onBl_b, onInt_i, onTup_t, on1_1, on2_2, onQ_l, onQ_t, onQ_s, onL_l, onLs_l, onLs_s, onD_d, onOpt_s, gII, gB, gAdd_i, gAdd_s, gAdd_t, gAdd_l, gMul_i, gMul_l, gMul_t, gSub, gMod, gDiv, gPow, gNeg, gIx_l, gIx_t, gIx_s, gLen_l, gLen_t, gLen_s, gLen_d, iterD_t, iterD_l, iterD_s,
  kind_i, kind_b, kind_s, kind_n, kind_t, kind_l, gIsN, isNon, gTuple, gList, gAll, gAny, gSum, gMin, gMax, gMin2, gMax2, gAbs, gInt, gSorted,
  List.getElem?_cons_zero, List.getElem?_cons_succ, List.getElem?_nil, List.set_cons_zero, List.set_cons_succ, List.cons_append, List.nil_append, List.append_nil, wipeE, List.any_cons, List.any_nil, isK, Bool.or_false, Bool.false_or, Bool.or_true, Bool.true_or, Bool.not_true, Bool.not_false, if_true, if_false, Bool.false_eq_true, true_and, and_true, decide_eq_true_eq, id, reduceCtorEq, gEq_i, gNe_i, gEq_b, gNe_b, gEq_li, gNe_li, gEq_l0, gNe_l0, gEq_00, gNe_00, gEq_ti, gNe_ti, mEnum, Nat.zero_add, Nat.reduceAdd, Int.reduceEq, Int.cast_ofNat_Int, Nat.zero_le, sz1, sz2, sz3, sz4, sz5, sz6, decide_true, decide_false, gEq_ok ok ok, er, beq_self_eq_true]
    exact kk _ rfl
end M3
set_option Elab.async false
set_option linter.all false
set_option maxRecDepth 100000
set_option maxHeartbeats 4000000
namespace M3
open PySem PySem.Spec PyProof.Rows L2
/-! ### zip over lists and tuples, whichever stands where -/
def SqA (K : PySem.W.Frag) (tu : Bool) (H : Hp) (a : Addr) (xs : List V) : Prop := match tu with
  | true => SqT K H a xs
  | false => SqL K H a xs
def IsItA (h : Heap) (tu : Bool) (it a : Addr) (i : Nat) : Prop := match tu with
  | true => h.IsTupleIter it a i
  | false => h.IsListIter it a i
def IsA (h : Heap) (tu : Bool) (a : Addr) (its : Array Value) : Prop := match tu with
  | true => h.IsTuple a its
  | false => h.IsList a its
def itObj (tu : Bool) (a : Addr) : Obj := match tu with
  | true => { cls := .type "tuple_iterator", data := .fields #[.ref a, .int 0 0] }
  | false => { cls := .type "list_iterator", data := .fields #[.ref a, .int 0 0] }
theorem IsItA.obj {h : Heap} {tu : Bool} {it a : Addr} {i : Nat} (q : IsItA h tu it a i) : ∃ o fs, h.get? it = some o ∧ o.data = .fields fs := by
  cases tu with
  | true => obtain ⟨o, e, _, d⟩ := q; exact ⟨o, _, e, d⟩
  | false => obtain ⟨o, e, _, d⟩ := q; exact ⟨o, _, e, d⟩
theorem IsItA.at_ {h h' : Heap} {tu : Bool} {it a : Addr} {i : Nat} (q : IsItA h tu it a i) (k : ∀ o, h.get? it = some o → h'.get? it = some o) : IsItA h' tu it a i := by
  cases tu with
  | true => exact Heap.IsTupleIter.at q k
  | false => exact Heap.IsListIter.at q k
theorem IsA.lt {h : Heap} {tu : Bool} {a : Addr} {its : Array Value} (q : IsA h tu a its) : a < h.objs.size := by
  cases tu with
  | true => obtain ⟨_, e, _⟩ := q; exact Heap.lt_size e
  | false => obtain ⟨_, e, _⟩ := q; exact Heap.lt_size e
theorem isItA_new {h : Heap} {tu : Bool} {it a : Addr} (e : h.get? it = some (itObj tu a)) : IsItA h tu it a 0 := by
  cases tu with
  | true => exact ⟨_, e, rfl, rfl⟩
  | false => exact ⟨_, e, rfl, rfl⟩
theorem beginsA (tu : Bool) (a : Addr) (its : Array Value) : Begins (.ref a) (itObj tu a) fun h => IsA h tu a its := by
  cases tu with
  | true => exact begins_tuple a its
  | false => exact begins_list a its
theorem drawsA {prog : Program} {w : World} {A : Around} (hh : A.handled = none) (it a : Addr) (hne : a ≠ it) (its : Array Value) (tu : Bool) : Draws prog w A it [it, a] its.size (fun i v => its[i]? = some v) (fun i h => IsItA h tu it a i ∧ IsA h tu a its) := by
  cases tu with
  | true => exact Draws.tuple hh it a hne its
  | false => exact Draws.list hh it a hne its
section
variable {X : Cx} {pins : List (Addr × Obj)} {σ : L2.St} {H : Hp} {s : Shared} {tu : Bool} {a : Addr} {xs ys : List V}
theorem seqA_of (I : Inv X pins σ H s) (q : SqA X.K tu H a xs) : ∃ its, Vals xs its ∧ IsA s.heap tu a its.toArray := by
  cases tu with
  | true => obtain ⟨its, rv, p, _⟩ := I.tuple q; exact ⟨its, rv, p⟩
  | false => obtain ⟨its, rv, p, _⟩ := I.list q; exact ⟨its, rv, p.isList⟩
theorem seqA_inj (I : Inv X pins σ H s) (q : SqA X.K tu H a xs) (q' : SqA X.K tu H a ys) : xs = ys := by
  cases tu with
  | true => exact I.tuple_inj q q'
  | false => exact I.list_inj q q'
theorem lt_of_some {α : Type} {l : List α} {i : Nat} {u : α} (e : l[i]? = some u) : i < l.toArray.size := by
  rw [List.size_toArray]
  exact (List.getElem?_eq_some_iff.mp e).1
end
theorem nne {x y : Nat} (h : x < y ∨ y < x) : (x : Addr) ≠ y := fun e => by
  have e' : (x : Nat) = y := e
  omega
theorem nmem {x y z : Nat} (h1 : x < y ∨ y < x) (h2 : x < z ∨ z < x) : (x : Addr) ∉ ([y, z] : List Addr) := fun e => by
  rcases List.mem_cons.mp e with e | e
  · exact nne h1 e
  · rcases List.mem_cons.mp e with e | e
    · exact nne h2 e
    · cases e
def Itg2 (K : PySem.W.Frag) (t1 t2 : Bool) (a1 a2 : Addr) : It :=
  ⟨fun i H => ∃ (l1 l2 : List V) (x1 x2 : V), SqA K t1 H a1 l1 ∧ SqA K t2 H a2 l2 ∧ l1[i]? = some x1 ∧ l2[i]? = some x2,
    fun i H v H' => ∃ T x1 x2, v = .ref T ∧ H T = none ∧ H' = upd H T (.tup [x1, x2]) ∧ (∀ l, SqA K t1 H a1 l → l[i]? = some x1) ∧ (∀ l, SqA K t2 H a2 l → l[i]? = some x2),
    fun i H => ∃ (l1 l2 : List V), SqA K t1 H a1 l1 ∧ SqA K t2 H a2 l2 ∧ (i ≤ l1.length ∧ i ≤ l2.length) ∧ (i = l1.length ∨ i = l2.length)⟩
theorem turn_g2 {P : Program} {w : World} {K : PySem.W.Frag} {elts : List Expr} {kk : Nat} {tpos : Pos} {t1 t2 : Bool} {z TI TO i1 i2 a1 a2 : Addr} (S : ZipSep2 z TI TO i1 i2 [i1, a1] [i2, a2]) (n1 : a1 ≠ i1) (n2 : a2 ≠ i2) :
    Turn P w K (.Tuple elts kk tpos) (Itg2 K t1 t2 a1 a2) [z, TI, TO, i1, i2] z (fun i h => IsZip h z TI TO .none ∧ IsTupOf2 h TI (.ref i1) (.ref i2) ∧ (∃ y1 y2, IsTupOf2 h TO y1 y2) ∧ IsItA h t1 i1 a1 i ∧ IsItA h t2 i2 a2 i) where
  mem := by simp
  obj := fun i h st c hc => by
    obtain ⟨hz, hTI, ⟨y1, y2, hTO⟩, h1, h2⟩ := st
    have e' : c = z ∨ c = TI ∨ c = TO ∨ c = i1 ∨ c = i2 := by simpa using hc
    rcases e' with q | q | q | q | q
    · rw [q]; exact ⟨_, hz, fun v q => nomatch q⟩
    · rw [q]; exact ⟨_, hTI, fun v q => nomatch q⟩
    · rw [q]; exact ⟨_, hTO, fun v q => nomatch q⟩
    · rw [q]; obtain ⟨o, fs, e, d⟩ := h1.obj; exact ⟨o, e, fun v q => by rw [d] at q; cases q⟩
    · rw [q]; obtain ⟨o, fs, e, d⟩ := h2.obj; exact ⟨o, e, fun v q => by rw [d] at q; cases q⟩
  keep := fun i h h' st k => by
    obtain ⟨hz, hTI, ⟨y1, y2, hTO⟩, h1, h2⟩ := st
    exact ⟨k z (by simp) _ hz, k TI (by simp) _ hTI, ⟨y1, y2, k TO (by simp) _ hTO⟩, h1.at_ fun o q => k i1 (by simp) o q, h2.at_ fun o q => k i2 (by simp) o q⟩
  item := by
    intro X hP hw hK hc i pins s σ H E I hf st hg
    subst hP hw hK
    obtain ⟨hz, hTI, ⟨y1, y2, hTO⟩, h1, h2⟩ := st
    obtain ⟨l1, l2, x1, x2, q1, q2, e1, e2⟩ := hg
    obtain ⟨s1, r1, p1⟩ := seqA_of I q1
    obtain ⟨u1, f1, v1⟩ := r1.get e1
    obtain ⟨s2, r2, p2⟩ := seqA_of I q2
    obtain ⟨u2, f2, v2⟩ := r2.get e2
    have hzl : z < s.heap.objs.size := Heap.lt_size hz
    refine wpAny_pyNext_zipD2_item S (drawsA (A := X.A.in1) (I.ok.hd hc) i1 a1 n1 s1.toArray t1) (drawsA (A := X.A.in1) (I.ok.hd hc) i2 a2 n2 s2.toArray t2) hz hTI hTO ⟨h1, p1⟩ ⟨h2, p2⟩ (lt_of_some f1) (lt_of_some f2) fun w1 w2 h' tk g1 g2 z' TO' d1 d2 hT hsz hk => ?_
    have ee1 : w1 = u1 := by
      have k1 : s1[i]? = some w1 := by simpa using g1
      rw [f1] at k1
      exact (Option.some.inj k1).symm
    subst ee1
    have ee2 : w2 = u2 := by
      have k1 : s2[i]? = some w2 := by simpa using g2
      rw [f2] at k1
      exact (Option.some.inj k1).symm
    subst ee2
    refine ⟨_, rfl, wpAny_letOwnedTupleGo_zip (s := { s with heap := h', toks := tk }) z' fun h'' z'' sb => ?_⟩
    have hT2 : h''.get? s.heap.objs.size = some { cls := .type "tuple", data := .seq #[w1, w2] } := (sb.2 _ (Nat.ne_of_gt hzl)).trans hT
    have new : ObjOk X.prog X.w (upd H s.heap.objs.size (.tup [x1, x2])) h'' s.heap.objs.size (.tup [x1, x2]) :=
      ⟨by show 2 ≤ sizeLine; decide, [w1, w2], .cons v1 (.cons v2 .nil), ⟨_, hT2, rfl, _, rfl⟩⟩
    have I1 : Inv X pins σ (upd H s.heap.objs.size (.tup [x1, x2])) { s with heap := h'', toks := tk } :=
      I.turnedNew (t' := tk) (ch := [z, TI, TO, i1, i2]) (fun c o hb q => (sb.2 c (fun q' => hb (by simp [q']))).trans (hk c o (fun q' => hb (by simp [q'])) (fun q' => hb (by simp [q'])) (fun q' => hb (by simp [q'])) (fun q' => hb (by simp [q'])) q)) hf (Nat.le_refl _) new
    refine ⟨.ref s.heap.objs.size, _, I1, rfl, ⟨_, x1, x2, rfl, I.hok.fresh (Nat.le_refl _), rfl, fun l hl => by rw [seqA_inj I hl q1]; exact e1, fun l hl => by rw [seqA_inj I hl q2]; exact e2⟩, ⟨z'', ?_, ⟨w1, w2, ?_⟩, ?_, ?_⟩, fun c hcm => ?_⟩
    · exact (sb.2 _ S.TIz).trans (hk _ _ S.TIz S.TITO S.TIi1 S.TIi2 hTI)
    · exact (sb.2 _ S.TOz).trans TO'
    · exact d1.1.at_ fun o q => (sb.2 _ (Ne.symm S.zi1)).trans q
    · exact d2.1.at_ fun o q => (sb.2 _ (Ne.symm S.zi2)).trans q
    · have hlt : c < s.heap.objs.size := by
        have e' : c = z ∨ c = TI ∨ c = TO ∨ c = i1 ∨ c = i2 := by simpa using hcm
        rcases e' with q | q | q | q | q
        · rw [q]; exact hzl
        · rw [q]; exact Heap.lt_size hTI
        · rw [q]; exact Heap.lt_size hTO
        · rw [q]; obtain ⟨o, fs, e, d⟩ := h1.obj; exact Heap.lt_size e
        · rw [q]; obtain ⟨o, fs, e, d⟩ := h2.obj; exact Heap.lt_size e
      rw [upd_ne (Nat.ne_of_lt hlt)]
      exact (hf c hcm).1
  done := by
    intro X hP hw hK hc i pins s σ H E I hf st hg
    subst hP hw hK
    obtain ⟨hz, hTI, ⟨y1, y2, hTO⟩, h1, h2⟩ := st
    obtain ⟨l1, l2, q1, q2, ⟨b1, b2⟩, hend⟩ := hg
    obtain ⟨s1, r1, p1⟩ := seqA_of I q1
    have k1 := r1.length
    obtain ⟨s2, r2, p2⟩ := seqA_of I q2
    have k2 := r2.length
    exact wpAny_pyNext_zipD2_end S (drawsA (A := X.A.in1) (I.ok.hd hc) i1 a1 n1 s1.toArray t1) (drawsA (A := X.A.in1) (I.ok.hd hc) i2 a2 n2 s2.toArray t2) hz hTI hTO ⟨h1, p1⟩ ⟨h2, p2⟩ (by simp; omega) (by simp; omega) (by simp; omega) fun h' tk hk => ⟨rfl, I.turnedL (t' := tk) (ch := [z, TI, TO, i1, i2]) (fun c o hb q => hk c o (fun q' => hb (by simp [q'])) (fun q' => hb (by simp [q'])) (fun q' => hb (by simp [q'])) (fun q' => hb (by simp [q'])) q) hf⟩
  self := fun A i s Q E st h => wpAny_pyIter_zip st.1 h
def iZg2 (K : PySem.W.Frag) (ta : TA) : TI := fun σ H R => ta σ H fun vs H1 => ∃ (t1 t2 : Bool) (a1 a2 : Addr) (l1 l2 : List V), vs = [.ref a1, .ref a2] ∧ SqA K t1 H1 a1 l1 ∧ SqA K t2 H1 a2 l2 ∧ R (Itg2 K t1 t2 a1 a2) H1
theorem pi_zg2 {X : Cx} {e1 e2 : Expr} {ta : TA} {p pos tpos : Pos} {elts : List Expr} {kk : Nat} (hg : Gl X "zip") (hm : X.mg "zip" = none) (ha : PA X [e1, e2] ta)
    (hs : starEach [e1, e2] X.env = (false, eval e1 X.env) :: starEach [e2] X.env := by rfl) (hpl : (backTo pos (starEach [e2] X.env)).any (·.1) = false := by rfl) :
    PI X (.Tuple elts kk tpos) (.Call (.Name "zip" p) [e1, e2] [] pos) (iZg2 X.K ta) := by
  refine ⟨fun pins s σ H R I h => ?_⟩
  refine Call_ (ld_blt I hg hm PyProof.Rows.boot_zip (PyProof.Rows.callWith_type1 (thn (ha.run pos pins s σ H _ I h) fun us sh ⟨vs, HH, II, rv, qq⟩ => ?_) hs hpl))
  obtain ⟨t1, t2, a1, a2, l1, l2, ex, q1, q2, q⟩ := qq
  subst ex
  obtain ⟨s1, r1, p1⟩ := seqA_of II q1
  have z1 : @LT.lt Nat _ a1 sh.heap.objs.size := p1.lt
  obtain ⟨s2, r2, p2⟩ := seqA_of II q2
  have z2 : @LT.lt Nat _ a2 sh.heap.objs.size := p2.lt
  cases rv with
  | cons w1 rv =>
    cases rv with
    | cons w2 rv =>
      cases rv
      cases w1
      cases w2
      refine zip_begins2 (beginsA t1 a1 s1.toArray) (beginsA t2 a2 s2.toArray) p1 p2 fun h' hz hTI hTO g1 g2 hsz hk => wpAny_pyIter_zip hz ?_
      have I2 : Inv X pins σ HH { sh with heap := h' } := II.kept (t' := sh.toks) hk
      refine ⟨sh.heap.objs.size + 4, [sh.heap.objs.size + 4, sh.heap.objs.size + 2, sh.heap.objs.size + 3, sh.heap.objs.size, sh.heap.objs.size + 1], _, _, HH, rfl, I2, turn_g2 (S := ?_) (nne (by omega)) (nne (by omega)), ⟨hz, hTI, ⟨_, _, hTO⟩, isItA_new g1, isItA_new g2⟩, fun c hcm => ?_, q⟩
      · exact ⟨nne (by omega), nne (by omega), nne (by omega), nne (by omega), List.mem_cons_self, nmem (by omega) (by omega), nmem (by omega) (by omega), nne (by omega), List.mem_cons_self, nmem (by omega) (by omega), nmem (by omega) (by omega), nmem (by omega) (by omega), nmem (by omega) (by omega)⟩
      · have e' : c = sh.heap.objs.size + 4 ∨ c = sh.heap.objs.size + 2 ∨ c = sh.heap.objs.size + 3 ∨ c = sh.heap.objs.size ∨ c = sh.heap.objs.size + 1 := by simpa using hcm
        have hle : sh.heap.objs.size ≤ c := by
          rcases e' with z | z | z | z | z <;> rw [z] <;> first | exact Nat.le_refl _ | exact Nat.le_add_right _ _
        exact II.fpOk hle (II.hok.fresh hle)
def Itg3 (K : PySem.W.Frag) (t1 t2 t3 : Bool) (a1 a2 a3 : Addr) : It :=
  ⟨fun i H => ∃ (l1 l2 l3 : List V) (x1 x2 x3 : V), SqA K t1 H a1 l1 ∧ SqA K t2 H a2 l2 ∧ SqA K t3 H a3 l3 ∧ l1[i]? = some x1 ∧ l2[i]? = some x2 ∧ l3[i]? = some x3,
    fun i H v H' => ∃ T x1 x2 x3, v = .ref T ∧ H T = none ∧ H' = upd H T (.tup [x1, x2, x3]) ∧ (∀ l, SqA K t1 H a1 l → l[i]? = some x1) ∧ (∀ l, SqA K t2 H a2 l → l[i]? = some x2) ∧ (∀ l, SqA K t3 H a3 l → l[i]? = some x3),
    fun i H => ∃ (l1 l2 l3 : List V), SqA K t1 H a1 l1 ∧ SqA K t2 H a2 l2 ∧ SqA K t3 H a3 l3 ∧ (i ≤ l1.length ∧ i ≤ l2.length ∧ i ≤ l3.length) ∧ (i = l1.length ∨ i = l2.length ∨ i = l3.length)⟩
theorem turn_g3 {P : Program} {w : World} {K : PySem.W.Frag} {elts : List Expr} {kk : Nat} {tpos : Pos} {t1 t2 t3 : Bool} {z TI TO i1 i2 i3 a1 a2 a3 : Addr} (S : ZipSep3 z TI TO i1 i2 i3 [i1, a1] [i2, a2] [i3, a3]) (n1 : a1 ≠ i1) (n2 : a2 ≠ i2) (n3 : a3 ≠ i3) :
    Turn P w K (.Tuple elts kk tpos) (Itg3 K t1 t2 t3 a1 a2 a3) [z, TI, TO, i1, i2, i3] z (fun i h => IsZip h z TI TO .none ∧ IsTupOf3 h TI (.ref i1) (.ref i2) (.ref i3) ∧ (∃ y1 y2 y3, IsTupOf3 h TO y1 y2 y3) ∧ IsItA h t1 i1 a1 i ∧ IsItA h t2 i2 a2 i ∧ IsItA h t3 i3 a3 i) where
  mem := by simp
  obj := fun i h st c hc => by
    obtain ⟨hz, hTI, ⟨y1, y2, y3, hTO⟩, h1, h2, h3⟩ := st
    have e' : c = z ∨ c = TI ∨ c = TO ∨ c = i1 ∨ c = i2 ∨ c = i3 := by simpa using hc
    rcases e' with q | q | q | q | q | q
    · rw [q]; exact ⟨_, hz, fun v q => nomatch q⟩
    · rw [q]; exact ⟨_, hTI, fun v q => nomatch q⟩
    · rw [q]; exact ⟨_, hTO, fun v q => nomatch q⟩
    · rw [q]; obtain ⟨o, fs, e, d⟩ := h1.obj; exact ⟨o, e, fun v q => by rw [d] at q; cases q⟩
    · rw [q]; obtain ⟨o, fs, e, d⟩ := h2.obj; exact ⟨o, e, fun v q => by rw [d] at q; cases q⟩
    · rw [q]; obtain ⟨o, fs, e, d⟩ := h3.obj; exact ⟨o, e, fun v q => by rw [d] at q; cases q⟩
  keep := fun i h h' st k => by
    obtain ⟨hz, hTI, ⟨y1, y2, y3, hTO⟩, h1, h2, h3⟩ := st
    exact ⟨k z (by simp) _ hz, k TI (by simp) _ hTI, ⟨y1, y2, y3, k TO (by simp) _ hTO⟩, h1.at_ fun o q => k i1 (by simp) o q, h2.at_ fun o q => k i2 (by simp) o q, h3.at_ fun o q => k i3 (by simp) o q⟩
  item := by
    intro X hP hw hK hc i pins s σ H E I hf st hg
    subst hP hw hK
    obtain ⟨hz, hTI, ⟨y1, y2, y3, hTO⟩, h1, h2, h3⟩ := st
    obtain ⟨l1, l2, l3, x1, x2, x3, q1, q2, q3, e1, e2, e3⟩ := hg
    obtain ⟨s1, r1, p1⟩ := seqA_of I q1
    obtain ⟨u1, f1, v1⟩ := r1.get e1
    obtain ⟨s2, r2, p2⟩ := seqA_of I q2
    obtain ⟨u2, f2, v2⟩ := r2.get e2
    obtain ⟨s3, r3, p3⟩ := seqA_of I q3
    obtain ⟨u3, f3, v3⟩ := r3.get e3
    have hzl : z < s.heap.objs.size := Heap.lt_size hz
    refine wpAny_pyNext_zipD3_item S (drawsA (A := X.A.in1) (I.ok.hd hc) i1 a1 n1 s1.toArray t1) (drawsA (A := X.A.in1) (I.ok.hd hc) i2 a2 n2 s2.toArray t2) (drawsA (A := X.A.in1) (I.ok.hd hc) i3 a3 n3 s3.toArray t3) hz hTI hTO ⟨h1, p1⟩ ⟨h2, p2⟩ ⟨h3, p3⟩ (lt_of_some f1) (lt_of_some f2) (lt_of_some f3) fun w1 w2 w3 h' tk g1 g2 g3 z' TO' d1 d2 d3 hT hsz hk => ?_
    have ee1 : w1 = u1 := by
      have k1 : s1[i]? = some w1 := by simpa using g1
      rw [f1] at k1
      exact (Option.some.inj k1).symm
    subst ee1
    have ee2 : w2 = u2 := by
      have k1 : s2[i]? = some w2 := by simpa using g2
      rw [f2] at k1
      exact (Option.some.inj k1).symm
    subst ee2
    have ee3 : w3 = u3 := by
      have k1 : s3[i]? = some w3 := by simpa using g3
      rw [f3] at k1
      exact (Option.some.inj k1).symm
    subst ee3
    refine ⟨_, rfl, wpAny_letOwnedTupleGo_zip (s := { s with heap := h', toks := tk }) z' fun h'' z'' sb => ?_⟩
    have hT2 : h''.get? s.heap.objs.size = some { cls := .type "tuple", data := .seq #[w1, w2, w3] } := (sb.2 _ (Nat.ne_of_gt hzl)).trans hT
    have new : ObjOk X.prog X.w (upd H s.heap.objs.size (.tup [x1, x2, x3])) h'' s.heap.objs.size (.tup [x1, x2, x3]) :=
      ⟨by show 3 ≤ sizeLine; decide, [w1, w2, w3], .cons v1 (.cons v2 (.cons v3 .nil)), ⟨_, hT2, rfl, _, rfl⟩⟩
    have I1 : Inv X pins σ (upd H s.heap.objs.size (.tup [x1, x2, x3])) { s with heap := h'', toks := tk } :=
      I.turnedNew (t' := tk) (ch := [z, TI, TO, i1, i2, i3]) (fun c o hb q => (sb.2 c (fun q' => hb (by simp [q']))).trans (hk c o (fun q' => hb (by simp [q'])) (fun q' => hb (by simp [q'])) (fun q' => hb (by simp [q'])) (fun q' => hb (by simp [q'])) (fun q' => hb (by simp [q'])) q)) hf (Nat.le_refl _) new
    refine ⟨.ref s.heap.objs.size, _, I1, rfl, ⟨_, x1, x2, x3, rfl, I.hok.fresh (Nat.le_refl _), rfl, fun l hl => by rw [seqA_inj I hl q1]; exact e1, fun l hl => by rw [seqA_inj I hl q2]; exact e2, fun l hl => by rw [seqA_inj I hl q3]; exact e3⟩, ⟨z'', ?_, ⟨w1, w2, w3, ?_⟩, ?_, ?_, ?_⟩, fun c hcm => ?_⟩
    · exact (sb.2 _ S.TIz).trans (hk _ _ S.TIz S.TITO S.TIi1 S.TIi2 S.TIi3 hTI)
    · exact (sb.2 _ S.TOz).trans TO'
    · exact d1.1.at_ fun o q => (sb.2 _ (Ne.symm S.zi1)).trans q
    · exact d2.1.at_ fun o q => (sb.2 _ (Ne.symm S.zi2)).trans q
    · exact d3.1.at_ fun o q => (sb.2 _ (Ne.symm S.zi3)).trans q
    · have hlt : c < s.heap.objs.size := by
        have e' : c = z ∨ c = TI ∨ c = TO ∨ c = i1 ∨ c = i2 ∨ c = i3 := by simpa using hcm
        rcases e' with q | q | q | q | q | q
        · rw [q]; exact hzl
        · rw [q]; exact Heap.lt_size hTI
        · rw [q]; exact Heap.lt_size hTO
        · rw [q]; obtain ⟨o, fs, e, d⟩ := h1.obj; exact Heap.lt_size e
        · rw [q]; obtain ⟨o, fs, e, d⟩ := h2.obj; exact Heap.lt_size e
        · rw [q]; obtain ⟨o, fs, e, d⟩ := h3.obj; exact Heap.lt_size e
      rw [upd_ne (Nat.ne_of_lt hlt)]
      exact (hf c hcm).1
  done := by
    intro X hP hw hK hc i pins s σ H E I hf st hg
    subst hP hw hK
    obtain ⟨hz, hTI, ⟨y1, y2, y3, hTO⟩, h1, h2, h3⟩ := st
    obtain ⟨l1, l2, l3, q1, q2, q3, ⟨b1, b2, b3⟩, hend⟩ := hg
    obtain ⟨s1, r1, p1⟩ := seqA_of I q1
    have k1 := r1.length
    obtain ⟨s2, r2, p2⟩ := seqA_of I q2
    have k2 := r2.length
    obtain ⟨s3, r3, p3⟩ := seqA_of I q3
    have k3 := r3.length
    exact wpAny_pyNext_zipD3_end S (drawsA (A := X.A.in1) (I.ok.hd hc) i1 a1 n1 s1.toArray t1) (drawsA (A := X.A.in1) (I.ok.hd hc) i2 a2 n2 s2.toArray t2) (drawsA (A := X.A.in1) (I.ok.hd hc) i3 a3 n3 s3.toArray t3) hz hTI hTO ⟨h1, p1⟩ ⟨h2, p2⟩ ⟨h3, p3⟩ (by simp; omega) (by simp; omega) (by simp; omega) (by simp; omega) fun h' tk hk => ⟨rfl, I.turnedL (t' := tk) (ch := [z, TI, TO, i1, i2, i3]) (fun c o hb q => hk c o (fun q' => hb (by simp [q'])) (fun q' => hb (by simp [q'])) (fun q' => hb (by simp [q'])) (fun q' => hb (by simp [q'])) (fun q' => hb (by simp [q'])) q) hf⟩
  self := fun A i s Q E st h => wpAny_pyIter_zip st.1 h
def iZg3 (K : PySem.W.Frag) (ta : TA) : TI := fun σ H R => ta σ H fun vs H1 => ∃ (t1 t2 t3 : Bool) (a1 a2 a3 : Addr) (l1 l2 l3 : List V), vs = [.ref a1, .ref a2, .ref a3] ∧ SqA K t1 H1 a1 l1 ∧ SqA K t2 H1 a2 l2 ∧ SqA K t3 H1 a3 l3 ∧ R (Itg3 K t1 t2 t3 a1 a2 a3) H1
theorem pi_zg3 {X : Cx} {e1 e2 e3 : Expr} {ta : TA} {p pos tpos : Pos} {elts : List Expr} {kk : Nat} (hg : Gl X "zip") (hm : X.mg "zip" = none) (ha : PA X [e1, e2, e3] ta)
    (hs : starEach [e1, e2, e3] X.env = (false, eval e1 X.env) :: starEach [e2, e3] X.env := by rfl) (hpl : (backTo pos (starEach [e2, e3] X.env)).any (·.1) = false := by rfl) :
    PI X (.Tuple elts kk tpos) (.Call (.Name "zip" p) [e1, e2, e3] [] pos) (iZg3 X.K ta) := by
  refine ⟨fun pins s σ H R I h => ?_⟩
  refine Call_ (ld_blt I hg hm PyProof.Rows.boot_zip (PyProof.Rows.callWith_type1 (thn (ha.run pos pins s σ H _ I h) fun us sh ⟨vs, HH, II, rv, qq⟩ => ?_) hs hpl))
  obtain ⟨t1, t2, t3, a1, a2, a3, l1, l2, l3, ex, q1, q2, q3, q⟩ := qq
  subst ex
  obtain ⟨s1, r1, p1⟩ := seqA_of II q1
  have z1 : @LT.lt Nat _ a1 sh.heap.objs.size := p1.lt
  obtain ⟨s2, r2, p2⟩ := seqA_of II q2
  have z2 : @LT.lt Nat _ a2 sh.heap.objs.size := p2.lt
  obtain ⟨s3, r3, p3⟩ := seqA_of II q3
  have z3 : @LT.lt Nat _ a3 sh.heap.objs.size := p3.lt
  cases rv with
  | cons w1 rv =>
    cases rv with
    | cons w2 rv =>
      cases rv with
      | cons w3 rv =>
        cases rv
        cases w1
        cases w2
        cases w3
        refine zip_begins3 (beginsA t1 a1 s1.toArray) (beginsA t2 a2 s2.toArray) (beginsA t3 a3 s3.toArray) p1 p2 p3 fun h' hz hTI hTO g1 g2 g3 hsz hk => wpAny_pyIter_zip hz ?_
        have I2 : Inv X pins σ HH { sh with heap := h' } := II.kept (t' := sh.toks) hk
        refine ⟨sh.heap.objs.size + 5, [sh.heap.objs.size + 5, sh.heap.objs.size + 3, sh.heap.objs.size + 4, sh.heap.objs.size, sh.heap.objs.size + 1, sh.heap.objs.size + 2], _, _, HH, rfl, I2, turn_g3 (S := ?_) (nne (by omega)) (nne (by omega)) (nne (by omega)), ⟨hz, hTI, ⟨_, _, _, hTO⟩, isItA_new g1, isItA_new g2, isItA_new g3⟩, fun c hcm => ?_, q⟩
        · exact ⟨nne (by omega), nne (by omega), nne (by omega), nne (by omega), List.mem_cons_self, nmem (by omega) (by omega), nmem (by omega) (by omega), nne (by omega), List.mem_cons_self, nmem (by omega) (by omega), nmem (by omega) (by omega), nne (by omega), List.mem_cons_self, nmem (by omega) (by omega), nmem (by omega) (by omega), nmem (by omega) (by omega), nmem (by omega) (by omega), nmem (by omega) (by omega), nmem (by omega) (by omega), nmem (by omega) (by omega), nmem (by omega) (by omega)⟩
        · have e' : c = sh.heap.objs.size + 5 ∨ c = sh.heap.objs.size + 3 ∨ c = sh.heap.objs.size + 4 ∨ c = sh.heap.objs.size ∨ c = sh.heap.objs.size + 1 ∨ c = sh.heap.objs.size + 2 := by simpa using hcm
          have hle : sh.heap.objs.size ≤ c := by
            rcases e' with z | z | z | z | z | z <;> rw [z] <;> first | exact Nat.le_refl _ | exact Nat.le_add_right _ _
          exact II.fpOk hle (II.hok.fresh hle)
end M3
set_option Elab.async false
set_option linter.all false
set_option maxRecDepth 100000
set_option maxHeartbeats 4000000
namespace M3
open PySem PySem.Spec PyProof.Rows L2
/-- a walked thing, laid aside while it is walked -/
structure Aside (K : Kf) (B F : Hp) (tu : Bool) (a : Addr) (vs : List V) (B1 : Hp) (back : MH → MH) : Prop where
  sub : ∀ b o, B b = some o → B1 b = some o
  stays : ∀ B2 F2 E2 h2 σ2 H2, (∀ b o, B1 b = some o → B2 b = some o) → Le F F2 → Rel K B2 F2 E2 h2 σ2 H2 → SqA K tu H2 a vs
  bak : ∀ F2 E2 h2 σ2 H2, Le F F2 → Rel K B1 F2 E2 h2 σ2 H2 → Rel K B F2 E2 (back h2) σ2 H2
  vl : ∀ F2 h2 H2 r v, Le F F2 → RvOk K B1 F2 h2 H2 r v → RvOk K B F2 (back h2) H2 r v
theorem aside_of {K : Kf} {B F : Hp} {E : En} {h : MH} {σ : L2.St} {H : Hp} {d : D} {v : V} {k : List D → MH → (MH → MH) → Prop} (R : Rel K B F E h σ H) (rp : Rep K F d v) (q : iterD h d k) :
    ∃ a tu xs vs B1 h1 back, v = .ref a ∧ Reps K F xs vs ∧ k xs h1 back ∧ Rel K B1 F E h1 σ H ∧ Aside K B F tu a vs B1 back ∧ SqA K tu H a vs := by
  cases rp with
  | @tup a vs ds q' rs => exact ⟨a, true, ds, vs, B, h, id, rfl, rs, q, R, ⟨fun _ _ e => e, fun _ F2 _ _ _ _ _ l2 R2 => R2.sqT (l2.sqT q'), fun _ _ _ _ _ _ R => R, fun _ _ _ _ _ _ q => q⟩, R.sqT q'⟩
  | @lst a vs ds q' rs => exact ⟨a, false, ds, vs, B, h, id, rfl, rs, q, R, ⟨fun _ _ e => e, fun _ F2 _ _ _ _ _ l2 R2 => .of (R2.frz _ _ (l2.ls _ _ q')).1, fun _ _ _ _ _ _ R => R, fun _ _ _ _ _ _ q => q⟩, .of (R.frz _ _ q').1⟩
  | @scr a ns q' => exact ⟨a, false, ns.map D.int, _, B, h, id, rfl, Reps.ints ns, q, R, ⟨fun _ _ e => e, fun _ F2 _ _ _ _ _ l2 R2 => R2.sqL (l2.sqL q'), fun _ _ _ _ _ _ R => R, fun _ _ _ _ _ _ q => q⟩, R.sqL q'⟩
  | ref a =>
    have q : (match h a with
      | some (.lst xs) => k xs (del h a) (fun h2 => put h2 a (.lst xs))
      | _ => False) := q
    cases e : h a with
    | none => rw [e] at q; exact q.elim
    | some m =>
      rw [e] at q
      cases m with
      | lst xs =>
        obtain ⟨vs, e2, rs⟩ := R.cel a _ e
        have b := R.Bh e
        refine ⟨a, false, xs, vs, upd B a (.lst vs), del h a, _, rfl, rs, q, R.hide e e2, ⟨fun c o ec => by rw [upd_ne (ne_of_none ec b)]; exact ec, fun B2 F2 _ _ _ _ sb _ R2 => .of (R2.out a _ (sb _ _ upd_same)).1, ?_, ?_⟩, .of e2⟩
        · intro F2 E2 h2 σ2 H2 l2 R2
          exact R2.show b fun z => ⟨vs, z, rs.mono l2⟩
        · intro F2 h2 H2 r v l2 q
          exact q.show b
      | dct xs => exact q.elim
      | ins C fs => exact q.elim
  | _ => exact q.elim
/-- each turn makes a new tuple -/
def YTup (f : Nat → List V → Prop) : Nat → Hp → V → Hp → Prop := fun i H v H' => ∃ T vs, v = .ref T ∧ H T = none ∧ H' = upd H T (.tup vs) ∧ f i vs
theorem Src.tups {K : Kf} {B F B0 : Hp} {items : List D} {J : It} {f : Nat → List V → Prop} {G : Hp → Prop} {back : MH → MH} (w : Walk J items.length G (YTup f)) (r : ∀ i vs, i < items.length → f i vs → ∃ ds, items[i]? = some (.tup ds) ∧ Reps K F ds vs)
    (hG : ∀ B2 F2 E2 h2 σ2 H2, (∀ a o, B a = some o → B2 a = some o) → Le F F2 → Rel K B2 F2 E2 h2 σ2 H2 → G H2)
    (bk : ∀ F2 E2 h2 σ2 H2, Le F F2 → Rel K B F2 E2 h2 σ2 H2 → Rel K B0 F2 E2 (back h2) σ2 H2) (vl : ∀ F2 h2 H2 r v, Le F F2 → RvOk K B F2 h2 H2 r v → RvOk K B0 F2 (back h2) H2 r v) : Src K B0 F items B back J := by
  refine ⟨⟨G, _, w, hG, ?_⟩, bk, vl⟩
  rintro B2 F2 E2 h2 σ2 H2 i x H3 sb l R hi ⟨T, vs, rfl, nT, rfl, e⟩
  obtain ⟨ds, ed, rs⟩ := r i vs hi e
  have l2 : Le F2 (upd F2 T (.tup vs)) := Le.new (R.noF nT)
  exact ⟨_, _, ed, l2, R.newF nT, .tup (.inl (.inl upd_same)) (rs.mono (l.trans l2))⟩
def zipD2 (xs ys : List D) : List D := List.zipWith (fun x y => D.tup [x, y]) xs ys
def zipD3 (xs ys zs : List D) : List D := List.zipWith (fun x yz => D.tup [x, yz.1, yz.2]) xs (ys.zip zs)
def mZip2 (ta : TAm) : TIm := fun E h Kn Kx => ta E h (fun ds h' => match ds with
  | [d1, d2] => iterD h' d1 fun xs h1 b1 => iterD h1 d2 fun ys h2 b2 => Kn (zipD2 xs ys) h2 fun h3 => b1 (b2 h3)
  | _ => False) Kx
def mZip3 (ta : TAm) : TIm := fun E h Kn Kx => ta E h (fun ds h' => match ds with
  | [d1, d2, d3] => iterD h' d1 fun xs h1 b1 => iterD h1 d2 fun ys h2 b2 => iterD h2 d3 fun zs h3 b3 => Kn (zipD3 xs ys zs) h3 fun h4 => b1 (b2 (b3 h4))
  | _ => False) Kx
theorem walk_g2 {K : Kf} {t1 t2 : Bool} {a1 a2 : Addr} {l1 l2 : List V} {n : Nat} (e1 : n = min l1.length l2.length) :
    Walk (Itg2 K t1 t2 a1 a2) n (fun H => SqA K t1 H a1 l1 ∧ SqA K t2 H a2 l2) (YTup fun i vs => ∃ x y, l1[i]? = some x ∧ l2[i]? = some y ∧ vs = [x, y]) where
  goes := fun i H hi q => ⟨l1, l2, l1[i]'(by omega), l2[i]'(by omega), q.1, q.2, List.getElem?_eq_getElem _, List.getElem?_eq_getElem _⟩
  stops := fun H q => ⟨l1, l2, q.1, q.2, ⟨by omega, by omega⟩, by omega⟩
  yields := fun i H v H' _ q ⟨T, x, y, h1, h2, h3, h4, h5⟩ => ⟨T, [x, y], h1, h2, h3, x, y, h4 l1 q.1, h5 l2 q.2, rfl⟩
theorem walk_g3 {K : Kf} {t1 t2 t3 : Bool} {a1 a2 a3 : Addr} {l1 l2 l3 : List V} {n : Nat} (e1 : n = min l1.length (min l2.length l3.length)) :
    Walk (Itg3 K t1 t2 t3 a1 a2 a3) n (fun H => SqA K t1 H a1 l1 ∧ SqA K t2 H a2 l2 ∧ SqA K t3 H a3 l3) (YTup fun i vs => ∃ x y z, l1[i]? = some x ∧ l2[i]? = some y ∧ l3[i]? = some z ∧ vs = [x, y, z]) where
  goes := fun i H hi q => ⟨l1, l2, l3, l1[i]'(by omega), l2[i]'(by omega), l3[i]'(by omega), q.1, q.2.1, q.2.2, List.getElem?_eq_getElem _, List.getElem?_eq_getElem _, List.getElem?_eq_getElem _⟩
  stops := fun H q => ⟨l1, l2, l3, q.1, q.2.1, q.2.2, ⟨by omega, by omega, by omega⟩, by omega⟩
  yields := fun i H v H' _ q ⟨T, x, y, z, h1, h2, h3, h4, h5, h6⟩ => ⟨T, [x, y, z], h1, h2, h3, x, y, z, h4 l1 q.1, h5 l2 q.2.1, h6 l3 q.2.2, rfl⟩
theorem mi_zip2 {X : Cx} {W : WX} {e1 e2 : Expr} {ta : TAm} {p pos tpos : Pos} {elts : List Expr} {kk : Nat} (hg : Gl X "zip") (hm : X.mg "zip" = none) (ha : MA X W [e1, e2] ta)
    (hs : starEach [e1, e2] X.env = (false, eval e1 X.env) :: starEach [e2] X.env := by rfl) (hpl : (backTo pos (starEach [e2] X.env)).any (·.1) = false := by rfl) :
    MI X W (.Tuple elts kk tpos) (.Call (.Name "zip" p) [e1, e2] [] pos) (mZip2 ta) := fun B => (pi_zg2 hg hm (ha B) hs hpl).impM fun σ H Rr ⟨F, E, h, Kn, Kx, R, ht, hx, hn⟩ => by
  refine ⟨F, E, h, _, Kx, R, ht, hx, fun ds h' F' H' vs l R' r k => ?_⟩
  match ds, vs, r, k with
  | [d1, d2], [v1, v2], .cons r1 (.cons r2 .nil), k =>
    obtain ⟨a1, t1, xs, us, B1, h1, b1, rfl, rs1, k, R1, A1, s1⟩ := aside_of R' r1 k
    obtain ⟨a2, t2, ys, ws, B2, h2, b2, rfl, rs2, k, R2, A2, s2⟩ := aside_of R1 r2 k
    refine ⟨t1, t2, a1, a2, us, ws, rfl, s1, s2, hn (zipD2 xs ys) h2 _ F' H' B2 _ l R2 (Src.tups (walk_g2 (l1 := us) (l2 := ws) (by simp [zipD2, rs1.len, rs2.len])) ?_ ?_ ?_ ?_) k⟩
    · rintro i vs hi ⟨x, y, e1, e2, rfl⟩
      obtain ⟨d, ed, rd⟩ := rs1.getV e1
      obtain ⟨e, ee, re⟩ := rs2.getV e2
      exact ⟨[d, e], by simp [zipD2, List.getElem?_zipWith, ed, ee], .cons rd (.cons re .nil)⟩
    · intro B3 F3 E3 h3 σ3 H3 sb l3 R3
      exact ⟨A1.stays B3 F3 E3 h3 σ3 H3 (fun b o e => sb b o (A2.sub b o e)) l3 R3, A2.stays B3 F3 E3 h3 σ3 H3 sb l3 R3⟩
    · intro F3 E3 h3 σ3 H3 l3 R3
      exact A1.bak F3 E3 _ σ3 H3 l3 (A2.bak F3 E3 h3 σ3 H3 l3 R3)
    · intro F3 h3 H3 r v l3 q
      exact A1.vl F3 _ H3 r v l3 (A2.vl F3 h3 H3 r v l3 q)
theorem mi_zip3 {X : Cx} {W : WX} {e1 e2 e3 : Expr} {ta : TAm} {p pos tpos : Pos} {elts : List Expr} {kk : Nat} (hg : Gl X "zip") (hm : X.mg "zip" = none) (ha : MA X W [e1, e2, e3] ta)
    (hs : starEach [e1, e2, e3] X.env = (false, eval e1 X.env) :: starEach [e2, e3] X.env := by rfl) (hpl : (backTo pos (starEach [e2, e3] X.env)).any (·.1) = false := by rfl) :
    MI X W (.Tuple elts kk tpos) (.Call (.Name "zip" p) [e1, e2, e3] [] pos) (mZip3 ta) := fun B => (pi_zg3 hg hm (ha B) hs hpl).impM fun σ H Rr ⟨F, E, h, Kn, Kx, R, ht, hx, hn⟩ => by
  refine ⟨F, E, h, _, Kx, R, ht, hx, fun ds h' F' H' vs l R' r k => ?_⟩
  match ds, vs, r, k with
  | [d1, d2, d3], [v1, v2, v3], .cons r1 (.cons r2 (.cons r3 .nil)), k =>
    obtain ⟨a1, t1, xs, us, B1, h1, b1, rfl, rs1, k, R1, A1, s1⟩ := aside_of R' r1 k
    obtain ⟨a2, t2, ys, ws, B2, h2, b2, rfl, rs2, k, R2, A2, s2⟩ := aside_of R1 r2 k
    obtain ⟨a3, t3, zs, us3, B3, h3, b3, rfl, rs3, k, R3, A3, s3⟩ := aside_of R2 r3 k
    refine ⟨t1, t2, t3, a1, a2, a3, us, ws, us3, rfl, s1, s2, s3, hn (zipD3 xs ys zs) h3 _ F' H' B3 _ l R3 (Src.tups (walk_g3 (l1 := us) (l2 := ws) (l3 := us3) (by simp [zipD3, rs1.len, rs2.len, rs3.len])) ?_ ?_ ?_ ?_) k⟩
    · rintro i vs hi ⟨x, y, z, e1, e2, e3, rfl⟩
      obtain ⟨d, ed, rd⟩ := rs1.getV e1
      obtain ⟨e, ee, re⟩ := rs2.getV e2
      obtain ⟨f, ef, rf⟩ := rs3.getV e3
      have ez : (ys.zip zs)[i]? = some (e, f) := by simp [List.getElem?_zip_eq_some, ee, ef]
      exact ⟨[d, e, f], by simp [zipD3, List.getElem?_zipWith, ed, ez], .cons rd (.cons re (.cons rf .nil))⟩
    · intro B4 F4 E4 h4 σ4 H4 sb l4 R4
      exact ⟨A1.stays B4 F4 E4 h4 σ4 H4 (fun b o e => sb b o (A3.sub b o (A2.sub b o e))) l4 R4, A2.stays B4 F4 E4 h4 σ4 H4 (fun b o e => sb b o (A3.sub b o e)) l4 R4, A3.stays B4 F4 E4 h4 σ4 H4 sb l4 R4⟩
    · intro F4 E4 h4 σ4 H4 l4 R4
      exact A1.bak F4 E4 _ σ4 H4 l4 (A2.bak F4 E4 _ σ4 H4 l4 (A3.bak F4 E4 h4 σ4 H4 l4 R4))
    · intro F4 h4 H4 r v l4 q
      exact A1.vl F4 _ H4 r v l4 (A2.vl F4 _ H4 r v l4 (A3.vl F4 h4 H4 r v l4 q))
end M3
set_option Elab.async false
set_option linter.all false
set_option maxRecDepth 100000
set_option maxHeartbeats 4000000
namespace M3
open PySem PySem.Spec PyProof.Rows L2
section
variable {X : Cx} {W : WX} {o e f : Expr} {to ty tx : TVm} {apos cpos pos : Pos}
/-! ### methods of a list at a cell -/
def cellL (h : MH) (d : D) (k : Addr → List D → Prop) : Prop := match d with
  | .ref p => (match h p with
    | some (.lst xs) => k p xs
    | _ => False)
  | _ => False
theorem cellL_of {K : Kf} {B F : Hp} {E : En} {h : MH} {σ : L2.St} {H : Hp} {d : D} {v : V} {k : Addr → List D → Prop} (R : Rel K B F E h σ H) (r : Rep K F d v) (q : cellL h d k) :
    ∃ p xs vs, v = .ref p ∧ d = .ref p ∧ h p = some (.lst xs) ∧ H p = some (.lst vs) ∧ Reps K F xs vs ∧ k p xs := by
  cases r with
  | ref a =>
    have q : (match h a with
      | some (.lst xs) => k a xs
      | _ => False) := q
    cases e : h a with
    | none => rw [e] at q; exact q.elim
    | some m =>
      rw [e] at q
      cases m with
      | lst xs =>
        obtain ⟨vs, e2, rs⟩ := R.cel a _ e
        exact ⟨a, xs, vs, rfl, rfl, e, e2, rs, q⟩
      | dct xs => exact q.elim
      | ins C fs => exact q.elim
  | _ => exact q.elim
theorem cellL_r {h : MH} {p : Addr} {xs : List D} {k : Addr → List D → Prop} (e : h p = some (.lst xs)) : cellL h (.ref p) k = k p xs := by
  show (match h p with
    | some (.lst xs) => k p xs
    | _ => False) = _
  rw [e]
theorem cellL_p {h : MH} {p : Addr} {xs : List D} {k : Addr → List D → Prop} : cellL (put h p (.lst xs)) (.ref p) k = k p xs := cellL_r put_same
def mApp (to tv : TVm) : TEm := fun E h Kn Kx => to E h (fun d h1 => cellL h1 d fun _ _ => tv E h1 (fun y h2 => cellL h2 d fun p xs => xs.length < sizeLine ∧ Kn (.d .non) (put h2 p (.lst (xs ++ [y])))) Kx) Kx
theorem me_append (ho : MV X W o to) (ha : MV X W e ty)
    (hbase : attributeBase o "append" X.env (eval o X.env) = eval o X.env := by rfl)
    (hfew : ((backTo cpos (starEach [e] X.env)).all (fun x => !x.1) && (backToKw cpos (keywordEach [] X.env)).all (fun x => x.1.isSome)
      && decide (([e] : List Expr).length + ([] : List Keyword).length + (if ([] : List Keyword).isEmpty then 0 else 1) < 30)) = true := by rfl)
    (hline : (apos.endLine == cpos.line) = true := by rfl) (hs : starEach [e] X.env = (false, eval e X.env) :: starEach [] X.env := by rfl) (hplain : (backTo cpos (starEach [] X.env)).any (·.1) = false := by rfl) :
    ME X W (.Call (.Attribute o "append" apos) [e] [] cpos) (mApp to ty) := fun B =>
  (pe_bm PySem.F.plainAttrs_list PySem.F.slot_list_append PySem.F.type_list_append mt_append (ho B) (pa_cons (ha B) pa_nil hs) hbase hfew hline hs hplain).impM fun σ H Q ⟨F, E, h, Kn, Kx, R, ht, hx, hn⟩ => by
    refine ⟨F, E, h, _, Kx, R, ht, hx, fun d h1 F1 H1 v l1 R1 r1 k1 => ?_⟩
    obtain ⟨p, xs, vs, rfl, rfl, ep, eH, rs, k1⟩ := cellL_of R1 r1 k1
    refine ⟨.inl ⟨rfl, vs, .of eH⟩, F1, E, h1, _, Kx, R1, k1, hx.up l1, fun y h2 F2 H2 u l2 R2 r2 k2 => ?_⟩
    obtain ⟨p, xs, vs, e1, e2, ep, eH, rs, k2⟩ := cellL_of R2 (r1.mono l2) k2
    cases e1
    exact ⟨p, vs, u, rfl, rfl, eH, by rw [← rs.len]; exact k2.1, hn (.d .non) _ F2 _ .non (l1.trans l2) (R2.write (m' := .lst (xs ++ [y])) ep ⟨_, upd_same, rs.app (.cons r2 .nil)⟩) .non k2.2⟩
def mPopAt (to tv : TVm) : TEm := fun E h Kn Kx => to E h (fun d h1 => cellL h1 d fun _ _ => tv E h1 (fun y h2 => cellL h2 d fun p xs => onInt y fun i => (-(2 ^ 63) ≤ i ∧ i < 2 ^ 63) ∧ (match ixN xs.length i with
  | some n => (match xs[n]? with
    | some z => Kn (.d z) (put h2 p (.lst (xs.eraseIdx n)))
    | none => False)
  | none => False)) Kx) Kx
theorem me_popAt (ho : MV X W o to) (ha : MV X W e ty)
    (hbase : attributeBase o "pop" X.env (eval o X.env) = eval o X.env := by rfl)
    (hfew : ((backTo cpos (starEach [e] X.env)).all (fun x => !x.1) && (backToKw cpos (keywordEach [] X.env)).all (fun x => x.1.isSome)
      && decide (([e] : List Expr).length + ([] : List Keyword).length + (if ([] : List Keyword).isEmpty then 0 else 1) < 30)) = true := by rfl)
    (hline : (apos.endLine == cpos.line) = true := by rfl) (hs : starEach [e] X.env = (false, eval e X.env) :: starEach [] X.env := by rfl) (hplain : (backTo cpos (starEach [] X.env)).any (·.1) = false := by rfl) :
    ME X W (.Call (.Attribute o "pop" apos) [e] [] cpos) (mPopAt to ty) := fun B =>
  (pe_bm PySem.F.plainAttrs_list PySem.F.slot_list_pop PySem.F.type_list_pop mt_popAt (ho B) (pa_cons (ha B) pa_nil hs) hbase hfew hline hs hplain).impM fun σ H Q ⟨F, E, h, Kn, Kx, R, ht, hx, hn⟩ => by
    refine ⟨F, E, h, _, Kx, R, ht, hx, fun d h1 F1 H1 v l1 R1 r1 k1 => ?_⟩
    obtain ⟨p, xs, vs, rfl, rfl, ep, eH, rs, k1⟩ := cellL_of R1 r1 k1
    refine ⟨.inl ⟨rfl, vs, .of eH⟩, F1, E, h1, _, Kx, R1, k1, hx.up l1, fun y h2 F2 H2 u l2 R2 r2 k2 => ?_⟩
    obtain ⟨p, xs, vs, e1, e2, ep, eH, rs, k2⟩ := cellL_of R2 (r1.mono l2) k2
    cases e1
    obtain ⟨i, rfl, rfl, k2, k3⟩ := int_of r2 k2
    cases en : ixN xs.length i with
    | none => rw [en] at k3; exact k3.elim
    | some n =>
      rw [en] at k3
      cases ez : xs[n]? with
      | none => simp only [ez] at k3
      | some z =>
        simp only [ez] at k3
        obtain ⟨w, ew, rw'⟩ := rs.get ez
        have q1 := (ixN_seq en).1
        rw [rs.len] at q1
        exact ⟨p, vs, i, n, w, rfl, rfl, eH, k2.1, k2.2, q1, ew, hn (.d z) _ F2 _ w (l1.trans l2) (R2.write (m' := .lst (xs.eraseIdx n)) ep ⟨_, upd_same, rs.erase n⟩) rw' k3⟩
def mExt (to tv : TVm) : TEm := fun E h Kn Kx => to E h (fun d h1 => cellL h1 d fun _ _ => tv E h1 (fun y h2 => onL h2 y fun zs => cellL h2 d fun p xs => xs.length + zs.length ≤ sizeLine ∧ Kn (.d .non) (put h2 p (.lst (xs ++ zs)))) Kx) Kx
theorem me_extend (ho : MV X W o to) (ha : MV X W e ty)
    (hbase : attributeBase o "extend" X.env (eval o X.env) = eval o X.env := by rfl)
    (hfew : ((backTo cpos (starEach [e] X.env)).all (fun x => !x.1) && (backToKw cpos (keywordEach [] X.env)).all (fun x => x.1.isSome)
      && decide (([e] : List Expr).length + ([] : List Keyword).length + (if ([] : List Keyword).isEmpty then 0 else 1) < 30)) = true := by rfl)
    (hline : (apos.endLine == cpos.line) = true := by rfl) (hs : starEach [e] X.env = (false, eval e X.env) :: starEach [] X.env := by rfl) (hplain : (backTo cpos (starEach [] X.env)).any (·.1) = false := by rfl) :
    ME X W (.Call (.Attribute o "extend" apos) [e] [] cpos) (mExt to ty) := fun B =>
  (pe_bm PySem.F.plainAttrs_list PySem.F.slot_list_extend PySem.F.type_list_extend mt_extend (ho B) (pa_cons (ha B) pa_nil hs) hbase hfew hline hs hplain).impM fun σ H Q ⟨F, E, h, Kn, Kx, R, ht, hx, hn⟩ => by
    refine ⟨F, E, h, _, Kx, R, ht, hx, fun d h1 F1 H1 v l1 R1 r1 k1 => ?_⟩
    obtain ⟨p, xs, vs, rfl, rfl, ep, eH, rs, k1⟩ := cellL_of R1 r1 k1
    refine ⟨.inl ⟨rfl, vs, .of eH⟩, F1, E, h1, _, Kx, R1, k1, hx.up l1, fun y h2 F2 H2 u l2 R2 r2 k2 => ?_⟩
    obtain ⟨b, zs, us, rfl, eb, rz, k2⟩ := lst_of R2 r2 k2
    obtain ⟨p, xs, vs, e1, e2, ep, eH, rs, k2⟩ := cellL_of R2 (r1.mono l2) k2
    cases e1
    exact ⟨p, b, vs, us, rfl, rfl, eH, eb, by rw [← rs.len, ← rz.len]; exact k2.1, hn (.d .non) _ F2 _ .non (l1.trans l2) (R2.write (m' := .lst (xs ++ zs)) ep ⟨_, upd_same, rs.app rz⟩) .non k2.2⟩
/-! ### dicts -/
def mGet (to ty tx : TVm) : TEm := fun E h Kn Kx => to E h (fun d h1 => onD h1 d fun _ => ty E h1 (fun y h2 => tx E h2 (fun z h3 => onD h3 d fun kvs => match keyD y with
  | some k => Kn (.d ((valD kvs k).getD z)) h3
  | none => False) Kx) Kx) Kx
theorem me_get (hu : X.A.units + 1 < cLine) (ho : MV X W o to) (he : MV X W e ty) (hf : MV X W f tx) (m : M2 X o "get" apos e f cpos := by exact ⟨by rfl, by rfl, by rfl, by rfl⟩) : ME X W (.Call (.Attribute o "get" apos) [e, f] [] cpos) (mGet to ty tx) := fun B =>
  (pe_dget2 hu (ho B) (he B) (hf B) m).impM fun σ H Q ⟨F, E, h, Kn, Kx, R, ht, hx, hn⟩ => by
    refine ⟨F, E, h, _, Kx, R, ht, hx, fun d h1 F1 H1 v l1 R1 r1 k1 => ?_⟩
    obtain ⟨a, kvs, vs, rfl, ed, rs, k1⟩ := dct_of R1 r1 k1
    refine ⟨a, rfl, .inl ⟨vs, ed⟩, F1, E, h1, _, Kx, R1, k1, hx.up l1, fun y h2 F2 H2 u l2 R2 r2 k2 => ?_⟩
    refine ⟨F2, E, h2, _, Kx, R2, k2, (hx.up l1).up l2, fun z h3 F3 H3 w l3 R3 r3 k3 => ?_⟩
    obtain ⟨a', o', o2, e1, g, q, zz⟩ := dget_ok (p := fun o => Kn (.d (o.getD z)) h3) R3 (r1.mono (l2.trans l3)) (r2.mono l3) k3
    cases e1
    refine ⟨o2, g, ?_⟩
    rcases zz with ⟨rfl, rfl⟩ | ⟨dd, vv, rfl, rfl, rr⟩
    · exact hn (.d z) h3 F3 H3 w ((l1.trans l2).trans l3) R3 r3 q
    · exact hn (.d dd) h3 F3 H3 vv ((l1.trans l2).trans l3) R3 rr q
def mDNew : TEm := fun _ h Kn _ => Kn (.od []) h
theorem me_dnew : ME X W (.Dict [] [] pos) mDNew := fun B => pe_dnewK.impM fun σ H Q ⟨F, E, h, Kn, Kx, R, ht, hx, hn⟩ => fun p hp =>
  hn (.od []) h F _ _ (Le.refl F) (R.newO hp) ⟨p, [], rfl, upd_same, .nil, R.noB hp, R.noF hp, R.noh hp⟩ ht
/-! ### a, b, c = x, y, z of local names -/
def sPar3 (i j l : Nat) (ta : TAm) : TSm := fun N E h => ta E h (fun ds h' => match ds with
  | [x, y, z] => N.nx (((E.set i (some x)).set j (some y)).set l (some z)) h'
  | _ => False) (N.xk E)
theorem ms_par3 {i j l : Nat} {x y z : Str} {a b c : Expr} {ta : TAm} {px py pz pt pos : Pos} {kt k2 pt2} (hc : X.calm = true) (hN : X.N.Nodup) (hi : X.N[i]? = some x) (hj : X.N[j]? = some y) (hl : X.N[l]? = some z) (hij : i ≠ j) (hil : i ≠ l) (hjl : j ≠ l)
    (hx : X.env.scope.names.lookup x = some .local) (hy : X.env.scope.names.lookup y = some .local) (hz : X.env.scope.names.lookup z = some .local) (ha : MA X W [a, b, c] ta)
    (hw : swappedStores [.Tuple [.Name x px, .Name y py, .Name z pz] kt pt] (.Tuple [a, b, c] k2 pt2) X.env = pure (some [x, y, z]))
    (hs : swapsWithSole [.Tuple [.Name x px, .Name y py, .Name z pz] kt pt] (.Tuple [a, b, c] k2 pt2) pos.line X.env = pure false := by rfl) :
    MS X W (.Assign [.Tuple [.Name x px, .Name y py, .Name z pz] kt pt] (.Tuple [a, b, c] k2 pt2) pos) (sPar3 i j l ta) := fun B => (ps_par3 hc hN hi hj hl hij hil hjl hx hy hz (ha B) hw hs).impM fun D σ H ⟨F, E, h, N, R, ht, c⟩ => by
  refine ⟨F, E, h, _, (N.xk E), R, ht, fun x h' F' H' a dx l R' q k => c.2.2.2.2 x h' F' E σ H' a dx l R' q k, fun ds h' F' H' vs l R' r k => ?_⟩
  match ds, vs, r, k with
  | [_, _, _], [_, _, _], .cons r1 (.cons r2 (.cons r3 .nil)), k => exact ⟨_, _, _, rfl, c.1 _ h' F' _ H' l (((R'.set r1 i).set r2 j).set r3 _) k⟩
/-! ### e.f op= value -/
def HasIn (K : Kf) (rd : V → V → Hp → VK → Prop) (g : G2) : Prop := ∀ (B F : Hp) (E : En) (h : MH) (σ : L2.St) (H : Hp) (x y : D) (vx vy : V) (Q : VK) (Kn : RV → MH → Prop), Rel K B F E h σ H → Rep K F x vx → Rep K F y vy → g x y h Kn →
  (∀ r h' F' H' v, Le F F' → Rel K B F' E h' σ H' → RvOk K B F' h' H' r v → Kn r h' → Q v H') → rd vx vy H Q
def sFldAugM (C : Addr) (n : Str) (to tv : TVm) (g : G2) : TSm := fun N E h => to E h (fun d h1 => onIns h1 d C fun a fs => match fs.lookup n with
  | some x => tv E h1 (fun y h2 => g x y h2 fun r h3 => onIns h3 (.ref a) C fun _ fs' => fs'.length < 1000 ∧ N.nx E (put h3 a (.ins C (putD n r.frz fs')))) (N.xk E)
  | none => False) (N.xk E)
theorem ms_fldaug {value : Expr} {m : Str} {C : Addr} {tpos : Pos} {tv : TVm} {op : Operator} {rd : V → V → Hp → VK → Prop} {g : G2} (ha : MV X W o to) (hv : MV X W value tv) (c : Cls X.K C) (na : NoAttr X.K C m) (hop : InOp X op rd) (hg : HasIn X.K rd g) : MS X W (.AugAssign (.Attribute o m tpos) op value pos) (sFldAugM C m to tv g) := fun B =>
  (ps_fldaug (ha B) (hv B) hop).impM fun D σ H ⟨F, E, h, N, R, ht, cc⟩ => by
    refine ⟨F, E, h, _, (N.xk E), R, ht, fun x h' F' H' a dx l R' q k => cc.2.2.2.2 x h' F' E σ H' a dx l R' q k, fun d h1 F1 H1 v l1 R1 r1 k1 => ?_⟩
    obtain ⟨a, fs, dx, ws, rfl, rfl, ea, eH, rs, k1⟩ := ins_of R1 r1 k1
    cases el : fs.lookup m with
    | none => simp only [el] at k1
    | some x =>
      simp only [el] at k1
      obtain ⟨vx, ev, rx⟩ := rs.some el
      refine ⟨a, C, dx, ws, vx, rfl, eH, c, na, ev, F1, E, h1, _, (N.xk E), R1, k1, fun x h' F' H' a dx l R' q k => cc.2.2.2.2 x h' F' E σ H' a dx (l1.trans l) R' q k, fun y h2 F2 H2 u l2 R2 r2 k2 => ?_⟩
      refine hg B F2 E h2 σ H2 x y vx u _ _ R2 (rx.mono l2) r2 k2 fun r h3 F3 H3 w l3 R3 q3 k3 => ?_
      obtain ⟨F4, l4, R4, rp⟩ := q3.frz R3
      obtain ⟨a', fs', dx', ws', e1, e2, ea', eH', rs', hl, k3⟩ := ins_of (K := X.K) (F := F4) R4 (.ref a) k3
      cases e1
      refine ⟨dx', ws', eH', by rw [← rs'.len]; exact hl, ?_⟩
      exact cc.1 E _ F4 σ _ (((l1.trans l2).trans l3).trans l4) (R4.write (m' := .ins C (putD m r.frz fs')) ea' ⟨dx', _, upd_same, RepF.put rp rs'⟩) k3
theorem hin_add {K : Kf} : HasIn K rAdd (gII (fun _ _ => True) fun i j => .int (i + j)) := fun B F E h σ H x y vx vy Q Kn R rx ry q hn => by
  obtain ⟨i, rfl, rfl, q⟩ := int_of rx q
  obtain ⟨j, rfl, rfl, _, q⟩ := int_of ry q
  exact ⟨i, j, rfl, rfl, hn (.d (.int (i + j))) h F H _ (Le.refl F) R (.int _) q⟩
end
end M3
set_option Elab.async false
set_option linter.all false
set_option maxRecDepth 100000
set_option maxHeartbeats 4000000
namespace L2
open PySem PySem.Spec PyProof.Rows
/-! ### set(list of ints), the set in the layer's kind -/
abbrev m3Set0 (w : World) : Obj := { cls := .type "set", dict := none, data := .set #[] 0 (.fresh 0 0 (!w.params.followText "set-order")) }
section
variable {P : Program} {w : World} {A : Around} {E : Value → Shared → Prop} {s : Shared}
set_option maxHeartbeats 3200000 in
theorem m3_call_set {l : Addr} {items : Array Value} (ns : List Int) {Q : Value → Shared → Prop} (hh : A.handled = none) (hl : s.heap.IsList l items) (hit : IntsAre items.toList ns) (hb : ns.length + 1 < scanBound)
    (h : ∀ (hp : Heap) (tk c : Nat), SetR w hp s.heap.objs.size (fun j => decide (j ∈ ns)) c → c ≤ ns.length → (∀ b o, s.heap.get? b = some o → hp.get? b = some o) → Q (.ref s.heap.objs.size) { s with heap := hp, toks := tk }) : wpAny (model P w) A (call (.type "set") [.ref l]) Q E s := by
  have sz : items.size = ns.length := by simpa using IntsAre.length hit
  obtain ⟨c, tl, hmro⟩ := F.called_set.mro; have hmade := F.called_set.made; have hsub := F.called_set.sub
  refine wpAny_call (codeAny_of_tree ?_); show wpAny _ _ (callAny (.type "set") _) _ _ _
  refine wpAny_pure ⟨Code.quiet_builtin _ (by decide +kernel), codeAny_builtin F.entry_type_call ?_⟩; rw [Around.under_plain (weight_type_call_type "set" [.ref l] []) rfl]
  have n1 := F.called_set.notType; have n2 := F.called_set.canCreate; have n3 := F.typeCall_set_1 (.ref l)
  repeat (any_goals (first | assumption | wp_step))
  refine codeAny_mono (code_set_led1 (.ref l) (E := E) (Q₁ := fun ob sh => ob = .ref s.heap.objs.size ∧ sh = { s with heap := s.heap.push (m3Set0 w) }) ⟨rfl, rfl⟩) fun r s1 hr => ?_
  match r, hr with
  | .error e, hr => exact hr
  | .ok (.ret ob), hr =>
    obtain ⟨rfl, rfl⟩ := hr
    have g0 : (s.heap.push (m3Set0 w)).get? s.heap.objs.size = some (m3Set0 w) := Heap.get?_push_size _ rfl
    have ty : Shared.TypeIs { s with heap := s.heap.push (m3Set0 w) } (.ref s.heap.objs.size) "set" := ⟨_, g0, rfl⟩
    have i1 := F.called_set.init.lookup; have i2 := F.called_set.init.bind (.ref s.heap.objs.size)
    repeat (any_goals (first | assumption | wp_step))
    refine codeAny_mono (codeAny_call_builtin (R := wants (fun r sh => r = .none ∧ ∃ hp tk c, sh = { s with heap := hp, toks := tk } ∧ SetR w hp s.heap.objs.size (fun j => decide (j ∈ ns)) c ∧ c ≤ ns.length ∧ (∀ b o, s.heap.get? b = some o → hp.get? b = some o)) E) F.called_set.init.plain F.entry_set_init (check_set_init_1 ty ?_)) fun r2 s2 hr2 => ?_
    · obtain ⟨⟨kc, kd, kx, ks⟩, hol, hc, nl, hd⟩ := hl
      simp only at hc hd
      subst hc hd
      have hol2 : (s.heap.push (m3Set0 w)).get? l = some { cls := .type "list", dict := kd, data := .seq items nl, slots := ks } := Heap.get?_push_of_some _ hol
      have b1 := F.sub_list_set; have b2 := F.sub_list_frozenset
      have ne : (Value.type "list" == Value.type "dict") = false := by decide
      have il : (s.heap.push (m3Set0 w)).IsList l items := ⟨_, hol2, rfl, nl, rfl⟩
      unfold Builtin.«set.__init__» noKeywords Builtin.Frozenset.updateFrom
      generalize hPI : pyIter = PI
      wp_walk
      subst hPI
      refine wpAny_pyIter_list il (wpAny_bind (wpAny_runValue ?_))
      have lS : l < s.heap.objs.size := Heap.lt_size hol
      have hz : (s.heap.push (m3Set0 w)).objs.size = s.heap.objs.size + 1 := Heap.size_push ..
      have nI : l ≠ (s.heap.push (m3Set0 w)).objs.size := by rw [hz]; exact Nat.ne_of_lt (Nat.lt_succ_of_lt lS)
      have nf : s.heap.objs.size ∉ [(s.heap.push (m3Set0 w)).objs.size, l] := by
        rw [hz]; intro z
        rcases List.mem_cons.mp z with z | z
        · exact Nat.ne_of_lt (Nat.lt_succ_self _) z
        · rcases List.mem_cons.mp z with z | z
          · exact Nat.ne_of_gt lS z
          · cases z
      have vals : ∀ (i : Nat) (v : Value), items[i]? = some v → ∃ k t, ns[i]? = some k ∧ v = .int k t := fun i v hv => by
        have hi : i < ns.length := by rw [← sz]; exact (Array.getElem?_eq_some_iff.mp hv).1
        obtain ⟨t, e⟩ := PyProof.Rows.IntsAre.int_at hit i v (by rw [Array.getElem?_toList]; exact hv)
        exact ⟨ns[i], t, List.getElem?_eq_getElem hi, by rw [e, List.getD_eq_getElem?_getD, List.getElem?_eq_getElem hi]; rfl⟩
      refine set_update_ints ((Walks.list (by simp [hh] : A.in1.in1.in1.handled = none) _ l nI items).toS) s.heap.objs.size nf ns sz hb vals (items.size - 0) 0 _ (by omega) (Nat.zero_le _) ⟨⟨_, Heap.get?_push_size _ rfl, rfl, rfl⟩, (il.push _)⟩ ⟨0, Nat.le_refl 0, setR_new_at (Heap.get?_push_of_some _ g0)⟩ ?_
      rintro ⟨hp, g2, d2, tk2, os2⟩ c2 hm hc2 hS2
      obtain rfl : g2 = s.gens := hm.gens
      obtain rfl : d2 = s.drawn := hm.drawn
      obtain rfl : os2 = s.os := hm.os
      show wpAny _ _ _ _ _ _
      refine wpAny_pure ?_
      show wpAny _ _ (ret Value.none) _ _ _
      rw [sz] at hc2
      refine wpAny_pure ⟨rfl, hp, tk2, c2, rfl, hS2, hc2, fun b o e => ?_⟩
      have bl : b < s.heap.objs.size := Heap.lt_size e
      refine hm.heap b o (fun z => ?_) (Heap.get?_push_of_some _ (Heap.get?_push_of_some _ e))
      rcases List.mem_cons.mp z with z | z
      · exact Nat.ne_of_lt bl z
      · rcases List.mem_cons.mp z with z | z
        · rw [hz] at z; exact Nat.ne_of_lt (Nat.lt_succ_of_lt bl) z
        · cases z
    · match r2, hr2 with
      | .error e, hr2 => exact hr2
      | .ok (.ret r), hr2 =>
        obtain ⟨rfl, hp, tk, c2, rfl, q1, q2, q3⟩ := hr2
        repeat (any_goals (first | assumption | wp_step))
        exact h _ _ _ q1 q2 q3
      | .ok .next, hr2 => exact hr2.elim
      | .ok .brk, hr2 => exact hr2.elim
      | .ok .cont, hr2 => exact hr2.elim
  | .ok .next, hr => exact hr.elim
  | .ok .brk, hr => exact hr.elim
  | .ok .cont, hr => exact hr.elim
end
/-- set(xs), xs a list of ints -/
def m3RSet (K : PySem.W.Frag) (w : World) : List V → Hp → VK → Prop := fun xs H Q => ∃ (l : Addr) (ns : List Int), xs = [.ref l] ∧ SqL K H l (ns.map V.int) ∧ ns.length < 64 ∧ ∀ p c, H p = none → c ≤ ns.length → Q (.ref p) (upd H p (SetO w p (fun j => decide (j ∈ ns)) c))
theorem m3_setR {X : Cx} (hc : X.calm = true) : CallR X (.type "set") (m3RSet X.K X.w) := by
  intro pins s σ H vs us Q I r h
  obtain ⟨l, ns, rfl, hq, h64, q⟩ := h
  rw [Vals.ref1 r]
  obtain ⟨its, rv, p, hz⟩ := I.list hq
  refine m3_call_set ns (I.ok.hd hc) p.isList (by simpa using ints_of_vals rv) (by unfold scanBound; omega) fun hp tk c R hc2 k => ?_
  exact ⟨.ref s.heap.objs.size, _, I.laid (t' := tk) k (Nat.le_refl _) (setO_new R), rfl, q _ c (I.hok.fresh (Nat.le_refl _)) hc2⟩
end L2
set_option Elab.async false
set_option linter.all false
set_option maxRecDepth 100000
set_option maxHeartbeats 4000000
namespace M3
open PySem PySem.Spec PyProof.Rows L2
section
variable {X : Cx} {W : WX} {e : Expr} {t : TVm} {p p2 pos : Pos}
/-! ### sorted(set(list of ints)) -/
def mSortSet (t : TVm) : TEm := fun E h Kn Kx => t E h (fun d h' => onLs h' d fun xs => onInts xs fun ns => ns.length < 64 ∧ ∀ ms : List Int, ms.Pairwise (· < ·) → (∀ k, k ∈ ms ↔ k ∈ ns) → Kn (.ol (ms.map D.int)) h') Kx
theorem me_sortSet {q : Pos} (hc : X.calm = true) (hg : Gl X "sorted") (hm : X.mg "sorted" = none) (hg2 : Gl X "set") (hm2 : X.mg "set" = none) (h : MV X W e t)
    (n1 : starEach [e] X.env = (false, eval e X.env) :: starEach [] X.env := by rfl) (n2 : (backTo q (starEach [] X.env)).any (·.1) = false := by rfl)
    (n3 : starEach [.Call (.Name "set" p2) [e] [] q] X.env = (false, eval (.Call (.Name "set" p2) [e] [] q) X.env) :: starEach [] X.env := by rfl) (n4 : (backTo pos (starEach [] X.env)).any (·.1) = false := by rfl) :
    ME X W (.Call (.Name "sorted" p) [.Call (.Name "set" p2) [e] [] q] [] pos) (mSortSet t) := fun B =>
  (pe_callB (cr_sortedSet hc) hg hm (by decide +kernel) (pa_cons (pe_callTy (m3_setR hc) hg2 hm2 (by decide +kernel) (pa_cons (h B) pa_nil n1) (by decide) (by decide) n1 n2) pa_nil n3) (by decide) (by decide) n3 n4).impM fun σ H Q ⟨F, E, h, Kn, Kx, R, ht, hx, hn⟩ => by
    refine ⟨F, E, h, _, Kx, R, ht, hx, fun d h' F' H' v l R' r k => ?_⟩
    obtain ⟨a, xs, vs, rfl, eq_, rs, k⟩ := lsq_of R' r k
    obtain ⟨ns, rfl, h64, k⟩ := onInts_of k
    rw [rs.of_ints] at eq_
    refine ⟨a, ns, rfl, eq_, h64, fun p c hp hc2 => ⟨p, _, c, rfl, upd_same, by omega, fun ms q pw mem ln hq => ?_⟩⟩
    have R2 := R'.newO (o := SetO X.w p (fun j => decide (j ∈ ns)) c) hp
    exact hn (.ol (ms.map D.int)) h' F' _ _ l (R2.newO hq) ⟨q, _, rfl, upd_same, Reps.ints ms, R2.noB hq, R2.noF hq, R2.noh hq⟩ (k ms pw fun k => by rw [mem k]; simp)
/-! ### list(range(..)) -/
def mListRg (ta : TAm) : TEm := fun E h Kn Kx => ta E h (fun ds h' => match ds with
  | [.int j] => (0 ≤ j ∧ j ≤ 16777216) ∧ Kn (.ol (rngD 0 j.toNat)) h'
  | _ => False) Kx
theorem me_listRg {q : Pos} (hc : X.calm = true) (hg : Gl X "list") (hm : X.mg "list" = none) (hg2 : Gl X "range") (hm2 : X.mg "range" = none) (h : MV X W e t)
    (n1 : starEach [e] X.env = (false, eval e X.env) :: starEach [] X.env := by rfl)
    (n3 : starEach [.Call (.Name "range" p2) [e] [] q] X.env = (false, eval (.Call (.Name "range" p2) [e] [] q) X.env) :: starEach [] X.env := by rfl) :
    ME X W (.Call (.Name "list" p) [.Call (.Name "range" p2) [e] [] q] [] pos) (mListRg (mCons t mNil)) := fun B =>
  (pe_listRg hc hg hm (prg_1 hg2 hm2 (h B) n1) n3).impM fun σ H Q ⟨F, E, h, Kn, Kx, R, ht, hx, hn⟩ => by
    refine ⟨F, E, h, _, Kx, R, ht, hx, fun d h' F' H' v l R' r k => ?_⟩
    cases r with
    | int j =>
      obtain ⟨⟨j0, j1⟩, k⟩ := k
      refine ⟨j, rfl, RgOk.of_le (by omega) (by omega) (by omega) (by omega), fun q hq => ?_⟩
      have e1 : rgV 0 j = ((List.range j.toNat).map fun i : Nat => (i : Int)).map V.int := by
        unfold rgV
        rw [List.map_map, Int.sub_zero]
        congr 1
        funext i
        show V.int (0 + (i : Int)) = V.int i
        rw [Int.zero_add]
      have e2 : rngD 0 j.toNat = ((List.range j.toNat).map fun i : Nat => (i : Int)).map D.int := by
        unfold rngD
        rw [List.map_map]
        congr 1
        funext i
        show D.int (0 + (i : Int)) = D.int i
        rw [Int.zero_add]
      rw [e1]
      refine hn (.ol (rngD 0 j.toNat)) h' F' _ _ l (R'.newO hq) ⟨q, _, rfl, upd_same, ?_, R'.noB hq, R'.noF hq, R'.noh hq⟩ k
      rw [e2]
      exact Reps.ints _
    | _ => exact k.elim
/-! ### isinstance(x, C), C an own class without subclasses -/
def mIsO (C : Addr) (t : TVm) : TVm := fun E h Kn Kx => t E h (fun d h' => match kindD h' d with
  | some _ => Kn (.bl false) h'
  | none => onIns h' d C fun _ _ => Kn (.bl true) h') Kx
structure KitC (K : Kf) (C : Addr) : Prop where
  ty : ∀ k : Kd, PySem.W.kitOne K (.type k.nm) (.ref C) = some false
  cl : Cls K C
  ha : PySem.W.findIn K (.ref C) "__class__" = some (some (.builtin "object.__class__"))
  hn : PySem.W.specialIn K (.builtin "object.__class__") "__get__" = some (some (.builtin "getset_descriptor.__get__"))
  hk : PySem.W.takesIn K (.builtin "object.__class__") = some true
  hm : PySem.W.mroIn K C (.type "object") = some true
theorem kit_self {K : Kf} {C : Addr} : PySem.W.kitOne K (.ref C) (.ref C) = some true := by
  unfold PySem.W.kitOne
  simp
theorem mv_isO {x2 : Str} {C : Addr} (hg : Gl X "isinstance") (hm : X.mg "isinstance" = none) (hg2 : Gl X x2) (hm2 : X.mg x2 = some (.ref C)) (kc : KitC X.K C) (h : MV X W e t) (hd2 : (x2 == ("__debug__" : Str)) = false := by decide)
    (na : starEach [e, .Name x2 p2] X.env = (false, eval e X.env) :: starEach [.Name x2 p2] X.env := by rfl) (nb : starEach [.Name x2 p2] X.env = (false, eval (.Name x2 p2) X.env) :: starEach [] X.env := by rfl) (hpl : (backTo pos (starEach [.Name x2 p2] X.env)).any (·.1) = false := by rfl) :
    MV X W (.Call (.Name "isinstance" p) [e, .Name x2 p2] [] pos) (mIsO C t) := fun B =>
  (pe_callB call_isi hg hm (by decide +kernel) (pa_cons (h B) (pa_cons (pe_glob (v := .ref C) hg2 hm2 rfl hd2) pa_nil nb) na) (by decide) (by decide) na hpl).impM fun σ H Q ⟨F, E, h, Kn, Kx, R, ht, hx, hn⟩ => by
    refine ⟨F, E, h, _, Kx, R, ht, hx, fun d h' F' H' v l R' r k => ?_⟩
    cases ek : kindD h' d with
    | some kd =>
      simp only [ek] at k
      exact ⟨v, .ref C, .type kd.nm, .ref C, false, rfl, .own C, kind_of R' r ek, kc.ty kd, hn (.bl false) h' F' H' _ l R' (.bl _) k⟩
    | none =>
      simp only [ek] at k
      obtain ⟨a, fs, dx, ws, rfl, rfl, ea, eH, rs, k⟩ := ins_of R' r k
      exact ⟨.ref a, .ref C, .ref C, .ref C, true, rfl, .own C, .base (.ins eH kc.cl kc.ha kc.hn kc.hk kc.hm), kit_self, hn (.bl true) h' F' H' _ l R' (.bl _) k⟩
/-! ### C(e, .., k = v, ..) -/
def MK (X : Cx) (W : WX) (kws : List Keyword) (t : TAm) : Prop := ∀ B, PK X kws (LA X.K B W t)
theorem _root_.L2.PK.impM {X : Cx} {kws : List Keyword} {t t' : TA} (p : PK X kws t) (h : ∀ σ H Q, t' σ H Q → t σ H Q) : PK X kws t' := ⟨fun pos pins s σ H Q I q => p.run pos pins s σ H Q I (h σ H Q q)⟩
theorem mk_nil : MK X W [] mNil := fun B => pk_nil.impM fun σ H Q ⟨F, E, h, Kn, Kx, R, ht, hx, hn⟩ => hn [] h F H [] (Le.refl F) R .nil ht
theorem mk_cons {nm : Option Str} {kpos : Pos} {kws : List Keyword} {ta : TAm} (a : MV X W e t) (b : MK X W kws ta) : MK X W (⟨nm, e, kpos⟩ :: kws) (mCons t ta) := fun B => (pk_cons (a B) (b B)).impM fun σ H Q ⟨F, E, h, Kn, Kx, R, ht, hx, hn⟩ => by
  refine ⟨F, E, h, _, Kx, R, ht, hx, fun d h1 F1 H1 v l1 R1 r1 k1 => ?_⟩
  refine ⟨F1, E, h1, _, Kx, R1, k1, hx.up l1, fun ds h2 F2 H2 vs l2 R2 r2 k2 => ?_⟩
  exact hn (d :: ds) h2 F2 H2 (v :: vs) (l1.trans l2) R2 (.cons (r1.mono l2) r2) k2
variable {k n : Nat} {f C : Addr} {fd : FuncData} {ps ks : List Str} {x : Str} {es : List Expr} {kws : List Keyword}
def tMakeSK (C : Addr) (n m : Nat) (sp : Sp) (E : L2.St → XK) (t tk : TA) : TE := fun σ H Q => t σ H fun vs H1 => tk σ H1 fun zs H2 => vs.length = n ∧ zs.length = m ∧ ∀ x dx, H2 x = none → H2 dx = none → dx ≠ x →
  sp (.ref x :: (vs ++ zs)) (upd (upd H2 dx (.own x)) x (.ins C dx [])) (fun v H3 => v = .non ∧ Q (.ref x) H3) (E σ)
theorem make_SK {sp : Sp} {E : L2.St → XK} {t tk : TA} (M : Mk X.K C f) (F : FnOk X.prog X.w X.K X.mg X.base (L2.CX X.prog X.w) k f fd ps sp) (hr : Room (k + 1) X.A) (hg : Gl X x) (hm : X.mg x = some (.ref C)) (hb : KBn X.K fd ps (n + 1) ks (fun us ws => us ++ ws) (fun vs zs => vs ++ zs)) (hx : ∀ σ, PassesAt (L2.CX X.prog X.w) X σ (E σ))
    (ha : PA X (e :: es) t) (hkw : PK X kws tk)
    (hall : (backToKw pos (keywordEach kws X.env)).all (·.1.isSome) = true := by rfl) (hks : (backToKw pos (keywordEach kws X.env)).filterMap (·.1) = ks := by rfl) (hdb : (x == ("__debug__" : Str)) = false := by decide)
    (he : starEach (e :: es) X.env = (false, eval e X.env) :: starEach es X.env := by rfl) (hpl : ((backTo pos (starEach (e :: es) X.env)).any (·.1) || (backToKw pos (keywordEach kws X.env)).any (·.1.isNone)) = false := by rfl) :
    PE X (.Call (.Name x p) (e :: es) kws pos) (tMakeSK C n ks.length sp E t tk) := by
  refine ⟨fun pins s σ H Q I h => wpAny_Call_Name_kw (ld_glob I hg hm ?_ hdb)⟩
  refine PySem.W.callWith_KW (h₀ := X.base) I.ok.mod.kin M.kp hall (thn (ha.run pos pins s σ H _ I h) fun us s1 ⟨vs, H1, I1, r, q⟩ => thn (hkw.run pos pins s1 σ H1 _ I1 q) fun ws s2 ⟨zs, H2, I2, rz, l1, l2, q2⟩ => ⟨I2.kIn, ?_⟩) hpl he
  rw [hks]
  have hq := q2 (s2.heap.objs.size + 1) s2.heap.objs.size (I2.hok.fresh (Nat.le_succ _)) (I2.hok.fresh (Nat.le_refl _)) (Nat.ne_of_lt (Nat.lt_succ_self _))
  have J := Inv.made (C := C) I2
  have r1 : Vals (V.ref (s2.heap.objs.size + 1) :: vs) (Value.ref (s2.heap.objs.size + 1) :: us) := .cons rfl r
  have n1 : (Value.ref (s2.heap.objs.size + 1) :: us).length = n + 1 := by rw [List.length_cons, ← r.length, l1]
  refine wpAny_call (make_map (f := f) I2.kIn M.makes M.init (beq_iff_eq.mp M.fn) (codeAny_mono (F.run _ X.stack _ _ ⟨Value.ref (s2.heap.objs.size + 1) :: us, ks.zip ws⟩ ((Value.ref (s2.heap.objs.size + 1) :: us) ++ ws) _ _ (E σ) (hr.make C us (ks.zip ws))
    (J.env0.make C us (ks.zip ws)) (hb.to _ (Value.ref (s2.heap.objs.size + 1) :: us) ws J.kIn n1 (rz.length.symm.trans l2)) (hb.rel r1 rz) hq) fun r s' hq' => ?_))
  match r, hq' with
  | .error e, hq' => exact hx σ pins _ _ e s' J hq'
  | .ok (.ret u), hq' =>
    obtain ⟨v, H', I3, rv, ev, q3⟩ := J.after hq'
    subst ev
    exact ⟨rv, ⟨V.ref (s2.heap.objs.size + 1), H', I3, rfl, q3⟩⟩
  | .ok .next, hq' => exact False.elim hq'
  | .ok .brk, hq' => exact False.elim hq'
  | .ok .cont, hq' => exact False.elim hq'
def mMakeK (C : Addr) (n m : Nat) (sp : MSp) (t tk : TAm) : TEm := fun E h Kn Kx => t E h (fun ds h1 => tk E h1 (fun zs h' => ds.length = n ∧ zs.length = m ∧ ∀ x, h' x = none → sp (.ref x :: (ds ++ zs)) (put h' x (.ins C [])) (fun r h2 => Kn (.d (.ref x)) h2) Kx) Kx) Kx
theorem me_makeK {sp : MSp} {t tk : TAm} (M : Mk X.K C f) (F : FM X.prog X.w X.K X.mg X.base k f fd ps sp) (hnon : ∀ ds h Kn Kx, sp ds h Kn Kx → sp ds h (fun r h' => r = .d .non ∧ Kn r h') Kx) (hr : Room (k + 1) X.A) (hg : Gl X x) (hm : X.mg x = some (.ref C)) (hb : KBn X.K fd ps (n + 1) ks (fun us ws => us ++ ws) (fun vs zs => vs ++ zs)) (tt : Takes X W)
    (ha : MA X W (e :: es) t) (hkw : MK X W kws tk)
    (hall : (backToKw pos (keywordEach kws X.env)).all (·.1.isSome) = true := by rfl) (hks : (backToKw pos (keywordEach kws X.env)).filterMap (·.1) = ks := by rfl) (hdb : (x == ("__debug__" : Str)) = false := by decide)
    (he : starEach (e :: es) X.env = (false, eval e X.env) :: starEach es X.env := by rfl) (hpl : ((backTo pos (starEach (e :: es) X.env)).any (·.1) || (backToKw pos (keywordEach kws X.env)).any (·.1.isNone)) = false := by rfl) :
    ME X W (.Call (.Name x p) (e :: es) kws pos) (mMakeK C n ks.length sp t tk) := fun B => (make_SK (E := WE W) M F hr hg hm hb (fun σ => passAt tt σ) (ha B) (hkw B) hall hks hdb he hpl).impM fun σ H Q ⟨F, E, h, Kn, Kx, R, ht, hx, hn⟩ => by
  refine ⟨F, E, h, _, Kx, R, ht, hx, fun ds h1 F1 H1 vs l1 R1 r1 k1 => ?_⟩
  refine ⟨F1, E, h1, _, Kx, R1, k1, hx.up l1, fun zs h2 F2 H2 us l2 R2 r2 k2 => ?_⟩
  obtain ⟨e1, e2, k2⟩ := k2
  refine ⟨by rw [← r1.len]; exact e1, by rw [← r2.len]; exact e2, fun y dy nx ndx nex => ?_⟩
  have R3 : Rel X.K B F2 E h2 σ (upd H2 dy (.own y)) := R2.newO ndx
  have nx1 : (upd H2 dy (.own y)) y = none := by rw [upd_ne nex.symm]; exact nx
  have R4 : Rel X.K B F2 E h2 σ (upd (upd H2 dy (.own y)) y (.ins C dy [])) := R3.newO nx1
  have R5 := R4.toC (p := y) (m := .ins C []) ⟨dy, [], upd_same, .nil⟩ (R2.noB nx) (R2.noF nx)
  refine sp_ok R5 (.cons (.ref y) ((r1.mono l2).app r2)) (hnon _ _ _ _ (k2 y (R2.noh nx))) (hx.up (l1.trans l2)) fun r h4 F4 H4 v l4 R6 q2 k4 => ?_
  obtain ⟨rfl, k4⟩ := k4
  refine ⟨?_, hn (.d (.ref y)) h4 F4 H4 _ ((l1.trans l2).trans l4) R6 (.ref y) k4⟩
  cases q2
  rfl
end
end M3
set_option Elab.async false
set_option linter.all false
set_option maxRecDepth 100000
set_option maxHeartbeats 4000000
/-! M5A: own errors raised. -/
namespace M3
open PySem PySem.Spec PyProof.Rows L2
/-! ### facts of a class -/
/-- without an own __init__ -/
structure X0 (K : Kf) (C : Addr) : Prop where
  q : PySem.W.excIn K C [.type "ValueError", .type "Exception", .type "BaseException", .type "object"] "ValueError.__new__" = true
  kC : PySem.W.keepIn K (.ref C) = true
  bC : PySem.W.subIn K (.ref C) (.type "BaseException") = some true
  tC : PySem.W.typeIn K (.ref C) = some (.type "type")
/-- with an own __init__ at fI -/
structure X1 (K : Kf) (C fI : Addr) (ns : List Str) : Prop where
  nf : ∀ n ∈ ns, PySem.W.findIn K (.ref C) n = some none
  o : OexC K C
  i : PySem.W.findIn K (.ref C) "__init__" = some (some (.ref fI))
  ti : PySem.W.typeIn K (.ref fI) = some (.type "function")
def oexB (K : Kf) (C : Addr) : Bool := match K.lookup C with
  | some ⟨.type "type", _, .cls cd, sl⟩ => (match cd.mro, sl.toList with
    | .ref C' :: bm, [_, _, _, _, some (.builtin n), _] => C' == C && n == "ValueError.__new__" && !cd.hasDel && cd.hasDict && PySem.HandSPX.refsVE bm
    | _, _ => false)
  | _ => false
theorem oexB_of {K : Kf} {C : Addr} (e : oexB K C = true) : ∃ nm q N bs bm sn sub ab col dd k0 k1 k2 k3 k5, K.lookup C = some (excClassObj nm q C N bs bm true sn sub ab col dd k0 k1 k2 k3 k5 "ValueError.__new__") ∧ PySem.HandSPX.refsVE bm = true := by
  unfold oexB at e
  split at e
  · rename_i dd cd sl ho
    split at e
    · rename_i C' bm k0 k1 k2 k3 n k5 hm hs
      simp only [Bool.and_eq_true, beq_iff_eq, Bool.not_eq_true'] at e
      obtain ⟨⟨⟨⟨rfl, rfl⟩, hdel⟩, hd1⟩, ht⟩ := e
      obtain ⟨nm, bs, mro, ns, qn, hd, sn, sub, ab, col, del⟩ := cd
      dsimp only at hm hdel hd1
      subst hm hdel hd1
      have hsl : sl = #[k0, k1, k2, k3, some (.builtin "ValueError.__new__"), k5] := by
        obtain ⟨l⟩ := sl
        simp only at hs
        rw [hs]
      subst hsl
      exact ⟨nm, qn, ns, bs, bm, sn, sub, ab, col, dd, k0, k1, k2, k3, k5, ho, ht⟩
    · cases e
  · cases e
/-- the class above: its __init__ is ValueError's -/
structure XB (K : Kf) (CE : Addr) : Prop where
  rd : ClX.CRead K CE (.type "type")
  at_ : PySem.W.findCls K (.ref CE) (.type "type") "__init__" = some (.val (.builtin "ValueError.__init__"))
section
variable {X : Cx} {o e : Expr} {es : List Expr} {to te : TE} {ta : TA} {f : Str} {p p' p1 p2 pos : Pos}
/-- CellError.__init__(self, ..) -/
theorem pe_cinit {pl : Sem Bool} {CE : Addr} {x : Str} (hg : Gl X x) (hm : X.mg x = some (.ref CE)) (r : XB X.K CE) (ha : PA X (e :: es) ta)
    (hdb : (x == ("__debug__" : Str)) = false := by decide)
    (hc : eval (.Call (.Attribute (.Name x p1) "__init__" p2) (e :: es) [] pos) X.env = (do
      let ov ← eval (.Name x p1) X.env
      standAt p2.atName
      let (f, first) ← holding [ov] (getMethod ov "__init__" pl)
      callWith pos f first (backTo pos (starEach (e :: es) X.env)) (backToKw pos (keywordEach [] X.env))) := by rfl)
    (he : starEach (e :: es) X.env = (false, eval e X.env) :: starEach es X.env := by rfl) (hpl : (backTo pos (starEach es X.env)).any (·.1) = false := by rfl) :
    PE X (.Call (.Attribute (.Name x p1) "__init__" p2) (e :: es) [] pos) (tVeI X.K ta) := by
  refine ⟨fun pins s σ H Q I h => ?_⟩
  refine PySem.W.methodCall_KW (ld_glob I hg hm ?_ hdb) hc
  refine PySem.W.method_cls I.kIn r.rd.ga (PySem.W.cls_value I.kIn r.rd.rd r.at_ (by decide +kernel) ?_)
  show wpAny _ _ (callWith pos (Value.builtin "ValueError.__init__") [] (backTo pos (starEach (e :: es) X.env)) []) _ _ _
  refine PyProof.Rows.callWith_method1 (thn (ha.run pos pins _ σ H _ (I.tok _) h) fun us s1 ⟨vs, H1, I1, r1, a, C, ws, ev, hl, T, ea, q⟩ => ?_) he hpl
  subst ev
  cases r1 with
  | @cons _ u0 _ ur ra rw' =>
    obtain rfl : u0 = Value.ref a := ra
    have hlen : ur.length ≤ sizeLine := by
      rw [← Paired.length rw', sizeLine_eq]
      omega
    exact oinit_ok T I1 ea hlen fun s' J => ⟨.non, H1, J, rfl, q⟩
end
/-! ### raise in the mirror -/
def sRaise0 (C : Addr) : TSm := fun N E h => N.xs ⟨C, []⟩ E h
def sRaise1 (C : Addr) (ns : List Str) (t : TAm) : TSm := fun N E h => t E h (fun ds h' => ds.length = ns.length ∧ (∀ d ∈ ds, onInt d fun i => i.natAbs.log2 < 1920) ∧ N.xs ⟨C, (ns.zip ds).reverse⟩ E h') (N.xk E)
section
variable {X : Cx} {W : WX}
theorem ms_raise0 {C : Addr} {x m : Str} {j : Nat} {p p2 pos pos' : Pos} (hc : X.calm = true) (tk : Takes X W) (F : X0 X.K C) (gC : X.mg x = some (.ref C)) (hg : Gl X x) (hdb : (x == ("__debug__" : Str)) = false := by decide) :
    MS X W (.Raise (some (.Call (.Name x p) [.Constant (.str m) j p2] [] pos)) none pos') (sRaise0 C) := fun B => (ps_raise hc tk (pmk_own PySem.F.excBase_ValueError F.q gC F.kC (raises_own F.bC F.tC) hg hdb)).impM fun D σ H ⟨F, E, h, N, R, ht, c⟩ =>
  c.2.2.2.2 ⟨C, []⟩ h F E σ H (.ref C) none (Le.refl F) R ⟨rfl, .inl ⟨rfl, rfl⟩⟩ ht
/-- an __init__ that stores what it gets under the names ns -/
def sp_oinit (K : Kf) (ns : List Str) : Sp := fun vs H Q _ => ∃ (a C : Addr) (is : List Int), OexC K C ∧ (∀ n ∈ ns, PySem.W.findIn K (.ref C) n = some none) ∧ vs = .ref a :: is.map V.int ∧ is.length = ns.length ∧ (∀ i ∈ is, i.natAbs.log2 < 1920) ∧ H a = some (exo a C none) ∧
  ∀ d, H d = none → d ≠ a → Q .non (upd (upd H d (exd d (ns.zip (is.map V.int)).reverse)) a (exo a C (some d)))
theorem ints_of : ∀ {ds : List D} {K : Kf} {F : Hp} {vs : List V}, Reps K F ds vs → (∀ d ∈ ds, onInt d fun i => i.natAbs.log2 < 1920) → ∃ is : List Int, ds = is.map D.int ∧ vs = is.map V.int ∧ ∀ i ∈ is, i.natAbs.log2 < 1920
  | _, _, _, _, .nil, _ => ⟨[], rfl, rfl, fun _ h => nomatch h⟩
  | d :: ds, K, F, _, .cons a r, h => by
    obtain ⟨is, rfl, rfl, hi⟩ := ints_of r fun d hd => h d (List.mem_cons_of_mem _ hd)
    obtain ⟨i, rfl, rfl, h1⟩ := int_of a (h d List.mem_cons_self)
    refine ⟨i :: is, rfl, rfl, fun j hj => ?_⟩
    rcases List.mem_cons.mp hj with rfl | hj
    · exact h1
    · exact hi j hj
theorem repF_zip {K : Kf} {F : Hp} : ∀ {ns : List Str} {is : List Int}, RepF K F (ns.zip (is.map D.int)) (ns.zip (is.map V.int))
  | [], _ => .nil
  | _ :: _, [] => .nil
  | _ :: _, i :: _ => .cons (.int i) repF_zip
theorem RepF.app {K : Kf} {F : Hp} : ∀ {xs ys : List (Str × D)} {vs ws : List (Str × V)}, RepF K F xs vs → RepF K F ys ws → RepF K F (xs ++ ys) (vs ++ ws)
  | _, _, _, _, .nil, r => r
  | _, _, _, _, .cons a r, s => .cons a (RepF.app r s)
theorem RepF.rev {K : Kf} {F : Hp} : ∀ {xs : List (Str × D)} {vs : List (Str × V)}, RepF K F xs vs → RepF K F xs.reverse vs.reverse
  | _, _, .nil => .nil
  | _, _, .cons a r => by
    rw [List.reverse_cons, List.reverse_cons]
    exact (RepF.rev r).app (.cons a .nil)
theorem ms_raise1 {C fI : Addr} {ns : List Str} {k : Nat} {fd : FuncData} {ps : List Str} {x : Str} {e : Expr} {es : List Expr} {p pos pos' : Pos} {t : TAm} (hc : X.calm = true) (tk : Takes X W) (F : X1 X.K C fI ns)
    (G : FnOk X.prog X.w X.K X.mg X.base (L2.CX X.prog X.w) k fI fd ps (sp_oinit X.K ns)) (hr : Room (k + 1) X.A) (hb : Binds X.K fd ps []) (hx : Passes (L2.CX X.prog X.w) X (fun _ _ _ => False)) (gC : X.mg x = some (.ref C)) (hg : Gl X x) (ha : MA X W (e :: es) t) (l2 : ns.length ≤ 2)
    (hdb : (x == ("__debug__" : Str)) = false := by decide) (he : starEach (e :: es) X.env = (false, eval e X.env) :: starEach es X.env := by rfl) (hpl : (backTo pos (starEach es X.env)).any (·.1) = false := by rfl) :
    MS X W (.Raise (some (.Call (.Name x p) (e :: es) [] pos)) none pos') (sRaise1 C ns t) := fun B => (ps_raise hc tk (pmk_oex F.o F.i F.ti G hr hb .nil hx hg gC (ha B) hdb he hpl)).impM fun D σ H ⟨Fh, E, h, N, R, ht, c⟩ => by
  refine ⟨Fh, E, h, _, N.xk E, R, ht, fun x h' F' H' a dx l R' q k => c.2.2.2.2 x h' F' E σ H' a dx l R' q k, fun ds h1 F1 H1 vs l1 R1 r1 k1 => ?_⟩
  obtain ⟨kl, ki, k1⟩ := k1
  obtain ⟨is, rfl, rfl, hi⟩ := ints_of r1 ki
  have li : is.length = ns.length := by rw [← kl, List.length_map]
  refine ⟨by rw [List.length_map]; omega, fun a ha => ⟨a, C, is, F.o, F.nf, by rw [List.append_nil], li, hi, upd_same, fun d hd da => ?_⟩⟩
  have hd1 : H1 d = none := by rw [upd_ne da] at hd; exact hd
  refine ⟨rfl, d, _, upd_same, by rw [upd_ne da, upd_same], hd1, ?_⟩
  have e1 : upd (L2.del (upd (upd (upd H1 a (exo a C none)) d (exd d (ns.zip (is.map V.int)).reverse)) a (exo a C (some d))) a) d (.xd (ns.zip (is.map V.int)).reverse) = upd H1 d (.xd (ns.zip (is.map V.int)).reverse) := by
    funext b
    by_cases h1 : b = d
    · rw [h1, upd_same, upd_same]
    · rw [upd_ne h1, upd_ne h1]
      by_cases h2 : b = a
      · rw [h2, L2.del_same, ha]
      · rw [L2.del_ne h2, upd_ne h2, upd_ne h1, upd_ne h2]
  rw [e1]
  have l2 : Le F1 (upd F1 d (.xd (ns.zip (is.map V.int)).reverse)) := Le.new (R1.noF hd1)
  exact c.2.2.2.2 _ h1 _ E σ _ (.ref C) (some d) (l1.trans l2) (R1.newF hd1) ⟨rfl, .inr ⟨d, _, rfl, upd_same, repF_zip.rev⟩⟩ k1
end
/-! ### such an __init__ of one name, of two -/
section
variable {P : Program} {w : World} {K : Kf} {mg : Str → Option Value} {base : Heap} {qual : Str} {st : Stmt} {f CE : Addr} {fd : FuncData} {x n1 n2 : Str}
def oBody1 (x n1 s0 : Str) (j0 : Nat) (p1 p2 p3 p4 p5 p6 p7 p8 p9 p10 p11 p12 p13 : Pos) : List Stmt :=
  [.Expr (.Call (.Attribute (.Name x p1) "__init__" p2) [.Name "self" p3, .JoinedStr [.Constant (.str s0) j0 p4, .FormattedValue (.Name n1 p5) (-1) none p6] p7] [] p8) p9,
   .Assign [.Attribute (.Name "self" p10) n1 p11] (.Name n1 p12) p13]
end
end M3
set_option Elab.async false
set_option linter.all false
set_option maxRecDepth 100000
set_option maxHeartbeats 4000000
/-! M5B: a lambda made. -/
namespace M3
open PySem PySem.Spec PyProof.Rows L2
section
variable {X : Cx} {pins : List (Addr × Obj)} {σ : L2.St} {H : Hp} {s : Shared}
theorem lamO_ok {P : Program} {w : World} {H : Hp} {h : Heap} {f c' : Addr} {dV : Value} {c : LX} {j : Nat} {doc pm ctv : Value} (e : h.get? f = some (PySem.W.kdv_obj "<lambda>" c.q (c.lam j).params (.expr (c.lam j).body) (c.lam j).scope (cloFrom c.cells (c.lam j).scope.names []) dV doc pm c' ctv)) : ObjOk P w H h f (LamO f c' dV c j) :=
  ⟨⟨doc, pm, ctv, e⟩, ⟨_, e⟩, fun h1 h2 z k => by
    obtain ⟨d, p, q, z⟩ := z
    exact ⟨d, p, q, k _ z⟩⟩
theorem lam_tail {c : LX} {j : Nat} {cc P : Addr} {dV : Value} {pos : Pos} {n : Nat} {A : Around} {E : Value → Shared → Prop} {Q : Value → Shared → Prop} (I : Inv X pins σ H s) (TB : LamX.TabB X.base X.mg cc P) (hcode : X.env.code = .ref cc) (hT : LamX.TabS H P c.q) (hcl : c.cells = X.env.cells)
    (hfree : ∀ y ∈ (c.lam j).scope.names, y.2 = .free → ∃ c, X.env.cells.lookup y.1 = some c)
    (h : ∀ (f c' : Addr) (H1 : Hp) (s' : Shared), Inv X pins σ (upd H1 f (LamO f c' dV c j)) s' → H1 f = none → H1 c' = some (LamX.CodeO c' c.q) → ((H1 = H ∧ ∃ ps pos, H P = some (.tbl ps) ∧ codeAmong pos ps.toList = some (.ref c')) ∨ ∃ ps ps', H P = some (.tbl ps) ∧ H c' = none ∧ H1 = upd (upd H P (.tbl ps')) c' (LamX.CodeO c' c.q) ∧ TriplesOk ps'.toList ∧ ∀ p cv, codeAmong p ps'.toList = some cv → codeAmong p ps.toList = some cv ∨ cv = .ref c') → Q (.ref f) s') :
    wpAny (model X.prog X.w) A (makeTail "<lambda>" c.q (c.lam j).params (.expr (c.lam j).body) (c.lam j).scope X.env dV .none none pos n) Q E s := by
  obtain ⟨ps, hP, ht, ha⟩ := id hT
  have bP : s.heap.BuiltinsAt X.mg P := TB.bm.keeps I.bk
  have hP' : s.heap.get? P = some { cls := .none, data := .fields ps } := I.hok P _ hP
  have hclo : closureFor (c.lam j).scope X.env = pure (cloFrom c.cells (c.lam j).scope.names []) := by
    rw [hcl]
    exact closure_ok hfree
  cases hc : codeAmong pos ps.toList with
  | none =>
    refine PySem.W.kdv_makeTail (mg := X.mg) (c := cc) (P := P) (ps := ps) hclo I.ok.glob (I.mod.glob.keeps I.bk) hcode (TB.code.keeps I.bk) hP' ht hc TB.gP bP fun c' ctv doc h' tk hx hge hlt hrec htb => ?_
    obtain ⟨c2, oc, vs, t, e2, hoc, hd, hv⟩ := hrec
    cases e2
    have nC : H c' = none := I.hok.fresh hge
    have I1 := LamX.inv_table (t' := tk) (more := #[rawInt pos.line, rawInt pos.col, .ref c']) (h' := h') I hP (fun b o hb e => hx b o hb e) htb hge ⟨oc, vs, t, hoc, hd, hv⟩
    have I2 := I1.laid (t' := tk) (a := h'.objs.size) (o := LamO h'.objs.size c' dV c j) (h' := h'.push (PySem.W.kdv_obj "<lambda>" c.q (c.lam j).params (.expr (c.lam j).body) (c.lam j).scope (cloFrom c.cells (c.lam j).scope.names []) dV doc ((X.mg "__name__").getD .none) c' ctv))
      (fun b o e => Heap.get?_push_of_some _ e) (Nat.le_refl _) (lamO_ok (Heap.get?_push_size _ rfl))
    have eL : (ps ++ #[rawInt pos.line, rawInt pos.col, .ref c']).toList = ps.toList ++ [rawInt pos.line, rawInt pos.col, .ref c'] := by simp
    exact h h'.objs.size c' _ _ I2 (I1.hok.fresh (Nat.le_refl _)) upd_same (.inr ⟨ps, _, hP, nC, rfl, by rw [eL]; exact PySem.TriplesOk_snoc _ _ _ _ ht, fun p' cv hcv => by
      rw [eL] at hcv
      exact LamX.among_app _ ht hcv⟩)
  | some cv =>
    obtain ⟨c', e, hco⟩ := ha pos cv hc
    subst e
    refine PySem.W.kdv_makeTailHit (mg := X.mg) (c := cc) (P := P) (ps := ps) hclo I.ok.glob (I.mod.glob.keeps I.bk) hcode (TB.code.keeps I.bk) hP' ht hc bP fun ctv doc h' tk hx hsz => ?_
    have I1 : Inv X pins σ H { s with heap := h', toks := tk } := I.kept hx
    have I2 := I1.laid (t' := tk) (a := h'.objs.size) (o := LamO h'.objs.size c' dV c j) (h' := h'.push (PySem.W.kdv_obj "<lambda>" c.q (c.lam j).params (.expr (c.lam j).body) (c.lam j).scope (cloFrom c.cells (c.lam j).scope.names []) dV doc ((X.mg "__name__").getD .none) c' ctv))
      (fun b o e => Heap.get?_push_of_some _ e) (Nat.le_refl _) (lamO_ok (Heap.get?_push_size _ rfl))
    exact h h'.objs.size c' H _ I2 (I1.hok.fresh (Nat.le_refl _)) hco (.inl ⟨rfl, ps, pos, hP, hc⟩)
end
section
variable {K : Kf} {B F : Hp} {E : En} {h : MH} {σ : L2.St} {H : Hp}
theorem Rel.code (R : Rel K B F E h σ H) {P c' : Addr} {q : Str} {ps ps' : Array Value} (z : CT K P q) (hP : H P = some (.tbl ps)) (n : H c' = none) (ht : TriplesOk ps'.toList)
    (hc : ∀ p cv, codeAmong p ps'.toList = some cv → codeAmong p ps.toList = some cv ∨ cv = .ref c') : Rel K B (upd F c' (LamX.CodeO c' q)) E h σ (upd (upd H P (.tbl ps')) c' (LamX.CodeO c' q)) := by
  have t := R.tab P q z
  have nPc : P ≠ c' := R.nn z n
  have at_ : ∀ b, b ≠ P → b ≠ c' → upd (upd H P (.tbl ps')) c' (LamX.CodeO c' q) b = H b := fun b h1 h2 => by rw [upd_ne h2, upd_ne h1]
  have l : Le F (upd F c' (LamX.CodeO c' q)) := Le.new (R.noF n)
  refine ⟨fun a o e => ?_, fun a o e => ?_, fun a m e => ?_, R.slot.mono l, fun P2 q2 z2 => ?_⟩
  · have y := R.out a o e
    have n1 : a ≠ P := ne_of_none e t.2.1
    have n2 : a ≠ c' := ne_of_none y.1 n
    rw [at_ a n1 n2, upd_ne n2]
    exact y
  · by_cases n2 : a = c'
    · subst n2
      rw [upd_same] at e ⊢
      exact ⟨e, R.noh n⟩
    · rw [upd_ne n2] at e
      have n1 : a ≠ P := ne_of_none e t.2.2.1
      rw [at_ a n1 n2]
      exact R.frz a o e
  · have n1 : a ≠ P := fun y => by
      rw [y, t.2.2.2] at e
      cases e
    have n2 : a ≠ c' := fun y => by
      rw [y, R.noh n] at e
      cases e
    exact (R.cel a m e).mono l (at_ a n1 n2)
  · by_cases c : P2 = P
    · subst c
      obtain rfl : q2 = q := Option.some.inj ((show ctab K P2 = some q2 from z2).symm.trans z)
      refine ⟨⟨ps', by rw [upd_ne nPc, upd_same], ht, fun p cv y => ?_⟩, t.2.1, (upd_ne nPc).trans t.2.2.1, t.2.2.2⟩
      rcases hc p cv y with y | y
      · obtain ⟨⟨ps0, e0, _, k0⟩, _⟩ := t
        rw [hP] at e0
        cases e0
        obtain ⟨c1, h1, h2⟩ := k0 p cv y
        exact ⟨c1, h1, l.ex _ _ h2⟩
      · exact ⟨c', y, upd_same⟩
    · have t2 := R.tab P2 q2 z2
      have n2 : P2 ≠ c' := R.nn z2 n
      exact ⟨t2.1.mono l (at_ P2 c n2), t2.2.1, (upd_ne n2).trans t2.2.2.1, t2.2.2.2⟩
end
def mLam (c : LX) (j : Nat) : TVm := fun _ h Kn _ => Kn (.lam j c) h
/-- the default, 0, or none -/
def Dflt0 (a : Arguments) : Prop := a.kw_defaults = [] ∧ (a.defaults = [] ∨ ∃ i p, a.defaults = [.Constant (.int 0) i p])
section
variable {X : Cx} {W : WX}
theorem lam_val {B F : Hp} {E : En} {h : MH} {pins : List (Addr × Obj)} {σ : L2.St} {H : Hp} {s : Shared} {c : LX} {j : Nat} {cc P : Addr} {dV : Value} {pos : Pos} {n : Nat} {Q : VK} (R : Rel X.K B F E h σ H) (I : Inv X pins σ H s) (TB : LamX.TabB X.base X.mg cc P) (hcode : X.env.code = .ref cc) (z : CT X.K P c.q) (hcl : c.cells = X.env.cells)
    (hfree : ∀ y ∈ (c.lam j).scope.names, y.2 = .free → ∃ c, X.env.cells.lookup y.1 = some c) (hd : DefOk F (c.lam j).params dV)
    (hn : ∀ F' H' v, Le F F' → Rel X.K B F' E h σ H' → Rep X.K F' (.lam j c) v → Q v H') :
    wpAny (model X.prog X.w) X.A (makeTail "<lambda>" c.q (c.lam j).params (.expr (c.lam j).body) (c.lam j).scope X.env dV .none none pos n) (EP X pins σ Q) X.xe s := by
  have t := R.tab P c.q z
  obtain ⟨ps, e1, e2, e3⟩ := id t.1
  refine lam_tail I TB hcode ⟨ps, e1, e2, fun p cv y => ?_⟩ hcl hfree fun f c' H1 s' I1 nf hc' st => ?_
  · obtain ⟨c1, h1, h2⟩ := e3 p cv y
    exact ⟨c1, h1, (R.frz _ _ h2).1⟩
  rcases st with ⟨rfl, ps0, p0, y1, y2⟩ | ⟨ps0, ps', y1, y2, rfl, y3, y4⟩
  · rw [e1] at y1
    cases y1
    obtain ⟨c1, h1, h2⟩ := e3 p0 _ y2
    cases h1
    have l : Le F (upd F f (LamO f c' dV c j)) := Le.new (R.noF nf)
    exact ⟨.ref f, _, I1, rfl, hn _ _ _ l (R.newF nf) (.lam upd_same (l.ex _ _ h2) (hd.mono l))⟩
  · have R1 := R.code z y1 y2 y3 y4
    have l1 : Le F (upd F c' (LamX.CodeO c' c.q)) := Le.new (R.noF y2)
    have l2 : Le (upd F c' (LamX.CodeO c' c.q)) (upd (upd F c' (LamX.CodeO c' c.q)) f (LamO f c' dV c j)) := Le.new (R1.noF nf)
    exact ⟨.ref f, _, I1, rfl, hn _ _ _ (l1.trans l2) (R1.newF nf) (.lam upd_same (l2.ex _ _ upd_same) (hd.mono (l1.trans l2)))⟩
theorem mv_lam {c : LX} {j : Nat} {cc P : Addr} {params : Arguments} {body : Expr} {scope : Scope} {pos : Pos} (TB : LamX.TabB X.base X.mg cc P) (hcode : X.env.code = .ref cc) (z : CT X.K P c.q) (hq : c.q = X.env.qual ++ "<lambda>") (hcl : c.cells = X.env.cells) (hl : c.lam j = ⟨params, body, scope⟩)
    (hfree : X.Ok → ∀ y ∈ scope.names, y.2 = .free → ∃ c, X.env.cells.lookup y.1 = some c) (hd : Dflt0 params) : MV X W (.Lambda params body scope pos) (mLam c j) := fun B => by
  refine ⟨fun pins s σ H Q I h => ?_⟩
  obtain ⟨F, E, h, Kn, Kx, R, ht, hx, hn⟩ := h
  have fr : ∀ y ∈ (c.lam j).scope.names, y.2 = .free → ∃ c, X.env.cells.lookup y.1 = some c := by rw [hl]; exact hfree I.ok
  obtain ⟨hk0, hd⟩ := hd
  obtain rfl : params = (c.lam j).params := by rw [hl]
  obtain rfl : body = (c.lam j).body := by rw [hl]
  obtain rfl : scope = (c.lam j).scope := by rw [hl]
  rcases hd with h0 | ⟨i, p, h0⟩
  · refine PySem.W.kla_eval (by rw [defaultsOf_eq, hk0, h0]; rfl) ?_
    rw [makeFunction_eq, ← hq]
    simp only [List.zip_nil_right, List.filterMap_nil, List.isEmpty_nil, if_true, pure_bind]
    exact lam_val R I TB hcode z hcl fr (.inl ⟨h0, rfl⟩) fun F' H' v l R' rp => hn _ h F' H' v l R' rp ht
  · refine PySem.W.kdv_lam (by rw [h0]; rfl) hk0 ?_
    rw [h0]
    refine PySem.W.kdv_all1 (thn (pe_int.run pins s σ H (fun v H1 => v = .int 0 ∧ H1 = H) I ⟨rfl, rfl⟩) fun u s1 ⟨v, H1, I1, r1, q1⟩ => PySem.W.kdv_all0 ?_)
    obtain ⟨rfl, rfl⟩ := q1
    obtain ⟨tk, rfl⟩ := r1
    rw [makeFunction_eq, ← hq]
    simp only [List.zip_nil_right, List.filterMap_nil, List.isEmpty_nil, List.isEmpty_cons, if_true, pure_bind, Bool.false_eq_true, if_false]
    refine wpAny_bind (wpAny_newTextTuple ?_)
    have hp := I1.hok.fresh (Nat.le_refl _)
    have I2 := I1.laid (t' := s1.toks) (a := s1.heap.objs.size) (o := .tup [.int 0]) (h' := s1.heap.push { cls := .type "tuple", data := .seq [Value.int 0 tk].toArray }) (fun b u q => Heap.get?_push_of_some _ q) (Nat.le_refl _)
      ⟨by show 1 ≤ sizeLine; decide, [Value.int 0 tk], .cons ⟨tk, rfl⟩ .nil, _, Heap.get?_push_size _ rfl, rfl, _, rfl⟩
    have l : Le F (upd F s1.heap.objs.size (.tup [.int 0])) := Le.new (R.noF hp)
    exact lam_val (R.newF hp) I2 TB hcode z hcl fr (.inr ⟨by rw [h0]; simp, _, rfl, upd_same⟩) fun F' H' v l2 R' rp => hn _ h F' H' v (l.trans l2) R' rp ht
end
end M3
set_option Elab.async false
set_option linter.all false
set_option maxRecDepth 100000
set_option maxHeartbeats 4000000
/-! M5C: what a caught error is. -/
namespace PySem.W
open PySem PySem.Spec PySem.Calls PyProof.Rows
section
variable {prog : Program} {w : World} {A : Around} {E : Value → Shared → Prop} {s : Shared} {K : Frag} {x D : Addr} {ox : Obj} {od : Option Obj}
theorem m5_findObj {C : Addr} {name : Str} {a g : Value} (hc : (clsIn K C).isSome = true) (ha : findIn K (.ref C) name = some (some a)) (hg : specialIn K a "__get__" = some (some g)) (ht : takesIn K a = some true) : findObj K C od name = some (.bind g a) := by
  obtain ⟨cd, hc⟩ := Option.isSome_iff_exists.mp hc
  unfold findObj
  rw [hc, Option.bind_some, ha, Option.bind_some]
  simp [hg, ht]
theorem m5_classE {Q : Option Value → Shared → Prop} (hga : findIn K (.ref D) "__getattribute__" = some (some (.builtin "BaseException.__getattribute__"))) (hgt : findIn K (.ref D) "__getattr__" = some none) (hsub : subIn K (.ref D) (.type "BaseException") = some true)
    (hdct : hasDictIn K D = true) (ha : findIn K (.ref D) "__class__" = some (some (.builtin "object.__class__")))
    (hn : specialIn K (.builtin "object.__class__") "__get__" = some (some (.builtin "getset_descriptor.__get__"))) (htk : takesIn K (.builtin "object.__class__") = some true) (hm : mroIn K D (.type "object") = some true)
    (X : K.In s.heap) (I : InstAt s.heap x ox D od) (h : Q (some (.ref D)) { s with toks := s.toks + 1 }) : wpAny (model prog w) A (getAttr? (.ref x) "__class__") Q E s := by
  have hf : findObj K D od "__class__" = some (.bind (.builtin "getset_descriptor.__get__") (.builtin "object.__class__")) := m5_findObj (by obtain ⟨cd, hc, _⟩ := any_some hdct; rw [hc]; rfl) ha hn htk
  obtain ⟨hp, g, d, t, os⟩ := s
  have L0 := I.type (M := model prog w)
  have L1 := looks_findIn (M := model prog w) X hga
  have L2 := looks_findIn (M := model prog w) X hgt
  have L3 := looks_find (M := model prog w) X I hf
  have sub : Looks (model prog w) hp (isInstance (.ref x) (.type "BaseException")) true := L0.andThen (looks_subIn X hsub)
  have hx0 : (false && onTheHeap (Value.builtin "BaseException.__getattribute__")) = false := rfl
  have hx2 : (Value.builtin "BaseException.__getattribute__" == Value.builtin "object.__getattribute__") = false := by decide +kernel
  have hx1 : (onTheHeap (Value.ref D) && Value.builtin "BaseException.__getattribute__" == Value.builtin "object.__getattribute__") = false := by rw [hx2]; rfl
  unfold getAttr? getAttrBy? getAttrBy
  refine wpAny_bind (wpAny_mkText (wpAny_bind (wpAny_attempt (wpAny_holding (wpAny_bind (L0.at (wpAny_bind (L1.at ?_))))))))
  show wpAny _ _ (if (onTheHeap (Value.ref D) && Value.builtin "BaseException.__getattribute__" == Value.builtin "object.__getattribute__") = true then _ else _) _ _ _
  rw [hx1, if_neg Bool.false_ne_true]
  unfold getAttrByItsOwn hookBefore
  refine wpAny_bind ?_
  rw [if_pos (show onTheHeap (Value.ref D) = true from rfl)]
  refine L2.at ?_
  refine wpAny_bind (wpAny_attempt (wpAny_holding ?_))
  unfold callGetattribute
  rw [hx0, if_neg Bool.false_ne_true]
  unfold boundAndCalled
  rw [PySem.F.excAttr_ValueError.ga.bind (.ref x)]
  refine wpAny_bind (wpAny_pure ?_)
  show wpAny _ _ (call (.builtin "BaseException.__getattribute__") [.ref x, .str "__class__" t]) _ _ _
  refine wpAny_call (codeAny_call_builtin PySem.F.excAttr_ValueError.ga.plain PySem.F.entry_bexc_ga ?_)
  refine @check_slot (model prog w) _ _ ⟨hp, g, d, t + 1, os⟩ "BaseException.__getattribute__" "BaseException" "__getattribute__" (.ref x) [.str "__class__" t] [] _ (by decide +kernel) (by decide +kernel) sub (PySem.F.args_bexc_ga (.ref x) (.str "__class__" t)) ?_
  unfold Builtin.«object.__getattribute__»
  refine wpAny_bind (wpAny_of_eq (a := ((Value.ref x : Value), [Value.str "__class__" t])) (by first | rfl | (simp only [slotArgs]; rfl)) ?_)
  refine wpAny_bind (wpAny_pure (wpAny_bind (L0.at (wpAny_bind (L3.at ?_)))))
  show wpAny _ _ (holding [Value.builtin "object.__class__"] (call (.builtin "getset_descriptor.__get__") [.builtin "object.__class__", .ref x, .ref D]) >>= ret) _ _ _
  refine wpAny_bind (wpAny_holding (wpAny_call (class_get (s := ⟨hp, g, d, t + 1, os⟩) (ox := ox) (od := od) X I hm ?_)))
  refine wpAny_pure ?_
  show wpAny _ _ (handedOut (.ref D)) _ _ _
  rw [handedOut_of (v := .ref D) rfl]
  first
    | exact wpAny_pure (wpAny_pure h)
    | exact wpAny_pure h
    | exact wpAny_pure (wpAny_bind (wpAny_pure (wpAny_pure h)))
theorem m5_kitx (hga : findIn K (.ref D) "__getattribute__" = some (some (.builtin "BaseException.__getattribute__"))) (hgt : findIn K (.ref D) "__getattr__" = some none) (hsub : subIn K (.ref D) (.type "BaseException") = some true) (hdct : hasDictIn K D = true) (ha : findIn K (.ref D) "__class__" = some (some (.builtin "object.__class__")))
    (hn : specialIn K (.builtin "object.__class__") "__get__" = some (some (.builtin "getset_descriptor.__get__"))) (htk : takesIn K (.builtin "object.__class__") = some true) (hm : mroIn K D (.type "object") = some true) :
    KitX K (.ref x) (.ref D) (fun h => InstAt h x ox D od) where
  ty := fun _ _ _ I => I.type
  it := fun _ _ X _ => by
    obtain ⟨cdD, hcD, _⟩ := any_some hdct
    unfold clsIn at hcD
    split at hcD
    · rename_i c' d' cd' sl' ho
      intro A' Q' E' s' k q
      unfold isType loadHead
      exact wpAny_bind (wpAny_loadPart (k _ _ (X _ _ ho)) (wpAny_pure q))
    · cases hcD
  ne := fun h tp dd its n sl X htp => by
    obtain ⟨cdD, hcD, _⟩ := any_some hdct
    refine Bool.eq_false_iff.mpr fun q => ?_
    have e : D = tp := Value.ref.inj (beq_iff_eq.mp q)
    subst e
    unfold clsIn at hcD
    split at hcD
    · rename_i c' d' cd' sl' ho
      have z := (X _ _ ho).symm.trans htp
      cases z
    · cases hcD
  ca := fun X I k => m5_classE hga hgt hsub hdct ha hn htk hm X I k
end
end PySem.W
namespace M3
open PySem PySem.Spec PyProof.Rows L2
/-- isinstance(e, c), e the exception that the suite holds, with a dict or without -/
def rIsE (K : PySem.W.Frag) (D a : Addr) (d : Option Addr) : List V → Hp → VK → Prop := fun xs H Q => ∃ (c : V) (cv : Value) (b : Bool), xs = [.ref a, c] ∧ (d = none ∨ ∃ dd ws, d = some dd ∧ H dd = some (.xd ws)) ∧ (∀ u, RelV c u → u = cv) ∧ PySem.W.kitOne K (.ref D) cv = some b ∧ Q (.bl b) H
theorem call_isE {X : Cx} {a D : Addr} {d : Option Addr} {oe : Obj} {pn : List (Addr × Obj)} (C : ExcC X.K D) (hz : Zc (.ref D) d oe) (hf : ∃ vs, oe.data = .fields vs) : CallR (X.suite a ((a, oe) :: pn)) (.builtin "isinstance") (rIsE X.K D a d) := by
  intro pins s σ H xs us Q I r h
  obtain ⟨c, cv, b, rfl, hd, hcv, e, q⟩ := h
  cases r with
  | cons rx rr =>
    cases rr with
    | cons rt rr =>
      cases rr
      cases rx
      have ec := hcv _ rt
      subst ec
      obtain ⟨hget, _⟩ := I.pin (a, oe) (List.mem_append.mpr (.inl List.mem_cons_self))
      obtain ⟨vs, hv⟩ := hf
      have J : ∃ od, PySem.W.InstAt s.heap a oe D od := by
        rcases hd with rfl | ⟨dd, ws, rfl, hdd⟩
        · obtain ⟨oc, od, oda, osl⟩ := oe
          obtain ⟨h1, h2⟩ := hz
          dsimp only at h1 h2 hv
          subst h1 h2 hv
          exact ⟨none, hget, rfl, rfl, trivial⟩
        · obtain ⟨mA, ⟨od, _, _, ho, _⟩, _⟩ : ObjOk X.prog X.w H s.heap dd (.xd ws) := I.hok dd _ hdd
          exact ⟨some od, hget, hz.1, by unfold PySem.W.notCls; rw [hv] <;> rfl, by rw [hz.2]; exact ho⟩
      obtain ⟨od, J⟩ := J
      exact PySem.W.kia_one (PySem.W.m5_kitx C.hg C.hk C.hs C.hd C.ha C.hn C.ht C.hm) I.kIn J e (fun z => nomatch z) fun tk => ⟨.bl b, H, I.kept (t' := tk) fun _ _ z => z, rfl, q⟩
/-! list.count of flat things -/
theorem eqU_count {K : PySem.W.Frag} {H : Hp} {y : V} : ∀ {us : List Value} {ys : List V}, Vals ys us → ys.all flatV = true → us.countP (eqU y) = ys.countP (fun z => eqV z y)
  | _, _, .nil, _ => rfl
  | _, _, .cons (a := a) ra r, f => by
    have f' := Bool.and_eq_true_iff.mp (show (flatV a && _) = true from f)
    rw [List.countP_cons, List.countP_cons, eqU_count (K := K) (H := H) r f'.2, eqU_of ra f'.1]
def rCntF (K : PySem.W.Frag) : V → List V → Hp → VK → Prop := fun x xs H Q => ∃ (p : Addr) (ys : List V) (y : V), x = .ref p ∧ xs = [y] ∧ SqL K H p ys ∧ flatV y = true ∧ ys.all flatV = true ∧ Q (.int (ys.countP (fun z => eqV z y) : Nat)) H
theorem mt_countF {X : Cx} : MtR X "list.count" (rCntF X.K) := by
  intro pins s σ H x xs v us Q I rx rxs h
  obtain ⟨p, ys, y, rfl, rfl, hs, fy, fys, q⟩ := h
  cases rx
  obtain ⟨u, rfl, ru⟩ := rxs.one
  obtain ⟨its, rv, ⟨⟨cls, dd, data, sl⟩, n, ho, hc, hdn, hd⟩, hlen⟩ := I.list hs
  simp only at hc hd
  subst hc hd
  refine call_meets PySem.F.slot_list_count ⟨_, ho, rfl⟩ PySem.F.entry_list_count (PySem.F.args_list_count_2 _ _)
    (SeqAt.list_countAt p its.toArray n dd sl u (eqU y)) ⟨ho, fun u' hu' => mem_eqAt ru fy rv fys u' (by simpa using hu'), ?_⟩
  have ec : its.toArray.toList.countP (eqU y) = ys.countP (fun z => eqV z y) := eqU_count (K := X.K) (H := H) rv fys
  refine ⟨.int (ys.countP (fun z => eqV z y) : Nat), H, I.tok _, ⟨s.toks, ?_⟩, q⟩
  show Value.int ((its.toArray.toList.countP (eqU y) : Nat) : Int) s.toks = Value.int ((ys.countP (fun z => eqV z y) : Nat) : Int) s.toks
  rw [ec]
end M3
set_option Elab.async false
set_option linter.all false
set_option maxRecDepth 100000
set_option maxHeartbeats 4000000
/-! M5D: a lambda called in a def that got it. -/
namespace M3
open PySem PySem.Spec PyProof.Rows L2
/-- ws: the slots whose names the lambda has as its own -/
structure LamS3 (N : List Str) (ws : List Nat) (sc scope : Scope) : Prop where
  kind : scope.kind = .function
  co : scope.isCoroutine = false
  gen : scope.isGenerator = false
  nocell : ∀ y ∈ scope.names, y.2 ≠ .cell
  own : ∀ y ∈ scope.names, y.2 = .local → ∀ i, i < N.length → N[i]? = some y.1 → i ∈ ws
  free : ∀ y ∈ scope.names, y.2 = .free → sc.names.lookup y.1 = some .cell ∨ sc.names.lookup y.1 = some .free
def lamSB3 (N : List Str) (ws : List Nat) (sc scope : Scope) : Bool :=
  decide (scope.kind = .function) && !scope.isCoroutine && !scope.isGenerator && scope.names.all fun y => !decide (y.2 = .cell) && (!decide (y.2 = .local) || decide (∀ i, i < N.length → N[i]? = some y.1 → i ∈ ws)) && (!decide (y.2 = .free) || decide (sc.names.lookup y.1 = some .cell) || decide (sc.names.lookup y.1 = some .free))
theorem lamS3_by {N : List Str} {ws : List Nat} {sc scope : Scope} (h : lamSB3 N ws sc scope = true) : LamS3 N ws sc scope := by
  unfold lamSB3 at h
  simp only [Bool.and_eq_true, Bool.or_eq_true, Bool.not_eq_true', decide_eq_true_eq, decide_eq_false_iff_not, List.all_eq_true] at h
  obtain ⟨⟨⟨h1, h2⟩, h3⟩, h4⟩ := h
  refine ⟨h1, h2, h3, fun y hy => (h4 y hy).1.1, fun y hy e => ?_, fun y hy e => ?_⟩
  · rcases (h4 y hy).1.2 with z | z
    · exact absurd e z
    · exact z
  · rcases (h4 y hy).2 with (z | z) | z
    · exact absurd e z
    · exact .inl z
    · exact .inr z
theorem LamS3.has {X : Cx} {ws : List Nat} {scope : Scope} (L : LamS3 X.N ws X.env.scope scope) (ok : X.Ok) : ∀ y ∈ scope.names, y.2 = .free → ∃ c, X.env.cells.lookup y.1 = some c := fun y hy e => by
  rcases L.free y hy e with k | k
  · exact ok.has _ (.inl k)
  · exact ok.has _ (.inr k)
section
variable {X : Cx} {pins : List (Addr × Obj)} {σ : L2.St} {H HZ : Hp} {s s1 : Shared}
theorem lam_start3 {A : Around} {outer : List Env} {E : XK} {scope : Scope} {f c' : Addr} {h₁ : Heap} {tk : Nat} {binds : List (Str × Value)} {ws : List Nat} (hws : ∀ i ∈ ws, ∀ v, σ[i]? ≠ some (some v)) (I : Inv X pins σ H s) (L : LamS3 X.N ws X.env.scope scope) (e0 : Env0 X.prog X.w X.K X.mg X.base A outer s1 HZ) (hd : A.handled = none)
    (un : Un (frs X.stack) [] H HZ s.heap s1.heap) (hns : h₁.Ns s1.heap.objs.size fun y => binds.reverse.lookup y) (kp : ∀ b o, s1.heap.get? b = some o → h₁.get? b = some o) :
    Inv (LamX.lamCx X A outer s1 HZ E scope f c') [] σ HZ { s1 with heap := h₁, toks := tk } := by
  have hfree := L.has I.ok
  have cm : ∀ {y c}, (cloFrom X.env.cells scope.names []).lookup y = some c → X.env.cells.lookup y = some c := fun {y c} e => by
    rcases cloFrom_mem (PySem.mem_of_lookup e) with hm | ⟨h1, h2⟩
    · cases hm
    · obtain ⟨c1, hc⟩ := hfree _ h1 rfl
      have hc : X.env.cells.lookup y = some c1 := hc
      have e2 : c = c1 := by
        rw [h2, hc] <;> rfl
      rw [e2]
      exact hc
  have look : ∀ {y}, scope.names.lookup y = some .free → ∃ c, (cloFrom X.env.cells scope.names []).lookup y = some c := fun {y} hl => by
    have hy : (y, NameKind.free) ∈ scope.names := PySem.mem_of_lookup hl
    exact mem_lookup (cloFrom_has (cells := X.env.cells) (acc := []) hy)
  have cellK : ∀ {c : Addr} {v : Option Value}, H c = none → s.heap.IsCell c v → h₁.IsCell c v := fun {c v} n ⟨o, ho, hd⟩ => by
    obtain ⟨sl, q⟩ := un.any ho n (by simp)
    exact ⟨_, kp _ _ q, hd⟩
  have noA : ∀ b : Addr, b ∉ (LamX.lamCx X A outer s1 HZ E scope f c').ex := fun b z => absurd (show b ∈ ([] : List Addr) from z) (by simp)
  refine ⟨⟨e0.mod, L.kind, rfl, rfl, Nat.le_refl _, fun y z c e1 e2 => I.ok.inj y z c (cm e1) (cm e2), fun y hy => ?_, fun y c z _ => ?_, fun _ => hd, Around.frames_deeper e0.frames, .inr ⟨rfl, rfl⟩, fun b z => absurd z (noA b), e0.bs, e0.bsz, fun b _ _ => noA b,
      fun b z => absurd z (noA b), e0.funs, e0.frf⟩,
    rfl, e0.bare, Un.kept kp, ⟨_, hns, fun i y v e1 e2 e3 => ?_⟩, fun y c e => ?_, e0.hok.fresh (Nat.le_refl _), fun y c e => ?_, fun q hq => absurd (show q ∈ ([] : List (Addr × Obj)) ++ [] from hq) (by simp), e0.hok.kept kp, I.len⟩
  · have hy : scope.names.lookup y = some .cell ∨ scope.names.lookup y = some .free := hy
    rcases hy with hy | hy
    · exact absurd rfl (L.nocell _ (PySem.mem_of_lookup hy))
    · exact look hy
  · have z : false = true := z
    cases z
  · have e3 : Vis scope y := e3
    have e1 : X.N[i]? = some y := e1
    rcases e3 with k | k | k
    · exact absurd e2 (hws i (L.own _ (PySem.mem_of_lookup k) rfl i (List.getElem?_eq_some_iff.mp e1).1 e1) v)
    · exact absurd rfl (L.nocell _ (PySem.mem_of_lookup k))
    · obtain ⟨m, hn, hl⟩ := I.loc
      have hvis : Vis X.env.scope y := (L.free _ (PySem.mem_of_lookup k) rfl).elim (fun k => .inr (.inl k)) (fun k => .inr (.inr k))
      obtain ⟨w', r, q⟩ := hl i y v e1 e2 hvis
      obtain ⟨c2, h2⟩ := look k
      refine ⟨w', r, .inr ⟨.inr k, c2, h2, ?_⟩⟩
      have c1 := cm h2
      rcases q with ⟨k', _⟩ | ⟨_, c3, e', z⟩
      · have k' : X.env.scope.names.lookup y = some .local := k'
        rcases L.free _ (PySem.mem_of_lookup k) rfl with k2 | k2 <;> rw [show X.env.scope.names.lookup y = _ from k2] at k' <;> cases k'
      · rw [c1] at e'
        cases e'
        exact cellK (I.freeC y _ c1) z
  · obtain ⟨w', z⟩ := I.cell y c (cm e)
    exact ⟨w', cellK (I.freeC y c (cm e)) z⟩
  · obtain ⟨v, o, ho, hd⟩ := I.cell y c (cm e)
    exact un.free c o ho (I.freeC y c (cm e)) (by simp)
/-- how a lambda called without arguments binds -/
def LamBind (l : LamT) : Prop :=
  (l.params.defaults = [] ∧ ∀ (q : Str) (cl : List (Str × Addr)) (doc pm cv ctv : Value), bindArgs (PySem.W.kdv_fn "<lambda>" q l.params (.expr l.body) l.scope cl .none doc pm cv ctv) ⟨[], []⟩ = pure []) ∨
  (l.params.defaults ≠ [] ∧ ∃ nm, l.scope.names.lookup nm = some .local ∧ ∀ (q : Str) (cl : List (Str × Addr)) (d : Addr) (doc pm cv ctv : Value), ∃ kk : Option (Array Value) → Sem (List (Str × Value)),
    bindArgs (PySem.W.kdv_fn "<lambda>" q l.params (.expr l.body) l.scope cl (.ref d) doc pm cv ctv) ⟨[], []⟩ = seqItems? (.ref d) >>= kk ∧ ∀ v, kk (some #[v]) = pure [(nm, v)])
/-- x(), in the def that got the lambda: Z is that def's context, entered at s -/
theorem pe_act3 {CXg : CXT} {Eg : XK} {Ng : List Str} {qg : Str} {sg : Scope} {g : Addr} {cdg : Value} {c : LX} {j : Nat} {k i : Nat} {a : Str} {pn : List (Addr × Obj)} {xe : Value → Shared → Prop} {W : WX} {E : XK} {tb : TE} {p1 p2 : Pos} {ws : List Nat}
    (hws : ∀ i ∈ ws, ∀ v, σ[i]? ≠ some (some v)) (I : Inv X pins σ H s) (hq : c.q = X.env.qual ++ "<lambda>") (hcl : c.cells = X.env.cells) (L : LamS3 X.N ws X.env.scope (c.lam j).scope) (hb : LamBind (c.lam j))
    (tk : Takes ((cxOf CXg X.prog X.w X.K X.mg X.base Ng qg sg g cdg X.A X.stack s H Eg).tr pn xe) W) (hr : Room (k + 1) (X.A.deeper (envOfC qg sg s.heap.objs.size g cdg)))
    (hbody : ∀ (f c' : Addr) (A : Around) (outer : List Env) (s : Shared) (H : Hp), Room k (A.deeper (LamX.lamEnv X (c.lam j).scope s.heap.objs.size f c')) → PE (LamX.lamCx X A outer s H E (c.lam j).scope f c') (c.lam j).body tb)
    (hN : Ng[i]? = some a) (hv : Vis sg a) (hd : (a == ("__debug__" : Str)) = false := by decide) (hcd : (a == ("__classdict__" : Str)) = false := by decide) :
    PE ((cxOf CXg X.prog X.w X.K X.mg X.base Ng qg sg g cdg X.A X.stack s H Eg).tr pn xe) (.Call (.Name a p1) [] [] p2)
      (fun σZ HZ Q => (∀ cls d H', E cls d H' → W cls d σZ H') ∧ ∃ (f c' : Addr) (dV : Value), σZ[i]? = some (some (.ref f)) ∧ HZ f = some (LamO f c' dV c j) ∧ HZ c' = some (LamX.CodeO c' c.q) ∧ DefOk HZ (c.lam j).params dV ∧ tb σ HZ Q) := by
  obtain ⟨q0, cl0, lam⟩ := c
  simp only at hq hcl L hb hbody ⊢
  subst hq hcl
  refine ⟨fun pinsZ sZ σZ HZ Q IZ h => ?_⟩
  obtain ⟨hW, f, c', dV, hs, hf, hc, hdv, ht⟩ := h
  refine wpAny_Call_Name_kw (thn ((pe_var (pos := p1) (i := i) hN hv hd hcd).run pinsZ sZ σZ HZ (fun v H1 => v = .ref f ∧ H1 = HZ) IZ ⟨.ref f, hs, rfl, rfl⟩) fun u s1 ⟨v, H1, I1, r1, q1⟩ => ?_)
  obtain ⟨ev, eH⟩ := q1
  subst ev
  rw [eH] at I1
  obtain rfl : u = Value.ref f := r1
  obtain ⟨⟨doc, pm, ctv, of1⟩, _, _⟩ := I1.hok f _ hf
  refine PySem.W.callWith_F0 ⟨_, _, _, _, of1⟩ ?_
  have un : Un (frs X.stack) [] H HZ s.heap s1.heap := I1.base
  obtain ⟨⟨oc, vs, t, hoc, hdc, hvc⟩, _, _⟩ := I1.hok c' _ hc
  have bind : ∃ binds : List (Str × Value), BindsTo s1 (PySem.W.kdv_fn "<lambda>" (X.env.qual ++ "<lambda>") (lam j).params (.expr (lam j).body) (lam j).scope (cloFrom X.env.cells (lam j).scope.names []) dV doc pm (.ref c') ctv) ⟨[], []⟩ binds ∧ ∀ y ∈ binds, (lam j).scope.names.lookup y.1 = some .local := by
    rcases hb with ⟨b0, b1⟩ | ⟨b0, nm, b1, b2⟩
    · rcases hdv with ⟨_, rfl⟩ | ⟨z, _⟩
      · exact ⟨[], BindsTo.of_eq (b1 _ _ _ _ _ _), by simp⟩
      · exact absurd b0 z
    · rcases hdv with ⟨z, _⟩ | ⟨_, d, rfl, hd0⟩
      · exact absurd z b0
      · obtain ⟨kk, e1, e2⟩ := b2 (X.env.qual ++ "<lambda>") (cloFrom X.env.cells (lam j).scope.names []) d doc pm (.ref c') ctv
        obtain ⟨_, its, rv, o, ho, hdo, n, hdd⟩ : ObjOk X.prog X.w HZ s1.heap d (.tup [.int 0]) := I1.hok d _ hd0
        obtain ⟨u0, rfl, _⟩ := rv.one
        exact ⟨[(nm, u0)], BindsTo.of_defaults rfl ho hdd e1 (e2 u0), fun y hy => by rw [List.mem_singleton.mp hy]; exact b1⟩
  obtain ⟨binds, hbind, hloc⟩ := bind
  have rc : codeAny (model X.prog X.w) (X.A.deeper (envOfC qg sg s.heap.objs.size g cdg)) (.call (.ref f) ⟨[], []⟩) (CR (L2.CX X.prog X.w) (envOfC qg sg s.heap.objs.size g cdg :: X.stack) X.prog X.w HZ s1 Q E) s1 := by
    refine PySem.W.kla_callFunE hr.depth of1 rfl L.co L.gen rfl ⟨c', oc, vs, t, rfl, hoc, hdc, hvc⟩ (hbind _ _ _ _ ?_)
    refine wpAny_newFunctionEnv L.nocell hloc (fun h₁ hns hsb => ⟨I1.nolimit.fresh _ hsb, ?_⟩) L.kind
    show codeAny _ _ (.expr (lam j).body (LamX.lamEnv X (lam j).scope s1.heap.objs.size f c')) _ _
    have kp : ∀ b o, s1.heap.get? b = some o → h₁.get? b = some o := fun b o e => hsb.extBut b o (Nat.ne_of_lt (Heap.lt_size e)) (Heap.get?_push_of_some _ e)
    have J : Inv (LamX.lamCx X (X.A.deeper (envOfC qg sg s.heap.objs.size g cdg)) (envOfC qg sg s.heap.objs.size g cdg :: X.stack) s1 HZ E (lam j).scope f c') [] σ HZ { s1 with heap := h₁, toks := s1.toks + binds.length } :=
      lam_start3 hws I L I1.env0 hr.hd un hns kp
    refine PySem.W.kla_codeExpr (wpAny_mono ((hbody f c' _ _ s1 HZ (hr.deeper _)).run [] _ _ HZ Q J ht) (fun v s' hq => ?_) fun e s' hq => hq)
    obtain ⟨w', H', J', rv, q⟩ := hq
    exact ⟨w', H', J'.os, J'.bare, J'.base, J'.hok, rv, q⟩
  refine wpAny_call (codeAny_mono rc fun r s' hq => ?_)
  cases r with
  | error e => exact tk e s' (XE.of_call I1 hW hq)
  | ok fl =>
    cases fl with
    | ret u => exact I1.after hq
    | next => exact False.elim hq
    | brk => exact False.elim hq
    | cont => exact False.elim hq
end
end M3
set_option Elab.async false
set_option linter.all false
set_option maxRecDepth 100000
set_option maxHeartbeats 4000000
/-! M5E: the errors of the program; what a word says of them. -/
namespace M3
open PySem PySem.Spec PyProof.Rows L2
def kindsOf (a : Ad) : List Addr := [a.BadPlan, a.BadKey, a.BadCounts, a.BadNumber, a.BadMeet, a.BadDeed, a.Halted, a.BadText]
def exFields : List Str := ["part", "number", "done", "row"]
structure ExOk (K : Kf) (CE C : Addr) : Prop where
  e : ExcC K C
  x : XfC K C
  m : PySem.W.exmOne K (.ref C) (.ref CE) = some true
  v : PySem.W.kitOne K (.ref C) (.type "ValueError") = some true
  nf : ∀ f ∈ exFields, PySem.W.findIn K (.ref C) f = some none
def exOkB (K : Kf) (CE C : Addr) : Bool :=
  decide (PySem.W.findIn K (.ref C) "__getattribute__" = some (some (.builtin "BaseException.__getattribute__"))) && (decide (PySem.W.findIn K (.ref C) "__getattr__" = some none) && (decide (PySem.W.subIn K (.ref C) (.type "BaseException") = some true) && (PySem.W.hasDictIn K C &&
  (decide (PySem.W.findIn K (.ref C) "__class__" = some (some (.builtin "object.__class__"))) && (decide (PySem.W.specialIn K (.builtin "object.__class__") "__get__" = some (some (.builtin "getset_descriptor.__get__"))) && (decide (PySem.W.takesIn K (.builtin "object.__class__") = some true) && (decide (PySem.W.mroIn K C (.type "object") = some true) &&
  (decide (PySem.W.exmOne K (.ref C) (.ref CE) = some true) && (decide (PySem.W.kitOne K (.ref C) (.type "ValueError") = some true) && exFields.all fun f => decide (PySem.W.findIn K (.ref C) f = some none))))))))))
theorem exOk_of {K : Kf} {CE C : Addr} (h : exOkB K CE C = true) : ExOk K CE C := by
  unfold exOkB at h
  simp only [Bool.and_eq_true, decide_eq_true_eq, List.all_eq_true] at h
  obtain ⟨h1, h2, h3, h4, h5, h6, h7, h8, h9, h10, h11⟩ := h
  exact ⟨⟨h1, h2, h3, h4, h5, h6, h7, h8⟩, ⟨h1, h2, h3, h4⟩, h9, h10, h11⟩
def wfB (K : Kf) (CE : Addr) (l : List Addr) : Bool := l.all (exOkB K CE) && (l.all (fun C => l.all fun C' => decide (PySem.W.kitOne K (.ref C) (.ref C') = some (C == C'))) && decide l.Nodup)
structure WF (K : Kf) (mg : Str → Option Value) (a : Ad) : Prop where
  zi : mg "isinstance" = none
  zv : mg "ValueError" = none
  gE : mg "CellError" = some (.ref a.CellError)
  g0 : mg "BadPlan" = some (.ref a.BadPlan)
  g1 : mg "BadKey" = some (.ref a.BadKey)
  g2 : mg "BadCounts" = some (.ref a.BadCounts)
  g3 : mg "BadNumber" = some (.ref a.BadNumber)
  g4 : mg "BadMeet" = some (.ref a.BadMeet)
  g5 : mg "BadDeed" = some (.ref a.BadDeed)
  g6 : mg "Halted" = some (.ref a.Halted)
  g7 : mg "BadText" = some (.ref a.BadText)
  b : wfB K a.CellError (kindsOf a) = true
section
variable {K : Kf} {mg : Str → Option Value} {a : Ad}
theorem WF.ok (T : WF K mg a) {C : Addr} (h : C ∈ kindsOf a) : ExOk K a.CellError C := by
  have := T.b
  unfold wfB at this
  simp only [Bool.and_eq_true, List.all_eq_true] at this
  exact exOk_of (this.1 C h)
theorem WF.kit (T : WF K mg a) {C C' : Addr} (h : C ∈ kindsOf a) (h' : C' ∈ kindsOf a) : PySem.W.kitOne K (.ref C) (.ref C') = some (C == C') := by
  have := T.b
  unfold wfB at this
  simp only [Bool.and_eq_true, List.all_eq_true, decide_eq_true_eq] at this
  exact this.2.1 C h C' h'
theorem WF.nd (T : WF K mg a) : (kindsOf a).Nodup := by
  have := T.b
  unfold wfB at this
  simp only [Bool.and_eq_true, decide_eq_true_eq] at this
  exact this.2.2
end
/-- isinstance(e, c) -/
def rIsE2 (K : PySem.W.Frag) (a : Addr) (cls : Value) (d : Option Addr) : List V → Hp → VK → Prop := fun xs H Q => ∃ (D : Addr) (c : V) (cv : Value) (b : Bool), cls = .ref D ∧ ExcC K D ∧ xs = [.ref a, c] ∧ (d = none ∨ ∃ dd ws, d = some dd ∧ H dd = some (.xd ws)) ∧ (∀ u, RelV c u → u = cv) ∧ PySem.W.kitOne K (.ref D) cv = some b ∧ Q (.bl b) H
theorem call_isE2 {X : Cx} {a : Addr} {cls : Value} {d : Option Addr} {oe : Obj} {pn : List (Addr × Obj)} (hz : Zc cls d oe) (hf : ∃ vs, oe.data = .fields vs) : CallR (X.suite a ((a, oe) :: pn)) (.builtin "isinstance") (rIsE2 X.K a cls d) := by
  intro pins s σ H xs us Q I r h
  obtain ⟨D, c, cv, b, rfl, hC, h⟩ := h
  exact call_isE hC hz hf pins s σ H xs us Q I r ⟨c, cv, b, h⟩
/-- e.f -/
def tXf2 (K : PySem.W.Frag) (a : Addr) (cls : Value) (d : Option Addr) (f : Str) (te : TE) : TE := fun σ H Q => ∃ C : Addr, cls = .ref C ∧ XfC K C ∧ PySem.W.findIn K (.ref C) f = some none ∧ tXf a cls d C f te σ H Q
theorem pe_xf2 {X : Cx} {a : Addr} {oe : Obj} {cls : Value} {d : Option Addr} {pn : List (Addr × Obj)} {e : Expr} {te : TE} {pos : Pos} {n : Str} (hz : Zc cls d oe) (hf : ∃ vs, oe.data = .fields vs) (he : PE (X.suite a ((a, oe) :: pn)) e te)
    (hb : attributeBase e n X.env (eval e X.env) = eval e X.env := by rfl) : PE (X.suite a ((a, oe) :: pn)) (.Attribute e n pos) (tXf2 X.K a cls d n te) := by
  refine ⟨fun pins s σ H Q I h => ?_⟩
  obtain ⟨C, e1, T, hno, h⟩ := h
  exact (pe_xf T hno hz hf he hb).run pins s σ H Q I h
/-! the same rules, the written part named -/
section
variable {X : Cx} {K : PySem.W.Frag} {o e b : Expr} {es : List Expr} {to te tb : TE} {t : TA} {name : Str} {apos cpos pos : Pos} {T id : String} {r : V → List V → Hp → VK → Prop}
theorem pe_bmK (hK : X.K = K) (pa : PlainAttrs T) (slot : Slot T name id) (hty : typeOf (.builtin id) = pure (.type "method_descriptor")) (hm : MtR X id r) (ho : PE X o to) (ha : PA X (e :: es) t)
    (hbase : attributeBase o name X.env (eval o X.env) = eval o X.env := by rfl)
    (hfew : ((backTo cpos (starEach (e :: es) X.env)).all (fun x => !x.1) && (backToKw cpos (keywordEach [] X.env)).all (fun x => x.1.isSome)
      && decide ((e :: es).length + ([] : List Keyword).length + (if ([] : List Keyword).isEmpty then 0 else 1) < 30)) = true := by rfl)
    (hline : (apos.endLine == cpos.line) = true := by rfl) (hs : starEach (e :: es) X.env = (false, eval e X.env) :: starEach es X.env := by rfl) (hplain : (backTo cpos (starEach es X.env)).any (·.1) = false := by rfl) :
    PE X (.Call (.Attribute o name apos) (e :: es) [] cpos) (tBM K T r to t) := by
  subst hK
  exact pe_bm pa slot hty hm ho ha hbase hfew hline hs hplain
theorem countK (hK : X.K = K) : MtR X "list.count" (rCntF K) := by subst hK; exact mt_countF
theorem indexK (hK : X.K = K) : MtR X "list.index" (rIndex K) := by subst hK; exact mt_index
theorem ixK (hK : X.K = K) : IxR X (rIxL K) := by subst hK; exact ix_list
theorem inSeqK (hK : X.K = K) : OpR X (compareOp .In) (rIn K false) := by subst hK; exact op_in_seq
theorem isEK {a : Addr} {cls : Value} {d : Option Addr} {oe : Obj} {pn : List (Addr × Obj)} (hK : (X.suite a ((a, oe) :: pn)).K = K) (hz : Zc cls d oe) (hf : ∃ vs, oe.data = .fields vs) : CallR (X.suite a ((a, oe) :: pn)) (.builtin "isinstance") (rIsE2 K a cls d) := by subst hK; exact call_isE2 hz hf
theorem xfK {a : Addr} {oe : Obj} {cls : Value} {d : Option Addr} {pn : List (Addr × Obj)} {n : Str} (hK : (X.suite a ((a, oe) :: pn)).K = K) (hz : Zc cls d oe) (hf : ∃ vs, oe.data = .fields vs) (he : PE (X.suite a ((a, oe) :: pn)) e te)
    (hb : attributeBase e n X.env (eval e X.env) = eval e X.env := by rfl) : PE (X.suite a ((a, oe) :: pn)) (.Attribute e n pos) (tXf2 K a cls d n te) := by subst hK; exact pe_xf2 hz hf he hb
end
/-! ### what a word says -/
def onI (fs : List (Str × D)) (f : Str) (k : Int → Prop) : Prop := ∃ i, fs.lookup f = some (.int i) ∧ k i
def wordX (a : Ad) (x : EX) (k : D → Prop) : Prop :=
  (x.c = a.BadPlan ∧ onI x.fs "part" fun i => onI x.fs "number" fun j => k (.tup [.str "plan", .tup [.int i, .int j]])) ∨
  (x.c = a.BadKey ∧ k (.tup [.str "key", .non])) ∨ (x.c = a.BadCounts ∧ onI x.fs "number" fun i => k (.tup [.str "counts", .int i])) ∨
  (x.c = a.BadNumber ∧ k (.tup [.str "number", .non])) ∨ (x.c = a.BadMeet ∧ k (.tup [.str "meet", .non])) ∨ (x.c = a.BadDeed ∧ onI x.fs "number" fun i => k (.tup [.str "deed", .int i])) ∨
  (x.c = a.Halted ∧ onI x.fs "number" fun i => onI x.fs "done" fun j => k (.tup [.str "halted", .tup [.int i, .int j]])) ∨ (x.c = a.BadText ∧ onI x.fs "row" fun i => k (.tup [.str "text", .int i]))
/-- .. in the layer: the answer's tuple is new, behind what grew -/
def Ext (H H' : Hp) : Prop := ∀ b o, H b = some o → H' b = some o
theorem Ext.new {H H' : Hp} {p : Addr} {o : HO} (e : Ext H H') (n : H' p = none) : Ext H (upd H' p o) := fun b u h => by
  rw [upd_ne (ne_of_none (e b u h) n)]
  exact e b u h
def onIV (H : Hp) (d : Option Addr) (f : Str) (k : Int → Prop) : Prop := ∃ dd ws i, d = some dd ∧ H dd = some (.xd ws) ∧ ws.lookup f = some (.int i) ∧ k i
def ansV (H : Hp) (Q : VK) (z : Str) (v : V) : Prop := ∀ H', Ext H H' → ∀ t, H' t = none → Q (.ref t) (upd H' t (.tup [.str z, v]))
def ansT (H : Hp) (Q : VK) (z : Str) (vs : List V) : Prop := ∀ H', Ext H H' → ∀ t1 t, H' t1 = none → upd H' t1 (.tup vs) t = none → Q (.ref t) (upd (upd H' t1 (.tup vs)) t (.tup [.str z, .ref t1]))
def wordR (a : Ad) (Q : VK) : XK := fun cls d H =>
  (d = none ∨ ∃ dd ws, d = some dd ∧ H dd = some (.xd ws)) ∧
  ((cls = .ref a.BadPlan ∧ onIV H d "part" fun i => onIV H d "number" fun j => ansT H Q "plan" [.int i, .int j]) ∨
  (cls = .ref a.BadKey ∧ ansV H Q "key" .non) ∨ (cls = .ref a.BadCounts ∧ onIV H d "number" fun i => ansV H Q "counts" (.int i)) ∨
  (cls = .ref a.BadNumber ∧ ansV H Q "number" .non) ∨ (cls = .ref a.BadMeet ∧ ansV H Q "meet" .non) ∨ (cls = .ref a.BadDeed ∧ onIV H d "number" fun i => ansV H Q "deed" (.int i)) ∨
  (cls = .ref a.Halted ∧ onIV H d "number" fun i => onIV H d "done" fun j => ansT H Q "halted" [.int i, .int j]) ∨ (cls = .ref a.BadText ∧ onIV H d "row" fun i => ansV H Q "text" (.int i)))
/-- what the word of a work asks: tl: the work's reading by what is wished of an error -/
def wordT (a : Ad) (tl : XK → Hp → VK → Prop) : Hp → VK → Prop := fun H Q => ∀ l, H l = none →
  tl (wordR a Q) (upd H l (.lst [])) fun v H1 => H1 l = some (.lst []) ∧ ∀ t, upd H1 l (.lst [v]) t = none → Q (.ref t) (upd (upd H1 l (.lst [v])) t (.tup [.str "", v]))
end M3
set_option Elab.async false
set_option linter.all false
set_option maxRecDepth 100000
set_option maxHeartbeats 4000000
/-! M5F: the suite of a word, read. -/
namespace M3
open PySem PySem.Spec PyProof.Rows L2
abbrev tIs (K : PySem.W.Frag) (a0 : Addr) (cls : Value) (d : Option Addr) (C : Addr) : TE := tCB (rIsE2 K a0 cls d) (tCons (tVar 2) (tCons (tC (V.ref C)) tNil))
def tWordN (K : PySem.W.Frag) (a0 : Addr) (cls : Value) (d : Option Addr) : TS :=
  tSeq (tIfS (tTest (tOp rEq (tVar 5) (tC (V.str (Str.ofString "plan"))))) (tRet (tTup (tCons (tVar 5) (tCons (tTup (tCons (tXf2 K a0 cls d (Str.ofString "part") (tVar 2)) (tCons (tXf2 K a0 cls d (Str.ofString "number") (tVar 2)) tNil))) tNil)))) tNext)
  (tSeq (tIfS (tTest (tOp rEq (tVar 5) (tC (V.str (Str.ofString "halted"))))) (tRet (tTup (tCons (tVar 5) (tCons (tTup (tCons (tXf2 K a0 cls d (Str.ofString "number") (tVar 2)) (tCons (tXf2 K a0 cls d (Str.ofString "done") (tVar 2)) tNil))) tNil)))) tNext)
  (tSeq (tIfS (tTest (tOp rEq (tVar 5) (tC (V.str (Str.ofString "text"))))) (tRet (tTup (tCons (tVar 5) (tCons (tXf2 K a0 cls d (Str.ofString "row") (tVar 2)) tNil)))) tNext)
  (tRet (tIf (tTest (tOp (rIn K false) (tVar 5) (tTup (tCons (tC (V.str (Str.ofString "counts"))) (tCons (tC (V.str (Str.ofString "deed"))) tNil))))) (tTup (tCons (tVar 5) (tCons (tXf2 K a0 cls d (Str.ofString "number") (tVar 2)) tNil))) (tTup (tCons (tVar 5) (tCons (tC V.non) tNil)))))))
def tWordS (K : PySem.W.Frag) (a : Ad) (a0 : Addr) (cls : Value) (d : Option Addr) : TS :=
  tSeq (tAsg (tLst (tCons (tIs K a0 cls d a.BadPlan) (tCons (tIs K a0 cls d a.BadKey) (tCons (tIs K a0 cls d a.BadCounts) (tCons (tIs K a0 cls d a.BadNumber) tNil))))) (gName 3))
  (tSeq (tAsg (tOp rCat (tVar 3) (tLst (tCons (tIs K a0 cls d a.BadMeet) (tCons (tIs K a0 cls d a.BadDeed) (tCons (tIs K a0 cls d a.Halted) (tCons (tIs K a0 cls d a.BadText) tNil)))))) (gName 3))
  (tSeq (tAsg (tLst (tCons (tC (V.str (Str.ofString "plan"))) (tCons (tC (V.str (Str.ofString "key"))) (tCons (tC (V.str (Str.ofString "counts"))) (tCons (tC (V.str (Str.ofString "number"))) (tCons (tC (V.str (Str.ofString "meet"))) (tCons (tC (V.str (Str.ofString "deed"))) (tCons (tC (V.str (Str.ofString "halted"))) (tCons (tC (V.str (Str.ofString "text"))) tNil))))))))) (gName 4))
  (tSeq (tIfS (tOr (tTest (tOp rNe (tBM K "list" (rCntF K) (tVar 3) (tCons (tC (V.bl true)) tNil)) (tC (V.int 1)))) (tNot (tB (tCB (rIsE2 K a0 cls d) (tCons (tVar 2) (tCons (tC (V.ty "ValueError")) tNil)))))) (tRet (tTup (tCons (tC (V.str (Str.ofString "other"))) (tCons (tC V.non) tNil)))) tNext)
  (tSeq (tAsg (tOp (rIxL K) (tVar 4) (tBM K "list" (rIndex K) (tVar 3) (tCons (tC (V.bl true)) tNil))) (gName 5))
  (tWordN K a0 cls d)))))
theorem is_rd {K : PySem.W.Frag} {a0 C C' : Addr} {d : Option Addr} {σ : L2.St} {H : Hp} {Q : VK} {b : Bool} (s2 : σ[2]? = some (some (V.ref a0))) (e : ExcC K C) (hd : d = none ∨ ∃ dd ws, d = some dd ∧ H dd = some (.xd ws)) (k : PySem.W.kitOne K (.ref C) (.ref C') = some b) (q : Q (.bl b) H) :
    tIs K a0 (.ref C) d C' σ H Q := ⟨.ref a0, s2, C, .ref C', .ref C', b, rfl, e, rfl, hd, fun _ r => r, k, q⟩
def wordNames : List Str := ["plan", "key", "counts", "number", "meet", "deed", "halted", "text"]
theorem hd_ext {d : Option Addr} {H H' : Hp} (e : Ext H H') (hd : d = none ∨ ∃ dd ws, d = some dd ∧ H dd = some (.xd ws)) : d = none ∨ ∃ dd ws, d = some dd ∧ H' dd = some (.xd ws) := by
  rcases hd with h | ⟨dd, ws, h1, h2⟩
  · exact .inl h
  · exact .inr ⟨dd, ws, h1, e _ _ h2⟩
theorem word_core {K : Kf} {mg : Str → Option Value} {a : Ad} {a0 C : Addr} {d : Option Addr} {D : Ends} {v0 v1 : Option V} {H : Hp} (T : WF K mg a) {m : Nat} {nm : Str} (hm : (kindsOf a)[m]? = some C) (hn : wordNames[m]? = some nm) (hd : d = none ∨ ∃ dd ws, d = some dd ∧ H dd = some (.xd ws))
    (k : ∀ H' l3 l4, Ext H H' → tWordN K a0 (.ref C) d D [v0, v1, some (.ref a0), some (.ref l3), some (.ref l4), some (.str nm)] H') : tWordS K a a0 (.ref C) d D [v0, v1, some (.ref a0), none, none, none] H := by
  have hC : C ∈ kindsOf a := List.mem_of_getElem? hm
  have E := (T.ok hC).e
  have nd := T.nd
  have kt : ∀ n C', (kindsOf a)[n]? = some C' → PySem.W.kitOne K (.ref C) (.ref C') = some (decide (m = n)) := fun n C' h => by
    rw [T.kit hC (List.mem_of_getElem? h)]
    congr 1
    rw [Bool.eq_iff_iff, beq_iff_eq, decide_eq_true_eq]
    constructor
    · intro e
      subst e
      obtain ⟨h1, e1⟩ := List.getElem?_eq_some_iff.mp hm
      obtain ⟨h2, e2⟩ := List.getElem?_eq_some_iff.mp h
      exact (List.getElem_inj nd).mp (e1.trans e2.symm)
    · intro e
      subst e
      exact Option.some.inj (hm.symm.trans h)
  have m8 : m < 8 := (List.getElem?_eq_some_iff.mp hm).1
  refine is_rd rfl E hd (kt 0 _ rfl) (is_rd rfl E hd (kt 1 _ rfl) (is_rd rfl E hd (kt 2 _ rfl) (is_rd rfl E hd (kt 3 _ rfl) ⟨by show 4 ≤ sizeLine; decide, fun l1 n1 => ?_⟩)))
  have x1 : Ext H (upd H l1 (.lst [V.bl (decide (m = 0)), V.bl (decide (m = 1)), V.bl (decide (m = 2)), V.bl (decide (m = 3))])) := (Ext.new (fun _ _ h => h) n1)
  have hd1 := hd_ext x1 hd
  have g1 : upd H l1 (.lst [V.bl (decide (m = 0)), V.bl (decide (m = 1)), V.bl (decide (m = 2)), V.bl (decide (m = 3))]) l1 = some (.lst [V.bl (decide (m = 0)), V.bl (decide (m = 1)), V.bl (decide (m = 2)), V.bl (decide (m = 3))]) := upd_same
  generalize upd H l1 (.lst [V.bl (decide (m = 0)), V.bl (decide (m = 1)), V.bl (decide (m = 2)), V.bl (decide (m = 3))]) = H1 at x1 hd1 g1 ⊢
  refine ⟨.ref l1, rfl, is_rd rfl E hd1 (kt 4 _ rfl) (is_rd rfl E hd1 (kt 5 _ rfl) (is_rd rfl E hd1 (kt 6 _ rfl) (is_rd rfl E hd1 (kt 7 _ rfl) ⟨by show 4 ≤ sizeLine; decide, fun l2 n2 => ?_⟩)))⟩
  refine ⟨l1, l2, _, _, rfl, rfl, by rw [upd_ne (ne_of_none g1 n2)]; exact g1, upd_same, by show 8 ≤ sizeLine; decide, fun l3 n3 => ?_⟩
  have x2 : Ext H (upd (upd H1 l2 (.lst [V.bl (decide (m = 4)), V.bl (decide (m = 5)), V.bl (decide (m = 6)), V.bl (decide (m = 7))])) l3 (.lst [V.bl (decide (m = 0)), V.bl (decide (m = 1)), V.bl (decide (m = 2)), V.bl (decide (m = 3)), V.bl (decide (m = 4)), V.bl (decide (m = 5)), V.bl (decide (m = 6)), V.bl (decide (m = 7))])) := (x1.new n2).new n3
  have hd2 := hd_ext x2 hd
  have g3 : upd (upd H1 l2 (.lst [V.bl (decide (m = 4)), V.bl (decide (m = 5)), V.bl (decide (m = 6)), V.bl (decide (m = 7))])) l3 (.lst [V.bl (decide (m = 0)), V.bl (decide (m = 1)), V.bl (decide (m = 2)), V.bl (decide (m = 3)), V.bl (decide (m = 4)), V.bl (decide (m = 5)), V.bl (decide (m = 6)), V.bl (decide (m = 7))]) l3 = some (.lst [V.bl (decide (m = 0)), V.bl (decide (m = 1)), V.bl (decide (m = 2)), V.bl (decide (m = 3)), V.bl (decide (m = 4)), V.bl (decide (m = 5)), V.bl (decide (m = 6)), V.bl (decide (m = 7))]) := upd_same
  show tSeq _ _ _ _ (upd (upd H1 l2 (.lst [V.bl (decide (m = 4)), V.bl (decide (m = 5)), V.bl (decide (m = 6)), V.bl (decide (m = 7))])) l3 (.lst [V.bl (decide (m = 0)), V.bl (decide (m = 1)), V.bl (decide (m = 2)), V.bl (decide (m = 3)), V.bl (decide (m = 4)), V.bl (decide (m = 5)), V.bl (decide (m = 6)), V.bl (decide (m = 7))]))
  generalize upd (upd H1 l2 (.lst [V.bl (decide (m = 4)), V.bl (decide (m = 5)), V.bl (decide (m = 6)), V.bl (decide (m = 7))])) l3 (.lst [V.bl (decide (m = 0)), V.bl (decide (m = 1)), V.bl (decide (m = 2)), V.bl (decide (m = 3)), V.bl (decide (m = 4)), V.bl (decide (m = 5)), V.bl (decide (m = 6)), V.bl (decide (m = 7))]) = H3 at x2 hd2 g3 ⊢
  refine ⟨by show 8 ≤ sizeLine; decide, fun l4 n4 => ?_⟩
  have x4 := x2.new (o := .lst (wordNames.map V.str)) n4
  have hd4 := hd_ext x4 hd
  have g4 : upd H3 l4 (.lst (wordNames.map V.str)) l3 = some (.lst [V.bl (decide (m = 0)), V.bl (decide (m = 1)), V.bl (decide (m = 2)), V.bl (decide (m = 3)), V.bl (decide (m = 4)), V.bl (decide (m = 5)), V.bl (decide (m = 6)), V.bl (decide (m = 7))]) := by rw [upd_ne (ne_of_none g3 n4)]; exact g3
  have g5 : upd H3 l4 (.lst (wordNames.map V.str)) l4 = some (.lst (wordNames.map V.str)) := upd_same
  show tSeq _ _ _ _ (upd H3 l4 (.lst (wordNames.map V.str)))
  generalize upd H3 l4 (.lst (wordNames.map V.str)) = H4 at x4 hd4 g4 g5 ⊢
  have en : ∀ (m : Nat), m < 8 → [V.bl (decide (m = 0)), V.bl (decide (m = 1)), V.bl (decide (m = 2)), V.bl (decide (m = 3)), V.bl (decide (m = 4)), V.bl (decide (m = 5)), V.bl (decide (m = 6)), V.bl (decide (m = 7))].countP (fun z => eqV z (.bl true)) = 1 := by decide
  have eat : ∀ (m : Nat), m < 8 → [V.bl (decide (m = 0)), V.bl (decide (m = 1)), V.bl (decide (m = 2)), V.bl (decide (m = 3)), V.bl (decide (m = 4)), V.bl (decide (m = 5)), V.bl (decide (m = 6)), V.bl (decide (m = 7))][m]? = some (.bl true) := by decide
  have ebf : ∀ (m : Nat), m < 8 → ∀ n, n < m → [V.bl (decide (m = 0)), V.bl (decide (m = 1)), V.bl (decide (m = 2)), V.bl (decide (m = 3)), V.bl (decide (m = 4)), V.bl (decide (m = 5)), V.bl (decide (m = 6)), V.bl (decide (m = 7))][n]? = some (.bl false) := by decide
  refine ⟨.ref l3, rfl, .inl ⟨rfl, _, SqL.of g4⟩, l3, _, .bl true, rfl, rfl, SqL.of g4, rfl, rfl, rfl, _, rfl, ?_⟩
  rw [en m m8]
  refine ⟨.ref a0, rfl, C, .ty "ValueError", .type "ValueError", true, rfl, E, rfl, hd4, fun _ r => r, (T.ok hC).v, ?_⟩
  refine ⟨true, rfl, ?_⟩
  refine ⟨.ref l4, rfl, .ref l3, rfl, .inl ⟨rfl, _, SqL.of g4⟩, l3, _, .bl true, m, .bl true, rfl, rfl, SqL.of g4, rfl, rfl, eat m m8, rfl, fun n z hn hz => ?_, ?_⟩
  · rw [ebf m m8 n hn] at hz
    cases hz
    rfl
  refine ⟨l4, _, _, .str nm, rfl, rfl, SqL.of g5, atI_nat (by rw [List.getElem?_map, hn]; rfl), ?_⟩
  exact k H4 l3 l4 x4
theorem ifF {A B : Prop} {b : Bool} (h : b = false) (q : B) : if b = true then A else B := by
  subst h
  exact iteF q
theorem ifT {A B : Prop} {b : Bool} (h : b = true) (q : A) : if b = true then A else B := by
  subst h
  exact iteT q
theorem xf_rd {K : PySem.W.Frag} {a0 C : Addr} {d : Option Addr} {σ : L2.St} {H : Hp} {Q : VK} {f : Str} {ws : List (Str × V)} {dd : Addr} {v : V} (s2 : σ[2]? = some (some (V.ref a0))) (x : XfC K C) (nf : PySem.W.findIn K (.ref C) f = some none) (ed : d = some dd) (eh : H dd = some (.xd ws)) (el : ws.lookup f = some v) (q : Q v H) :
    tXf2 K a0 (.ref C) d f (tVar 2) σ H Q := ⟨C, rfl, x, nf, .ref a0, s2, rfl, rfl, dd, ws, v, ed, eh, el, q⟩
theorem onIV_ext {H H' : Hp} {d : Option Addr} {f : Str} {k : Int → Prop} (e : Ext H H') (h : onIV H d f k) : onIV H' d f k := by
  obtain ⟨dd, ws, i, h1, h2, h3, h4⟩ := h
  exact ⟨dd, ws, i, h1, e _ _ h2, h3, h4⟩
theorem Ext.trans {H H1 H2 : Hp} (a : Ext H H1) (b : Ext H1 H2) : Ext H H2 := fun c o h => b c o (a c o h)
section
variable {K : Kf} {mg : Str → Option Value} {a : Ad} {a0 C : Addr} {d : Option Addr} {D : Ends} {v0 v1 v3 v4 : Option V} {H : Hp}
/-- the last row: with a number or with None -/
theorem wordN_non {nm : Str} (h1 : decide (V.str nm = V.str "plan") = false) (h2 : decide (V.str nm = V.str "halted") = false) (h3 : decide (V.str nm = V.str "text") = false) (h4 : inV (.str nm) [V.str "counts", V.str "deed"] = false) (q : ansV H D.rt nm .non) :
    tWordN K a0 (.ref C) d D [v0, v1, some (.ref a0), v3, v4, some (.str nm)] H := by
  refine ⟨_, rfl, rfl, _, rfl, ifF h1 ⟨_, rfl, rfl, _, rfl, ifF h2 ⟨_, rfl, rfl, _, rfl, ifF h3 ⟨_, rfl, by show 2 ≤ sizeLine; decide, fun t1 n1 => ⟨t1, _, rfl, .inr (.of upd_same), rfl, rfl, _, rfl, ?_⟩⟩⟩⟩⟩
  have e : (if false = true then !inV (V.str nm) [V.str "counts", V.str "deed"] else inV (V.str nm) [V.str "counts", V.str "deed"]) = false := by rw [if_neg (by decide), h4]
  refine ifF e ⟨_, rfl, by show 2 ≤ sizeLine; decide, fun t2 n2 => ?_⟩
  exact q _ (Ext.new (fun _ _ h => h) n1) t2 n2
theorem wordN_num {nm : Str} {i : Int} (x : XfC K C) (nf : PySem.W.findIn K (.ref C) "number" = some none) (h1 : decide (V.str nm = V.str "plan") = false) (h2 : decide (V.str nm = V.str "halted") = false) (h3 : decide (V.str nm = V.str "text") = false) (h4 : inV (.str nm) [V.str "counts", V.str "deed"] = true)
    (hi : ∃ (dd : Addr) (ws : List (Str × V)), d = some dd ∧ H dd = some (.xd ws) ∧ ws.lookup (Str.ofString "number") = some (V.int i)) (q : ansV H D.rt nm (.int i)) :
    tWordN K a0 (.ref C) d D [v0, v1, some (.ref a0), v3, v4, some (.str nm)] H := by
  refine ⟨_, rfl, rfl, _, rfl, ifF h1 ⟨_, rfl, rfl, _, rfl, ifF h2 ⟨_, rfl, rfl, _, rfl, ifF h3 ⟨_, rfl, by show 2 ≤ sizeLine; decide, fun t1 n1 => ⟨t1, _, rfl, .inr (.of upd_same), rfl, rfl, _, rfl, ?_⟩⟩⟩⟩⟩
  have e : (if false = true then !inV (V.str nm) [V.str "counts", V.str "deed"] else inV (V.str nm) [V.str "counts", V.str "deed"]) = true := by rw [if_neg (by decide), h4]
  obtain ⟨dd, ws, e1, e2, e3⟩ := hi
  have x1 : Ext H (upd H t1 (.tup [V.str "counts", V.str "deed"])) := Ext.new (fun _ _ h => h) n1
  refine ifT e ⟨_, rfl, xf_rd rfl x nf e1 (x1 _ _ e2) e3 ⟨by show 2 ≤ sizeLine; decide, fun t2 n2 => ?_⟩⟩
  exact q _ x1 t2 n2
theorem wordN_plan {i j : Int} (x : XfC K C) (nf : ∀ f ∈ exFields, PySem.W.findIn K (.ref C) f = some none) (hi : onIV H d "part" fun i => onIV H d "number" fun j => ansT H D.rt "plan" [.int i, .int j]) :
    tWordN K a0 (.ref C) d D [v0, v1, some (.ref a0), v3, v4, some (.str "plan")] H := by
  obtain ⟨dd, ws, i, e1, e2, e3, dd', ws', j, f1, f2, f3, q⟩ := hi
  refine ⟨_, rfl, rfl, _, rfl, ifT (decide_eq_true rfl) ⟨_, rfl, xf_rd rfl x (nf _ (by decide)) e1 e2 e3 (xf_rd rfl x (nf _ (by decide)) f1 f2 f3 ⟨by show 2 ≤ sizeLine; decide, fun t1 n1 => ⟨by show 2 ≤ sizeLine; decide, fun t2 n2 => ?_⟩⟩)⟩⟩
  exact q H (fun _ _ h => h) t1 t2 n1 n2
theorem wordN_halted (x : XfC K C) (nf : ∀ f ∈ exFields, PySem.W.findIn K (.ref C) f = some none) (hi : onIV H d "number" fun i => onIV H d "done" fun j => ansT H D.rt "halted" [.int i, .int j]) :
    tWordN K a0 (.ref C) d D [v0, v1, some (.ref a0), v3, v4, some (.str "halted")] H := by
  obtain ⟨dd, ws, i, e1, e2, e3, dd', ws', j, f1, f2, f3, q⟩ := hi
  refine ⟨_, rfl, rfl, _, rfl, ifF (by decide) ⟨_, rfl, rfl, _, rfl, ifT (decide_eq_true rfl) ⟨_, rfl, xf_rd rfl x (nf _ (by decide)) e1 e2 e3 (xf_rd rfl x (nf _ (by decide)) f1 f2 f3 ⟨by show 2 ≤ sizeLine; decide, fun t1 n1 => ⟨by show 2 ≤ sizeLine; decide, fun t2 n2 => ?_⟩⟩)⟩⟩⟩
  exact q H (fun _ _ h => h) t1 t2 n1 n2
theorem wordN_text (x : XfC K C) (nf : ∀ f ∈ exFields, PySem.W.findIn K (.ref C) f = some none) (hi : onIV H d "row" fun i => ansV H D.rt "text" (.int i)) :
    tWordN K a0 (.ref C) d D [v0, v1, some (.ref a0), v3, v4, some (.str "text")] H := by
  obtain ⟨dd, ws, i, e1, e2, e3, q⟩ := hi
  refine ⟨_, rfl, rfl, _, rfl, ifF (by decide) ⟨_, rfl, rfl, _, rfl, ifF (by decide) ⟨_, rfl, rfl, _, rfl, ifT (decide_eq_true rfl) ⟨_, rfl, xf_rd rfl x (nf _ (by decide)) e1 e2 e3 ⟨by show 2 ≤ sizeLine; decide, fun t2 n2 => ?_⟩⟩⟩⟩⟩
  exact q H (fun _ _ h => h) t2 n2
end
theorem ansV_ext {H H' : Hp} {Q : VK} {z : Str} {v : V} (e : Ext H H') (h : ansV H Q z v) : ansV H' Q z v := fun H2 e2 => h H2 (e.trans e2)
theorem ansT_ext {H H' : Hp} {Q : VK} {z : Str} {v : List V} (e : Ext H H') (h : ansT H Q z v) : ansT H' Q z v := fun H2 e2 => h H2 (e.trans e2)
theorem onIV_mono {H H' : Hp} {d : Option Addr} {f : Str} {k k' : Int → Prop} (e : Ext H H') (m : ∀ i, k i → k' i) (h : onIV H d f k) : onIV H' d f k' := by
  obtain ⟨dd, ws, i, h1, h2, h3, h4⟩ := h
  exact ⟨dd, ws, i, h1, e _ _ h2, h3, m i h4⟩
/-- the suite of a word -/
theorem word_suite {K : Kf} {mg : Str → Option Value} {a : Ad} {a0 : Addr} {cls : Value} {d : Option Addr} {D : Ends} {v0 v1 : Option V} {H : Hp} (T : WF K mg a) (h : wordR a D.rt cls d H) : tWordS K a a0 cls d D [v0, v1, some (.ref a0), none, none, none] H := by
  obtain ⟨hd, h⟩ := h
  rcases h with ⟨rfl, h⟩ | ⟨rfl, h⟩ | ⟨rfl, h⟩ | ⟨rfl, h⟩ | ⟨rfl, h⟩ | ⟨rfl, h⟩ | ⟨rfl, h⟩ | ⟨rfl, h⟩
  · have O := T.ok (C := a.BadPlan) (by simp [kindsOf])
    exact word_core T (m := 0) rfl rfl hd fun H' l3 l4 e => wordN_plan (i := 0) (j := 0) O.x O.nf (onIV_mono e (fun i => onIV_mono e fun j => ansT_ext e) h)
  · exact word_core T (m := 1) rfl rfl hd fun H' l3 l4 e => wordN_non (by decide) (by decide) (by decide) (by decide) (ansV_ext e h)
  · have O := T.ok (C := a.BadCounts) (by simp [kindsOf])
    refine word_core T (m := 2) rfl rfl hd fun H' l3 l4 e => ?_
    obtain ⟨dd, ws, i, e1, e2, e3, q⟩ := onIV_mono e (fun i => ansV_ext e) h
    exact wordN_num O.x (O.nf _ (by decide)) (by decide) (by decide) (by decide) (by decide) ⟨dd, ws, e1, e2, e3⟩ q
  · exact word_core T (m := 3) rfl rfl hd fun H' l3 l4 e => wordN_non (by decide) (by decide) (by decide) (by decide) (ansV_ext e h)
  · exact word_core T (m := 4) rfl rfl hd fun H' l3 l4 e => wordN_non (by decide) (by decide) (by decide) (by decide) (ansV_ext e h)
  · have O := T.ok (C := a.BadDeed) (by simp [kindsOf])
    refine word_core T (m := 5) rfl rfl hd fun H' l3 l4 e => ?_
    obtain ⟨dd, ws, i, e1, e2, e3, q⟩ := onIV_mono e (fun i => ansV_ext e) h
    exact wordN_num O.x (O.nf _ (by decide)) (by decide) (by decide) (by decide) (by decide) ⟨dd, ws, e1, e2, e3⟩ q
  · have O := T.ok (C := a.Halted) (by simp [kindsOf])
    exact word_core T (m := 6) rfl rfl hd fun H' l3 l4 e => wordN_halted O.x O.nf (onIV_mono e (fun i => onIV_mono e fun j => ansT_ext e) h)
  · have O := T.ok (C := a.BadText) (by simp [kindsOf])
    exact word_core T (m := 7) rfl rfl hd fun H' l3 l4 e => wordN_text O.x O.nf (onIV_mono e (fun i => ansV_ext e) h)
theorem wordR_cls {a : Ad} {Q : VK} {cls : Value} {d : Option Addr} {H : Hp} (h : wordR a Q cls d H) : ∃ C ∈ kindsOf a, cls = .ref C := by
  obtain ⟨hd, h⟩ := h
  rcases h with ⟨h, _⟩ | ⟨h, _⟩ | ⟨h, _⟩ | ⟨h, _⟩ | ⟨h, _⟩ | ⟨h, _⟩ | ⟨h, _⟩ | ⟨h, _⟩ <;> exact ⟨_, by simp [kindsOf], h⟩
end M3
set_option Elab.async false
set_option linter.all false
set_option maxRecDepth 100000
set_option maxHeartbeats 4000000
/-! M5G: _law_word(..) as one step. -/
namespace M3
open PySem PySem.Spec PyProof.Rows L2
section
variable {K : Kf} {B F : Hp} {E : En} {h : MH} {σ : L2.St} {H : Hp}
/-- a new object of the outside -/
theorem Rel.newB (R : Rel K B F E h σ H) {p : Addr} {o : HO} (q : H p = none) : Rel K (upd B p o) F E h σ (upd H p o) := by
  have R1 : Rel K B F E h σ (upd H p o) := R.newO q
  refine ⟨fun a u e => ?_, R1.frz, R1.cel, R1.slot, fun P q' z => ⟨(R1.tab P q' z).1, (upd_ne (R.nn z q)).trans (R1.tab P q' z).2.1, (R1.tab P q' z).2.2⟩⟩
  by_cases n : a = p
  · subst n
    rw [upd_same] at e
    cases e
    exact ⟨upd_same, R.noF q, R.noh q⟩
  · rw [upd_ne n] at e
    exact R1.out a u e
/-- an object of the outside is let go, whatever stands there then -/
theorem Rel.unB {p : Addr} {o o' : HO} (R : Rel K (upd B p o) F E h σ H) (b : B p = none) (nt : ∀ ps, o ≠ .tbl ps) : Rel K B F E h σ (upd H p o') := by
  have z := R.out p o upd_same
  refine ⟨fun a u e => ?_, fun a u e => ?_, fun a m e => ?_, R.slot, fun P q y => ?_⟩
  · have n : a ≠ p := ne_of_none e b
    have w := R.out a u (by rw [upd_ne n]; exact e)
    rw [upd_ne n]
    exact w
  · have n : a ≠ p := ne_of_none e z.2.1
    rw [upd_ne n]
    exact R.frz a u e
  · have n : a ≠ p := fun y => by
      rw [y, z.2.2] at e
      cases e
    exact (R.cel a m e).mono (Le.refl F) (upd_ne n)
  · have np : P ≠ p := R.nt y z.1 nt
    have t := R.tab P q y
    have b2 := t.2.1
    rw [upd_ne np] at b2
    exact ⟨t.1.mono (Le.refl F) (upd_ne np), b2, t.2.2⟩
theorem upd_self {H : Hp} {p : Addr} {o : HO} (e : H p = some o) : upd H p o = H := by
  funext a
  by_cases n : a = p
  · rw [n, upd_same, e]
  · rw [upd_ne n]
/-- more objects -/
theorem Rel.ext (R : Rel K B F E h σ H) {H' : Hp} (e : Ext H H') : Rel K B F E h σ H' := by
  refine ⟨fun a u z => ?_, fun a u z => ?_, fun a m z => ?_, R.slot, fun P q y => ?_⟩
  · have w := R.out a u z
    exact ⟨e _ _ w.1, w.2⟩
  · have w := R.frz a u z
    exact ⟨e _ _ w.1, w.2⟩
  · obtain ⟨o, ho⟩ := (R.cel a m z).some
    exact (R.cel a m z).mono (Le.refl F) ((e _ _ ho).trans ho.symm)
  · have t := R.tab P q y
    obtain ⟨ps, hp⟩ := t.1.some
    exact ⟨t.1.mono (Le.refl F) ((e _ _ hp).trans hp.symm), t.2⟩
end
theorem LE.mono {K : Kf} {B : Hp} {W : WX} {t : TEm} {σ : L2.St} {H : Hp} {Q Q' : VK} (m : ∀ v H', Q v H' → Q' v H') (q : LE K B W t σ H Q) : LE K B W t σ H Q' := by
  obtain ⟨F, E, h, Kn, Kx, R, ht, hx, hn⟩ := q
  exact ⟨F, E, h, Kn, Kx, R, ht, hx, fun r h' F' H' v a b c d => m _ _ (hn r h' F' H' v a b c d)⟩
def mWord (a : Ad) (c : LX) (n : Nat) (tab : Nat → TEm) (ta : TVm) : TEm := fun E h Kn Kx => ta E h (fun d h1 => match d with
  | .lam j c' => c' = c ∧ j < n ∧ tab j E h1 (fun r h2 => Kn (.d (.tup [.str "", r.frz])) h2) (fun x h2 => wordX a x fun d => Kn (.d d) h2)
  | _ => False) Kx
/-- _law_word keeps what it says -/
abbrev NWe (e : Str) : List Str := ["_law_work", "_law_found", e, "_law_kinds", "_law_names", "_law_name"]
def WordOk (P : Program) (w : World) (K : Kf) (mg : Str → Option Value) (base : Heap) (a : Ad) (st : Stmt) (e : Str) : Prop :=
  ∀ (g : Addr) (cdv : Value) (A : Around) (outer : List Env) (s : Shared) (H : Hp) (Q : VK) (f : Addr) (tl : XK → Hp → VK → Prop), Room 0 (A.deeper (envOfC "_law_word" (defScope st) s.heap.objs.size g cdv)) →
    (∀ (W : WX) (pn : List (Addr × Obj)) (xe : Value → Shared → Prop) (E : XK) (p1 p2 : Pos), Takes ((cxOf (L2.CX P w) P w K mg base (NWe e) "_law_word" (defScope st) g cdv A outer s H C8.E0).tr pn xe) W →
      PE ((cxOf (L2.CX P w) P w K mg base (NWe e) "_law_word" (defScope st) g cdv A outer s H C8.E0).tr pn xe) (.Call (.Name "_law_work" p1) [] [] p2) (fun σZ HZ Q => (∀ cls d H', E cls d H' → W cls d σZ H') ∧ σZ[0]? = some (some (.ref f)) ∧ tl E HZ Q)) →
    (∀ E H Q Q', (∀ v H', Q v H' → Q' v H') → tl E H Q → tl E H Q') → wordT a tl H Q →
    ∃ t, PSs (cxOf (L2.CX P w) P w K mg base (NWe e) "_law_word" (defScope st) g cdv A outer s H C8.E0) (defBody st) t ∧ t { nx := fun _ H' => Q .non H', rt := Q } (L2.start (NWe e) [.ref f]) H
theorem onI_V {K : Kf} {F H : Hp} {x : EX} {cls : Value} {dx : Option Addr} {f : Str} {k : Int → Prop} {k' : Int → Prop} (fr : ∀ a o, F a = some o → H a = some o) (X : XOk K F x cls dx) (m : ∀ i, k i → k' i) (h : onI x.fs f k) : onIV H dx f k' := by
  obtain ⟨i, e, q⟩ := h
  obtain ⟨_, ⟨e0, _⟩ | ⟨d, ws, e1, e2, e3⟩⟩ := X
  · rw [e0] at e
    cases e
  · obtain ⟨v, ev, rv⟩ := e3.some e
    cases rv
    exact ⟨d, ws, i, e1, fr _ _ e2, ev, m i q⟩
theorem wordX_R {K : Kf} {F H : Hp} {a : Ad} {x : EX} {cls : Value} {dx : Option Addr} {k : D → Prop} {Q : VK} (fr : ∀ a o, F a = some o → H a = some o) (X : XOk K F x cls dx)
    (hv : ∀ z d v, k (.tup [.str z, d]) → (∀ F, Rep K F d v) → ansV H Q z v) (ht : ∀ z ds vs, k (.tup [.str z, .tup ds]) → (∀ F, Reps K F ds vs) → ds.length ≤ 2 → ansT H Q z vs) (h : wordX a x k) : wordR a Q cls dx H := by
  refine ⟨?_, ?_⟩
  · obtain ⟨_, ⟨_, e0⟩ | ⟨d, ws, e1, e2, e3⟩⟩ := X
    · exact .inl e0
    · exact .inr ⟨d, ws, e1, fr _ _ e2⟩
  have ec := X.1
  rcases h with ⟨e, h⟩ | ⟨e, h⟩ | ⟨e, h⟩ | ⟨e, h⟩ | ⟨e, h⟩ | ⟨e, h⟩ | ⟨e, h⟩ | ⟨e, h⟩ <;> rw [e] at ec
  · exact .inl ⟨ec, onI_V fr X (fun i h => onI_V fr X (fun j h => ht _ _ _ h (fun F => .cons (.int i) (.cons (.int j) .nil)) (Nat.le_refl 2)) h) h⟩
  · exact .inr (.inl ⟨ec, hv _ _ _ h fun F => .non⟩)
  · exact .inr (.inr (.inl ⟨ec, onI_V fr X (fun i h => hv _ _ _ h fun F => .int i) h⟩))
  · exact .inr (.inr (.inr (.inl ⟨ec, hv _ _ _ h fun F => .non⟩)))
  · exact .inr (.inr (.inr (.inr (.inl ⟨ec, hv _ _ _ h fun F => .non⟩))))
  · exact .inr (.inr (.inr (.inr (.inr (.inl ⟨ec, onI_V fr X (fun i h => hv _ _ _ h fun F => .int i) h⟩)))))
  · exact .inr (.inr (.inr (.inr (.inr (.inr (.inl ⟨ec, onI_V fr X (fun i h => onI_V fr X (fun j h => ht _ _ _ h (fun F => .cons (.int i) (.cons (.int j) .nil)) (Nat.le_refl 2)) h) h⟩))))))
  · exact .inr (.inr (.inr (.inr (.inr (.inr (.inr ⟨ec, onI_V fr X (fun i h => hv _ _ _ h fun F => .int i) h⟩))))))
section
variable {X : Cx} {W : WX}
theorem word_rc {ws : List Nat} {a : Ad} {c : LX} {k j : Nat} {tab : Nat → TEm} {st : Stmt} {g f : Addr} {fd : FuncData} {en : Str} {pins : List (Addr × Obj)} {σ : L2.St} {s1 : Shared} {B F1 H1 : Hp} {E : En} {h1 : MH} {Kn : RV → MH → Prop} {Q : VK} (F : Fun X.K "_law_word" "_law_word" st g fd) (S : FnScope (NWe en) ["_law_work"] (defScope st)) (bd : Binds X.K fd ["_law_work"] []) (wok : WordOk X.prog X.w X.K X.mg X.base a st en) (hr : Room (k + 2) X.A)
    (hv : Vis (defScope st) "_law_work") (hq : c.q = X.env.qual ++ "<lambda>") (hcl : c.cells = X.env.cells) (hws : ∀ i ∈ ws, ∀ v, σ[i]? ≠ some (some v)) (L : LamS3 X.N ws X.env.scope (c.lam j).scope) (LB : LamBind (c.lam j))
    (hbody : ∀ (E : XK) (f c' : Addr) (A : Around) (outer : List Env) (s : Shared) (H : Hp), Room k (A.deeper (LamX.lamEnv X (c.lam j).scope s.heap.objs.size f c')) → ME (LamX.lamCx X A outer s H E (c.lam j).scope f c') (fun cls d _ H => E cls d H) (c.lam j).body (tab j))
    (I1 : Inv X pins σ H1 s1) (R1 : Rel X.K B F1 E h1 σ H1) (rp : Rep X.K F1 (.lam j c) (.ref f)) (k1 : tab j E h1 (fun r h2 => Kn (.d (.tup [.str "", r.frz])) h2) (fun x h2 => wordX a x fun d => Kn (.d d) h2))
    (hn : ∀ r h' F' H' v, Le F1 F' → Rel X.K B F' E h' σ H' → RvOk X.K B F' h' H' r v → Kn r h' → Q v H') : codeAny (model X.prog X.w) X.A (.call (.ref g) ⟨[.ref f], []⟩) (CR (L2.CX X.prog X.w) X.stack X.prog X.w H1 s1 Q C8.E0) s1 := by
  cases rp with
  | @lam f c' dV _ _ ef ec ed =>
  obtain ⟨oc, od, kV, doc, pm, an, cdv, ct, osl, rfl, lk, hcd⟩ := F.ex
  have hf1 := (R1.frz _ _ ef).1
  have hc1 := (R1.frz _ _ ec).1
  have hd1 : ∀ {H2 : Hp}, Ext H1 H2 → DefOk H2 (c.lam j).params dV := fun e => by
    rcases ed with z | ⟨z1, d, z2, z3⟩
    · exact .inl z
    · exact .inr ⟨z1, d, z2, e _ _ (R1.frz _ _ z3).1⟩
  refine LamX.run_ofS (k := k + 1) (N := NWe en) (ps := ["_law_work"]) (us := [.ref f]) (vs := [.ref f]) lk hcd S hr I1.env0 (bd s1 [.ref f] I1.kIn rfl) (.cons rfl .nil) rfl fun hr' => ?_
  refine wok g cdv X.A X.stack s1 H1 Q f (fun E' HZ Q' => HZ f = some (LamO f c' dV c j) ∧ HZ c' = some (LamX.CodeO c' c.q) ∧ DefOk HZ (c.lam j).params dV ∧ ∃ B', LE X.K B' (fun cls d _ H => E' cls d H) (tab j) σ HZ Q') (hr'.mono (Nat.zero_le _)) (fun W' pn xe E' p1 p2 tk' => ?_) (fun E' H2 Q1 Q2 m z => ?_) ?_
  · have hp := pe_act3 (p1 := p1) (p2 := p2) (i := 0) (a := "_law_work") hws I1 hq hcl L LB tk' hr' (tb := fun σ H Q => ∃ B', LE X.K B' (fun cls d _ H => E' cls d H) (tab j) σ H Q) (fun f c' A outer s H hr2 => PE.any (hbody E' f c' A outer s H hr2)) rfl hv
    refine ⟨fun pins2 s2 σ2 H2 Q2 I2 z => hp.run pins2 s2 σ2 H2 Q2 I2 ?_⟩
    obtain ⟨z1, z2, z3, z4, z5, z6⟩ := z
    exact ⟨z1, f, c', dV, z2, z3, z4, z5, z6⟩
  · obtain ⟨z1, z2, z3, B', z4⟩ := z
    exact ⟨z1, z2, z3, B', LE.mono m z4⟩
  · intro l nl
    have xl : Ext H1 (upd H1 l (.lst [])) := Ext.new (fun _ _ h => h) nl
    have bl : B l = none := R1.noB nl
    refine ⟨xl _ _ hf1, xl _ _ hc1, hd1 xl, upd B l (.lst []), F1, E, h1, _, _, R1.newB nl, k1, fun x h' F' H' cls dx l2 R' xo kx => ?_, fun r h2 F2 H2 v2 l2 R2 rv k2 => ⟨(R2.out l _ upd_same).1, fun t nt => ?_⟩⟩
    · refine wordX_R (fun a o e => (R'.frz a o e).1) xo (fun z d v kz rd H3 e3 t nt => ?_) (fun z ds vs kz rd lz H3 e3 t1 t n1 nt => ?_) kx
      · have R0 := R'.unB (o' := .lst []) bl (by intro _ z; cases z)
        rw [upd_self (R'.out l _ upd_same).1] at R0
        have R3 := (R0.ext e3).newF (o := .tup [.str z, v]) nt
        have l3 : Le F' (upd F' t (.tup [.str z, v])) := Le.new ((R0.ext e3).noF nt)
        exact hn (.d (.tup [.str z, d])) h' _ _ _ (l2.trans l3) R3 (.tup (.inl (.inl upd_same)) (.cons (.str z) (.cons (rd _) .nil))) kz
      · have R0 := R'.unB (o' := .lst []) bl (by intro _ z; cases z)
        rw [upd_self (R'.out l _ upd_same).1] at R0
        have R3 := (R0.ext e3).newF (o := .tup vs) n1
        have l3 : Le F' (upd F' t1 (.tup vs)) := Le.new ((R0.ext e3).noF n1)
        have R4 := R3.newF (o := .tup [.str z, .ref t1]) nt
        have l4 : Le (upd F' t1 (.tup vs)) (upd (upd F' t1 (.tup vs)) t (.tup [.str z, .ref t1])) := Le.new (R3.noF nt)
        exact hn (.d (.tup [.str z, .tup ds])) h' _ _ _ ((l2.trans l3).trans l4) R4 (.tup (.inl (.inl upd_same)) (.cons (.str z) (.cons (.tup (l4.sqT (.inl (.inl upd_same))) (rd _)) .nil))) kz
    · obtain ⟨F3, l3, R3, rp3⟩ := rv.frz R2
      have R4 := R3.unB (o' := .lst [v2]) bl (by intro _ z; cases z)
      have R5 := R4.newF (o := .tup [.str "", v2]) nt
      have l5 : Le F3 (upd F3 t (.tup [.str "", v2])) := Le.new (R4.noF nt)
      exact hn (.d (.tup [.str "", r.frz])) h2 _ _ _ ((l2.trans l3).trans l5) R5 (.tup (.inl (.inl upd_same)) (.cons (.str _) (.cons (rp3.mono l5) .nil))) k2
/-- .. within a comprehension of the def: ws its own names -/
def mWordC (ws : List Nat) (a : Ad) (c : LX) (n : Nat) (tab : Nat → TEm) (ta : TVm) : TEm := fun E h Kn Kx => ta E h (fun d h1 => match d with
  | .lam j c' => c' = c ∧ j < n ∧ tab j (wipeE E ws) h1 (fun r h2 => Kn (.d (.tup [.str "", r.frz])) h2) (fun x h2 => wordX a x fun d => Kn (.d d) h2)
  | _ => False) Kx
theorem me_word {lw : List Nat} {a : Ad} {c : LX} {n k : Nat} {tab : Nat → TEm} {ta : TVm} {st : Stmt} {g : Addr} {fd : FuncData} {en : Str} {x : Str} {e : Expr} {p pos : Pos} (F : Fun X.K "_law_word" "_law_word" st g fd) (S : FnScope (NWe en) ["_law_work"] (defScope st)) (bd : Binds X.K fd ["_law_work"] []) (wok : WordOk X.prog X.w X.K X.mg X.base a st en) (hr : Room (k + 2) X.A)
    (hg : Gl X x) (hm : X.mg x = some (.ref g)) (he : MV X W e ta) (hv : Vis (defScope st) "_law_work") (hq : c.q = X.env.qual ++ "<lambda>") (hcl : c.cells = X.env.cells)
    (hb : ∀ j, j < n → LamS3 X.N lw X.env.scope (c.lam j).scope ∧ LamBind (c.lam j) ∧ ∀ (E : XK) (f c' : Addr) (A : Around) (outer : List Env) (s : Shared) (H : Hp), Room k (A.deeper (LamX.lamEnv X (c.lam j).scope s.heap.objs.size f c')) → ME (LamX.lamCx X A outer s H E (c.lam j).scope f c') (fun cls d _ H => E cls d H) (c.lam j).body (tab j))
    (hdb : (x == ("__debug__" : Str)) = false := by decide) (hs : starEach [e] X.env = (false, eval e X.env) :: starEach [] X.env := by rfl) (hpl : (backTo pos (starEach [] X.env)).any (·.1) = false := by rfl) :
    ME X W (.Call (.Name x p) [e] [] pos) (mWordC lw a c n tab ta) := fun B => by
  refine ⟨fun pins s σ H Q I h => ?_⟩
  obtain ⟨Fh, E, h, Kn, Kx, R, ht, hx, hn⟩ := h
  refine wpAny_Call_Name_kw (ld_glob I hg hm ?_ hdb)
  refine PySem.W.callWith_K (h₀ := X.base) I.ok.mod.kin F.kp (thn ((pa_cons (he B) pa_nil hs).run pos pins s σ H (fun vs H1 => ∃ (j : Nat) (F1 : Hp) (h1 : MH) (v : V), vs = [v] ∧ Le Fh F1 ∧ Rel X.K B F1 E h1 σ H1 ∧ Rep X.K F1 (.lam j c) v ∧ j < n ∧
      tab j (wipeE E lw) h1 (fun r h2 => Kn (.d (.tup [.str "", r.frz])) h2) (fun x h2 => wordX a x fun d => Kn (.d d) h2)) I ⟨Fh, E, h, _, Kx, R, ht, hx, fun d h1 F1 H1 v l1 R1 r1 k1 => ?_⟩) fun us s1 hh => ?_) hs hpl
  · cases d with
    | lam j c2 =>
      obtain ⟨rfl, jn, k1⟩ := k1
      exact ⟨j, F1, h1, v, rfl, l1, R1, r1, jn, k1⟩
    | _ => exact k1.elim
  obtain ⟨vs, H1, I1, r1, j, F1, h1, v, rfl, l1, R1, rp, jn, k1⟩ := hh
  refine ⟨I1.kIn, ?_⟩
  obtain ⟨f, rfl⟩ : ∃ f, v = .ref f := by
    cases rp with
    | @lam f c' dV _ _ ef ec ed => exact ⟨f, rfl⟩
  obtain ⟨u, rfl, ru⟩ := r1.one
  obtain rfl : u = Value.ref f := ru
  obtain ⟨L, LB, hbody⟩ := hb j jn
  have I8 : Inv X pins (wipe σ lw) H1 s1 := I1.weak (wipe_length _ _) fun j v e => (wipe_some e).1
  have rc := word_rc F S bd wok hr hv hq hcl (fun i hi v z => (wipe_some z).2 hi) L LB hbody I8 (R1.slots (R1.slot.wiped lw)) rp k1 (Q := Q) fun r h' F' H' v l R' => hn r h' F' H' v (l1.trans l) (R'.slots (R1.slot.mono l))
  refine wpAny_call (codeAny_mono rc fun r s2 hq => ?_)
  cases r with
  | error e =>
    have hq : L2.CX X.prog X.w X.stack H1 s1 C8.E0 e s2 := hq
    obtain ⟨_, _, _, _, _, _, _, _, _, _, _, _, z⟩ := hq
    exact z.elim
  | ok fl =>
    cases fl with
    | ret u => exact I1.after hq
    | next => exact False.elim hq
    | brk => exact False.elim hq
    | cont => exact False.elim hq
theorem wipe_app {σ σ' : L2.St} {own : List Nat} (h : wipe σ own = wipe σ' own) : ∀ lw : List Nat, wipe σ (lw ++ own) = wipe σ' (lw ++ own)
  | [] => h
  | v :: lw => by
    show (wipe σ (lw ++ own)).set v none = (wipe σ' (lw ++ own)).set v none
    rw [wipe_app h lw]
theorem pe_wordC {lw own : List Nat} {a : Ad} {c : LX} {n k : Nat} {tab : Nat → TEm} {ta : TVm} {st : Stmt} {g : Addr} {fd : FuncData} {en : Str} {x : Str} {e : Expr} {p pos : Pos} {ws : List Nat} {σ0 : L2.St} {pins0 : List (Addr × Obj)} {s0 : Shared} {H0 : Hp} {scope : Scope} {cenv : Env} {fp : List Addr} {B : Hp}
    (hws : ws = lw ++ own) (hsub : ∀ i ∈ lw, i ∈ ws) (I0 : Inv X pins0 σ0 H0 s0) (fps : ∀ b ∈ fp, FpOk X pins0 H0 b) (F : Fun X.K "_law_word" "_law_word" st g fd) (S : FnScope (NWe en) ["_law_work"] (defScope st)) (bd : Binds X.K fd ["_law_work"] []) (wok : WordOk X.prog X.w X.K X.mg X.base a st en) (hr : Room (k + 2) X.A)
    (hg : Gl (X.blk s0 H0 scope cenv fp) x) (hm : X.mg x = some (.ref g)) (he : MV (X.blk s0 H0 scope cenv fp) W0 e ta) (hv : Vis (defScope st) "_law_work") (hq : c.q = X.env.qual ++ "<lambda>") (hcl : c.cells = X.env.cells)
    (hb : ∀ j, j < n → LamS3 X.N lw X.env.scope (c.lam j).scope ∧ LamBind (c.lam j) ∧ ∀ (E : XK) (f c' : Addr) (A : Around) (outer : List Env) (s : Shared) (H : Hp), Room k (A.deeper (LamX.lamEnv X (c.lam j).scope s.heap.objs.size f c')) → ME (LamX.lamCx X A outer s H E (c.lam j).scope f c') (fun cls d _ H => E cls d H) (c.lam j).body (tab j))
    (hdb : (x == ("__debug__" : Str)) = false := by decide) (hs : starEach [e] (X.blk s0 H0 scope cenv fp).env = (false, eval e (X.blk s0 H0 scope cenv fp).env) :: starEach [] (X.blk s0 H0 scope cenv fp).env := by rfl) (hpl : (backTo pos (starEach [] (X.blk s0 H0 scope cenv fp).env)).any (·.1) = false := by rfl) :
    PE (X.blk s0 H0 scope cenv fp) (.Call (.Name x p) [e] [] pos) (fun σ2 H2 Q2 => wipe σ2 own = wipe σ0 own ∧ LE X.K B W0 (mWordC ws a c n tab ta) σ2 H2 Q2) := by
  refine ⟨fun pins s σ H Q I h => ?_⟩
  obtain ⟨hw, Fh, E, h, Kn, Kx, R, ht, hx, hn⟩ := h
  have hw : wipe σ ws = wipe σ0 ws := by rw [hws]; exact wipe_app hw lw
  refine wpAny_Call_Name_kw (ld_glob I hg hm ?_ hdb)
  refine PySem.W.callWith_K (h₀ := X.base) I.ok.mod.kin F.kp (thn ((pa_cons (he B) pa_nil hs).run pos pins s σ H (fun vs H1 => ∃ (j : Nat) (F1 : Hp) (h1 : MH) (v : V), vs = [v] ∧ Le Fh F1 ∧ Rel X.K B F1 E h1 σ H1 ∧ Rep X.K F1 (.lam j c) v ∧ j < n ∧
      tab j (wipeE E ws) h1 (fun r h2 => Kn (.d (.tup [.str "", r.frz])) h2) (fun x h2 => wordX a x fun d => Kn (.d d) h2)) I ⟨Fh, E, h, _, Kx, R, ht, hx, fun d h1 F1 H1 v l1 R1 r1 k1 => ?_⟩) fun us s1 hh => ?_) hs hpl
  · cases d with
    | lam j c2 =>
      obtain ⟨rfl, jn, k1⟩ := k1
      exact ⟨j, F1, h1, v, rfl, l1, R1, r1, jn, k1⟩
    | _ => exact k1.elim
  obtain ⟨vs, H1, I1, r1, j, F1, h1, v, rfl, l1, R1, rp, jn, k1⟩ := hh
  refine ⟨I1.kIn, ?_⟩
  obtain ⟨f, rfl⟩ : ∃ f, v = .ref f := by
    cases rp with
    | @lam f c' dV _ _ ef ec ed => exact ⟨f, rfl⟩
  obtain ⟨u, rfl, ru⟩ := r1.one
  obtain rfl : u = Value.ref f := ru
  obtain ⟨L, LB, hbody⟩ := hb j jn
  have I7 : Inv X pins0 σ0 H1 s1 := I0.call' (ch := fp) I1.os I1.base I1.hok I1.bare fun b hb => ⟨(fps b hb).2.2.2.1, (fps b hb).2.1, (fps b hb).2.2.2.2.1, (fps b hb).2.2.2.2.2⟩
  have I8 : Inv X pins0 (wipe σ0 ws) H1 s1 := I7.weak (wipe_length _ _) fun j v e => (wipe_some e).1
  have Rw : Rel X.K B F1 (wipeE E ws) h1 (wipe σ0 ws) H1 := by
    rw [← hw]
    exact R1.slots (R1.slot.wiped ws)
  have rc := word_rc F S bd wok hr hv hq hcl (fun i hi v z => (wipe_some z).2 (hsub i hi)) L LB hbody I8 Rw rp k1 (Q := Q) fun r h' F' H' v l R' => hn r h' F' H' v (l1.trans l) (R'.slots (R1.slot.mono l))
  refine wpAny_call (codeAny_mono rc fun r s2 hq => ?_)
  cases r with
  | error e =>
    have hq : L2.CX X.prog X.w X.stack H1 s1 C8.E0 e s2 := hq
    obtain ⟨_, _, _, _, _, _, _, _, _, _, _, _, z⟩ := hq
    exact z.elim
  | ok fl =>
    cases fl with
    | ret u => exact I1.after hq
    | next => exact False.elim hq
    | brk => exact False.elim hq
    | cont => exact False.elim hq
end
end M3
set_option Elab.async false
set_option linter.all false
set_option maxRecDepth 100000
set_option maxHeartbeats 4000000
/-! M5H: comprehensions whose turns call lambdas of the def that holds them. -/
namespace M3
open PySem PySem.Spec PyProof.Rows L2
section
variable {X : Cx}
theorem m5_lc_core {pins : List (Addr × Obj)} {s : Shared} {σ : L2.St} {H : Hp} {Q : VK} {elt tg iter : Expr} {ifs : List Expr} {scope : Scope} {own : List (Str × Nat)} {pos pos' : Pos} {wi : TI} {g : TG} {tt : TT} {te : TE} {use : Option (Value → Sem Unit)} {Qf : Value → Shared → Prop}
    (hc : X.calm = true) (hN : X.N.Nodup) (I : Inv X pins σ H s) (hi : PI X tg iter wi) (ok : BlkOk X.N X.env.scope scope own)
    (hg : ∀ (s : Shared) (H : Hp) (C : Addr) (cl : List (Str × Addr)) (fp : List Addr), PG (X.blk s H scope (compEnvC scope cl C X.env) fp) tg g) (ht : ∀ (s : Shared) (H : Hp) (C : Addr) (cl : List (Str × Addr)) (fp : List Addr), Inv X pins σ H s → (∀ b ∈ fp, FpOk X pins H b) → PTs (X.blk s H scope (compEnvC scope cl C X.env) fp) ifs (fun σ2 H2 Q2 => wipe σ2 (own.map (·.2)) = wipe σ (own.map (·.2)) ∧ tt σ2 H2 Q2))
    (he : ∀ (s : Shared) (H : Hp) (C : Addr) (cl : List (Str × Addr)) (fp : List Addr), Inv X pins σ H s → (∀ b ∈ fp, FpOk X pins H b) → PE (X.blk s H scope (compEnvC scope cl C X.env) fp) elt (fun σ2 H2 Q2 => wipe σ2 (own.map (·.2)) = wipe σ (own.map (·.2)) ∧ te σ2 H2 Q2)) (hs : ∀ x, foldedSetIterable iter X.env x = pure x)
    (h : tLc wi g tt te (own.map (·.2)) σ H Q)
    (hRR : ∀ D C s' m H', Inv X pins σ H' s' → Q (.ref D) H' → s'.heap.Ns C m → FpOk X pins H' C → compPost (model X.prog X.w) X.A X.xe use Qf (.ref D) C (.ok .next) s') :
    wpAny (model X.prog X.w) X.A (comprehension (.ListComp elt [⟨tg, iter, ifs, 0⟩] scope pos) scope X.env pos' (newList []) false (eval iter X.env) use) Qf X.xe s := by
  have hfree : ∀ y ∈ scope.names, y.2 = .free → ∃ c, X.env.cells.lookup y.1 = some c := fun y hy e => by
    rcases ok.free y hy e with k | k
    · exact I.ok.has _ (.inl k)
    · exact I.ok.has _ (.inr k)
  refine wpAny_comprehension_free (use := use) rfl hs (closure_ok hfree) ok.kind (fun y hy e => by rw [ok.uniq y hy, e])
    (thn (hi.run pins s σ H _ I h) fun xv s1 hx => thn hx fun itv s2 h2 => ?_)
  obtain ⟨it, fp, tn, J, H2, e, I2, T, st2, f2, q⟩ := h2
  subst e
  refine wpAny_newObj_type (newEnv_comp ?_) (by show 0 ≤ sizeLine; decide)
  generalize hD : s2.heap.objs.size = D
  have hDn : H2 D = none := I2.hok.fresh (Nat.le_of_eq hD)
  obtain ⟨W, ⟨m0, w0⟩, turn⟩ := q D hDn
  -- the new list
  generalize hs3 : ({ s2 with heap := s2.heap.push { cls := .type "list", data := .seq ([] : List Value).toArray } } : Shared) = s3
  have I3 : Inv X pins σ (upd H2 D (.lst [])) s3 := by
    rw [← hs3]
    refine I2.laid (t' := s2.toks) (fun b o e => Heap.get?_push_of_some _ e) (Nat.le_of_eq hD) ⟨Nat.zero_le _, [], 0, .nil, ?_⟩
    rw [← hD]
    exact Heap.get?_push_size _ rfl
  have h3 : s3.heap = s2.heap.push { cls := .type "list", data := .seq ([] : List Value).toArray } := by rw [← hs3]
  have sz : ∀ b ∈ fp, b < s2.heap.objs.size := fun b hb => by
    obtain ⟨o, e, _⟩ := T.obj _ _ st2 b hb
    exact Heap.lt_size e
  have f3 : ∀ b ∈ fp, FpOk X pins (upd H2 D (.lst [])) b ∧ b < s3.heap.objs.size := fun b hb => by
    have hlt := sz b hb
    refine ⟨⟨?_, (f2 b hb).2⟩, by rw [h3, Heap.size_push]; exact Nat.lt_succ_of_lt hlt⟩
    rw [upd_ne (by rw [← hD]; exact Nat.ne_of_lt hlt)]
    exact (f2 b hb).1
  have st3 : tn 0 s3.heap := T.keep _ _ _ st2 fun b _ o e => by rw [h3]; exact Heap.get?_push_of_some _ e
  have I4 := block_start I3 ok hN f3
  have pg := hg s3 (upd H2 D (.lst [])) s3.heap.objs.size (cellsFrom (s3.heap.objs.size + 1) scope.names (cloFrom X.env.cells scope.names [])) fp
  have pt := ht s3 (upd H2 D (.lst [])) s3.heap.objs.size (cellsFrom (s3.heap.objs.size + 1) scope.names (cloFrom X.env.cells scope.names [])) fp I3 fun b hb => (f3 b hb).1
  have pe := he s3 (upd H2 D (.lst [])) s3.heap.objs.size (cellsFrom (s3.heap.objs.size + 1) scope.names (cloFrom X.env.cells scope.names [])) fp I3 fun b hb => (f3 b hb).1
  show codeAny _ _ (.compStart (.ListComp elt [⟨tg, iter, ifs, 0⟩] scope pos) 0 (.ref it) (.ref D) (compEnvC scope (cellsFrom (s3.heap.objs.size + 1) scope.names (cloFrom X.env.cells scope.names [])) s3.heap.objs.size X.env)) (compPost (model X.prog X.w) X.A X.xe use Qf (.ref D) s3.heap.objs.size) { s3 with heap := pushCells (s3.heap.push { cls := .type "dict", data := .dict #[] }) scope.names }
  have nfp : ∀ b ∈ fp, (upd H2 D (.lst [])) b = none := fun b hb => (f3 b hb).1.1
  generalize hce : compEnvC scope (cellsFrom (s3.heap.objs.size + 1) scope.names (cloFrom X.env.cells scope.names [])) s3.heap.objs.size X.env = ce at I4 pg pt pe ⊢
  have cL : ce.locals = s3.heap.objs.size := by subst hce; rfl
  generalize hH3 : upd H2 D (.lst []) = H3 at I3 I4 pg pt pe w0 nfp f3
  generalize hs4 : ({ s3 with heap := pushCells (s3.heap.push { cls := .type "dict", data := .dict #[] }) scope.names } : Shared) = s4 at I4 ⊢
  have st4 : tn 0 s4.heap := T.keep _ _ _ st3 fun b _ o e => by rw [← hs4]; exact pushCells_keeps _ _ _ _ (Heap.get?_push_of_some _ e)
  have stat : ∀ {σ' : L2.St} {H' : Hp} {s' : Shared}, Inv (X.blk s3 H3 scope ce fp) [] σ' H' s' → (∀ b ∈ fp, H' b = none) → ∀ b ∈ fp, FpOk (X.blk s3 H3 scope ce fp) [] H' b := fun {σ' H' s'} I' hn b hb =>
    ⟨hn b hb, (I'.ok.exf b hb).1, I'.ok.exfs b hb, .inl hb, fun x c e => (I'.ok.exf b hb).2 x c e, fun p hp => absurd (show p ∈ ([] : List (Addr × Obj)) ++ [] from hp) (by simp)⟩
  have loop : codeAny (model X.prog X.w) X.A (.compLoop (.ListComp elt [⟨tg, iter, ifs, 0⟩] scope pos) 0 (.ref it) (.ref D) ce) (compPost (model X.prog X.w) X.A X.xe use Qf (.ref D) s3.heap.objs.size) s4 := by
    refine compLoop_any (fun n s' => ∃ i H', Inv (X.blk s3 H3 scope ce fp) [] (wipe σ (own.map (·.2))) H' s' ∧ tn i s'.heap ∧ (∀ b ∈ fp, H' b = none) ∧ W i n H') ?_ m0 ⟨0, H3, I4, st4, nfp, w0⟩
    rintro n s5 ⟨i, H5, I5, st5, n5, w5⟩
    rcases turn i n H5 w5 with ⟨stop, qq⟩ | ⟨go, Nx, hNx, step⟩
    · have td := T.done (X.blk s3 H3 scope ce fp) rfl rfl rfl hc i [] s5 _ H5 (fun _ _ => False) I5 (stat I5 n5) st5 stop
      refine thnF td fun r s6 ⟨hr, I6⟩ => ?_
      subst hr
      -- back in the def's context
      have I7 : Inv X pins σ H5 s6 := I3.call' (ch := fp) I6.os I6.base I6.hok I6.bare fun b hb => ⟨(f3 b hb).1.2.2.2.1, (f3 b hb).1.2.1, (f3 b hb).1.2.2.2.2.1, (f3 b hb).1.2.2.2.2.2⟩
      have nC : H5 s3.heap.objs.size = none := by
        have z : H5 ce.locals = none := I6.free
        rw [cL] at z
        exact z
      obtain ⟨m, hn, _⟩ := I6.loc
      have hn : s6.heap.Ns ce.locals m := hn
      rw [cL] at hn
      exact hRR D s3.heap.objs.size s6 m H5 I7 qq hn (I3.fpOk (Nat.le_refl _) nC)
    · have ti := T.item (X.blk s3 H3 scope ce fp) rfl rfl rfl hc i [] s5 _ H5 (fun _ _ => False) I5 (stat I5 n5) st5 go
      refine thnF ti fun r s6 ⟨u, hr, h6⟩ => ?_
      subst hr
      refine thnF h6 fun _ s7 ⟨x, H7, I7, r7, y7, st7, n7⟩ => ?_
      have I7' := I7.pinned (stat I7 n7) (T.obj _ _ st7)
      refine thnF (pg.run _ s7 _ H7 x u _ I7' r7 (step x H7 y7)) fun _ s8 ⟨σ8, H8, I8, hw8, q8⟩ => ?_
      refine thnF (pt.run _ s8 σ8 H8 _ I8 ⟨hw8, q8⟩) fun b s9 ⟨H9, I9, q9⟩ => ?_
      -- the turn's end
      have fin : ∀ {s' : Shared} {H' : Hp}, Inv (X.blk s3 H3 scope ce fp) ([] ++ pinsAt fp s7.heap) σ8 H' s' → Nx H' → ∃ m, m < n ∧ ∃ i H', Inv (X.blk s3 H3 scope ce fp) [] (wipe σ (own.map (·.2))) H' s' ∧ tn i s'.heap ∧ (∀ b ∈ fp, H' b = none) ∧ W i m H' := fun {s' H'} I' nx => by
        obtain ⟨m', hm, w'⟩ := hNx H' nx
        have pin' : ∀ b ∈ fp, ∀ o, s7.heap.get? b = some o → s'.heap.get? b = some o ∧ H' b = none := fun b hb o e =>
          let z := I'.pin (b, o) (List.mem_append_right _ (List.mem_append_right _ (mem_pinsAt hb e)))
          ⟨z.1, z.2.1⟩
        have hl : (wipe σ (own.map (·.2))).length = σ8.length := by rw [← hw8, wipe_length]
        refine ⟨m', hm, i + 1, H', (I'.unpinned (pins := [])).weak hl (fun j v e => ?_), T.keep _ _ _ st7 fun b hb o e => (pin' b hb o e).1, fun b hb => ?_, w'⟩
        · rw [← hw8] at e
          exact (wipe_some e).1
        · obtain ⟨o, e, _⟩ := T.obj _ _ st7 b hb
          exact (pin' b hb o e).2
      cases b with
      | false =>
        simp only [Bool.false_eq_true, if_false] at q9 ⊢
        exact fin I9 q9
      | true =>
        simp only [if_true] at q9 ⊢
        refine thnF (pe.run _ s9 σ8 H9 _ I9 ⟨hw8, q9⟩) fun z s10 ⟨yv, H10, I10, r10, acc, hD10, hz10, nx⟩ => ?_
        exact app_ok (X := X.blk s3 H3 scope ce fp) I10 hD10 hz10 r10 fun s11 I11 => fin I11 nx
  exact codeAny_compStart_list loop (T.self X.A 0 _ _ _ st4 loop)
/-- a comprehension, each turn knowing the def's own state -/
theorem m5_pe_lc {elt tg iter : Expr} {ifs : List Expr} {scope : Scope} {own : List (Str × Nat)} {pos : Pos} {wi : TI} {g : TG} {tt : TT} {te : TE} (hc : X.calm = true) (hN : X.N.Nodup) (hi : PI X tg iter wi) (ok : BlkOk X.N X.env.scope scope own)
    (hg : ∀ (s : Shared) (H : Hp) (C : Addr) (cl : List (Str × Addr)) (fp : List Addr), PG (X.blk s H scope (compEnvC scope cl C X.env) fp) tg g)
    (ht : ∀ (σ : L2.St) (pins : List (Addr × Obj)) (s : Shared) (H : Hp) (C : Addr) (cl : List (Str × Addr)) (fp : List Addr), Inv X pins σ H s → (∀ b ∈ fp, FpOk X pins H b) → PTs (X.blk s H scope (compEnvC scope cl C X.env) fp) ifs (fun σ2 H2 Q2 => wipe σ2 (own.map (·.2)) = wipe σ (own.map (·.2)) ∧ tt σ2 H2 Q2))
    (he : ∀ (σ : L2.St) (pins : List (Addr × Obj)) (s : Shared) (H : Hp) (C : Addr) (cl : List (Str × Addr)) (fp : List Addr), Inv X pins σ H s → (∀ b ∈ fp, FpOk X pins H b) → PE (X.blk s H scope (compEnvC scope cl C X.env) fp) elt (fun σ2 H2 Q2 => wipe σ2 (own.map (·.2)) = wipe σ (own.map (·.2)) ∧ te σ2 H2 Q2)) (hs : ∀ x, foldedSetIterable iter X.env x = pure x := by intro _; rfl) :
    PE X (.ListComp elt [⟨tg, iter, ifs, 0⟩] scope pos) (tLc wi g tt te (own.map (·.2))) := by
  refine ⟨fun pins s σ H Q I h => ?_⟩
  rw [eval_ListComp]
  refine m5_lc_core hc hN I hi ok hg (ht σ pins) (he σ pins) hs h fun D C s' m H' I' q hn f => ⟨m, hn, fun h'' sb => ?_⟩
  obtain ⟨f0, f1, f2, f3, f4, f5⟩ := f
  exact ⟨.ref D, H', I'.turned (t' := s'.toks) (fun b o hb e => (sb.2 b hb).trans e) f0 f1 f3 f4 f5, rfl, q⟩
end
/-! ### judgements beside a fact of the slots -/
theorem LV.mono {K : Kf} {B : Hp} {W : WX} {t : TVm} {σ : L2.St} {H : Hp} {Q Q' : VK} (m : ∀ v H', Q v H' → Q' v H') (q : LV K B W t σ H Q) : LV K B W t σ H Q' := by
  obtain ⟨F, E, h, Kn, Kx, R, ht, hx, hn⟩ := q
  exact ⟨F, E, h, Kn, Kx, R, ht, hx, fun r h' F' H' v a b c d => m _ _ (hn r h' F' H' v a b c d)⟩
theorem LA.mono {K : Kf} {B : Hp} {W : WX} {t : TAm} {σ : L2.St} {H : Hp} {Q Q' : List V → Hp → Prop} (m : ∀ v H', Q v H' → Q' v H') (q : LA K B W t σ H Q) : LA K B W t σ H Q' := by
  obtain ⟨F, E, h, Kn, Kx, R, ht, hx, hn⟩ := q
  exact ⟨F, E, h, Kn, Kx, R, ht, hx, fun ds h' F' H' v a b c d => m _ _ (hn ds h' F' H' v a b c d)⟩
def MES (X : Cx) (S : L2.St → Prop) (W : WX) (e : Expr) (t : TEm) : Prop := ∀ B : Hp, PE X e (fun σ H Q => S σ ∧ LE X.K B W t σ H Q)
def MVS (X : Cx) (S : L2.St → Prop) (W : WX) (e : Expr) (t : TVm) : Prop := ∀ B : Hp, PE X e (fun σ H Q => S σ ∧ LV X.K B W t σ H Q)
def MTS (X : Cx) (S : L2.St → Prop) (W : WX) (e : Expr) (t : TTm) : Prop := ∀ B : Hp, PT X e (fun σ H Q => S σ ∧ LT X.K B W t σ H Q)
def MAS (X : Cx) (S : L2.St → Prop) (W : WX) (es : List Expr) (t : TAm) : Prop := ∀ B : Hp, PA X es (fun σ H Q => S σ ∧ LA X.K B W t σ H Q)
section
variable {X : Cx} {S : L2.St → Prop} {W : WX} {e a b : Expr} {es : List Expr} {pos : Pos} {te : TEm} {tv ta tb : TVm} {tt : TTm} {tl : TAm}
theorem vs_of (p : MV X W e tv) : MVS X S W e tv := fun B => (p B).impM fun _ _ _ q => q.2
theorem vsE (p : MES X S W e te) : MVS X S W e (frzV te) := fun B => (p B).impM fun _ _ _ q => ⟨q.1, frz_ok q.2⟩
theorem as_nil : MAS X S W [] mNil := fun B => (ma_nil (X := X) (W := W) B).impM fun _ _ _ q => q.2
theorem as_cons {tr : TAm} (p : MVS X S W e tv) (r : MAS X S W es tr) (hs : starEach (e :: es) X.env = (false, eval e X.env) :: starEach es X.env := by rfl) : MAS X S W (e :: es) (mCons tv tr) := fun B =>
  (pa_cons (p B) (r B) hs).impM fun σ H Q ⟨hS, F, E, h, Kn, Kx, R, ht, hx, hn⟩ => by
    refine ⟨hS, F, E, h, _, Kx, R, ht, hx, fun x h1 F1 H1 v l1 R1 r1 k1 => ?_⟩
    refine ⟨hS, F1, E, h1, _, Kx, R1, k1, hx.up l1, fun y h2 F2 H2 u l2 R2 r2 k2 => ?_⟩
    exact hn (x :: y) h2 F2 H2 (v :: u) (l1.trans l2) R2 (.cons (r1.mono l2) r2) k2
theorem ts_cmp {op : CmpOp} {r : R2} {g : G2} (ho : OpR X (compareOp op) r) (hg : Has2 X.K r g) (ha : MVS X S W a ta) (hb : MVS X S W b tb) (hm : behindInMarks op b = false) : MTS X S W (.Compare a [op] [b] pos) (mTst (frzV (mOp g ta tb))) := fun B => (pt_cmpR ho (ha B) (hb B) hm).impM fun σ H Q ⟨hS, F, E, h, Kn, Kx, R, ht, hx, hn⟩ => by
  have z : tOp r (LV X.K B W ta) (LV X.K B W tb) σ H (fun x H' => ∃ k, x = .bl k ∧ Q k H') := two hg (W := W) ⟨F, E, h, _, Kx, R, ht, hx, fun r h' F' H' v l R' q k => by
    obtain ⟨F2, l2, R2, rp⟩ := q.frz R'
    obtain ⟨b, rfl, e, k⟩ := bl_of rp k
    exact ⟨b, rfl, hn b h' F2 H' (l.trans l2) R2 k⟩⟩
  exact ⟨hS, LV.mono (fun x H1 q => ⟨hS, q⟩) z⟩
theorem ts_of (p : MVS X S W e tv) (hb : ∀ te, PE X e te → PT X e (tB te) := by exact fun _ h => pt_val h) : MTS X S W e (mTst tv) := fun B => (hb _ (p B)).impM fun σ H Q ⟨hS, F, E, h, Kn, Kx, R, ht, hx, hn⟩ =>
  ⟨hS, F, E, h, _, Kx, R, ht, hx, fun d h' F' H' v l R' q k => by
    obtain ⟨b, rfl, rfl, k⟩ := bl_of (p := fun b => Kn b h') q k
    exact ⟨b, rfl, hn b h' F' H' l R' k⟩⟩
theorem ts_not (p : MTS X S W e tt) : MTS X S W (.UnaryOp .Not e pos) (mNotT tt) := fun B => (pt_not (p B)).impM fun σ H Q ⟨hS, F, E, h, Kn, Kx, R, ht, hx, hn⟩ =>
  ⟨hS, F, E, h, _, Kx, R, ht, hx, fun b h' F' H' l R' k => hn (!b) h' F' H' l R' k⟩
theorem es_call {k : Nat} {f : Addr} {fd : FuncData} {ps : List Str} {sp : MSp} {ds : List Value} {dvs : List V} {dds : List D} {x : Str} {p : Pos} (F : FM X.prog X.w X.K X.mg X.base k f fd ps sp) (hr : Room k X.A) (hg : Gl X x) (hm : X.mg x = some (.ref f)) (hk : PySem.W.keepIn X.K (.ref f) = true) (hb : Binds X.K fd ps ds) (hd : Vals dvs ds) (hdd : ∀ K F, Reps K F dds dvs) (tk : Takes X W)
    (ha : MAS X S W (e :: es) tl) (hdb : (x == ("__debug__" : Str)) = false := by decide) (he : starEach (e :: es) X.env = (false, eval e X.env) :: starEach es X.env := by rfl) (hpl : (backTo pos (starEach es X.env)).any (·.1) = false := by rfl) :
    MES X S W (.Call (.Name x p) (e :: es) [] pos) (mFun sp dds tl) := fun B => (pe_callSD (E := WE W) F hr hg hm hk hb hd (fun σ => passAt tk σ) (ha B) hdb he hpl).impM fun σ H Q ⟨hS, F, E, h, Kn, Kx, R, ht, hx, hn⟩ => by
  refine ⟨hS, F, E, h, _, Kx, R, ht, hx, fun ds' h' F' H' vs l R' r k => ?_⟩
  exact sp_ok R' (r.app (hdd _ _)) k (hx.up l) fun r h2 F2 H2 v l2 R2 q2 k2 => hn r h2 F2 H2 v (l.trans l2) R2 q2 k2
end
/-- the tests of a comprehension's turn -/
def MTsS (X : Cx) (S : L2.St → Prop) (W : WX) (ifs : List Expr) (t : TTm) : Prop := ∀ B : Hp, PTs X ifs (fun σ H Q => S σ ∧ LT X.K B W t σ H Q)
theorem tss_nil {X : Cx} {S : L2.St → Prop} {W : WX} : MTsS X S W [] mYes := fun B => (mts_nil (X := X) (W := W) B).impM fun _ _ _ q => q.2
theorem tss_one {X : Cx} {S : L2.St → Prop} {W : WX} {c : Expr} {t : TTm} (p : MTS X S W c t) : MTsS X S W [c] t := fun B => pts_one (p B)
section
variable {X : Cx} {W : WX}
/-- what each turn of a comprehension in X may ask: its slots are the def's but for its own names -/
abbrev SlOf (σ : L2.St) (own : List (Str × Nat)) : L2.St → Prop := fun σ2 => wipe σ2 (own.map (·.2)) = wipe σ (own.map (·.2))
theorem me_lcS {elt tg iter : Expr} {ifs : List Expr} {scope : Scope} {own : List (Str × Nat)} {pos : Pos} {ti : TIm} {g : TGm} {tt : TTm} {te : TVm} (hc : X.calm = true) (hN : X.N.Nodup) (hi : MI X W tg iter ti) (ok : BlkOk X.N X.env.scope scope own)
    (hg : ∀ (s : Shared) (H : Hp) (C : Addr) (cl : List (Str × Addr)) (fp : List Addr), MG (X.blk s H scope (compEnvC scope cl C X.env) fp) tg (own.map (·.2)) g)
    (ht : ∀ (σ : L2.St) (pins : List (Addr × Obj)) (s : Shared) (H : Hp) (C : Addr) (cl : List (Str × Addr)) (fp : List Addr), Inv X pins σ H s → (∀ b ∈ fp, FpOk X pins H b) → MTsS (X.blk s H scope (compEnvC scope cl C X.env) fp) (SlOf σ own) W0 ifs tt)
    (he : ∀ (σ : L2.St) (pins : List (Addr × Obj)) (s : Shared) (H : Hp) (C : Addr) (cl : List (Str × Addr)) (fp : List Addr), Inv X pins σ H s → (∀ b ∈ fp, FpOk X pins H b) → MVS (X.blk s H scope (compEnvC scope cl C X.env) fp) (SlOf σ own) W0 elt te) (hs : ∀ x, foldedSetIterable iter X.env x = pure x := by intro _; rfl) :
    ME X W (.ListComp elt [⟨tg, iter, ifs, 0⟩] scope pos) (mLc ti g tt te (own.map (·.2))) := fun B =>
  (m5_pe_lc hc hN (hi B) ok (fun s H C cl fp => PG.any (X := X.blk s H scope (compEnvC scope cl C X.env) fp) (e := tg) (t := fun B => LG X.K B (List.map (fun (p : Str × Nat) => p.2) own) g) (hg s H C cl fp))
    (tt := fun σ H Q => ∃ B, LT X.K B W0 tt σ H Q) (te := fun σ H Q => ∃ B, LV X.K B W0 te σ H Q)
    (fun σ pins s H C cl fp I f => ⟨fun pins2 s2 σ2 H2 Q2 I2 z => by
      obtain ⟨z1, B2, z2⟩ := z
      exact (ht σ pins s H C cl fp I f B2).run pins2 s2 σ2 H2 Q2 I2 ⟨z1, z2⟩⟩)
    (fun σ pins s H C cl fp I f => ⟨fun pins2 s2 σ2 H2 Q2 I2 z => by
      obtain ⟨z1, B2, z2⟩ := z
      exact (he σ pins s H C cl fp I f B2).run pins2 s2 σ2 H2 Q2 I2 ⟨z1, z2⟩⟩) hs).impM fun _ _ _ q => lc_ok q
end
end M3
set_option Elab.async false
set_option linter.all false
set_option maxRecDepth 100000
set_option maxHeartbeats 4000000
/-! M5I: methods with a keyword-only default; defs that know their own code; the law's tables. -/
namespace M3
open PySem PySem.Spec PyProof.Rows L2
section
variable {X : Cx} {W : WX} {k n : Nat} {f C : Addr} {fd : FuncData} {ps ks : List Str} {m : Str} {o e : Expr} {es : List Expr} {kws : List Keyword} {to : TVm} {apos pos : Pos}
theorem me_methD {sp : MSp} {t : TAm} {dvs : List V} {dds : List D} {pl : Sem Bool} (he : MV X W o to) (c : Cls X.K C) (hm : Meth X.K C m f) (F : FM X.prog X.w X.K X.mg X.base k f fd ps sp) (hr : Room k X.A) (hb : ∃ ds, Vals dvs ds ∧ Binds X.K fd ps ds) (hdd : ∀ K F, Reps K F dds dvs) (tk : Takes X W) (ha : MA X W (e :: es) t)
    (hst : starEach (e :: es) X.env = (false, eval e X.env) :: starEach es X.env := by rfl) (hpl : (backTo pos (starEach es X.env)).any (·.1) = false := by rfl)
    (ht : eval (.Call (.Attribute o m apos) (e :: es) [] pos) X.env = (do
      let ov ← eval o X.env
      standAt apos.atName
      let (f, first) ← holding [ov] (getMethod ov m pl)
      callWith pos f first (backTo pos (starEach (e :: es) X.env)) (backToKw pos (keywordEach [] X.env))) := by rfl) :
    ME X W (.Call (.Attribute o m apos) (e :: es) [] pos) (mMeth C m sp dds to t) := by
  obtain ⟨ds, hd, hb⟩ := hb
  exact me_meth he c hm F hr hb hd hdd tk ha hst hpl ht
/-- o.m(.., k = ..) -/
def tMethSK (C : Addr) (m : Str) (n mk : Nat) (sp : Sp) (E : L2.St → XK) (to : TE) (t tk : TA) : TE := fun σ H Q => to σ H fun x H1 => ∃ a dx fs, x = .ref a ∧ H1 a = some (.ins C dx fs) ∧ fs.lookup m = none ∧
  t σ H1 fun vs H2 => tk σ H2 fun zs H3 => vs.length = n ∧ zs.length = mk ∧ sp (.ref a :: (vs ++ zs)) H3 Q (E σ)
theorem meth_SK {sp : Sp} {E : L2.St → XK} {ta : TE} {t tk : TA} {pl : Sem Bool} (he : PE X o ta) (c : Cls X.K C) (hm : Meth X.K C m f) (F : FnOk X.prog X.w X.K X.mg X.base (L2.CX X.prog X.w) k f fd ps sp) (hr : Room k X.A) (hb : KBn X.K fd ps (n + 1) ks (fun us ws => us ++ ws) (fun vs zs => vs ++ zs)) (hx : ∀ σ, PassesAt (L2.CX X.prog X.w) X σ (E σ)) (ha : PA X (e :: es) t) (hkw : PK X kws tk)
    (hall : (backToKw pos (keywordEach kws X.env)).all (·.1.isSome) = true := by rfl) (hks : (backToKw pos (keywordEach kws X.env)).filterMap (·.1) = ks := by rfl)
    (hst : starEach (e :: es) X.env = (false, eval e X.env) :: starEach es X.env := by rfl) (hpl : ((backTo pos (starEach (e :: es) X.env)).any (·.1) || (backToKw pos (keywordEach kws X.env)).any (·.1.isNone)) = false := by rfl)
    (ht : eval (.Call (.Attribute o m apos) (e :: es) kws pos) X.env = (do
      let ov ← eval o X.env
      standAt apos.atName
      let (f, first) ← holding [ov] (getMethod ov m pl)
      callWith pos f first (backTo pos (starEach (e :: es) X.env)) (backToKw pos (keywordEach kws X.env))) := by rfl) :
    PE X (.Call (.Attribute o m apos) (e :: es) kws pos) (tMethSK C m n ks.length sp E ta t tk) := by
  refine ⟨fun pins s σ H Q I h => ?_⟩
  refine PySem.W.methodCall_KW (pl := pl) (thn (he.run pins s σ H _ I h) fun u s1 ⟨x, H1, I1, rx, a, dx, fs, ex, ea, l, q⟩ => ?_) ht
  subst ex
  obtain rfl : u = Value.ref a := rx
  refine getmeth_ok I1 ea c hm l ?_
  refine PySem.W.callWith_KW (first := [.ref a]) (h₀ := X.base) I1.ok.mod.kin hm.kp hall (thn (ha.run pos pins s1 σ H1 _ I1 q) fun us s2 ⟨vs, H2, I2, r, q2⟩ => thn (hkw.run pos pins s2 σ H2 _ I2 q2) fun ws s3 ⟨zs, H3, I3, rz, l1, l2, q3⟩ => ⟨I3.kIn, ?_⟩) hpl hst
  rw [hks]
  have r1 : Vals (V.ref a :: vs) (Value.ref a :: us) := .cons rfl r
  have n1 : (Value.ref a :: us).length = n + 1 := by rw [List.length_cons, ← r.length, l1]
  have r2 := hb.rel r1 rz
  show wpAny _ _ (call (.ref f) (Value.ref a :: us) (ks.zip ws)) _ _ _
  refine wpAny_call (codeAny_mono (F.run X.A X.stack s3 H3 ⟨Value.ref a :: us, ks.zip ws⟩ ((Value.ref a :: us) ++ ws) ((V.ref a :: vs) ++ zs) Q (E σ) hr I3.env0 (hb.to s3 (Value.ref a :: us) ws I3.kIn n1 (rz.length.symm.trans l2)) r2 q3) fun r s' hq => ?_)
  cases r with
  | error e => exact hx σ pins H3 s3 e s' I3 hq
  | ok fl =>
    cases fl with
    | ret u => exact I3.after hq
    | next => exact False.elim hq
    | brk => exact False.elim hq
    | cont => exact False.elim hq
def mMethK (C : Addr) (m : Str) (n mk : Nat) (sp : MSp) (to : TVm) (t tk : TAm) : TEm := fun E h Kn Kx => to E h (fun d h' => onIns h' d C fun _ fs => fs.lookup m = none ∧ t E h' (fun ds h2 => tk E h2 (fun zs h3 => ds.length = n ∧ zs.length = mk ∧ sp (d :: (ds ++ zs)) h3 Kn Kx) Kx) Kx) Kx
theorem me_methK {sp : MSp} {t tk : TAm} {pl : Sem Bool} (he : MV X W o to) (c : Cls X.K C) (hm : Meth X.K C m f) (F : FM X.prog X.w X.K X.mg X.base k f fd ps sp) (hr : Room k X.A) (hb : KBn X.K fd ps (n + 1) ks (fun us ws => us ++ ws) (fun vs zs => vs ++ zs)) (tt : Takes X W) (ha : MA X W (e :: es) t) (hkw : MK X W kws tk)
    (hall : (backToKw pos (keywordEach kws X.env)).all (·.1.isSome) = true := by rfl) (hks : (backToKw pos (keywordEach kws X.env)).filterMap (·.1) = ks := by rfl)
    (hst : starEach (e :: es) X.env = (false, eval e X.env) :: starEach es X.env := by rfl) (hpl : ((backTo pos (starEach (e :: es) X.env)).any (·.1) || (backToKw pos (keywordEach kws X.env)).any (·.1.isNone)) = false := by rfl)
    (ht : eval (.Call (.Attribute o m apos) (e :: es) kws pos) X.env = (do
      let ov ← eval o X.env
      standAt apos.atName
      let (f, first) ← holding [ov] (getMethod ov m pl)
      callWith pos f first (backTo pos (starEach (e :: es) X.env)) (backToKw pos (keywordEach kws X.env))) := by rfl) :
    ME X W (.Call (.Attribute o m apos) (e :: es) kws pos) (mMethK C m n ks.length sp to t tk) := fun B => (meth_SK (E := WE W) (he B) c hm F hr hb (fun σ => passAt tt σ) (ha B) (hkw B) hall hks hst hpl ht).impM fun σ H Q ⟨F, E, h, Kn, Kx, R, ht, hx, hn⟩ => by
  refine ⟨F, E, h, _, Kx, R, ht, hx, fun d h' F' H' v l R' rp k => ?_⟩
  obtain ⟨a, fs, dx, ws, rfl, rfl, ea, eH, rs, hl, k⟩ := ins_of R' rp k
  refine ⟨a, dx, ws, rfl, eH, RepF.none rs hl, F', E, h', _, Kx, R', k, hx.up l, fun ds2 h2 F2 H2 vs2 l2 R2 r2 k2 => ?_⟩
  refine ⟨F2, E, h2, _, Kx, R2, k2, hx.up (l.trans l2), fun zs h3 F3 H3 us l3 R3 r3 k3 => ?_⟩
  obtain ⟨e1, e2, k3⟩ := k3
  refine ⟨by rw [← r2.len]; exact e1, by rw [← r3.len]; exact e2, ?_⟩
  exact sp_ok R3 (.cons (rp.mono (l2.trans l3)) ((r2.mono l3).app r3)) k3 (hx.up ((l.trans l2).trans l3)) fun r h4 F4 H4 v l4 R4 q4 k4 => hn r h4 F4 H4 v (((l.trans l2).trans l3).trans l4) R4 q4 k4
end
theorem kd1_mk {K : Kf} {x qual : Str} {st : Stmt} {f D : Addr} {oc : Value} {od an : Option Addr} {osl : Array (Option Value)} {doc pm cdv ct : Value} {kn : Str} {i : Int} {tk : Tok} {ps : List Str} (n : Nat) (l : K.lookup f = some ⟨oc, od, .func (PySem.W.fnOf x qual (defArgs st) (defBody st) (defScope st) .none (.ref D) doc pm an cdv ct), osl⟩)
    (c : PySem.W.codeIn K cdv qual = true) (k : PySem.W.keepIn K (.ref f) = true) (hd : PySem.W.nsIn K D kn = some (some (.int i tk))) (hn : n + 1 = ps.length)
    (h : ∀ (D : Addr) (doc pm : Value) (an : Option Addr) (cdv ct : Value) (us : List Value) (u : Value), us.length = n → KwChain D [(kn, u)] (bindArgs (PySem.W.fnOf x qual (defArgs st) (defBody st) (defScope st) .none (.ref D) doc pm an cdv ct) ⟨us, []⟩) (ps.zip (us ++ [u]))) :
    ∃ ds, Vals [V.int i] ds ∧ Binds K (PySem.W.fnOf x qual (defArgs st) (defBody st) (defScope st) .none (.ref D) doc pm an cdv ct) ps ds := by
  have F : FunD K x qual (defArgs st) (defBody st) (defScope st) [] [(kn, V.int i)] f (PySem.W.fnOf x qual (defArgs st) (defBody st) (defScope st) .none (.ref D) doc pm an cdv ct) := ⟨⟨oc, od, .none, .ref D, doc, pm, an, cdv, ct, osl, rfl, l, c, .inl ⟨rfl, rfl⟩, .inr ⟨D, rfl, fun q hq => by
    obtain rfl := List.mem_singleton.mp hq
    exact ⟨_, hd, tk, rfl⟩⟩⟩, k⟩
  exact F.binds0 n (by simp) hn fun D doc pm an cdv ct us ks l1 l2 => by
    match ks, l2 with
    | [u], _ => exact h D doc pm an cdv ct us u l1
section
variable {P : Program} {w : World} {K : Kf} {mg : Str → Option Value} {base : Heap}
theorem fm_ofC {x qual : Str} {st : Stmt} {f : Addr} {fd : FuncData} {N ps : List Str} {k : Nat} {sp : MSp} (F : Fun K x qual st f fd) (S : FnScope N ps (defScope st)) (len : ∀ ds h Kn Kx, sp ds h Kn Kx → ds.length = ps.length)
    (hb : ∀ (A : Around) (outer : List Env) (s : Shared) (H : Hp) (E : XK), Room k (A.deeper (envOfC qual (defScope st) s.heap.objs.size f fd.code)) →
      ∃ t, MB (cxOf (L2.CX P w) P w K mg base N qual (defScope st) f fd.code A outer s H E) (WB E) (defBody st) t ∧ ∀ ds h Kn Kx, sp ds h Kn Kx → t (bodyN Kn Kx) (startE N ds) h) : FM P w K mg base (k + 1) f fd ps sp := by
  have hF := F
  obtain ⟨oc, od, kV, doc, pm, an, cdv, ct, osl, rfl, lk, hcd⟩ := F.ex
  refine fn_of lk hcd S (fun vs H Q E ⟨B, Fh, h, ds, Kn, Kx, R, r, q, _⟩ => by rw [← r.len]; exact len _ _ _ _ q) (fun A outer s H vs Q E hr ⟨B, Fh, h, ds, Kn, Kx, R, r, q, hn, hx⟩ => ?_)
  obtain ⟨t, ht, hq⟩ := hb A outer s H E hr
  refine ⟨_, ht B, Fh, startE N ds, h, bodyN Kn Kx, R.slots ?_, hq ds h Kn Kx q, ?_, ?_, ?_, ?_, ?_⟩
  · unfold startE L2.start
    rw [r.len]
    exact slots_start r
  · rintro E' h' F' σ' H' l R' ⟨h2, sub, k⟩
    exact hn (.d .non) h2 F' H' .non l ((R'.slots .nil).less sub) .non k
  · rintro r h' F' E' σ' H' v l R' q ⟨h2, sub, k⟩
    refine hn r h2 F' H' v l ((R'.slots .nil).less sub) ?_ k
    have nn : ∀ l, h' l = none → h2 l = none := fun l z => by
      cases e : h2 l with
      | none => rfl
      | some m =>
        have := sub l m e
        rw [z] at this
        cases this
    cases r with
    | d x => exact q
    | ol xs =>
      obtain ⟨l, vs, e, e2, rs, q1, q2, q3⟩ := q
      exact ⟨l, vs, e, e2, rs, q1, q2, nn l q3⟩
    | od xs =>
      obtain ⟨l, vs, e, e2, rs, q1, q2, q3⟩ := q
      exact ⟨l, vs, e, e2, rs, q1, q2, nn l q3⟩
  · exact fun _ _ _ _ _ _ _ z => z.elim
  · exact fun _ _ _ _ _ _ _ z => z.elim
  · rintro x h' F' E' σ' H' c dx l R' q ⟨h2, sub, k⟩
    exact hx x h2 F' H' c dx l ((R'.slots .nil).less sub) q k
end
/-! ### the tables of code objects at the law's start -/
def tabsB (K : Kf) (cs : List (Addr × Addr)) : Bool := K.all fun p => match codeTab p.2 with
  | some (P, n) => !(lamDefs.elem n) || cs.any fun q => q.2 == P
  | none => true
theorem tabs_of {K : Kf} {cs : List (Addr × Addr)} (h : tabsB K cs = true) {P : Addr} {q : Str} (z : CT K P q) : ∃ p ∈ cs, p.2 = P := by
  unfold CT ctab at z
  obtain ⟨p, hp, e⟩ := List.exists_of_findSome?_eq_some z
  have hk := List.all_eq_true.mp h p hp
  cases c : codeTab p.2 with
  | none => rw [c] at e; cases e
  | some x =>
    obtain ⟨P', n⟩ := x
    rw [c] at e hk
    simp only at e hk
    split at e
    · rename_i w
      obtain ⟨rfl, hn⟩ := w
      rw [show lamDefs.elem n = true from List.elem_eq_true_of_mem hn] at hk
      simp only [Bool.not_true, Bool.false_or, List.any_eq_true, beq_iff_eq] at hk
      exact hk
    · cases e
theorem rel_start {K : Kf} {H : Hp} {cs : List (Addr × Addr)} {a : Addr} {ns : List Int} (h : tabsB K cs = true) (hH : ∀ p ∈ cs, H p.2 = some (.tbl #[])) (hS : SqL K H a (ns.map V.int)) :
    ∃ F : Hp, Rel K (fun _ => none) F [] (fun _ => none) [] H ∧ SqL K F a (ns.map V.int) := by
  refine ⟨fun x => if ∃ p ∈ cs, p.2 = x then none else H x, ⟨nofun, fun x o e => ?_, nofun, .nil, fun P q z => ?_⟩, ?_⟩
  · split at e
    · cases e
    · exact ⟨e, rfl⟩
  · obtain ⟨p, hp, rfl⟩ := tabs_of h z
    refine ⟨⟨#[], hH p hp, trivial, fun pos cv k => ?_⟩, rfl, if_pos ⟨p, hp, rfl⟩, rfl⟩
    cases k
  · rcases hS with r | r
    · refine .inl ?_
      have na : ¬ ∃ p ∈ cs, p.2 = a := fun ⟨p, hp, e⟩ => by
        have z := hH p hp
        rw [e] at z
        rcases r with r | ⟨o, r⟩ <;> rw [z] at r <;> cases r
      rcases r with r | ⟨o, r⟩
      · exact .inl ((if_neg na).trans r)
      · exact .inr ⟨o, (if_neg na).trans r⟩
    · exact .inr r
/-! ### ways into a def's text -/
def xE : Expr → List Expr
  | .BoolOp _ vs _ => vs
  | .BinOp l _ r _ => [l, r]
  | .UnaryOp _ e _ => [e]
  | .IfExp t b o _ => [t, b, o]
  | .Compare l _ cs _ => l :: cs
  | .Call f as kws _ => f :: (as ++ kws.map (·.value))
  | .Attribute v _ _ => [v]
  | .Subscript v s _ => [v, s]
  | .List es _ => es
  | .Tuple es _ _ => es
  | .Lambda _ b _ _ => [b]
  | .ListComp e _ _ _ => [e]
  | _ => []
def xS : Stmt → List Expr
  | .Return (some e) _ => [e]
  | .Assign _ v _ => [v]
  | .AugAssign _ _ v _ => [v]
  | .If t _ _ _ => [t]
  | .Expr e _ => [e]
  | .For _ i _ _ _ => [i]
  | .While t _ _ _ => [t]
  | _ => []
def xB : Stmt → List Stmt
  | .If _ b o _ => b ++ o
  | .For _ _ b o _ => b ++ o
  | .While _ b o _ => b ++ o
  | _ => []
abbrev xE0 : Expr := .Name "" ⟨0, 0, 0, 0⟩
abbrev xS0 : Stmt := .Pass ⟨0, 0, 0, 0⟩
def lamOf : Expr → LamT
  | .Lambda a b s _ => ⟨a, b, s⟩
  | e => ⟨default, e, default⟩
end M3
set_option Elab.async false
set_option linter.all false
set_option maxRecDepth 100000
set_option maxHeartbeats 4000000
/-! M5J: list(d) of a dict; isinstance of own instances of other classes. -/
namespace M3
open PySem PySem.Spec PyProof.Rows L2
def kD : Key → D
  | .inl i => .int i
  | .inr x => .str x
theorem kD_rep {K : Kf} {F : Hp} : ∀ {k : Key}, Rep K F (kD k) (kV k)
  | .inl i => .int i
  | .inr x => .str x
theorem RepK.keys {K : Kf} {F : Hp} : ∀ {kvs : List (Key × D)} {ws : List (Key × V)}, RepK K F kvs ws → Reps K F (kvs.map fun kv => kD kv.1) (ws.map fun kv => kV kv.1)
  | _, _, .nil => .nil
  | _, _, .cons _ r => .cons kD_rep r.keys
def gListD : GA := fun ds h Kn => on1 ds fun x => onD h x fun kvs => Kn (.ol (kvs.map fun kv => kD kv.1)) h
theorem has_listD {K : Kf} : HasA K (fun xs H Q => ∃ (a : Addr) (kvs : List (Key × V)), xs = [.ref a] ∧ Rd H a (.dK kvs) ∧ ∀ p, H p = none → Q (.ref p) (upd H p (.lst (kvs.map fun kv => kV kv.1)))) gListD := by
  intro B F E h σ H xs vs Q Kn R r q hn
  obtain ⟨d, v, rfl, rfl, rp, q⟩ := one_of r q
  obtain ⟨a, kvs, ws, rfl, e, rs, q⟩ := dct_of R rp q
  exact ⟨a, ws, rfl, e, fun p hp => hn (.ol (kvs.map fun kv => kD kv.1)) h F _ _ (Le.refl F) (R.newO hp) ⟨p, _, rfl, upd_same, rs.keys, R.noB hp, R.noF hp, R.noh hp⟩ q⟩
/-- isinstance(x, C), x perhaps an instance of one of Cs -/
def mIsO2 (C : Addr) (Cs : List Addr) (t : TVm) : TVm := fun E h Kn Kx => t E h (fun d h' => match kindD h' d with
  | some _ => Kn (.bl false) h'
  | none => ∃ a C' fs, d = .ref a ∧ h' a = some (.ins C' fs) ∧ ((C' = C ∧ Kn (.bl true) h') ∨ (C' ∈ Cs ∧ Kn (.bl false) h'))) Kx
section
variable {X : Cx} {W : WX} {e : Expr} {t : TVm} {p p2 pos : Pos}
theorem mv_isO2 {x2 : Str} {C : Addr} {Cs : List Addr} (hg : Gl X "isinstance") (hm : X.mg "isinstance" = none) (hg2 : Gl X x2) (hm2 : X.mg x2 = some (.ref C)) (kc : KitC X.K C) (ko : ∀ C' ∈ Cs, KitC X.K C' ∧ PySem.W.kitOne X.K (.ref C') (.ref C) = some false) (h : MV X W e t) (hd2 : (x2 == ("__debug__" : Str)) = false := by decide)
    (na : starEach [e, .Name x2 p2] X.env = (false, eval e X.env) :: starEach [.Name x2 p2] X.env := by rfl) (nb : starEach [.Name x2 p2] X.env = (false, eval (.Name x2 p2) X.env) :: starEach [] X.env := by rfl) (hpl : (backTo pos (starEach [.Name x2 p2] X.env)).any (·.1) = false := by rfl) :
    MV X W (.Call (.Name "isinstance" p) [e, .Name x2 p2] [] pos) (mIsO2 C Cs t) := fun B =>
  (pe_callB call_isi hg hm (by decide +kernel) (pa_cons (h B) (pa_cons (pe_glob (v := .ref C) hg2 hm2 rfl hd2) pa_nil nb) na) (by decide) (by decide) na hpl).impM fun σ H Q ⟨F, E, h, Kn, Kx, R, ht, hx, hn⟩ => by
    refine ⟨F, E, h, _, Kx, R, ht, hx, fun d h' F' H' v l R' r k => ?_⟩
    cases ek : kindD h' d with
    | some kd =>
      simp only [ek] at k
      exact ⟨v, .ref C, .type kd.nm, .ref C, false, rfl, .own C, kind_of R' r ek, kc.ty kd, hn (.bl false) h' F' H' _ l R' (.bl _) k⟩
    | none =>
      simp only [ek] at k
      obtain ⟨a0, C', fs0, rfl, ea0, k⟩ := k
      have q : onIns h' (.ref a0) C' fun _ _ => True := by rw [onIns_r ea0]; trivial
      obtain ⟨a, fs, dx, ws, rfl, e0, ea, eH, rs, _⟩ := ins_of R' r q
      rcases k with ⟨rfl, k⟩ | ⟨hC, k⟩
      · exact ⟨.ref a, .ref C', .ref C', .ref C', true, rfl, .own C', .base (.ins eH kc.cl kc.ha kc.hn kc.hk kc.hm), kit_self, hn (.bl true) h' F' H' _ l R' (.bl _) k⟩
      · obtain ⟨kc2, ko⟩ := ko C' hC
        exact ⟨.ref a, .ref C, .ref C', .ref C, false, rfl, .own C, .base (.ins eH kc2.cl kc2.ha kc2.hn kc2.hk kc2.hm), ko, hn (.bl false) h' F' H' _ l R' (.bl _) k⟩
end
end M3
set_option Elab.async false
set_option linter.all false
set_option maxRecDepth 100000
set_option maxHeartbeats 4000000
/-! M5K: an own error's __init__ of one name, of two: its reading. -/
namespace M3
open PySem PySem.Spec PyProof.Rows L2
theorem js_two {pre : Str} {i : Int} {σ : L2.St} {H : Hp} {k : Str → Hp → Prop} (hp : pre.length ≤ 100) (si : i.natAbs.log2 < 1920) (e : σ[1]? = some (some (.int i))) (q : ∀ out, k out H) : tJs [tC (V.str pre), tFmt (tVar 1)] Str.empty σ H k := by
  have e0 : (Str.empty).length = 0 := rfl
  have el := int_text_length_le (k := 1920) (by decide) si
  refine ⟨pre, rfl, ?_, .int i, e, .inr ⟨i, rfl, si, _, rfl, ?_, q _⟩⟩
  · rw [strLen_append, e0, sizeLine_eq]
    omega
  · rw [strLen_append, strLen_append, e0, PySem.ofString_length, sizeLine_eq]
    omega
section
variable {K : Kf} {a d C : Addr} {H : Hp}
theorem upd_3 {x y z : HO} (n : d ≠ a) : upd (upd (upd H d x) a y) d z = upd (upd H d z) a y := by
  funext b
  by_cases h1 : b = d
  · subst h1
    rw [upd_same, upd_ne n, upd_same]
  · rw [upd_ne h1]
    by_cases h2 : b = a
    · rw [h2, upd_same, upd_same]
    · rw [upd_ne h2, upd_ne h2, upd_ne h1, upd_ne h1]
theorem oi_read2 {pre n1 n2 : Str} {nm : List Str} {is : List Int} {Q : VK} (hp : pre.length ≤ 100) (o : OexC K C) (nf : ∀ n ∈ [n1, n2], PySem.W.findIn K (.ref C) n = some none) (l : is.length = [n1, n2].length) (sm : ∀ i ∈ is, i.natAbs.log2 < 1920) (hH : H a = some (exo a C none)) (hn : nm.length = 3)
    (q : ∀ d, H d = none → d ≠ a → Q .non (upd (upd H d (exd d ([n1, n2].zip (is.map V.int)).reverse)) a (exo a C (some d)))) :
    tSeq (tDrop (tVeI K (tCons (tVar 0) (tCons (fun σ H Q => tJs [tC (V.str pre), tFmt (tVar 1)] Str.empty σ H fun out H1 => Q (V.str out) H1) tNil)))) (tSeq (tOst K n1 (tVar 0) (tVar 1)) (tOst K n2 (tVar 0) (tVar 2))) { nx := fun _ H' => Q .non H', rt := Q } (L2.start nm (.ref a :: is.map V.int)) H := by
  match is, l with
  | [i, j], _ =>
    have e1 : (L2.start nm (.ref a :: [i, j].map V.int))[1]? = some (some (.int i)) := rfl
    refine ⟨.ref a, rfl, js_two hp (sm i (by simp)) e1 fun out => ?_⟩
    refine ⟨a, C, [.str out], rfl, by simp, o, hH, ?_⟩
    refine ⟨.int i, rfl, .ref a, rfl, a, C, rfl, o, nf n1 (by simp), .inl ⟨hH, fun d hd da => ?_⟩⟩
    have e2 : upd (upd H d (exd d [(n1, V.int i)])) a (exo a C (some d)) d = some (exd d [(n1, V.int i)]) := by rw [upd_ne da, upd_same]
    refine ⟨.int j, rfl, .ref a, rfl, a, C, rfl, o, nf n2 (by simp), .inr ⟨d, _, upd_same, e2, by simp, ?_⟩⟩
    rw [upd_3 da]
    exact q d hd da
theorem oi_read1 {pre n1 : Str} {nm : List Str} {is : List Int} {Q : VK} (hp : pre.length ≤ 100) (o : OexC K C) (nf : ∀ n ∈ [n1], PySem.W.findIn K (.ref C) n = some none) (l : is.length = [n1].length) (sm : ∀ i ∈ is, i.natAbs.log2 < 1920) (hH : H a = some (exo a C none)) (hn : nm.length = 2)
    (q : ∀ d, H d = none → d ≠ a → Q .non (upd (upd H d (exd d ([n1].zip (is.map V.int)).reverse)) a (exo a C (some d)))) :
    tSeq (tDrop (tVeI K (tCons (tVar 0) (tCons (fun σ H Q => tJs [tC (V.str pre), tFmt (tVar 1)] Str.empty σ H fun out H1 => Q (V.str out) H1) tNil)))) (tOst K n1 (tVar 0) (tVar 1)) { nx := fun _ H' => Q .non H', rt := Q } (L2.start nm (.ref a :: is.map V.int)) H := by
  match is, l with
  | [i], _ =>
    have e1 : (L2.start nm (.ref a :: [i].map V.int))[1]? = some (some (.int i)) := rfl
    refine ⟨.ref a, rfl, js_two hp (sm i (by simp)) e1 fun out => ?_⟩
    refine ⟨a, C, [.str out], rfl, by simp, o, hH, ?_⟩
    exact ⟨.int i, rfl, .ref a, rfl, a, C, rfl, o, nf n1 (by simp), .inl ⟨hH, fun d hd da => q d hd da⟩⟩
end
theorem passes0 {X : Cx} : Passes (L2.CX X.prog X.w) X (fun _ _ _ => False) := fun _ _ _ _ _ _ _ c => by
  obtain ⟨_, _, _, _, _, _, _, _, _, _, _, _, z⟩ := c
  exact z.elim
def x1B (K : Kf) (C fI : Addr) (ns : List Str) : Bool := ns.all (fun n => decide (PySem.W.findIn K (.ref C) n = some none)) && (oexB K C && (decide (PySem.W.findIn K (.ref C) "__setattr__" = some (some (.builtin "object.__setattr__"))) && (decide (PySem.W.subIn K (.ref C) (.type "BaseException") = some true) && (decide (PySem.W.typeIn K (.ref C) = some (.type "type")) && (PySem.W.keepIn K (.ref C) &&
  (decide (PySem.W.findIn K (.ref C) "__init__" = some (some (.ref fI))) && decide (PySem.W.typeIn K (.ref fI) = some (.type "function"))))))))
theorem x1_of {K : Kf} {C fI : Addr} {ns : List Str} (h : x1B K C fI ns = true) : X1 K C fI ns := by
  unfold x1B at h
  simp only [Bool.and_eq_true, List.all_eq_true, decide_eq_true_eq] at h
  obtain ⟨h1, h2, h3, h4, h5, h6, h7, h8⟩ := h
  exact ⟨h1, ⟨oexB_of h2, h3, h4, h5, h6⟩, h7, h8⟩
def xbB (K : Kf) (CE : Addr) : Bool := PySem.W.readsIn K CE (.type "type") && (decide (PySem.W.specialIn K (.ref CE) "__getattribute__" = some (some (.builtin "type.__getattribute__"))) && (match PySem.W.findCls K (.ref CE) (.type "type") "__init__" with
  | some (.val v) => decide (v = .builtin "ValueError.__init__")
  | _ => false))
theorem xb_of {K : Kf} {CE : Addr} (h : xbB K CE = true) : XB K CE := by
  unfold xbB at h
  simp only [Bool.and_eq_true, decide_eq_true_eq] at h
  obtain ⟨h1, h2, h3⟩ := h
  refine ⟨⟨h1, h2⟩, ?_⟩
  split at h3
  · rename_i v e
    rw [e, of_decide_eq_true h3]
  · cases h3
end M3
set_option Elab.async false
set_option linter.all false
set_option maxRecDepth 100000
set_option maxHeartbeats 4000000
namespace M3
open PySem PySem.Spec PyProof.Rows L2
def primeB (n : Int) : Bool := decide (1 < n) && (List.range (n.toNat - 2)).all fun i => decide (n % (2 + (i : Int)) ≠ 0)
structure LineOk (k w p : Int) : Prop where
  k1 : 1 ≤ k
  k2 : k ≤ 16
  w1 : 1 ≤ w
  w2 : w ≤ 32
  pk : k ≤ p
  p2 : p ≤ 61
  pr : primeB p = true
/-- what need_line refuses -/
def LineBad (dk dw dp : D) : Prop := isNum dk 1 16 = false ∨ (isNum dk 1 16 = true ∧ isNum dw 1 32 = false) ∨ ∃ k : Int, dk = .int k ∧ isNum dk 1 16 = true ∧ isNum dw 1 32 = true ∧ (isNum dp k 61 = false ∨ ∃ p : Int, dp = .int p ∧ isNum dp k 61 = true ∧ primeB p = false)
def lineI (k w p t m : Int) : List Int := (List.range k.toNat).map fun (i : Nat) => (t * (i : Int) + m) % p % w
def sp_is_prime (a : Ad) : MSp := fun ds h Kn Kx => ∃ n : Int, ds = [.int n] ∧ n ≤ 61 ∧ Kn (.d (.bl (primeB n))) h
def sp_need_line (a : Ad) : MSp := fun ds h Kn Kx => ∃ dk dw dp, ds = [dk, dw, dp] ∧ kindD h dk ≠ none ∧ kindD h dw ≠ none ∧ kindD h dp ≠ none ∧ ((∃ k w p : Int, dk = .int k ∧ dw = .int w ∧ dp = .int p ∧ LineOk k w p ∧ Kn (.d .non) h) ∨ (LineBad dk dw dp ∧ Kx ⟨a.BadNumber, []⟩ h))
def sp_line_row (a : Ad) : MSp := fun ds h Kn Kx => ∃ k w p t m : Int, ds = [.int k, .int w, .int p, .int t, .int m] ∧ LineOk k w p ∧ 0 ≤ t ∧ t ≤ 61 ∧ 0 ≤ m ∧ m ≤ 61 ∧ Kn (.d (.tup ((lineI k w p t m).map D.int))) h
def sp_line (a : Ad) : MSp := fun ds h Kn Kx => ∃ dk dw dp dt dm, ds = [dk, dw, dp, dt, dm] ∧ kindD h dk ≠ none ∧ kindD h dw ≠ none ∧ kindD h dp ≠ none ∧ kindD h dt ≠ none ∧ kindD h dm ≠ none ∧
  ((∃ k w p t m : Int, dk = .int k ∧ dw = .int w ∧ dp = .int p ∧ dt = .int t ∧ dm = .int m ∧ LineOk k w p ∧ 1 ≤ t ∧ t < p ∧ 0 ≤ m ∧ m < p ∧ Kn (.d (.tup ((lineI k w p t m).map D.int))) h) ∨
  (LineBad dk dw dp ∧ Kx ⟨a.BadNumber, []⟩ h) ∨ (∃ k w p : Int, dk = .int k ∧ dw = .int w ∧ dp = .int p ∧ LineOk k w p ∧ (isNum dt 1 (p - 1) = false ∨ isNum dm 0 (p - 1) = false) ∧ Kx ⟨a.BadNumber, []⟩ h))
/-- members: rising keys -/
def memB (k : Int) : Int → List Int → Prop
  | _, [] => True
  | b, m :: ms => b < m ∧ m < k ∧ memB k m ms
def sp_need_members (a : Ad) : MSp := fun ds h Kn Kx => ∃ (k : Int) (d : D), ds = [.int k, d] ∧ 1 ≤ k ∧ k ≤ 16 ∧ ((∃ ms : List Int, d = .tup (ms.map D.int) ∧ memB k (-1) ms ∧ Kn (.d .non) h) ∨ ((∃ i : Int, d = .int i) ∧ Kx ⟨a.BadCounts, [("number", .int 0)]⟩ h) ∨ (d = .tup [.int k] ∧ Kx ⟨a.BadCounts, [("number", .int 0)]⟩ h))
def sp_divisor (a : Ad) : MSp := fun ds h Kn Kx => ∃ x y : Nat, ds = [.int (x : Int), .int (y : Int)] ∧ Kn (.d (.int (Nat.gcd x y : Nat))) h
def sp_law_gcd (a : Ad) : MSp := sp_divisor a
def partI (x y : Nat) : D := .tup [.int ((x : Int) / (Nat.gcd x y : Nat)), .int ((y : Int) / (Nat.gcd x y : Nat))]
def sp_part (a : Ad) : MSp := fun ds h Kn Kx => ∃ x y : Nat, ds = [.int (x : Int), .int (y : Int)] ∧ 1 ≤ y ∧ y ≤ 4000 ∧ Kn (.d (partI x y)) h
def sp_law_part (a : Ad) : MSp := sp_part a
def hitB (w p key : Int) (ms : List Int) (t m : Int) : Bool := decide ((t * key + m) % p % w ∈ ms.map fun one => (t * one + m) % p % w)
def cntI (w p key : Int) (ms : List Int) : Nat := (List.range (p - 1).toNat).foldl (fun (c : Nat) (t : Nat) => (List.range p.toNat).foldl (fun (c : Nat) (m : Nat) => c + if hitB w p key ms (1 + (t : Int)) (0 + (m : Int)) = true then 1 else 0) c) 0
def sp_line_share (a : Ad) : MSp := fun ds h Kn Kx => ∃ dk dw dp dm dy, ds = [dk, dw, dp, dm, dy] ∧ kindD h dk ≠ none ∧ kindD h dw ≠ none ∧ kindD h dp ≠ none ∧
  ((LineBad dk dw dp ∧ Kx ⟨a.BadNumber, []⟩ h) ∨ ∃ k w p : Int, dk = .int k ∧ dw = .int w ∧ dp = .int p ∧ LineOk k w p ∧
    ((dm = .tup [.int k] ∧ Kx ⟨a.BadCounts, [("number", .int 0)]⟩ h) ∨ ∃ ms : List Int, dm = .tup (ms.map D.int) ∧ memB k (-1) ms ∧ ∃ y : Int, dy = .int y ∧
      (((y < 0 ∨ k ≤ y ∨ y ∈ ms) ∧ Kx ⟨a.BadNumber, []⟩ h) ∨ (0 ≤ y ∧ y < k ∧ y ∉ ms ∧ Kn (.d (partI (cntI w p y ms) (p.toNat * (p.toNat - 1)))) h))))
def sp_law_members (a : Ad) : MSp := fun ds h Kn Kx => ∃ (r : Addr) (k : Int), ds = [.ref r, .int k] ∧ 1 ≤ k ∧ k ≤ 16 ∧ RowAt h r ∧ ∀ ms h', memB k (-1) ms → (∀ b, b ≠ r → h' b = h b) → RowAt h' r → Kn (.d (.tup (ms.map D.int))) h'
def sp_law (a : Ad) : MSp := fun ds h Kn Kx => ∃ ns, ds = [.scr ns] ∧ ∀ h', Kn (.d (.bl true)) h'
def t_is_prime (a : Ad) : TSm :=
  (sRet (valE (mAndV (frzV (mOp (gB fun i j => decide (j < i)) (mVar 0) (mC (.int 1)))) (frzV (mCall gAll (mCons (frzV (mLc (mRng2 (mCons (mC (.int 2)) (mCons (mVar 0) mNil))) (gN 1) mYes (frzV (mOp gNe (frzV (mOp gMod (mVar 0) (mVar 1))) (mC (.int 0)))) [1])) mNil))))))

def t_need_line (a : Ad) : TSm :=
  (sSeq (sIf (mOrT (mNotT (mTst (frzV (mFun (sp_is_number a) [] (mCons (mVar 0) (mCons (mC (.int 1)) (mCons (mC (.int 16)) mNil))))))) (mNotT (mTst (frzV (mFun (sp_is_number a) [] (mCons (mVar 1) (mCons (mC (.int 1)) (mCons (mC (.int 32)) mNil)))))))) (sRaise0 a.BadNumber) sSkip)
  (sIf (mOrT (mNotT (mTst (frzV (mFun (sp_is_number a) [] (mCons (mVar 2) (mCons (mVar 0) (mCons (mC (.int 61)) mNil))))))) (mNotT (mTst (frzV (mFun (sp_is_prime a) [] (mCons (mVar 2) mNil)))))) (sRaise0 a.BadNumber) sSkip))

def t_line_row (a : Ad) : TSm :=
  (sRet (mCall gTuple (mCons (frzV (mLc (mRng1 (mCons (mVar 0) mNil)) (gN 5) mYes (frzV (mOp gMod (frzV (mOp gMod (frzV (mOp gAdd (frzV (mOp gMul (mVar 3) (mVar 5))) (mVar 4))) (mVar 2))) (mVar 1))) [5])) mNil)))

def t_line (a : Ad) : TSm :=
  (sSeq (sDrop (mFun (sp_need_line a) [] (mCons (mVar 0) (mCons (mVar 1) (mCons (mVar 2) mNil)))))
  (sSeq (sIf (mOrT (mNotT (mTst (frzV (mFun (sp_is_number a) [] (mCons (mVar 3) (mCons (mC (.int 1)) (mCons (frzV (mOp gSub (mVar 2) (mC (.int 1)))) mNil))))))) (mNotT (mTst (frzV (mFun (sp_is_number a) [] (mCons (mVar 4) (mCons (mC (.int 0)) (mCons (frzV (mOp gSub (mVar 2) (mC (.int 1)))) mNil)))))))) (sRaise0 a.BadNumber) sSkip)
  (sRet (mFun (sp_line_row a) [] (mCons (mVar 0) (mCons (mVar 1) (mCons (mVar 2) (mCons (mVar 3) (mCons (mVar 4) mNil)))))))))

def t_law_members (a : Ad) : TSm :=
  (sRet (mCall gTuple (mCons (frzV (mLc (mRng1 (mCons (mVar 1) mNil)) (gN 2) (mTst (frzV (mOp gEq (frzV (mFun (sp_law_taken a) [] (mCons (mVar 0) (mCons (mC (.int 2)) mNil)))) (mC (.int 0))))) (mVar 2) [2])) mNil)))

def t_need_members (a : Ad) : TSm :=
  (sSeq (sIf (mNotT (mTst (mIsi [.tuple] (mVar 1)))) (sRaise1 a.BadCounts ["number"] (mCons (mC (.int 0)) mNil)) sSkip)
  (sSeq (sSet 2 (frzV (mUn gNeg (mC (.int 1)))))
  (sForget [2, 3, 4] (sFor (mEnum (mCons (mVar 1) mNil)) (gT 2 (gsCons (gN 3) (gsCons (gN 4) gsNil)))
   (sForget [3, 4] (sSeq (sIf (mNotT (mTst (frzV (mFun (sp_is_number a) [] (mCons (mVar 4) (mCons (frzV (mOp gAdd (mVar 2) (mC (.int 1)))) (mCons (frzV (mOp gSub (mVar 0) (mC (.int 1)))) mNil))))))) (sRaise1 a.BadCounts ["number"] (mCons (mVar 3) mNil)) sSkip)
  (sSet 2 (mVar 4))))))))

def t_divisor (a : Ad) : TSm :=
  (sSeq (sForget [1] (sWhile (mTst (frzV (mOp gNe (mVar 1) (mC (.int 0)))))
   (sPar 0 1 (mCons (mVar 1) (mCons (frzV (mOp gMod (mVar 0) (mVar 1))) mNil)))))
  (sRet (valE (mVar 0))))

def t_part (a : Ad) : TSm :=
  (sSeq (sSet 2 (frzV (mFun (sp_divisor a) [] (mCons (frzV (mCall gAbs (mCons (mVar 0) mNil))) (mCons (mVar 1) mNil)))))
  (sRet (valE (mTup (mCons (frzV (mOp gDiv (mVar 0) (mVar 2))) (mCons (frzV (mOp gDiv (mVar 1) (mVar 2))) mNil))))))

def t_line_share (a : Ad) : TSm :=
  (sSeq (sDrop (mFun (sp_need_line a) [] (mCons (mVar 0) (mCons (mVar 1) (mCons (mVar 2) mNil)))))
  (sSeq (sDrop (mFun (sp_need_members a) [] (mCons (mVar 0) (mCons (mVar 3) mNil))))
  (sSeq (sIf (mOrT (mNotT (mTst (frzV (mFun (sp_is_number a) [] (mCons (mVar 4) (mCons (mC (.int 0)) (mCons (frzV (mOp gSub (mVar 0) (mC (.int 1)))) mNil))))))) (mTst (frzV (mOp (gIn id) (mVar 4) (mVar 3))))) (sRaise0 a.BadNumber) sSkip)
  (sSeq (sSet 5 (mC (.int 0)))
  (sSeq (sForget [6, 7, 8] (sFor (mRng2 (mCons (mC (.int 1)) (mCons (mVar 2) mNil))) (gN 6)
   (sForget [6, 7, 8] (sForget [7, 8] (sFor (mRng1 (mCons (mVar 2) mNil)) (gN 7)
   (sForget [7, 8] (sSeq (sSet 8 (frzV (mFun (sp_line_row a) [] (mCons (mVar 0) (mCons (mVar 1) (mCons (mVar 2) (mCons (mVar 6) (mCons (mVar 7) mNil))))))))
  (sAug 5 (frzV (mCall gInt (mCons (frzV (mOp (gIn id) (frzV (mOp gIx (mVar 8) (mVar 4))) (frzV (mLc (mIter (mVar 3)) (gN 9) mYes (frzV (mOp gIx (mVar 8) (mVar 9))) [9])))) mNil))) (gII (fun _ _ => True) fun i j => .int (i + j))))))))))
  (sRet (mFun (sp_part a) [] (mCons (mVar 5) (mCons (frzV (mOp gMul (mVar 2) (frzV (mOp gSub (mVar 2) (mC (.int 1)))))) mNil)))))))))

def t_law_gcd (a : Ad) : TSm :=
  (sSeq (sForget [1] (sWhile (mTst (frzV (mOp (gB fun i j => decide (j < i)) (mVar 1) (mC (.int 0)))))
   (sPar 0 1 (mCons (mVar 1) (mCons (frzV (mOp gMod (mVar 0) (mVar 1))) mNil)))))
  (sRet (valE (mVar 0))))

def t_law_part (a : Ad) : TSm :=
  (sSeq (sSet 2 (frzV (mFun (sp_law_gcd a) [] (mCons (frzV (mCall gAbs (mCons (mVar 0) mNil))) (mCons (mVar 1) mNil)))))
  (sRet (valE (mTup (mCons (frzV (mOp gDiv (mVar 0) (mVar 2))) (mCons (frzV (mOp gDiv (mVar 1) (mVar 2))) mNil))))))

def tl_law_0 (a : Ad) : TEm := (mFun (sp_line a) [] (mCons (mVar 3) (mCons (mVar 4) (mCons (mVar 16) (mCons (mC (.int 1)) (mCons (mC (.int 0)) mNil))))))
def tl_law_1 (a : Ad) : TEm := (mFun (sp_line_share a) [] (mCons (mVar 3) (mCons (mVar 4) (mCons (mVar 16) (mCons (mC (.int 5)) (mCons (mC (.int 99)) mNil))))))
def tl_law_2 (a : Ad) : TEm := (mFun (sp_line a) [] (mCons (mVar 3) (mCons (mVar 4) (mCons (mVar 2) (mCons (frzV (mOp gIx (frzV (mLst (mCons (mC (.int 0)) (mCons (frzV (mOp gAdd (mVar 2) (mVar 15))) (mCons (mC .non) (mCons (mC (.bl true)) mNil)))))) (frzV (mFun (sp_law_taken a) [] (mCons (mVar 1) (mCons (mC (.int 4)) mNil)))))) (mCons (mC (.int 0)) mNil))))))
def tl_law_3 (a : Ad) : TEm := (mFun (sp_line a) [] (mCons (mVar 3) (mCons (mVar 4) (mCons (mVar 2) (mCons (mC (.int 1)) (mCons (frzV (mOp gIx (frzV (mLst (mCons (frzV (mOp gSub (mC (.int 0)) (mC (.int 1)))) (mCons (frzV (mOp gAdd (mVar 2) (mVar 15))) (mCons (mC .non) (mCons (mC (.bl true)) mNil)))))) (frzV (mFun (sp_law_taken a) [] (mCons (mVar 1) (mCons (mC (.int 4)) mNil)))))) mNil))))))
def tl_law_4 (a : Ad) : TEm := (mFun (sp_line a) [] (mCons (frzV (mOp gIx (frzV (mLst (mCons (mC (.int 0)) (mCons (frzV (mOp gAdd (mC (.int 17)) (mVar 15))) (mCons (mC .non) mNil))))) (frzV (mFun (sp_law_taken a) [] (mCons (mVar 1) (mCons (mC (.int 3)) mNil)))))) (mCons (mVar 4) (mCons (mC (.int 61)) (mCons (mC (.int 1)) (mCons (mC (.int 0)) mNil))))))
def tl_law_5 (a : Ad) : TEm := (mFun (sp_line a) [] (mCons (mVar 3) (mCons (frzV (mOp gIx (frzV (mLst (mCons (mC (.int 0)) (mCons (frzV (mOp gAdd (mC (.int 33)) (mVar 15))) (mCons (mC .non) mNil))))) (frzV (mFun (sp_law_taken a) [] (mCons (mVar 1) (mCons (mC (.int 3)) mNil)))))) (mCons (mVar 2) (mCons (mC (.int 1)) (mCons (mC (.int 0)) mNil))))))
def tl_law_6 (a : Ad) : TEm := (mFun (sp_line_share a) [] (mCons (mVar 3) (mCons (mVar 4) (mCons (mVar 2) (mCons (mVar 8) (mCons (frzV (mOp gIx (frzV (mOp gAdd (mVar 8) (mTup (mCons (frzV (mOp gAdd (mVar 3) (mVar 15))) mNil)))) (mC (.int 0)))) mNil))))))
def tl_law_7 (a : Ad) : TEm := (mFun (sp_line_share a) [] (mCons (mVar 3) (mCons (mVar 4) (mCons (mVar 2) (mCons (mTup (mCons (mVar 3) mNil)) (mCons (mC (.int 99)) mNil))))))
def tabs_law (a : Ad) : Nat → TEm
  | 0 => tl_law_0 a
  | 1 => tl_law_1 a
  | 2 => tl_law_2 a
  | 3 => tl_law_3 a
  | 4 => tl_law_4 a
  | 5 => tl_law_5 a
  | 6 => tl_law_6 a
  | 7 => tl_law_7 a
  | _ => fun _ _ _ _ => False
def t_law (a : Ad) (c : LX) : TSm :=
  (sSeq (sSet 1 (frzV (mCell (mFun (sp_law_row a) [] (mCons (mVar 0) mNil)))))
  (sSeq (sSet 2 (frzV (mOp gIx (frzV (mLst (mCons (mC (.int 2)) (mCons (mC (.int 3)) (mCons (mC (.int 5)) (mCons (mC (.int 7)) (mCons (mC (.int 11)) (mCons (mC (.int 13)) (mCons (mC (.int 41)) (mCons (mC (.int 61)) mNil)))))))))) (frzV (mFun (sp_law_taken a) [] (mCons (mVar 1) (mCons (mC (.int 8)) mNil)))))))
  (sSeq (sAsg (mTup (mCons (frzV (mOp gAdd (mC (.int 1)) (frzV (mFun (sp_law_taken a) [] (mCons (mVar 1) (mCons (frzV (mCall gMin2 (mCons (mVar 2) (mCons (mC (.int 8)) mNil)))) mNil)))))) (mCons (frzV (mOp gAdd (mC (.int 1)) (frzV (mFun (sp_law_taken a) [] (mCons (mVar 1) (mCons (mC (.int 6)) mNil)))))) mNil))) (gT 2 (gsCons (gN 3) (gsCons (gN 4) gsNil))))
  (sSeq (sAsg (mTup (mCons (frzV (mOp gAdd (mC (.int 1)) (frzV (mFun (sp_law_taken a) [] (mCons (mVar 1) (mCons (frzV (mOp gSub (mVar 2) (mC (.int 1)))) mNil)))))) (mCons (frzV (mFun (sp_law_taken a) [] (mCons (mVar 1) (mCons (mVar 2) mNil)))) mNil))) (gT 2 (gsCons (gN 5) (gsCons (gN 6) gsNil))))
  (sSeq (sSet 7 (frzV (mCall gTuple (mCons (frzV (mLc (mRng1 (mCons (mVar 3) mNil)) (gN 10) mYes (frzV (mOp gMod (frzV (mOp gMod (frzV (mOp gAdd (frzV (mOp gMul (mVar 5) (mVar 10))) (mVar 6))) (mVar 2))) (mVar 4))) [10])) mNil))))
  (sSeq (sIf (mNotT (mTst (frzV (mFun (sp_law_alike a 6) [] (mCons (frzV (mFun (sp_line a) [] (mCons (mVar 3) (mCons (mVar 4) (mCons (mVar 2) (mCons (mVar 5) (mCons (mVar 6) mNil))))))) (mCons (mVar 7) mNil)))))) (sRet (valE (mC (.bl false)))) sSkip)
  (sSeq (sSet 8 (frzV (mFun (sp_law_members a) [] (mCons (mVar 1) (mCons (mVar 3) mNil)))))
  (sSeq (sSet 9 (frzV (mLc (mRng1 (mCons (mVar 3) mNil)) (gN 10) (mTst (frzV (mOp (gIn not) (mVar 10) (mVar 8)))) (mVar 10) [10])))
  (sSeq (sForget [10, 11, 12, 13, 14] (sIf (mTst (frzV (mOp gNe (mVar 9) (frzV (mLst mNil))))) (sSeq (sSet 10 (frzV (mOp gIx (mVar 9) (frzV (mFun (sp_law_taken a) [] (mCons (mVar 1) (mCons (frzV (mCall gLen (mCons (mVar 9) mNil))) mNil)))))))
  (sSeq (sSet 11 (mC (.int 0)))
  (sSeq (sForget [12, 13, 14] (sFor (mRng2 (mCons (mC (.int 1)) (mCons (mVar 2) mNil))) (gN 12)
   (sForget [12, 13, 14] (sForget [13, 14] (sFor (mRng1 (mCons (mVar 2) mNil)) (gN 13)
   (sForget [13, 14] (sSeq (sSet 14 (frzV (mOp gMod (frzV (mOp gMod (frzV (mOp gAdd (frzV (mOp gMul (mVar 12) (mVar 10))) (mVar 13))) (mVar 2))) (mVar 4))))
  (sSet 11 (frzV (mOp gAdd (mVar 11) (frzV (mCall gInt (mCons (frzV (mOp (gIn id) (mVar 14) (frzV (mLc (mIter (mVar 8)) (gN 19) mYes (frzV (mOp gMod (frzV (mOp gMod (frzV (mOp gAdd (frzV (mOp gMul (mVar 12) (mVar 19))) (mVar 13))) (mVar 2))) (mVar 4))) [19])))) mNil)))))))))))))
  (sIf (mNotT (mTst (frzV (mFun (sp_law_alike a 6) [] (mCons (frzV (mFun (sp_line_share a) [] (mCons (mVar 3) (mCons (mVar 4) (mCons (mVar 2) (mCons (mVar 8) (mCons (mVar 10) mNil))))))) (mCons (frzV (mFun (sp_law_part a) [] (mCons (mVar 11) (mCons (frzV (mOp gMul (mVar 2) (frzV (mOp gSub (mVar 2) (mC (.int 1)))))) mNil)))) mNil)))))) (sRet (valE (mC (.bl false)))) sSkip)))) sSkip))
  (sSeq (sSet 15 (frzV (mOp gMul (frzV (mFun (sp_law_taken a) [] (mCons (mVar 1) (mCons (mC (.int 2)) mNil)))) (frzV (mFun (sp_law_taken a) [] (mCons (mVar 1) (mCons (mC (.int 999)) mNil)))))))
  (sSeq (sSet 16 (frzV (mOp gIx (frzV (mLst (mCons (mC (.int 4)) (mCons (mC (.int 9)) (mCons (frzV (mOp gAdd (mC (.int 62)) (mVar 15))) (mCons (mC (.int 0)) (mCons (mC (.int 1)) (mCons (mC .non) (mCons (mC (.bl true)) (mCons (mC (.str "5")) (mCons (frzV (mIte (mTst (frzV (mOp (gB fun i j => decide (i < j)) (mVar 3) (mC (.int 3))))) (mOp gSub (mVar 3) (mC (.int 1))) (valE (mC (.int 6))))) (mCons (mC (.int 49)) (mCons (mC (.int 25)) (mCons (mC (.int 35)) (mCons (mC (.int 55)) mNil))))))))))))))) (frzV (mFun (sp_law_taken a) [] (mCons (mVar 1) (mCons (mC (.int 13)) mNil)))))))
  (sSeq (sSet 17 (frzV (mCell (mLst (mCons (mLam c 0) (mCons (mLam c 1) mNil))))))
  (sSeq (sSet 17 (frzV (mCell (mOp gAdd (mVar 17) (frzV (mLst (mCons (mLam c 2) mNil)))))))
  (sSeq (sSet 17 (frzV (mCell (mOp gAdd (mVar 17) (frzV (mLst (mCons (mLam c 3) mNil)))))))
  (sSeq (sSet 17 (frzV (mCell (mOp gAdd (mVar 17) (frzV (mLst (mCons (mLam c 4) mNil)))))))
  (sSeq (sSet 17 (frzV (mCell (mOp gAdd (mVar 17) (frzV (mLst (mCons (mLam c 5) mNil)))))))
  (sSeq (sDrop (mApp (mVar 17) (mLam c 6)))
  (sSeq (sIf (mTst (frzV (mOp gNe (frzV (mLc (mIter (mVar 17)) (gN 18) (mTst (frzV (mOp gNe (frzV (mWordC ([12, 13] ++ [18]) a c 8 (tabs_law a) (mVar 18))) (mTup (mCons (mC (.str "number")) (mCons (mC .non) mNil)))))) (mVar 18) [18])) (frzV (mLst mNil))))) (sRet (valE (mC (.bl false)))) sSkip)
  (sRet (mOp gEq (frzV (mWordC [12, 13] a c 8 (tabs_law a) (mLam c 7))) (mTup (mCons (mC (.str "counts")) (mCons (mC (.int 0)) mNil)))))))))))))))))))))))

end M3
set_option Elab.async false
set_option linter.all false
set_option maxRecDepth 100000
set_option maxHeartbeats 4000000
namespace M3
open PySem PySem.Spec PyProof.Rows L2
theorem rd_is_prime {a : Ad} (ds : List D) (h : MH) (Kn : RV → MH → Prop) (Kx : XKm) (q : sp_is_prime a ds h Kn Kx) : t_is_prime a (bodyN Kn Kx) (startE ["number", "other"] ds) h := by
  obtain ⟨n, rfl, n2, k⟩ := q
  show t_is_prime a (bodyN Kn Kx) [some (.int n), none] h
  have big := line_big
  unfold t_is_prime
  by_cases c : 1 < n
  · simp only [sSeq, sSet, sSkip, sForget, sFor, sIf, sRet, sRetN, sDrop, sSetI, sAsg, sPar, sFldM, sAug, frzV, valE, mVar, mC, mOp, mUn, mCall, mFun, mMeth, mMake, mFld, mTst, mNotT, mNotV, mAndV, mOrV, mAndT, mOrT, mIte, mNil, mCons, mTup, mLst, mChain, mIter_ap, mIsi_ap, mRng1, mRng2, mLc, mYes, mCell, mRel, mSl, oNo, oSome,
  gN, gT, gsCons, gsNil, frz_d, frz_l, frz_k, gIx_p, onSet_p, onQ_p, onL_p, gLen_p, onIns_p, put_put, atD_0, atD_1, atD_2, atD_3, atD_4, ixN_0, ixN_1, ixN_2, ixN_3, ixN_4, List.length_cons, List.length_nil, onBl_b, onInt_i, onTup_t, on1_1, on2_2, onQ_l, onQ_t, onQ_s, onL_l, onLs_l, onLs_s, onD_d, onOpt_s, gII, gB, gAdd_i, gAdd_s, gAdd_t, gAdd_l, gMul_i, gMul_l, gMul_t, gSub, gMod, gDiv, gPow, gNeg, gIx_l, gIx_t, gIx_s, gLen_l, gLen_t, gLen_s, gLen_d, iterD_t, iterD_l, iterD_s,
  kind_i, kind_b, kind_s, kind_n, kind_t, kind_l, gIsN, isNon, gTuple, gList, gAll, gAny, gSum, gMin, gMax, gMin2, gMax2, gAbs, gInt, gSorted,
  List.getElem?_cons_zero, List.getElem?_cons_succ, List.getElem?_nil, List.set_cons_zero, List.set_cons_succ, List.cons_append, List.nil_append, List.append_nil, wipeE, List.any_cons, List.any_nil, isK, Bool.or_false, Bool.false_or, Bool.or_true, Bool.true_or, Bool.not_true, Bool.not_false, if_true, if_false, Bool.false_eq_true, true_and, and_true, decide_eq_true_eq, id, reduceCtorEq, gEq_i, gNe_i, gEq_b, gNe_b, gEq_li, gNe_li, gEq_l0, gNe_l0, gEq_00, gNe_00, gEq_ti, gNe_ti, mEnum, Nat.zero_add, Nat.reduceAdd, Int.reduceEq, Int.cast_ofNat_Int, Nat.zero_le, sz1, sz2, sz3, sz4, sz5, sz6, decide_true, decide_false, sAugI, mPopAt, mApp, mExt, mGet, mDNew, sPar3, sFldAugM, mZip2, mZip3, sRaise0, mMethK, cutD, mLam, c]
    refine ⟨⟨by decide, by decide, by omega, by omega⟩, ?_⟩
    have e : rngD 2 (n - 2).toNat = (List.range (n.toNat - 2)).map fun i : Nat => D.int (2 + (i : Int)) := by
      unfold rngD
      congr 2
      omega
    rw [e]
    refine lc_mapA (List.range (n.toNat - 2)) (fun i : Nat => D.int (2 + (i : Int))) (fun i => .bl (decide (n % (2 + (i : Int)) ≠ 0))) (by rw [List.length_range]; omega) ?_ ?_
    · intro i hi acc kc ha q
      simp only [sSeq, sSet, sSkip, sForget, sFor, sIf, sRet, sRetN, sDrop, sSetI, sAsg, sPar, sFldM, sAug, frzV, valE, mVar, mC, mOp, mUn, mCall, mFun, mMeth, mMake, mFld, mTst, mNotT, mNotV, mAndV, mOrV, mAndT, mOrT, mIte, mNil, mCons, mTup, mLst, mChain, mIter_ap, mIsi_ap, mRng1, mRng2, mLc, mYes, mCell, mRel, mSl, oNo, oSome,
  gN, gT, gsCons, gsNil, frz_d, frz_l, frz_k, gIx_p, onSet_p, onQ_p, onL_p, gLen_p, onIns_p, put_put, atD_0, atD_1, atD_2, atD_3, atD_4, ixN_0, ixN_1, ixN_2, ixN_3, ixN_4, List.length_cons, List.length_nil, onBl_b, onInt_i, onTup_t, on1_1, on2_2, onQ_l, onQ_t, onQ_s, onL_l, onLs_l, onLs_s, onD_d, onOpt_s, gII, gB, gAdd_i, gAdd_s, gAdd_t, gAdd_l, gMul_i, gMul_l, gMul_t, gSub, gMod, gDiv, gPow, gNeg, gIx_l, gIx_t, gIx_s, gLen_l, gLen_t, gLen_s, gLen_d, iterD_t, iterD_l, iterD_s,
  kind_i, kind_b, kind_s, kind_n, kind_t, kind_l, gIsN, isNon, gTuple, gList, gAll, gAny, gSum, gMin, gMax, gMin2, gMax2, gAbs, gInt, gSorted,
  List.getElem?_cons_zero, List.getElem?_cons_succ, List.getElem?_nil, List.set_cons_zero, List.set_cons_succ, List.cons_append, List.nil_append, List.append_nil, wipeE, List.any_cons, List.any_nil, isK, Bool.or_false, Bool.false_or, Bool.or_true, Bool.true_or, Bool.not_true, Bool.not_false, if_true, if_false, Bool.false_eq_true, true_and, and_true, decide_eq_true_eq, id, reduceCtorEq, gEq_i, gNe_i, gEq_b, gNe_b, gEq_li, gNe_li, gEq_l0, gNe_l0, gEq_00, gNe_00, gEq_ti, gNe_ti, mEnum, Nat.zero_add, Nat.reduceAdd, Int.reduceEq, Int.cast_ofNat_Int, Nat.zero_le, sz1, sz2, sz3, sz4, sz5, sz6, decide_true, decide_false, sAugI, mPopAt, mApp, mExt, mGet, mDNew, sPar3, sFldAugM, mZip2, mZip3, sRaise0, mMethK, cutD, mLam, gNe_i]
      refine ⟨by omega, ha, ?_⟩
      rwa [show (!decide (n % (2 + (i : Int)) = 0)) = decide (n % (2 + (i : Int)) ≠ 0) from by simp]
    · have e2 : (List.range (n.toNat - 2)).map (fun i : Nat => D.bl (decide (n % (2 + (i : Int)) ≠ 0))) = ((List.range (n.toNat - 2)).map fun i : Nat => decide (n % (2 + (i : Int)) ≠ 0)).map D.bl := by rw [List.map_map]; rfl
      rw [e2]
      simp only [sSeq, sSet, sSkip, sForget, sFor, sIf, sRet, sRetN, sDrop, sSetI, sAsg, sPar, sFldM, sAug, frzV, valE, mVar, mC, mOp, mUn, mCall, mFun, mMeth, mMake, mFld, mTst, mNotT, mNotV, mAndV, mOrV, mAndT, mOrT, mIte, mNil, mCons, mTup, mLst, mChain, mIter_ap, mIsi_ap, mRng1, mRng2, mLc, mYes, mCell, mRel, mSl, oNo, oSome,
  gN, gT, gsCons, gsNil, frz_d, frz_l, frz_k, gIx_p, onSet_p, onQ_p, onL_p, gLen_p, onIns_p, put_put, atD_0, atD_1, atD_2, atD_3, atD_4, ixN_0, ixN_1, ixN_2, ixN_3, ixN_4, List.length_cons, List.length_nil, onBl_b, onInt_i, onTup_t, on1_1, on2_2, onQ_l, onQ_t, onQ_s, onL_l, onLs_l, onLs_s, onD_d, onOpt_s, gII, gB, gAdd_i, gAdd_s, gAdd_t, gAdd_l, gMul_i, gMul_l, gMul_t, gSub, gMod, gDiv, gPow, gNeg, gIx_l, gIx_t, gIx_s, gLen_l, gLen_t, gLen_s, gLen_d, iterD_t, iterD_l, iterD_s,
  kind_i, kind_b, kind_s, kind_n, kind_t, kind_l, gIsN, isNon, gTuple, gList, gAll, gAny, gSum, gMin, gMax, gMin2, gMax2, gAbs, gInt, gSorted,
  List.getElem?_cons_zero, List.getElem?_cons_succ, List.getElem?_nil, List.set_cons_zero, List.set_cons_succ, List.cons_append, List.nil_append, List.append_nil, wipeE, List.any_cons, List.any_nil, isK, Bool.or_false, Bool.false_or, Bool.or_true, Bool.true_or, Bool.not_true, Bool.not_false, if_true, if_false, Bool.false_eq_true, true_and, and_true, decide_eq_true_eq, id, reduceCtorEq, gEq_i, gNe_i, gEq_b, gNe_b, gEq_li, gNe_li, gEq_l0, gNe_l0, gEq_00, gNe_00, gEq_ti, gNe_ti, mEnum, Nat.zero_add, Nat.reduceAdd, Int.reduceEq, Int.cast_ofNat_Int, Nat.zero_le, sz1, sz2, sz3, sz4, sz5, sz6, decide_true, decide_false, sAugI, mPopAt, mApp, mExt, mGet, mDNew, sPar3, sFldAugM, mZip2, mZip3, sRaise0, mMethK, cutD, mLam, onBls_map]
      have e3 : ((List.range (n.toNat - 2)).map fun i : Nat => decide (n % (2 + (i : Int)) ≠ 0)).all id = primeB n := by
        rw [List.all_map, primeB, decide_eq_true c, Bool.true_and]
        rfl
      rw [e3]
      exact bodyN_rt0 k
  · have e : primeB n = false := by
      rw [primeB, decide_eq_false c, Bool.false_and]
    rw [e] at k
    simp only [sSeq, sSet, sSkip, sForget, sFor, sIf, sRet, sRetN, sDrop, sSetI, sAsg, sPar, sFldM, sAug, frzV, valE, mVar, mC, mOp, mUn, mCall, mFun, mMeth, mMake, mFld, mTst, mNotT, mNotV, mAndV, mOrV, mAndT, mOrT, mIte, mNil, mCons, mTup, mLst, mChain, mIter_ap, mIsi_ap, mRng1, mRng2, mLc, mYes, mCell, mRel, mSl, oNo, oSome,
  gN, gT, gsCons, gsNil, frz_d, frz_l, frz_k, gIx_p, onSet_p, onQ_p, onL_p, gLen_p, onIns_p, put_put, atD_0, atD_1, atD_2, atD_3, atD_4, ixN_0, ixN_1, ixN_2, ixN_3, ixN_4, List.length_cons, List.length_nil, onBl_b, onInt_i, onTup_t, on1_1, on2_2, onQ_l, onQ_t, onQ_s, onL_l, onLs_l, onLs_s, onD_d, onOpt_s, gII, gB, gAdd_i, gAdd_s, gAdd_t, gAdd_l, gMul_i, gMul_l, gMul_t, gSub, gMod, gDiv, gPow, gNeg, gIx_l, gIx_t, gIx_s, gLen_l, gLen_t, gLen_s, gLen_d, iterD_t, iterD_l, iterD_s,
  kind_i, kind_b, kind_s, kind_n, kind_t, kind_l, gIsN, isNon, gTuple, gList, gAll, gAny, gSum, gMin, gMax, gMin2, gMax2, gAbs, gInt, gSorted,
  List.getElem?_cons_zero, List.getElem?_cons_succ, List.getElem?_nil, List.set_cons_zero, List.set_cons_succ, List.cons_append, List.nil_append, List.append_nil, wipeE, List.any_cons, List.any_nil, isK, Bool.or_false, Bool.false_or, Bool.or_true, Bool.true_or, Bool.not_true, Bool.not_false, if_true, if_false, Bool.false_eq_true, true_and, and_true, decide_eq_true_eq, id, reduceCtorEq, gEq_i, gNe_i, gEq_b, gNe_b, gEq_li, gNe_li, gEq_l0, gNe_l0, gEq_00, gNe_00, gEq_ti, gNe_ti, mEnum, Nat.zero_add, Nat.reduceAdd, Int.reduceEq, Int.cast_ofNat_Int, Nat.zero_le, sz1, sz2, sz3, sz4, sz5, sz6, decide_true, decide_false, sAugI, mPopAt, mApp, mExt, mGet, mDNew, sPar3, sFldAugM, mZip2, mZip3, sRaise0, mMethK, cutD, mLam, c]
    exact bodyN_rt0 k
theorem isNum_int {d : D} {lo hi : Int} (h : isNum d lo hi = true) : ∃ i, d = .int i ∧ lo ≤ i ∧ i ≤ hi := by
  cases d with
  | int i =>
    simp only [isNum, Bool.and_eq_true, decide_eq_true_eq] at h
    exact ⟨i, rfl, h⟩
  | _ => exact nomatch h
theorem rd_need_line {a : Ad} (ds : List D) (h : MH) (Kn : RV → MH → Prop) (Kx : XKm) (q : sp_need_line a ds h Kn Kx) : t_need_line a (bodyN Kn Kx) (startE ["keys", "wide", "prime"] ds) h := by
  obtain ⟨dk, dw, dp, rfl, kk, kw, kp, q⟩ := q
  show t_need_line a (bodyN Kn Kx) [some dk, some dw, some dp] h
  unfold t_need_line
  rcases q with ⟨k, w, p, rfl, rfl, rfl, ok, q⟩ | ⟨q, kx⟩
  · simp only [sSeq, sSet, mTup, mCons, frzV, mOp, mVar, mC, mNil, mLst, mLam, sRet, mLc, mIter, mMeth, mMethK, mMake, mTst, mNotT, sIf, valE, mCall, mFun, mIte]
    simp only [sSeq, sSet, sSkip, sForget, sFor, sIf, sRet, sRetN, sDrop, sSetI, sAsg, sPar, sFldM, sAug, frzV, valE, mVar, mC, mOp, mUn, mCall, mFun, mMeth, mMake, mFld, mTst, mNotT, mNotV, mAndV, mOrV, mAndT, mOrT, mIte, mNil, mCons, mTup, mLst, mChain, mIter_ap, mIsi_ap, mRng1, mRng2, mLc, mYes, mCell, mRel, mSl, oNo, oSome,
  gN, gT, gsCons, gsNil, frz_d, frz_l, frz_k, gIx_p, onSet_p, onQ_p, onL_p, gLen_p, onIns_p, put_put, atD_0, atD_1, atD_2, atD_3, atD_4, ixN_0, ixN_1, ixN_2, ixN_3, ixN_4, List.length_cons, List.length_nil, onBl_b, onInt_i, onTup_t, on1_1, on2_2, onQ_l, onQ_t, onQ_s, onL_l, onLs_l, onLs_s, onD_d, onOpt_s, gII, gB, gAdd_i, gAdd_s, gAdd_t, gAdd_l, gMul_i, gMul_l, gMul_t, gSub, gMod, gDiv, gPow, gNeg, gIx_l, gIx_t, gIx_s, gLen_l, gLen_t, gLen_s, gLen_d, iterD_t, iterD_l, iterD_s,
  kind_i, kind_b, kind_s, kind_n, kind_t, kind_l, gIsN, isNon, gTuple, gList, gAll, gAny, gSum, gMin, gMax, gMin2, gMax2, gAbs, gInt, gSorted,
  List.getElem?_cons_zero, List.getElem?_cons_succ, List.getElem?_nil, List.set_cons_zero, List.set_cons_succ, List.cons_append, List.nil_append, List.append_nil, wipeE, List.any_cons, List.any_nil, isK, Bool.or_false, Bool.false_or, Bool.or_true, Bool.true_or, Bool.not_true, Bool.not_false, if_true, if_false, Bool.false_eq_true, true_and, and_true, decide_eq_true_eq, id, reduceCtorEq, gEq_i, gNe_i, gEq_b, gNe_b, gEq_li, gNe_li, gEq_l0, gNe_l0, gEq_00, gNe_00, gEq_ti, gNe_ti, mEnum, Nat.zero_add, Nat.reduceAdd, Int.reduceEq, Int.cast_ofNat_Int, Nat.zero_le, sz1, sz2, sz3, sz4, sz5, sz6, decide_true, decide_false, sAugI, mPopAt, mApp, mExt, mGet, mDNew, sPar3, sFldAugM, mZip2, mZip3, sRaise0, mMethK, cutD, mLam]
    refine ⟨_, _, _, rfl, kk, ?_⟩
    simp only [sSeq, sSet, sSkip, sForget, sFor, sIf, sRet, sRetN, sDrop, sSetI, sAsg, sPar, sFldM, sAug, frzV, valE, mVar, mC, mOp, mUn, mCall, mFun, mMeth, mMake, mFld, mTst, mNotT, mNotV, mAndV, mOrV, mAndT, mOrT, mIte, mNil, mCons, mTup, mLst, mChain, mIter_ap, mIsi_ap, mRng1, mRng2, mLc, mYes, mCell, mRel, mSl, oNo, oSome,
  gN, gT, gsCons, gsNil, frz_d, frz_l, frz_k, gIx_p, onSet_p, onQ_p, onL_p, gLen_p, onIns_p, put_put, atD_0, atD_1, atD_2, atD_3, atD_4, ixN_0, ixN_1, ixN_2, ixN_3, ixN_4, List.length_cons, List.length_nil, onBl_b, onInt_i, onTup_t, on1_1, on2_2, onQ_l, onQ_t, onQ_s, onL_l, onLs_l, onLs_s, onD_d, onOpt_s, gII, gB, gAdd_i, gAdd_s, gAdd_t, gAdd_l, gMul_i, gMul_l, gMul_t, gSub, gMod, gDiv, gPow, gNeg, gIx_l, gIx_t, gIx_s, gLen_l, gLen_t, gLen_s, gLen_d, iterD_t, iterD_l, iterD_s,
  kind_i, kind_b, kind_s, kind_n, kind_t, kind_l, gIsN, isNon, gTuple, gList, gAll, gAny, gSum, gMin, gMax, gMin2, gMax2, gAbs, gInt, gSorted,
  List.getElem?_cons_zero, List.getElem?_cons_succ, List.getElem?_nil, List.set_cons_zero, List.set_cons_succ, List.cons_append, List.nil_append, List.append_nil, wipeE, List.any_cons, List.any_nil, isK, Bool.or_false, Bool.false_or, Bool.or_true, Bool.true_or, Bool.not_true, Bool.not_false, if_true, if_false, Bool.false_eq_true, true_and, and_true, decide_eq_true_eq, id, reduceCtorEq, gEq_i, gNe_i, gEq_b, gNe_b, gEq_li, gNe_li, gEq_l0, gNe_l0, gEq_00, gNe_00, gEq_ti, gNe_ti, mEnum, Nat.zero_add, Nat.reduceAdd, Int.reduceEq, Int.cast_ofNat_Int, Nat.zero_le, sz1, sz2, sz3, sz4, sz5, sz6, decide_true, decide_false, sAugI, mPopAt, mApp, mExt, mGet, mDNew, sPar3, sFldAugM, mZip2, mZip3, sRaise0, mMethK, cutD, mLam, num_yes ok.k1 ok.k2]
    refine ⟨_, _, _, rfl, kw, ?_⟩
    simp only [sSeq, sSet, sSkip, sForget, sFor, sIf, sRet, sRetN, sDrop, sSetI, sAsg, sPar, sFldM, sAug, frzV, valE, mVar, mC, mOp, mUn, mCall, mFun, mMeth, mMake, mFld, mTst, mNotT, mNotV, mAndV, mOrV, mAndT, mOrT, mIte, mNil, mCons, mTup, mLst, mChain, mIter_ap, mIsi_ap, mRng1, mRng2, mLc, mYes, mCell, mRel, mSl, oNo, oSome,
  gN, gT, gsCons, gsNil, frz_d, frz_l, frz_k, gIx_p, onSet_p, onQ_p, onL_p, gLen_p, onIns_p, put_put, atD_0, atD_1, atD_2, atD_3, atD_4, ixN_0, ixN_1, ixN_2, ixN_3, ixN_4, List.length_cons, List.length_nil, onBl_b, onInt_i, onTup_t, on1_1, on2_2, onQ_l, onQ_t, onQ_s, onL_l, onLs_l, onLs_s, onD_d, onOpt_s, gII, gB, gAdd_i, gAdd_s, gAdd_t, gAdd_l, gMul_i, gMul_l, gMul_t, gSub, gMod, gDiv, gPow, gNeg, gIx_l, gIx_t, gIx_s, gLen_l, gLen_t, gLen_s, gLen_d, iterD_t, iterD_l, iterD_s,
  kind_i, kind_b, kind_s, kind_n, kind_t, kind_l, gIsN, isNon, gTuple, gList, gAll, gAny, gSum, gMin, gMax, gMin2, gMax2, gAbs, gInt, gSorted,
  List.getElem?_cons_zero, List.getElem?_cons_succ, List.getElem?_nil, List.set_cons_zero, List.set_cons_succ, List.cons_append, List.nil_append, List.append_nil, wipeE, List.any_cons, List.any_nil, isK, Bool.or_false, Bool.false_or, Bool.or_true, Bool.true_or, Bool.not_true, Bool.not_false, if_true, if_false, Bool.false_eq_true, true_and, and_true, decide_eq_true_eq, id, reduceCtorEq, gEq_i, gNe_i, gEq_b, gNe_b, gEq_li, gNe_li, gEq_l0, gNe_l0, gEq_00, gNe_00, gEq_ti, gNe_ti, mEnum, Nat.zero_add, Nat.reduceAdd, Int.reduceEq, Int.cast_ofNat_Int, Nat.zero_le, sz1, sz2, sz3, sz4, sz5, sz6, decide_true, decide_false, sAugI, mPopAt, mApp, mExt, mGet, mDNew, sPar3, sFldAugM, mZip2, mZip3, sRaise0, mMethK, cutD, mLam, num_yes ok.w1 ok.w2]
    refine ⟨_, _, _, rfl, kp, ?_⟩
    simp only [sSeq, sSet, sSkip, sForget, sFor, sIf, sRet, sRetN, sDrop, sSetI, sAsg, sPar, sFldM, sAug, frzV, valE, mVar, mC, mOp, mUn, mCall, mFun, mMeth, mMake, mFld, mTst, mNotT, mNotV, mAndV, mOrV, mAndT, mOrT, mIte, mNil, mCons, mTup, mLst, mChain, mIter_ap, mIsi_ap, mRng1, mRng2, mLc, mYes, mCell, mRel, mSl, oNo, oSome,
  gN, gT, gsCons, gsNil, frz_d, frz_l, frz_k, gIx_p, onSet_p, onQ_p, onL_p, gLen_p, onIns_p, put_put, atD_0, atD_1, atD_2, atD_3, atD_4, ixN_0, ixN_1, ixN_2, ixN_3, ixN_4, List.length_cons, List.length_nil, onBl_b, onInt_i, onTup_t, on1_1, on2_2, onQ_l, onQ_t, onQ_s, onL_l, onLs_l, onLs_s, onD_d, onOpt_s, gII, gB, gAdd_i, gAdd_s, gAdd_t, gAdd_l, gMul_i, gMul_l, gMul_t, gSub, gMod, gDiv, gPow, gNeg, gIx_l, gIx_t, gIx_s, gLen_l, gLen_t, gLen_s, gLen_d, iterD_t, iterD_l, iterD_s,
  kind_i, kind_b, kind_s, kind_n, kind_t, kind_l, gIsN, isNon, gTuple, gList, gAll, gAny, gSum, gMin, gMax, gMin2, gMax2, gAbs, gInt, gSorted,
  List.getElem?_cons_zero, List.getElem?_cons_succ, List.getElem?_nil, List.set_cons_zero, List.set_cons_succ, List.cons_append, List.nil_append, List.append_nil, wipeE, List.any_cons, List.any_nil, isK, Bool.or_false, Bool.false_or, Bool.or_true, Bool.true_or, Bool.not_true, Bool.not_false, if_true, if_false, Bool.false_eq_true, true_and, and_true, decide_eq_true_eq, id, reduceCtorEq, gEq_i, gNe_i, gEq_b, gNe_b, gEq_li, gNe_li, gEq_l0, gNe_l0, gEq_00, gNe_00, gEq_ti, gNe_ti, mEnum, Nat.zero_add, Nat.reduceAdd, Int.reduceEq, Int.cast_ofNat_Int, Nat.zero_le, sz1, sz2, sz3, sz4, sz5, sz6, decide_true, decide_false, sAugI, mPopAt, mApp, mExt, mGet, mDNew, sPar3, sFldAugM, mZip2, mZip3, sRaise0, mMethK, cutD, mLam, num_yes ok.pk ok.p2]
    refine ⟨p, rfl, ok.p2, ?_⟩
    simp only [sSeq, sSet, sSkip, sForget, sFor, sIf, sRet, sRetN, sDrop, sSetI, sAsg, sPar, sFldM, sAug, frzV, valE, mVar, mC, mOp, mUn, mCall, mFun, mMeth, mMake, mFld, mTst, mNotT, mNotV, mAndV, mOrV, mAndT, mOrT, mIte, mNil, mCons, mTup, mLst, mChain, mIter_ap, mIsi_ap, mRng1, mRng2, mLc, mYes, mCell, mRel, mSl, oNo, oSome,
  gN, gT, gsCons, gsNil, frz_d, frz_l, frz_k, gIx_p, onSet_p, onQ_p, onL_p, gLen_p, onIns_p, put_put, atD_0, atD_1, atD_2, atD_3, atD_4, ixN_0, ixN_1, ixN_2, ixN_3, ixN_4, List.length_cons, List.length_nil, onBl_b, onInt_i, onTup_t, on1_1, on2_2, onQ_l, onQ_t, onQ_s, onL_l, onLs_l, onLs_s, onD_d, onOpt_s, gII, gB, gAdd_i, gAdd_s, gAdd_t, gAdd_l, gMul_i, gMul_l, gMul_t, gSub, gMod, gDiv, gPow, gNeg, gIx_l, gIx_t, gIx_s, gLen_l, gLen_t, gLen_s, gLen_d, iterD_t, iterD_l, iterD_s,
  kind_i, kind_b, kind_s, kind_n, kind_t, kind_l, gIsN, isNon, gTuple, gList, gAll, gAny, gSum, gMin, gMax, gMin2, gMax2, gAbs, gInt, gSorted,
  List.getElem?_cons_zero, List.getElem?_cons_succ, List.getElem?_nil, List.set_cons_zero, List.set_cons_succ, List.cons_append, List.nil_append, List.append_nil, wipeE, List.any_cons, List.any_nil, isK, Bool.or_false, Bool.false_or, Bool.or_true, Bool.true_or, Bool.not_true, Bool.not_false, if_true, if_false, Bool.false_eq_true, true_and, and_true, decide_eq_true_eq, id, reduceCtorEq, gEq_i, gNe_i, gEq_b, gNe_b, gEq_li, gNe_li, gEq_l0, gNe_l0, gEq_00, gNe_00, gEq_ti, gNe_ti, mEnum, Nat.zero_add, Nat.reduceAdd, Int.reduceEq, Int.cast_ofNat_Int, Nat.zero_le, sz1, sz2, sz3, sz4, sz5, sz6, decide_true, decide_false, sAugI, mPopAt, mApp, mExt, mGet, mDNew, sPar3, sFldAugM, mZip2, mZip3, sRaise0, mMethK, cutD, mLam, ok.pr]
    exact bodyN_nx0 q
  · have kx' : ∀ E, (bodyN Kn Kx).xs ⟨a.BadNumber, []⟩ E h := fun _ => ⟨h, fun _ _ e => e, kx⟩
    simp only [sSeq, sSet, mTup, mCons, frzV, mOp, mVar, mC, mNil, mLst, mLam, sRet, mLc, mIter, mMeth, mMethK, mMake, mTst, mNotT, sIf, valE, mCall, mFun, mIte]
    simp only [sSeq, sSet, sSkip, sForget, sFor, sIf, sRet, sRetN, sDrop, sSetI, sAsg, sPar, sFldM, sAug, frzV, valE, mVar, mC, mOp, mUn, mCall, mFun, mMeth, mMake, mFld, mTst, mNotT, mNotV, mAndV, mOrV, mAndT, mOrT, mIte, mNil, mCons, mTup, mLst, mChain, mIter_ap, mIsi_ap, mRng1, mRng2, mLc, mYes, mCell, mRel, mSl, oNo, oSome,
  gN, gT, gsCons, gsNil, frz_d, frz_l, frz_k, gIx_p, onSet_p, onQ_p, onL_p, gLen_p, onIns_p, put_put, atD_0, atD_1, atD_2, atD_3, atD_4, ixN_0, ixN_1, ixN_2, ixN_3, ixN_4, List.length_cons, List.length_nil, onBl_b, onInt_i, onTup_t, on1_1, on2_2, onQ_l, onQ_t, onQ_s, onL_l, onLs_l, onLs_s, onD_d, onOpt_s, gII, gB, gAdd_i, gAdd_s, gAdd_t, gAdd_l, gMul_i, gMul_l, gMul_t, gSub, gMod, gDiv, gPow, gNeg, gIx_l, gIx_t, gIx_s, gLen_l, gLen_t, gLen_s, gLen_d, iterD_t, iterD_l, iterD_s,
  kind_i, kind_b, kind_s, kind_n, kind_t, kind_l, gIsN, isNon, gTuple, gList, gAll, gAny, gSum, gMin, gMax, gMin2, gMax2, gAbs, gInt, gSorted,
  List.getElem?_cons_zero, List.getElem?_cons_succ, List.getElem?_nil, List.set_cons_zero, List.set_cons_succ, List.cons_append, List.nil_append, List.append_nil, wipeE, List.any_cons, List.any_nil, isK, Bool.or_false, Bool.false_or, Bool.or_true, Bool.true_or, Bool.not_true, Bool.not_false, if_true, if_false, Bool.false_eq_true, true_and, and_true, decide_eq_true_eq, id, reduceCtorEq, gEq_i, gNe_i, gEq_b, gNe_b, gEq_li, gNe_li, gEq_l0, gNe_l0, gEq_00, gNe_00, gEq_ti, gNe_ti, mEnum, Nat.zero_add, Nat.reduceAdd, Int.reduceEq, Int.cast_ofNat_Int, Nat.zero_le, sz1, sz2, sz3, sz4, sz5, sz6, decide_true, decide_false, sAugI, mPopAt, mApp, mExt, mGet, mDNew, sPar3, sFldAugM, mZip2, mZip3, sRaise0, mMethK, cutD, mLam]
    refine ⟨_, _, _, rfl, kk, ?_⟩
    rcases q with q | ⟨q1, q⟩ | ⟨k, rfl, q1, q2, q⟩
    · simp only [sSeq, sSet, sSkip, sForget, sFor, sIf, sRet, sRetN, sDrop, sSetI, sAsg, sPar, sFldM, sAug, frzV, valE, mVar, mC, mOp, mUn, mCall, mFun, mMeth, mMake, mFld, mTst, mNotT, mNotV, mAndV, mOrV, mAndT, mOrT, mIte, mNil, mCons, mTup, mLst, mChain, mIter_ap, mIsi_ap, mRng1, mRng2, mLc, mYes, mCell, mRel, mSl, oNo, oSome,
  gN, gT, gsCons, gsNil, frz_d, frz_l, frz_k, gIx_p, onSet_p, onQ_p, onL_p, gLen_p, onIns_p, put_put, atD_0, atD_1, atD_2, atD_3, atD_4, ixN_0, ixN_1, ixN_2, ixN_3, ixN_4, List.length_cons, List.length_nil, onBl_b, onInt_i, onTup_t, on1_1, on2_2, onQ_l, onQ_t, onQ_s, onL_l, onLs_l, onLs_s, onD_d, onOpt_s, gII, gB, gAdd_i, gAdd_s, gAdd_t, gAdd_l, gMul_i, gMul_l, gMul_t, gSub, gMod, gDiv, gPow, gNeg, gIx_l, gIx_t, gIx_s, gLen_l, gLen_t, gLen_s, gLen_d, iterD_t, iterD_l, iterD_s,
  kind_i, kind_b, kind_s, kind_n, kind_t, kind_l, gIsN, isNon, gTuple, gList, gAll, gAny, gSum, gMin, gMax, gMin2, gMax2, gAbs, gInt, gSorted,
  List.getElem?_cons_zero, List.getElem?_cons_succ, List.getElem?_nil, List.set_cons_zero, List.set_cons_succ, List.cons_append, List.nil_append, List.append_nil, wipeE, List.any_cons, List.any_nil, isK, Bool.or_false, Bool.false_or, Bool.or_true, Bool.true_or, Bool.not_true, Bool.not_false, if_true, if_false, Bool.false_eq_true, true_and, and_true, decide_eq_true_eq, id, reduceCtorEq, gEq_i, gNe_i, gEq_b, gNe_b, gEq_li, gNe_li, gEq_l0, gNe_l0, gEq_00, gNe_00, gEq_ti, gNe_ti, mEnum, Nat.zero_add, Nat.reduceAdd, Int.reduceEq, Int.cast_ofNat_Int, Nat.zero_le, sz1, sz2, sz3, sz4, sz5, sz6, decide_true, decide_false, sAugI, mPopAt, mApp, mExt, mGet, mDNew, sPar3, sFldAugM, mZip2, mZip3, sRaise0, mMethK, cutD, mLam, q]
      exact kx' _
    · simp only [sSeq, sSet, sSkip, sForget, sFor, sIf, sRet, sRetN, sDrop, sSetI, sAsg, sPar, sFldM, sAug, frzV, valE, mVar, mC, mOp, mUn, mCall, mFun, mMeth, mMake, mFld, mTst, mNotT, mNotV, mAndV, mOrV, mAndT, mOrT, mIte, mNil, mCons, mTup, mLst, mChain, mIter_ap, mIsi_ap, mRng1, mRng2, mLc, mYes, mCell, mRel, mSl, oNo, oSome,
  gN, gT, gsCons, gsNil, frz_d, frz_l, frz_k, gIx_p, onSet_p, onQ_p, onL_p, gLen_p, onIns_p, put_put, atD_0, atD_1, atD_2, atD_3, atD_4, ixN_0, ixN_1, ixN_2, ixN_3, ixN_4, List.length_cons, List.length_nil, onBl_b, onInt_i, onTup_t, on1_1, on2_2, onQ_l, onQ_t, onQ_s, onL_l, onLs_l, onLs_s, onD_d, onOpt_s, gII, gB, gAdd_i, gAdd_s, gAdd_t, gAdd_l, gMul_i, gMul_l, gMul_t, gSub, gMod, gDiv, gPow, gNeg, gIx_l, gIx_t, gIx_s, gLen_l, gLen_t, gLen_s, gLen_d, iterD_t, iterD_l, iterD_s,
  kind_i, kind_b, kind_s, kind_n, kind_t, kind_l, gIsN, isNon, gTuple, gList, gAll, gAny, gSum, gMin, gMax, gMin2, gMax2, gAbs, gInt, gSorted,
  List.getElem?_cons_zero, List.getElem?_cons_succ, List.getElem?_nil, List.set_cons_zero, List.set_cons_succ, List.cons_append, List.nil_append, List.append_nil, wipeE, List.any_cons, List.any_nil, isK, Bool.or_false, Bool.false_or, Bool.or_true, Bool.true_or, Bool.not_true, Bool.not_false, if_true, if_false, Bool.false_eq_true, true_and, and_true, decide_eq_true_eq, id, reduceCtorEq, gEq_i, gNe_i, gEq_b, gNe_b, gEq_li, gNe_li, gEq_l0, gNe_l0, gEq_00, gNe_00, gEq_ti, gNe_ti, mEnum, Nat.zero_add, Nat.reduceAdd, Int.reduceEq, Int.cast_ofNat_Int, Nat.zero_le, sz1, sz2, sz3, sz4, sz5, sz6, decide_true, decide_false, sAugI, mPopAt, mApp, mExt, mGet, mDNew, sPar3, sFldAugM, mZip2, mZip3, sRaise0, mMethK, cutD, mLam, q1]
      refine ⟨_, _, _, rfl, kw, ?_⟩
      simp only [sSeq, sSet, sSkip, sForget, sFor, sIf, sRet, sRetN, sDrop, sSetI, sAsg, sPar, sFldM, sAug, frzV, valE, mVar, mC, mOp, mUn, mCall, mFun, mMeth, mMake, mFld, mTst, mNotT, mNotV, mAndV, mOrV, mAndT, mOrT, mIte, mNil, mCons, mTup, mLst, mChain, mIter_ap, mIsi_ap, mRng1, mRng2, mLc, mYes, mCell, mRel, mSl, oNo, oSome,
  gN, gT, gsCons, gsNil, frz_d, frz_l, frz_k, gIx_p, onSet_p, onQ_p, onL_p, gLen_p, onIns_p, put_put, atD_0, atD_1, atD_2, atD_3, atD_4, ixN_0, ixN_1, ixN_2, ixN_3, ixN_4, List.length_cons, List.length_nil, onBl_b, onInt_i, onTup_t, on1_1, on2_2, onQ_l, onQ_t, onQ_s, onL_l, onLs_l, onLs_s, onD_d, onOpt_s, gII, gB, gAdd_i, gAdd_s, gAdd_t, gAdd_l, gMul_i, gMul_l, gMul_t, gSub, gMod, gDiv, gPow, gNeg, gIx_l, gIx_t, gIx_s, gLen_l, gLen_t, gLen_s, gLen_d, iterD_t, iterD_l, iterD_s,
  kind_i, kind_b, kind_s, kind_n, kind_t, kind_l, gIsN, isNon, gTuple, gList, gAll, gAny, gSum, gMin, gMax, gMin2, gMax2, gAbs, gInt, gSorted,
  List.getElem?_cons_zero, List.getElem?_cons_succ, List.getElem?_nil, List.set_cons_zero, List.set_cons_succ, List.cons_append, List.nil_append, List.append_nil, wipeE, List.any_cons, List.any_nil, isK, Bool.or_false, Bool.false_or, Bool.or_true, Bool.true_or, Bool.not_true, Bool.not_false, if_true, if_false, Bool.false_eq_true, true_and, and_true, decide_eq_true_eq, id, reduceCtorEq, gEq_i, gNe_i, gEq_b, gNe_b, gEq_li, gNe_li, gEq_l0, gNe_l0, gEq_00, gNe_00, gEq_ti, gNe_ti, mEnum, Nat.zero_add, Nat.reduceAdd, Int.reduceEq, Int.cast_ofNat_Int, Nat.zero_le, sz1, sz2, sz3, sz4, sz5, sz6, decide_true, decide_false, sAugI, mPopAt, mApp, mExt, mGet, mDNew, sPar3, sFldAugM, mZip2, mZip3, sRaise0, mMethK, cutD, mLam, q]
      exact kx' _
    · simp only [sSeq, sSet, sSkip, sForget, sFor, sIf, sRet, sRetN, sDrop, sSetI, sAsg, sPar, sFldM, sAug, frzV, valE, mVar, mC, mOp, mUn, mCall, mFun, mMeth, mMake, mFld, mTst, mNotT, mNotV, mAndV, mOrV, mAndT, mOrT, mIte, mNil, mCons, mTup, mLst, mChain, mIter_ap, mIsi_ap, mRng1, mRng2, mLc, mYes, mCell, mRel, mSl, oNo, oSome,
  gN, gT, gsCons, gsNil, frz_d, frz_l, frz_k, gIx_p, onSet_p, onQ_p, onL_p, gLen_p, onIns_p, put_put, atD_0, atD_1, atD_2, atD_3, atD_4, ixN_0, ixN_1, ixN_2, ixN_3, ixN_4, List.length_cons, List.length_nil, onBl_b, onInt_i, onTup_t, on1_1, on2_2, onQ_l, onQ_t, onQ_s, onL_l, onLs_l, onLs_s, onD_d, onOpt_s, gII, gB, gAdd_i, gAdd_s, gAdd_t, gAdd_l, gMul_i, gMul_l, gMul_t, gSub, gMod, gDiv, gPow, gNeg, gIx_l, gIx_t, gIx_s, gLen_l, gLen_t, gLen_s, gLen_d, iterD_t, iterD_l, iterD_s,
  kind_i, kind_b, kind_s, kind_n, kind_t, kind_l, gIsN, isNon, gTuple, gList, gAll, gAny, gSum, gMin, gMax, gMin2, gMax2, gAbs, gInt, gSorted,
  List.getElem?_cons_zero, List.getElem?_cons_succ, List.getElem?_nil, List.set_cons_zero, List.set_cons_succ, List.cons_append, List.nil_append, List.append_nil, wipeE, List.any_cons, List.any_nil, isK, Bool.or_false, Bool.false_or, Bool.or_true, Bool.true_or, Bool.not_true, Bool.not_false, if_true, if_false, Bool.false_eq_true, true_and, and_true, decide_eq_true_eq, id, reduceCtorEq, gEq_i, gNe_i, gEq_b, gNe_b, gEq_li, gNe_li, gEq_l0, gNe_l0, gEq_00, gNe_00, gEq_ti, gNe_ti, mEnum, Nat.zero_add, Nat.reduceAdd, Int.reduceEq, Int.cast_ofNat_Int, Nat.zero_le, sz1, sz2, sz3, sz4, sz5, sz6, decide_true, decide_false, sAugI, mPopAt, mApp, mExt, mGet, mDNew, sPar3, sFldAugM, mZip2, mZip3, sRaise0, mMethK, cutD, mLam, q1]
      refine ⟨_, _, _, rfl, kw, ?_⟩
      simp only [sSeq, sSet, sSkip, sForget, sFor, sIf, sRet, sRetN, sDrop, sSetI, sAsg, sPar, sFldM, sAug, frzV, valE, mVar, mC, mOp, mUn, mCall, mFun, mMeth, mMake, mFld, mTst, mNotT, mNotV, mAndV, mOrV, mAndT, mOrT, mIte, mNil, mCons, mTup, mLst, mChain, mIter_ap, mIsi_ap, mRng1, mRng2, mLc, mYes, mCell, mRel, mSl, oNo, oSome,
  gN, gT, gsCons, gsNil, frz_d, frz_l, frz_k, gIx_p, onSet_p, onQ_p, onL_p, gLen_p, onIns_p, put_put, atD_0, atD_1, atD_2, atD_3, atD_4, ixN_0, ixN_1, ixN_2, ixN_3, ixN_4, List.length_cons, List.length_nil, onBl_b, onInt_i, onTup_t, on1_1, on2_2, onQ_l, onQ_t, onQ_s, onL_l, onLs_l, onLs_s, onD_d, onOpt_s, gII, gB, gAdd_i, gAdd_s, gAdd_t, gAdd_l, gMul_i, gMul_l, gMul_t, gSub, gMod, gDiv, gPow, gNeg, gIx_l, gIx_t, gIx_s, gLen_l, gLen_t, gLen_s, gLen_d, iterD_t, iterD_l, iterD_s,
  kind_i, kind_b, kind_s, kind_n, kind_t, kind_l, gIsN, isNon, gTuple, gList, gAll, gAny, gSum, gMin, gMax, gMin2, gMax2, gAbs, gInt, gSorted,
  List.getElem?_cons_zero, List.getElem?_cons_succ, List.getElem?_nil, List.set_cons_zero, List.set_cons_succ, List.cons_append, List.nil_append, List.append_nil, wipeE, List.any_cons, List.any_nil, isK, Bool.or_false, Bool.false_or, Bool.or_true, Bool.true_or, Bool.not_true, Bool.not_false, if_true, if_false, Bool.false_eq_true, true_and, and_true, decide_eq_true_eq, id, reduceCtorEq, gEq_i, gNe_i, gEq_b, gNe_b, gEq_li, gNe_li, gEq_l0, gNe_l0, gEq_00, gNe_00, gEq_ti, gNe_ti, mEnum, Nat.zero_add, Nat.reduceAdd, Int.reduceEq, Int.cast_ofNat_Int, Nat.zero_le, sz1, sz2, sz3, sz4, sz5, sz6, decide_true, decide_false, sAugI, mPopAt, mApp, mExt, mGet, mDNew, sPar3, sFldAugM, mZip2, mZip3, sRaise0, mMethK, cutD, mLam, q2]
      refine ⟨_, _, _, rfl, kp, ?_⟩
      rcases q with q | ⟨p, rfl, q3, q⟩
      · simp only [sSeq, sSet, sSkip, sForget, sFor, sIf, sRet, sRetN, sDrop, sSetI, sAsg, sPar, sFldM, sAug, frzV, valE, mVar, mC, mOp, mUn, mCall, mFun, mMeth, mMake, mFld, mTst, mNotT, mNotV, mAndV, mOrV, mAndT, mOrT, mIte, mNil, mCons, mTup, mLst, mChain, mIter_ap, mIsi_ap, mRng1, mRng2, mLc, mYes, mCell, mRel, mSl, oNo, oSome,
  gN, gT, gsCons, gsNil, frz_d, frz_l, frz_k, gIx_p, onSet_p, onQ_p, onL_p, gLen_p, onIns_p, put_put, atD_0, atD_1, atD_2, atD_3, atD_4, ixN_0, ixN_1, ixN_2, ixN_3, ixN_4, List.length_cons, List.length_nil, onBl_b, onInt_i, onTup_t, on1_1, on2_2, onQ_l, onQ_t, onQ_s, onL_l, onLs_l, onLs_s, onD_d, onOpt_s, gII, gB, gAdd_i, gAdd_s, gAdd_t, gAdd_l, gMul_i, gMul_l, gMul_t, gSub, gMod, gDiv, gPow, gNeg, gIx_l, gIx_t, gIx_s, gLen_l, gLen_t, gLen_s, gLen_d, iterD_t, iterD_l, iterD_s,
  kind_i, kind_b, kind_s, kind_n, kind_t, kind_l, gIsN, isNon, gTuple, gList, gAll, gAny, gSum, gMin, gMax, gMin2, gMax2, gAbs, gInt, gSorted,
  List.getElem?_cons_zero, List.getElem?_cons_succ, List.getElem?_nil, List.set_cons_zero, List.set_cons_succ, List.cons_append, List.nil_append, List.append_nil, wipeE, List.any_cons, List.any_nil, isK, Bool.or_false, Bool.false_or, Bool.or_true, Bool.true_or, Bool.not_true, Bool.not_false, if_true, if_false, Bool.false_eq_true, true_and, and_true, decide_eq_true_eq, id, reduceCtorEq, gEq_i, gNe_i, gEq_b, gNe_b, gEq_li, gNe_li, gEq_l0, gNe_l0, gEq_00, gNe_00, gEq_ti, gNe_ti, mEnum, Nat.zero_add, Nat.reduceAdd, Int.reduceEq, Int.cast_ofNat_Int, Nat.zero_le, sz1, sz2, sz3, sz4, sz5, sz6, decide_true, decide_false, sAugI, mPopAt, mApp, mExt, mGet, mDNew, sPar3, sFldAugM, mZip2, mZip3, sRaise0, mMethK, cutD, mLam, q]
        exact kx' _
      · simp only [sSeq, sSet, sSkip, sForget, sFor, sIf, sRet, sRetN, sDrop, sSetI, sAsg, sPar, sFldM, sAug, frzV, valE, mVar, mC, mOp, mUn, mCall, mFun, mMeth, mMake, mFld, mTst, mNotT, mNotV, mAndV, mOrV, mAndT, mOrT, mIte, mNil, mCons, mTup, mLst, mChain, mIter_ap, mIsi_ap, mRng1, mRng2, mLc, mYes, mCell, mRel, mSl, oNo, oSome,
  gN, gT, gsCons, gsNil, frz_d, frz_l, frz_k, gIx_p, onSet_p, onQ_p, onL_p, gLen_p, onIns_p, put_put, atD_0, atD_1, atD_2, atD_3, atD_4, ixN_0, ixN_1, ixN_2, ixN_3, ixN_4, List.length_cons, List.length_nil, onBl_b, onInt_i, onTup_t, on1_1, on2_2, onQ_l, onQ_t, onQ_s, onL_l, onLs_l, onLs_s, onD_d, onOpt_s, gII, gB, gAdd_i, gAdd_s, gAdd_t, gAdd_l, gMul_i, gMul_l, gMul_t, gSub, gMod, gDiv, gPow, gNeg, gIx_l, gIx_t, gIx_s, gLen_l, gLen_t, gLen_s, gLen_d, iterD_t, iterD_l, iterD_s,
  kind_i, kind_b, kind_s, kind_n, kind_t, kind_l, gIsN, isNon, gTuple, gList, gAll, gAny, gSum, gMin, gMax, gMin2, gMax2, gAbs, gInt, gSorted,
  List.getElem?_cons_zero, List.getElem?_cons_succ, List.getElem?_nil, List.set_cons_zero, List.set_cons_succ, List.cons_append, List.nil_append, List.append_nil, wipeE, List.any_cons, List.any_nil, isK, Bool.or_false, Bool.false_or, Bool.or_true, Bool.true_or, Bool.not_true, Bool.not_false, if_true, if_false, Bool.false_eq_true, true_and, and_true, decide_eq_true_eq, id, reduceCtorEq, gEq_i, gNe_i, gEq_b, gNe_b, gEq_li, gNe_li, gEq_l0, gNe_l0, gEq_00, gNe_00, gEq_ti, gNe_ti, mEnum, Nat.zero_add, Nat.reduceAdd, Int.reduceEq, Int.cast_ofNat_Int, Nat.zero_le, sz1, sz2, sz3, sz4, sz5, sz6, decide_true, decide_false, sAugI, mPopAt, mApp, mExt, mGet, mDNew, sPar3, sFldAugM, mZip2, mZip3, sRaise0, mMethK, cutD, mLam, q3]
        obtain ⟨_, e, _, p2⟩ := isNum_int q3
        cases e
        refine ⟨p, rfl, p2, ?_⟩
        simp only [sSeq, sSet, sSkip, sForget, sFor, sIf, sRet, sRetN, sDrop, sSetI, sAsg, sPar, sFldM, sAug, frzV, valE, mVar, mC, mOp, mUn, mCall, mFun, mMeth, mMake, mFld, mTst, mNotT, mNotV, mAndV, mOrV, mAndT, mOrT, mIte, mNil, mCons, mTup, mLst, mChain, mIter_ap, mIsi_ap, mRng1, mRng2, mLc, mYes, mCell, mRel, mSl, oNo, oSome,
  gN, gT, gsCons, gsNil, frz_d, frz_l, frz_k, gIx_p, onSet_p, onQ_p, onL_p, gLen_p, onIns_p, put_put, atD_0, atD_1, atD_2, atD_3, atD_4, ixN_0, ixN_1, ixN_2, ixN_3, ixN_4, List.length_cons, List.length_nil, onBl_b, onInt_i, onTup_t, on1_1, on2_2, onQ_l, onQ_t, onQ_s, onL_l, onLs_l, onLs_s, onD_d, onOpt_s, gII, gB, gAdd_i, gAdd_s, gAdd_t, gAdd_l, gMul_i, gMul_l, gMul_t, gSub, gMod, gDiv, gPow, gNeg, gIx_l, gIx_t, gIx_s, gLen_l, gLen_t, gLen_s, gLen_d, iterD_t, iterD_l, iterD_s,
  kind_i, kind_b, kind_s, kind_n, kind_t, kind_l, gIsN, isNon, gTuple, gList, gAll, gAny, gSum, gMin, gMax, gMin2, gMax2, gAbs, gInt, gSorted,
  List.getElem?_cons_zero, List.getElem?_cons_succ, List.getElem?_nil, List.set_cons_zero, List.set_cons_succ, List.cons_append, List.nil_append, List.append_nil, wipeE, List.any_cons, List.any_nil, isK, Bool.or_false, Bool.false_or, Bool.or_true, Bool.true_or, Bool.not_true, Bool.not_false, if_true, if_false, Bool.false_eq_true, true_and, and_true, decide_eq_true_eq, id, reduceCtorEq, gEq_i, gNe_i, gEq_b, gNe_b, gEq_li, gNe_li, gEq_l0, gNe_l0, gEq_00, gNe_00, gEq_ti, gNe_ti, mEnum, Nat.zero_add, Nat.reduceAdd, Int.reduceEq, Int.cast_ofNat_Int, Nat.zero_le, sz1, sz2, sz3, sz4, sz5, sz6, decide_true, decide_false, sAugI, mPopAt, mApp, mExt, mGet, mDNew, sPar3, sFldAugM, mZip2, mZip3, sRaise0, mMethK, cutD, mLam, q]
        exact kx' _
theorem rd_line_row {a : Ad} (ds : List D) (h : MH) (Kn : RV → MH → Prop) (Kx : XKm) (q : sp_line_row a ds h Kn Kx) : t_line_row a (bodyN Kn Kx) (startE ["keys", "wide", "prime", "times", "more", "key"] ds) h := by
  obtain ⟨k, w, p, t, m, rfl, ok, t0, t1, m0, m1, q⟩ := q
  show t_line_row a (bodyN Kn Kx) [some (.int k), some (.int w), some (.int p), some (.int t), some (.int m), none] h
  have big := line_big
  have k1 := ok.k1
  have k2 := ok.k2
  have w1 := ok.w1
  have pk := ok.pk
  unfold t_line_row
  simp only [sSeq, sSet, sSkip, sForget, sFor, sIf, sRet, sRetN, sDrop, sSetI, sAsg, sPar, sFldM, sAug, frzV, valE, mVar, mC, mOp, mUn, mCall, mFun, mMeth, mMake, mFld, mTst, mNotT, mNotV, mAndV, mOrV, mAndT, mOrT, mIte, mNil, mCons, mTup, mLst, mChain, mIter_ap, mIsi_ap, mRng1, mRng2, mLc, mYes, mCell, mRel, mSl, oNo, oSome,
  gN, gT, gsCons, gsNil, frz_d, frz_l, frz_k, gIx_p, onSet_p, onQ_p, onL_p, gLen_p, onIns_p, put_put, atD_0, atD_1, atD_2, atD_3, atD_4, ixN_0, ixN_1, ixN_2, ixN_3, ixN_4, List.length_cons, List.length_nil, onBl_b, onInt_i, onTup_t, on1_1, on2_2, onQ_l, onQ_t, onQ_s, onL_l, onLs_l, onLs_s, onD_d, onOpt_s, gII, gB, gAdd_i, gAdd_s, gAdd_t, gAdd_l, gMul_i, gMul_l, gMul_t, gSub, gMod, gDiv, gPow, gNeg, gIx_l, gIx_t, gIx_s, gLen_l, gLen_t, gLen_s, gLen_d, iterD_t, iterD_l, iterD_s,
  kind_i, kind_b, kind_s, kind_n, kind_t, kind_l, gIsN, isNon, gTuple, gList, gAll, gAny, gSum, gMin, gMax, gMin2, gMax2, gAbs, gInt, gSorted,
  List.getElem?_cons_zero, List.getElem?_cons_succ, List.getElem?_nil, List.set_cons_zero, List.set_cons_succ, List.cons_append, List.nil_append, List.append_nil, wipeE, List.any_cons, List.any_nil, isK, Bool.or_false, Bool.false_or, Bool.or_true, Bool.true_or, Bool.not_true, Bool.not_false, if_true, if_false, Bool.false_eq_true, true_and, and_true, decide_eq_true_eq, id, reduceCtorEq, gEq_i, gNe_i, gEq_b, gNe_b, gEq_li, gNe_li, gEq_l0, gNe_l0, gEq_00, gNe_00, gEq_ti, gNe_ti, mEnum, Nat.zero_add, Nat.reduceAdd, Int.reduceEq, Int.cast_ofNat_Int, Nat.zero_le, sz1, sz2, sz3, sz4, sz5, sz6, decide_true, decide_false, sAugI, mPopAt, mApp, mExt, mGet, mDNew, sPar3, sFldAugM, mZip2, mZip3, sRaise0, mMethK, cutD, mLam]
  refine ⟨⟨by omega, by omega⟩, ?_⟩
  refine lc_mapA (List.range k.toNat) (fun i : Nat => D.int (0 + (i : Int))) (fun i => .int ((t * (i : Int) + m) % p % w)) (by rw [List.length_range]; omega) ?_ ?_
  · intro i hi acc kc ha q
    simp only [sSeq, sSet, sSkip, sForget, sFor, sIf, sRet, sRetN, sDrop, sSetI, sAsg, sPar, sFldM, sAug, frzV, valE, mVar, mC, mOp, mUn, mCall, mFun, mMeth, mMake, mFld, mTst, mNotT, mNotV, mAndV, mOrV, mAndT, mOrT, mIte, mNil, mCons, mTup, mLst, mChain, mIter_ap, mIsi_ap, mRng1, mRng2, mLc, mYes, mCell, mRel, mSl, oNo, oSome,
  gN, gT, gsCons, gsNil, frz_d, frz_l, frz_k, gIx_p, onSet_p, onQ_p, onL_p, gLen_p, onIns_p, put_put, atD_0, atD_1, atD_2, atD_3, atD_4, ixN_0, ixN_1, ixN_2, ixN_3, ixN_4, List.length_cons, List.length_nil, onBl_b, onInt_i, onTup_t, on1_1, on2_2, onQ_l, onQ_t, onQ_s, onL_l, onLs_l, onLs_s, onD_d, onOpt_s, gII, gB, gAdd_i, gAdd_s, gAdd_t, gAdd_l, gMul_i, gMul_l, gMul_t, gSub, gMod, gDiv, gPow, gNeg, gIx_l, gIx_t, gIx_s, gLen_l, gLen_t, gLen_s, gLen_d, iterD_t, iterD_l, iterD_s,
  kind_i, kind_b, kind_s, kind_n, kind_t, kind_l, gIsN, isNon, gTuple, gList, gAll, gAny, gSum, gMin, gMax, gMin2, gMax2, gAbs, gInt, gSorted,
  List.getElem?_cons_zero, List.getElem?_cons_succ, List.getElem?_nil, List.set_cons_zero, List.set_cons_succ, List.cons_append, List.nil_append, List.append_nil, wipeE, List.any_cons, List.any_nil, isK, Bool.or_false, Bool.false_or, Bool.or_true, Bool.true_or, Bool.not_true, Bool.not_false, if_true, if_false, Bool.false_eq_true, true_and, and_true, decide_eq_true_eq, id, reduceCtorEq, gEq_i, gNe_i, gEq_b, gNe_b, gEq_li, gNe_li, gEq_l0, gNe_l0, gEq_00, gNe_00, gEq_ti, gNe_ti, mEnum, Nat.zero_add, Nat.reduceAdd, Int.reduceEq, Int.cast_ofNat_Int, Nat.zero_le, sz1, sz2, sz3, sz4, sz5, sz6, decide_true, decide_false, sAugI, mPopAt, mApp, mExt, mGet, mDNew, sPar3, sFldAugM, mZip2, mZip3, sRaise0, mMethK, cutD, mLam, Int.zero_add]
    exact ⟨.inl (.inl ⟨by omega, by omega⟩), by omega, by omega, ha, q⟩
  · have e : (List.range k.toNat).map (fun i : Nat => D.int ((t * (i : Int) + m) % p % w)) = (lineI k w p t m).map D.int := by
      rw [lineI, List.map_map]
      rfl
    rw [e]
    exact bodyN_rt0 q
theorem rd_line {a : Ad} (ds : List D) (h : MH) (Kn : RV → MH → Prop) (Kx : XKm) (q : sp_line a ds h Kn Kx) : t_line a (bodyN Kn Kx) (startE ["keys", "wide", "prime", "times", "more"] ds) h := by
  obtain ⟨dk, dw, dp, dt, dm, rfl, kk, kw, kp, kt, km, q⟩ := q
  show t_line a (bodyN Kn Kx) [some dk, some dw, some dp, some dt, some dm] h
  unfold t_line
  have kx' : Kx ⟨a.BadNumber, []⟩ h → ∀ E, (bodyN Kn Kx).xs ⟨a.BadNumber, []⟩ E h := fun kx _ => ⟨h, fun _ _ e => e, kx⟩
  simp only [sSeq, sSet, mTup, mCons, frzV, mOp, mVar, mC, mNil, mLst, mLam, sRet, mLc, mIter, mMeth, mMethK, mMake, mTst, mNotT, sIf, valE, mCall, mFun, mIte]
  simp only [sSeq, sSet, sSkip, sForget, sFor, sIf, sRet, sRetN, sDrop, sSetI, sAsg, sPar, sFldM, sAug, frzV, valE, mVar, mC, mOp, mUn, mCall, mFun, mMeth, mMake, mFld, mTst, mNotT, mNotV, mAndV, mOrV, mAndT, mOrT, mIte, mNil, mCons, mTup, mLst, mChain, mIter_ap, mIsi_ap, mRng1, mRng2, mLc, mYes, mCell, mRel, mSl, oNo, oSome,
  gN, gT, gsCons, gsNil, frz_d, frz_l, frz_k, gIx_p, onSet_p, onQ_p, onL_p, gLen_p, onIns_p, put_put, atD_0, atD_1, atD_2, atD_3, atD_4, ixN_0, ixN_1, ixN_2, ixN_3, ixN_4, List.length_cons, List.length_nil, onBl_b, onInt_i, onTup_t, on1_1, on2_2, onQ_l, onQ_t, onQ_s, onL_l, onLs_l, onLs_s, onD_d, onOpt_s, gII, gB, gAdd_i, gAdd_s, gAdd_t, gAdd_l, gMul_i, gMul_l, gMul_t, gSub, gMod, gDiv, gPow, gNeg, gIx_l, gIx_t, gIx_s, gLen_l, gLen_t, gLen_s, gLen_d, iterD_t, iterD_l, iterD_s,
  kind_i, kind_b, kind_s, kind_n, kind_t, kind_l, gIsN, isNon, gTuple, gList, gAll, gAny, gSum, gMin, gMax, gMin2, gMax2, gAbs, gInt, gSorted,
  List.getElem?_cons_zero, List.getElem?_cons_succ, List.getElem?_nil, List.set_cons_zero, List.set_cons_succ, List.cons_append, List.nil_append, List.append_nil, wipeE, List.any_cons, List.any_nil, isK, Bool.or_false, Bool.false_or, Bool.or_true, Bool.true_or, Bool.not_true, Bool.not_false, if_true, if_false, Bool.false_eq_true, true_and, and_true, decide_eq_true_eq, id, reduceCtorEq, gEq_i, gNe_i, gEq_b, gNe_b, gEq_li, gNe_li, gEq_l0, gNe_l0, gEq_00, gNe_00, gEq_ti, gNe_ti, mEnum, Nat.zero_add, Nat.reduceAdd, Int.reduceEq, Int.cast_ofNat_Int, Nat.zero_le, sz1, sz2, sz3, sz4, sz5, sz6, decide_true, decide_false, sAugI, mPopAt, mApp, mExt, mGet, mDNew, sPar3, sFldAugM, mZip2, mZip3, sRaise0, mMethK, cutD, mLam]
  refine ⟨dk, dw, dp, rfl, kk, kw, kp, ?_⟩
  rcases q with ⟨k, w, p, t, m, rfl, rfl, rfl, rfl, rfl, ok, t1, t2, m1, m2, q⟩ | ⟨q, kx⟩ | ⟨k, w, p, rfl, rfl, rfl, ok, q, kx⟩
  · refine .inl ⟨k, w, p, rfl, rfl, rfl, ok, ?_⟩
    have p2 := ok.p2
    simp only [sSeq, sSet, sSkip, sForget, sFor, sIf, sRet, sRetN, sDrop, sSetI, sAsg, sPar, sFldM, sAug, frzV, valE, mVar, mC, mOp, mUn, mCall, mFun, mMeth, mMake, mFld, mTst, mNotT, mNotV, mAndV, mOrV, mAndT, mOrT, mIte, mNil, mCons, mTup, mLst, mChain, mIter_ap, mIsi_ap, mRng1, mRng2, mLc, mYes, mCell, mRel, mSl, oNo, oSome,
  gN, gT, gsCons, gsNil, frz_d, frz_l, frz_k, gIx_p, onSet_p, onQ_p, onL_p, gLen_p, onIns_p, put_put, atD_0, atD_1, atD_2, atD_3, atD_4, ixN_0, ixN_1, ixN_2, ixN_3, ixN_4, List.length_cons, List.length_nil, onBl_b, onInt_i, onTup_t, on1_1, on2_2, onQ_l, onQ_t, onQ_s, onL_l, onLs_l, onLs_s, onD_d, onOpt_s, gII, gB, gAdd_i, gAdd_s, gAdd_t, gAdd_l, gMul_i, gMul_l, gMul_t, gSub, gMod, gDiv, gPow, gNeg, gIx_l, gIx_t, gIx_s, gLen_l, gLen_t, gLen_s, gLen_d, iterD_t, iterD_l, iterD_s,
  kind_i, kind_b, kind_s, kind_n, kind_t, kind_l, gIsN, isNon, gTuple, gList, gAll, gAny, gSum, gMin, gMax, gMin2, gMax2, gAbs, gInt, gSorted,
  List.getElem?_cons_zero, List.getElem?_cons_succ, List.getElem?_nil, List.set_cons_zero, List.set_cons_succ, List.cons_append, List.nil_append, List.append_nil, wipeE, List.any_cons, List.any_nil, isK, Bool.or_false, Bool.false_or, Bool.or_true, Bool.true_or, Bool.not_true, Bool.not_false, if_true, if_false, Bool.false_eq_true, true_and, and_true, decide_eq_true_eq, id, reduceCtorEq, gEq_i, gNe_i, gEq_b, gNe_b, gEq_li, gNe_li, gEq_l0, gNe_l0, gEq_00, gNe_00, gEq_ti, gNe_ti, mEnum, Nat.zero_add, Nat.reduceAdd, Int.reduceEq, Int.cast_ofNat_Int, Nat.zero_le, sz1, sz2, sz3, sz4, sz5, sz6, decide_true, decide_false, sAugI, mPopAt, mApp, mExt, mGet, mDNew, sPar3, sFldAugM, mZip2, mZip3, sRaise0, mMethK, cutD, mLam]
    refine ⟨_, _, _, rfl, kt, ?_⟩
    simp only [sSeq, sSet, sSkip, sForget, sFor, sIf, sRet, sRetN, sDrop, sSetI, sAsg, sPar, sFldM, sAug, frzV, valE, mVar, mC, mOp, mUn, mCall, mFun, mMeth, mMake, mFld, mTst, mNotT, mNotV, mAndV, mOrV, mAndT, mOrT, mIte, mNil, mCons, mTup, mLst, mChain, mIter_ap, mIsi_ap, mRng1, mRng2, mLc, mYes, mCell, mRel, mSl, oNo, oSome,
  gN, gT, gsCons, gsNil, frz_d, frz_l, frz_k, gIx_p, onSet_p, onQ_p, onL_p, gLen_p, onIns_p, put_put, atD_0, atD_1, atD_2, atD_3, atD_4, ixN_0, ixN_1, ixN_2, ixN_3, ixN_4, List.length_cons, List.length_nil, onBl_b, onInt_i, onTup_t, on1_1, on2_2, onQ_l, onQ_t, onQ_s, onL_l, onLs_l, onLs_s, onD_d, onOpt_s, gII, gB, gAdd_i, gAdd_s, gAdd_t, gAdd_l, gMul_i, gMul_l, gMul_t, gSub, gMod, gDiv, gPow, gNeg, gIx_l, gIx_t, gIx_s, gLen_l, gLen_t, gLen_s, gLen_d, iterD_t, iterD_l, iterD_s,
  kind_i, kind_b, kind_s, kind_n, kind_t, kind_l, gIsN, isNon, gTuple, gList, gAll, gAny, gSum, gMin, gMax, gMin2, gMax2, gAbs, gInt, gSorted,
  List.getElem?_cons_zero, List.getElem?_cons_succ, List.getElem?_nil, List.set_cons_zero, List.set_cons_succ, List.cons_append, List.nil_append, List.append_nil, wipeE, List.any_cons, List.any_nil, isK, Bool.or_false, Bool.false_or, Bool.or_true, Bool.true_or, Bool.not_true, Bool.not_false, if_true, if_false, Bool.false_eq_true, true_and, and_true, decide_eq_true_eq, id, reduceCtorEq, gEq_i, gNe_i, gEq_b, gNe_b, gEq_li, gNe_li, gEq_l0, gNe_l0, gEq_00, gNe_00, gEq_ti, gNe_ti, mEnum, Nat.zero_add, Nat.reduceAdd, Int.reduceEq, Int.cast_ofNat_Int, Nat.zero_le, sz1, sz2, sz3, sz4, sz5, sz6, decide_true, decide_false, sAugI, mPopAt, mApp, mExt, mGet, mDNew, sPar3, sFldAugM, mZip2, mZip3, sRaise0, mMethK, cutD, mLam, num_yes t1 (show t ≤ p - 1 by omega)]
    refine ⟨_, _, _, rfl, km, ?_⟩
    simp only [sSeq, sSet, sSkip, sForget, sFor, sIf, sRet, sRetN, sDrop, sSetI, sAsg, sPar, sFldM, sAug, frzV, valE, mVar, mC, mOp, mUn, mCall, mFun, mMeth, mMake, mFld, mTst, mNotT, mNotV, mAndV, mOrV, mAndT, mOrT, mIte, mNil, mCons, mTup, mLst, mChain, mIter_ap, mIsi_ap, mRng1, mRng2, mLc, mYes, mCell, mRel, mSl, oNo, oSome,
  gN, gT, gsCons, gsNil, frz_d, frz_l, frz_k, gIx_p, onSet_p, onQ_p, onL_p, gLen_p, onIns_p, put_put, atD_0, atD_1, atD_2, atD_3, atD_4, ixN_0, ixN_1, ixN_2, ixN_3, ixN_4, List.length_cons, List.length_nil, onBl_b, onInt_i, onTup_t, on1_1, on2_2, onQ_l, onQ_t, onQ_s, onL_l, onLs_l, onLs_s, onD_d, onOpt_s, gII, gB, gAdd_i, gAdd_s, gAdd_t, gAdd_l, gMul_i, gMul_l, gMul_t, gSub, gMod, gDiv, gPow, gNeg, gIx_l, gIx_t, gIx_s, gLen_l, gLen_t, gLen_s, gLen_d, iterD_t, iterD_l, iterD_s,
  kind_i, kind_b, kind_s, kind_n, kind_t, kind_l, gIsN, isNon, gTuple, gList, gAll, gAny, gSum, gMin, gMax, gMin2, gMax2, gAbs, gInt, gSorted,
  List.getElem?_cons_zero, List.getElem?_cons_succ, List.getElem?_nil, List.set_cons_zero, List.set_cons_succ, List.cons_append, List.nil_append, List.append_nil, wipeE, List.any_cons, List.any_nil, isK, Bool.or_false, Bool.false_or, Bool.or_true, Bool.true_or, Bool.not_true, Bool.not_false, if_true, if_false, Bool.false_eq_true, true_and, and_true, decide_eq_true_eq, id, reduceCtorEq, gEq_i, gNe_i, gEq_b, gNe_b, gEq_li, gNe_li, gEq_l0, gNe_l0, gEq_00, gNe_00, gEq_ti, gNe_ti, mEnum, Nat.zero_add, Nat.reduceAdd, Int.reduceEq, Int.cast_ofNat_Int, Nat.zero_le, sz1, sz2, sz3, sz4, sz5, sz6, decide_true, decide_false, sAugI, mPopAt, mApp, mExt, mGet, mDNew, sPar3, sFldAugM, mZip2, mZip3, sRaise0, mMethK, cutD, mLam, num_yes m1 (show m ≤ p - 1 by omega)]
    refine ⟨k, w, p, t, m, rfl, ok, by omega, by omega, by omega, by omega, ?_⟩
    exact bodyN_rt0 q
  · exact .inr ⟨q, kx' kx []⟩
  · refine .inl ⟨k, w, p, rfl, rfl, rfl, ok, ?_⟩
    simp only [sSeq, sSet, sSkip, sForget, sFor, sIf, sRet, sRetN, sDrop, sSetI, sAsg, sPar, sFldM, sAug, frzV, valE, mVar, mC, mOp, mUn, mCall, mFun, mMeth, mMake, mFld, mTst, mNotT, mNotV, mAndV, mOrV, mAndT, mOrT, mIte, mNil, mCons, mTup, mLst, mChain, mIter_ap, mIsi_ap, mRng1, mRng2, mLc, mYes, mCell, mRel, mSl, oNo, oSome,
  gN, gT, gsCons, gsNil, frz_d, frz_l, frz_k, gIx_p, onSet_p, onQ_p, onL_p, gLen_p, onIns_p, put_put, atD_0, atD_1, atD_2, atD_3, atD_4, ixN_0, ixN_1, ixN_2, ixN_3, ixN_4, List.length_cons, List.length_nil, onBl_b, onInt_i, onTup_t, on1_1, on2_2, onQ_l, onQ_t, onQ_s, onL_l, onLs_l, onLs_s, onD_d, onOpt_s, gII, gB, gAdd_i, gAdd_s, gAdd_t, gAdd_l, gMul_i, gMul_l, gMul_t, gSub, gMod, gDiv, gPow, gNeg, gIx_l, gIx_t, gIx_s, gLen_l, gLen_t, gLen_s, gLen_d, iterD_t, iterD_l, iterD_s,
  kind_i, kind_b, kind_s, kind_n, kind_t, kind_l, gIsN, isNon, gTuple, gList, gAll, gAny, gSum, gMin, gMax, gMin2, gMax2, gAbs, gInt, gSorted,
  List.getElem?_cons_zero, List.getElem?_cons_succ, List.getElem?_nil, List.set_cons_zero, List.set_cons_succ, List.cons_append, List.nil_append, List.append_nil, wipeE, List.any_cons, List.any_nil, isK, Bool.or_false, Bool.false_or, Bool.or_true, Bool.true_or, Bool.not_true, Bool.not_false, if_true, if_false, Bool.false_eq_true, true_and, and_true, decide_eq_true_eq, id, reduceCtorEq, gEq_i, gNe_i, gEq_b, gNe_b, gEq_li, gNe_li, gEq_l0, gNe_l0, gEq_00, gNe_00, gEq_ti, gNe_ti, mEnum, Nat.zero_add, Nat.reduceAdd, Int.reduceEq, Int.cast_ofNat_Int, Nat.zero_le, sz1, sz2, sz3, sz4, sz5, sz6, decide_true, decide_false, sAugI, mPopAt, mApp, mExt, mGet, mDNew, sPar3, sFldAugM, mZip2, mZip3, sRaise0, mMethK, cutD, mLam]
    refine ⟨_, _, _, rfl, kt, ?_⟩
    by_cases c : isNum dt 1 (p - 1) = true
    · rcases q with q | q
      · rw [c] at q
        cases q
      · simp only [sSeq, sSet, sSkip, sForget, sFor, sIf, sRet, sRetN, sDrop, sSetI, sAsg, sPar, sFldM, sAug, frzV, valE, mVar, mC, mOp, mUn, mCall, mFun, mMeth, mMake, mFld, mTst, mNotT, mNotV, mAndV, mOrV, mAndT, mOrT, mIte, mNil, mCons, mTup, mLst, mChain, mIter_ap, mIsi_ap, mRng1, mRng2, mLc, mYes, mCell, mRel, mSl, oNo, oSome,
  gN, gT, gsCons, gsNil, frz_d, frz_l, frz_k, gIx_p, onSet_p, onQ_p, onL_p, gLen_p, onIns_p, put_put, atD_0, atD_1, atD_2, atD_3, atD_4, ixN_0, ixN_1, ixN_2, ixN_3, ixN_4, List.length_cons, List.length_nil, onBl_b, onInt_i, onTup_t, on1_1, on2_2, onQ_l, onQ_t, onQ_s, onL_l, onLs_l, onLs_s, onD_d, onOpt_s, gII, gB, gAdd_i, gAdd_s, gAdd_t, gAdd_l, gMul_i, gMul_l, gMul_t, gSub, gMod, gDiv, gPow, gNeg, gIx_l, gIx_t, gIx_s, gLen_l, gLen_t, gLen_s, gLen_d, iterD_t, iterD_l, iterD_s,
  kind_i, kind_b, kind_s, kind_n, kind_t, kind_l, gIsN, isNon, gTuple, gList, gAll, gAny, gSum, gMin, gMax, gMin2, gMax2, gAbs, gInt, gSorted,
  List.getElem?_cons_zero, List.getElem?_cons_succ, List.getElem?_nil, List.set_cons_zero, List.set_cons_succ, List.cons_append, List.nil_append, List.append_nil, wipeE, List.any_cons, List.any_nil, isK, Bool.or_false, Bool.false_or, Bool.or_true, Bool.true_or, Bool.not_true, Bool.not_false, if_true, if_false, Bool.false_eq_true, true_and, and_true, decide_eq_true_eq, id, reduceCtorEq, gEq_i, gNe_i, gEq_b, gNe_b, gEq_li, gNe_li, gEq_l0, gNe_l0, gEq_00, gNe_00, gEq_ti, gNe_ti, mEnum, Nat.zero_add, Nat.reduceAdd, Int.reduceEq, Int.cast_ofNat_Int, Nat.zero_le, sz1, sz2, sz3, sz4, sz5, sz6, decide_true, decide_false, sAugI, mPopAt, mApp, mExt, mGet, mDNew, sPar3, sFldAugM, mZip2, mZip3, sRaise0, mMethK, cutD, mLam, c]
        refine ⟨_, _, _, rfl, km, ?_⟩
        simp only [sSeq, sSet, sSkip, sForget, sFor, sIf, sRet, sRetN, sDrop, sSetI, sAsg, sPar, sFldM, sAug, frzV, valE, mVar, mC, mOp, mUn, mCall, mFun, mMeth, mMake, mFld, mTst, mNotT, mNotV, mAndV, mOrV, mAndT, mOrT, mIte, mNil, mCons, mTup, mLst, mChain, mIter_ap, mIsi_ap, mRng1, mRng2, mLc, mYes, mCell, mRel, mSl, oNo, oSome,
  gN, gT, gsCons, gsNil, frz_d, frz_l, frz_k, gIx_p, onSet_p, onQ_p, onL_p, gLen_p, onIns_p, put_put, atD_0, atD_1, atD_2, atD_3, atD_4, ixN_0, ixN_1, ixN_2, ixN_3, ixN_4, List.length_cons, List.length_nil, onBl_b, onInt_i, onTup_t, on1_1, on2_2, onQ_l, onQ_t, onQ_s, onL_l, onLs_l, onLs_s, onD_d, onOpt_s, gII, gB, gAdd_i, gAdd_s, gAdd_t, gAdd_l, gMul_i, gMul_l, gMul_t, gSub, gMod, gDiv, gPow, gNeg, gIx_l, gIx_t, gIx_s, gLen_l, gLen_t, gLen_s, gLen_d, iterD_t, iterD_l, iterD_s,
  kind_i, kind_b, kind_s, kind_n, kind_t, kind_l, gIsN, isNon, gTuple, gList, gAll, gAny, gSum, gMin, gMax, gMin2, gMax2, gAbs, gInt, gSorted,
  List.getElem?_cons_zero, List.getElem?_cons_succ, List.getElem?_nil, List.set_cons_zero, List.set_cons_succ, List.cons_append, List.nil_append, List.append_nil, wipeE, List.any_cons, List.any_nil, isK, Bool.or_false, Bool.false_or, Bool.or_true, Bool.true_or, Bool.not_true, Bool.not_false, if_true, if_false, Bool.false_eq_true, true_and, and_true, decide_eq_true_eq, id, reduceCtorEq, gEq_i, gNe_i, gEq_b, gNe_b, gEq_li, gNe_li, gEq_l0, gNe_l0, gEq_00, gNe_00, gEq_ti, gNe_ti, mEnum, Nat.zero_add, Nat.reduceAdd, Int.reduceEq, Int.cast_ofNat_Int, Nat.zero_le, sz1, sz2, sz3, sz4, sz5, sz6, decide_true, decide_false, sAugI, mPopAt, mApp, mExt, mGet, mDNew, sPar3, sFldAugM, mZip2, mZip3, sRaise0, mMethK, cutD, mLam, q]
        exact kx' kx _
    · have c : isNum dt 1 (p - 1) = false := by simpa using c
      simp only [sSeq, sSet, sSkip, sForget, sFor, sIf, sRet, sRetN, sDrop, sSetI, sAsg, sPar, sFldM, sAug, frzV, valE, mVar, mC, mOp, mUn, mCall, mFun, mMeth, mMake, mFld, mTst, mNotT, mNotV, mAndV, mOrV, mAndT, mOrT, mIte, mNil, mCons, mTup, mLst, mChain, mIter_ap, mIsi_ap, mRng1, mRng2, mLc, mYes, mCell, mRel, mSl, oNo, oSome,
  gN, gT, gsCons, gsNil, frz_d, frz_l, frz_k, gIx_p, onSet_p, onQ_p, onL_p, gLen_p, onIns_p, put_put, atD_0, atD_1, atD_2, atD_3, atD_4, ixN_0, ixN_1, ixN_2, ixN_3, ixN_4, List.length_cons, List.length_nil, onBl_b, onInt_i, onTup_t, on1_1, on2_2, onQ_l, onQ_t, onQ_s, onL_l, onLs_l, onLs_s, onD_d, onOpt_s, gII, gB, gAdd_i, gAdd_s, gAdd_t, gAdd_l, gMul_i, gMul_l, gMul_t, gSub, gMod, gDiv, gPow, gNeg, gIx_l, gIx_t, gIx_s, gLen_l, gLen_t, gLen_s, gLen_d, iterD_t, iterD_l, iterD_s,
  kind_i, kind_b, kind_s, kind_n, kind_t, kind_l, gIsN, isNon, gTuple, gList, gAll, gAny, gSum, gMin, gMax, gMin2, gMax2, gAbs, gInt, gSorted,
  List.getElem?_cons_zero, List.getElem?_cons_succ, List.getElem?_nil, List.set_cons_zero, List.set_cons_succ, List.cons_append, List.nil_append, List.append_nil, wipeE, List.any_cons, List.any_nil, isK, Bool.or_false, Bool.false_or, Bool.or_true, Bool.true_or, Bool.not_true, Bool.not_false, if_true, if_false, Bool.false_eq_true, true_and, and_true, decide_eq_true_eq, id, reduceCtorEq, gEq_i, gNe_i, gEq_b, gNe_b, gEq_li, gNe_li, gEq_l0, gNe_l0, gEq_00, gNe_00, gEq_ti, gNe_ti, mEnum, Nat.zero_add, Nat.reduceAdd, Int.reduceEq, Int.cast_ofNat_Int, Nat.zero_le, sz1, sz2, sz3, sz4, sz5, sz6, decide_true, decide_false, sAugI, mPopAt, mApp, mExt, mGet, mDNew, sPar3, sFldAugM, mZip2, mZip3, sRaise0, mMethK, cutD, mLam, c]
      exact kx' kx _
end M3
set_option Elab.async false
set_option linter.all false
set_option maxRecDepth 100000
set_option maxHeartbeats 4000000
namespace M3
open PySem PySem.Spec PyProof.Rows L2
theorem map_getD {α : Type} {f : α → D} {xs : List α} {i : Nat} {d : D} (h : (xs.map f)[i]? = some d) : ∃ x, xs[i]? = some x ∧ d = f x := by
  rw [List.getElem?_map] at h
  cases e : xs[i]? with
  | none => rw [e] at h; cases h
  | some x => rw [e] at h; exact ⟨x, rfl, (Option.some.inj h).symm⟩
theorem rd_divisor {a : Ad} (ds : List D) (h : MH) (Kn : RV → MH → Prop) (Kx : XKm) (q : sp_divisor a ds h Kn Kx) : t_divisor a (bodyN Kn Kx) (startE ["one", "other"] ds) h := by
  obtain ⟨x, y, rfl, q⟩ := q
  show t_divisor a (bodyN Kn Kx) [some (.int x), some (.int y)] h
  unfold t_divisor
  simp only [sSeq, sForget, sWhile]
  refine ⟨y + 1, ?_⟩
  have key : ∀ (n x y : Nat), y ≤ n → ∀ N : Nd, N.nx [some (.int (Nat.gcd x y : Nat)), some (.int ((0 : Nat) : Int))] h → whileN (mTst (frzV (mOp gNe (mVar 1) (mC (.int 0))))) (sPar 0 1 (mCons (mVar 1) (mCons (frzV (mOp gMod (mVar 0) (mVar 1))) mNil))) (n + 1) N [some (.int x), some (.int y)] h := by
    intro n
    induction n with
    | zero =>
      intro x y hy N k
      obtain rfl : y = 0 := by omega
      unfold whileN
      simp only [sSeq, sSet, sSkip, sForget, sFor, sIf, sRet, sRetN, sDrop, sSetI, sAsg, sPar, sFldM, sAug, frzV, valE, mVar, mC, mOp, mUn, mCall, mFun, mMeth, mMake, mFld, mTst, mNotT, mNotV, mAndV, mOrV, mAndT, mOrT, mIte, mNil, mCons, mTup, mLst, mChain, mIter_ap, mIsi_ap, mRng1, mRng2, mLc, mYes, mCell, mRel, mSl, oNo, oSome,
  gN, gT, gsCons, gsNil, frz_d, frz_l, frz_k, gIx_p, onSet_p, onQ_p, onL_p, gLen_p, onIns_p, put_put, atD_0, atD_1, atD_2, atD_3, atD_4, ixN_0, ixN_1, ixN_2, ixN_3, ixN_4, List.length_cons, List.length_nil, onBl_b, onInt_i, onTup_t, on1_1, on2_2, onQ_l, onQ_t, onQ_s, onL_l, onLs_l, onLs_s, onD_d, onOpt_s, gII, gB, gAdd_i, gAdd_s, gAdd_t, gAdd_l, gMul_i, gMul_l, gMul_t, gSub, gMod, gDiv, gPow, gNeg, gIx_l, gIx_t, gIx_s, gLen_l, gLen_t, gLen_s, gLen_d, iterD_t, iterD_l, iterD_s,
  kind_i, kind_b, kind_s, kind_n, kind_t, kind_l, gIsN, isNon, gTuple, gList, gAll, gAny, gSum, gMin, gMax, gMin2, gMax2, gAbs, gInt, gSorted,
  List.getElem?_cons_zero, List.getElem?_cons_succ, List.getElem?_nil, List.set_cons_zero, List.set_cons_succ, List.cons_append, List.nil_append, List.append_nil, wipeE, List.any_cons, List.any_nil, isK, Bool.or_false, Bool.false_or, Bool.or_true, Bool.true_or, Bool.not_true, Bool.not_false, if_true, if_false, Bool.false_eq_true, true_and, and_true, decide_eq_true_eq, id, reduceCtorEq, gEq_i, gNe_i, gEq_b, gNe_b, gEq_li, gNe_li, gEq_l0, gNe_l0, gEq_00, gNe_00, gEq_ti, gNe_ti, mEnum, Nat.zero_add, Nat.reduceAdd, Int.reduceEq, Int.cast_ofNat_Int, Nat.zero_le, sz1, sz2, sz3, sz4, sz5, sz6, decide_true, decide_false, sAugI, mPopAt, mApp, mExt, mGet, mDNew, sPar3, sFldAugM, mZip2, mZip3, sRaise0, mMethK, cutD, mLam, gNe_i]
      rw [Nat.gcd_zero_right] at k
      exact k
    | succ n ih =>
      intro x y hy N k
      unfold whileN
      by_cases c : y = 0
      · subst c
        simp only [sSeq, sSet, sSkip, sForget, sFor, sIf, sRet, sRetN, sDrop, sSetI, sAsg, sPar, sFldM, sAug, frzV, valE, mVar, mC, mOp, mUn, mCall, mFun, mMeth, mMake, mFld, mTst, mNotT, mNotV, mAndV, mOrV, mAndT, mOrT, mIte, mNil, mCons, mTup, mLst, mChain, mIter_ap, mIsi_ap, mRng1, mRng2, mLc, mYes, mCell, mRel, mSl, oNo, oSome,
  gN, gT, gsCons, gsNil, frz_d, frz_l, frz_k, gIx_p, onSet_p, onQ_p, onL_p, gLen_p, onIns_p, put_put, atD_0, atD_1, atD_2, atD_3, atD_4, ixN_0, ixN_1, ixN_2, ixN_3, ixN_4, List.length_cons, List.length_nil, onBl_b, onInt_i, onTup_t, on1_1, on2_2, onQ_l, onQ_t, onQ_s, onL_l, onLs_l, onLs_s, onD_d, onOpt_s, gII, gB, gAdd_i, gAdd_s, gAdd_t, gAdd_l, gMul_i, gMul_l, gMul_t, gSub, gMod, gDiv, gPow, gNeg, gIx_l, gIx_t, gIx_s, gLen_l, gLen_t, gLen_s, gLen_d, iterD_t, iterD_l, iterD_s,
  kind_i, kind_b, kind_s, kind_n, kind_t, kind_l, gIsN, isNon, gTuple, gList, gAll, gAny, gSum, gMin, gMax, gMin2, gMax2, gAbs, gInt, gSorted,
  List.getElem?_cons_zero, List.getElem?_cons_succ, List.getElem?_nil, List.set_cons_zero, List.set_cons_succ, List.cons_append, List.nil_append, List.append_nil, wipeE, List.any_cons, List.any_nil, isK, Bool.or_false, Bool.false_or, Bool.or_true, Bool.true_or, Bool.not_true, Bool.not_false, if_true, if_false, Bool.false_eq_true, true_and, and_true, decide_eq_true_eq, id, reduceCtorEq, gEq_i, gNe_i, gEq_b, gNe_b, gEq_li, gNe_li, gEq_l0, gNe_l0, gEq_00, gNe_00, gEq_ti, gNe_ti, mEnum, Nat.zero_add, Nat.reduceAdd, Int.reduceEq, Int.cast_ofNat_Int, Nat.zero_le, sz1, sz2, sz3, sz4, sz5, sz6, decide_true, decide_false, sAugI, mPopAt, mApp, mExt, mGet, mDNew, sPar3, sFldAugM, mZip2, mZip3, sRaise0, mMethK, cutD, mLam, gNe_i]
        rw [Nat.gcd_zero_right] at k
        exact k
      · have c2 : ¬ ((y : Int) = 0) := by omega
        simp only [sSeq, sSet, sSkip, sForget, sFor, sIf, sRet, sRetN, sDrop, sSetI, sAsg, sPar, sFldM, sAug, frzV, valE, mVar, mC, mOp, mUn, mCall, mFun, mMeth, mMake, mFld, mTst, mNotT, mNotV, mAndV, mOrV, mAndT, mOrT, mIte, mNil, mCons, mTup, mLst, mChain, mIter_ap, mIsi_ap, mRng1, mRng2, mLc, mYes, mCell, mRel, mSl, oNo, oSome,
  gN, gT, gsCons, gsNil, frz_d, frz_l, frz_k, gIx_p, onSet_p, onQ_p, onL_p, gLen_p, onIns_p, put_put, atD_0, atD_1, atD_2, atD_3, atD_4, ixN_0, ixN_1, ixN_2, ixN_3, ixN_4, List.length_cons, List.length_nil, onBl_b, onInt_i, onTup_t, on1_1, on2_2, onQ_l, onQ_t, onQ_s, onL_l, onLs_l, onLs_s, onD_d, onOpt_s, gII, gB, gAdd_i, gAdd_s, gAdd_t, gAdd_l, gMul_i, gMul_l, gMul_t, gSub, gMod, gDiv, gPow, gNeg, gIx_l, gIx_t, gIx_s, gLen_l, gLen_t, gLen_s, gLen_d, iterD_t, iterD_l, iterD_s,
  kind_i, kind_b, kind_s, kind_n, kind_t, kind_l, gIsN, isNon, gTuple, gList, gAll, gAny, gSum, gMin, gMax, gMin2, gMax2, gAbs, gInt, gSorted,
  List.getElem?_cons_zero, List.getElem?_cons_succ, List.getElem?_nil, List.set_cons_zero, List.set_cons_succ, List.cons_append, List.nil_append, List.append_nil, wipeE, List.any_cons, List.any_nil, isK, Bool.or_false, Bool.false_or, Bool.or_true, Bool.true_or, Bool.not_true, Bool.not_false, if_true, if_false, Bool.false_eq_true, true_and, and_true, decide_eq_true_eq, id, reduceCtorEq, gEq_i, gNe_i, gEq_b, gNe_b, gEq_li, gNe_li, gEq_l0, gNe_l0, gEq_00, gNe_00, gEq_ti, gNe_ti, mEnum, Nat.zero_add, Nat.reduceAdd, Int.reduceEq, Int.cast_ofNat_Int, Nat.zero_le, sz1, sz2, sz3, sz4, sz5, sz6, decide_true, decide_false, sAugI, mPopAt, mApp, mExt, mGet, mDNew, sPar3, sFldAugM, mZip2, mZip3, sRaise0, mMethK, cutD, mLam, gNe_i, c2]
        refine ⟨by omega, ?_⟩
        have e : ((x : Int) % (y : Int)) = ((x % y : Nat) : Int) := by simp
        rw [e]
        refine ih y (x % y) (by have := Nat.mod_lt x (Nat.pos_of_ne_zero c); omega) _ ?_
        have g : Nat.gcd y (x % y) = Nat.gcd x y := by rw [Nat.gcd_comm, ← Nat.gcd_rec, Nat.gcd_comm]
        rw [g]
        exact k
  refine key y x y (Nat.le_refl _) _ ?_
  simp only [sSeq, sSet, sSkip, sForget, sFor, sIf, sRet, sRetN, sDrop, sSetI, sAsg, sPar, sFldM, sAug, frzV, valE, mVar, mC, mOp, mUn, mCall, mFun, mMeth, mMake, mFld, mTst, mNotT, mNotV, mAndV, mOrV, mAndT, mOrT, mIte, mNil, mCons, mTup, mLst, mChain, mIter_ap, mIsi_ap, mRng1, mRng2, mLc, mYes, mCell, mRel, mSl, oNo, oSome,
  gN, gT, gsCons, gsNil, frz_d, frz_l, frz_k, gIx_p, onSet_p, onQ_p, onL_p, gLen_p, onIns_p, put_put, atD_0, atD_1, atD_2, atD_3, atD_4, ixN_0, ixN_1, ixN_2, ixN_3, ixN_4, List.length_cons, List.length_nil, onBl_b, onInt_i, onTup_t, on1_1, on2_2, onQ_l, onQ_t, onQ_s, onL_l, onLs_l, onLs_s, onD_d, onOpt_s, gII, gB, gAdd_i, gAdd_s, gAdd_t, gAdd_l, gMul_i, gMul_l, gMul_t, gSub, gMod, gDiv, gPow, gNeg, gIx_l, gIx_t, gIx_s, gLen_l, gLen_t, gLen_s, gLen_d, iterD_t, iterD_l, iterD_s,
  kind_i, kind_b, kind_s, kind_n, kind_t, kind_l, gIsN, isNon, gTuple, gList, gAll, gAny, gSum, gMin, gMax, gMin2, gMax2, gAbs, gInt, gSorted,
  List.getElem?_cons_zero, List.getElem?_cons_succ, List.getElem?_nil, List.set_cons_zero, List.set_cons_succ, List.cons_append, List.nil_append, List.append_nil, wipeE, List.any_cons, List.any_nil, isK, Bool.or_false, Bool.false_or, Bool.or_true, Bool.true_or, Bool.not_true, Bool.not_false, if_true, if_false, Bool.false_eq_true, true_and, and_true, decide_eq_true_eq, id, reduceCtorEq, gEq_i, gNe_i, gEq_b, gNe_b, gEq_li, gNe_li, gEq_l0, gNe_l0, gEq_00, gNe_00, gEq_ti, gNe_ti, mEnum, Nat.zero_add, Nat.reduceAdd, Int.reduceEq, Int.cast_ofNat_Int, Nat.zero_le, sz1, sz2, sz3, sz4, sz5, sz6, decide_true, decide_false, sAugI, mPopAt, mApp, mExt, mGet, mDNew, sPar3, sFldAugM, mZip2, mZip3, sRaise0, mMethK, cutD, mLam]
  exact bodyN_rt0 q
theorem rd_law_gcd {a : Ad} (ds : List D) (h : MH) (Kn : RV → MH → Prop) (Kx : XKm) (q : sp_law_gcd a ds h Kn Kx) : t_law_gcd a (bodyN Kn Kx) (startE ["_law_one", "_law_other"] ds) h := by
  obtain ⟨x, y, rfl, q⟩ := q
  show t_law_gcd a (bodyN Kn Kx) [some (.int x), some (.int y)] h
  unfold t_law_gcd
  simp only [sSeq, sForget, sWhile]
  refine ⟨y + 1, ?_⟩
  have key : ∀ (n x y : Nat), y ≤ n → ∀ N : Nd, N.nx [some (.int (Nat.gcd x y : Nat)), some (.int ((0 : Nat) : Int))] h → whileN (mTst (frzV (mOp (gB fun i j => decide (j < i)) (mVar 1) (mC (.int 0))))) (sPar 0 1 (mCons (mVar 1) (mCons (frzV (mOp gMod (mVar 0) (mVar 1))) mNil))) (n + 1) N [some (.int x), some (.int y)] h := by
    intro n
    induction n with
    | zero =>
      intro x y hy N k
      obtain rfl : y = 0 := by omega
      unfold whileN
      have c2 : ¬ ((0 : Int) < ((0 : Nat) : Int)) := by decide
      simp only [sSeq, sSet, sSkip, sForget, sFor, sIf, sRet, sRetN, sDrop, sSetI, sAsg, sPar, sFldM, sAug, frzV, valE, mVar, mC, mOp, mUn, mCall, mFun, mMeth, mMake, mFld, mTst, mNotT, mNotV, mAndV, mOrV, mAndT, mOrT, mIte, mNil, mCons, mTup, mLst, mChain, mIter_ap, mIsi_ap, mRng1, mRng2, mLc, mYes, mCell, mRel, mSl, oNo, oSome,
  gN, gT, gsCons, gsNil, frz_d, frz_l, frz_k, gIx_p, onSet_p, onQ_p, onL_p, gLen_p, onIns_p, put_put, atD_0, atD_1, atD_2, atD_3, atD_4, ixN_0, ixN_1, ixN_2, ixN_3, ixN_4, List.length_cons, List.length_nil, onBl_b, onInt_i, onTup_t, on1_1, on2_2, onQ_l, onQ_t, onQ_s, onL_l, onLs_l, onLs_s, onD_d, onOpt_s, gII, gB, gAdd_i, gAdd_s, gAdd_t, gAdd_l, gMul_i, gMul_l, gMul_t, gSub, gMod, gDiv, gPow, gNeg, gIx_l, gIx_t, gIx_s, gLen_l, gLen_t, gLen_s, gLen_d, iterD_t, iterD_l, iterD_s,
  kind_i, kind_b, kind_s, kind_n, kind_t, kind_l, gIsN, isNon, gTuple, gList, gAll, gAny, gSum, gMin, gMax, gMin2, gMax2, gAbs, gInt, gSorted,
  List.getElem?_cons_zero, List.getElem?_cons_succ, List.getElem?_nil, List.set_cons_zero, List.set_cons_succ, List.cons_append, List.nil_append, List.append_nil, wipeE, List.any_cons, List.any_nil, isK, Bool.or_false, Bool.false_or, Bool.or_true, Bool.true_or, Bool.not_true, Bool.not_false, if_true, if_false, Bool.false_eq_true, true_and, and_true, decide_eq_true_eq, id, reduceCtorEq, gEq_i, gNe_i, gEq_b, gNe_b, gEq_li, gNe_li, gEq_l0, gNe_l0, gEq_00, gNe_00, gEq_ti, gNe_ti, mEnum, Nat.zero_add, Nat.reduceAdd, Int.reduceEq, Int.cast_ofNat_Int, Nat.zero_le, sz1, sz2, sz3, sz4, sz5, sz6, decide_true, decide_false, sAugI, mPopAt, mApp, mExt, mGet, mDNew, sPar3, sFldAugM, mZip2, mZip3, sRaise0, mMethK, cutD, mLam, c2]
      rw [Nat.gcd_zero_right] at k
      exact k
    | succ n ih =>
      intro x y hy N k
      unfold whileN
      by_cases c : y = 0
      · subst c
        have c2 : ¬ ((0 : Int) < ((0 : Nat) : Int)) := by decide
        simp only [sSeq, sSet, sSkip, sForget, sFor, sIf, sRet, sRetN, sDrop, sSetI, sAsg, sPar, sFldM, sAug, frzV, valE, mVar, mC, mOp, mUn, mCall, mFun, mMeth, mMake, mFld, mTst, mNotT, mNotV, mAndV, mOrV, mAndT, mOrT, mIte, mNil, mCons, mTup, mLst, mChain, mIter_ap, mIsi_ap, mRng1, mRng2, mLc, mYes, mCell, mRel, mSl, oNo, oSome,
  gN, gT, gsCons, gsNil, frz_d, frz_l, frz_k, gIx_p, onSet_p, onQ_p, onL_p, gLen_p, onIns_p, put_put, atD_0, atD_1, atD_2, atD_3, atD_4, ixN_0, ixN_1, ixN_2, ixN_3, ixN_4, List.length_cons, List.length_nil, onBl_b, onInt_i, onTup_t, on1_1, on2_2, onQ_l, onQ_t, onQ_s, onL_l, onLs_l, onLs_s, onD_d, onOpt_s, gII, gB, gAdd_i, gAdd_s, gAdd_t, gAdd_l, gMul_i, gMul_l, gMul_t, gSub, gMod, gDiv, gPow, gNeg, gIx_l, gIx_t, gIx_s, gLen_l, gLen_t, gLen_s, gLen_d, iterD_t, iterD_l, iterD_s,
  kind_i, kind_b, kind_s, kind_n, kind_t, kind_l, gIsN, isNon, gTuple, gList, gAll, gAny, gSum, gMin, gMax, gMin2, gMax2, gAbs, gInt, gSorted,
  List.getElem?_cons_zero, List.getElem?_cons_succ, List.getElem?_nil, List.set_cons_zero, List.set_cons_succ, List.cons_append, List.nil_append, List.append_nil, wipeE, List.any_cons, List.any_nil, isK, Bool.or_false, Bool.false_or, Bool.or_true, Bool.true_or, Bool.not_true, Bool.not_false, if_true, if_false, Bool.false_eq_true, true_and, and_true, decide_eq_true_eq, id, reduceCtorEq, gEq_i, gNe_i, gEq_b, gNe_b, gEq_li, gNe_li, gEq_l0, gNe_l0, gEq_00, gNe_00, gEq_ti, gNe_ti, mEnum, Nat.zero_add, Nat.reduceAdd, Int.reduceEq, Int.cast_ofNat_Int, Nat.zero_le, sz1, sz2, sz3, sz4, sz5, sz6, decide_true, decide_false, sAugI, mPopAt, mApp, mExt, mGet, mDNew, sPar3, sFldAugM, mZip2, mZip3, sRaise0, mMethK, cutD, mLam, c2]
        rw [Nat.gcd_zero_right] at k
        exact k
      · have c2 : (0 : Int) < (y : Int) := by omega
        simp only [sSeq, sSet, sSkip, sForget, sFor, sIf, sRet, sRetN, sDrop, sSetI, sAsg, sPar, sFldM, sAug, frzV, valE, mVar, mC, mOp, mUn, mCall, mFun, mMeth, mMake, mFld, mTst, mNotT, mNotV, mAndV, mOrV, mAndT, mOrT, mIte, mNil, mCons, mTup, mLst, mChain, mIter_ap, mIsi_ap, mRng1, mRng2, mLc, mYes, mCell, mRel, mSl, oNo, oSome,
  gN, gT, gsCons, gsNil, frz_d, frz_l, frz_k, gIx_p, onSet_p, onQ_p, onL_p, gLen_p, onIns_p, put_put, atD_0, atD_1, atD_2, atD_3, atD_4, ixN_0, ixN_1, ixN_2, ixN_3, ixN_4, List.length_cons, List.length_nil, onBl_b, onInt_i, onTup_t, on1_1, on2_2, onQ_l, onQ_t, onQ_s, onL_l, onLs_l, onLs_s, onD_d, onOpt_s, gII, gB, gAdd_i, gAdd_s, gAdd_t, gAdd_l, gMul_i, gMul_l, gMul_t, gSub, gMod, gDiv, gPow, gNeg, gIx_l, gIx_t, gIx_s, gLen_l, gLen_t, gLen_s, gLen_d, iterD_t, iterD_l, iterD_s,
  kind_i, kind_b, kind_s, kind_n, kind_t, kind_l, gIsN, isNon, gTuple, gList, gAll, gAny, gSum, gMin, gMax, gMin2, gMax2, gAbs, gInt, gSorted,
  List.getElem?_cons_zero, List.getElem?_cons_succ, List.getElem?_nil, List.set_cons_zero, List.set_cons_succ, List.cons_append, List.nil_append, List.append_nil, wipeE, List.any_cons, List.any_nil, isK, Bool.or_false, Bool.false_or, Bool.or_true, Bool.true_or, Bool.not_true, Bool.not_false, if_true, if_false, Bool.false_eq_true, true_and, and_true, decide_eq_true_eq, id, reduceCtorEq, gEq_i, gNe_i, gEq_b, gNe_b, gEq_li, gNe_li, gEq_l0, gNe_l0, gEq_00, gNe_00, gEq_ti, gNe_ti, mEnum, Nat.zero_add, Nat.reduceAdd, Int.reduceEq, Int.cast_ofNat_Int, Nat.zero_le, sz1, sz2, sz3, sz4, sz5, sz6, decide_true, decide_false, sAugI, mPopAt, mApp, mExt, mGet, mDNew, sPar3, sFldAugM, mZip2, mZip3, sRaise0, mMethK, cutD, mLam, c2]
        have e : ((x : Int) % (y : Int)) = ((x % y : Nat) : Int) := by simp
        rw [e]
        refine ih y (x % y) (by have := Nat.mod_lt x (Nat.pos_of_ne_zero c); omega) _ ?_
        have g : Nat.gcd y (x % y) = Nat.gcd x y := by rw [Nat.gcd_comm, ← Nat.gcd_rec, Nat.gcd_comm]
        rw [g]
        exact k
  refine key y x y (Nat.le_refl _) _ ?_
  simp only [sSeq, sSet, sSkip, sForget, sFor, sIf, sRet, sRetN, sDrop, sSetI, sAsg, sPar, sFldM, sAug, frzV, valE, mVar, mC, mOp, mUn, mCall, mFun, mMeth, mMake, mFld, mTst, mNotT, mNotV, mAndV, mOrV, mAndT, mOrT, mIte, mNil, mCons, mTup, mLst, mChain, mIter_ap, mIsi_ap, mRng1, mRng2, mLc, mYes, mCell, mRel, mSl, oNo, oSome,
  gN, gT, gsCons, gsNil, frz_d, frz_l, frz_k, gIx_p, onSet_p, onQ_p, onL_p, gLen_p, onIns_p, put_put, atD_0, atD_1, atD_2, atD_3, atD_4, ixN_0, ixN_1, ixN_2, ixN_3, ixN_4, List.length_cons, List.length_nil, onBl_b, onInt_i, onTup_t, on1_1, on2_2, onQ_l, onQ_t, onQ_s, onL_l, onLs_l, onLs_s, onD_d, onOpt_s, gII, gB, gAdd_i, gAdd_s, gAdd_t, gAdd_l, gMul_i, gMul_l, gMul_t, gSub, gMod, gDiv, gPow, gNeg, gIx_l, gIx_t, gIx_s, gLen_l, gLen_t, gLen_s, gLen_d, iterD_t, iterD_l, iterD_s,
  kind_i, kind_b, kind_s, kind_n, kind_t, kind_l, gIsN, isNon, gTuple, gList, gAll, gAny, gSum, gMin, gMax, gMin2, gMax2, gAbs, gInt, gSorted,
  List.getElem?_cons_zero, List.getElem?_cons_succ, List.getElem?_nil, List.set_cons_zero, List.set_cons_succ, List.cons_append, List.nil_append, List.append_nil, wipeE, List.any_cons, List.any_nil, isK, Bool.or_false, Bool.false_or, Bool.or_true, Bool.true_or, Bool.not_true, Bool.not_false, if_true, if_false, Bool.false_eq_true, true_and, and_true, decide_eq_true_eq, id, reduceCtorEq, gEq_i, gNe_i, gEq_b, gNe_b, gEq_li, gNe_li, gEq_l0, gNe_l0, gEq_00, gNe_00, gEq_ti, gNe_ti, mEnum, Nat.zero_add, Nat.reduceAdd, Int.reduceEq, Int.cast_ofNat_Int, Nat.zero_le, sz1, sz2, sz3, sz4, sz5, sz6, decide_true, decide_false, sAugI, mPopAt, mApp, mExt, mGet, mDNew, sPar3, sFldAugM, mZip2, mZip3, sRaise0, mMethK, cutD, mLam]
  exact bodyN_rt0 q
theorem rd_part {a : Ad} (ds : List D) (h : MH) (Kn : RV → MH → Prop) (Kx : XKm) (q : sp_part a ds h Kn Kx) : t_part a (bodyN Kn Kx) (startE ["top", "under", "one"] ds) h := by
  obtain ⟨x, y, rfl, y1, y2, q⟩ := q
  show t_part a (bodyN Kn Kx) [some (.int x), some (.int y), none] h
  unfold t_part
  have c : ¬ ((x : Int) < 0) := by omega
  have g1 : 0 < Nat.gcd x y := Nat.gcd_pos_of_pos_right x y1
  have g2 : Nat.gcd x y ≤ y := Nat.le_of_dvd y1 (Nat.gcd_dvd_right x y)
  have g3 : ((Nat.gcd x y : Nat) : Int).natAbs.log2 < 9000 := log2_lt (by omega) (by omega)
  simp only [sSeq, sSet, sSkip, sForget, sFor, sIf, sRet, sRetN, sDrop, sSetI, sAsg, sPar, sFldM, sAug, frzV, valE, mVar, mC, mOp, mUn, mCall, mFun, mMeth, mMake, mFld, mTst, mNotT, mNotV, mAndV, mOrV, mAndT, mOrT, mIte, mNil, mCons, mTup, mLst, mChain, mIter_ap, mIsi_ap, mRng1, mRng2, mLc, mYes, mCell, mRel, mSl, oNo, oSome,
  gN, gT, gsCons, gsNil, frz_d, frz_l, frz_k, gIx_p, onSet_p, onQ_p, onL_p, gLen_p, onIns_p, put_put, atD_0, atD_1, atD_2, atD_3, atD_4, ixN_0, ixN_1, ixN_2, ixN_3, ixN_4, List.length_cons, List.length_nil, onBl_b, onInt_i, onTup_t, on1_1, on2_2, onQ_l, onQ_t, onQ_s, onL_l, onLs_l, onLs_s, onD_d, onOpt_s, gII, gB, gAdd_i, gAdd_s, gAdd_t, gAdd_l, gMul_i, gMul_l, gMul_t, gSub, gMod, gDiv, gPow, gNeg, gIx_l, gIx_t, gIx_s, gLen_l, gLen_t, gLen_s, gLen_d, iterD_t, iterD_l, iterD_s,
  kind_i, kind_b, kind_s, kind_n, kind_t, kind_l, gIsN, isNon, gTuple, gList, gAll, gAny, gSum, gMin, gMax, gMin2, gMax2, gAbs, gInt, gSorted,
  List.getElem?_cons_zero, List.getElem?_cons_succ, List.getElem?_nil, List.set_cons_zero, List.set_cons_succ, List.cons_append, List.nil_append, List.append_nil, wipeE, List.any_cons, List.any_nil, isK, Bool.or_false, Bool.false_or, Bool.or_true, Bool.true_or, Bool.not_true, Bool.not_false, if_true, if_false, Bool.false_eq_true, true_and, and_true, decide_eq_true_eq, id, reduceCtorEq, gEq_i, gNe_i, gEq_b, gNe_b, gEq_li, gNe_li, gEq_l0, gNe_l0, gEq_00, gNe_00, gEq_ti, gNe_ti, mEnum, Nat.zero_add, Nat.reduceAdd, Int.reduceEq, Int.cast_ofNat_Int, Nat.zero_le, sz1, sz2, sz3, sz4, sz5, sz6, decide_true, decide_false, sAugI, mPopAt, mApp, mExt, mGet, mDNew, sPar3, sFldAugM, mZip2, mZip3, sRaise0, mMethK, cutD, mLam, c]
  refine ⟨x, y, rfl, ?_⟩
  simp only [sSeq, sSet, sSkip, sForget, sFor, sIf, sRet, sRetN, sDrop, sSetI, sAsg, sPar, sFldM, sAug, frzV, valE, mVar, mC, mOp, mUn, mCall, mFun, mMeth, mMake, mFld, mTst, mNotT, mNotV, mAndV, mOrV, mAndT, mOrT, mIte, mNil, mCons, mTup, mLst, mChain, mIter_ap, mIsi_ap, mRng1, mRng2, mLc, mYes, mCell, mRel, mSl, oNo, oSome,
  gN, gT, gsCons, gsNil, frz_d, frz_l, frz_k, gIx_p, onSet_p, onQ_p, onL_p, gLen_p, onIns_p, put_put, atD_0, atD_1, atD_2, atD_3, atD_4, ixN_0, ixN_1, ixN_2, ixN_3, ixN_4, List.length_cons, List.length_nil, onBl_b, onInt_i, onTup_t, on1_1, on2_2, onQ_l, onQ_t, onQ_s, onL_l, onLs_l, onLs_s, onD_d, onOpt_s, gII, gB, gAdd_i, gAdd_s, gAdd_t, gAdd_l, gMul_i, gMul_l, gMul_t, gSub, gMod, gDiv, gPow, gNeg, gIx_l, gIx_t, gIx_s, gLen_l, gLen_t, gLen_s, gLen_d, iterD_t, iterD_l, iterD_s,
  kind_i, kind_b, kind_s, kind_n, kind_t, kind_l, gIsN, isNon, gTuple, gList, gAll, gAny, gSum, gMin, gMax, gMin2, gMax2, gAbs, gInt, gSorted,
  List.getElem?_cons_zero, List.getElem?_cons_succ, List.getElem?_nil, List.set_cons_zero, List.set_cons_succ, List.cons_append, List.nil_append, List.append_nil, wipeE, List.any_cons, List.any_nil, isK, Bool.or_false, Bool.false_or, Bool.or_true, Bool.true_or, Bool.not_true, Bool.not_false, if_true, if_false, Bool.false_eq_true, true_and, and_true, decide_eq_true_eq, id, reduceCtorEq, gEq_i, gNe_i, gEq_b, gNe_b, gEq_li, gNe_li, gEq_l0, gNe_l0, gEq_00, gNe_00, gEq_ti, gNe_ti, mEnum, Nat.zero_add, Nat.reduceAdd, Int.reduceEq, Int.cast_ofNat_Int, Nat.zero_le, sz1, sz2, sz3, sz4, sz5, sz6, decide_true, decide_false, sAugI, mPopAt, mApp, mExt, mGet, mDNew, sPar3, sFldAugM, mZip2, mZip3, sRaise0, mMethK, cutD, mLam]
  exact ⟨⟨by omega, g3⟩, ⟨by omega, g3⟩, bodyN_rt0 q⟩
theorem rd_law_part {a : Ad} (ds : List D) (h : MH) (Kn : RV → MH → Prop) (Kx : XKm) (q : sp_law_part a ds h Kn Kx) : t_law_part a (bodyN Kn Kx) (startE ["_law_high_end", "_law_under", "_law_one"] ds) h := by
  obtain ⟨x, y, rfl, y1, y2, q⟩ := q
  show t_law_part a (bodyN Kn Kx) [some (.int x), some (.int y), none] h
  unfold t_law_part
  have c : ¬ ((x : Int) < 0) := by omega
  have g1 : 0 < Nat.gcd x y := Nat.gcd_pos_of_pos_right x y1
  have g2 : Nat.gcd x y ≤ y := Nat.le_of_dvd y1 (Nat.gcd_dvd_right x y)
  have g3 : ((Nat.gcd x y : Nat) : Int).natAbs.log2 < 9000 := log2_lt (by omega) (by omega)
  simp only [sSeq, sSet, sSkip, sForget, sFor, sIf, sRet, sRetN, sDrop, sSetI, sAsg, sPar, sFldM, sAug, frzV, valE, mVar, mC, mOp, mUn, mCall, mFun, mMeth, mMake, mFld, mTst, mNotT, mNotV, mAndV, mOrV, mAndT, mOrT, mIte, mNil, mCons, mTup, mLst, mChain, mIter_ap, mIsi_ap, mRng1, mRng2, mLc, mYes, mCell, mRel, mSl, oNo, oSome,
  gN, gT, gsCons, gsNil, frz_d, frz_l, frz_k, gIx_p, onSet_p, onQ_p, onL_p, gLen_p, onIns_p, put_put, atD_0, atD_1, atD_2, atD_3, atD_4, ixN_0, ixN_1, ixN_2, ixN_3, ixN_4, List.length_cons, List.length_nil, onBl_b, onInt_i, onTup_t, on1_1, on2_2, onQ_l, onQ_t, onQ_s, onL_l, onLs_l, onLs_s, onD_d, onOpt_s, gII, gB, gAdd_i, gAdd_s, gAdd_t, gAdd_l, gMul_i, gMul_l, gMul_t, gSub, gMod, gDiv, gPow, gNeg, gIx_l, gIx_t, gIx_s, gLen_l, gLen_t, gLen_s, gLen_d, iterD_t, iterD_l, iterD_s,
  kind_i, kind_b, kind_s, kind_n, kind_t, kind_l, gIsN, isNon, gTuple, gList, gAll, gAny, gSum, gMin, gMax, gMin2, gMax2, gAbs, gInt, gSorted,
  List.getElem?_cons_zero, List.getElem?_cons_succ, List.getElem?_nil, List.set_cons_zero, List.set_cons_succ, List.cons_append, List.nil_append, List.append_nil, wipeE, List.any_cons, List.any_nil, isK, Bool.or_false, Bool.false_or, Bool.or_true, Bool.true_or, Bool.not_true, Bool.not_false, if_true, if_false, Bool.false_eq_true, true_and, and_true, decide_eq_true_eq, id, reduceCtorEq, gEq_i, gNe_i, gEq_b, gNe_b, gEq_li, gNe_li, gEq_l0, gNe_l0, gEq_00, gNe_00, gEq_ti, gNe_ti, mEnum, Nat.zero_add, Nat.reduceAdd, Int.reduceEq, Int.cast_ofNat_Int, Nat.zero_le, sz1, sz2, sz3, sz4, sz5, sz6, decide_true, decide_false, sAugI, mPopAt, mApp, mExt, mGet, mDNew, sPar3, sFldAugM, mZip2, mZip3, sRaise0, mMethK, cutD, mLam, c]
  refine ⟨x, y, rfl, ?_⟩
  simp only [sSeq, sSet, sSkip, sForget, sFor, sIf, sRet, sRetN, sDrop, sSetI, sAsg, sPar, sFldM, sAug, frzV, valE, mVar, mC, mOp, mUn, mCall, mFun, mMeth, mMake, mFld, mTst, mNotT, mNotV, mAndV, mOrV, mAndT, mOrT, mIte, mNil, mCons, mTup, mLst, mChain, mIter_ap, mIsi_ap, mRng1, mRng2, mLc, mYes, mCell, mRel, mSl, oNo, oSome,
  gN, gT, gsCons, gsNil, frz_d, frz_l, frz_k, gIx_p, onSet_p, onQ_p, onL_p, gLen_p, onIns_p, put_put, atD_0, atD_1, atD_2, atD_3, atD_4, ixN_0, ixN_1, ixN_2, ixN_3, ixN_4, List.length_cons, List.length_nil, onBl_b, onInt_i, onTup_t, on1_1, on2_2, onQ_l, onQ_t, onQ_s, onL_l, onLs_l, onLs_s, onD_d, onOpt_s, gII, gB, gAdd_i, gAdd_s, gAdd_t, gAdd_l, gMul_i, gMul_l, gMul_t, gSub, gMod, gDiv, gPow, gNeg, gIx_l, gIx_t, gIx_s, gLen_l, gLen_t, gLen_s, gLen_d, iterD_t, iterD_l, iterD_s,
  kind_i, kind_b, kind_s, kind_n, kind_t, kind_l, gIsN, isNon, gTuple, gList, gAll, gAny, gSum, gMin, gMax, gMin2, gMax2, gAbs, gInt, gSorted,
  List.getElem?_cons_zero, List.getElem?_cons_succ, List.getElem?_nil, List.set_cons_zero, List.set_cons_succ, List.cons_append, List.nil_append, List.append_nil, wipeE, List.any_cons, List.any_nil, isK, Bool.or_false, Bool.false_or, Bool.or_true, Bool.true_or, Bool.not_true, Bool.not_false, if_true, if_false, Bool.false_eq_true, true_and, and_true, decide_eq_true_eq, id, reduceCtorEq, gEq_i, gNe_i, gEq_b, gNe_b, gEq_li, gNe_li, gEq_l0, gNe_l0, gEq_00, gNe_00, gEq_ti, gNe_ti, mEnum, Nat.zero_add, Nat.reduceAdd, Int.reduceEq, Int.cast_ofNat_Int, Nat.zero_le, sz1, sz2, sz3, sz4, sz5, sz6, decide_true, decide_false, sAugI, mPopAt, mApp, mExt, mGet, mDNew, sPar3, sFldAugM, mZip2, mZip3, sRaise0, mMethK, cutD, mLam]
  exact ⟨⟨by omega, g3⟩, ⟨by omega, g3⟩, bodyN_rt0 q⟩
theorem rd_need_members {a : Ad} (ds : List D) (h : MH) (Kn : RV → MH → Prop) (Kx : XKm) (q : sp_need_members a ds h Kn Kx) : t_need_members a (bodyN Kn Kx) (startE ["keys", "members", "ahead", "number", "key"] ds) h := by
  obtain ⟨k, d, rfl, k1, k2, q⟩ := q
  show t_need_members a (bodyN Kn Kx) [some (.int k), some d, none, none, none] h
  unfold t_need_members
  have kx' : Kx ⟨a.BadCounts, [("number", .int 0)]⟩ h → ∀ E, (bodyN Kn Kx).xs ⟨a.BadCounts, [("number", .int 0)]⟩ E h := fun kx _ => ⟨h, fun _ _ e => e, kx⟩
  have lg : ∀ x ∈ [D.int 0], onInt x fun i => i.natAbs.log2 < 1920 := fun x hx => by
    rw [List.mem_singleton.mp hx]
    show (0 : Int).natAbs.log2 < 1920
    decide
  rcases q with ⟨ms, rfl, mb, q⟩ | ⟨⟨i, rfl⟩, kx⟩ | ⟨rfl, kx⟩
  · simp only [sSeq, sSet, sSkip, sForget, sFor, sIf, sRet, sRetN, sDrop, sSetI, sAsg, sPar, sFldM, sAug, frzV, valE, mVar, mC, mOp, mUn, mCall, mFun, mMeth, mMake, mFld, mTst, mNotT, mNotV, mAndV, mOrV, mAndT, mOrT, mIte, mNil, mCons, mTup, mLst, mChain, mIter_ap, mIsi_ap, mRng1, mRng2, mLc, mYes, mCell, mRel, mSl, oNo, oSome,
  gN, gT, gsCons, gsNil, frz_d, frz_l, frz_k, gIx_p, onSet_p, onQ_p, onL_p, gLen_p, onIns_p, put_put, atD_0, atD_1, atD_2, atD_3, atD_4, ixN_0, ixN_1, ixN_2, ixN_3, ixN_4, List.length_cons, List.length_nil, onBl_b, onInt_i, onTup_t, on1_1, on2_2, onQ_l, onQ_t, onQ_s, onL_l, onLs_l, onLs_s, onD_d, onOpt_s, gII, gB, gAdd_i, gAdd_s, gAdd_t, gAdd_l, gMul_i, gMul_l, gMul_t, gSub, gMod, gDiv, gPow, gNeg, gIx_l, gIx_t, gIx_s, gLen_l, gLen_t, gLen_s, gLen_d, iterD_t, iterD_l, iterD_s,
  kind_i, kind_b, kind_s, kind_n, kind_t, kind_l, gIsN, isNon, gTuple, gList, gAll, gAny, gSum, gMin, gMax, gMin2, gMax2, gAbs, gInt, gSorted,
  List.getElem?_cons_zero, List.getElem?_cons_succ, List.getElem?_nil, List.set_cons_zero, List.set_cons_succ, List.cons_append, List.nil_append, List.append_nil, wipeE, List.any_cons, List.any_nil, isK, Bool.or_false, Bool.false_or, Bool.or_true, Bool.true_or, Bool.not_true, Bool.not_false, if_true, if_false, Bool.false_eq_true, true_and, and_true, decide_eq_true_eq, id, reduceCtorEq, gEq_i, gNe_i, gEq_b, gNe_b, gEq_li, gNe_li, gEq_l0, gNe_l0, gEq_00, gNe_00, gEq_ti, gNe_ti, mEnum, Nat.zero_add, Nat.reduceAdd, Int.reduceEq, Int.cast_ofNat_Int, Nat.zero_le, sz1, sz2, sz3, sz4, sz5, sz6, decide_true, decide_false, sAugI, mPopAt, mApp, mExt, mGet, mDNew, sPar3, sFldAugM, mZip2, mZip3, sRaise0, mMethK, cutD, mLam]
    refine for_inv (fun i E h' => h' = h ∧ ∃ b, E = [some (.int k), some (.tup (ms.map D.int)), some (.int b), none, none] ∧ -1 ≤ b ∧ memB k b (ms.drop i)) ⟨rfl, -1, rfl, by decide, by simpa using mb⟩ ?_ ?_
    · rintro i d E h' kc hi ⟨rfl, b, rfl, b1, mb⟩ hk
      obtain ⟨x, hx, rfl⟩ := enum_get hi
      obtain ⟨m, em, rfl⟩ := map_getD hx
      have il := (List.getElem?_eq_some_iff.mp em).1
      rw [List.drop_eq_getElem_cons il, (List.getElem?_eq_some_iff.mp em).2] at mb
      obtain ⟨mb1, mb2, mb⟩ := mb
      simp only [sSeq, sSet, sSkip, sForget, sFor, sIf, sRet, sRetN, sDrop, sSetI, sAsg, sPar, sFldM, sAug, frzV, valE, mVar, mC, mOp, mUn, mCall, mFun, mMeth, mMake, mFld, mTst, mNotT, mNotV, mAndV, mOrV, mAndT, mOrT, mIte, mNil, mCons, mTup, mLst, mChain, mIter_ap, mIsi_ap, mRng1, mRng2, mLc, mYes, mCell, mRel, mSl, oNo, oSome,
  gN, gT, gsCons, gsNil, frz_d, frz_l, frz_k, gIx_p, onSet_p, onQ_p, onL_p, gLen_p, onIns_p, put_put, atD_0, atD_1, atD_2, atD_3, atD_4, ixN_0, ixN_1, ixN_2, ixN_3, ixN_4, List.length_cons, List.length_nil, onBl_b, onInt_i, onTup_t, on1_1, on2_2, onQ_l, onQ_t, onQ_s, onL_l, onLs_l, onLs_s, onD_d, onOpt_s, gII, gB, gAdd_i, gAdd_s, gAdd_t, gAdd_l, gMul_i, gMul_l, gMul_t, gSub, gMod, gDiv, gPow, gNeg, gIx_l, gIx_t, gIx_s, gLen_l, gLen_t, gLen_s, gLen_d, iterD_t, iterD_l, iterD_s,
  kind_i, kind_b, kind_s, kind_n, kind_t, kind_l, gIsN, isNon, gTuple, gList, gAll, gAny, gSum, gMin, gMax, gMin2, gMax2, gAbs, gInt, gSorted,
  List.getElem?_cons_zero, List.getElem?_cons_succ, List.getElem?_nil, List.set_cons_zero, List.set_cons_succ, List.cons_append, List.nil_append, List.append_nil, wipeE, List.any_cons, List.any_nil, isK, Bool.or_false, Bool.false_or, Bool.or_true, Bool.true_or, Bool.not_true, Bool.not_false, if_true, if_false, Bool.false_eq_true, true_and, and_true, decide_eq_true_eq, id, reduceCtorEq, gEq_i, gNe_i, gEq_b, gNe_b, gEq_li, gNe_li, gEq_l0, gNe_l0, gEq_00, gNe_00, gEq_ti, gNe_ti, mEnum, Nat.zero_add, Nat.reduceAdd, Int.reduceEq, Int.cast_ofNat_Int, Nat.zero_le, sz1, sz2, sz3, sz4, sz5, sz6, decide_true, decide_false, sAugI, mPopAt, mApp, mExt, mGet, mDNew, sPar3, sFldAugM, mZip2, mZip3, sRaise0, mMethK, cutD, mLam]
      refine is_num (by omega) (by omega) ?_
      simp only [sSeq, sSet, sSkip, sForget, sFor, sIf, sRet, sRetN, sDrop, sSetI, sAsg, sPar, sFldM, sAug, frzV, valE, mVar, mC, mOp, mUn, mCall, mFun, mMeth, mMake, mFld, mTst, mNotT, mNotV, mAndV, mOrV, mAndT, mOrT, mIte, mNil, mCons, mTup, mLst, mChain, mIter_ap, mIsi_ap, mRng1, mRng2, mLc, mYes, mCell, mRel, mSl, oNo, oSome,
  gN, gT, gsCons, gsNil, frz_d, frz_l, frz_k, gIx_p, onSet_p, onQ_p, onL_p, gLen_p, onIns_p, put_put, atD_0, atD_1, atD_2, atD_3, atD_4, ixN_0, ixN_1, ixN_2, ixN_3, ixN_4, List.length_cons, List.length_nil, onBl_b, onInt_i, onTup_t, on1_1, on2_2, onQ_l, onQ_t, onQ_s, onL_l, onLs_l, onLs_s, onD_d, onOpt_s, gII, gB, gAdd_i, gAdd_s, gAdd_t, gAdd_l, gMul_i, gMul_l, gMul_t, gSub, gMod, gDiv, gPow, gNeg, gIx_l, gIx_t, gIx_s, gLen_l, gLen_t, gLen_s, gLen_d, iterD_t, iterD_l, iterD_s,
  kind_i, kind_b, kind_s, kind_n, kind_t, kind_l, gIsN, isNon, gTuple, gList, gAll, gAny, gSum, gMin, gMax, gMin2, gMax2, gAbs, gInt, gSorted,
  List.getElem?_cons_zero, List.getElem?_cons_succ, List.getElem?_nil, List.set_cons_zero, List.set_cons_succ, List.cons_append, List.nil_append, List.append_nil, wipeE, List.any_cons, List.any_nil, isK, Bool.or_false, Bool.false_or, Bool.or_true, Bool.true_or, Bool.not_true, Bool.not_false, if_true, if_false, Bool.false_eq_true, true_and, and_true, decide_eq_true_eq, id, reduceCtorEq, gEq_i, gNe_i, gEq_b, gNe_b, gEq_li, gNe_li, gEq_l0, gNe_l0, gEq_00, gNe_00, gEq_ti, gNe_ti, mEnum, Nat.zero_add, Nat.reduceAdd, Int.reduceEq, Int.cast_ofNat_Int, Nat.zero_le, sz1, sz2, sz3, sz4, sz5, sz6, decide_true, decide_false, sAugI, mPopAt, mApp, mExt, mGet, mDNew, sPar3, sFldAugM, mZip2, mZip3, sRaise0, mMethK, cutD, mLam]
      exact hk _ _ ⟨rfl, m, rfl, by omega, mb⟩
    · rintro E h' ⟨rfl, b, rfl, _, _⟩
      exact bodyN_nx0 q
  · simp only [sSeq, sSet, sSkip, sForget, sFor, sIf, sRet, sRetN, sDrop, sSetI, sAsg, sPar, sFldM, sAug, frzV, valE, mVar, mC, mOp, mUn, mCall, mFun, mMeth, mMake, mFld, mTst, mNotT, mNotV, mAndV, mOrV, mAndT, mOrT, mIte, mNil, mCons, mTup, mLst, mChain, mIter_ap, mIsi_ap, mRng1, mRng2, mLc, mYes, mCell, mRel, mSl, oNo, oSome,
  gN, gT, gsCons, gsNil, frz_d, frz_l, frz_k, gIx_p, onSet_p, onQ_p, onL_p, gLen_p, onIns_p, put_put, atD_0, atD_1, atD_2, atD_3, atD_4, ixN_0, ixN_1, ixN_2, ixN_3, ixN_4, List.length_cons, List.length_nil, onBl_b, onInt_i, onTup_t, on1_1, on2_2, onQ_l, onQ_t, onQ_s, onL_l, onLs_l, onLs_s, onD_d, onOpt_s, gII, gB, gAdd_i, gAdd_s, gAdd_t, gAdd_l, gMul_i, gMul_l, gMul_t, gSub, gMod, gDiv, gPow, gNeg, gIx_l, gIx_t, gIx_s, gLen_l, gLen_t, gLen_s, gLen_d, iterD_t, iterD_l, iterD_s,
  kind_i, kind_b, kind_s, kind_n, kind_t, kind_l, gIsN, isNon, gTuple, gList, gAll, gAny, gSum, gMin, gMax, gMin2, gMax2, gAbs, gInt, gSorted,
  List.getElem?_cons_zero, List.getElem?_cons_succ, List.getElem?_nil, List.set_cons_zero, List.set_cons_succ, List.cons_append, List.nil_append, List.append_nil, wipeE, List.any_cons, List.any_nil, isK, Bool.or_false, Bool.false_or, Bool.or_true, Bool.true_or, Bool.not_true, Bool.not_false, if_true, if_false, Bool.false_eq_true, true_and, and_true, decide_eq_true_eq, id, reduceCtorEq, gEq_i, gNe_i, gEq_b, gNe_b, gEq_li, gNe_li, gEq_l0, gNe_l0, gEq_00, gNe_00, gEq_ti, gNe_ti, mEnum, Nat.zero_add, Nat.reduceAdd, Int.reduceEq, Int.cast_ofNat_Int, Nat.zero_le, sz1, sz2, sz3, sz4, sz5, sz6, decide_true, decide_false, sAugI, mPopAt, mApp, mExt, mGet, mDNew, sPar3, sFldAugM, mZip2, mZip3, sRaise0, mMethK, cutD, mLam, sRaise1]
    exact ⟨lg, ⟨h, fun _ _ e => e, kx⟩⟩
  · simp only [sSeq, sSet, sSkip, sForget, sFor, sIf, sRet, sRetN, sDrop, sSetI, sAsg, sPar, sFldM, sAug, frzV, valE, mVar, mC, mOp, mUn, mCall, mFun, mMeth, mMake, mFld, mTst, mNotT, mNotV, mAndV, mOrV, mAndT, mOrT, mIte, mNil, mCons, mTup, mLst, mChain, mIter_ap, mIsi_ap, mRng1, mRng2, mLc, mYes, mCell, mRel, mSl, oNo, oSome,
  gN, gT, gsCons, gsNil, frz_d, frz_l, frz_k, gIx_p, onSet_p, onQ_p, onL_p, gLen_p, onIns_p, put_put, atD_0, atD_1, atD_2, atD_3, atD_4, ixN_0, ixN_1, ixN_2, ixN_3, ixN_4, List.length_cons, List.length_nil, onBl_b, onInt_i, onTup_t, on1_1, on2_2, onQ_l, onQ_t, onQ_s, onL_l, onLs_l, onLs_s, onD_d, onOpt_s, gII, gB, gAdd_i, gAdd_s, gAdd_t, gAdd_l, gMul_i, gMul_l, gMul_t, gSub, gMod, gDiv, gPow, gNeg, gIx_l, gIx_t, gIx_s, gLen_l, gLen_t, gLen_s, gLen_d, iterD_t, iterD_l, iterD_s,
  kind_i, kind_b, kind_s, kind_n, kind_t, kind_l, gIsN, isNon, gTuple, gList, gAll, gAny, gSum, gMin, gMax, gMin2, gMax2, gAbs, gInt, gSorted,
  List.getElem?_cons_zero, List.getElem?_cons_succ, List.getElem?_nil, List.set_cons_zero, List.set_cons_succ, List.cons_append, List.nil_append, List.append_nil, wipeE, List.any_cons, List.any_nil, isK, Bool.or_false, Bool.false_or, Bool.or_true, Bool.true_or, Bool.not_true, Bool.not_false, if_true, if_false, Bool.false_eq_true, true_and, and_true, decide_eq_true_eq, id, reduceCtorEq, gEq_i, gNe_i, gEq_b, gNe_b, gEq_li, gNe_li, gEq_l0, gNe_l0, gEq_00, gNe_00, gEq_ti, gNe_ti, mEnum, Nat.zero_add, Nat.reduceAdd, Int.reduceEq, Int.cast_ofNat_Int, Nat.zero_le, sz1, sz2, sz3, sz4, sz5, sz6, decide_true, decide_false, sAugI, mPopAt, mApp, mExt, mGet, mDNew, sPar3, sFldAugM, mZip2, mZip3, sRaise0, mMethK, cutD, mLam, sRaise1]
    refine for_inv (fun i E h' => h' = h ∧ E = [some (.int k), some (.tup [.int k]), some (.int (-1)), none, none] ∧ i = 0) ⟨rfl, rfl, rfl⟩ ?_ ?_
    · rintro i d E h' kc hi ⟨rfl, rfl, rfl⟩ hk
      obtain ⟨x, hx, rfl⟩ := enum_get hi
      obtain rfl : x = .int k := by simpa using hx.symm
      simp only [sSeq, sSet, sSkip, sForget, sFor, sIf, sRet, sRetN, sDrop, sSetI, sAsg, sPar, sFldM, sAug, frzV, valE, mVar, mC, mOp, mUn, mCall, mFun, mMeth, mMake, mFld, mTst, mNotT, mNotV, mAndV, mOrV, mAndT, mOrT, mIte, mNil, mCons, mTup, mLst, mChain, mIter_ap, mIsi_ap, mRng1, mRng2, mLc, mYes, mCell, mRel, mSl, oNo, oSome,
  gN, gT, gsCons, gsNil, frz_d, frz_l, frz_k, gIx_p, onSet_p, onQ_p, onL_p, gLen_p, onIns_p, put_put, atD_0, atD_1, atD_2, atD_3, atD_4, ixN_0, ixN_1, ixN_2, ixN_3, ixN_4, List.length_cons, List.length_nil, onBl_b, onInt_i, onTup_t, on1_1, on2_2, onQ_l, onQ_t, onQ_s, onL_l, onLs_l, onLs_s, onD_d, onOpt_s, gII, gB, gAdd_i, gAdd_s, gAdd_t, gAdd_l, gMul_i, gMul_l, gMul_t, gSub, gMod, gDiv, gPow, gNeg, gIx_l, gIx_t, gIx_s, gLen_l, gLen_t, gLen_s, gLen_d, iterD_t, iterD_l, iterD_s,
  kind_i, kind_b, kind_s, kind_n, kind_t, kind_l, gIsN, isNon, gTuple, gList, gAll, gAny, gSum, gMin, gMax, gMin2, gMax2, gAbs, gInt, gSorted,
  List.getElem?_cons_zero, List.getElem?_cons_succ, List.getElem?_nil, List.set_cons_zero, List.set_cons_succ, List.cons_append, List.nil_append, List.append_nil, wipeE, List.any_cons, List.any_nil, isK, Bool.or_false, Bool.false_or, Bool.or_true, Bool.true_or, Bool.not_true, Bool.not_false, if_true, if_false, Bool.false_eq_true, true_and, and_true, decide_eq_true_eq, id, reduceCtorEq, gEq_i, gNe_i, gEq_b, gNe_b, gEq_li, gNe_li, gEq_l0, gNe_l0, gEq_00, gNe_00, gEq_ti, gNe_ti, mEnum, Nat.zero_add, Nat.reduceAdd, Int.reduceEq, Int.cast_ofNat_Int, Nat.zero_le, sz1, sz2, sz3, sz4, sz5, sz6, decide_true, decide_false, sAugI, mPopAt, mApp, mExt, mGet, mDNew, sPar3, sFldAugM, mZip2, mZip3, sRaise0, mMethK, cutD, mLam]
      refine ⟨_, _, _, rfl, by simp [kindD], ?_⟩
      have e : isNum (.int k) (-1 + 1) (k - 1) = false := by simp [isNum]; omega
      simp only [sSeq, sSet, sSkip, sForget, sFor, sIf, sRet, sRetN, sDrop, sSetI, sAsg, sPar, sFldM, sAug, frzV, valE, mVar, mC, mOp, mUn, mCall, mFun, mMeth, mMake, mFld, mTst, mNotT, mNotV, mAndV, mOrV, mAndT, mOrT, mIte, mNil, mCons, mTup, mLst, mChain, mIter_ap, mIsi_ap, mRng1, mRng2, mLc, mYes, mCell, mRel, mSl, oNo, oSome,
  gN, gT, gsCons, gsNil, frz_d, frz_l, frz_k, gIx_p, onSet_p, onQ_p, onL_p, gLen_p, onIns_p, put_put, atD_0, atD_1, atD_2, atD_3, atD_4, ixN_0, ixN_1, ixN_2, ixN_3, ixN_4, List.length_cons, List.length_nil, onBl_b, onInt_i, onTup_t, on1_1, on2_2, onQ_l, onQ_t, onQ_s, onL_l, onLs_l, onLs_s, onD_d, onOpt_s, gII, gB, gAdd_i, gAdd_s, gAdd_t, gAdd_l, gMul_i, gMul_l, gMul_t, gSub, gMod, gDiv, gPow, gNeg, gIx_l, gIx_t, gIx_s, gLen_l, gLen_t, gLen_s, gLen_d, iterD_t, iterD_l, iterD_s,
  kind_i, kind_b, kind_s, kind_n, kind_t, kind_l, gIsN, isNon, gTuple, gList, gAll, gAny, gSum, gMin, gMax, gMin2, gMax2, gAbs, gInt, gSorted,
  List.getElem?_cons_zero, List.getElem?_cons_succ, List.getElem?_nil, List.set_cons_zero, List.set_cons_succ, List.cons_append, List.nil_append, List.append_nil, wipeE, List.any_cons, List.any_nil, isK, Bool.or_false, Bool.false_or, Bool.or_true, Bool.true_or, Bool.not_true, Bool.not_false, if_true, if_false, Bool.false_eq_true, true_and, and_true, decide_eq_true_eq, id, reduceCtorEq, gEq_i, gNe_i, gEq_b, gNe_b, gEq_li, gNe_li, gEq_l0, gNe_l0, gEq_00, gNe_00, gEq_ti, gNe_ti, mEnum, Nat.zero_add, Nat.reduceAdd, Int.reduceEq, Int.cast_ofNat_Int, Nat.zero_le, sz1, sz2, sz3, sz4, sz5, sz6, decide_true, decide_false, sAugI, mPopAt, mApp, mExt, mGet, mDNew, sPar3, sFldAugM, mZip2, mZip3, sRaise0, mMethK, cutD, mLam, e]
      exact ⟨rfl, lg, _, fun _ _ e => e, kx⟩
    · rintro E h' ⟨rfl, rfl, e⟩
      simp [enumD] at e
theorem memB_app {k : Int} : ∀ {ms : List Int} {b j : Int}, memB k b ms → (∀ m ∈ ms, m < j) → b < j → j < k → memB k b (ms ++ [j])
  | [], _, _, _, _, h2, h3 => ⟨h2, h3, trivial⟩
  | m :: ms, b, j, ⟨h1, h2, h3⟩, hm, _, hk => ⟨h1, h2, memB_app h3 (fun x hx => hm x (List.mem_cons_of_mem _ hx)) (hm m List.mem_cons_self) hk⟩
theorem rd_law_members {a : Ad} (ds : List D) (h : MH) (Kn : RV → MH → Prop) (Kx : XKm) (q : sp_law_members a ds h Kn Kx) : t_law_members a (bodyN Kn Kx) (startE ["_law_row_here", "_law_keys", "_law_key"] ds) h := by
  obtain ⟨r, k, rfl, k1, k2, R, q⟩ := q
  show t_law_members a (bodyN Kn Kx) [some (.ref r), some (.int k), none] h
  have big := line_big
  unfold t_law_members
  simp only [sSeq, sSet, sSkip, sForget, sFor, sIf, sRet, sRetN, sDrop, sSetI, sAsg, sPar, sFldM, sAug, frzV, valE, mVar, mC, mOp, mUn, mCall, mFun, mMeth, mMake, mFld, mTst, mNotT, mNotV, mAndV, mOrV, mAndT, mOrT, mIte, mNil, mCons, mTup, mLst, mChain, mIter_ap, mIsi_ap, mRng1, mRng2, mLc, mYes, mCell, mRel, mSl, oNo, oSome,
  gN, gT, gsCons, gsNil, frz_d, frz_l, frz_k, gIx_p, onSet_p, onQ_p, onL_p, gLen_p, onIns_p, put_put, atD_0, atD_1, atD_2, atD_3, atD_4, ixN_0, ixN_1, ixN_2, ixN_3, ixN_4, List.length_cons, List.length_nil, onBl_b, onInt_i, onTup_t, on1_1, on2_2, onQ_l, onQ_t, onQ_s, onL_l, onLs_l, onLs_s, onD_d, onOpt_s, gII, gB, gAdd_i, gAdd_s, gAdd_t, gAdd_l, gMul_i, gMul_l, gMul_t, gSub, gMod, gDiv, gPow, gNeg, gIx_l, gIx_t, gIx_s, gLen_l, gLen_t, gLen_s, gLen_d, iterD_t, iterD_l, iterD_s,
  kind_i, kind_b, kind_s, kind_n, kind_t, kind_l, gIsN, isNon, gTuple, gList, gAll, gAny, gSum, gMin, gMax, gMin2, gMax2, gAbs, gInt, gSorted,
  List.getElem?_cons_zero, List.getElem?_cons_succ, List.getElem?_nil, List.set_cons_zero, List.set_cons_succ, List.cons_append, List.nil_append, List.append_nil, wipeE, List.any_cons, List.any_nil, isK, Bool.or_false, Bool.false_or, Bool.or_true, Bool.true_or, Bool.not_true, Bool.not_false, if_true, if_false, Bool.false_eq_true, true_and, and_true, decide_eq_true_eq, id, reduceCtorEq, gEq_i, gNe_i, gEq_b, gNe_b, gEq_li, gNe_li, gEq_l0, gNe_l0, gEq_00, gNe_00, gEq_ti, gNe_ti, mEnum, Nat.zero_add, Nat.reduceAdd, Int.reduceEq, Int.cast_ofNat_Int, Nat.zero_le, sz1, sz2, sz3, sz4, sz5, sz6, decide_true, decide_false, sAugI, mPopAt, mApp, mExt, mGet, mDNew, sPar3, sFldAugM, mZip2, mZip3, sRaise0, mMethK, cutD, mLam]
  refine ⟨⟨by omega, by omega⟩, ?_⟩
  refine lc_inv (fun i acc h' => RowAt h' r ∧ (∀ b, b ≠ r → h' b = h b) ∧ ∃ ms : List Int, acc = ms.map D.int ∧ memB k (-1) ms ∧ (∀ m ∈ ms, m < i) ∧ ms.length ≤ i) ⟨R, fun _ _ => rfl, [], rfl, trivial, by simp, by simp⟩ ?_ ?_
  · rintro i d acc h' kc hi ⟨R, fr, ms, rfl, mb, hm, hl⟩ hk
    obtain ⟨ik, rfl⟩ := rng_get hi
    simp only [sSeq, sSet, sSkip, sForget, sFor, sIf, sRet, sRetN, sDrop, sSetI, sAsg, sPar, sFldM, sAug, frzV, valE, mVar, mC, mOp, mUn, mCall, mFun, mMeth, mMake, mFld, mTst, mNotT, mNotV, mAndV, mOrV, mAndT, mOrT, mIte, mNil, mCons, mTup, mLst, mChain, mIter_ap, mIsi_ap, mRng1, mRng2, mLc, mYes, mCell, mRel, mSl, oNo, oSome,
  gN, gT, gsCons, gsNil, frz_d, frz_l, frz_k, gIx_p, onSet_p, onQ_p, onL_p, gLen_p, onIns_p, put_put, atD_0, atD_1, atD_2, atD_3, atD_4, ixN_0, ixN_1, ixN_2, ixN_3, ixN_4, List.length_cons, List.length_nil, onBl_b, onInt_i, onTup_t, on1_1, on2_2, onQ_l, onQ_t, onQ_s, onL_l, onLs_l, onLs_s, onD_d, onOpt_s, gII, gB, gAdd_i, gAdd_s, gAdd_t, gAdd_l, gMul_i, gMul_l, gMul_t, gSub, gMod, gDiv, gPow, gNeg, gIx_l, gIx_t, gIx_s, gLen_l, gLen_t, gLen_s, gLen_d, iterD_t, iterD_l, iterD_s,
  kind_i, kind_b, kind_s, kind_n, kind_t, kind_l, gIsN, isNon, gTuple, gList, gAll, gAny, gSum, gMin, gMax, gMin2, gMax2, gAbs, gInt, gSorted,
  List.getElem?_cons_zero, List.getElem?_cons_succ, List.getElem?_nil, List.set_cons_zero, List.set_cons_succ, List.cons_append, List.nil_append, List.append_nil, wipeE, List.any_cons, List.any_nil, isK, Bool.or_false, Bool.false_or, Bool.or_true, Bool.true_or, Bool.not_true, Bool.not_false, if_true, if_false, Bool.false_eq_true, true_and, and_true, decide_eq_true_eq, id, reduceCtorEq, gEq_i, gNe_i, gEq_b, gNe_b, gEq_li, gNe_li, gEq_l0, gNe_l0, gEq_00, gNe_00, gEq_ti, gNe_ti, mEnum, Nat.zero_add, Nat.reduceAdd, Int.reduceEq, Int.cast_ofNat_Int, Nat.zero_le, sz1, sz2, sz3, sz4, sz5, sz6, decide_true, decide_false, sAugI, mPopAt, mApp, mExt, mGet, mDNew, sPar3, sFldAugM, mZip2, mZip3, sRaise0, mMethK, cutD, mLam]
    refine ⟨r, 2, rfl, by decide, by decide, R, fun v h2 v0 v1 f2 R2 => ?_⟩
    have fr2 : ∀ b, b ≠ r → h2 b = h b := fun b hb => (f2 b hb).trans (fr b hb)
    by_cases c : v = 0
    · simp only [sSeq, sSet, sSkip, sForget, sFor, sIf, sRet, sRetN, sDrop, sSetI, sAsg, sPar, sFldM, sAug, frzV, valE, mVar, mC, mOp, mUn, mCall, mFun, mMeth, mMake, mFld, mTst, mNotT, mNotV, mAndV, mOrV, mAndT, mOrT, mIte, mNil, mCons, mTup, mLst, mChain, mIter_ap, mIsi_ap, mRng1, mRng2, mLc, mYes, mCell, mRel, mSl, oNo, oSome,
  gN, gT, gsCons, gsNil, frz_d, frz_l, frz_k, gIx_p, onSet_p, onQ_p, onL_p, gLen_p, onIns_p, put_put, atD_0, atD_1, atD_2, atD_3, atD_4, ixN_0, ixN_1, ixN_2, ixN_3, ixN_4, List.length_cons, List.length_nil, onBl_b, onInt_i, onTup_t, on1_1, on2_2, onQ_l, onQ_t, onQ_s, onL_l, onLs_l, onLs_s, onD_d, onOpt_s, gII, gB, gAdd_i, gAdd_s, gAdd_t, gAdd_l, gMul_i, gMul_l, gMul_t, gSub, gMod, gDiv, gPow, gNeg, gIx_l, gIx_t, gIx_s, gLen_l, gLen_t, gLen_s, gLen_d, iterD_t, iterD_l, iterD_s,
  kind_i, kind_b, kind_s, kind_n, kind_t, kind_l, gIsN, isNon, gTuple, gList, gAll, gAny, gSum, gMin, gMax, gMin2, gMax2, gAbs, gInt, gSorted,
  List.getElem?_cons_zero, List.getElem?_cons_succ, List.getElem?_nil, List.set_cons_zero, List.set_cons_succ, List.cons_append, List.nil_append, List.append_nil, wipeE, List.any_cons, List.any_nil, isK, Bool.or_false, Bool.false_or, Bool.or_true, Bool.true_or, Bool.not_true, Bool.not_false, if_true, if_false, Bool.false_eq_true, true_and, and_true, decide_eq_true_eq, id, reduceCtorEq, gEq_i, gNe_i, gEq_b, gNe_b, gEq_li, gNe_li, gEq_l0, gNe_l0, gEq_00, gNe_00, gEq_ti, gNe_ti, mEnum, Nat.zero_add, Nat.reduceAdd, Int.reduceEq, Int.cast_ofNat_Int, Nat.zero_le, sz1, sz2, sz3, sz4, sz5, sz6, decide_true, decide_false, sAugI, mPopAt, mApp, mExt, mGet, mDNew, sPar3, sFldAugM, mZip2, mZip3, sRaise0, mMethK, cutD, mLam, gEq_i, c]
      refine ⟨by rw [List.length_map]; omega, hk _ _ ⟨R2, fr2, ms ++ [(i : Int)], by simp, memB_app mb (fun m h => hm m h) (by omega) (by omega), fun m h => ?_, by simp; omega⟩⟩
      rcases List.mem_append.mp h with h | h
      · have := hm m h
        omega
      · rw [List.mem_singleton.mp h]
        omega
    · simp only [sSeq, sSet, sSkip, sForget, sFor, sIf, sRet, sRetN, sDrop, sSetI, sAsg, sPar, sFldM, sAug, frzV, valE, mVar, mC, mOp, mUn, mCall, mFun, mMeth, mMake, mFld, mTst, mNotT, mNotV, mAndV, mOrV, mAndT, mOrT, mIte, mNil, mCons, mTup, mLst, mChain, mIter_ap, mIsi_ap, mRng1, mRng2, mLc, mYes, mCell, mRel, mSl, oNo, oSome,
  gN, gT, gsCons, gsNil, frz_d, frz_l, frz_k, gIx_p, onSet_p, onQ_p, onL_p, gLen_p, onIns_p, put_put, atD_0, atD_1, atD_2, atD_3, atD_4, ixN_0, ixN_1, ixN_2, ixN_3, ixN_4, List.length_cons, List.length_nil, onBl_b, onInt_i, onTup_t, on1_1, on2_2, onQ_l, onQ_t, onQ_s, onL_l, onLs_l, onLs_s, onD_d, onOpt_s, gII, gB, gAdd_i, gAdd_s, gAdd_t, gAdd_l, gMul_i, gMul_l, gMul_t, gSub, gMod, gDiv, gPow, gNeg, gIx_l, gIx_t, gIx_s, gLen_l, gLen_t, gLen_s, gLen_d, iterD_t, iterD_l, iterD_s,
  kind_i, kind_b, kind_s, kind_n, kind_t, kind_l, gIsN, isNon, gTuple, gList, gAll, gAny, gSum, gMin, gMax, gMin2, gMax2, gAbs, gInt, gSorted,
  List.getElem?_cons_zero, List.getElem?_cons_succ, List.getElem?_nil, List.set_cons_zero, List.set_cons_succ, List.cons_append, List.nil_append, List.append_nil, wipeE, List.any_cons, List.any_nil, isK, Bool.or_false, Bool.false_or, Bool.or_true, Bool.true_or, Bool.not_true, Bool.not_false, if_true, if_false, Bool.false_eq_true, true_and, and_true, decide_eq_true_eq, id, reduceCtorEq, gEq_i, gNe_i, gEq_b, gNe_b, gEq_li, gNe_li, gEq_l0, gNe_l0, gEq_00, gNe_00, gEq_ti, gNe_ti, mEnum, Nat.zero_add, Nat.reduceAdd, Int.reduceEq, Int.cast_ofNat_Int, Nat.zero_le, sz1, sz2, sz3, sz4, sz5, sz6, decide_true, decide_false, sAugI, mPopAt, mApp, mExt, mGet, mDNew, sPar3, sFldAugM, mZip2, mZip3, sRaise0, mMethK, cutD, mLam, gEq_i, c]
      exact hk _ _ ⟨R2, fr2, ms, rfl, mb, fun m h => by have := hm m h; omega, by omega⟩
  · rintro acc h' ⟨R, fr, ms, rfl, mb, _, _⟩
    exact bodyN_rt0 (q ms h' mb fr R)
theorem memB_in {k : Int} : ∀ {ms : List Int} {b : Int}, memB k b ms → ∀ m ∈ ms, b < m ∧ m < k
  | [], _, _, _, h => nomatch h
  | x :: ms, b, ⟨h1, h2, h3⟩, m, h => by
    rcases List.mem_cons.mp h with rfl | h
    · exact ⟨h1, h2⟩
    · have := memB_in h3 m h
      omega
theorem memB_len {k : Int} : ∀ {ms : List Int} {b : Int}, memB k b ms → b ≤ k → (ms.length : Int) ≤ k - b
  | [], _, _, h => by simp; omega
  | x :: ms, b, ⟨h1, h2, h3⟩, _ => by
    have := memB_len h3 (by omega)
    simp only [List.length_cons]
    omega
theorem gIn_t {p : Bool → Bool} {x : D} {xs : List D} {h : MH} {Kn : RV → MH → Prop} : gIn p x (.tup xs) h Kn = (flD x = true ∧ xs.all flD = true ∧ Kn (.d (.bl (p (inD x xs)))) h) := rfl
theorem gIn_l {p : Bool → Bool} {x : D} {xs : List D} {h : MH} {Kn : RV → MH → Prop} : gIn p x (.lst xs) h Kn = (flD x = true ∧ xs.all flD = true ∧ Kn (.d (.bl (p (inD x xs)))) h) := rfl
theorem fl_ints {xs : List Int} : (xs.map D.int).all flD = true := by
  rw [List.all_eq_true]
  intro x hx
  obtain ⟨_, _, rfl⟩ := List.mem_map.mp hx
  rfl
theorem inD_ints {i : Int} : ∀ {xs : List Int}, inD (.int i) (xs.map D.int) = decide (i ∈ xs)
  | [] => rfl
  | x :: xs => by
    show (eqF (.int x) (.int i) || inD (.int i) (xs.map D.int)) = decide (i ∈ x :: xs)
    rw [inD_ints]
    show ((x == i) || decide (i ∈ xs)) = _
    by_cases e : x = i
    · simp [e]
    · have e2 : ¬ i = x := fun z => e z.symm
      simp [e, e2]
theorem line_at {k w p t m y : Int} (y0 : 0 ≤ y) (y1 : y < k) : atD ((lineI k w p t m).map D.int) y = some (.int ((t * y + m) % p % w)) := by
  have l : (lineI k w p t m).length = k.toNat := by simp [lineI]
  rw [atD_ints (cs := lineI k w p t m) (c := y) y0 (by omega)]
  congr 2
  rw [lineI, List.getD_eq_getElem?_getD, List.getElem?_map, List.getElem?_range (by omega)]
  show (t * ((y.toNat : Nat) : Int) + m) % p % w = _
  rw [Int.toNat_of_nonneg y0]
theorem rd_line_share {a : Ad} (ds : List D) (h : MH) (Kn : RV → MH → Prop) (Kx : XKm) (q : sp_line_share a ds h Kn Kx) : t_line_share a (bodyN Kn Kx) (startE ["keys", "wide", "prime", "members", "key", "count", "times", "more", "row", "one"] ds) h := by
  obtain ⟨dk, dw, dp, dm, dy, rfl, kk, kw, kp, q⟩ := q
  show t_line_share a (bodyN Kn Kx) [some dk, some dw, some dp, some dm, some dy, none, none, none, none, none] h
  have big := line_big
  unfold t_line_share
  simp only [sSeq, sSet, mTup, mCons, frzV, mOp, mVar, mC, mNil, mLst, mLam, sRet, mLc, mIter, mMeth, mMethK, mMake, mTst, mNotT, sIf, valE, mCall, mFun, mIte]
  simp only [sSeq, sSet, sSkip, sForget, sFor, sIf, sRet, sRetN, sDrop, sSetI, sAsg, sPar, sFldM, sAug, frzV, valE, mVar, mC, mOp, mUn, mCall, mFun, mMeth, mMake, mFld, mTst, mNotT, mNotV, mAndV, mOrV, mAndT, mOrT, mIte, mNil, mCons, mTup, mLst, mChain, mIter_ap, mIsi_ap, mRng1, mRng2, mLc, mYes, mCell, mRel, mSl, oNo, oSome,
  gN, gT, gsCons, gsNil, frz_d, frz_l, frz_k, gIx_p, onSet_p, onQ_p, onL_p, gLen_p, onIns_p, put_put, atD_0, atD_1, atD_2, atD_3, atD_4, ixN_0, ixN_1, ixN_2, ixN_3, ixN_4, List.length_cons, List.length_nil, onBl_b, onInt_i, onTup_t, on1_1, on2_2, onQ_l, onQ_t, onQ_s, onL_l, onLs_l, onLs_s, onD_d, onOpt_s, gII, gB, gAdd_i, gAdd_s, gAdd_t, gAdd_l, gMul_i, gMul_l, gMul_t, gSub, gMod, gDiv, gPow, gNeg, gIx_l, gIx_t, gIx_s, gLen_l, gLen_t, gLen_s, gLen_d, iterD_t, iterD_l, iterD_s,
  kind_i, kind_b, kind_s, kind_n, kind_t, kind_l, gIsN, isNon, gTuple, gList, gAll, gAny, gSum, gMin, gMax, gMin2, gMax2, gAbs, gInt, gSorted,
  List.getElem?_cons_zero, List.getElem?_cons_succ, List.getElem?_nil, List.set_cons_zero, List.set_cons_succ, List.cons_append, List.nil_append, List.append_nil, wipeE, List.any_cons, List.any_nil, isK, Bool.or_false, Bool.false_or, Bool.or_true, Bool.true_or, Bool.not_true, Bool.not_false, if_true, if_false, Bool.false_eq_true, true_and, and_true, decide_eq_true_eq, id, reduceCtorEq, gEq_i, gNe_i, gEq_b, gNe_b, gEq_li, gNe_li, gEq_l0, gNe_l0, gEq_00, gNe_00, gEq_ti, gNe_ti, mEnum, Nat.zero_add, Nat.reduceAdd, Int.reduceEq, Int.cast_ofNat_Int, Nat.zero_le, sz1, sz2, sz3, sz4, sz5, sz6, decide_true, decide_false, sAugI, mPopAt, mApp, mExt, mGet, mDNew, sPar3, sFldAugM, mZip2, mZip3, sRaise0, mMethK, cutD, mLam]
  refine ⟨dk, dw, dp, rfl, kk, kw, kp, ?_⟩
  rcases q with ⟨q, kx⟩ | ⟨k, w, p, rfl, rfl, rfl, ok, q⟩
  · exact .inr ⟨q, h, fun _ _ e => e, kx⟩
  refine .inl ⟨k, w, p, rfl, rfl, rfl, ok, ?_⟩
  simp only [sSeq, sSet, sSkip, sForget, sFor, sIf, sRet, sRetN, sDrop, sSetI, sAsg, sPar, sFldM, sAug, frzV, valE, mVar, mC, mOp, mUn, mCall, mFun, mMeth, mMake, mFld, mTst, mNotT, mNotV, mAndV, mOrV, mAndT, mOrT, mIte, mNil, mCons, mTup, mLst, mChain, mIter_ap, mIsi_ap, mRng1, mRng2, mLc, mYes, mCell, mRel, mSl, oNo, oSome,
  gN, gT, gsCons, gsNil, frz_d, frz_l, frz_k, gIx_p, onSet_p, onQ_p, onL_p, gLen_p, onIns_p, put_put, atD_0, atD_1, atD_2, atD_3, atD_4, ixN_0, ixN_1, ixN_2, ixN_3, ixN_4, List.length_cons, List.length_nil, onBl_b, onInt_i, onTup_t, on1_1, on2_2, onQ_l, onQ_t, onQ_s, onL_l, onLs_l, onLs_s, onD_d, onOpt_s, gII, gB, gAdd_i, gAdd_s, gAdd_t, gAdd_l, gMul_i, gMul_l, gMul_t, gSub, gMod, gDiv, gPow, gNeg, gIx_l, gIx_t, gIx_s, gLen_l, gLen_t, gLen_s, gLen_d, iterD_t, iterD_l, iterD_s,
  kind_i, kind_b, kind_s, kind_n, kind_t, kind_l, gIsN, isNon, gTuple, gList, gAll, gAny, gSum, gMin, gMax, gMin2, gMax2, gAbs, gInt, gSorted,
  List.getElem?_cons_zero, List.getElem?_cons_succ, List.getElem?_nil, List.set_cons_zero, List.set_cons_succ, List.cons_append, List.nil_append, List.append_nil, wipeE, List.any_cons, List.any_nil, isK, Bool.or_false, Bool.false_or, Bool.or_true, Bool.true_or, Bool.not_true, Bool.not_false, if_true, if_false, Bool.false_eq_true, true_and, and_true, decide_eq_true_eq, id, reduceCtorEq, gEq_i, gNe_i, gEq_b, gNe_b, gEq_li, gNe_li, gEq_l0, gNe_l0, gEq_00, gNe_00, gEq_ti, gNe_ti, mEnum, Nat.zero_add, Nat.reduceAdd, Int.reduceEq, Int.cast_ofNat_Int, Nat.zero_le, sz1, sz2, sz3, sz4, sz5, sz6, decide_true, decide_false, sAugI, mPopAt, mApp, mExt, mGet, mDNew, sPar3, sFldAugM, mZip2, mZip3, sRaise0, mMethK, cutD, mLam]
  rcases q with ⟨rfl, kx⟩ | ⟨ms, rfl, mb, y, rfl, q⟩
  · exact ⟨k, _, rfl, ok.k1, ok.k2, .inr (.inr ⟨rfl, h, fun _ _ e => e, kx⟩)⟩
  refine ⟨k, _, rfl, ok.k1, ok.k2, .inl ⟨ms, rfl, mb, ?_⟩⟩
  simp only [sSeq, sSet, sSkip, sForget, sFor, sIf, sRet, sRetN, sDrop, sSetI, sAsg, sPar, sFldM, sAug, frzV, valE, mVar, mC, mOp, mUn, mCall, mFun, mMeth, mMake, mFld, mTst, mNotT, mNotV, mAndV, mOrV, mAndT, mOrT, mIte, mNil, mCons, mTup, mLst, mChain, mIter_ap, mIsi_ap, mRng1, mRng2, mLc, mYes, mCell, mRel, mSl, oNo, oSome,
  gN, gT, gsCons, gsNil, frz_d, frz_l, frz_k, gIx_p, onSet_p, onQ_p, onL_p, gLen_p, onIns_p, put_put, atD_0, atD_1, atD_2, atD_3, atD_4, ixN_0, ixN_1, ixN_2, ixN_3, ixN_4, List.length_cons, List.length_nil, onBl_b, onInt_i, onTup_t, on1_1, on2_2, onQ_l, onQ_t, onQ_s, onL_l, onLs_l, onLs_s, onD_d, onOpt_s, gII, gB, gAdd_i, gAdd_s, gAdd_t, gAdd_l, gMul_i, gMul_l, gMul_t, gSub, gMod, gDiv, gPow, gNeg, gIx_l, gIx_t, gIx_s, gLen_l, gLen_t, gLen_s, gLen_d, iterD_t, iterD_l, iterD_s,
  kind_i, kind_b, kind_s, kind_n, kind_t, kind_l, gIsN, isNon, gTuple, gList, gAll, gAny, gSum, gMin, gMax, gMin2, gMax2, gAbs, gInt, gSorted,
  List.getElem?_cons_zero, List.getElem?_cons_succ, List.getElem?_nil, List.set_cons_zero, List.set_cons_succ, List.cons_append, List.nil_append, List.append_nil, wipeE, List.any_cons, List.any_nil, isK, Bool.or_false, Bool.false_or, Bool.or_true, Bool.true_or, Bool.not_true, Bool.not_false, if_true, if_false, Bool.false_eq_true, true_and, and_true, decide_eq_true_eq, id, reduceCtorEq, gEq_i, gNe_i, gEq_b, gNe_b, gEq_li, gNe_li, gEq_l0, gNe_l0, gEq_00, gNe_00, gEq_ti, gNe_ti, mEnum, Nat.zero_add, Nat.reduceAdd, Int.reduceEq, Int.cast_ofNat_Int, Nat.zero_le, sz1, sz2, sz3, sz4, sz5, sz6, decide_true, decide_false, sAugI, mPopAt, mApp, mExt, mGet, mDNew, sPar3, sFldAugM, mZip2, mZip3, sRaise0, mMethK, cutD, mLam]
  refine ⟨_, _, _, rfl, by simp [kindD], ?_⟩
  have pk := ok.pk
  have p2 := ok.p2
  have k1 := ok.k1
  have k2 := ok.k2
  rcases q with ⟨q, kx⟩ | ⟨y0, y1, yn, q⟩
  · by_cases c : 0 ≤ y ∧ y < k
    · have ym : y ∈ ms := by
        rcases q with q | q | q
        · omega
        · omega
        · exact q
      simp only [sSeq, sSet, sSkip, sForget, sFor, sIf, sRet, sRetN, sDrop, sSetI, sAsg, sPar, sFldM, sAug, frzV, valE, mVar, mC, mOp, mUn, mCall, mFun, mMeth, mMake, mFld, mTst, mNotT, mNotV, mAndV, mOrV, mAndT, mOrT, mIte, mNil, mCons, mTup, mLst, mChain, mIter_ap, mIsi_ap, mRng1, mRng2, mLc, mYes, mCell, mRel, mSl, oNo, oSome,
  gN, gT, gsCons, gsNil, frz_d, frz_l, frz_k, gIx_p, onSet_p, onQ_p, onL_p, gLen_p, onIns_p, put_put, atD_0, atD_1, atD_2, atD_3, atD_4, ixN_0, ixN_1, ixN_2, ixN_3, ixN_4, List.length_cons, List.length_nil, onBl_b, onInt_i, onTup_t, on1_1, on2_2, onQ_l, onQ_t, onQ_s, onL_l, onLs_l, onLs_s, onD_d, onOpt_s, gII, gB, gAdd_i, gAdd_s, gAdd_t, gAdd_l, gMul_i, gMul_l, gMul_t, gSub, gMod, gDiv, gPow, gNeg, gIx_l, gIx_t, gIx_s, gLen_l, gLen_t, gLen_s, gLen_d, iterD_t, iterD_l, iterD_s,
  kind_i, kind_b, kind_s, kind_n, kind_t, kind_l, gIsN, isNon, gTuple, gList, gAll, gAny, gSum, gMin, gMax, gMin2, gMax2, gAbs, gInt, gSorted,
  List.getElem?_cons_zero, List.getElem?_cons_succ, List.getElem?_nil, List.set_cons_zero, List.set_cons_succ, List.cons_append, List.nil_append, List.append_nil, wipeE, List.any_cons, List.any_nil, isK, Bool.or_false, Bool.false_or, Bool.or_true, Bool.true_or, Bool.not_true, Bool.not_false, if_true, if_false, Bool.false_eq_true, true_and, and_true, decide_eq_true_eq, id, reduceCtorEq, gEq_i, gNe_i, gEq_b, gNe_b, gEq_li, gNe_li, gEq_l0, gNe_l0, gEq_00, gNe_00, gEq_ti, gNe_ti, mEnum, Nat.zero_add, Nat.reduceAdd, Int.reduceEq, Int.cast_ofNat_Int, Nat.zero_le, sz1, sz2, sz3, sz4, sz5, sz6, decide_true, decide_false, sAugI, mPopAt, mApp, mExt, mGet, mDNew, sPar3, sFldAugM, mZip2, mZip3, sRaise0, mMethK, cutD, mLam, num_yes c.1 (show y ≤ k - 1 by omega), gIn_t, fl_ints, inD_ints, ym]
      exact ⟨rfl, h, fun _ _ e => e, kx⟩
    · have e : isNum (.int y) 0 (k - 1) = false := by
        simp only [isNum, Bool.and_eq_false_iff, decide_eq_false_iff_not]
        omega
      simp only [sSeq, sSet, sSkip, sForget, sFor, sIf, sRet, sRetN, sDrop, sSetI, sAsg, sPar, sFldM, sAug, frzV, valE, mVar, mC, mOp, mUn, mCall, mFun, mMeth, mMake, mFld, mTst, mNotT, mNotV, mAndV, mOrV, mAndT, mOrT, mIte, mNil, mCons, mTup, mLst, mChain, mIter_ap, mIsi_ap, mRng1, mRng2, mLc, mYes, mCell, mRel, mSl, oNo, oSome,
  gN, gT, gsCons, gsNil, frz_d, frz_l, frz_k, gIx_p, onSet_p, onQ_p, onL_p, gLen_p, onIns_p, put_put, atD_0, atD_1, atD_2, atD_3, atD_4, ixN_0, ixN_1, ixN_2, ixN_3, ixN_4, List.length_cons, List.length_nil, onBl_b, onInt_i, onTup_t, on1_1, on2_2, onQ_l, onQ_t, onQ_s, onL_l, onLs_l, onLs_s, onD_d, onOpt_s, gII, gB, gAdd_i, gAdd_s, gAdd_t, gAdd_l, gMul_i, gMul_l, gMul_t, gSub, gMod, gDiv, gPow, gNeg, gIx_l, gIx_t, gIx_s, gLen_l, gLen_t, gLen_s, gLen_d, iterD_t, iterD_l, iterD_s,
  kind_i, kind_b, kind_s, kind_n, kind_t, kind_l, gIsN, isNon, gTuple, gList, gAll, gAny, gSum, gMin, gMax, gMin2, gMax2, gAbs, gInt, gSorted,
  List.getElem?_cons_zero, List.getElem?_cons_succ, List.getElem?_nil, List.set_cons_zero, List.set_cons_succ, List.cons_append, List.nil_append, List.append_nil, wipeE, List.any_cons, List.any_nil, isK, Bool.or_false, Bool.false_or, Bool.or_true, Bool.true_or, Bool.not_true, Bool.not_false, if_true, if_false, Bool.false_eq_true, true_and, and_true, decide_eq_true_eq, id, reduceCtorEq, gEq_i, gNe_i, gEq_b, gNe_b, gEq_li, gNe_li, gEq_l0, gNe_l0, gEq_00, gNe_00, gEq_ti, gNe_ti, mEnum, Nat.zero_add, Nat.reduceAdd, Int.reduceEq, Int.cast_ofNat_Int, Nat.zero_le, sz1, sz2, sz3, sz4, sz5, sz6, decide_true, decide_false, sAugI, mPopAt, mApp, mExt, mGet, mDNew, sPar3, sFldAugM, mZip2, mZip3, sRaise0, mMethK, cutD, mLam, e]
      exact ⟨h, fun _ _ e => e, kx⟩
  have lm := memB_len mb (by omega)
  simp only [sSeq, sSet, sSkip, sForget, sFor, sIf, sRet, sRetN, sDrop, sSetI, sAsg, sPar, sFldM, sAug, frzV, valE, mVar, mC, mOp, mUn, mCall, mFun, mMeth, mMake, mFld, mTst, mNotT, mNotV, mAndV, mOrV, mAndT, mOrT, mIte, mNil, mCons, mTup, mLst, mChain, mIter_ap, mIsi_ap, mRng1, mRng2, mLc, mYes, mCell, mRel, mSl, oNo, oSome,
  gN, gT, gsCons, gsNil, frz_d, frz_l, frz_k, gIx_p, onSet_p, onQ_p, onL_p, gLen_p, onIns_p, put_put, atD_0, atD_1, atD_2, atD_3, atD_4, ixN_0, ixN_1, ixN_2, ixN_3, ixN_4, List.length_cons, List.length_nil, onBl_b, onInt_i, onTup_t, on1_1, on2_2, onQ_l, onQ_t, onQ_s, onL_l, onLs_l, onLs_s, onD_d, onOpt_s, gII, gB, gAdd_i, gAdd_s, gAdd_t, gAdd_l, gMul_i, gMul_l, gMul_t, gSub, gMod, gDiv, gPow, gNeg, gIx_l, gIx_t, gIx_s, gLen_l, gLen_t, gLen_s, gLen_d, iterD_t, iterD_l, iterD_s,
  kind_i, kind_b, kind_s, kind_n, kind_t, kind_l, gIsN, isNon, gTuple, gList, gAll, gAny, gSum, gMin, gMax, gMin2, gMax2, gAbs, gInt, gSorted,
  List.getElem?_cons_zero, List.getElem?_cons_succ, List.getElem?_nil, List.set_cons_zero, List.set_cons_succ, List.cons_append, List.nil_append, List.append_nil, wipeE, List.any_cons, List.any_nil, isK, Bool.or_false, Bool.false_or, Bool.or_true, Bool.true_or, Bool.not_true, Bool.not_false, if_true, if_false, Bool.false_eq_true, true_and, and_true, decide_eq_true_eq, id, reduceCtorEq, gEq_i, gNe_i, gEq_b, gNe_b, gEq_li, gNe_li, gEq_l0, gNe_l0, gEq_00, gNe_00, gEq_ti, gNe_ti, mEnum, Nat.zero_add, Nat.reduceAdd, Int.reduceEq, Int.cast_ofNat_Int, Nat.zero_le, sz1, sz2, sz3, sz4, sz5, sz6, decide_true, decide_false, sAugI, mPopAt, mApp, mExt, mGet, mDNew, sPar3, sFldAugM, mZip2, mZip3, sRaise0, mMethK, cutD, mLam, num_yes y0 (show y ≤ k - 1 by omega), gIn_t, fl_ints, inD_ints, yn]
  refine ⟨rfl, ⟨by decide, by decide, by omega, by omega⟩, ?_⟩
  refine for_inv (fun i E h' => h' = h ∧ E = [some (.int k), some (.int w), some (.int p), some (.tup (ms.map D.int)), some (.int y), some (.int (((List.range i).foldl (fun (c : Nat) (t : Nat) => (List.range p.toNat).foldl (fun (c : Nat) (m : Nat) => c + if hitB w p y ms (1 + (t : Int)) (0 + (m : Int)) = true then 1 else 0) c) 0 : Nat) : Int)), none, none, none, none]) ⟨rfl, rfl⟩ ?_ ?_
  · rintro t d E h' kc ht ⟨rfl, rfl⟩ hk
    obtain ⟨tl, rfl⟩ : t < (p - 1).toNat ∧ d = .int (1 + (t : Int)) := by
      unfold rngD at ht
      obtain ⟨j, hj, rfl⟩ := map_getD ht
      obtain ⟨h1, h2⟩ := List.getElem?_eq_some_iff.mp hj
      rw [List.getElem_range] at h2
      subst h2
      simp at h1
      exact ⟨by omega, rfl⟩
    generalize hc : (List.range t).foldl (fun (c : Nat) (t : Nat) => (List.range p.toNat).foldl (fun (c : Nat) (m : Nat) => c + if hitB w p y ms (1 + (t : Int)) (0 + (m : Int)) = true then 1 else 0) c) 0 = c0 at hk ⊢
    simp only [sSeq, sSet, sSkip, sForget, sFor, sIf, sRet, sRetN, sDrop, sSetI, sAsg, sPar, sFldM, sAug, frzV, valE, mVar, mC, mOp, mUn, mCall, mFun, mMeth, mMake, mFld, mTst, mNotT, mNotV, mAndV, mOrV, mAndT, mOrT, mIte, mNil, mCons, mTup, mLst, mChain, mIter_ap, mIsi_ap, mRng1, mRng2, mLc, mYes, mCell, mRel, mSl, oNo, oSome,
  gN, gT, gsCons, gsNil, frz_d, frz_l, frz_k, gIx_p, onSet_p, onQ_p, onL_p, gLen_p, onIns_p, put_put, atD_0, atD_1, atD_2, atD_3, atD_4, ixN_0, ixN_1, ixN_2, ixN_3, ixN_4, List.length_cons, List.length_nil, onBl_b, onInt_i, onTup_t, on1_1, on2_2, onQ_l, onQ_t, onQ_s, onL_l, onLs_l, onLs_s, onD_d, onOpt_s, gII, gB, gAdd_i, gAdd_s, gAdd_t, gAdd_l, gMul_i, gMul_l, gMul_t, gSub, gMod, gDiv, gPow, gNeg, gIx_l, gIx_t, gIx_s, gLen_l, gLen_t, gLen_s, gLen_d, iterD_t, iterD_l, iterD_s,
  kind_i, kind_b, kind_s, kind_n, kind_t, kind_l, gIsN, isNon, gTuple, gList, gAll, gAny, gSum, gMin, gMax, gMin2, gMax2, gAbs, gInt, gSorted,
  List.getElem?_cons_zero, List.getElem?_cons_succ, List.getElem?_nil, List.set_cons_zero, List.set_cons_succ, List.cons_append, List.nil_append, List.append_nil, wipeE, List.any_cons, List.any_nil, isK, Bool.or_false, Bool.false_or, Bool.or_true, Bool.true_or, Bool.not_true, Bool.not_false, if_true, if_false, Bool.false_eq_true, true_and, and_true, decide_eq_true_eq, id, reduceCtorEq, gEq_i, gNe_i, gEq_b, gNe_b, gEq_li, gNe_li, gEq_l0, gNe_l0, gEq_00, gNe_00, gEq_ti, gNe_ti, mEnum, Nat.zero_add, Nat.reduceAdd, Int.reduceEq, Int.cast_ofNat_Int, Nat.zero_le, sz1, sz2, sz3, sz4, sz5, sz6, decide_true, decide_false, sAugI, mPopAt, mApp, mExt, mGet, mDNew, sPar3, sFldAugM, mZip2, mZip3, sRaise0, mMethK, cutD, mLam]
    refine ⟨⟨by omega, by omega⟩, ?_⟩
    refine for_inv (fun i E h2 => h2 = h' ∧ E = [some (.int k), some (.int w), some (.int p), some (.tup (ms.map D.int)), some (.int y), some (.int (((List.range i).foldl (fun (c : Nat) (m : Nat) => c + if hitB w p y ms (1 + (t : Int)) (0 + (m : Int)) = true then 1 else 0) c0 : Nat) : Int)), some (.int (1 + (t : Int))), none, none, none]) ⟨rfl, rfl⟩ ?_ ?_
    · rintro m d E h2 kc2 hm ⟨rfl, rfl⟩ hk2
      obtain ⟨ml, rfl⟩ : m < p.toNat ∧ d = .int (0 + (m : Int)) := by
        unfold rngD at hm
        obtain ⟨j, hj, rfl⟩ := map_getD hm
        obtain ⟨h1, h2⟩ := List.getElem?_eq_some_iff.mp hj
        rw [List.getElem_range] at h2
        subst h2
        simp at h1
        exact ⟨by omega, rfl⟩
      generalize hc1 : (List.range m).foldl (fun (c : Nat) (m : Nat) => c + if hitB w p y ms (1 + (t : Int)) (0 + (m : Int)) = true then 1 else 0) c0 = c1 at hk2 ⊢
      simp only [sSeq, sSet, sSkip, sForget, sFor, sIf, sRet, sRetN, sDrop, sSetI, sAsg, sPar, sFldM, sAug, frzV, valE, mVar, mC, mOp, mUn, mCall, mFun, mMeth, mMake, mFld, mTst, mNotT, mNotV, mAndV, mOrV, mAndT, mOrT, mIte, mNil, mCons, mTup, mLst, mChain, mIter_ap, mIsi_ap, mRng1, mRng2, mLc, mYes, mCell, mRel, mSl, oNo, oSome,
  gN, gT, gsCons, gsNil, frz_d, frz_l, frz_k, gIx_p, onSet_p, onQ_p, onL_p, gLen_p, onIns_p, put_put, atD_0, atD_1, atD_2, atD_3, atD_4, ixN_0, ixN_1, ixN_2, ixN_3, ixN_4, List.length_cons, List.length_nil, onBl_b, onInt_i, onTup_t, on1_1, on2_2, onQ_l, onQ_t, onQ_s, onL_l, onLs_l, onLs_s, onD_d, onOpt_s, gII, gB, gAdd_i, gAdd_s, gAdd_t, gAdd_l, gMul_i, gMul_l, gMul_t, gSub, gMod, gDiv, gPow, gNeg, gIx_l, gIx_t, gIx_s, gLen_l, gLen_t, gLen_s, gLen_d, iterD_t, iterD_l, iterD_s,
  kind_i, kind_b, kind_s, kind_n, kind_t, kind_l, gIsN, isNon, gTuple, gList, gAll, gAny, gSum, gMin, gMax, gMin2, gMax2, gAbs, gInt, gSorted,
  List.getElem?_cons_zero, List.getElem?_cons_succ, List.getElem?_nil, List.set_cons_zero, List.set_cons_succ, List.cons_append, List.nil_append, List.append_nil, wipeE, List.any_cons, List.any_nil, isK, Bool.or_false, Bool.false_or, Bool.or_true, Bool.true_or, Bool.not_true, Bool.not_false, if_true, if_false, Bool.false_eq_true, true_and, and_true, decide_eq_true_eq, id, reduceCtorEq, gEq_i, gNe_i, gEq_b, gNe_b, gEq_li, gNe_li, gEq_l0, gNe_l0, gEq_00, gNe_00, gEq_ti, gNe_ti, mEnum, Nat.zero_add, Nat.reduceAdd, Int.reduceEq, Int.cast_ofNat_Int, Nat.zero_le, sz1, sz2, sz3, sz4, sz5, sz6, decide_true, decide_false, sAugI, mPopAt, mApp, mExt, mGet, mDNew, sPar3, sFldAugM, mZip2, mZip3, sRaise0, mMethK, cutD, mLam]
      refine ⟨k, w, p, 1 + (t : Int), 0 + (m : Int), rfl, ok, by omega, by omega, by omega, by omega, ?_⟩
      simp only [sSeq, sSet, sSkip, sForget, sFor, sIf, sRet, sRetN, sDrop, sSetI, sAsg, sPar, sFldM, sAug, frzV, valE, mVar, mC, mOp, mUn, mCall, mFun, mMeth, mMake, mFld, mTst, mNotT, mNotV, mAndV, mOrV, mAndT, mOrT, mIte, mNil, mCons, mTup, mLst, mChain, mIter_ap, mIsi_ap, mRng1, mRng2, mLc, mYes, mCell, mRel, mSl, oNo, oSome,
  gN, gT, gsCons, gsNil, frz_d, frz_l, frz_k, gIx_p, onSet_p, onQ_p, onL_p, gLen_p, onIns_p, put_put, atD_0, atD_1, atD_2, atD_3, atD_4, ixN_0, ixN_1, ixN_2, ixN_3, ixN_4, List.length_cons, List.length_nil, onBl_b, onInt_i, onTup_t, on1_1, on2_2, onQ_l, onQ_t, onQ_s, onL_l, onLs_l, onLs_s, onD_d, onOpt_s, gII, gB, gAdd_i, gAdd_s, gAdd_t, gAdd_l, gMul_i, gMul_l, gMul_t, gSub, gMod, gDiv, gPow, gNeg, gIx_l, gIx_t, gIx_s, gLen_l, gLen_t, gLen_s, gLen_d, iterD_t, iterD_l, iterD_s,
  kind_i, kind_b, kind_s, kind_n, kind_t, kind_l, gIsN, isNon, gTuple, gList, gAll, gAny, gSum, gMin, gMax, gMin2, gMax2, gAbs, gInt, gSorted,
  List.getElem?_cons_zero, List.getElem?_cons_succ, List.getElem?_nil, List.set_cons_zero, List.set_cons_succ, List.cons_append, List.nil_append, List.append_nil, wipeE, List.any_cons, List.any_nil, isK, Bool.or_false, Bool.false_or, Bool.or_true, Bool.true_or, Bool.not_true, Bool.not_false, if_true, if_false, Bool.false_eq_true, true_and, and_true, decide_eq_true_eq, id, reduceCtorEq, gEq_i, gNe_i, gEq_b, gNe_b, gEq_li, gNe_li, gEq_l0, gNe_l0, gEq_00, gNe_00, gEq_ti, gNe_ti, mEnum, Nat.zero_add, Nat.reduceAdd, Int.reduceEq, Int.cast_ofNat_Int, Nat.zero_le, sz1, sz2, sz3, sz4, sz5, sz6, decide_true, decide_false, sAugI, mPopAt, mApp, mExt, mGet, mDNew, sPar3, sFldAugM, mZip2, mZip3, sRaise0, mMethK, cutD, mLam, line_at y0 y1]
      refine lc_mapA ms D.int (fun one => .int (((1 + (t : Int)) * one + (0 + (m : Int))) % p % w)) (by omega) ?_ ?_
      · intro one ho acc kc3 ha q3
        have := memB_in mb one ho
        simp only [sSeq, sSet, sSkip, sForget, sFor, sIf, sRet, sRetN, sDrop, sSetI, sAsg, sPar, sFldM, sAug, frzV, valE, mVar, mC, mOp, mUn, mCall, mFun, mMeth, mMake, mFld, mTst, mNotT, mNotV, mAndV, mOrV, mAndT, mOrT, mIte, mNil, mCons, mTup, mLst, mChain, mIter_ap, mIsi_ap, mRng1, mRng2, mLc, mYes, mCell, mRel, mSl, oNo, oSome,
  gN, gT, gsCons, gsNil, frz_d, frz_l, frz_k, gIx_p, onSet_p, onQ_p, onL_p, gLen_p, onIns_p, put_put, atD_0, atD_1, atD_2, atD_3, atD_4, ixN_0, ixN_1, ixN_2, ixN_3, ixN_4, List.length_cons, List.length_nil, onBl_b, onInt_i, onTup_t, on1_1, on2_2, onQ_l, onQ_t, onQ_s, onL_l, onLs_l, onLs_s, onD_d, onOpt_s, gII, gB, gAdd_i, gAdd_s, gAdd_t, gAdd_l, gMul_i, gMul_l, gMul_t, gSub, gMod, gDiv, gPow, gNeg, gIx_l, gIx_t, gIx_s, gLen_l, gLen_t, gLen_s, gLen_d, iterD_t, iterD_l, iterD_s,
  kind_i, kind_b, kind_s, kind_n, kind_t, kind_l, gIsN, isNon, gTuple, gList, gAll, gAny, gSum, gMin, gMax, gMin2, gMax2, gAbs, gInt, gSorted,
  List.getElem?_cons_zero, List.getElem?_cons_succ, List.getElem?_nil, List.set_cons_zero, List.set_cons_succ, List.cons_append, List.nil_append, List.append_nil, wipeE, List.any_cons, List.any_nil, isK, Bool.or_false, Bool.false_or, Bool.or_true, Bool.true_or, Bool.not_true, Bool.not_false, if_true, if_false, Bool.false_eq_true, true_and, and_true, decide_eq_true_eq, id, reduceCtorEq, gEq_i, gNe_i, gEq_b, gNe_b, gEq_li, gNe_li, gEq_l0, gNe_l0, gEq_00, gNe_00, gEq_ti, gNe_ti, mEnum, Nat.zero_add, Nat.reduceAdd, Int.reduceEq, Int.cast_ofNat_Int, Nat.zero_le, sz1, sz2, sz3, sz4, sz5, sz6, decide_true, decide_false, sAugI, mPopAt, mApp, mExt, mGet, mDNew, sPar3, sFldAugM, mZip2, mZip3, sRaise0, mMethK, cutD, mLam, line_at (k := k) (w := w) (p := p) (t := 1 + (t : Int)) (m := 0 + (m : Int)) (y := one) (by omega) this.2]
        exact ⟨ha, q3⟩
      · have e : ms.map (fun one => D.int (((1 + (t : Int)) * one + (0 + (m : Int))) % p % w)) = (ms.map fun one => ((1 + (t : Int)) * one + (0 + (m : Int))) % p % w).map D.int := by rw [List.map_map]; rfl
        rw [e]
        simp only [sSeq, sSet, sSkip, sForget, sFor, sIf, sRet, sRetN, sDrop, sSetI, sAsg, sPar, sFldM, sAug, frzV, valE, mVar, mC, mOp, mUn, mCall, mFun, mMeth, mMake, mFld, mTst, mNotT, mNotV, mAndV, mOrV, mAndT, mOrT, mIte, mNil, mCons, mTup, mLst, mChain, mIter_ap, mIsi_ap, mRng1, mRng2, mLc, mYes, mCell, mRel, mSl, oNo, oSome,
  gN, gT, gsCons, gsNil, frz_d, frz_l, frz_k, gIx_p, onSet_p, onQ_p, onL_p, gLen_p, onIns_p, put_put, atD_0, atD_1, atD_2, atD_3, atD_4, ixN_0, ixN_1, ixN_2, ixN_3, ixN_4, List.length_cons, List.length_nil, onBl_b, onInt_i, onTup_t, on1_1, on2_2, onQ_l, onQ_t, onQ_s, onL_l, onLs_l, onLs_s, onD_d, onOpt_s, gII, gB, gAdd_i, gAdd_s, gAdd_t, gAdd_l, gMul_i, gMul_l, gMul_t, gSub, gMod, gDiv, gPow, gNeg, gIx_l, gIx_t, gIx_s, gLen_l, gLen_t, gLen_s, gLen_d, iterD_t, iterD_l, iterD_s,
  kind_i, kind_b, kind_s, kind_n, kind_t, kind_l, gIsN, isNon, gTuple, gList, gAll, gAny, gSum, gMin, gMax, gMin2, gMax2, gAbs, gInt, gSorted,
  List.getElem?_cons_zero, List.getElem?_cons_succ, List.getElem?_nil, List.set_cons_zero, List.set_cons_succ, List.cons_append, List.nil_append, List.append_nil, wipeE, List.any_cons, List.any_nil, isK, Bool.or_false, Bool.false_or, Bool.or_true, Bool.true_or, Bool.not_true, Bool.not_false, if_true, if_false, Bool.false_eq_true, true_and, and_true, decide_eq_true_eq, id, reduceCtorEq, gEq_i, gNe_i, gEq_b, gNe_b, gEq_li, gNe_li, gEq_l0, gNe_l0, gEq_00, gNe_00, gEq_ti, gNe_ti, mEnum, Nat.zero_add, Nat.reduceAdd, Int.reduceEq, Int.cast_ofNat_Int, Nat.zero_le, sz1, sz2, sz3, sz4, sz5, sz6, decide_true, decide_false, sAugI, mPopAt, mApp, mExt, mGet, mDNew, sPar3, sFldAugM, mZip2, mZip3, sRaise0, mMethK, cutD, mLam, gIn_l, fl_ints, inD_ints, gInt]
        refine ⟨rfl, hk2 _ _ ⟨rfl, ?_⟩⟩
        rw [List.range_succ, List.foldl_append, hc1]
        show _ = [_, _, _, _, _, some (D.int ((c1 + if hitB w p y ms (1 + (t : Int)) (0 + (m : Int)) = true then 1 else 0 : Nat) : Int)), _, _, _, _]
        unfold hitB
        by_cases hh : ((1 + (t : Int)) * y + (0 + (m : Int))) % p % w ∈ ms.map fun one => ((1 + (t : Int)) * one + (0 + (m : Int))) % p % w
        · rw [if_pos hh, decide_eq_true hh]
          rfl
        · rw [if_neg hh, decide_eq_false hh]
          rfl
    · rintro E h2 ⟨rfl, rfl⟩
      refine hk _ _ ⟨rfl, ?_⟩
      rw [List.range_succ, List.foldl_append, hc]
      have e : (rngD 0 p.toNat).length = p.toNat := rng_len
      rw [e]
      rfl
  · rintro E h' ⟨rfl, rfl⟩
    have e : (rngD 1 (p - 1).toNat).length = (p - 1).toNat := rng_len
    rw [e]
    have e2 : ((p * (p - 1) : Int)) = ((p.toNat * (p.toNat - 1) : Nat) : Int) := by
      obtain ⟨n, rfl⟩ := Int.eq_ofNat_of_zero_le (show 0 ≤ p by omega)
      rw [Int.toNat_natCast, Int.natCast_mul, Int.natCast_sub (by omega)]
      rfl
    have e3 : p.toNat * (p.toNat - 1) ≤ 4000 := Nat.le_trans (Nat.mul_le_mul (show p.toNat ≤ 61 by omega) (show p.toNat - 1 ≤ 60 by omega)) (by decide)
    simp only [sSeq, sSet, sSkip, sForget, sFor, sIf, sRet, sRetN, sDrop, sSetI, sAsg, sPar, sFldM, sAug, frzV, valE, mVar, mC, mOp, mUn, mCall, mFun, mMeth, mMake, mFld, mTst, mNotT, mNotV, mAndV, mOrV, mAndT, mOrT, mIte, mNil, mCons, mTup, mLst, mChain, mIter_ap, mIsi_ap, mRng1, mRng2, mLc, mYes, mCell, mRel, mSl, oNo, oSome,
  gN, gT, gsCons, gsNil, frz_d, frz_l, frz_k, gIx_p, onSet_p, onQ_p, onL_p, gLen_p, onIns_p, put_put, atD_0, atD_1, atD_2, atD_3, atD_4, ixN_0, ixN_1, ixN_2, ixN_3, ixN_4, List.length_cons, List.length_nil, onBl_b, onInt_i, onTup_t, on1_1, on2_2, onQ_l, onQ_t, onQ_s, onL_l, onLs_l, onLs_s, onD_d, onOpt_s, gII, gB, gAdd_i, gAdd_s, gAdd_t, gAdd_l, gMul_i, gMul_l, gMul_t, gSub, gMod, gDiv, gPow, gNeg, gIx_l, gIx_t, gIx_s, gLen_l, gLen_t, gLen_s, gLen_d, iterD_t, iterD_l, iterD_s,
  kind_i, kind_b, kind_s, kind_n, kind_t, kind_l, gIsN, isNon, gTuple, gList, gAll, gAny, gSum, gMin, gMax, gMin2, gMax2, gAbs, gInt, gSorted,
  List.getElem?_cons_zero, List.getElem?_cons_succ, List.getElem?_nil, List.set_cons_zero, List.set_cons_succ, List.cons_append, List.nil_append, List.append_nil, wipeE, List.any_cons, List.any_nil, isK, Bool.or_false, Bool.false_or, Bool.or_true, Bool.true_or, Bool.not_true, Bool.not_false, if_true, if_false, Bool.false_eq_true, true_and, and_true, decide_eq_true_eq, id, reduceCtorEq, gEq_i, gNe_i, gEq_b, gNe_b, gEq_li, gNe_li, gEq_l0, gNe_l0, gEq_00, gNe_00, gEq_ti, gNe_ti, mEnum, Nat.zero_add, Nat.reduceAdd, Int.reduceEq, Int.cast_ofNat_Int, Nat.zero_le, sz1, sz2, sz3, sz4, sz5, sz6, decide_true, decide_false, sAugI, mPopAt, mApp, mExt, mGet, mDNew, sPar3, sFldAugM, mZip2, mZip3, sRaise0, mMethK, cutD, mLam, e2]
    have p1 : 1 < p := by
      have := ok.pr
      unfold primeB at this
      simp only [Bool.and_eq_true, decide_eq_true_eq] at this
      exact this.1
    refine ⟨.inl (.inl ⟨by omega, by omega⟩), _, _, rfl, Nat.mul_pos (by omega) (by omega), e3, ?_⟩
    exact bodyN_rt0 q
end M3
set_option Elab.async false
set_option linter.all false
set_option maxRecDepth 100000
set_option maxHeartbeats 8000000
namespace M3
open PySem PySem.Spec PyProof.Rows L2
def t_some (a : Ad) : TSm :=
  (sSeq (sSet 10 (frzV (mOp gIx (mVar 9) (frzV (mFun (sp_law_taken a) [] (mCons (mVar 1) (mCons (frzV (mCall gLen (mCons (mVar 9) mNil))) mNil)))))))
  (sSeq (sSet 11 (mC (.int 0)))
  (sSeq (sForget [12, 13, 14] (sFor (mRng2 (mCons (mC (.int 1)) (mCons (mVar 2) mNil))) (gN 12)
   (sForget [12, 13, 14] (sForget [13, 14] (sFor (mRng1 (mCons (mVar 2) mNil)) (gN 13)
   (sForget [13, 14] (sSeq (sSet 14 (frzV (mOp gMod (frzV (mOp gMod (frzV (mOp gAdd (frzV (mOp gMul (mVar 12) (mVar 10))) (mVar 13))) (mVar 2))) (mVar 4))))
  (sSet 11 (frzV (mOp gAdd (mVar 11) (frzV (mCall gInt (mCons (frzV (mOp (gIn id) (mVar 14) (frzV (mLc (mIter (mVar 8)) (gN 19) mYes (frzV (mOp gMod (frzV (mOp gMod (frzV (mOp gAdd (frzV (mOp gMul (mVar 12) (mVar 19))) (mVar 13))) (mVar 2))) (mVar 4))) [19])))) mNil)))))))))))))
  (sIf (mNotT (mTst (frzV (mFun (sp_law_alike a 6) [] (mCons (frzV (mFun (sp_line_share a) [] (mCons (mVar 3) (mCons (mVar 4) (mCons (mVar 2) (mCons (mVar 8) (mCons (mVar 10) mNil))))))) (mCons (frzV (mFun (sp_law_part a) [] (mCons (mVar 11) (mCons (frzV (mOp gMul (mVar 2) (frzV (mOp gSub (mVar 2) (mC (.int 1)))))) mNil)))) mNil)))))) (sRet (valE (mC (.bl false)))) sSkip))))
def t_ask (a : Ad) (c : LX) : TSm :=
  (sSeq (sIf (mTst (frzV (mOp gNe (frzV (mLc (mIter (mVar 17)) (gN 18) (mTst (frzV (mOp gNe (frzV (mWordC ([12, 13] ++ [18]) a c 8 (tabs_law a) (mVar 18))) (mTup (mCons (mC (.str "number")) (mCons (mC .non) mNil)))))) (mVar 18) [18])) (frzV (mLst mNil))))) (sRet (valE (mC (.bl false)))) sSkip)
  (sRet (mOp gEq (frzV (mWordC [12, 13] a c 8 (tabs_law a) (mLam c 7))) (mTup (mCons (mC (.str "counts")) (mCons (mC (.int 0)) mNil))))))
def t_works (a : Ad) (c : LX) : TSm :=
  (sSeq (sSet 17 (frzV (mCell (mLst (mCons (mLam c 0) (mCons (mLam c 1) mNil))))))
  (sSeq (sSet 17 (frzV (mCell (mOp gAdd (mVar 17) (frzV (mLst (mCons (mLam c 2) mNil)))))))
  (sSeq (sSet 17 (frzV (mCell (mOp gAdd (mVar 17) (frzV (mLst (mCons (mLam c 3) mNil)))))))
  (sSeq (sSet 17 (frzV (mCell (mOp gAdd (mVar 17) (frzV (mLst (mCons (mLam c 4) mNil)))))))
  (sSeq (sSet 17 (frzV (mCell (mOp gAdd (mVar 17) (frzV (mLst (mCons (mLam c 5) mNil)))))))
  (sSeq (sDrop (mApp (mVar 17) (mLam c 6)))
  (t_ask a c)))))))
def t_end (a : Ad) (c : LX) : TSm :=
  (sSeq (sSet 15 (frzV (mOp gMul (frzV (mFun (sp_law_taken a) [] (mCons (mVar 1) (mCons (mC (.int 2)) mNil)))) (frzV (mFun (sp_law_taken a) [] (mCons (mVar 1) (mCons (mC (.int 999)) mNil)))))))
  (sSeq (sSet 16 (frzV (mOp gIx (frzV (mLst (mCons (mC (.int 4)) (mCons (mC (.int 9)) (mCons (frzV (mOp gAdd (mC (.int 62)) (mVar 15))) (mCons (mC (.int 0)) (mCons (mC (.int 1)) (mCons (mC .non) (mCons (mC (.bl true)) (mCons (mC (.str "5")) (mCons (frzV (mIte (mTst (frzV (mOp (gB fun i j => decide (i < j)) (mVar 3) (mC (.int 3))))) (mOp gSub (mVar 3) (mC (.int 1))) (valE (mC (.int 6))))) (mCons (mC (.int 49)) (mCons (mC (.int 25)) (mCons (mC (.int 35)) (mCons (mC (.int 55)) mNil))))))))))))))) (frzV (mFun (sp_law_taken a) [] (mCons (mVar 1) (mCons (mC (.int 13)) mNil)))))))
  (t_works a c)))
theorem t_law_eq {a : Ad} {c : LX} : t_law a c = 
    (sSeq (sSet 1 (frzV (mCell (mFun (sp_law_row a) [] (mCons (mVar 0) mNil)))))
  (sSeq (sSet 2 (frzV (mOp gIx (frzV (mLst (mCons (mC (.int 2)) (mCons (mC (.int 3)) (mCons (mC (.int 5)) (mCons (mC (.int 7)) (mCons (mC (.int 11)) (mCons (mC (.int 13)) (mCons (mC (.int 41)) (mCons (mC (.int 61)) mNil)))))))))) (frzV (mFun (sp_law_taken a) [] (mCons (mVar 1) (mCons (mC (.int 8)) mNil)))))))
  (sSeq (sAsg (mTup (mCons (frzV (mOp gAdd (mC (.int 1)) (frzV (mFun (sp_law_taken a) [] (mCons (mVar 1) (mCons (frzV (mCall gMin2 (mCons (mVar 2) (mCons (mC (.int 8)) mNil)))) mNil)))))) (mCons (frzV (mOp gAdd (mC (.int 1)) (frzV (mFun (sp_law_taken a) [] (mCons (mVar 1) (mCons (mC (.int 6)) mNil)))))) mNil))) (gT 2 (gsCons (gN 3) (gsCons (gN 4) gsNil))))
  (sSeq (sAsg (mTup (mCons (frzV (mOp gAdd (mC (.int 1)) (frzV (mFun (sp_law_taken a) [] (mCons (mVar 1) (mCons (frzV (mOp gSub (mVar 2) (mC (.int 1)))) mNil)))))) (mCons (frzV (mFun (sp_law_taken a) [] (mCons (mVar 1) (mCons (mVar 2) mNil)))) mNil))) (gT 2 (gsCons (gN 5) (gsCons (gN 6) gsNil))))
  (sSeq (sSet 7 (frzV (mCall gTuple (mCons (frzV (mLc (mRng1 (mCons (mVar 3) mNil)) (gN 10) mYes (frzV (mOp gMod (frzV (mOp gMod (frzV (mOp gAdd (frzV (mOp gMul (mVar 5) (mVar 10))) (mVar 6))) (mVar 2))) (mVar 4))) [10])) mNil))))
  (sSeq (sIf (mNotT (mTst (frzV (mFun (sp_law_alike a 6) [] (mCons (frzV (mFun (sp_line a) [] (mCons (mVar 3) (mCons (mVar 4) (mCons (mVar 2) (mCons (mVar 5) (mCons (mVar 6) mNil))))))) (mCons (mVar 7) mNil)))))) (sRet (valE (mC (.bl false)))) sSkip)
  (sSeq (sSet 8 (frzV (mFun (sp_law_members a) [] (mCons (mVar 1) (mCons (mVar 3) mNil)))))
  (sSeq (sSet 9 (frzV (mLc (mRng1 (mCons (mVar 3) mNil)) (gN 10) (mTst (frzV (mOp (gIn not) (mVar 10) (mVar 8)))) (mVar 10) [10])))
  (sSeq (sForget [10, 11, 12, 13, 14] (sIf (mTst (frzV (mOp gNe (mVar 9) (frzV (mLst mNil))))) (t_some a) sSkip))
  (t_end a c)))))))))) := rfl
theorem RowAt.ne {h : MH} {r q : Addr} {m : MO} (R : RowAt h r) (n : r ≠ q) : RowAt (put h q m) r := by
  obtain ⟨ns, pos, ex, mx, e, hp⟩ := R
  exact ⟨ns, pos, ex, mx, (put_ne n).trans e, hp⟩
theorem RowAt.del {h : MH} {r q : Addr} (R : RowAt h r) (n : r ≠ q) : RowAt (del h q) r := by
  obtain ⟨ns, pos, ex, mx, e, hp⟩ := R
  exact ⟨ns, pos, ex, mx, (del_ne n).trans e, hp⟩
abbrev numD : D := .tup [.str "number", .non]
abbrev couD : D := .tup [.str "counts", .int 0]
theorem word_num {a : Ad} {k : D → Prop} (h : k numD) : wordX a ⟨a.BadNumber, []⟩ k := .inr (.inr (.inr (.inl ⟨rfl, h⟩)))
theorem word_cou {a : Ad} {k : D → Prop} (h : k couD) : wordX a ⟨a.BadCounts, [("number", .int 0)]⟩ k := .inr (.inr (.inl ⟨rfl, 0, rfl, h⟩))
theorem pl_num : plD 1 numD = true := by decide +kernel
theorem pl_cou : plD 1 couD = true := by decide +kernel
theorem ne_num {h : MH} {Kn : RV → MH → Prop} : gNe numD numD h Kn = Kn (.d (.bl false)) h := by
  rw [gNe_ok (x := numD) (y := numD) ⟨1, by omega, pl_num⟩ ⟨1, by omega, pl_num⟩, show res h numD = numD from rfl, eqD_refl pl_num]
  rfl
theorem eq_cou {h : MH} {Kn : RV → MH → Prop} : gEq couD couD h Kn = Kn (.d (.bl true)) h := by
  rw [gEq_ok (x := couD) (y := couD) ⟨1, by omega, pl_cou⟩ ⟨1, by omega, pl_cou⟩, show res h couD = couD from rfl, eqD_refl pl_cou]
theorem rd_ask {a : Ad} {c : LX} {N : Nd} {e0 e5 e6 e7 e9 : Option D} {r q : Addr} {k w p far : Int} {ms : List Int} {dbad : D} {h : MH} (ok : LineOk k w p) (mb : memB k (-1) ms) (f0 : 0 ≤ far) (kb : ∀ h, kindD h dbad ≠ none) (lb : LineBad (.int k) (.int w) dbad) (R : RowAt h r) (rq : r ≠ q) (hq : h q = some (.lst [.lam 0 c, .lam 1 c, .lam 2 c, .lam 3 c, .lam 4 c, .lam 5 c, .lam 6 c]))
    (fin : ∀ h', N.rt (.d (.bl true)) h') : t_ask a c N [e0, some (.ref r), some (.int p), some (.int k), some (.int w), e5, e6, e7, some (.tup (ms.map D.int)), e9, none, none, none, none, none, some (.int far), some dbad, some (.ref q), none, none] h := by
  have big := line_big
  have p61 := ok.p2
  have kpos := ok.k1
  unfold t_ask
  simp only [sSeq, sSet, mTup, mCons, frzV, mOp, mVar, mC, mNil, mLst, mLam, sRet, mLc, mIter, mMeth, mMethK, mMake, mTst, mNotT, sIf, valE, mCall, mFun, mIte, sIf]
  simp only [sSeq, sSet, sSkip, sForget, sFor, sIf, sRet, sRetN, sDrop, sSetI, sAsg, sPar, sFldM, sAug, frzV, valE, mVar, mC, mOp, mUn, mCall, mFun, mMeth, mMake, mFld, mTst, mNotT, mNotV, mAndV, mOrV, mAndT, mOrT, mIte, mNil, mCons, mTup, mLst, mChain, mIter_ap, mIsi_ap, mRng1, mRng2, mLc, mYes, mCell, mRel, mSl, oNo, oSome,
  gN, gT, gsCons, gsNil, frz_d, frz_l, frz_k, gIx_p, onSet_p, onQ_p, onL_p, gLen_p, onIns_p, put_put, atD_0, atD_1, atD_2, atD_3, atD_4, ixN_0, ixN_1, ixN_2, ixN_3, ixN_4, List.length_cons, List.length_nil, onBl_b, onInt_i, onTup_t, on1_1, on2_2, onQ_l, onQ_t, onQ_s, onL_l, onLs_l, onLs_s, onD_d, onOpt_s, gII, gB, gAdd_i, gAdd_s, gAdd_t, gAdd_l, gMul_i, gMul_l, gMul_t, gSub, gMod, gDiv, gPow, gNeg, gIx_l, gIx_t, gIx_s, gLen_l, gLen_t, gLen_s, gLen_d, iterD_t, iterD_l, iterD_s,
  kind_i, kind_b, kind_s, kind_n, kind_t, kind_l, gIsN, isNon, gTuple, gList, gAll, gAny, gSum, gMin, gMax, gMin2, gMax2, gAbs, gInt, gSorted,
  List.getElem?_cons_zero, List.getElem?_cons_succ, List.getElem?_nil, List.set_cons_zero, List.set_cons_succ, List.cons_append, List.nil_append, List.append_nil, wipeE, List.any_cons, List.any_nil, isK, Bool.or_false, Bool.false_or, Bool.or_true, Bool.true_or, Bool.not_true, Bool.not_false, if_true, if_false, Bool.false_eq_true, true_and, and_true, decide_eq_true_eq, id, reduceCtorEq, gEq_i, gNe_i, gEq_b, gNe_b, gEq_li, gNe_li, gEq_l0, gNe_l0, gEq_00, gNe_00, gEq_ti, gNe_ti, mEnum, Nat.zero_add, Nat.reduceAdd, Int.reduceEq, Int.cast_ofNat_Int, Nat.zero_le, sz1, sz2, sz3, sz4, sz5, sz6, decide_true, decide_false, sAugI, mPopAt, mApp, mExt, mGet, mDNew, sPar3, sFldAugM, mZip2, mZip3, sRaise0, mMethK, cutD, mLam, iterD_r hq]
  simp only [hq]
  refine lc_inv (fun i acc h' => acc = [] ∧ RowAt h' r) ⟨rfl, R.del rq⟩ ?_ ?_
  · rintro i d acc h' kc hi ⟨rfl, R⟩ hk
    have i7 : i < 7 := (List.getElem?_eq_some_iff.mp hi).1
    have kfin : ∀ h2, RowAt h2 r → kc [] h2 := fun h2 R2 => hk _ _ ⟨rfl, R2⟩
    obtain rfl | rfl | rfl | rfl | rfl | rfl | rfl : i = 0 ∨ i = 1 ∨ i = 2 ∨ i = 3 ∨ i = 4 ∨ i = 5 ∨ i = 6 := by omega
    · cases hi
      simp only [sSeq, sSet, sSkip, sForget, sFor, sIf, sRet, sRetN, sDrop, sSetI, sAsg, sPar, sFldM, sAug, frzV, valE, mVar, mC, mOp, mUn, mCall, mFun, mMeth, mMake, mFld, mTst, mNotT, mNotV, mAndV, mOrV, mAndT, mOrT, mIte, mNil, mCons, mTup, mLst, mChain, mIter_ap, mIsi_ap, mRng1, mRng2, mLc, mYes, mCell, mRel, mSl, oNo, oSome,
  gN, gT, gsCons, gsNil, frz_d, frz_l, frz_k, gIx_p, onSet_p, onQ_p, onL_p, gLen_p, onIns_p, put_put, atD_0, atD_1, atD_2, atD_3, atD_4, ixN_0, ixN_1, ixN_2, ixN_3, ixN_4, List.length_cons, List.length_nil, onBl_b, onInt_i, onTup_t, on1_1, on2_2, onQ_l, onQ_t, onQ_s, onL_l, onLs_l, onLs_s, onD_d, onOpt_s, gII, gB, gAdd_i, gAdd_s, gAdd_t, gAdd_l, gMul_i, gMul_l, gMul_t, gSub, gMod, gDiv, gPow, gNeg, gIx_l, gIx_t, gIx_s, gLen_l, gLen_t, gLen_s, gLen_d, iterD_t, iterD_l, iterD_s,
  kind_i, kind_b, kind_s, kind_n, kind_t, kind_l, gIsN, isNon, gTuple, gList, gAll, gAny, gSum, gMin, gMax, gMin2, gMax2, gAbs, gInt, gSorted,
  List.getElem?_cons_zero, List.getElem?_cons_succ, List.getElem?_nil, List.set_cons_zero, List.set_cons_succ, List.cons_append, List.nil_append, List.append_nil, wipeE, List.any_cons, List.any_nil, isK, Bool.or_false, Bool.false_or, Bool.or_true, Bool.true_or, Bool.not_true, Bool.not_false, if_true, if_false, Bool.false_eq_true, true_and, and_true, decide_eq_true_eq, id, reduceCtorEq, gEq_i, gNe_i, gEq_b, gNe_b, gEq_li, gNe_li, gEq_l0, gNe_l0, gEq_00, gNe_00, gEq_ti, gNe_ti, mEnum, Nat.zero_add, Nat.reduceAdd, Int.reduceEq, Int.cast_ofNat_Int, Nat.zero_le, sz1, sz2, sz3, sz4, sz5, sz6, decide_true, decide_false, sAugI, mPopAt, mApp, mExt, mGet, mDNew, sPar3, sFldAugM, mZip2, mZip3, sRaise0, mMethK, cutD, mLam, mWordC]
      refine ⟨by decide, ?_⟩
      show tl_law_0 a _ h' _ _
      unfold tl_law_0
      simp only [sSeq, sSet, mTup, mCons, frzV, mOp, mVar, mC, mNil, mLst, mLam, sRet, mLc, mIter, mMeth, mMethK, mMake, mTst, mNotT, sIf, valE, mCall, mFun, mIte]
      simp only [sSeq, sSet, sSkip, sForget, sFor, sIf, sRet, sRetN, sDrop, sSetI, sAsg, sPar, sFldM, sAug, frzV, valE, mVar, mC, mOp, mUn, mCall, mFun, mMeth, mMake, mFld, mTst, mNotT, mNotV, mAndV, mOrV, mAndT, mOrT, mIte, mNil, mCons, mTup, mLst, mChain, mIter_ap, mIsi_ap, mRng1, mRng2, mLc, mYes, mCell, mRel, mSl, oNo, oSome,
  gN, gT, gsCons, gsNil, frz_d, frz_l, frz_k, gIx_p, onSet_p, onQ_p, onL_p, gLen_p, onIns_p, put_put, atD_0, atD_1, atD_2, atD_3, atD_4, ixN_0, ixN_1, ixN_2, ixN_3, ixN_4, List.length_cons, List.length_nil, onBl_b, onInt_i, onTup_t, on1_1, on2_2, onQ_l, onQ_t, onQ_s, onL_l, onLs_l, onLs_s, onD_d, onOpt_s, gII, gB, gAdd_i, gAdd_s, gAdd_t, gAdd_l, gMul_i, gMul_l, gMul_t, gSub, gMod, gDiv, gPow, gNeg, gIx_l, gIx_t, gIx_s, gLen_l, gLen_t, gLen_s, gLen_d, iterD_t, iterD_l, iterD_s,
  kind_i, kind_b, kind_s, kind_n, kind_t, kind_l, gIsN, isNon, gTuple, gList, gAll, gAny, gSum, gMin, gMax, gMin2, gMax2, gAbs, gInt, gSorted,
  List.getElem?_cons_zero, List.getElem?_cons_succ, List.getElem?_nil, List.set_cons_zero, List.set_cons_succ, List.cons_append, List.nil_append, List.append_nil, wipeE, List.any_cons, List.any_nil, isK, Bool.or_false, Bool.false_or, Bool.or_true, Bool.true_or, Bool.not_true, Bool.not_false, if_true, if_false, Bool.false_eq_true, true_and, and_true, decide_eq_true_eq, id, reduceCtorEq, gEq_i, gNe_i, gEq_b, gNe_b, gEq_li, gNe_li, gEq_l0, gNe_l0, gEq_00, gNe_00, gEq_ti, gNe_ti, mEnum, Nat.zero_add, Nat.reduceAdd, Int.reduceEq, Int.cast_ofNat_Int, Nat.zero_le, sz1, sz2, sz3, sz4, sz5, sz6, decide_true, decide_false, sAugI, mPopAt, mApp, mExt, mGet, mDNew, sPar3, sFldAugM, mZip2, mZip3, sRaise0, mMethK, cutD, mLam]
      exact ⟨_, _, _, _, _, rfl, (by simp [kindD]), (by simp [kindD]), kb _, (by simp [kindD]), (by simp [kindD]), .inr (.inl ⟨lb, word_num (by rw [ne_num]; exact kfin _ R)⟩)⟩
    · cases hi
      simp only [sSeq, sSet, sSkip, sForget, sFor, sIf, sRet, sRetN, sDrop, sSetI, sAsg, sPar, sFldM, sAug, frzV, valE, mVar, mC, mOp, mUn, mCall, mFun, mMeth, mMake, mFld, mTst, mNotT, mNotV, mAndV, mOrV, mAndT, mOrT, mIte, mNil, mCons, mTup, mLst, mChain, mIter_ap, mIsi_ap, mRng1, mRng2, mLc, mYes, mCell, mRel, mSl, oNo, oSome,
  gN, gT, gsCons, gsNil, frz_d, frz_l, frz_k, gIx_p, onSet_p, onQ_p, onL_p, gLen_p, onIns_p, put_put, atD_0, atD_1, atD_2, atD_3, atD_4, ixN_0, ixN_1, ixN_2, ixN_3, ixN_4, List.length_cons, List.length_nil, onBl_b, onInt_i, onTup_t, on1_1, on2_2, onQ_l, onQ_t, onQ_s, onL_l, onLs_l, onLs_s, onD_d, onOpt_s, gII, gB, gAdd_i, gAdd_s, gAdd_t, gAdd_l, gMul_i, gMul_l, gMul_t, gSub, gMod, gDiv, gPow, gNeg, gIx_l, gIx_t, gIx_s, gLen_l, gLen_t, gLen_s, gLen_d, iterD_t, iterD_l, iterD_s,
  kind_i, kind_b, kind_s, kind_n, kind_t, kind_l, gIsN, isNon, gTuple, gList, gAll, gAny, gSum, gMin, gMax, gMin2, gMax2, gAbs, gInt, gSorted,
  List.getElem?_cons_zero, List.getElem?_cons_succ, List.getElem?_nil, List.set_cons_zero, List.set_cons_succ, List.cons_append, List.nil_append, List.append_nil, wipeE, List.any_cons, List.any_nil, isK, Bool.or_false, Bool.false_or, Bool.or_true, Bool.true_or, Bool.not_true, Bool.not_false, if_true, if_false, Bool.false_eq_true, true_and, and_true, decide_eq_true_eq, id, reduceCtorEq, gEq_i, gNe_i, gEq_b, gNe_b, gEq_li, gNe_li, gEq_l0, gNe_l0, gEq_00, gNe_00, gEq_ti, gNe_ti, mEnum, Nat.zero_add, Nat.reduceAdd, Int.reduceEq, Int.cast_ofNat_Int, Nat.zero_le, sz1, sz2, sz3, sz4, sz5, sz6, decide_true, decide_false, sAugI, mPopAt, mApp, mExt, mGet, mDNew, sPar3, sFldAugM, mZip2, mZip3, sRaise0, mMethK, cutD, mLam, mWordC]
      refine ⟨by decide, ?_⟩
      show tl_law_1 a _ h' _ _
      unfold tl_law_1
      simp only [sSeq, sSet, mTup, mCons, frzV, mOp, mVar, mC, mNil, mLst, mLam, sRet, mLc, mIter, mMeth, mMethK, mMake, mTst, mNotT, sIf, valE, mCall, mFun, mIte]
      simp only [sSeq, sSet, sSkip, sForget, sFor, sIf, sRet, sRetN, sDrop, sSetI, sAsg, sPar, sFldM, sAug, frzV, valE, mVar, mC, mOp, mUn, mCall, mFun, mMeth, mMake, mFld, mTst, mNotT, mNotV, mAndV, mOrV, mAndT, mOrT, mIte, mNil, mCons, mTup, mLst, mChain, mIter_ap, mIsi_ap, mRng1, mRng2, mLc, mYes, mCell, mRel, mSl, oNo, oSome,
  gN, gT, gsCons, gsNil, frz_d, frz_l, frz_k, gIx_p, onSet_p, onQ_p, onL_p, gLen_p, onIns_p, put_put, atD_0, atD_1, atD_2, atD_3, atD_4, ixN_0, ixN_1, ixN_2, ixN_3, ixN_4, List.length_cons, List.length_nil, onBl_b, onInt_i, onTup_t, on1_1, on2_2, onQ_l, onQ_t, onQ_s, onL_l, onLs_l, onLs_s, onD_d, onOpt_s, gII, gB, gAdd_i, gAdd_s, gAdd_t, gAdd_l, gMul_i, gMul_l, gMul_t, gSub, gMod, gDiv, gPow, gNeg, gIx_l, gIx_t, gIx_s, gLen_l, gLen_t, gLen_s, gLen_d, iterD_t, iterD_l, iterD_s,
  kind_i, kind_b, kind_s, kind_n, kind_t, kind_l, gIsN, isNon, gTuple, gList, gAll, gAny, gSum, gMin, gMax, gMin2, gMax2, gAbs, gInt, gSorted,
  List.getElem?_cons_zero, List.getElem?_cons_succ, List.getElem?_nil, List.set_cons_zero, List.set_cons_succ, List.cons_append, List.nil_append, List.append_nil, wipeE, List.any_cons, List.any_nil, isK, Bool.or_false, Bool.false_or, Bool.or_true, Bool.true_or, Bool.not_true, Bool.not_false, if_true, if_false, Bool.false_eq_true, true_and, and_true, decide_eq_true_eq, id, reduceCtorEq, gEq_i, gNe_i, gEq_b, gNe_b, gEq_li, gNe_li, gEq_l0, gNe_l0, gEq_00, gNe_00, gEq_ti, gNe_ti, mEnum, Nat.zero_add, Nat.reduceAdd, Int.reduceEq, Int.cast_ofNat_Int, Nat.zero_le, sz1, sz2, sz3, sz4, sz5, sz6, decide_true, decide_false, sAugI, mPopAt, mApp, mExt, mGet, mDNew, sPar3, sFldAugM, mZip2, mZip3, sRaise0, mMethK, cutD, mLam]
      exact ⟨_, _, _, _, _, rfl, (by simp [kindD]), (by simp [kindD]), kb _, .inl ⟨lb, word_num (by rw [ne_num]; exact kfin _ R)⟩⟩
    · cases hi
      simp only [sSeq, sSet, sSkip, sForget, sFor, sIf, sRet, sRetN, sDrop, sSetI, sAsg, sPar, sFldM, sAug, frzV, valE, mVar, mC, mOp, mUn, mCall, mFun, mMeth, mMake, mFld, mTst, mNotT, mNotV, mAndV, mOrV, mAndT, mOrT, mIte, mNil, mCons, mTup, mLst, mChain, mIter_ap, mIsi_ap, mRng1, mRng2, mLc, mYes, mCell, mRel, mSl, oNo, oSome,
  gN, gT, gsCons, gsNil, frz_d, frz_l, frz_k, gIx_p, onSet_p, onQ_p, onL_p, gLen_p, onIns_p, put_put, atD_0, atD_1, atD_2, atD_3, atD_4, ixN_0, ixN_1, ixN_2, ixN_3, ixN_4, List.length_cons, List.length_nil, onBl_b, onInt_i, onTup_t, on1_1, on2_2, onQ_l, onQ_t, onQ_s, onL_l, onLs_l, onLs_s, onD_d, onOpt_s, gII, gB, gAdd_i, gAdd_s, gAdd_t, gAdd_l, gMul_i, gMul_l, gMul_t, gSub, gMod, gDiv, gPow, gNeg, gIx_l, gIx_t, gIx_s, gLen_l, gLen_t, gLen_s, gLen_d, iterD_t, iterD_l, iterD_s,
  kind_i, kind_b, kind_s, kind_n, kind_t, kind_l, gIsN, isNon, gTuple, gList, gAll, gAny, gSum, gMin, gMax, gMin2, gMax2, gAbs, gInt, gSorted,
  List.getElem?_cons_zero, List.getElem?_cons_succ, List.getElem?_nil, List.set_cons_zero, List.set_cons_succ, List.cons_append, List.nil_append, List.append_nil, wipeE, List.any_cons, List.any_nil, isK, Bool.or_false, Bool.false_or, Bool.or_true, Bool.true_or, Bool.not_true, Bool.not_false, if_true, if_false, Bool.false_eq_true, true_and, and_true, decide_eq_true_eq, id, reduceCtorEq, gEq_i, gNe_i, gEq_b, gNe_b, gEq_li, gNe_li, gEq_l0, gNe_l0, gEq_00, gNe_00, gEq_ti, gNe_ti, mEnum, Nat.zero_add, Nat.reduceAdd, Int.reduceEq, Int.cast_ofNat_Int, Nat.zero_le, sz1, sz2, sz3, sz4, sz5, sz6, decide_true, decide_false, sAugI, mPopAt, mApp, mExt, mGet, mDNew, sPar3, sFldAugM, mZip2, mZip3, sRaise0, mMethK, cutD, mLam, mWordC]
      refine ⟨by decide, ?_⟩
      show tl_law_2 a _ h' _ _
      unfold tl_law_2
      simp only [sSeq, sSet, mTup, mCons, frzV, mOp, mVar, mC, mNil, mLst, mLam, sRet, mLc, mIter, mMeth, mMethK, mMake, mTst, mNotT, sIf, valE, mCall, mFun, mIte]
      simp only [sSeq, sSet, sSkip, sForget, sFor, sIf, sRet, sRetN, sDrop, sSetI, sAsg, sPar, sFldM, sAug, frzV, valE, mVar, mC, mOp, mUn, mCall, mFun, mMeth, mMake, mFld, mTst, mNotT, mNotV, mAndV, mOrV, mAndT, mOrT, mIte, mNil, mCons, mTup, mLst, mChain, mIter_ap, mIsi_ap, mRng1, mRng2, mLc, mYes, mCell, mRel, mSl, oNo, oSome,
  gN, gT, gsCons, gsNil, frz_d, frz_l, frz_k, gIx_p, onSet_p, onQ_p, onL_p, gLen_p, onIns_p, put_put, atD_0, atD_1, atD_2, atD_3, atD_4, ixN_0, ixN_1, ixN_2, ixN_3, ixN_4, List.length_cons, List.length_nil, onBl_b, onInt_i, onTup_t, on1_1, on2_2, onQ_l, onQ_t, onQ_s, onL_l, onLs_l, onLs_s, onD_d, onOpt_s, gII, gB, gAdd_i, gAdd_s, gAdd_t, gAdd_l, gMul_i, gMul_l, gMul_t, gSub, gMod, gDiv, gPow, gNeg, gIx_l, gIx_t, gIx_s, gLen_l, gLen_t, gLen_s, gLen_d, iterD_t, iterD_l, iterD_s,
  kind_i, kind_b, kind_s, kind_n, kind_t, kind_l, gIsN, isNon, gTuple, gList, gAll, gAny, gSum, gMin, gMax, gMin2, gMax2, gAbs, gInt, gSorted,
  List.getElem?_cons_zero, List.getElem?_cons_succ, List.getElem?_nil, List.set_cons_zero, List.set_cons_succ, List.cons_append, List.nil_append, List.append_nil, wipeE, List.any_cons, List.any_nil, isK, Bool.or_false, Bool.false_or, Bool.or_true, Bool.true_or, Bool.not_true, Bool.not_false, if_true, if_false, Bool.false_eq_true, true_and, and_true, decide_eq_true_eq, id, reduceCtorEq, gEq_i, gNe_i, gEq_b, gNe_b, gEq_li, gNe_li, gEq_l0, gNe_l0, gEq_00, gNe_00, gEq_ti, gNe_ti, mEnum, Nat.zero_add, Nat.reduceAdd, Int.reduceEq, Int.cast_ofNat_Int, Nat.zero_le, sz1, sz2, sz3, sz4, sz5, sz6, decide_true, decide_false, sAugI, mPopAt, mApp, mExt, mGet, mDNew, sPar3, sFldAugM, mZip2, mZip3, sRaise0, mMethK, cutD, mLam]
      refine ⟨r, 4, rfl, by decide, by decide, R, fun v h2 v0 v1 f2 R2 => ?_⟩
      have hv : v = 0 ∨ v = 1 ∨ v = 2 ∨ v = 3 := by omega
      rcases hv with rfl | rfl | rfl | rfl
      · simp only [sSeq, sSet, sSkip, sForget, sFor, sIf, sRet, sRetN, sDrop, sSetI, sAsg, sPar, sFldM, sAug, frzV, valE, mVar, mC, mOp, mUn, mCall, mFun, mMeth, mMake, mFld, mTst, mNotT, mNotV, mAndV, mOrV, mAndT, mOrT, mIte, mNil, mCons, mTup, mLst, mChain, mIter_ap, mIsi_ap, mRng1, mRng2, mLc, mYes, mCell, mRel, mSl, oNo, oSome,
  gN, gT, gsCons, gsNil, frz_d, frz_l, frz_k, gIx_p, onSet_p, onQ_p, onL_p, gLen_p, onIns_p, put_put, atD_0, atD_1, atD_2, atD_3, atD_4, ixN_0, ixN_1, ixN_2, ixN_3, ixN_4, List.length_cons, List.length_nil, onBl_b, onInt_i, onTup_t, on1_1, on2_2, onQ_l, onQ_t, onQ_s, onL_l, onLs_l, onLs_s, onD_d, onOpt_s, gII, gB, gAdd_i, gAdd_s, gAdd_t, gAdd_l, gMul_i, gMul_l, gMul_t, gSub, gMod, gDiv, gPow, gNeg, gIx_l, gIx_t, gIx_s, gLen_l, gLen_t, gLen_s, gLen_d, iterD_t, iterD_l, iterD_s,
  kind_i, kind_b, kind_s, kind_n, kind_t, kind_l, gIsN, isNon, gTuple, gList, gAll, gAny, gSum, gMin, gMax, gMin2, gMax2, gAbs, gInt, gSorted,
  List.getElem?_cons_zero, List.getElem?_cons_succ, List.getElem?_nil, List.set_cons_zero, List.set_cons_succ, List.cons_append, List.nil_append, List.append_nil, wipeE, List.any_cons, List.any_nil, isK, Bool.or_false, Bool.false_or, Bool.or_true, Bool.true_or, Bool.not_true, Bool.not_false, if_true, if_false, Bool.false_eq_true, true_and, and_true, decide_eq_true_eq, id, reduceCtorEq, gEq_i, gNe_i, gEq_b, gNe_b, gEq_li, gNe_li, gEq_l0, gNe_l0, gEq_00, gNe_00, gEq_ti, gNe_ti, mEnum, Nat.zero_add, Nat.reduceAdd, Int.reduceEq, Int.cast_ofNat_Int, Nat.zero_le, sz1, sz2, sz3, sz4, sz5, sz6, decide_true, decide_false, sAugI, mPopAt, mApp, mExt, mGet, mDNew, sPar3, sFldAugM, mZip2, mZip3, sRaise0, mMethK, cutD, mLam]
        exact ⟨_, _, _, _, _, rfl, (by simp [kindD]), (by simp [kindD]), (by simp [kindD]), (by simp [kindD]), (by simp [kindD]), .inr (.inr ⟨k, w, p, rfl, rfl, rfl, ok, .inl (by first | rfl | (simp [isNum]; omega) | simp [isNum]), word_num (by rw [ne_num]; exact kfin _ R2)⟩)⟩
      · simp only [sSeq, sSet, sSkip, sForget, sFor, sIf, sRet, sRetN, sDrop, sSetI, sAsg, sPar, sFldM, sAug, frzV, valE, mVar, mC, mOp, mUn, mCall, mFun, mMeth, mMake, mFld, mTst, mNotT, mNotV, mAndV, mOrV, mAndT, mOrT, mIte, mNil, mCons, mTup, mLst, mChain, mIter_ap, mIsi_ap, mRng1, mRng2, mLc, mYes, mCell, mRel, mSl, oNo, oSome,
  gN, gT, gsCons, gsNil, frz_d, frz_l, frz_k, gIx_p, onSet_p, onQ_p, onL_p, gLen_p, onIns_p, put_put, atD_0, atD_1, atD_2, atD_3, atD_4, ixN_0, ixN_1, ixN_2, ixN_3, ixN_4, List.length_cons, List.length_nil, onBl_b, onInt_i, onTup_t, on1_1, on2_2, onQ_l, onQ_t, onQ_s, onL_l, onLs_l, onLs_s, onD_d, onOpt_s, gII, gB, gAdd_i, gAdd_s, gAdd_t, gAdd_l, gMul_i, gMul_l, gMul_t, gSub, gMod, gDiv, gPow, gNeg, gIx_l, gIx_t, gIx_s, gLen_l, gLen_t, gLen_s, gLen_d, iterD_t, iterD_l, iterD_s,
  kind_i, kind_b, kind_s, kind_n, kind_t, kind_l, gIsN, isNon, gTuple, gList, gAll, gAny, gSum, gMin, gMax, gMin2, gMax2, gAbs, gInt, gSorted,
  List.getElem?_cons_zero, List.getElem?_cons_succ, List.getElem?_nil, List.set_cons_zero, List.set_cons_succ, List.cons_append, List.nil_append, List.append_nil, wipeE, List.any_cons, List.any_nil, isK, Bool.or_false, Bool.false_or, Bool.or_true, Bool.true_or, Bool.not_true, Bool.not_false, if_true, if_false, Bool.false_eq_true, true_and, and_true, decide_eq_true_eq, id, reduceCtorEq, gEq_i, gNe_i, gEq_b, gNe_b, gEq_li, gNe_li, gEq_l0, gNe_l0, gEq_00, gNe_00, gEq_ti, gNe_ti, mEnum, Nat.zero_add, Nat.reduceAdd, Int.reduceEq, Int.cast_ofNat_Int, Nat.zero_le, sz1, sz2, sz3, sz4, sz5, sz6, decide_true, decide_false, sAugI, mPopAt, mApp, mExt, mGet, mDNew, sPar3, sFldAugM, mZip2, mZip3, sRaise0, mMethK, cutD, mLam]
        exact ⟨_, _, _, _, _, rfl, (by simp [kindD]), (by simp [kindD]), (by simp [kindD]), (by simp [kindD]), (by simp [kindD]), .inr (.inr ⟨k, w, p, rfl, rfl, rfl, ok, .inl (by first | rfl | (simp [isNum]; omega) | simp [isNum]), word_num (by rw [ne_num]; exact kfin _ R2)⟩)⟩
      · simp only [sSeq, sSet, sSkip, sForget, sFor, sIf, sRet, sRetN, sDrop, sSetI, sAsg, sPar, sFldM, sAug, frzV, valE, mVar, mC, mOp, mUn, mCall, mFun, mMeth, mMake, mFld, mTst, mNotT, mNotV, mAndV, mOrV, mAndT, mOrT, mIte, mNil, mCons, mTup, mLst, mChain, mIter_ap, mIsi_ap, mRng1, mRng2, mLc, mYes, mCell, mRel, mSl, oNo, oSome,
  gN, gT, gsCons, gsNil, frz_d, frz_l, frz_k, gIx_p, onSet_p, onQ_p, onL_p, gLen_p, onIns_p, put_put, atD_0, atD_1, atD_2, atD_3, atD_4, ixN_0, ixN_1, ixN_2, ixN_3, ixN_4, List.length_cons, List.length_nil, onBl_b, onInt_i, onTup_t, on1_1, on2_2, onQ_l, onQ_t, onQ_s, onL_l, onLs_l, onLs_s, onD_d, onOpt_s, gII, gB, gAdd_i, gAdd_s, gAdd_t, gAdd_l, gMul_i, gMul_l, gMul_t, gSub, gMod, gDiv, gPow, gNeg, gIx_l, gIx_t, gIx_s, gLen_l, gLen_t, gLen_s, gLen_d, iterD_t, iterD_l, iterD_s,
  kind_i, kind_b, kind_s, kind_n, kind_t, kind_l, gIsN, isNon, gTuple, gList, gAll, gAny, gSum, gMin, gMax, gMin2, gMax2, gAbs, gInt, gSorted,
  List.getElem?_cons_zero, List.getElem?_cons_succ, List.getElem?_nil, List.set_cons_zero, List.set_cons_succ, List.cons_append, List.nil_append, List.append_nil, wipeE, List.any_cons, List.any_nil, isK, Bool.or_false, Bool.false_or, Bool.or_true, Bool.true_or, Bool.not_true, Bool.not_false, if_true, if_false, Bool.false_eq_true, true_and, and_true, decide_eq_true_eq, id, reduceCtorEq, gEq_i, gNe_i, gEq_b, gNe_b, gEq_li, gNe_li, gEq_l0, gNe_l0, gEq_00, gNe_00, gEq_ti, gNe_ti, mEnum, Nat.zero_add, Nat.reduceAdd, Int.reduceEq, Int.cast_ofNat_Int, Nat.zero_le, sz1, sz2, sz3, sz4, sz5, sz6, decide_true, decide_false, sAugI, mPopAt, mApp, mExt, mGet, mDNew, sPar3, sFldAugM, mZip2, mZip3, sRaise0, mMethK, cutD, mLam]
        exact ⟨_, _, _, _, _, rfl, (by simp [kindD]), (by simp [kindD]), (by simp [kindD]), (by simp [kindD]), (by simp [kindD]), .inr (.inr ⟨k, w, p, rfl, rfl, rfl, ok, .inl (by first | rfl | (simp [isNum]; omega) | simp [isNum]), word_num (by rw [ne_num]; exact kfin _ R2)⟩)⟩
      · simp only [sSeq, sSet, sSkip, sForget, sFor, sIf, sRet, sRetN, sDrop, sSetI, sAsg, sPar, sFldM, sAug, frzV, valE, mVar, mC, mOp, mUn, mCall, mFun, mMeth, mMake, mFld, mTst, mNotT, mNotV, mAndV, mOrV, mAndT, mOrT, mIte, mNil, mCons, mTup, mLst, mChain, mIter_ap, mIsi_ap, mRng1, mRng2, mLc, mYes, mCell, mRel, mSl, oNo, oSome,
  gN, gT, gsCons, gsNil, frz_d, frz_l, frz_k, gIx_p, onSet_p, onQ_p, onL_p, gLen_p, onIns_p, put_put, atD_0, atD_1, atD_2, atD_3, atD_4, ixN_0, ixN_1, ixN_2, ixN_3, ixN_4, List.length_cons, List.length_nil, onBl_b, onInt_i, onTup_t, on1_1, on2_2, onQ_l, onQ_t, onQ_s, onL_l, onLs_l, onLs_s, onD_d, onOpt_s, gII, gB, gAdd_i, gAdd_s, gAdd_t, gAdd_l, gMul_i, gMul_l, gMul_t, gSub, gMod, gDiv, gPow, gNeg, gIx_l, gIx_t, gIx_s, gLen_l, gLen_t, gLen_s, gLen_d, iterD_t, iterD_l, iterD_s,
  kind_i, kind_b, kind_s, kind_n, kind_t, kind_l, gIsN, isNon, gTuple, gList, gAll, gAny, gSum, gMin, gMax, gMin2, gMax2, gAbs, gInt, gSorted,
  List.getElem?_cons_zero, List.getElem?_cons_succ, List.getElem?_nil, List.set_cons_zero, List.set_cons_succ, List.cons_append, List.nil_append, List.append_nil, wipeE, List.any_cons, List.any_nil, isK, Bool.or_false, Bool.false_or, Bool.or_true, Bool.true_or, Bool.not_true, Bool.not_false, if_true, if_false, Bool.false_eq_true, true_and, and_true, decide_eq_true_eq, id, reduceCtorEq, gEq_i, gNe_i, gEq_b, gNe_b, gEq_li, gNe_li, gEq_l0, gNe_l0, gEq_00, gNe_00, gEq_ti, gNe_ti, mEnum, Nat.zero_add, Nat.reduceAdd, Int.reduceEq, Int.cast_ofNat_Int, Nat.zero_le, sz1, sz2, sz3, sz4, sz5, sz6, decide_true, decide_false, sAugI, mPopAt, mApp, mExt, mGet, mDNew, sPar3, sFldAugM, mZip2, mZip3, sRaise0, mMethK, cutD, mLam]
        exact ⟨_, _, _, _, _, rfl, (by simp [kindD]), (by simp [kindD]), (by simp [kindD]), (by simp [kindD]), (by simp [kindD]), .inr (.inr ⟨k, w, p, rfl, rfl, rfl, ok, .inl (by first | rfl | (simp [isNum]; omega) | simp [isNum]), word_num (by rw [ne_num]; exact kfin _ R2)⟩)⟩
    · cases hi
      simp only [sSeq, sSet, sSkip, sForget, sFor, sIf, sRet, sRetN, sDrop, sSetI, sAsg, sPar, sFldM, sAug, frzV, valE, mVar, mC, mOp, mUn, mCall, mFun, mMeth, mMake, mFld, mTst, mNotT, mNotV, mAndV, mOrV, mAndT, mOrT, mIte, mNil, mCons, mTup, mLst, mChain, mIter_ap, mIsi_ap, mRng1, mRng2, mLc, mYes, mCell, mRel, mSl, oNo, oSome,
  gN, gT, gsCons, gsNil, frz_d, frz_l, frz_k, gIx_p, onSet_p, onQ_p, onL_p, gLen_p, onIns_p, put_put, atD_0, atD_1, atD_2, atD_3, atD_4, ixN_0, ixN_1, ixN_2, ixN_3, ixN_4, List.length_cons, List.length_nil, onBl_b, onInt_i, onTup_t, on1_1, on2_2, onQ_l, onQ_t, onQ_s, onL_l, onLs_l, onLs_s, onD_d, onOpt_s, gII, gB, gAdd_i, gAdd_s, gAdd_t, gAdd_l, gMul_i, gMul_l, gMul_t, gSub, gMod, gDiv, gPow, gNeg, gIx_l, gIx_t, gIx_s, gLen_l, gLen_t, gLen_s, gLen_d, iterD_t, iterD_l, iterD_s,
  kind_i, kind_b, kind_s, kind_n, kind_t, kind_l, gIsN, isNon, gTuple, gList, gAll, gAny, gSum, gMin, gMax, gMin2, gMax2, gAbs, gInt, gSorted,
  List.getElem?_cons_zero, List.getElem?_cons_succ, List.getElem?_nil, List.set_cons_zero, List.set_cons_succ, List.cons_append, List.nil_append, List.append_nil, wipeE, List.any_cons, List.any_nil, isK, Bool.or_false, Bool.false_or, Bool.or_true, Bool.true_or, Bool.not_true, Bool.not_false, if_true, if_false, Bool.false_eq_true, true_and, and_true, decide_eq_true_eq, id, reduceCtorEq, gEq_i, gNe_i, gEq_b, gNe_b, gEq_li, gNe_li, gEq_l0, gNe_l0, gEq_00, gNe_00, gEq_ti, gNe_ti, mEnum, Nat.zero_add, Nat.reduceAdd, Int.reduceEq, Int.cast_ofNat_Int, Nat.zero_le, sz1, sz2, sz3, sz4, sz5, sz6, decide_true, decide_false, sAugI, mPopAt, mApp, mExt, mGet, mDNew, sPar3, sFldAugM, mZip2, mZip3, sRaise0, mMethK, cutD, mLam, mWordC]
      refine ⟨by decide, ?_⟩
      show tl_law_3 a _ h' _ _
      unfold tl_law_3
      simp only [sSeq, sSet, mTup, mCons, frzV, mOp, mVar, mC, mNil, mLst, mLam, sRet, mLc, mIter, mMeth, mMethK, mMake, mTst, mNotT, sIf, valE, mCall, mFun, mIte]
      simp only [sSeq, sSet, sSkip, sForget, sFor, sIf, sRet, sRetN, sDrop, sSetI, sAsg, sPar, sFldM, sAug, frzV, valE, mVar, mC, mOp, mUn, mCall, mFun, mMeth, mMake, mFld, mTst, mNotT, mNotV, mAndV, mOrV, mAndT, mOrT, mIte, mNil, mCons, mTup, mLst, mChain, mIter_ap, mIsi_ap, mRng1, mRng2, mLc, mYes, mCell, mRel, mSl, oNo, oSome,
  gN, gT, gsCons, gsNil, frz_d, frz_l, frz_k, gIx_p, onSet_p, onQ_p, onL_p, gLen_p, onIns_p, put_put, atD_0, atD_1, atD_2, atD_3, atD_4, ixN_0, ixN_1, ixN_2, ixN_3, ixN_4, List.length_cons, List.length_nil, onBl_b, onInt_i, onTup_t, on1_1, on2_2, onQ_l, onQ_t, onQ_s, onL_l, onLs_l, onLs_s, onD_d, onOpt_s, gII, gB, gAdd_i, gAdd_s, gAdd_t, gAdd_l, gMul_i, gMul_l, gMul_t, gSub, gMod, gDiv, gPow, gNeg, gIx_l, gIx_t, gIx_s, gLen_l, gLen_t, gLen_s, gLen_d, iterD_t, iterD_l, iterD_s,
  kind_i, kind_b, kind_s, kind_n, kind_t, kind_l, gIsN, isNon, gTuple, gList, gAll, gAny, gSum, gMin, gMax, gMin2, gMax2, gAbs, gInt, gSorted,
  List.getElem?_cons_zero, List.getElem?_cons_succ, List.getElem?_nil, List.set_cons_zero, List.set_cons_succ, List.cons_append, List.nil_append, List.append_nil, wipeE, List.any_cons, List.any_nil, isK, Bool.or_false, Bool.false_or, Bool.or_true, Bool.true_or, Bool.not_true, Bool.not_false, if_true, if_false, Bool.false_eq_true, true_and, and_true, decide_eq_true_eq, id, reduceCtorEq, gEq_i, gNe_i, gEq_b, gNe_b, gEq_li, gNe_li, gEq_l0, gNe_l0, gEq_00, gNe_00, gEq_ti, gNe_ti, mEnum, Nat.zero_add, Nat.reduceAdd, Int.reduceEq, Int.cast_ofNat_Int, Nat.zero_le, sz1, sz2, sz3, sz4, sz5, sz6, decide_true, decide_false, sAugI, mPopAt, mApp, mExt, mGet, mDNew, sPar3, sFldAugM, mZip2, mZip3, sRaise0, mMethK, cutD, mLam]
      refine ⟨r, 4, rfl, by decide, by decide, R, fun v h2 v0 v1 f2 R2 => ?_⟩
      have hv : v = 0 ∨ v = 1 ∨ v = 2 ∨ v = 3 := by omega
      rcases hv with rfl | rfl | rfl | rfl
      · simp only [sSeq, sSet, sSkip, sForget, sFor, sIf, sRet, sRetN, sDrop, sSetI, sAsg, sPar, sFldM, sAug, frzV, valE, mVar, mC, mOp, mUn, mCall, mFun, mMeth, mMake, mFld, mTst, mNotT, mNotV, mAndV, mOrV, mAndT, mOrT, mIte, mNil, mCons, mTup, mLst, mChain, mIter_ap, mIsi_ap, mRng1, mRng2, mLc, mYes, mCell, mRel, mSl, oNo, oSome,
  gN, gT, gsCons, gsNil, frz_d, frz_l, frz_k, gIx_p, onSet_p, onQ_p, onL_p, gLen_p, onIns_p, put_put, atD_0, atD_1, atD_2, atD_3, atD_4, ixN_0, ixN_1, ixN_2, ixN_3, ixN_4, List.length_cons, List.length_nil, onBl_b, onInt_i, onTup_t, on1_1, on2_2, onQ_l, onQ_t, onQ_s, onL_l, onLs_l, onLs_s, onD_d, onOpt_s, gII, gB, gAdd_i, gAdd_s, gAdd_t, gAdd_l, gMul_i, gMul_l, gMul_t, gSub, gMod, gDiv, gPow, gNeg, gIx_l, gIx_t, gIx_s, gLen_l, gLen_t, gLen_s, gLen_d, iterD_t, iterD_l, iterD_s,
  kind_i, kind_b, kind_s, kind_n, kind_t, kind_l, gIsN, isNon, gTuple, gList, gAll, gAny, gSum, gMin, gMax, gMin2, gMax2, gAbs, gInt, gSorted,
  List.getElem?_cons_zero, List.getElem?_cons_succ, List.getElem?_nil, List.set_cons_zero, List.set_cons_succ, List.cons_append, List.nil_append, List.append_nil, wipeE, List.any_cons, List.any_nil, isK, Bool.or_false, Bool.false_or, Bool.or_true, Bool.true_or, Bool.not_true, Bool.not_false, if_true, if_false, Bool.false_eq_true, true_and, and_true, decide_eq_true_eq, id, reduceCtorEq, gEq_i, gNe_i, gEq_b, gNe_b, gEq_li, gNe_li, gEq_l0, gNe_l0, gEq_00, gNe_00, gEq_ti, gNe_ti, mEnum, Nat.zero_add, Nat.reduceAdd, Int.reduceEq, Int.cast_ofNat_Int, Nat.zero_le, sz1, sz2, sz3, sz4, sz5, sz6, decide_true, decide_false, sAugI, mPopAt, mApp, mExt, mGet, mDNew, sPar3, sFldAugM, mZip2, mZip3, sRaise0, mMethK, cutD, mLam]
        exact ⟨_, _, _, _, _, rfl, (by simp [kindD]), (by simp [kindD]), (by simp [kindD]), (by simp [kindD]), (by simp [kindD]), .inr (.inr ⟨k, w, p, rfl, rfl, rfl, ok, .inr (by first | rfl | (simp [isNum]; omega) | simp [isNum]), word_num (by rw [ne_num]; exact kfin _ R2)⟩)⟩
      · simp only [sSeq, sSet, sSkip, sForget, sFor, sIf, sRet, sRetN, sDrop, sSetI, sAsg, sPar, sFldM, sAug, frzV, valE, mVar, mC, mOp, mUn, mCall, mFun, mMeth, mMake, mFld, mTst, mNotT, mNotV, mAndV, mOrV, mAndT, mOrT, mIte, mNil, mCons, mTup, mLst, mChain, mIter_ap, mIsi_ap, mRng1, mRng2, mLc, mYes, mCell, mRel, mSl, oNo, oSome,
  gN, gT, gsCons, gsNil, frz_d, frz_l, frz_k, gIx_p, onSet_p, onQ_p, onL_p, gLen_p, onIns_p, put_put, atD_0, atD_1, atD_2, atD_3, atD_4, ixN_0, ixN_1, ixN_2, ixN_3, ixN_4, List.length_cons, List.length_nil, onBl_b, onInt_i, onTup_t, on1_1, on2_2, onQ_l, onQ_t, onQ_s, onL_l, onLs_l, onLs_s, onD_d, onOpt_s, gII, gB, gAdd_i, gAdd_s, gAdd_t, gAdd_l, gMul_i, gMul_l, gMul_t, gSub, gMod, gDiv, gPow, gNeg, gIx_l, gIx_t, gIx_s, gLen_l, gLen_t, gLen_s, gLen_d, iterD_t, iterD_l, iterD_s,
  kind_i, kind_b, kind_s, kind_n, kind_t, kind_l, gIsN, isNon, gTuple, gList, gAll, gAny, gSum, gMin, gMax, gMin2, gMax2, gAbs, gInt, gSorted,
  List.getElem?_cons_zero, List.getElem?_cons_succ, List.getElem?_nil, List.set_cons_zero, List.set_cons_succ, List.cons_append, List.nil_append, List.append_nil, wipeE, List.any_cons, List.any_nil, isK, Bool.or_false, Bool.false_or, Bool.or_true, Bool.true_or, Bool.not_true, Bool.not_false, if_true, if_false, Bool.false_eq_true, true_and, and_true, decide_eq_true_eq, id, reduceCtorEq, gEq_i, gNe_i, gEq_b, gNe_b, gEq_li, gNe_li, gEq_l0, gNe_l0, gEq_00, gNe_00, gEq_ti, gNe_ti, mEnum, Nat.zero_add, Nat.reduceAdd, Int.reduceEq, Int.cast_ofNat_Int, Nat.zero_le, sz1, sz2, sz3, sz4, sz5, sz6, decide_true, decide_false, sAugI, mPopAt, mApp, mExt, mGet, mDNew, sPar3, sFldAugM, mZip2, mZip3, sRaise0, mMethK, cutD, mLam]
        exact ⟨_, _, _, _, _, rfl, (by simp [kindD]), (by simp [kindD]), (by simp [kindD]), (by simp [kindD]), (by simp [kindD]), .inr (.inr ⟨k, w, p, rfl, rfl, rfl, ok, .inr (by first | rfl | (simp [isNum]; omega) | simp [isNum]), word_num (by rw [ne_num]; exact kfin _ R2)⟩)⟩
      · simp only [sSeq, sSet, sSkip, sForget, sFor, sIf, sRet, sRetN, sDrop, sSetI, sAsg, sPar, sFldM, sAug, frzV, valE, mVar, mC, mOp, mUn, mCall, mFun, mMeth, mMake, mFld, mTst, mNotT, mNotV, mAndV, mOrV, mAndT, mOrT, mIte, mNil, mCons, mTup, mLst, mChain, mIter_ap, mIsi_ap, mRng1, mRng2, mLc, mYes, mCell, mRel, mSl, oNo, oSome,
  gN, gT, gsCons, gsNil, frz_d, frz_l, frz_k, gIx_p, onSet_p, onQ_p, onL_p, gLen_p, onIns_p, put_put, atD_0, atD_1, atD_2, atD_3, atD_4, ixN_0, ixN_1, ixN_2, ixN_3, ixN_4, List.length_cons, List.length_nil, onBl_b, onInt_i, onTup_t, on1_1, on2_2, onQ_l, onQ_t, onQ_s, onL_l, onLs_l, onLs_s, onD_d, onOpt_s, gII, gB, gAdd_i, gAdd_s, gAdd_t, gAdd_l, gMul_i, gMul_l, gMul_t, gSub, gMod, gDiv, gPow, gNeg, gIx_l, gIx_t, gIx_s, gLen_l, gLen_t, gLen_s, gLen_d, iterD_t, iterD_l, iterD_s,
  kind_i, kind_b, kind_s, kind_n, kind_t, kind_l, gIsN, isNon, gTuple, gList, gAll, gAny, gSum, gMin, gMax, gMin2, gMax2, gAbs, gInt, gSorted,
  List.getElem?_cons_zero, List.getElem?_cons_succ, List.getElem?_nil, List.set_cons_zero, List.set_cons_succ, List.cons_append, List.nil_append, List.append_nil, wipeE, List.any_cons, List.any_nil, isK, Bool.or_false, Bool.false_or, Bool.or_true, Bool.true_or, Bool.not_true, Bool.not_false, if_true, if_false, Bool.false_eq_true, true_and, and_true, decide_eq_true_eq, id, reduceCtorEq, gEq_i, gNe_i, gEq_b, gNe_b, gEq_li, gNe_li, gEq_l0, gNe_l0, gEq_00, gNe_00, gEq_ti, gNe_ti, mEnum, Nat.zero_add, Nat.reduceAdd, Int.reduceEq, Int.cast_ofNat_Int, Nat.zero_le, sz1, sz2, sz3, sz4, sz5, sz6, decide_true, decide_false, sAugI, mPopAt, mApp, mExt, mGet, mDNew, sPar3, sFldAugM, mZip2, mZip3, sRaise0, mMethK, cutD, mLam]
        exact ⟨_, _, _, _, _, rfl, (by simp [kindD]), (by simp [kindD]), (by simp [kindD]), (by simp [kindD]), (by simp [kindD]), .inr (.inr ⟨k, w, p, rfl, rfl, rfl, ok, .inr (by first | rfl | (simp [isNum]; omega) | simp [isNum]), word_num (by rw [ne_num]; exact kfin _ R2)⟩)⟩
      · simp only [sSeq, sSet, sSkip, sForget, sFor, sIf, sRet, sRetN, sDrop, sSetI, sAsg, sPar, sFldM, sAug, frzV, valE, mVar, mC, mOp, mUn, mCall, mFun, mMeth, mMake, mFld, mTst, mNotT, mNotV, mAndV, mOrV, mAndT, mOrT, mIte, mNil, mCons, mTup, mLst, mChain, mIter_ap, mIsi_ap, mRng1, mRng2, mLc, mYes, mCell, mRel, mSl, oNo, oSome,
  gN, gT, gsCons, gsNil, frz_d, frz_l, frz_k, gIx_p, onSet_p, onQ_p, onL_p, gLen_p, onIns_p, put_put, atD_0, atD_1, atD_2, atD_3, atD_4, ixN_0, ixN_1, ixN_2, ixN_3, ixN_4, List.length_cons, List.length_nil, onBl_b, onInt_i, onTup_t, on1_1, on2_2, onQ_l, onQ_t, onQ_s, onL_l, onLs_l, onLs_s, onD_d, onOpt_s, gII, gB, gAdd_i, gAdd_s, gAdd_t, gAdd_l, gMul_i, gMul_l, gMul_t, gSub, gMod, gDiv, gPow, gNeg, gIx_l, gIx_t, gIx_s, gLen_l, gLen_t, gLen_s, gLen_d, iterD_t, iterD_l, iterD_s,
  kind_i, kind_b, kind_s, kind_n, kind_t, kind_l, gIsN, isNon, gTuple, gList, gAll, gAny, gSum, gMin, gMax, gMin2, gMax2, gAbs, gInt, gSorted,
  List.getElem?_cons_zero, List.getElem?_cons_succ, List.getElem?_nil, List.set_cons_zero, List.set_cons_succ, List.cons_append, List.nil_append, List.append_nil, wipeE, List.any_cons, List.any_nil, isK, Bool.or_false, Bool.false_or, Bool.or_true, Bool.true_or, Bool.not_true, Bool.not_false, if_true, if_false, Bool.false_eq_true, true_and, and_true, decide_eq_true_eq, id, reduceCtorEq, gEq_i, gNe_i, gEq_b, gNe_b, gEq_li, gNe_li, gEq_l0, gNe_l0, gEq_00, gNe_00, gEq_ti, gNe_ti, mEnum, Nat.zero_add, Nat.reduceAdd, Int.reduceEq, Int.cast_ofNat_Int, Nat.zero_le, sz1, sz2, sz3, sz4, sz5, sz6, decide_true, decide_false, sAugI, mPopAt, mApp, mExt, mGet, mDNew, sPar3, sFldAugM, mZip2, mZip3, sRaise0, mMethK, cutD, mLam]
        exact ⟨_, _, _, _, _, rfl, (by simp [kindD]), (by simp [kindD]), (by simp [kindD]), (by simp [kindD]), (by simp [kindD]), .inr (.inr ⟨k, w, p, rfl, rfl, rfl, ok, .inr (by first | rfl | (simp [isNum]; omega) | simp [isNum]), word_num (by rw [ne_num]; exact kfin _ R2)⟩)⟩
    · cases hi
      simp only [sSeq, sSet, sSkip, sForget, sFor, sIf, sRet, sRetN, sDrop, sSetI, sAsg, sPar, sFldM, sAug, frzV, valE, mVar, mC, mOp, mUn, mCall, mFun, mMeth, mMake, mFld, mTst, mNotT, mNotV, mAndV, mOrV, mAndT, mOrT, mIte, mNil, mCons, mTup, mLst, mChain, mIter_ap, mIsi_ap, mRng1, mRng2, mLc, mYes, mCell, mRel, mSl, oNo, oSome,
  gN, gT, gsCons, gsNil, frz_d, frz_l, frz_k, gIx_p, onSet_p, onQ_p, onL_p, gLen_p, onIns_p, put_put, atD_0, atD_1, atD_2, atD_3, atD_4, ixN_0, ixN_1, ixN_2, ixN_3, ixN_4, List.length_cons, List.length_nil, onBl_b, onInt_i, onTup_t, on1_1, on2_2, onQ_l, onQ_t, onQ_s, onL_l, onLs_l, onLs_s, onD_d, onOpt_s, gII, gB, gAdd_i, gAdd_s, gAdd_t, gAdd_l, gMul_i, gMul_l, gMul_t, gSub, gMod, gDiv, gPow, gNeg, gIx_l, gIx_t, gIx_s, gLen_l, gLen_t, gLen_s, gLen_d, iterD_t, iterD_l, iterD_s,
  kind_i, kind_b, kind_s, kind_n, kind_t, kind_l, gIsN, isNon, gTuple, gList, gAll, gAny, gSum, gMin, gMax, gMin2, gMax2, gAbs, gInt, gSorted,
  List.getElem?_cons_zero, List.getElem?_cons_succ, List.getElem?_nil, List.set_cons_zero, List.set_cons_succ, List.cons_append, List.nil_append, List.append_nil, wipeE, List.any_cons, List.any_nil, isK, Bool.or_false, Bool.false_or, Bool.or_true, Bool.true_or, Bool.not_true, Bool.not_false, if_true, if_false, Bool.false_eq_true, true_and, and_true, decide_eq_true_eq, id, reduceCtorEq, gEq_i, gNe_i, gEq_b, gNe_b, gEq_li, gNe_li, gEq_l0, gNe_l0, gEq_00, gNe_00, gEq_ti, gNe_ti, mEnum, Nat.zero_add, Nat.reduceAdd, Int.reduceEq, Int.cast_ofNat_Int, Nat.zero_le, sz1, sz2, sz3, sz4, sz5, sz6, decide_true, decide_false, sAugI, mPopAt, mApp, mExt, mGet, mDNew, sPar3, sFldAugM, mZip2, mZip3, sRaise0, mMethK, cutD, mLam, mWordC]
      refine ⟨by decide, ?_⟩
      show tl_law_4 a _ h' _ _
      unfold tl_law_4
      simp only [sSeq, sSet, mTup, mCons, frzV, mOp, mVar, mC, mNil, mLst, mLam, sRet, mLc, mIter, mMeth, mMethK, mMake, mTst, mNotT, sIf, valE, mCall, mFun, mIte]
      simp only [sSeq, sSet, sSkip, sForget, sFor, sIf, sRet, sRetN, sDrop, sSetI, sAsg, sPar, sFldM, sAug, frzV, valE, mVar, mC, mOp, mUn, mCall, mFun, mMeth, mMake, mFld, mTst, mNotT, mNotV, mAndV, mOrV, mAndT, mOrT, mIte, mNil, mCons, mTup, mLst, mChain, mIter_ap, mIsi_ap, mRng1, mRng2, mLc, mYes, mCell, mRel, mSl, oNo, oSome,
  gN, gT, gsCons, gsNil, frz_d, frz_l, frz_k, gIx_p, onSet_p, onQ_p, onL_p, gLen_p, onIns_p, put_put, atD_0, atD_1, atD_2, atD_3, atD_4, ixN_0, ixN_1, ixN_2, ixN_3, ixN_4, List.length_cons, List.length_nil, onBl_b, onInt_i, onTup_t, on1_1, on2_2, onQ_l, onQ_t, onQ_s, onL_l, onLs_l, onLs_s, onD_d, onOpt_s, gII, gB, gAdd_i, gAdd_s, gAdd_t, gAdd_l, gMul_i, gMul_l, gMul_t, gSub, gMod, gDiv, gPow, gNeg, gIx_l, gIx_t, gIx_s, gLen_l, gLen_t, gLen_s, gLen_d, iterD_t, iterD_l, iterD_s,
  kind_i, kind_b, kind_s, kind_n, kind_t, kind_l, gIsN, isNon, gTuple, gList, gAll, gAny, gSum, gMin, gMax, gMin2, gMax2, gAbs, gInt, gSorted,
  List.getElem?_cons_zero, List.getElem?_cons_succ, List.getElem?_nil, List.set_cons_zero, List.set_cons_succ, List.cons_append, List.nil_append, List.append_nil, wipeE, List.any_cons, List.any_nil, isK, Bool.or_false, Bool.false_or, Bool.or_true, Bool.true_or, Bool.not_true, Bool.not_false, if_true, if_false, Bool.false_eq_true, true_and, and_true, decide_eq_true_eq, id, reduceCtorEq, gEq_i, gNe_i, gEq_b, gNe_b, gEq_li, gNe_li, gEq_l0, gNe_l0, gEq_00, gNe_00, gEq_ti, gNe_ti, mEnum, Nat.zero_add, Nat.reduceAdd, Int.reduceEq, Int.cast_ofNat_Int, Nat.zero_le, sz1, sz2, sz3, sz4, sz5, sz6, decide_true, decide_false, sAugI, mPopAt, mApp, mExt, mGet, mDNew, sPar3, sFldAugM, mZip2, mZip3, sRaise0, mMethK, cutD, mLam]
      refine ⟨r, 3, rfl, by decide, by decide, R, fun v h2 v0 v1 f2 R2 => ?_⟩
      have hv : v = 0 ∨ v = 1 ∨ v = 2 := by omega
      rcases hv with rfl | rfl | rfl
      · simp only [sSeq, sSet, sSkip, sForget, sFor, sIf, sRet, sRetN, sDrop, sSetI, sAsg, sPar, sFldM, sAug, frzV, valE, mVar, mC, mOp, mUn, mCall, mFun, mMeth, mMake, mFld, mTst, mNotT, mNotV, mAndV, mOrV, mAndT, mOrT, mIte, mNil, mCons, mTup, mLst, mChain, mIter_ap, mIsi_ap, mRng1, mRng2, mLc, mYes, mCell, mRel, mSl, oNo, oSome,
  gN, gT, gsCons, gsNil, frz_d, frz_l, frz_k, gIx_p, onSet_p, onQ_p, onL_p, gLen_p, onIns_p, put_put, atD_0, atD_1, atD_2, atD_3, atD_4, ixN_0, ixN_1, ixN_2, ixN_3, ixN_4, List.length_cons, List.length_nil, onBl_b, onInt_i, onTup_t, on1_1, on2_2, onQ_l, onQ_t, onQ_s, onL_l, onLs_l, onLs_s, onD_d, onOpt_s, gII, gB, gAdd_i, gAdd_s, gAdd_t, gAdd_l, gMul_i, gMul_l, gMul_t, gSub, gMod, gDiv, gPow, gNeg, gIx_l, gIx_t, gIx_s, gLen_l, gLen_t, gLen_s, gLen_d, iterD_t, iterD_l, iterD_s,
  kind_i, kind_b, kind_s, kind_n, kind_t, kind_l, gIsN, isNon, gTuple, gList, gAll, gAny, gSum, gMin, gMax, gMin2, gMax2, gAbs, gInt, gSorted,
  List.getElem?_cons_zero, List.getElem?_cons_succ, List.getElem?_nil, List.set_cons_zero, List.set_cons_succ, List.cons_append, List.nil_append, List.append_nil, wipeE, List.any_cons, List.any_nil, isK, Bool.or_false, Bool.false_or, Bool.or_true, Bool.true_or, Bool.not_true, Bool.not_false, if_true, if_false, Bool.false_eq_true, true_and, and_true, decide_eq_true_eq, id, reduceCtorEq, gEq_i, gNe_i, gEq_b, gNe_b, gEq_li, gNe_li, gEq_l0, gNe_l0, gEq_00, gNe_00, gEq_ti, gNe_ti, mEnum, Nat.zero_add, Nat.reduceAdd, Int.reduceEq, Int.cast_ofNat_Int, Nat.zero_le, sz1, sz2, sz3, sz4, sz5, sz6, decide_true, decide_false, sAugI, mPopAt, mApp, mExt, mGet, mDNew, sPar3, sFldAugM, mZip2, mZip3, sRaise0, mMethK, cutD, mLam]
        exact ⟨_, _, _, _, _, rfl, (by simp [kindD]), (by simp [kindD]), (by simp [kindD]), (by simp [kindD]), (by simp [kindD]), .inr (.inl ⟨.inl (by first | rfl | (simp [isNum]; omega) | simp [isNum]), word_num (by rw [ne_num]; exact kfin _ R2)⟩)⟩
      · simp only [sSeq, sSet, sSkip, sForget, sFor, sIf, sRet, sRetN, sDrop, sSetI, sAsg, sPar, sFldM, sAug, frzV, valE, mVar, mC, mOp, mUn, mCall, mFun, mMeth, mMake, mFld, mTst, mNotT, mNotV, mAndV, mOrV, mAndT, mOrT, mIte, mNil, mCons, mTup, mLst, mChain, mIter_ap, mIsi_ap, mRng1, mRng2, mLc, mYes, mCell, mRel, mSl, oNo, oSome,
  gN, gT, gsCons, gsNil, frz_d, frz_l, frz_k, gIx_p, onSet_p, onQ_p, onL_p, gLen_p, onIns_p, put_put, atD_0, atD_1, atD_2, atD_3, atD_4, ixN_0, ixN_1, ixN_2, ixN_3, ixN_4, List.length_cons, List.length_nil, onBl_b, onInt_i, onTup_t, on1_1, on2_2, onQ_l, onQ_t, onQ_s, onL_l, onLs_l, onLs_s, onD_d, onOpt_s, gII, gB, gAdd_i, gAdd_s, gAdd_t, gAdd_l, gMul_i, gMul_l, gMul_t, gSub, gMod, gDiv, gPow, gNeg, gIx_l, gIx_t, gIx_s, gLen_l, gLen_t, gLen_s, gLen_d, iterD_t, iterD_l, iterD_s,
  kind_i, kind_b, kind_s, kind_n, kind_t, kind_l, gIsN, isNon, gTuple, gList, gAll, gAny, gSum, gMin, gMax, gMin2, gMax2, gAbs, gInt, gSorted,
  List.getElem?_cons_zero, List.getElem?_cons_succ, List.getElem?_nil, List.set_cons_zero, List.set_cons_succ, List.cons_append, List.nil_append, List.append_nil, wipeE, List.any_cons, List.any_nil, isK, Bool.or_false, Bool.false_or, Bool.or_true, Bool.true_or, Bool.not_true, Bool.not_false, if_true, if_false, Bool.false_eq_true, true_and, and_true, decide_eq_true_eq, id, reduceCtorEq, gEq_i, gNe_i, gEq_b, gNe_b, gEq_li, gNe_li, gEq_l0, gNe_l0, gEq_00, gNe_00, gEq_ti, gNe_ti, mEnum, Nat.zero_add, Nat.reduceAdd, Int.reduceEq, Int.cast_ofNat_Int, Nat.zero_le, sz1, sz2, sz3, sz4, sz5, sz6, decide_true, decide_false, sAugI, mPopAt, mApp, mExt, mGet, mDNew, sPar3, sFldAugM, mZip2, mZip3, sRaise0, mMethK, cutD, mLam]
        exact ⟨_, _, _, _, _, rfl, (by simp [kindD]), (by simp [kindD]), (by simp [kindD]), (by simp [kindD]), (by simp [kindD]), .inr (.inl ⟨.inl (by first | rfl | (simp [isNum]; omega) | simp [isNum]), word_num (by rw [ne_num]; exact kfin _ R2)⟩)⟩
      · simp only [sSeq, sSet, sSkip, sForget, sFor, sIf, sRet, sRetN, sDrop, sSetI, sAsg, sPar, sFldM, sAug, frzV, valE, mVar, mC, mOp, mUn, mCall, mFun, mMeth, mMake, mFld, mTst, mNotT, mNotV, mAndV, mOrV, mAndT, mOrT, mIte, mNil, mCons, mTup, mLst, mChain, mIter_ap, mIsi_ap, mRng1, mRng2, mLc, mYes, mCell, mRel, mSl, oNo, oSome,
  gN, gT, gsCons, gsNil, frz_d, frz_l, frz_k, gIx_p, onSet_p, onQ_p, onL_p, gLen_p, onIns_p, put_put, atD_0, atD_1, atD_2, atD_3, atD_4, ixN_0, ixN_1, ixN_2, ixN_3, ixN_4, List.length_cons, List.length_nil, onBl_b, onInt_i, onTup_t, on1_1, on2_2, onQ_l, onQ_t, onQ_s, onL_l, onLs_l, onLs_s, onD_d, onOpt_s, gII, gB, gAdd_i, gAdd_s, gAdd_t, gAdd_l, gMul_i, gMul_l, gMul_t, gSub, gMod, gDiv, gPow, gNeg, gIx_l, gIx_t, gIx_s, gLen_l, gLen_t, gLen_s, gLen_d, iterD_t, iterD_l, iterD_s,
  kind_i, kind_b, kind_s, kind_n, kind_t, kind_l, gIsN, isNon, gTuple, gList, gAll, gAny, gSum, gMin, gMax, gMin2, gMax2, gAbs, gInt, gSorted,
  List.getElem?_cons_zero, List.getElem?_cons_succ, List.getElem?_nil, List.set_cons_zero, List.set_cons_succ, List.cons_append, List.nil_append, List.append_nil, wipeE, List.any_cons, List.any_nil, isK, Bool.or_false, Bool.false_or, Bool.or_true, Bool.true_or, Bool.not_true, Bool.not_false, if_true, if_false, Bool.false_eq_true, true_and, and_true, decide_eq_true_eq, id, reduceCtorEq, gEq_i, gNe_i, gEq_b, gNe_b, gEq_li, gNe_li, gEq_l0, gNe_l0, gEq_00, gNe_00, gEq_ti, gNe_ti, mEnum, Nat.zero_add, Nat.reduceAdd, Int.reduceEq, Int.cast_ofNat_Int, Nat.zero_le, sz1, sz2, sz3, sz4, sz5, sz6, decide_true, decide_false, sAugI, mPopAt, mApp, mExt, mGet, mDNew, sPar3, sFldAugM, mZip2, mZip3, sRaise0, mMethK, cutD, mLam]
        exact ⟨_, _, _, _, _, rfl, (by simp [kindD]), (by simp [kindD]), (by simp [kindD]), (by simp [kindD]), (by simp [kindD]), .inr (.inl ⟨.inl (by first | rfl | (simp [isNum]; omega) | simp [isNum]), word_num (by rw [ne_num]; exact kfin _ R2)⟩)⟩
    · cases hi
      simp only [sSeq, sSet, sSkip, sForget, sFor, sIf, sRet, sRetN, sDrop, sSetI, sAsg, sPar, sFldM, sAug, frzV, valE, mVar, mC, mOp, mUn, mCall, mFun, mMeth, mMake, mFld, mTst, mNotT, mNotV, mAndV, mOrV, mAndT, mOrT, mIte, mNil, mCons, mTup, mLst, mChain, mIter_ap, mIsi_ap, mRng1, mRng2, mLc, mYes, mCell, mRel, mSl, oNo, oSome,
  gN, gT, gsCons, gsNil, frz_d, frz_l, frz_k, gIx_p, onSet_p, onQ_p, onL_p, gLen_p, onIns_p, put_put, atD_0, atD_1, atD_2, atD_3, atD_4, ixN_0, ixN_1, ixN_2, ixN_3, ixN_4, List.length_cons, List.length_nil, onBl_b, onInt_i, onTup_t, on1_1, on2_2, onQ_l, onQ_t, onQ_s, onL_l, onLs_l, onLs_s, onD_d, onOpt_s, gII, gB, gAdd_i, gAdd_s, gAdd_t, gAdd_l, gMul_i, gMul_l, gMul_t, gSub, gMod, gDiv, gPow, gNeg, gIx_l, gIx_t, gIx_s, gLen_l, gLen_t, gLen_s, gLen_d, iterD_t, iterD_l, iterD_s,
  kind_i, kind_b, kind_s, kind_n, kind_t, kind_l, gIsN, isNon, gTuple, gList, gAll, gAny, gSum, gMin, gMax, gMin2, gMax2, gAbs, gInt, gSorted,
  List.getElem?_cons_zero, List.getElem?_cons_succ, List.getElem?_nil, List.set_cons_zero, List.set_cons_succ, List.cons_append, List.nil_append, List.append_nil, wipeE, List.any_cons, List.any_nil, isK, Bool.or_false, Bool.false_or, Bool.or_true, Bool.true_or, Bool.not_true, Bool.not_false, if_true, if_false, Bool.false_eq_true, true_and, and_true, decide_eq_true_eq, id, reduceCtorEq, gEq_i, gNe_i, gEq_b, gNe_b, gEq_li, gNe_li, gEq_l0, gNe_l0, gEq_00, gNe_00, gEq_ti, gNe_ti, mEnum, Nat.zero_add, Nat.reduceAdd, Int.reduceEq, Int.cast_ofNat_Int, Nat.zero_le, sz1, sz2, sz3, sz4, sz5, sz6, decide_true, decide_false, sAugI, mPopAt, mApp, mExt, mGet, mDNew, sPar3, sFldAugM, mZip2, mZip3, sRaise0, mMethK, cutD, mLam, mWordC]
      refine ⟨by decide, ?_⟩
      show tl_law_5 a _ h' _ _
      unfold tl_law_5
      simp only [sSeq, sSet, mTup, mCons, frzV, mOp, mVar, mC, mNil, mLst, mLam, sRet, mLc, mIter, mMeth, mMethK, mMake, mTst, mNotT, sIf, valE, mCall, mFun, mIte]
      simp only [sSeq, sSet, sSkip, sForget, sFor, sIf, sRet, sRetN, sDrop, sSetI, sAsg, sPar, sFldM, sAug, frzV, valE, mVar, mC, mOp, mUn, mCall, mFun, mMeth, mMake, mFld, mTst, mNotT, mNotV, mAndV, mOrV, mAndT, mOrT, mIte, mNil, mCons, mTup, mLst, mChain, mIter_ap, mIsi_ap, mRng1, mRng2, mLc, mYes, mCell, mRel, mSl, oNo, oSome,
  gN, gT, gsCons, gsNil, frz_d, frz_l, frz_k, gIx_p, onSet_p, onQ_p, onL_p, gLen_p, onIns_p, put_put, atD_0, atD_1, atD_2, atD_3, atD_4, ixN_0, ixN_1, ixN_2, ixN_3, ixN_4, List.length_cons, List.length_nil, onBl_b, onInt_i, onTup_t, on1_1, on2_2, onQ_l, onQ_t, onQ_s, onL_l, onLs_l, onLs_s, onD_d, onOpt_s, gII, gB, gAdd_i, gAdd_s, gAdd_t, gAdd_l, gMul_i, gMul_l, gMul_t, gSub, gMod, gDiv, gPow, gNeg, gIx_l, gIx_t, gIx_s, gLen_l, gLen_t, gLen_s, gLen_d, iterD_t, iterD_l, iterD_s,
  kind_i, kind_b, kind_s, kind_n, kind_t, kind_l, gIsN, isNon, gTuple, gList, gAll, gAny, gSum, gMin, gMax, gMin2, gMax2, gAbs, gInt, gSorted,
  List.getElem?_cons_zero, List.getElem?_cons_succ, List.getElem?_nil, List.set_cons_zero, List.set_cons_succ, List.cons_append, List.nil_append, List.append_nil, wipeE, List.any_cons, List.any_nil, isK, Bool.or_false, Bool.false_or, Bool.or_true, Bool.true_or, Bool.not_true, Bool.not_false, if_true, if_false, Bool.false_eq_true, true_and, and_true, decide_eq_true_eq, id, reduceCtorEq, gEq_i, gNe_i, gEq_b, gNe_b, gEq_li, gNe_li, gEq_l0, gNe_l0, gEq_00, gNe_00, gEq_ti, gNe_ti, mEnum, Nat.zero_add, Nat.reduceAdd, Int.reduceEq, Int.cast_ofNat_Int, Nat.zero_le, sz1, sz2, sz3, sz4, sz5, sz6, decide_true, decide_false, sAugI, mPopAt, mApp, mExt, mGet, mDNew, sPar3, sFldAugM, mZip2, mZip3, sRaise0, mMethK, cutD, mLam]
      refine ⟨r, 3, rfl, by decide, by decide, R, fun v h2 v0 v1 f2 R2 => ?_⟩
      have hv : v = 0 ∨ v = 1 ∨ v = 2 := by omega
      rcases hv with rfl | rfl | rfl
      · simp only [sSeq, sSet, sSkip, sForget, sFor, sIf, sRet, sRetN, sDrop, sSetI, sAsg, sPar, sFldM, sAug, frzV, valE, mVar, mC, mOp, mUn, mCall, mFun, mMeth, mMake, mFld, mTst, mNotT, mNotV, mAndV, mOrV, mAndT, mOrT, mIte, mNil, mCons, mTup, mLst, mChain, mIter_ap, mIsi_ap, mRng1, mRng2, mLc, mYes, mCell, mRel, mSl, oNo, oSome,
  gN, gT, gsCons, gsNil, frz_d, frz_l, frz_k, gIx_p, onSet_p, onQ_p, onL_p, gLen_p, onIns_p, put_put, atD_0, atD_1, atD_2, atD_3, atD_4, ixN_0, ixN_1, ixN_2, ixN_3, ixN_4, List.length_cons, List.length_nil, onBl_b, onInt_i, onTup_t, on1_1, on2_2, onQ_l, onQ_t, onQ_s, onL_l, onLs_l, onLs_s, onD_d, onOpt_s, gII, gB, gAdd_i, gAdd_s, gAdd_t, gAdd_l, gMul_i, gMul_l, gMul_t, gSub, gMod, gDiv, gPow, gNeg, gIx_l, gIx_t, gIx_s, gLen_l, gLen_t, gLen_s, gLen_d, iterD_t, iterD_l, iterD_s,
  kind_i, kind_b, kind_s, kind_n, kind_t, kind_l, gIsN, isNon, gTuple, gList, gAll, gAny, gSum, gMin, gMax, gMin2, gMax2, gAbs, gInt, gSorted,
  List.getElem?_cons_zero, List.getElem?_cons_succ, List.getElem?_nil, List.set_cons_zero, List.set_cons_succ, List.cons_append, List.nil_append, List.append_nil, wipeE, List.any_cons, List.any_nil, isK, Bool.or_false, Bool.false_or, Bool.or_true, Bool.true_or, Bool.not_true, Bool.not_false, if_true, if_false, Bool.false_eq_true, true_and, and_true, decide_eq_true_eq, id, reduceCtorEq, gEq_i, gNe_i, gEq_b, gNe_b, gEq_li, gNe_li, gEq_l0, gNe_l0, gEq_00, gNe_00, gEq_ti, gNe_ti, mEnum, Nat.zero_add, Nat.reduceAdd, Int.reduceEq, Int.cast_ofNat_Int, Nat.zero_le, sz1, sz2, sz3, sz4, sz5, sz6, decide_true, decide_false, sAugI, mPopAt, mApp, mExt, mGet, mDNew, sPar3, sFldAugM, mZip2, mZip3, sRaise0, mMethK, cutD, mLam]
        exact ⟨_, _, _, _, _, rfl, (by simp [kindD]), (by simp [kindD]), (by simp [kindD]), (by simp [kindD]), (by simp [kindD]), .inr (.inl ⟨.inr (.inl ⟨num_yes ok.k1 ok.k2, (by first | rfl | (simp [isNum]; omega) | simp [isNum])⟩), word_num (by rw [ne_num]; exact kfin _ R2)⟩)⟩
      · simp only [sSeq, sSet, sSkip, sForget, sFor, sIf, sRet, sRetN, sDrop, sSetI, sAsg, sPar, sFldM, sAug, frzV, valE, mVar, mC, mOp, mUn, mCall, mFun, mMeth, mMake, mFld, mTst, mNotT, mNotV, mAndV, mOrV, mAndT, mOrT, mIte, mNil, mCons, mTup, mLst, mChain, mIter_ap, mIsi_ap, mRng1, mRng2, mLc, mYes, mCell, mRel, mSl, oNo, oSome,
  gN, gT, gsCons, gsNil, frz_d, frz_l, frz_k, gIx_p, onSet_p, onQ_p, onL_p, gLen_p, onIns_p, put_put, atD_0, atD_1, atD_2, atD_3, atD_4, ixN_0, ixN_1, ixN_2, ixN_3, ixN_4, List.length_cons, List.length_nil, onBl_b, onInt_i, onTup_t, on1_1, on2_2, onQ_l, onQ_t, onQ_s, onL_l, onLs_l, onLs_s, onD_d, onOpt_s, gII, gB, gAdd_i, gAdd_s, gAdd_t, gAdd_l, gMul_i, gMul_l, gMul_t, gSub, gMod, gDiv, gPow, gNeg, gIx_l, gIx_t, gIx_s, gLen_l, gLen_t, gLen_s, gLen_d, iterD_t, iterD_l, iterD_s,
  kind_i, kind_b, kind_s, kind_n, kind_t, kind_l, gIsN, isNon, gTuple, gList, gAll, gAny, gSum, gMin, gMax, gMin2, gMax2, gAbs, gInt, gSorted,
  List.getElem?_cons_zero, List.getElem?_cons_succ, List.getElem?_nil, List.set_cons_zero, List.set_cons_succ, List.cons_append, List.nil_append, List.append_nil, wipeE, List.any_cons, List.any_nil, isK, Bool.or_false, Bool.false_or, Bool.or_true, Bool.true_or, Bool.not_true, Bool.not_false, if_true, if_false, Bool.false_eq_true, true_and, and_true, decide_eq_true_eq, id, reduceCtorEq, gEq_i, gNe_i, gEq_b, gNe_b, gEq_li, gNe_li, gEq_l0, gNe_l0, gEq_00, gNe_00, gEq_ti, gNe_ti, mEnum, Nat.zero_add, Nat.reduceAdd, Int.reduceEq, Int.cast_ofNat_Int, Nat.zero_le, sz1, sz2, sz3, sz4, sz5, sz6, decide_true, decide_false, sAugI, mPopAt, mApp, mExt, mGet, mDNew, sPar3, sFldAugM, mZip2, mZip3, sRaise0, mMethK, cutD, mLam]
        exact ⟨_, _, _, _, _, rfl, (by simp [kindD]), (by simp [kindD]), (by simp [kindD]), (by simp [kindD]), (by simp [kindD]), .inr (.inl ⟨.inr (.inl ⟨num_yes ok.k1 ok.k2, (by first | rfl | (simp [isNum]; omega) | simp [isNum])⟩), word_num (by rw [ne_num]; exact kfin _ R2)⟩)⟩
      · simp only [sSeq, sSet, sSkip, sForget, sFor, sIf, sRet, sRetN, sDrop, sSetI, sAsg, sPar, sFldM, sAug, frzV, valE, mVar, mC, mOp, mUn, mCall, mFun, mMeth, mMake, mFld, mTst, mNotT, mNotV, mAndV, mOrV, mAndT, mOrT, mIte, mNil, mCons, mTup, mLst, mChain, mIter_ap, mIsi_ap, mRng1, mRng2, mLc, mYes, mCell, mRel, mSl, oNo, oSome,
  gN, gT, gsCons, gsNil, frz_d, frz_l, frz_k, gIx_p, onSet_p, onQ_p, onL_p, gLen_p, onIns_p, put_put, atD_0, atD_1, atD_2, atD_3, atD_4, ixN_0, ixN_1, ixN_2, ixN_3, ixN_4, List.length_cons, List.length_nil, onBl_b, onInt_i, onTup_t, on1_1, on2_2, onQ_l, onQ_t, onQ_s, onL_l, onLs_l, onLs_s, onD_d, onOpt_s, gII, gB, gAdd_i, gAdd_s, gAdd_t, gAdd_l, gMul_i, gMul_l, gMul_t, gSub, gMod, gDiv, gPow, gNeg, gIx_l, gIx_t, gIx_s, gLen_l, gLen_t, gLen_s, gLen_d, iterD_t, iterD_l, iterD_s,
  kind_i, kind_b, kind_s, kind_n, kind_t, kind_l, gIsN, isNon, gTuple, gList, gAll, gAny, gSum, gMin, gMax, gMin2, gMax2, gAbs, gInt, gSorted,
  List.getElem?_cons_zero, List.getElem?_cons_succ, List.getElem?_nil, List.set_cons_zero, List.set_cons_succ, List.cons_append, List.nil_append, List.append_nil, wipeE, List.any_cons, List.any_nil, isK, Bool.or_false, Bool.false_or, Bool.or_true, Bool.true_or, Bool.not_true, Bool.not_false, if_true, if_false, Bool.false_eq_true, true_and, and_true, decide_eq_true_eq, id, reduceCtorEq, gEq_i, gNe_i, gEq_b, gNe_b, gEq_li, gNe_li, gEq_l0, gNe_l0, gEq_00, gNe_00, gEq_ti, gNe_ti, mEnum, Nat.zero_add, Nat.reduceAdd, Int.reduceEq, Int.cast_ofNat_Int, Nat.zero_le, sz1, sz2, sz3, sz4, sz5, sz6, decide_true, decide_false, sAugI, mPopAt, mApp, mExt, mGet, mDNew, sPar3, sFldAugM, mZip2, mZip3, sRaise0, mMethK, cutD, mLam]
        exact ⟨_, _, _, _, _, rfl, (by simp [kindD]), (by simp [kindD]), (by simp [kindD]), (by simp [kindD]), (by simp [kindD]), .inr (.inl ⟨.inr (.inl ⟨num_yes ok.k1 ok.k2, (by first | rfl | (simp [isNum]; omega) | simp [isNum])⟩), word_num (by rw [ne_num]; exact kfin _ R2)⟩)⟩
    · cases hi
      simp only [sSeq, sSet, sSkip, sForget, sFor, sIf, sRet, sRetN, sDrop, sSetI, sAsg, sPar, sFldM, sAug, frzV, valE, mVar, mC, mOp, mUn, mCall, mFun, mMeth, mMake, mFld, mTst, mNotT, mNotV, mAndV, mOrV, mAndT, mOrT, mIte, mNil, mCons, mTup, mLst, mChain, mIter_ap, mIsi_ap, mRng1, mRng2, mLc, mYes, mCell, mRel, mSl, oNo, oSome,
  gN, gT, gsCons, gsNil, frz_d, frz_l, frz_k, gIx_p, onSet_p, onQ_p, onL_p, gLen_p, onIns_p, put_put, atD_0, atD_1, atD_2, atD_3, atD_4, ixN_0, ixN_1, ixN_2, ixN_3, ixN_4, List.length_cons, List.length_nil, onBl_b, onInt_i, onTup_t, on1_1, on2_2, onQ_l, onQ_t, onQ_s, onL_l, onLs_l, onLs_s, onD_d, onOpt_s, gII, gB, gAdd_i, gAdd_s, gAdd_t, gAdd_l, gMul_i, gMul_l, gMul_t, gSub, gMod, gDiv, gPow, gNeg, gIx_l, gIx_t, gIx_s, gLen_l, gLen_t, gLen_s, gLen_d, iterD_t, iterD_l, iterD_s,
  kind_i, kind_b, kind_s, kind_n, kind_t, kind_l, gIsN, isNon, gTuple, gList, gAll, gAny, gSum, gMin, gMax, gMin2, gMax2, gAbs, gInt, gSorted,
  List.getElem?_cons_zero, List.getElem?_cons_succ, List.getElem?_nil, List.set_cons_zero, List.set_cons_succ, List.cons_append, List.nil_append, List.append_nil, wipeE, List.any_cons, List.any_nil, isK, Bool.or_false, Bool.false_or, Bool.or_true, Bool.true_or, Bool.not_true, Bool.not_false, if_true, if_false, Bool.false_eq_true, true_and, and_true, decide_eq_true_eq, id, reduceCtorEq, gEq_i, gNe_i, gEq_b, gNe_b, gEq_li, gNe_li, gEq_l0, gNe_l0, gEq_00, gNe_00, gEq_ti, gNe_ti, mEnum, Nat.zero_add, Nat.reduceAdd, Int.reduceEq, Int.cast_ofNat_Int, Nat.zero_le, sz1, sz2, sz3, sz4, sz5, sz6, decide_true, decide_false, sAugI, mPopAt, mApp, mExt, mGet, mDNew, sPar3, sFldAugM, mZip2, mZip3, sRaise0, mMethK, cutD, mLam, mWordC]
      refine ⟨by decide, ?_⟩
      show tl_law_6 a _ h' _ _
      unfold tl_law_6
      simp only [sSeq, sSet, mTup, mCons, frzV, mOp, mVar, mC, mNil, mLst, mLam, sRet, mLc, mIter, mMeth, mMethK, mMake, mTst, mNotT, sIf, valE, mCall, mFun, mIte]
      simp only [sSeq, sSet, sSkip, sForget, sFor, sIf, sRet, sRetN, sDrop, sSetI, sAsg, sPar, sFldM, sAug, frzV, valE, mVar, mC, mOp, mUn, mCall, mFun, mMeth, mMake, mFld, mTst, mNotT, mNotV, mAndV, mOrV, mAndT, mOrT, mIte, mNil, mCons, mTup, mLst, mChain, mIter_ap, mIsi_ap, mRng1, mRng2, mLc, mYes, mCell, mRel, mSl, oNo, oSome,
  gN, gT, gsCons, gsNil, frz_d, frz_l, frz_k, gIx_p, onSet_p, onQ_p, onL_p, gLen_p, onIns_p, put_put, atD_0, atD_1, atD_2, atD_3, atD_4, ixN_0, ixN_1, ixN_2, ixN_3, ixN_4, List.length_cons, List.length_nil, onBl_b, onInt_i, onTup_t, on1_1, on2_2, onQ_l, onQ_t, onQ_s, onL_l, onLs_l, onLs_s, onD_d, onOpt_s, gII, gB, gAdd_i, gAdd_s, gAdd_t, gAdd_l, gMul_i, gMul_l, gMul_t, gSub, gMod, gDiv, gPow, gNeg, gIx_l, gIx_t, gIx_s, gLen_l, gLen_t, gLen_s, gLen_d, iterD_t, iterD_l, iterD_s,
  kind_i, kind_b, kind_s, kind_n, kind_t, kind_l, gIsN, isNon, gTuple, gList, gAll, gAny, gSum, gMin, gMax, gMin2, gMax2, gAbs, gInt, gSorted,
  List.getElem?_cons_zero, List.getElem?_cons_succ, List.getElem?_nil, List.set_cons_zero, List.set_cons_succ, List.cons_append, List.nil_append, List.append_nil, wipeE, List.any_cons, List.any_nil, isK, Bool.or_false, Bool.false_or, Bool.or_true, Bool.true_or, Bool.not_true, Bool.not_false, if_true, if_false, Bool.false_eq_true, true_and, and_true, decide_eq_true_eq, id, reduceCtorEq, gEq_i, gNe_i, gEq_b, gNe_b, gEq_li, gNe_li, gEq_l0, gNe_l0, gEq_00, gNe_00, gEq_ti, gNe_ti, mEnum, Nat.zero_add, Nat.reduceAdd, Int.reduceEq, Int.cast_ofNat_Int, Nat.zero_le, sz1, sz2, sz3, sz4, sz5, sz6, decide_true, decide_false, sAugI, mPopAt, mApp, mExt, mGet, mDNew, sPar3, sFldAugM, mZip2, mZip3, sRaise0, mMethK, cutD, mLam]
      have lm := memB_len mb (by omega)
      have k16 := ok.k2
      refine ⟨by rw [List.length_map]; omega, ?_⟩
      cases ms with
      | nil =>
        simp only [sSeq, sSet, sSkip, sForget, sFor, sIf, sRet, sRetN, sDrop, sSetI, sAsg, sPar, sFldM, sAug, frzV, valE, mVar, mC, mOp, mUn, mCall, mFun, mMeth, mMake, mFld, mTst, mNotT, mNotV, mAndV, mOrV, mAndT, mOrT, mIte, mNil, mCons, mTup, mLst, mChain, mIter_ap, mIsi_ap, mRng1, mRng2, mLc, mYes, mCell, mRel, mSl, oNo, oSome,
  gN, gT, gsCons, gsNil, frz_d, frz_l, frz_k, gIx_p, onSet_p, onQ_p, onL_p, gLen_p, onIns_p, put_put, atD_0, atD_1, atD_2, atD_3, atD_4, ixN_0, ixN_1, ixN_2, ixN_3, ixN_4, List.length_cons, List.length_nil, onBl_b, onInt_i, onTup_t, on1_1, on2_2, onQ_l, onQ_t, onQ_s, onL_l, onLs_l, onLs_s, onD_d, onOpt_s, gII, gB, gAdd_i, gAdd_s, gAdd_t, gAdd_l, gMul_i, gMul_l, gMul_t, gSub, gMod, gDiv, gPow, gNeg, gIx_l, gIx_t, gIx_s, gLen_l, gLen_t, gLen_s, gLen_d, iterD_t, iterD_l, iterD_s,
  kind_i, kind_b, kind_s, kind_n, kind_t, kind_l, gIsN, isNon, gTuple, gList, gAll, gAny, gSum, gMin, gMax, gMin2, gMax2, gAbs, gInt, gSorted,
  List.getElem?_cons_zero, List.getElem?_cons_succ, List.getElem?_nil, List.set_cons_zero, List.set_cons_succ, List.cons_append, List.nil_append, List.append_nil, wipeE, List.any_cons, List.any_nil, isK, Bool.or_false, Bool.false_or, Bool.or_true, Bool.true_or, Bool.not_true, Bool.not_false, if_true, if_false, Bool.false_eq_true, true_and, and_true, decide_eq_true_eq, id, reduceCtorEq, gEq_i, gNe_i, gEq_b, gNe_b, gEq_li, gNe_li, gEq_l0, gNe_l0, gEq_00, gNe_00, gEq_ti, gNe_ti, mEnum, Nat.zero_add, Nat.reduceAdd, Int.reduceEq, Int.cast_ofNat_Int, Nat.zero_le, sz1, sz2, sz3, sz4, sz5, sz6, decide_true, decide_false, sAugI, mPopAt, mApp, mExt, mGet, mDNew, sPar3, sFldAugM, mZip2, mZip3, sRaise0, mMethK, cutD, mLam, List.map_nil]
        exact ⟨_, _, _, _, _, rfl, (by simp [kindD]), (by simp [kindD]), (by simp [kindD]), .inr ⟨k, w, p, rfl, rfl, rfl, ok, .inr ⟨[], rfl, mb, _, rfl, .inl ⟨by omega, word_num (by rw [ne_num]; exact kfin _ R)⟩⟩⟩⟩
      | cons m ms =>
        simp only [sSeq, sSet, sSkip, sForget, sFor, sIf, sRet, sRetN, sDrop, sSetI, sAsg, sPar, sFldM, sAug, frzV, valE, mVar, mC, mOp, mUn, mCall, mFun, mMeth, mMake, mFld, mTst, mNotT, mNotV, mAndV, mOrV, mAndT, mOrT, mIte, mNil, mCons, mTup, mLst, mChain, mIter_ap, mIsi_ap, mRng1, mRng2, mLc, mYes, mCell, mRel, mSl, oNo, oSome,
  gN, gT, gsCons, gsNil, frz_d, frz_l, frz_k, gIx_p, onSet_p, onQ_p, onL_p, gLen_p, onIns_p, put_put, atD_0, atD_1, atD_2, atD_3, atD_4, ixN_0, ixN_1, ixN_2, ixN_3, ixN_4, List.length_cons, List.length_nil, onBl_b, onInt_i, onTup_t, on1_1, on2_2, onQ_l, onQ_t, onQ_s, onL_l, onLs_l, onLs_s, onD_d, onOpt_s, gII, gB, gAdd_i, gAdd_s, gAdd_t, gAdd_l, gMul_i, gMul_l, gMul_t, gSub, gMod, gDiv, gPow, gNeg, gIx_l, gIx_t, gIx_s, gLen_l, gLen_t, gLen_s, gLen_d, iterD_t, iterD_l, iterD_s,
  kind_i, kind_b, kind_s, kind_n, kind_t, kind_l, gIsN, isNon, gTuple, gList, gAll, gAny, gSum, gMin, gMax, gMin2, gMax2, gAbs, gInt, gSorted,
  List.getElem?_cons_zero, List.getElem?_cons_succ, List.getElem?_nil, List.set_cons_zero, List.set_cons_succ, List.cons_append, List.nil_append, List.append_nil, wipeE, List.any_cons, List.any_nil, isK, Bool.or_false, Bool.false_or, Bool.or_true, Bool.true_or, Bool.not_true, Bool.not_false, if_true, if_false, Bool.false_eq_true, true_and, and_true, decide_eq_true_eq, id, reduceCtorEq, gEq_i, gNe_i, gEq_b, gNe_b, gEq_li, gNe_li, gEq_l0, gNe_l0, gEq_00, gNe_00, gEq_ti, gNe_ti, mEnum, Nat.zero_add, Nat.reduceAdd, Int.reduceEq, Int.cast_ofNat_Int, Nat.zero_le, sz1, sz2, sz3, sz4, sz5, sz6, decide_true, decide_false, sAugI, mPopAt, mApp, mExt, mGet, mDNew, sPar3, sFldAugM, mZip2, mZip3, sRaise0, mMethK, cutD, mLam, List.map_cons]
        exact ⟨_, _, _, _, _, rfl, (by simp [kindD]), (by simp [kindD]), (by simp [kindD]), .inr ⟨k, w, p, rfl, rfl, rfl, ok, .inr ⟨m :: ms, rfl, mb, _, rfl, .inl ⟨.inr (.inr (List.mem_cons_self ..)), word_num (by rw [ne_num]; exact kfin _ R)⟩⟩⟩⟩
  · rintro acc h' ⟨rfl, R⟩
    simp only [sSeq, sSet, sSkip, sForget, sFor, sIf, sRet, sRetN, sDrop, sSetI, sAsg, sPar, sFldM, sAug, frzV, valE, mVar, mC, mOp, mUn, mCall, mFun, mMeth, mMake, mFld, mTst, mNotT, mNotV, mAndV, mOrV, mAndT, mOrT, mIte, mNil, mCons, mTup, mLst, mChain, mIter_ap, mIsi_ap, mRng1, mRng2, mLc, mYes, mCell, mRel, mSl, oNo, oSome,
  gN, gT, gsCons, gsNil, frz_d, frz_l, frz_k, gIx_p, onSet_p, onQ_p, onL_p, gLen_p, onIns_p, put_put, atD_0, atD_1, atD_2, atD_3, atD_4, ixN_0, ixN_1, ixN_2, ixN_3, ixN_4, List.length_cons, List.length_nil, onBl_b, onInt_i, onTup_t, on1_1, on2_2, onQ_l, onQ_t, onQ_s, onL_l, onLs_l, onLs_s, onD_d, onOpt_s, gII, gB, gAdd_i, gAdd_s, gAdd_t, gAdd_l, gMul_i, gMul_l, gMul_t, gSub, gMod, gDiv, gPow, gNeg, gIx_l, gIx_t, gIx_s, gLen_l, gLen_t, gLen_s, gLen_d, iterD_t, iterD_l, iterD_s,
  kind_i, kind_b, kind_s, kind_n, kind_t, kind_l, gIsN, isNon, gTuple, gList, gAll, gAny, gSum, gMin, gMax, gMin2, gMax2, gAbs, gInt, gSorted,
  List.getElem?_cons_zero, List.getElem?_cons_succ, List.getElem?_nil, List.set_cons_zero, List.set_cons_succ, List.cons_append, List.nil_append, List.append_nil, wipeE, List.any_cons, List.any_nil, isK, Bool.or_false, Bool.false_or, Bool.or_true, Bool.true_or, Bool.not_true, Bool.not_false, if_true, if_false, Bool.false_eq_true, true_and, and_true, decide_eq_true_eq, id, reduceCtorEq, gEq_i, gNe_i, gEq_b, gNe_b, gEq_li, gNe_li, gEq_l0, gNe_l0, gEq_00, gNe_00, gEq_ti, gNe_ti, mEnum, Nat.zero_add, Nat.reduceAdd, Int.reduceEq, Int.cast_ofNat_Int, Nat.zero_le, sz1, sz2, sz3, sz4, sz5, sz6, decide_true, decide_false, sAugI, mPopAt, mApp, mExt, mGet, mDNew, sPar3, sFldAugM, mZip2, mZip3, sRaise0, mMethK, cutD, mLam, gNe_00, mWordC]
    refine ⟨by decide, ?_⟩
    show tl_law_7 a _ _ _ _
    unfold tl_law_7
    simp only [sSeq, sSet, mTup, mCons, frzV, mOp, mVar, mC, mNil, mLst, mLam, sRet, mLc, mIter, mMeth, mMethK, mMake, mTst, mNotT, sIf, valE, mCall, mFun, mIte]
    simp only [sSeq, sSet, sSkip, sForget, sFor, sIf, sRet, sRetN, sDrop, sSetI, sAsg, sPar, sFldM, sAug, frzV, valE, mVar, mC, mOp, mUn, mCall, mFun, mMeth, mMake, mFld, mTst, mNotT, mNotV, mAndV, mOrV, mAndT, mOrT, mIte, mNil, mCons, mTup, mLst, mChain, mIter_ap, mIsi_ap, mRng1, mRng2, mLc, mYes, mCell, mRel, mSl, oNo, oSome,
  gN, gT, gsCons, gsNil, frz_d, frz_l, frz_k, gIx_p, onSet_p, onQ_p, onL_p, gLen_p, onIns_p, put_put, atD_0, atD_1, atD_2, atD_3, atD_4, ixN_0, ixN_1, ixN_2, ixN_3, ixN_4, List.length_cons, List.length_nil, onBl_b, onInt_i, onTup_t, on1_1, on2_2, onQ_l, onQ_t, onQ_s, onL_l, onLs_l, onLs_s, onD_d, onOpt_s, gII, gB, gAdd_i, gAdd_s, gAdd_t, gAdd_l, gMul_i, gMul_l, gMul_t, gSub, gMod, gDiv, gPow, gNeg, gIx_l, gIx_t, gIx_s, gLen_l, gLen_t, gLen_s, gLen_d, iterD_t, iterD_l, iterD_s,
  kind_i, kind_b, kind_s, kind_n, kind_t, kind_l, gIsN, isNon, gTuple, gList, gAll, gAny, gSum, gMin, gMax, gMin2, gMax2, gAbs, gInt, gSorted,
  List.getElem?_cons_zero, List.getElem?_cons_succ, List.getElem?_nil, List.set_cons_zero, List.set_cons_succ, List.cons_append, List.nil_append, List.append_nil, wipeE, List.any_cons, List.any_nil, isK, Bool.or_false, Bool.false_or, Bool.or_true, Bool.true_or, Bool.not_true, Bool.not_false, if_true, if_false, Bool.false_eq_true, true_and, and_true, decide_eq_true_eq, id, reduceCtorEq, gEq_i, gNe_i, gEq_b, gNe_b, gEq_li, gNe_li, gEq_l0, gNe_l0, gEq_00, gNe_00, gEq_ti, gNe_ti, mEnum, Nat.zero_add, Nat.reduceAdd, Int.reduceEq, Int.cast_ofNat_Int, Nat.zero_le, sz1, sz2, sz3, sz4, sz5, sz6, decide_true, decide_false, sAugI, mPopAt, mApp, mExt, mGet, mDNew, sPar3, sFldAugM, mZip2, mZip3, sRaise0, mMethK, cutD, mLam]
    exact ⟨_, _, _, _, _, rfl, (by simp [kindD]), (by simp [kindD]), (by simp [kindD]), .inr ⟨k, w, p, rfl, rfl, rfl, ok, .inl ⟨rfl, word_cou (by rw [eq_cou]; exact fin _)⟩⟩⟩
end M3
set_option Elab.async false
set_option linter.all false
set_option maxRecDepth 100000
set_option maxHeartbeats 8000000
namespace M3
open PySem PySem.Spec PyProof.Rows L2
theorem gAdd_rl {h : MH} {q : Addr} {xs ys : List D} {Kn : RV → MH → Prop} (e : h q = some (.lst xs)) : gAdd (.ref q) (.lst ys) h Kn = (xs.length + ys.length ≤ sizeLine ∧ Kn (.ol (xs ++ ys)) h) := by
  show (onL h (.ref q) fun xs => onL h (.lst ys) fun ys => xs.length + ys.length ≤ sizeLine ∧ Kn (.ol (xs ++ ys)) h) = _
  rw [onL_r e]
  rfl
theorem RowAt.ne' {h : MH} {r q : Addr} {m : MO} (R : RowAt h r) (n : h q = none) : r ≠ q ∧ RowAt (put h q m) r := by
  obtain ⟨ns, pos, ex, mx, e, hp⟩ := R
  have nq : r ≠ q := fun z => by
    rw [z, n] at e
    cases e
  exact ⟨nq, ns, pos, ex, mx, (put_ne nq).trans e, hp⟩
theorem rd_works {a : Ad} {c : LX} {N : Nd} {e0 e5 e6 e7 e9 : Option D} {r : Addr} {k w p far : Int} {ms : List Int} {dbad : D} {h : MH} (ok : LineOk k w p) (mb : memB k (-1) ms) (f0 : 0 ≤ far) (kb : ∀ h, kindD h dbad ≠ none) (lb : LineBad (.int k) (.int w) dbad) (R : RowAt h r)
    (fin : ∀ h', N.rt (.d (.bl true)) h') : t_works a c N [e0, some (.ref r), some (.int p), some (.int k), some (.int w), e5, e6, e7, some (.tup (ms.map D.int)), e9, none, none, none, none, none, some (.int far), some dbad, none, none, none] h := by
  have big := line_big
  unfold t_works
  generalize hT : t_ask a c = T
  simp only [sSeq, sSet, mTup, mCons, frzV, mOp, mVar, mC, mNil, mLst, mLam, sRet, mLc, mIter, mMeth, mMethK, mMake, mTst, mNotT, sIf, valE, mCall, mFun, mIte]
  simp only [sSeq, sSet, sSkip, sForget, sFor, sIf, sRet, sRetN, sDrop, sSetI, sAsg, sPar, sFldM, sAug, frzV, valE, mVar, mC, mOp, mUn, mCall, mFun, mMeth, mMake, mFld, mTst, mNotT, mNotV, mAndV, mOrV, mAndT, mOrT, mIte, mNil, mCons, mTup, mLst, mChain, mIter_ap, mIsi_ap, mRng1, mRng2, mLc, mYes, mCell, mRel, mSl, oNo, oSome,
  gN, gT, gsCons, gsNil, frz_d, frz_l, frz_k, gIx_p, onSet_p, onQ_p, onL_p, gLen_p, onIns_p, put_put, atD_0, atD_1, atD_2, atD_3, atD_4, ixN_0, ixN_1, ixN_2, ixN_3, ixN_4, List.length_cons, List.length_nil, onBl_b, onInt_i, onTup_t, on1_1, on2_2, onQ_l, onQ_t, onQ_s, onL_l, onLs_l, onLs_s, onD_d, onOpt_s, gII, gB, gAdd_i, gAdd_s, gAdd_t, gAdd_l, gMul_i, gMul_l, gMul_t, gSub, gMod, gDiv, gPow, gNeg, gIx_l, gIx_t, gIx_s, gLen_l, gLen_t, gLen_s, gLen_d, iterD_t, iterD_l, iterD_s,
  kind_i, kind_b, kind_s, kind_n, kind_t, kind_l, gIsN, isNon, gTuple, gList, gAll, gAny, gSum, gMin, gMax, gMin2, gMax2, gAbs, gInt, gSorted,
  List.getElem?_cons_zero, List.getElem?_cons_succ, List.getElem?_nil, List.set_cons_zero, List.set_cons_succ, List.cons_append, List.nil_append, List.append_nil, wipeE, List.any_cons, List.any_nil, isK, Bool.or_false, Bool.false_or, Bool.or_true, Bool.true_or, Bool.not_true, Bool.not_false, if_true, if_false, Bool.false_eq_true, true_and, and_true, decide_eq_true_eq, id, reduceCtorEq, gEq_i, gNe_i, gEq_b, gNe_b, gEq_li, gNe_li, gEq_l0, gNe_l0, gEq_00, gNe_00, gEq_ti, gNe_ti, mEnum, Nat.zero_add, Nat.reduceAdd, Int.reduceEq, Int.cast_ofNat_Int, Nat.zero_le, sz1, sz2, sz3, sz4, sz5, sz6, decide_true, decide_false, sAugI, mPopAt, mApp, mExt, mGet, mDNew, sPar3, sFldAugM, mZip2, mZip3, sRaise0, mMethK, cutD, mLam]
  intro q1 h1
  obtain ⟨_, R1⟩ := R.ne' (m := .lst [.lam 0 c, .lam 1 c]) h1
  have E1 : put h q1 (.lst [.lam 0 c, .lam 1 c]) q1 = some (.lst [.lam 0 c, .lam 1 c]) := put_same
  generalize put h q1 (.lst [.lam 0 c, .lam 1 c]) = g1 at R1 E1 ⊢
  simp only [gAdd_rl E1, sSeq, sSet, sSkip, sForget, sFor, sIf, sRet, sRetN, sDrop, sSetI, sAsg, sPar, sFldM, sAug, frzV, valE, mVar, mC, mOp, mUn, mCall, mFun, mMeth, mMake, mFld, mTst, mNotT, mNotV, mAndV, mOrV, mAndT, mOrT, mIte, mNil, mCons, mTup, mLst, mChain, mIter_ap, mIsi_ap, mRng1, mRng2, mLc, mYes, mCell, mRel, mSl, oNo, oSome,
  gN, gT, gsCons, gsNil, frz_d, frz_l, frz_k, gIx_p, onSet_p, onQ_p, onL_p, gLen_p, onIns_p, put_put, atD_0, atD_1, atD_2, atD_3, atD_4, ixN_0, ixN_1, ixN_2, ixN_3, ixN_4, List.length_cons, List.length_nil, onBl_b, onInt_i, onTup_t, on1_1, on2_2, onQ_l, onQ_t, onQ_s, onL_l, onLs_l, onLs_s, onD_d, onOpt_s, gII, gB, gAdd_i, gAdd_s, gAdd_t, gAdd_l, gMul_i, gMul_l, gMul_t, gSub, gMod, gDiv, gPow, gNeg, gIx_l, gIx_t, gIx_s, gLen_l, gLen_t, gLen_s, gLen_d, iterD_t, iterD_l, iterD_s,
  kind_i, kind_b, kind_s, kind_n, kind_t, kind_l, gIsN, isNon, gTuple, gList, gAll, gAny, gSum, gMin, gMax, gMin2, gMax2, gAbs, gInt, gSorted,
  List.getElem?_cons_zero, List.getElem?_cons_succ, List.getElem?_nil, List.set_cons_zero, List.set_cons_succ, List.cons_append, List.nil_append, List.append_nil, wipeE, List.any_cons, List.any_nil, isK, Bool.or_false, Bool.false_or, Bool.or_true, Bool.true_or, Bool.not_true, Bool.not_false, if_true, if_false, Bool.false_eq_true, true_and, and_true, decide_eq_true_eq, id, reduceCtorEq, gEq_i, gNe_i, gEq_b, gNe_b, gEq_li, gNe_li, gEq_l0, gNe_l0, gEq_00, gNe_00, gEq_ti, gNe_ti, mEnum, Nat.zero_add, Nat.reduceAdd, Int.reduceEq, Int.cast_ofNat_Int, Nat.zero_le, sz1, sz2, sz3, sz4, sz5, sz6, decide_true, decide_false, sAugI, mPopAt, mApp, mExt, mGet, mDNew, sPar3, sFldAugM, mZip2, mZip3, sRaise0, mMethK, cutD, mLam]
  intro q2 h2
  obtain ⟨_, R2⟩ := R1.ne' (m := .lst [.lam 0 c, .lam 1 c, .lam 2 c]) h2
  have E2 : put g1 q2 (.lst [.lam 0 c, .lam 1 c, .lam 2 c]) q2 = some (.lst [.lam 0 c, .lam 1 c, .lam 2 c]) := put_same
  generalize put g1 q2 (.lst [.lam 0 c, .lam 1 c, .lam 2 c]) = g2 at R2 E2 ⊢
  simp only [gAdd_rl E2, sSeq, sSet, sSkip, sForget, sFor, sIf, sRet, sRetN, sDrop, sSetI, sAsg, sPar, sFldM, sAug, frzV, valE, mVar, mC, mOp, mUn, mCall, mFun, mMeth, mMake, mFld, mTst, mNotT, mNotV, mAndV, mOrV, mAndT, mOrT, mIte, mNil, mCons, mTup, mLst, mChain, mIter_ap, mIsi_ap, mRng1, mRng2, mLc, mYes, mCell, mRel, mSl, oNo, oSome,
  gN, gT, gsCons, gsNil, frz_d, frz_l, frz_k, gIx_p, onSet_p, onQ_p, onL_p, gLen_p, onIns_p, put_put, atD_0, atD_1, atD_2, atD_3, atD_4, ixN_0, ixN_1, ixN_2, ixN_3, ixN_4, List.length_cons, List.length_nil, onBl_b, onInt_i, onTup_t, on1_1, on2_2, onQ_l, onQ_t, onQ_s, onL_l, onLs_l, onLs_s, onD_d, onOpt_s, gII, gB, gAdd_i, gAdd_s, gAdd_t, gAdd_l, gMul_i, gMul_l, gMul_t, gSub, gMod, gDiv, gPow, gNeg, gIx_l, gIx_t, gIx_s, gLen_l, gLen_t, gLen_s, gLen_d, iterD_t, iterD_l, iterD_s,
  kind_i, kind_b, kind_s, kind_n, kind_t, kind_l, gIsN, isNon, gTuple, gList, gAll, gAny, gSum, gMin, gMax, gMin2, gMax2, gAbs, gInt, gSorted,
  List.getElem?_cons_zero, List.getElem?_cons_succ, List.getElem?_nil, List.set_cons_zero, List.set_cons_succ, List.cons_append, List.nil_append, List.append_nil, wipeE, List.any_cons, List.any_nil, isK, Bool.or_false, Bool.false_or, Bool.or_true, Bool.true_or, Bool.not_true, Bool.not_false, if_true, if_false, Bool.false_eq_true, true_and, and_true, decide_eq_true_eq, id, reduceCtorEq, gEq_i, gNe_i, gEq_b, gNe_b, gEq_li, gNe_li, gEq_l0, gNe_l0, gEq_00, gNe_00, gEq_ti, gNe_ti, mEnum, Nat.zero_add, Nat.reduceAdd, Int.reduceEq, Int.cast_ofNat_Int, Nat.zero_le, sz1, sz2, sz3, sz4, sz5, sz6, decide_true, decide_false, sAugI, mPopAt, mApp, mExt, mGet, mDNew, sPar3, sFldAugM, mZip2, mZip3, sRaise0, mMethK, cutD, mLam]
  intro q3 h3
  obtain ⟨_, R3⟩ := R2.ne' (m := .lst [.lam 0 c, .lam 1 c, .lam 2 c, .lam 3 c]) h3
  have E3 : put g2 q3 (.lst [.lam 0 c, .lam 1 c, .lam 2 c, .lam 3 c]) q3 = some (.lst [.lam 0 c, .lam 1 c, .lam 2 c, .lam 3 c]) := put_same
  generalize put g2 q3 (.lst [.lam 0 c, .lam 1 c, .lam 2 c, .lam 3 c]) = g3 at R3 E3 ⊢
  simp only [gAdd_rl E3, sSeq, sSet, sSkip, sForget, sFor, sIf, sRet, sRetN, sDrop, sSetI, sAsg, sPar, sFldM, sAug, frzV, valE, mVar, mC, mOp, mUn, mCall, mFun, mMeth, mMake, mFld, mTst, mNotT, mNotV, mAndV, mOrV, mAndT, mOrT, mIte, mNil, mCons, mTup, mLst, mChain, mIter_ap, mIsi_ap, mRng1, mRng2, mLc, mYes, mCell, mRel, mSl, oNo, oSome,
  gN, gT, gsCons, gsNil, frz_d, frz_l, frz_k, gIx_p, onSet_p, onQ_p, onL_p, gLen_p, onIns_p, put_put, atD_0, atD_1, atD_2, atD_3, atD_4, ixN_0, ixN_1, ixN_2, ixN_3, ixN_4, List.length_cons, List.length_nil, onBl_b, onInt_i, onTup_t, on1_1, on2_2, onQ_l, onQ_t, onQ_s, onL_l, onLs_l, onLs_s, onD_d, onOpt_s, gII, gB, gAdd_i, gAdd_s, gAdd_t, gAdd_l, gMul_i, gMul_l, gMul_t, gSub, gMod, gDiv, gPow, gNeg, gIx_l, gIx_t, gIx_s, gLen_l, gLen_t, gLen_s, gLen_d, iterD_t, iterD_l, iterD_s,
  kind_i, kind_b, kind_s, kind_n, kind_t, kind_l, gIsN, isNon, gTuple, gList, gAll, gAny, gSum, gMin, gMax, gMin2, gMax2, gAbs, gInt, gSorted,
  List.getElem?_cons_zero, List.getElem?_cons_succ, List.getElem?_nil, List.set_cons_zero, List.set_cons_succ, List.cons_append, List.nil_append, List.append_nil, wipeE, List.any_cons, List.any_nil, isK, Bool.or_false, Bool.false_or, Bool.or_true, Bool.true_or, Bool.not_true, Bool.not_false, if_true, if_false, Bool.false_eq_true, true_and, and_true, decide_eq_true_eq, id, reduceCtorEq, gEq_i, gNe_i, gEq_b, gNe_b, gEq_li, gNe_li, gEq_l0, gNe_l0, gEq_00, gNe_00, gEq_ti, gNe_ti, mEnum, Nat.zero_add, Nat.reduceAdd, Int.reduceEq, Int.cast_ofNat_Int, Nat.zero_le, sz1, sz2, sz3, sz4, sz5, sz6, decide_true, decide_false, sAugI, mPopAt, mApp, mExt, mGet, mDNew, sPar3, sFldAugM, mZip2, mZip3, sRaise0, mMethK, cutD, mLam]
  intro q4 h4
  obtain ⟨_, R4⟩ := R3.ne' (m := .lst [.lam 0 c, .lam 1 c, .lam 2 c, .lam 3 c, .lam 4 c]) h4
  have E4 : put g3 q4 (.lst [.lam 0 c, .lam 1 c, .lam 2 c, .lam 3 c, .lam 4 c]) q4 = some (.lst [.lam 0 c, .lam 1 c, .lam 2 c, .lam 3 c, .lam 4 c]) := put_same
  generalize put g3 q4 (.lst [.lam 0 c, .lam 1 c, .lam 2 c, .lam 3 c, .lam 4 c]) = g4 at R4 E4 ⊢
  simp only [gAdd_rl E4, sSeq, sSet, sSkip, sForget, sFor, sIf, sRet, sRetN, sDrop, sSetI, sAsg, sPar, sFldM, sAug, frzV, valE, mVar, mC, mOp, mUn, mCall, mFun, mMeth, mMake, mFld, mTst, mNotT, mNotV, mAndV, mOrV, mAndT, mOrT, mIte, mNil, mCons, mTup, mLst, mChain, mIter_ap, mIsi_ap, mRng1, mRng2, mLc, mYes, mCell, mRel, mSl, oNo, oSome,
  gN, gT, gsCons, gsNil, frz_d, frz_l, frz_k, gIx_p, onSet_p, onQ_p, onL_p, gLen_p, onIns_p, put_put, atD_0, atD_1, atD_2, atD_3, atD_4, ixN_0, ixN_1, ixN_2, ixN_3, ixN_4, List.length_cons, List.length_nil, onBl_b, onInt_i, onTup_t, on1_1, on2_2, onQ_l, onQ_t, onQ_s, onL_l, onLs_l, onLs_s, onD_d, onOpt_s, gII, gB, gAdd_i, gAdd_s, gAdd_t, gAdd_l, gMul_i, gMul_l, gMul_t, gSub, gMod, gDiv, gPow, gNeg, gIx_l, gIx_t, gIx_s, gLen_l, gLen_t, gLen_s, gLen_d, iterD_t, iterD_l, iterD_s,
  kind_i, kind_b, kind_s, kind_n, kind_t, kind_l, gIsN, isNon, gTuple, gList, gAll, gAny, gSum, gMin, gMax, gMin2, gMax2, gAbs, gInt, gSorted,
  List.getElem?_cons_zero, List.getElem?_cons_succ, List.getElem?_nil, List.set_cons_zero, List.set_cons_succ, List.cons_append, List.nil_append, List.append_nil, wipeE, List.any_cons, List.any_nil, isK, Bool.or_false, Bool.false_or, Bool.or_true, Bool.true_or, Bool.not_true, Bool.not_false, if_true, if_false, Bool.false_eq_true, true_and, and_true, decide_eq_true_eq, id, reduceCtorEq, gEq_i, gNe_i, gEq_b, gNe_b, gEq_li, gNe_li, gEq_l0, gNe_l0, gEq_00, gNe_00, gEq_ti, gNe_ti, mEnum, Nat.zero_add, Nat.reduceAdd, Int.reduceEq, Int.cast_ofNat_Int, Nat.zero_le, sz1, sz2, sz3, sz4, sz5, sz6, decide_true, decide_false, sAugI, mPopAt, mApp, mExt, mGet, mDNew, sPar3, sFldAugM, mZip2, mZip3, sRaise0, mMethK, cutD, mLam]
  intro q5 h5
  obtain ⟨n5, R5⟩ := R4.ne' (m := .lst [.lam 0 c, .lam 1 c, .lam 2 c, .lam 3 c, .lam 4 c, .lam 5 c]) h5
  have E5 : put g4 q5 (.lst [.lam 0 c, .lam 1 c, .lam 2 c, .lam 3 c, .lam 4 c, .lam 5 c]) q5 = some (.lst [.lam 0 c, .lam 1 c, .lam 2 c, .lam 3 c, .lam 4 c, .lam 5 c]) := put_same
  generalize put g4 q5 (.lst [.lam 0 c, .lam 1 c, .lam 2 c, .lam 3 c, .lam 4 c, .lam 5 c]) = g5 at R5 E5 ⊢
  simp only [mApp, cellL, E5, sSeq, sSet, sSkip, sForget, sFor, sIf, sRet, sRetN, sDrop, sSetI, sAsg, sPar, sFldM, sAug, frzV, valE, mVar, mC, mOp, mUn, mCall, mFun, mMeth, mMake, mFld, mTst, mNotT, mNotV, mAndV, mOrV, mAndT, mOrT, mIte, mNil, mCons, mTup, mLst, mChain, mIter_ap, mIsi_ap, mRng1, mRng2, mLc, mYes, mCell, mRel, mSl, oNo, oSome,
  gN, gT, gsCons, gsNil, frz_d, frz_l, frz_k, gIx_p, onSet_p, onQ_p, onL_p, gLen_p, onIns_p, put_put, atD_0, atD_1, atD_2, atD_3, atD_4, ixN_0, ixN_1, ixN_2, ixN_3, ixN_4, List.length_cons, List.length_nil, onBl_b, onInt_i, onTup_t, on1_1, on2_2, onQ_l, onQ_t, onQ_s, onL_l, onLs_l, onLs_s, onD_d, onOpt_s, gII, gB, gAdd_i, gAdd_s, gAdd_t, gAdd_l, gMul_i, gMul_l, gMul_t, gSub, gMod, gDiv, gPow, gNeg, gIx_l, gIx_t, gIx_s, gLen_l, gLen_t, gLen_s, gLen_d, iterD_t, iterD_l, iterD_s,
  kind_i, kind_b, kind_s, kind_n, kind_t, kind_l, gIsN, isNon, gTuple, gList, gAll, gAny, gSum, gMin, gMax, gMin2, gMax2, gAbs, gInt, gSorted,
  List.getElem?_cons_zero, List.getElem?_cons_succ, List.getElem?_nil, List.set_cons_zero, List.set_cons_succ, List.cons_append, List.nil_append, List.append_nil, wipeE, List.any_cons, List.any_nil, isK, Bool.or_false, Bool.false_or, Bool.or_true, Bool.true_or, Bool.not_true, Bool.not_false, if_true, if_false, Bool.false_eq_true, true_and, and_true, decide_eq_true_eq, id, reduceCtorEq, gEq_i, gNe_i, gEq_b, gNe_b, gEq_li, gNe_li, gEq_l0, gNe_l0, gEq_00, gNe_00, gEq_ti, gNe_ti, mEnum, Nat.zero_add, Nat.reduceAdd, Int.reduceEq, Int.cast_ofNat_Int, Nat.zero_le, sz1, sz2, sz3, sz4, sz5, sz6, decide_true, decide_false, sAugI, mPopAt, mApp, mExt, mGet, mDNew, sPar3, sFldAugM, mZip2, mZip3, sRaise0, mMethK, cutD, mLam]
  subst hT
  first
    | exact rd_ask ok mb f0 kb lb (R5.ne n5) n5 put_same fin
    | (refine ⟨by omega, ?_⟩; exact rd_ask ok mb f0 kb lb (R5.ne n5) n5 put_same fin)
end M3
set_option Elab.async false
set_option linter.all false
set_option maxRecDepth 100000
set_option maxHeartbeats 8000000
namespace M3
open PySem PySem.Spec PyProof.Rows L2
theorem bad_int {k w p c : Int} (ok : LineOk k w p) (h : primeB c = false) : LineBad (.int k) (.int w) (.int c) := by
  refine .inr (.inr ⟨k, rfl, num_yes ok.k1 ok.k2, num_yes ok.w1 ok.w2, ?_⟩)
  by_cases e : isNum (.int c) k 61 = true
  · exact .inr ⟨c, rfl, e, h⟩
  · exact .inl (by simpa using e)
theorem bad_no {k w p : Int} {d : D} (ok : LineOk k w p) (h : isNum d k 61 = false) : LineBad (.int k) (.int w) d := .inr (.inr ⟨k, rfl, num_yes ok.k1 ok.k2, num_yes ok.w1 ok.w2, .inl h⟩)
theorem bad_at {k w p far x8 v : Int} (ok : LineOk k w p) (f0 : 0 ≤ far) (h8 : x8 = 6 ∨ x8 = k - 1) (v0 : 0 ≤ v) (v1 : v < 13) :
    ∃ d, atD [D.int 4, .int 9, .int (62 + far), .int 0, .int 1, .non, .bl true, .str "5", .int x8, .int 49, .int 25, .int 35, .int 55] v = some d ∧ (∀ h, kindD h d ≠ none) ∧ LineBad (.int k) (.int w) d := by
  have k1 := ok.k1
  obtain ⟨n, rfl⟩ := Int.eq_ofNat_of_zero_le v0
  have : n = 0 ∨ n = 1 ∨ n = 2 ∨ n = 3 ∨ n = 4 ∨ n = 5 ∨ n = 6 ∨ n = 7 ∨ n = 8 ∨ n = 9 ∨ n = 10 ∨ n = 11 ∨ n = 12 := by omega
  rcases this with rfl | rfl | rfl | rfl | rfl | rfl | rfl | rfl | rfl | rfl | rfl | rfl | rfl
  · exact ⟨_, rfl, by simp [kindD], bad_int ok (by decide)⟩
  · exact ⟨_, rfl, by simp [kindD], bad_int ok (by decide)⟩
  · exact ⟨_, rfl, by simp [kindD], bad_no ok (by simp [isNum]; omega)⟩
  · exact ⟨_, rfl, by simp [kindD], bad_int ok (by decide)⟩
  · exact ⟨_, rfl, by simp [kindD], bad_int ok (by decide)⟩
  · exact ⟨_, rfl, by simp [kindD], bad_no ok rfl⟩
  · exact ⟨_, rfl, by simp [kindD], bad_no ok rfl⟩
  · exact ⟨_, rfl, by simp [kindD], bad_no ok rfl⟩
  · refine ⟨_, rfl, by simp [kindD], ?_⟩
    rcases h8 with rfl | rfl
    · exact bad_int ok (by decide)
    · exact bad_no ok (by simp [isNum]; omega)
  · exact ⟨_, rfl, by simp [kindD], bad_int ok (by decide)⟩
  · exact ⟨_, rfl, by simp [kindD], bad_int ok (by decide)⟩
  · exact ⟨_, rfl, by simp [kindD], bad_int ok (by decide)⟩
  · exact ⟨_, rfl, by simp [kindD], bad_int ok (by decide)⟩
theorem rd_end {a : Ad} {c : LX} {N : Nd} {e0 e5 e6 e7 e9 : Option D} {r : Addr} {k w p : Int} {ms : List Int} {h : MH} (ok : LineOk k w p) (mb : memB k (-1) ms) (R : RowAt h r)
    (fin : ∀ h', N.rt (.d (.bl true)) h') : t_end a c N [e0, some (.ref r), some (.int p), some (.int k), some (.int w), e5, e6, e7, some (.tup (ms.map D.int)), e9, none, none, none, none, none, none, none, none, none, none] h := by
  have big := line_big
  unfold t_end
  generalize hT : t_works a c = T
  simp only [sSeq, sSet, mTup, mCons, frzV, mOp, mVar, mC, mNil, mLst, mLam, sRet, mLc, mIter, mMeth, mMethK, mMake, mTst, mNotT, sIf, valE, mCall, mFun, mIte]
  simp only [sSeq, sSet, sSkip, sForget, sFor, sIf, sRet, sRetN, sDrop, sSetI, sAsg, sPar, sFldM, sAug, frzV, valE, mVar, mC, mOp, mUn, mCall, mFun, mMeth, mMake, mFld, mTst, mNotT, mNotV, mAndV, mOrV, mAndT, mOrT, mIte, mNil, mCons, mTup, mLst, mChain, mIter_ap, mIsi_ap, mRng1, mRng2, mLc, mYes, mCell, mRel, mSl, oNo, oSome,
  gN, gT, gsCons, gsNil, frz_d, frz_l, frz_k, gIx_p, onSet_p, onQ_p, onL_p, gLen_p, onIns_p, put_put, atD_0, atD_1, atD_2, atD_3, atD_4, ixN_0, ixN_1, ixN_2, ixN_3, ixN_4, List.length_cons, List.length_nil, onBl_b, onInt_i, onTup_t, on1_1, on2_2, onQ_l, onQ_t, onQ_s, onL_l, onLs_l, onLs_s, onD_d, onOpt_s, gII, gB, gAdd_i, gAdd_s, gAdd_t, gAdd_l, gMul_i, gMul_l, gMul_t, gSub, gMod, gDiv, gPow, gNeg, gIx_l, gIx_t, gIx_s, gLen_l, gLen_t, gLen_s, gLen_d, iterD_t, iterD_l, iterD_s,
  kind_i, kind_b, kind_s, kind_n, kind_t, kind_l, gIsN, isNon, gTuple, gList, gAll, gAny, gSum, gMin, gMax, gMin2, gMax2, gAbs, gInt, gSorted,
  List.getElem?_cons_zero, List.getElem?_cons_succ, List.getElem?_nil, List.set_cons_zero, List.set_cons_succ, List.cons_append, List.nil_append, List.append_nil, wipeE, List.any_cons, List.any_nil, isK, Bool.or_false, Bool.false_or, Bool.or_true, Bool.true_or, Bool.not_true, Bool.not_false, if_true, if_false, Bool.false_eq_true, true_and, and_true, decide_eq_true_eq, id, reduceCtorEq, gEq_i, gNe_i, gEq_b, gNe_b, gEq_li, gNe_li, gEq_l0, gNe_l0, gEq_00, gNe_00, gEq_ti, gNe_ti, mEnum, Nat.zero_add, Nat.reduceAdd, Int.reduceEq, Int.cast_ofNat_Int, Nat.zero_le, sz1, sz2, sz3, sz4, sz5, sz6, decide_true, decide_false, sAugI, mPopAt, mApp, mExt, mGet, mDNew, sPar3, sFldAugM, mZip2, mZip3, sRaise0, mMethK, cutD, mLam]
  refine ⟨r, 2, rfl, by decide, by decide, R, fun v1 h1 a0 a1 f1 R1 => ?_⟩
  simp only [sSeq, sSet, sSkip, sForget, sFor, sIf, sRet, sRetN, sDrop, sSetI, sAsg, sPar, sFldM, sAug, frzV, valE, mVar, mC, mOp, mUn, mCall, mFun, mMeth, mMake, mFld, mTst, mNotT, mNotV, mAndV, mOrV, mAndT, mOrT, mIte, mNil, mCons, mTup, mLst, mChain, mIter_ap, mIsi_ap, mRng1, mRng2, mLc, mYes, mCell, mRel, mSl, oNo, oSome,
  gN, gT, gsCons, gsNil, frz_d, frz_l, frz_k, gIx_p, onSet_p, onQ_p, onL_p, gLen_p, onIns_p, put_put, atD_0, atD_1, atD_2, atD_3, atD_4, ixN_0, ixN_1, ixN_2, ixN_3, ixN_4, List.length_cons, List.length_nil, onBl_b, onInt_i, onTup_t, on1_1, on2_2, onQ_l, onQ_t, onQ_s, onL_l, onLs_l, onLs_s, onD_d, onOpt_s, gII, gB, gAdd_i, gAdd_s, gAdd_t, gAdd_l, gMul_i, gMul_l, gMul_t, gSub, gMod, gDiv, gPow, gNeg, gIx_l, gIx_t, gIx_s, gLen_l, gLen_t, gLen_s, gLen_d, iterD_t, iterD_l, iterD_s,
  kind_i, kind_b, kind_s, kind_n, kind_t, kind_l, gIsN, isNon, gTuple, gList, gAll, gAny, gSum, gMin, gMax, gMin2, gMax2, gAbs, gInt, gSorted,
  List.getElem?_cons_zero, List.getElem?_cons_succ, List.getElem?_nil, List.set_cons_zero, List.set_cons_succ, List.cons_append, List.nil_append, List.append_nil, wipeE, List.any_cons, List.any_nil, isK, Bool.or_false, Bool.false_or, Bool.or_true, Bool.true_or, Bool.not_true, Bool.not_false, if_true, if_false, Bool.false_eq_true, true_and, and_true, decide_eq_true_eq, id, reduceCtorEq, gEq_i, gNe_i, gEq_b, gNe_b, gEq_li, gNe_li, gEq_l0, gNe_l0, gEq_00, gNe_00, gEq_ti, gNe_ti, mEnum, Nat.zero_add, Nat.reduceAdd, Int.reduceEq, Int.cast_ofNat_Int, Nat.zero_le, sz1, sz2, sz3, sz4, sz5, sz6, decide_true, decide_false, sAugI, mPopAt, mApp, mExt, mGet, mDNew, sPar3, sFldAugM, mZip2, mZip3, sRaise0, mMethK, cutD, mLam]
  refine ⟨r, 999, rfl, by decide, by decide, R1, fun v2 h2 b0 b1 f2 R2 => ?_⟩
  have f0 : 0 ≤ v1 * v2 := Int.mul_nonneg a0 b0
  simp only [sSeq, sSet, sSkip, sForget, sFor, sIf, sRet, sRetN, sDrop, sSetI, sAsg, sPar, sFldM, sAug, frzV, valE, mVar, mC, mOp, mUn, mCall, mFun, mMeth, mMake, mFld, mTst, mNotT, mNotV, mAndV, mOrV, mAndT, mOrT, mIte, mNil, mCons, mTup, mLst, mChain, mIter_ap, mIsi_ap, mRng1, mRng2, mLc, mYes, mCell, mRel, mSl, oNo, oSome,
  gN, gT, gsCons, gsNil, frz_d, frz_l, frz_k, gIx_p, onSet_p, onQ_p, onL_p, gLen_p, onIns_p, put_put, atD_0, atD_1, atD_2, atD_3, atD_4, ixN_0, ixN_1, ixN_2, ixN_3, ixN_4, List.length_cons, List.length_nil, onBl_b, onInt_i, onTup_t, on1_1, on2_2, onQ_l, onQ_t, onQ_s, onL_l, onLs_l, onLs_s, onD_d, onOpt_s, gII, gB, gAdd_i, gAdd_s, gAdd_t, gAdd_l, gMul_i, gMul_l, gMul_t, gSub, gMod, gDiv, gPow, gNeg, gIx_l, gIx_t, gIx_s, gLen_l, gLen_t, gLen_s, gLen_d, iterD_t, iterD_l, iterD_s,
  kind_i, kind_b, kind_s, kind_n, kind_t, kind_l, gIsN, isNon, gTuple, gList, gAll, gAny, gSum, gMin, gMax, gMin2, gMax2, gAbs, gInt, gSorted,
  List.getElem?_cons_zero, List.getElem?_cons_succ, List.getElem?_nil, List.set_cons_zero, List.set_cons_succ, List.cons_append, List.nil_append, List.append_nil, wipeE, List.any_cons, List.any_nil, isK, Bool.or_false, Bool.false_or, Bool.or_true, Bool.true_or, Bool.not_true, Bool.not_false, if_true, if_false, Bool.false_eq_true, true_and, and_true, decide_eq_true_eq, id, reduceCtorEq, gEq_i, gNe_i, gEq_b, gNe_b, gEq_li, gNe_li, gEq_l0, gNe_l0, gEq_00, gNe_00, gEq_ti, gNe_ti, mEnum, Nat.zero_add, Nat.reduceAdd, Int.reduceEq, Int.cast_ofNat_Int, Nat.zero_le, sz1, sz2, sz3, sz4, sz5, sz6, decide_true, decide_false, sAugI, mPopAt, mApp, mExt, mGet, mDNew, sPar3, sFldAugM, mZip2, mZip3, sRaise0, mMethK, cutD, mLam]
  refine ⟨.inl (.inl ⟨by omega, by omega⟩), ?_⟩
  generalize v1 * v2 = far at f0 ⊢
  by_cases k3 : k < 3
  · simp only [sSeq, sSet, sSkip, sForget, sFor, sIf, sRet, sRetN, sDrop, sSetI, sAsg, sPar, sFldM, sAug, frzV, valE, mVar, mC, mOp, mUn, mCall, mFun, mMeth, mMake, mFld, mTst, mNotT, mNotV, mAndV, mOrV, mAndT, mOrT, mIte, mNil, mCons, mTup, mLst, mChain, mIter_ap, mIsi_ap, mRng1, mRng2, mLc, mYes, mCell, mRel, mSl, oNo, oSome,
  gN, gT, gsCons, gsNil, frz_d, frz_l, frz_k, gIx_p, onSet_p, onQ_p, onL_p, gLen_p, onIns_p, put_put, atD_0, atD_1, atD_2, atD_3, atD_4, ixN_0, ixN_1, ixN_2, ixN_3, ixN_4, List.length_cons, List.length_nil, onBl_b, onInt_i, onTup_t, on1_1, on2_2, onQ_l, onQ_t, onQ_s, onL_l, onLs_l, onLs_s, onD_d, onOpt_s, gII, gB, gAdd_i, gAdd_s, gAdd_t, gAdd_l, gMul_i, gMul_l, gMul_t, gSub, gMod, gDiv, gPow, gNeg, gIx_l, gIx_t, gIx_s, gLen_l, gLen_t, gLen_s, gLen_d, iterD_t, iterD_l, iterD_s,
  kind_i, kind_b, kind_s, kind_n, kind_t, kind_l, gIsN, isNon, gTuple, gList, gAll, gAny, gSum, gMin, gMax, gMin2, gMax2, gAbs, gInt, gSorted,
  List.getElem?_cons_zero, List.getElem?_cons_succ, List.getElem?_nil, List.set_cons_zero, List.set_cons_succ, List.cons_append, List.nil_append, List.append_nil, wipeE, List.any_cons, List.any_nil, isK, Bool.or_false, Bool.false_or, Bool.or_true, Bool.true_or, Bool.not_true, Bool.not_false, if_true, if_false, Bool.false_eq_true, true_and, and_true, decide_eq_true_eq, id, reduceCtorEq, gEq_i, gNe_i, gEq_b, gNe_b, gEq_li, gNe_li, gEq_l0, gNe_l0, gEq_00, gNe_00, gEq_ti, gNe_ti, mEnum, Nat.zero_add, Nat.reduceAdd, Int.reduceEq, Int.cast_ofNat_Int, Nat.zero_le, sz1, sz2, sz3, sz4, sz5, sz6, decide_true, decide_false, sAugI, mPopAt, mApp, mExt, mGet, mDNew, sPar3, sFldAugM, mZip2, mZip3, sRaise0, mMethK, cutD, mLam, k3]
    refine ⟨by omega, r, 13, rfl, by decide, by decide, R2, fun v h3 c0 c1 f3 R3 => ?_⟩
    obtain ⟨d, ed, kb, lb⟩ := bad_at (x8 := k - 1) ok f0 (.inr rfl) c0 c1
    simp only [sSeq, sSet, sSkip, sForget, sFor, sIf, sRet, sRetN, sDrop, sSetI, sAsg, sPar, sFldM, sAug, frzV, valE, mVar, mC, mOp, mUn, mCall, mFun, mMeth, mMake, mFld, mTst, mNotT, mNotV, mAndV, mOrV, mAndT, mOrT, mIte, mNil, mCons, mTup, mLst, mChain, mIter_ap, mIsi_ap, mRng1, mRng2, mLc, mYes, mCell, mRel, mSl, oNo, oSome,
  gN, gT, gsCons, gsNil, frz_d, frz_l, frz_k, gIx_p, onSet_p, onQ_p, onL_p, gLen_p, onIns_p, put_put, atD_0, atD_1, atD_2, atD_3, atD_4, ixN_0, ixN_1, ixN_2, ixN_3, ixN_4, List.length_cons, List.length_nil, onBl_b, onInt_i, onTup_t, on1_1, on2_2, onQ_l, onQ_t, onQ_s, onL_l, onLs_l, onLs_s, onD_d, onOpt_s, gII, gB, gAdd_i, gAdd_s, gAdd_t, gAdd_l, gMul_i, gMul_l, gMul_t, gSub, gMod, gDiv, gPow, gNeg, gIx_l, gIx_t, gIx_s, gLen_l, gLen_t, gLen_s, gLen_d, iterD_t, iterD_l, iterD_s,
  kind_i, kind_b, kind_s, kind_n, kind_t, kind_l, gIsN, isNon, gTuple, gList, gAll, gAny, gSum, gMin, gMax, gMin2, gMax2, gAbs, gInt, gSorted,
  List.getElem?_cons_zero, List.getElem?_cons_succ, List.getElem?_nil, List.set_cons_zero, List.set_cons_succ, List.cons_append, List.nil_append, List.append_nil, wipeE, List.any_cons, List.any_nil, isK, Bool.or_false, Bool.false_or, Bool.or_true, Bool.true_or, Bool.not_true, Bool.not_false, if_true, if_false, Bool.false_eq_true, true_and, and_true, decide_eq_true_eq, id, reduceCtorEq, gEq_i, gNe_i, gEq_b, gNe_b, gEq_li, gNe_li, gEq_l0, gNe_l0, gEq_00, gNe_00, gEq_ti, gNe_ti, mEnum, Nat.zero_add, Nat.reduceAdd, Int.reduceEq, Int.cast_ofNat_Int, Nat.zero_le, sz1, sz2, sz3, sz4, sz5, sz6, decide_true, decide_false, sAugI, mPopAt, mApp, mExt, mGet, mDNew, sPar3, sFldAugM, mZip2, mZip3, sRaise0, mMethK, cutD, mLam, ed]
    subst hT
    exact rd_works ok mb f0 kb lb R3 fin
  · simp only [sSeq, sSet, sSkip, sForget, sFor, sIf, sRet, sRetN, sDrop, sSetI, sAsg, sPar, sFldM, sAug, frzV, valE, mVar, mC, mOp, mUn, mCall, mFun, mMeth, mMake, mFld, mTst, mNotT, mNotV, mAndV, mOrV, mAndT, mOrT, mIte, mNil, mCons, mTup, mLst, mChain, mIter_ap, mIsi_ap, mRng1, mRng2, mLc, mYes, mCell, mRel, mSl, oNo, oSome,
  gN, gT, gsCons, gsNil, frz_d, frz_l, frz_k, gIx_p, onSet_p, onQ_p, onL_p, gLen_p, onIns_p, put_put, atD_0, atD_1, atD_2, atD_3, atD_4, ixN_0, ixN_1, ixN_2, ixN_3, ixN_4, List.length_cons, List.length_nil, onBl_b, onInt_i, onTup_t, on1_1, on2_2, onQ_l, onQ_t, onQ_s, onL_l, onLs_l, onLs_s, onD_d, onOpt_s, gII, gB, gAdd_i, gAdd_s, gAdd_t, gAdd_l, gMul_i, gMul_l, gMul_t, gSub, gMod, gDiv, gPow, gNeg, gIx_l, gIx_t, gIx_s, gLen_l, gLen_t, gLen_s, gLen_d, iterD_t, iterD_l, iterD_s,
  kind_i, kind_b, kind_s, kind_n, kind_t, kind_l, gIsN, isNon, gTuple, gList, gAll, gAny, gSum, gMin, gMax, gMin2, gMax2, gAbs, gInt, gSorted,
  List.getElem?_cons_zero, List.getElem?_cons_succ, List.getElem?_nil, List.set_cons_zero, List.set_cons_succ, List.cons_append, List.nil_append, List.append_nil, wipeE, List.any_cons, List.any_nil, isK, Bool.or_false, Bool.false_or, Bool.or_true, Bool.true_or, Bool.not_true, Bool.not_false, if_true, if_false, Bool.false_eq_true, true_and, and_true, decide_eq_true_eq, id, reduceCtorEq, gEq_i, gNe_i, gEq_b, gNe_b, gEq_li, gNe_li, gEq_l0, gNe_l0, gEq_00, gNe_00, gEq_ti, gNe_ti, mEnum, Nat.zero_add, Nat.reduceAdd, Int.reduceEq, Int.cast_ofNat_Int, Nat.zero_le, sz1, sz2, sz3, sz4, sz5, sz6, decide_true, decide_false, sAugI, mPopAt, mApp, mExt, mGet, mDNew, sPar3, sFldAugM, mZip2, mZip3, sRaise0, mMethK, cutD, mLam, k3]
    refine ⟨by omega, r, 13, rfl, by decide, by decide, R2, fun v h3 c0 c1 f3 R3 => ?_⟩
    obtain ⟨d, ed, kb, lb⟩ := bad_at (x8 := 6) ok f0 (.inl rfl) c0 c1
    simp only [sSeq, sSet, sSkip, sForget, sFor, sIf, sRet, sRetN, sDrop, sSetI, sAsg, sPar, sFldM, sAug, frzV, valE, mVar, mC, mOp, mUn, mCall, mFun, mMeth, mMake, mFld, mTst, mNotT, mNotV, mAndV, mOrV, mAndT, mOrT, mIte, mNil, mCons, mTup, mLst, mChain, mIter_ap, mIsi_ap, mRng1, mRng2, mLc, mYes, mCell, mRel, mSl, oNo, oSome,
  gN, gT, gsCons, gsNil, frz_d, frz_l, frz_k, gIx_p, onSet_p, onQ_p, onL_p, gLen_p, onIns_p, put_put, atD_0, atD_1, atD_2, atD_3, atD_4, ixN_0, ixN_1, ixN_2, ixN_3, ixN_4, List.length_cons, List.length_nil, onBl_b, onInt_i, onTup_t, on1_1, on2_2, onQ_l, onQ_t, onQ_s, onL_l, onLs_l, onLs_s, onD_d, onOpt_s, gII, gB, gAdd_i, gAdd_s, gAdd_t, gAdd_l, gMul_i, gMul_l, gMul_t, gSub, gMod, gDiv, gPow, gNeg, gIx_l, gIx_t, gIx_s, gLen_l, gLen_t, gLen_s, gLen_d, iterD_t, iterD_l, iterD_s,
  kind_i, kind_b, kind_s, kind_n, kind_t, kind_l, gIsN, isNon, gTuple, gList, gAll, gAny, gSum, gMin, gMax, gMin2, gMax2, gAbs, gInt, gSorted,
  List.getElem?_cons_zero, List.getElem?_cons_succ, List.getElem?_nil, List.set_cons_zero, List.set_cons_succ, List.cons_append, List.nil_append, List.append_nil, wipeE, List.any_cons, List.any_nil, isK, Bool.or_false, Bool.false_or, Bool.or_true, Bool.true_or, Bool.not_true, Bool.not_false, if_true, if_false, Bool.false_eq_true, true_and, and_true, decide_eq_true_eq, id, reduceCtorEq, gEq_i, gNe_i, gEq_b, gNe_b, gEq_li, gNe_li, gEq_l0, gNe_l0, gEq_00, gNe_00, gEq_ti, gNe_ti, mEnum, Nat.zero_add, Nat.reduceAdd, Int.reduceEq, Int.cast_ofNat_Int, Nat.zero_le, sz1, sz2, sz3, sz4, sz5, sz6, decide_true, decide_false, sAugI, mPopAt, mApp, mExt, mGet, mDNew, sPar3, sFldAugM, mZip2, mZip3, sRaise0, mMethK, cutD, mLam, ed]
    subst hT
    exact rd_works ok mb f0 kb lb R3 fin
end M3
set_option Elab.async false
set_option linter.all false
set_option maxRecDepth 100000
set_option maxHeartbeats 8000000
namespace M3
open PySem PySem.Spec PyProof.Rows L2
theorem al_part {x y : Nat} : alD 5 (partI x y) = true := by
  have := line_big
  show (decide (2 ≤ sizeLine) && (true && (true && true))) = true
  simp only [Bool.and_true, decide_eq_true_eq]
  omega
theorem rd_some {a : Ad} {N : Nd} {e0 e5 e6 e7 : Option D} {r : Addr} {k w p : Int} {ms os : List Int} {h : MH} (ok : LineOk k w p) (mb : memB k (-1) ms) (ho : ∀ o ∈ os, 0 ≤ o ∧ o < k ∧ o ∉ ms) (on : os ≠ []) (ol : os.length ≤ 16) (R : RowAt h r)
    (fin : ∀ e10 e11 h', RowAt h' r → N.nx [e0, some (.ref r), some (.int p), some (.int k), some (.int w), e5, e6, e7, some (.tup (ms.map D.int)), some (.lst (os.map D.int)), e10, e11, none, none, none, none, none, none, none, none] h') : t_some a N [e0, some (.ref r), some (.int p), some (.int k), some (.int w), e5, e6, e7, some (.tup (ms.map D.int)), some (.lst (os.map D.int)), none, none, none, none, none, none, none, none, none, none] h := by
  have big := line_big
  have pk := ok.pk
  have p2 := ok.p2
  have k1 := ok.k1
  have k2 := ok.k2
  have w1 := ok.w1
  have lm := memB_len mb (by omega)
  have o1 : 0 < os.length := List.length_pos_iff.mpr on
  unfold t_some
  simp only [sSeq, sSet, mTup, mCons, frzV, mOp, mVar, mC, mNil, mLst, mLam, sRet, mLc, mIter, mMeth, mMethK, mMake, mTst, mNotT, sIf, valE, mCall, mFun, mIte]
  simp only [sSeq, sSet, sSkip, sForget, sFor, sIf, sRet, sRetN, sDrop, sSetI, sAsg, sPar, sFldM, sAug, frzV, valE, mVar, mC, mOp, mUn, mCall, mFun, mMeth, mMake, mFld, mTst, mNotT, mNotV, mAndV, mOrV, mAndT, mOrT, mIte, mNil, mCons, mTup, mLst, mChain, mIter_ap, mIsi_ap, mRng1, mRng2, mLc, mYes, mCell, mRel, mSl, oNo, oSome,
  gN, gT, gsCons, gsNil, frz_d, frz_l, frz_k, gIx_p, onSet_p, onQ_p, onL_p, gLen_p, onIns_p, put_put, atD_0, atD_1, atD_2, atD_3, atD_4, ixN_0, ixN_1, ixN_2, ixN_3, ixN_4, List.length_cons, List.length_nil, onBl_b, onInt_i, onTup_t, on1_1, on2_2, onQ_l, onQ_t, onQ_s, onL_l, onLs_l, onLs_s, onD_d, onOpt_s, gII, gB, gAdd_i, gAdd_s, gAdd_t, gAdd_l, gMul_i, gMul_l, gMul_t, gSub, gMod, gDiv, gPow, gNeg, gIx_l, gIx_t, gIx_s, gLen_l, gLen_t, gLen_s, gLen_d, iterD_t, iterD_l, iterD_s,
  kind_i, kind_b, kind_s, kind_n, kind_t, kind_l, gIsN, isNon, gTuple, gList, gAll, gAny, gSum, gMin, gMax, gMin2, gMax2, gAbs, gInt, gSorted,
  List.getElem?_cons_zero, List.getElem?_cons_succ, List.getElem?_nil, List.set_cons_zero, List.set_cons_succ, List.cons_append, List.nil_append, List.append_nil, wipeE, List.any_cons, List.any_nil, isK, Bool.or_false, Bool.false_or, Bool.or_true, Bool.true_or, Bool.not_true, Bool.not_false, if_true, if_false, Bool.false_eq_true, true_and, and_true, decide_eq_true_eq, id, reduceCtorEq, gEq_i, gNe_i, gEq_b, gNe_b, gEq_li, gNe_li, gEq_l0, gNe_l0, gEq_00, gNe_00, gEq_ti, gNe_ti, mEnum, Nat.zero_add, Nat.reduceAdd, Int.reduceEq, Int.cast_ofNat_Int, Nat.zero_le, sz1, sz2, sz3, sz4, sz5, sz6, decide_true, decide_false, sAugI, mPopAt, mApp, mExt, mGet, mDNew, sPar3, sFldAugM, mZip2, mZip3, sRaise0, mMethK, cutD, mLam, List.length_map]
  refine ⟨r, os.length, rfl, by omega, by omega, R, fun v h1 v0 v1 f1 R1 => ?_⟩
  have vl : v.toNat < os.length := by omega
  simp only [sSeq, sSet, sSkip, sForget, sFor, sIf, sRet, sRetN, sDrop, sSetI, sAsg, sPar, sFldM, sAug, frzV, valE, mVar, mC, mOp, mUn, mCall, mFun, mMeth, mMake, mFld, mTst, mNotT, mNotV, mAndV, mOrV, mAndT, mOrT, mIte, mNil, mCons, mTup, mLst, mChain, mIter_ap, mIsi_ap, mRng1, mRng2, mLc, mYes, mCell, mRel, mSl, oNo, oSome,
  gN, gT, gsCons, gsNil, frz_d, frz_l, frz_k, gIx_p, onSet_p, onQ_p, onL_p, gLen_p, onIns_p, put_put, atD_0, atD_1, atD_2, atD_3, atD_4, ixN_0, ixN_1, ixN_2, ixN_3, ixN_4, List.length_cons, List.length_nil, onBl_b, onInt_i, onTup_t, on1_1, on2_2, onQ_l, onQ_t, onQ_s, onL_l, onLs_l, onLs_s, onD_d, onOpt_s, gII, gB, gAdd_i, gAdd_s, gAdd_t, gAdd_l, gMul_i, gMul_l, gMul_t, gSub, gMod, gDiv, gPow, gNeg, gIx_l, gIx_t, gIx_s, gLen_l, gLen_t, gLen_s, gLen_d, iterD_t, iterD_l, iterD_s,
  kind_i, kind_b, kind_s, kind_n, kind_t, kind_l, gIsN, isNon, gTuple, gList, gAll, gAny, gSum, gMin, gMax, gMin2, gMax2, gAbs, gInt, gSorted,
  List.getElem?_cons_zero, List.getElem?_cons_succ, List.getElem?_nil, List.set_cons_zero, List.set_cons_succ, List.cons_append, List.nil_append, List.append_nil, wipeE, List.any_cons, List.any_nil, isK, Bool.or_false, Bool.false_or, Bool.or_true, Bool.true_or, Bool.not_true, Bool.not_false, if_true, if_false, Bool.false_eq_true, true_and, and_true, decide_eq_true_eq, id, reduceCtorEq, gEq_i, gNe_i, gEq_b, gNe_b, gEq_li, gNe_li, gEq_l0, gNe_l0, gEq_00, gNe_00, gEq_ti, gNe_ti, mEnum, Nat.zero_add, Nat.reduceAdd, Int.reduceEq, Int.cast_ofNat_Int, Nat.zero_le, sz1, sz2, sz3, sz4, sz5, sz6, decide_true, decide_false, sAugI, mPopAt, mApp, mExt, mGet, mDNew, sPar3, sFldAugM, mZip2, mZip3, sRaise0, mMethK, cutD, mLam, atD_ints (cs := os) (c := v) v0 (by omega)]
  have hy := ho (os.getD v.toNat 0) (by rw [List.getD_eq_getElem?_getD, List.getElem?_eq_getElem vl]; exact List.getElem_mem vl)
  generalize os.getD v.toNat 0 = y at hy ⊢
  obtain ⟨y0, y1, yn⟩ := hy
  refine ⟨⟨by decide, by decide, by omega, by omega⟩, ?_⟩
  refine for_inv (fun i E h' => h' = h1 ∧ E = [e0, some (.ref r), some (.int p), some (.int k), some (.int w), e5, e6, e7, some (.tup (ms.map D.int)), some (.lst (os.map D.int)), some (.int y), some (.int (((List.range i).foldl (fun (c : Nat) (t : Nat) => (List.range p.toNat).foldl (fun (c : Nat) (m : Nat) => c + if hitB w p y ms (1 + (t : Int)) (0 + (m : Int)) = true then 1 else 0) c) 0 : Nat) : Int)), none, none, none, none, none, none, none, none]) ⟨rfl, rfl⟩ ?_ ?_
  · rintro t d E h' kc ht ⟨rfl, rfl⟩ hk
    obtain ⟨tl, rfl⟩ : t < (p - 1).toNat ∧ d = .int (1 + (t : Int)) := by
      unfold rngD at ht
      obtain ⟨j, hj, rfl⟩ := map_getD ht
      obtain ⟨h1, h2⟩ := List.getElem?_eq_some_iff.mp hj
      rw [List.getElem_range] at h2
      subst h2
      simp at h1
      exact ⟨by omega, rfl⟩
    generalize hc : (List.range t).foldl (fun (c : Nat) (t : Nat) => (List.range p.toNat).foldl (fun (c : Nat) (m : Nat) => c + if hitB w p y ms (1 + (t : Int)) (0 + (m : Int)) = true then 1 else 0) c) 0 = c0 at hk ⊢
    simp only [sSeq, sSet, mTup, mCons, frzV, mOp, mVar, mC, mNil, mLst, mLam, sRet, mLc, mIter, mMeth, mMethK, mMake, mTst, mNotT, sIf, valE, mCall, mFun, mIte]
    simp only [sSeq, sSet, sSkip, sForget, sFor, sIf, sRet, sRetN, sDrop, sSetI, sAsg, sPar, sFldM, sAug, frzV, valE, mVar, mC, mOp, mUn, mCall, mFun, mMeth, mMake, mFld, mTst, mNotT, mNotV, mAndV, mOrV, mAndT, mOrT, mIte, mNil, mCons, mTup, mLst, mChain, mIter_ap, mIsi_ap, mRng1, mRng2, mLc, mYes, mCell, mRel, mSl, oNo, oSome,
  gN, gT, gsCons, gsNil, frz_d, frz_l, frz_k, gIx_p, onSet_p, onQ_p, onL_p, gLen_p, onIns_p, put_put, atD_0, atD_1, atD_2, atD_3, atD_4, ixN_0, ixN_1, ixN_2, ixN_3, ixN_4, List.length_cons, List.length_nil, onBl_b, onInt_i, onTup_t, on1_1, on2_2, onQ_l, onQ_t, onQ_s, onL_l, onLs_l, onLs_s, onD_d, onOpt_s, gII, gB, gAdd_i, gAdd_s, gAdd_t, gAdd_l, gMul_i, gMul_l, gMul_t, gSub, gMod, gDiv, gPow, gNeg, gIx_l, gIx_t, gIx_s, gLen_l, gLen_t, gLen_s, gLen_d, iterD_t, iterD_l, iterD_s,
  kind_i, kind_b, kind_s, kind_n, kind_t, kind_l, gIsN, isNon, gTuple, gList, gAll, gAny, gSum, gMin, gMax, gMin2, gMax2, gAbs, gInt, gSorted,
  List.getElem?_cons_zero, List.getElem?_cons_succ, List.getElem?_nil, List.set_cons_zero, List.set_cons_succ, List.cons_append, List.nil_append, List.append_nil, wipeE, List.any_cons, List.any_nil, isK, Bool.or_false, Bool.false_or, Bool.or_true, Bool.true_or, Bool.not_true, Bool.not_false, if_true, if_false, Bool.false_eq_true, true_and, and_true, decide_eq_true_eq, id, reduceCtorEq, gEq_i, gNe_i, gEq_b, gNe_b, gEq_li, gNe_li, gEq_l0, gNe_l0, gEq_00, gNe_00, gEq_ti, gNe_ti, mEnum, Nat.zero_add, Nat.reduceAdd, Int.reduceEq, Int.cast_ofNat_Int, Nat.zero_le, sz1, sz2, sz3, sz4, sz5, sz6, decide_true, decide_false, sAugI, mPopAt, mApp, mExt, mGet, mDNew, sPar3, sFldAugM, mZip2, mZip3, sRaise0, mMethK, cutD, mLam]
    refine ⟨⟨by omega, by omega⟩, ?_⟩
    refine for_inv (fun i E h2 => h2 = h' ∧ E = [e0, some (.ref r), some (.int p), some (.int k), some (.int w), e5, e6, e7, some (.tup (ms.map D.int)), some (.lst (os.map D.int)), some (.int y), some (.int (((List.range i).foldl (fun (c : Nat) (m : Nat) => c + if hitB w p y ms (1 + (t : Int)) (0 + (m : Int)) = true then 1 else 0) c0 : Nat) : Int)), some (.int (1 + (t : Int))), none, none, none, none, none, none, none]) ⟨rfl, rfl⟩ ?_ ?_
    · rintro m d E h2 kc2 hm ⟨rfl, rfl⟩ hk2
      obtain ⟨ml, rfl⟩ : m < p.toNat ∧ d = .int (0 + (m : Int)) := by
        unfold rngD at hm
        obtain ⟨j, hj, rfl⟩ := map_getD hm
        obtain ⟨h1, h2⟩ := List.getElem?_eq_some_iff.mp hj
        rw [List.getElem_range] at h2
        subst h2
        simp at h1
        exact ⟨by omega, rfl⟩
      generalize hc1 : (List.range m).foldl (fun (c : Nat) (m : Nat) => c + if hitB w p y ms (1 + (t : Int)) (0 + (m : Int)) = true then 1 else 0) c0 = c1 at hk2 ⊢
      simp only [sSeq, sSet, mTup, mCons, frzV, mOp, mVar, mC, mNil, mLst, mLam, sRet, mLc, mIter, mMeth, mMethK, mMake, mTst, mNotT, sIf, valE, mCall, mFun, mIte]
      simp only [sSeq, sSet, sSkip, sForget, sFor, sIf, sRet, sRetN, sDrop, sSetI, sAsg, sPar, sFldM, sAug, frzV, valE, mVar, mC, mOp, mUn, mCall, mFun, mMeth, mMake, mFld, mTst, mNotT, mNotV, mAndV, mOrV, mAndT, mOrT, mIte, mNil, mCons, mTup, mLst, mChain, mIter_ap, mIsi_ap, mRng1, mRng2, mLc, mYes, mCell, mRel, mSl, oNo, oSome,
  gN, gT, gsCons, gsNil, frz_d, frz_l, frz_k, gIx_p, onSet_p, onQ_p, onL_p, gLen_p, onIns_p, put_put, atD_0, atD_1, atD_2, atD_3, atD_4, ixN_0, ixN_1, ixN_2, ixN_3, ixN_4, List.length_cons, List.length_nil, onBl_b, onInt_i, onTup_t, on1_1, on2_2, onQ_l, onQ_t, onQ_s, onL_l, onLs_l, onLs_s, onD_d, onOpt_s, gII, gB, gAdd_i, gAdd_s, gAdd_t, gAdd_l, gMul_i, gMul_l, gMul_t, gSub, gMod, gDiv, gPow, gNeg, gIx_l, gIx_t, gIx_s, gLen_l, gLen_t, gLen_s, gLen_d, iterD_t, iterD_l, iterD_s,
  kind_i, kind_b, kind_s, kind_n, kind_t, kind_l, gIsN, isNon, gTuple, gList, gAll, gAny, gSum, gMin, gMax, gMin2, gMax2, gAbs, gInt, gSorted,
  List.getElem?_cons_zero, List.getElem?_cons_succ, List.getElem?_nil, List.set_cons_zero, List.set_cons_succ, List.cons_append, List.nil_append, List.append_nil, wipeE, List.any_cons, List.any_nil, isK, Bool.or_false, Bool.false_or, Bool.or_true, Bool.true_or, Bool.not_true, Bool.not_false, if_true, if_false, Bool.false_eq_true, true_and, and_true, decide_eq_true_eq, id, reduceCtorEq, gEq_i, gNe_i, gEq_b, gNe_b, gEq_li, gNe_li, gEq_l0, gNe_l0, gEq_00, gNe_00, gEq_ti, gNe_ti, mEnum, Nat.zero_add, Nat.reduceAdd, Int.reduceEq, Int.cast_ofNat_Int, Nat.zero_le, sz1, sz2, sz3, sz4, sz5, sz6, decide_true, decide_false, sAugI, mPopAt, mApp, mExt, mGet, mDNew, sPar3, sFldAugM, mZip2, mZip3, sRaise0, mMethK, cutD, mLam]
      refine ⟨.inl (.inl ⟨by omega, by omega⟩), by omega, by omega, ?_⟩
      refine lc_mapA ms D.int (fun one => .int (((1 + (t : Int)) * one + (0 + (m : Int))) % p % w)) (by omega) ?_ ?_
      · intro one ho acc kc3 ha q3
        simp only [sSeq, sSet, mTup, mCons, frzV, mOp, mVar, mC, mNil, mLst, mLam, sRet, mLc, mIter, mMeth, mMethK, mMake, mTst, mNotT, sIf, valE, mCall, mFun, mIte]
        simp only [sSeq, sSet, sSkip, sForget, sFor, sIf, sRet, sRetN, sDrop, sSetI, sAsg, sPar, sFldM, sAug, frzV, valE, mVar, mC, mOp, mUn, mCall, mFun, mMeth, mMake, mFld, mTst, mNotT, mNotV, mAndV, mOrV, mAndT, mOrT, mIte, mNil, mCons, mTup, mLst, mChain, mIter_ap, mIsi_ap, mRng1, mRng2, mLc, mYes, mCell, mRel, mSl, oNo, oSome,
  gN, gT, gsCons, gsNil, frz_d, frz_l, frz_k, gIx_p, onSet_p, onQ_p, onL_p, gLen_p, onIns_p, put_put, atD_0, atD_1, atD_2, atD_3, atD_4, ixN_0, ixN_1, ixN_2, ixN_3, ixN_4, List.length_cons, List.length_nil, onBl_b, onInt_i, onTup_t, on1_1, on2_2, onQ_l, onQ_t, onQ_s, onL_l, onLs_l, onLs_s, onD_d, onOpt_s, gII, gB, gAdd_i, gAdd_s, gAdd_t, gAdd_l, gMul_i, gMul_l, gMul_t, gSub, gMod, gDiv, gPow, gNeg, gIx_l, gIx_t, gIx_s, gLen_l, gLen_t, gLen_s, gLen_d, iterD_t, iterD_l, iterD_s,
  kind_i, kind_b, kind_s, kind_n, kind_t, kind_l, gIsN, isNon, gTuple, gList, gAll, gAny, gSum, gMin, gMax, gMin2, gMax2, gAbs, gInt, gSorted,
  List.getElem?_cons_zero, List.getElem?_cons_succ, List.getElem?_nil, List.set_cons_zero, List.set_cons_succ, List.cons_append, List.nil_append, List.append_nil, wipeE, List.any_cons, List.any_nil, isK, Bool.or_false, Bool.false_or, Bool.or_true, Bool.true_or, Bool.not_true, Bool.not_false, if_true, if_false, Bool.false_eq_true, true_and, and_true, decide_eq_true_eq, id, reduceCtorEq, gEq_i, gNe_i, gEq_b, gNe_b, gEq_li, gNe_li, gEq_l0, gNe_l0, gEq_00, gNe_00, gEq_ti, gNe_ti, mEnum, Nat.zero_add, Nat.reduceAdd, Int.reduceEq, Int.cast_ofNat_Int, Nat.zero_le, sz1, sz2, sz3, sz4, sz5, sz6, decide_true, decide_false, sAugI, mPopAt, mApp, mExt, mGet, mDNew, sPar3, sFldAugM, mZip2, mZip3, sRaise0, mMethK, cutD, mLam]
        exact ⟨.inl (.inl ⟨by omega, by omega⟩), by omega, by omega, ha, q3⟩
      · have e : ms.map (fun one => D.int (((1 + (t : Int)) * one + (0 + (m : Int))) % p % w)) = (ms.map fun one => ((1 + (t : Int)) * one + (0 + (m : Int))) % p % w).map D.int := by rw [List.map_map]; rfl
        rw [e]
        simp only [sSeq, sSet, sSkip, sForget, sFor, sIf, sRet, sRetN, sDrop, sSetI, sAsg, sPar, sFldM, sAug, frzV, valE, mVar, mC, mOp, mUn, mCall, mFun, mMeth, mMake, mFld, mTst, mNotT, mNotV, mAndV, mOrV, mAndT, mOrT, mIte, mNil, mCons, mTup, mLst, mChain, mIter_ap, mIsi_ap, mRng1, mRng2, mLc, mYes, mCell, mRel, mSl, oNo, oSome,
  gN, gT, gsCons, gsNil, frz_d, frz_l, frz_k, gIx_p, onSet_p, onQ_p, onL_p, gLen_p, onIns_p, put_put, atD_0, atD_1, atD_2, atD_3, atD_4, ixN_0, ixN_1, ixN_2, ixN_3, ixN_4, List.length_cons, List.length_nil, onBl_b, onInt_i, onTup_t, on1_1, on2_2, onQ_l, onQ_t, onQ_s, onL_l, onLs_l, onLs_s, onD_d, onOpt_s, gII, gB, gAdd_i, gAdd_s, gAdd_t, gAdd_l, gMul_i, gMul_l, gMul_t, gSub, gMod, gDiv, gPow, gNeg, gIx_l, gIx_t, gIx_s, gLen_l, gLen_t, gLen_s, gLen_d, iterD_t, iterD_l, iterD_s,
  kind_i, kind_b, kind_s, kind_n, kind_t, kind_l, gIsN, isNon, gTuple, gList, gAll, gAny, gSum, gMin, gMax, gMin2, gMax2, gAbs, gInt, gSorted,
  List.getElem?_cons_zero, List.getElem?_cons_succ, List.getElem?_nil, List.set_cons_zero, List.set_cons_succ, List.cons_append, List.nil_append, List.append_nil, wipeE, List.any_cons, List.any_nil, isK, Bool.or_false, Bool.false_or, Bool.or_true, Bool.true_or, Bool.not_true, Bool.not_false, if_true, if_false, Bool.false_eq_true, true_and, and_true, decide_eq_true_eq, id, reduceCtorEq, gEq_i, gNe_i, gEq_b, gNe_b, gEq_li, gNe_li, gEq_l0, gNe_l0, gEq_00, gNe_00, gEq_ti, gNe_ti, mEnum, Nat.zero_add, Nat.reduceAdd, Int.reduceEq, Int.cast_ofNat_Int, Nat.zero_le, sz1, sz2, sz3, sz4, sz5, sz6, decide_true, decide_false, sAugI, mPopAt, mApp, mExt, mGet, mDNew, sPar3, sFldAugM, mZip2, mZip3, sRaise0, mMethK, cutD, mLam, gIn_l, fl_ints, inD_ints, gInt]
        refine ⟨rfl, hk2 _ _ ⟨rfl, ?_⟩⟩
        rw [List.range_succ, List.foldl_append, hc1]
        show _ = [_, _, _, _, _, _, _, _, _, _, _, some (D.int ((c1 + if hitB w p y ms (1 + (t : Int)) (0 + (m : Int)) = true then 1 else 0 : Nat) : Int)), _, _, _, _, _, _, _, _]
        unfold hitB
        by_cases hh : ((1 + (t : Int)) * y + (0 + (m : Int))) % p % w ∈ ms.map fun one => ((1 + (t : Int)) * one + (0 + (m : Int))) % p % w
        · rw [if_pos hh, decide_eq_true hh]
          rfl
        · rw [if_neg hh, decide_eq_false hh]
          rfl
    · rintro E h2 ⟨rfl, rfl⟩
      refine hk _ _ ⟨rfl, ?_⟩
      rw [List.range_succ, List.foldl_append, hc]
      have e : (rngD 0 p.toNat).length = p.toNat := rng_len
      rw [e]
      rfl
  · rintro E h' ⟨rfl, rfl⟩
    have e : (rngD 1 (p - 1).toNat).length = (p - 1).toNat := rng_len
    rw [e]
    have e2 : ((p * (p - 1) : Int)) = ((p.toNat * (p.toNat - 1) : Nat) : Int) := by
      obtain ⟨n, rfl⟩ := Int.eq_ofNat_of_zero_le (show 0 ≤ p by omega)
      rw [Int.toNat_natCast, Int.natCast_mul, Int.natCast_sub (by omega)]
      rfl
    have e3 : p.toNat * (p.toNat - 1) ≤ 4000 := Nat.le_trans (Nat.mul_le_mul (show p.toNat ≤ 61 by omega) (show p.toNat - 1 ≤ 60 by omega)) (by decide)
    have p1 : 1 < p := by
      have := ok.pr
      unfold primeB at this
      simp only [Bool.and_eq_true, decide_eq_true_eq] at this
      exact this.1
    have e4 : 1 ≤ p.toNat * (p.toNat - 1) := Nat.mul_pos (by omega) (by omega)
    simp only [sSeq, sSet, mTup, mCons, frzV, mOp, mVar, mC, mNil, mLst, mLam, sRet, mLc, mIter, mMeth, mMethK, mMake, mTst, mNotT, sIf, valE, mCall, mFun, mIte]
    simp only [sSeq, sSet, sSkip, sForget, sFor, sIf, sRet, sRetN, sDrop, sSetI, sAsg, sPar, sFldM, sAug, frzV, valE, mVar, mC, mOp, mUn, mCall, mFun, mMeth, mMake, mFld, mTst, mNotT, mNotV, mAndV, mOrV, mAndT, mOrT, mIte, mNil, mCons, mTup, mLst, mChain, mIter_ap, mIsi_ap, mRng1, mRng2, mLc, mYes, mCell, mRel, mSl, oNo, oSome,
  gN, gT, gsCons, gsNil, frz_d, frz_l, frz_k, gIx_p, onSet_p, onQ_p, onL_p, gLen_p, onIns_p, put_put, atD_0, atD_1, atD_2, atD_3, atD_4, ixN_0, ixN_1, ixN_2, ixN_3, ixN_4, List.length_cons, List.length_nil, onBl_b, onInt_i, onTup_t, on1_1, on2_2, onQ_l, onQ_t, onQ_s, onL_l, onLs_l, onLs_s, onD_d, onOpt_s, gII, gB, gAdd_i, gAdd_s, gAdd_t, gAdd_l, gMul_i, gMul_l, gMul_t, gSub, gMod, gDiv, gPow, gNeg, gIx_l, gIx_t, gIx_s, gLen_l, gLen_t, gLen_s, gLen_d, iterD_t, iterD_l, iterD_s,
  kind_i, kind_b, kind_s, kind_n, kind_t, kind_l, gIsN, isNon, gTuple, gList, gAll, gAny, gSum, gMin, gMax, gMin2, gMax2, gAbs, gInt, gSorted,
  List.getElem?_cons_zero, List.getElem?_cons_succ, List.getElem?_nil, List.set_cons_zero, List.set_cons_succ, List.cons_append, List.nil_append, List.append_nil, wipeE, List.any_cons, List.any_nil, isK, Bool.or_false, Bool.false_or, Bool.or_true, Bool.true_or, Bool.not_true, Bool.not_false, if_true, if_false, Bool.false_eq_true, true_and, and_true, decide_eq_true_eq, id, reduceCtorEq, gEq_i, gNe_i, gEq_b, gNe_b, gEq_li, gNe_li, gEq_l0, gNe_l0, gEq_00, gNe_00, gEq_ti, gNe_ti, mEnum, Nat.zero_add, Nat.reduceAdd, Int.reduceEq, Int.cast_ofNat_Int, Nat.zero_le, sz1, sz2, sz3, sz4, sz5, sz6, decide_true, decide_false, sAugI, mPopAt, mApp, mExt, mGet, mDNew, sPar3, sFldAugM, mZip2, mZip3, sRaise0, mMethK, cutD, mLam, e2]
    refine ⟨_, _, _, _, _, rfl, by simp [kindD], by simp [kindD], by simp [kindD], .inr ⟨k, w, p, rfl, rfl, rfl, ok, .inr ⟨ms, rfl, mb, y, rfl, .inr ⟨y0, y1, yn, ?_⟩⟩⟩⟩
    simp only [sSeq, sSet, sSkip, sForget, sFor, sIf, sRet, sRetN, sDrop, sSetI, sAsg, sPar, sFldM, sAug, frzV, valE, mVar, mC, mOp, mUn, mCall, mFun, mMeth, mMake, mFld, mTst, mNotT, mNotV, mAndV, mOrV, mAndT, mOrT, mIte, mNil, mCons, mTup, mLst, mChain, mIter_ap, mIsi_ap, mRng1, mRng2, mLc, mYes, mCell, mRel, mSl, oNo, oSome,
  gN, gT, gsCons, gsNil, frz_d, frz_l, frz_k, gIx_p, onSet_p, onQ_p, onL_p, gLen_p, onIns_p, put_put, atD_0, atD_1, atD_2, atD_3, atD_4, ixN_0, ixN_1, ixN_2, ixN_3, ixN_4, List.length_cons, List.length_nil, onBl_b, onInt_i, onTup_t, on1_1, on2_2, onQ_l, onQ_t, onQ_s, onL_l, onLs_l, onLs_s, onD_d, onOpt_s, gII, gB, gAdd_i, gAdd_s, gAdd_t, gAdd_l, gMul_i, gMul_l, gMul_t, gSub, gMod, gDiv, gPow, gNeg, gIx_l, gIx_t, gIx_s, gLen_l, gLen_t, gLen_s, gLen_d, iterD_t, iterD_l, iterD_s,
  kind_i, kind_b, kind_s, kind_n, kind_t, kind_l, gIsN, isNon, gTuple, gList, gAll, gAny, gSum, gMin, gMax, gMin2, gMax2, gAbs, gInt, gSorted,
  List.getElem?_cons_zero, List.getElem?_cons_succ, List.getElem?_nil, List.set_cons_zero, List.set_cons_succ, List.cons_append, List.nil_append, List.append_nil, wipeE, List.any_cons, List.any_nil, isK, Bool.or_false, Bool.false_or, Bool.or_true, Bool.true_or, Bool.not_true, Bool.not_false, if_true, if_false, Bool.false_eq_true, true_and, and_true, decide_eq_true_eq, id, reduceCtorEq, gEq_i, gNe_i, gEq_b, gNe_b, gEq_li, gNe_li, gEq_l0, gNe_l0, gEq_00, gNe_00, gEq_ti, gNe_ti, mEnum, Nat.zero_add, Nat.reduceAdd, Int.reduceEq, Int.cast_ofNat_Int, Nat.zero_le, sz1, sz2, sz3, sz4, sz5, sz6, decide_true, decide_false, sAugI, mPopAt, mApp, mExt, mGet, mDNew, sPar3, sFldAugM, mZip2, mZip3, sRaise0, mMethK, cutD, mLam, e2]
    refine ⟨.inl (.inl ⟨by omega, by omega⟩), _, _, rfl, e4, e3, ?_⟩
    simp only [sSeq, sSet, sSkip, sForget, sFor, sIf, sRet, sRetN, sDrop, sSetI, sAsg, sPar, sFldM, sAug, frzV, valE, mVar, mC, mOp, mUn, mCall, mFun, mMeth, mMake, mFld, mTst, mNotT, mNotV, mAndV, mOrV, mAndT, mOrT, mIte, mNil, mCons, mTup, mLst, mChain, mIter_ap, mIsi_ap, mRng1, mRng2, mLc, mYes, mCell, mRel, mSl, oNo, oSome,
  gN, gT, gsCons, gsNil, frz_d, frz_l, frz_k, gIx_p, onSet_p, onQ_p, onL_p, gLen_p, onIns_p, put_put, atD_0, atD_1, atD_2, atD_3, atD_4, ixN_0, ixN_1, ixN_2, ixN_3, ixN_4, List.length_cons, List.length_nil, onBl_b, onInt_i, onTup_t, on1_1, on2_2, onQ_l, onQ_t, onQ_s, onL_l, onLs_l, onLs_s, onD_d, onOpt_s, gII, gB, gAdd_i, gAdd_s, gAdd_t, gAdd_l, gMul_i, gMul_l, gMul_t, gSub, gMod, gDiv, gPow, gNeg, gIx_l, gIx_t, gIx_s, gLen_l, gLen_t, gLen_s, gLen_d, iterD_t, iterD_l, iterD_s,
  kind_i, kind_b, kind_s, kind_n, kind_t, kind_l, gIsN, isNon, gTuple, gList, gAll, gAny, gSum, gMin, gMax, gMin2, gMax2, gAbs, gInt, gSorted,
  List.getElem?_cons_zero, List.getElem?_cons_succ, List.getElem?_nil, List.set_cons_zero, List.set_cons_succ, List.cons_append, List.nil_append, List.append_nil, wipeE, List.any_cons, List.any_nil, isK, Bool.or_false, Bool.false_or, Bool.or_true, Bool.true_or, Bool.not_true, Bool.not_false, if_true, if_false, Bool.false_eq_true, true_and, and_true, decide_eq_true_eq, id, reduceCtorEq, gEq_i, gNe_i, gEq_b, gNe_b, gEq_li, gNe_li, gEq_l0, gNe_l0, gEq_00, gNe_00, gEq_ti, gNe_ti, mEnum, Nat.zero_add, Nat.reduceAdd, Int.reduceEq, Int.cast_ofNat_Int, Nat.zero_le, sz1, sz2, sz3, sz4, sz5, sz6, decide_true, decide_false, sAugI, mPopAt, mApp, mExt, mGet, mDNew, sPar3, sFldAugM, mZip2, mZip3, sRaise0, mMethK, cutD, mLam]
    refine ⟨_, _, rfl, rfl, by decide, al_part, ?_⟩
    simp only [sSeq, sSet, sSkip, sForget, sFor, sIf, sRet, sRetN, sDrop, sSetI, sAsg, sPar, sFldM, sAug, frzV, valE, mVar, mC, mOp, mUn, mCall, mFun, mMeth, mMake, mFld, mTst, mNotT, mNotV, mAndV, mOrV, mAndT, mOrT, mIte, mNil, mCons, mTup, mLst, mChain, mIter_ap, mIsi_ap, mRng1, mRng2, mLc, mYes, mCell, mRel, mSl, oNo, oSome,
  gN, gT, gsCons, gsNil, frz_d, frz_l, frz_k, gIx_p, onSet_p, onQ_p, onL_p, gLen_p, onIns_p, put_put, atD_0, atD_1, atD_2, atD_3, atD_4, ixN_0, ixN_1, ixN_2, ixN_3, ixN_4, List.length_cons, List.length_nil, onBl_b, onInt_i, onTup_t, on1_1, on2_2, onQ_l, onQ_t, onQ_s, onL_l, onLs_l, onLs_s, onD_d, onOpt_s, gII, gB, gAdd_i, gAdd_s, gAdd_t, gAdd_l, gMul_i, gMul_l, gMul_t, gSub, gMod, gDiv, gPow, gNeg, gIx_l, gIx_t, gIx_s, gLen_l, gLen_t, gLen_s, gLen_d, iterD_t, iterD_l, iterD_s,
  kind_i, kind_b, kind_s, kind_n, kind_t, kind_l, gIsN, isNon, gTuple, gList, gAll, gAny, gSum, gMin, gMax, gMin2, gMax2, gAbs, gInt, gSorted,
  List.getElem?_cons_zero, List.getElem?_cons_succ, List.getElem?_nil, List.set_cons_zero, List.set_cons_succ, List.cons_append, List.nil_append, List.append_nil, wipeE, List.any_cons, List.any_nil, isK, Bool.or_false, Bool.false_or, Bool.or_true, Bool.true_or, Bool.not_true, Bool.not_false, if_true, if_false, Bool.false_eq_true, true_and, and_true, decide_eq_true_eq, id, reduceCtorEq, gEq_i, gNe_i, gEq_b, gNe_b, gEq_li, gNe_li, gEq_l0, gNe_l0, gEq_00, gNe_00, gEq_ti, gNe_ti, mEnum, Nat.zero_add, Nat.reduceAdd, Int.reduceEq, Int.cast_ofNat_Int, Nat.zero_le, sz1, sz2, sz3, sz4, sz5, sz6, decide_true, decide_false, sAugI, mPopAt, mApp, mExt, mGet, mDNew, sPar3, sFldAugM, mZip2, mZip3, sRaise0, mMethK, cutD, mLam]
    exact fin _ _ _ R1
theorem prime_at {v : Int} (h0 : 0 ≤ v) (h1 : v < 8) : ∃ p, atD [D.int 2, .int 3, .int 5, .int 7, .int 11, .int 13, .int 41, .int 61] v = some (.int p) ∧ 2 ≤ p ∧ p ≤ 61 ∧ primeB p = true := by
  obtain ⟨n, rfl⟩ := Int.eq_ofNat_of_zero_le h0
  have : n = 0 ∨ n = 1 ∨ n = 2 ∨ n = 3 ∨ n = 4 ∨ n = 5 ∨ n = 6 ∨ n = 7 := by omega
  rcases this with rfl | rfl | rfl | rfl | rfl | rfl | rfl | rfl <;> exact ⟨_, rfl, by decide, by decide, by decide⟩
theorem rd_law {a : Ad} (c : LX) (ds : List D) (h : MH) (Kn : RV → MH → Prop) (Kx : XKm) (q : sp_law a ds h Kn Kx) : t_law a c (bodyN Kn Kx) (startE ["_law_script", "_law_row_here", "_law_prime", "_law_keys", "_law_cells", "_law_oft", "_law_more", "_law_due", "_law_members_here", "_law_others", "_law_key", "_law_count", "_law_a", "_law_b", "_law_mine", "_law_far", "_law_bad", "_law_works", "_law_work", "_law_one"] ds) h := by
  obtain ⟨ns0, rfl, fin⟩ := q
  show t_law a c (bodyN Kn Kx) [some (.scr ns0), none, none, none, none, none, none, none, none, none, none, none, none, none, none, none, none, none, none, none] h
  have big := line_big
  rw [t_law_eq]
  generalize hT : t_end a c = T
  generalize hS : t_some a = S
  simp only [sSeq, sSet, sSkip, sForget, sFor, sIf, sRet, sRetN, sDrop, sSetI, sAsg, sPar, sFldM, sAug, frzV, valE, mVar, mC, mOp, mUn, mCall, mFun, mMeth, mMake, mFld, mTst, mNotT, mNotV, mAndV, mOrV, mAndT, mOrT, mIte, mNil, mCons, mTup, mLst, mChain, mIter_ap, mIsi_ap, mRng1, mRng2, mLc, mYes, mCell, mRel, mSl, oNo, oSome,
  gN, gT, gsCons, gsNil, frz_d, frz_l, frz_k, gIx_p, onSet_p, onQ_p, onL_p, gLen_p, onIns_p, put_put, atD_0, atD_1, atD_2, atD_3, atD_4, ixN_0, ixN_1, ixN_2, ixN_3, ixN_4, List.length_cons, List.length_nil, onBl_b, onInt_i, onTup_t, on1_1, on2_2, onQ_l, onQ_t, onQ_s, onL_l, onLs_l, onLs_s, onD_d, onOpt_s, gII, gB, gAdd_i, gAdd_s, gAdd_t, gAdd_l, gMul_i, gMul_l, gMul_t, gSub, gMod, gDiv, gPow, gNeg, gIx_l, gIx_t, gIx_s, gLen_l, gLen_t, gLen_s, gLen_d, iterD_t, iterD_l, iterD_s,
  kind_i, kind_b, kind_s, kind_n, kind_t, kind_l, gIsN, isNon, gTuple, gList, gAll, gAny, gSum, gMin, gMax, gMin2, gMax2, gAbs, gInt, gSorted,
  List.getElem?_cons_zero, List.getElem?_cons_succ, List.getElem?_nil, List.set_cons_zero, List.set_cons_succ, List.cons_append, List.nil_append, List.append_nil, wipeE, List.any_cons, List.any_nil, isK, Bool.or_false, Bool.false_or, Bool.or_true, Bool.true_or, Bool.not_true, Bool.not_false, if_true, if_false, Bool.false_eq_true, true_and, and_true, decide_eq_true_eq, id, reduceCtorEq, gEq_i, gNe_i, gEq_b, gNe_b, gEq_li, gNe_li, gEq_l0, gNe_l0, gEq_00, gNe_00, gEq_ti, gNe_ti, mEnum, Nat.zero_add, Nat.reduceAdd, Int.reduceEq, Int.cast_ofNat_Int, Nat.zero_le, sz1, sz2, sz3, sz4, sz5, sz6, decide_true, decide_false, sAugI, mPopAt, mApp, mExt, mGet, mDNew, sPar3, sFldAugM, mZip2, mZip3, sRaise0, mMethK, cutD, mLam]
  refine ⟨ns0, rfl, fun mx => ?_⟩
  simp only [sSeq, sSet, sSkip, sForget, sFor, sIf, sRet, sRetN, sDrop, sSetI, sAsg, sPar, sFldM, sAug, frzV, valE, mVar, mC, mOp, mUn, mCall, mFun, mMeth, mMake, mFld, mTst, mNotT, mNotV, mAndV, mOrV, mAndT, mOrT, mIte, mNil, mCons, mTup, mLst, mChain, mIter_ap, mIsi_ap, mRng1, mRng2, mLc, mYes, mCell, mRel, mSl, oNo, oSome,
  gN, gT, gsCons, gsNil, frz_d, frz_l, frz_k, gIx_p, onSet_p, onQ_p, onL_p, gLen_p, onIns_p, put_put, atD_0, atD_1, atD_2, atD_3, atD_4, ixN_0, ixN_1, ixN_2, ixN_3, ixN_4, List.length_cons, List.length_nil, onBl_b, onInt_i, onTup_t, on1_1, on2_2, onQ_l, onQ_t, onQ_s, onL_l, onLs_l, onLs_s, onD_d, onOpt_s, gII, gB, gAdd_i, gAdd_s, gAdd_t, gAdd_l, gMul_i, gMul_l, gMul_t, gSub, gMod, gDiv, gPow, gNeg, gIx_l, gIx_t, gIx_s, gLen_l, gLen_t, gLen_s, gLen_d, iterD_t, iterD_l, iterD_s,
  kind_i, kind_b, kind_s, kind_n, kind_t, kind_l, gIsN, isNon, gTuple, gList, gAll, gAny, gSum, gMin, gMax, gMin2, gMax2, gAbs, gInt, gSorted,
  List.getElem?_cons_zero, List.getElem?_cons_succ, List.getElem?_nil, List.set_cons_zero, List.set_cons_succ, List.cons_append, List.nil_append, List.append_nil, wipeE, List.any_cons, List.any_nil, isK, Bool.or_false, Bool.false_or, Bool.or_true, Bool.true_or, Bool.not_true, Bool.not_false, if_true, if_false, Bool.false_eq_true, true_and, and_true, decide_eq_true_eq, id, reduceCtorEq, gEq_i, gNe_i, gEq_b, gNe_b, gEq_li, gNe_li, gEq_l0, gNe_l0, gEq_00, gNe_00, gEq_ti, gNe_ti, mEnum, Nat.zero_add, Nat.reduceAdd, Int.reduceEq, Int.cast_ofNat_Int, Nat.zero_le, sz1, sz2, sz3, sz4, sz5, sz6, decide_true, decide_false, sAugI, mPopAt, mApp, mExt, mGet, mDNew, sPar3, sFldAugM, mZip2, mZip3, sRaise0, mMethK, cutD, mLam]
  intro r hr
  have R0 : RowAt (put h r (.lst [.scr ns0, .int 0, .int 0, .int mx])) r := ⟨_, _, _, _, put_same, by decide⟩
  generalize put h r (.lst [.scr ns0, .int 0, .int 0, .int mx]) = h0 at R0 ⊢
  refine ⟨by omega, r, 8, rfl, by decide, by decide, R0, fun v h1 v0 v1 f1 R1 => ?_⟩
  obtain ⟨p, ep, p1, p2, pr⟩ := prime_at v0 v1
  simp only [sSeq, sSet, sSkip, sForget, sFor, sIf, sRet, sRetN, sDrop, sSetI, sAsg, sPar, sFldM, sAug, frzV, valE, mVar, mC, mOp, mUn, mCall, mFun, mMeth, mMake, mFld, mTst, mNotT, mNotV, mAndV, mOrV, mAndT, mOrT, mIte, mNil, mCons, mTup, mLst, mChain, mIter_ap, mIsi_ap, mRng1, mRng2, mLc, mYes, mCell, mRel, mSl, oNo, oSome,
  gN, gT, gsCons, gsNil, frz_d, frz_l, frz_k, gIx_p, onSet_p, onQ_p, onL_p, gLen_p, onIns_p, put_put, atD_0, atD_1, atD_2, atD_3, atD_4, ixN_0, ixN_1, ixN_2, ixN_3, ixN_4, List.length_cons, List.length_nil, onBl_b, onInt_i, onTup_t, on1_1, on2_2, onQ_l, onQ_t, onQ_s, onL_l, onLs_l, onLs_s, onD_d, onOpt_s, gII, gB, gAdd_i, gAdd_s, gAdd_t, gAdd_l, gMul_i, gMul_l, gMul_t, gSub, gMod, gDiv, gPow, gNeg, gIx_l, gIx_t, gIx_s, gLen_l, gLen_t, gLen_s, gLen_d, iterD_t, iterD_l, iterD_s,
  kind_i, kind_b, kind_s, kind_n, kind_t, kind_l, gIsN, isNon, gTuple, gList, gAll, gAny, gSum, gMin, gMax, gMin2, gMax2, gAbs, gInt, gSorted,
  List.getElem?_cons_zero, List.getElem?_cons_succ, List.getElem?_nil, List.set_cons_zero, List.set_cons_succ, List.cons_append, List.nil_append, List.append_nil, wipeE, List.any_cons, List.any_nil, isK, Bool.or_false, Bool.false_or, Bool.or_true, Bool.true_or, Bool.not_true, Bool.not_false, if_true, if_false, Bool.false_eq_true, true_and, and_true, decide_eq_true_eq, id, reduceCtorEq, gEq_i, gNe_i, gEq_b, gNe_b, gEq_li, gNe_li, gEq_l0, gNe_l0, gEq_00, gNe_00, gEq_ti, gNe_ti, mEnum, Nat.zero_add, Nat.reduceAdd, Int.reduceEq, Int.cast_ofNat_Int, Nat.zero_le, sz1, sz2, sz3, sz4, sz5, sz6, decide_true, decide_false, sAugI, mPopAt, mApp, mExt, mGet, mDNew, sPar3, sFldAugM, mZip2, mZip3, sRaise0, mMethK, cutD, mLam, ep]
  generalize hm : (if (8 : Int) < p then (8 : Int) else p) = mn
  have m1 : 2 ≤ mn ∧ mn ≤ 8 ∧ mn ≤ p := by
    rw [← hm]
    split <;> omega
  refine ⟨r, mn, rfl, by omega, by omega, R1, fun v2 h2 a0 a1 f2 R2 => ?_⟩
  simp only [sSeq, sSet, sSkip, sForget, sFor, sIf, sRet, sRetN, sDrop, sSetI, sAsg, sPar, sFldM, sAug, frzV, valE, mVar, mC, mOp, mUn, mCall, mFun, mMeth, mMake, mFld, mTst, mNotT, mNotV, mAndV, mOrV, mAndT, mOrT, mIte, mNil, mCons, mTup, mLst, mChain, mIter_ap, mIsi_ap, mRng1, mRng2, mLc, mYes, mCell, mRel, mSl, oNo, oSome,
  gN, gT, gsCons, gsNil, frz_d, frz_l, frz_k, gIx_p, onSet_p, onQ_p, onL_p, gLen_p, onIns_p, put_put, atD_0, atD_1, atD_2, atD_3, atD_4, ixN_0, ixN_1, ixN_2, ixN_3, ixN_4, List.length_cons, List.length_nil, onBl_b, onInt_i, onTup_t, on1_1, on2_2, onQ_l, onQ_t, onQ_s, onL_l, onLs_l, onLs_s, onD_d, onOpt_s, gII, gB, gAdd_i, gAdd_s, gAdd_t, gAdd_l, gMul_i, gMul_l, gMul_t, gSub, gMod, gDiv, gPow, gNeg, gIx_l, gIx_t, gIx_s, gLen_l, gLen_t, gLen_s, gLen_d, iterD_t, iterD_l, iterD_s,
  kind_i, kind_b, kind_s, kind_n, kind_t, kind_l, gIsN, isNon, gTuple, gList, gAll, gAny, gSum, gMin, gMax, gMin2, gMax2, gAbs, gInt, gSorted,
  List.getElem?_cons_zero, List.getElem?_cons_succ, List.getElem?_nil, List.set_cons_zero, List.set_cons_succ, List.cons_append, List.nil_append, List.append_nil, wipeE, List.any_cons, List.any_nil, isK, Bool.or_false, Bool.false_or, Bool.or_true, Bool.true_or, Bool.not_true, Bool.not_false, if_true, if_false, Bool.false_eq_true, true_and, and_true, decide_eq_true_eq, id, reduceCtorEq, gEq_i, gNe_i, gEq_b, gNe_b, gEq_li, gNe_li, gEq_l0, gNe_l0, gEq_00, gNe_00, gEq_ti, gNe_ti, mEnum, Nat.zero_add, Nat.reduceAdd, Int.reduceEq, Int.cast_ofNat_Int, Nat.zero_le, sz1, sz2, sz3, sz4, sz5, sz6, decide_true, decide_false, sAugI, mPopAt, mApp, mExt, mGet, mDNew, sPar3, sFldAugM, mZip2, mZip3, sRaise0, mMethK, cutD, mLam]
  refine ⟨r, 6, rfl, by decide, by decide, R2, fun v3 h3 b0 b1 f3 R3 => ?_⟩
  simp only [sSeq, sSet, sSkip, sForget, sFor, sIf, sRet, sRetN, sDrop, sSetI, sAsg, sPar, sFldM, sAug, frzV, valE, mVar, mC, mOp, mUn, mCall, mFun, mMeth, mMake, mFld, mTst, mNotT, mNotV, mAndV, mOrV, mAndT, mOrT, mIte, mNil, mCons, mTup, mLst, mChain, mIter_ap, mIsi_ap, mRng1, mRng2, mLc, mYes, mCell, mRel, mSl, oNo, oSome,
  gN, gT, gsCons, gsNil, frz_d, frz_l, frz_k, gIx_p, onSet_p, onQ_p, onL_p, gLen_p, onIns_p, put_put, atD_0, atD_1, atD_2, atD_3, atD_4, ixN_0, ixN_1, ixN_2, ixN_3, ixN_4, List.length_cons, List.length_nil, onBl_b, onInt_i, onTup_t, on1_1, on2_2, onQ_l, onQ_t, onQ_s, onL_l, onLs_l, onLs_s, onD_d, onOpt_s, gII, gB, gAdd_i, gAdd_s, gAdd_t, gAdd_l, gMul_i, gMul_l, gMul_t, gSub, gMod, gDiv, gPow, gNeg, gIx_l, gIx_t, gIx_s, gLen_l, gLen_t, gLen_s, gLen_d, iterD_t, iterD_l, iterD_s,
  kind_i, kind_b, kind_s, kind_n, kind_t, kind_l, gIsN, isNon, gTuple, gList, gAll, gAny, gSum, gMin, gMax, gMin2, gMax2, gAbs, gInt, gSorted,
  List.getElem?_cons_zero, List.getElem?_cons_succ, List.getElem?_nil, List.set_cons_zero, List.set_cons_succ, List.cons_append, List.nil_append, List.append_nil, wipeE, List.any_cons, List.any_nil, isK, Bool.or_false, Bool.false_or, Bool.or_true, Bool.true_or, Bool.not_true, Bool.not_false, if_true, if_false, Bool.false_eq_true, true_and, and_true, decide_eq_true_eq, id, reduceCtorEq, gEq_i, gNe_i, gEq_b, gNe_b, gEq_li, gNe_li, gEq_l0, gNe_l0, gEq_00, gNe_00, gEq_ti, gNe_ti, mEnum, Nat.zero_add, Nat.reduceAdd, Int.reduceEq, Int.cast_ofNat_Int, Nat.zero_le, sz1, sz2, sz3, sz4, sz5, sz6, decide_true, decide_false, sAugI, mPopAt, mApp, mExt, mGet, mDNew, sPar3, sFldAugM, mZip2, mZip3, sRaise0, mMethK, cutD, mLam]
  have ok : LineOk (1 + v2) (1 + v3) p := ⟨by omega, by omega, by omega, by omega, by omega, p2, pr⟩
  generalize 1 + v2 = k at ok ⊢
  generalize 1 + v3 = w at ok ⊢
  have k1 := ok.k1
  have k2 := ok.k2
  have w1 := ok.w1
  have pk := ok.pk
  refine ⟨r, p - 1, rfl, by omega, by omega, R3, fun v4 h4 c0 c1 f4 R4 => ?_⟩
  simp only [sSeq, sSet, sSkip, sForget, sFor, sIf, sRet, sRetN, sDrop, sSetI, sAsg, sPar, sFldM, sAug, frzV, valE, mVar, mC, mOp, mUn, mCall, mFun, mMeth, mMake, mFld, mTst, mNotT, mNotV, mAndV, mOrV, mAndT, mOrT, mIte, mNil, mCons, mTup, mLst, mChain, mIter_ap, mIsi_ap, mRng1, mRng2, mLc, mYes, mCell, mRel, mSl, oNo, oSome,
  gN, gT, gsCons, gsNil, frz_d, frz_l, frz_k, gIx_p, onSet_p, onQ_p, onL_p, gLen_p, onIns_p, put_put, atD_0, atD_1, atD_2, atD_3, atD_4, ixN_0, ixN_1, ixN_2, ixN_3, ixN_4, List.length_cons, List.length_nil, onBl_b, onInt_i, onTup_t, on1_1, on2_2, onQ_l, onQ_t, onQ_s, onL_l, onLs_l, onLs_s, onD_d, onOpt_s, gII, gB, gAdd_i, gAdd_s, gAdd_t, gAdd_l, gMul_i, gMul_l, gMul_t, gSub, gMod, gDiv, gPow, gNeg, gIx_l, gIx_t, gIx_s, gLen_l, gLen_t, gLen_s, gLen_d, iterD_t, iterD_l, iterD_s,
  kind_i, kind_b, kind_s, kind_n, kind_t, kind_l, gIsN, isNon, gTuple, gList, gAll, gAny, gSum, gMin, gMax, gMin2, gMax2, gAbs, gInt, gSorted,
  List.getElem?_cons_zero, List.getElem?_cons_succ, List.getElem?_nil, List.set_cons_zero, List.set_cons_succ, List.cons_append, List.nil_append, List.append_nil, wipeE, List.any_cons, List.any_nil, isK, Bool.or_false, Bool.false_or, Bool.or_true, Bool.true_or, Bool.not_true, Bool.not_false, if_true, if_false, Bool.false_eq_true, true_and, and_true, decide_eq_true_eq, id, reduceCtorEq, gEq_i, gNe_i, gEq_b, gNe_b, gEq_li, gNe_li, gEq_l0, gNe_l0, gEq_00, gNe_00, gEq_ti, gNe_ti, mEnum, Nat.zero_add, Nat.reduceAdd, Int.reduceEq, Int.cast_ofNat_Int, Nat.zero_le, sz1, sz2, sz3, sz4, sz5, sz6, decide_true, decide_false, sAugI, mPopAt, mApp, mExt, mGet, mDNew, sPar3, sFldAugM, mZip2, mZip3, sRaise0, mMethK, cutD, mLam]
  refine ⟨r, p, rfl, by omega, by omega, R4, fun m h5 d0 d1 f5 R5 => ?_⟩
  have t1 : 1 ≤ 1 + v4 := by omega
  have t2 : 1 + v4 < p := by omega
  simp only [sSeq, sSet, sSkip, sForget, sFor, sIf, sRet, sRetN, sDrop, sSetI, sAsg, sPar, sFldM, sAug, frzV, valE, mVar, mC, mOp, mUn, mCall, mFun, mMeth, mMake, mFld, mTst, mNotT, mNotV, mAndV, mOrV, mAndT, mOrT, mIte, mNil, mCons, mTup, mLst, mChain, mIter_ap, mIsi_ap, mRng1, mRng2, mLc, mYes, mCell, mRel, mSl, oNo, oSome,
  gN, gT, gsCons, gsNil, frz_d, frz_l, frz_k, gIx_p, onSet_p, onQ_p, onL_p, gLen_p, onIns_p, put_put, atD_0, atD_1, atD_2, atD_3, atD_4, ixN_0, ixN_1, ixN_2, ixN_3, ixN_4, List.length_cons, List.length_nil, onBl_b, onInt_i, onTup_t, on1_1, on2_2, onQ_l, onQ_t, onQ_s, onL_l, onLs_l, onLs_s, onD_d, onOpt_s, gII, gB, gAdd_i, gAdd_s, gAdd_t, gAdd_l, gMul_i, gMul_l, gMul_t, gSub, gMod, gDiv, gPow, gNeg, gIx_l, gIx_t, gIx_s, gLen_l, gLen_t, gLen_s, gLen_d, iterD_t, iterD_l, iterD_s,
  kind_i, kind_b, kind_s, kind_n, kind_t, kind_l, gIsN, isNon, gTuple, gList, gAll, gAny, gSum, gMin, gMax, gMin2, gMax2, gAbs, gInt, gSorted,
  List.getElem?_cons_zero, List.getElem?_cons_succ, List.getElem?_nil, List.set_cons_zero, List.set_cons_succ, List.cons_append, List.nil_append, List.append_nil, wipeE, List.any_cons, List.any_nil, isK, Bool.or_false, Bool.false_or, Bool.or_true, Bool.true_or, Bool.not_true, Bool.not_false, if_true, if_false, Bool.false_eq_true, true_and, and_true, decide_eq_true_eq, id, reduceCtorEq, gEq_i, gNe_i, gEq_b, gNe_b, gEq_li, gNe_li, gEq_l0, gNe_l0, gEq_00, gNe_00, gEq_ti, gNe_ti, mEnum, Nat.zero_add, Nat.reduceAdd, Int.reduceEq, Int.cast_ofNat_Int, Nat.zero_le, sz1, sz2, sz3, sz4, sz5, sz6, decide_true, decide_false, sAugI, mPopAt, mApp, mExt, mGet, mDNew, sPar3, sFldAugM, mZip2, mZip3, sRaise0, mMethK, cutD, mLam]
  generalize 1 + v4 = t at t1 t2 ⊢
  refine ⟨⟨by omega, by omega⟩, ?_⟩
  refine lc_mapA (List.range k.toNat) (fun i : Nat => D.int (0 + (i : Int))) (fun i => .int ((t * (i : Int) + m) % p % w)) (by rw [List.length_range]; omega) ?_ ?_
  · intro i hi acc kc ha q
    simp only [sSeq, sSet, sSkip, sForget, sFor, sIf, sRet, sRetN, sDrop, sSetI, sAsg, sPar, sFldM, sAug, frzV, valE, mVar, mC, mOp, mUn, mCall, mFun, mMeth, mMake, mFld, mTst, mNotT, mNotV, mAndV, mOrV, mAndT, mOrT, mIte, mNil, mCons, mTup, mLst, mChain, mIter_ap, mIsi_ap, mRng1, mRng2, mLc, mYes, mCell, mRel, mSl, oNo, oSome,
  gN, gT, gsCons, gsNil, frz_d, frz_l, frz_k, gIx_p, onSet_p, onQ_p, onL_p, gLen_p, onIns_p, put_put, atD_0, atD_1, atD_2, atD_3, atD_4, ixN_0, ixN_1, ixN_2, ixN_3, ixN_4, List.length_cons, List.length_nil, onBl_b, onInt_i, onTup_t, on1_1, on2_2, onQ_l, onQ_t, onQ_s, onL_l, onLs_l, onLs_s, onD_d, onOpt_s, gII, gB, gAdd_i, gAdd_s, gAdd_t, gAdd_l, gMul_i, gMul_l, gMul_t, gSub, gMod, gDiv, gPow, gNeg, gIx_l, gIx_t, gIx_s, gLen_l, gLen_t, gLen_s, gLen_d, iterD_t, iterD_l, iterD_s,
  kind_i, kind_b, kind_s, kind_n, kind_t, kind_l, gIsN, isNon, gTuple, gList, gAll, gAny, gSum, gMin, gMax, gMin2, gMax2, gAbs, gInt, gSorted,
  List.getElem?_cons_zero, List.getElem?_cons_succ, List.getElem?_nil, List.set_cons_zero, List.set_cons_succ, List.cons_append, List.nil_append, List.append_nil, wipeE, List.any_cons, List.any_nil, isK, Bool.or_false, Bool.false_or, Bool.or_true, Bool.true_or, Bool.not_true, Bool.not_false, if_true, if_false, Bool.false_eq_true, true_and, and_true, decide_eq_true_eq, id, reduceCtorEq, gEq_i, gNe_i, gEq_b, gNe_b, gEq_li, gNe_li, gEq_l0, gNe_l0, gEq_00, gNe_00, gEq_ti, gNe_ti, mEnum, Nat.zero_add, Nat.reduceAdd, Int.reduceEq, Int.cast_ofNat_Int, Nat.zero_le, sz1, sz2, sz3, sz4, sz5, sz6, decide_true, decide_false, sAugI, mPopAt, mApp, mExt, mGet, mDNew, sPar3, sFldAugM, mZip2, mZip3, sRaise0, mMethK, cutD, mLam, Int.zero_add]
    exact ⟨.inl (.inl ⟨by omega, by omega⟩), by omega, by omega, ha, q⟩
  have e : (List.range k.toNat).map (fun i : Nat => D.int ((t * (i : Int) + m) % p % w)) = (lineI k w p t m).map D.int := by
    rw [lineI, List.map_map]
    rfl
  rw [e]
  refine ⟨_, _, _, _, _, rfl, by simp [kindD], by simp [kindD], by simp [kindD], by simp [kindD], by simp [kindD], .inl ⟨k, w, p, t, m, rfl, rfl, rfl, rfl, rfl, ok, t1, t2, d0, d1, ?_⟩⟩
  simp only [sSeq, sSet, sSkip, sForget, sFor, sIf, sRet, sRetN, sDrop, sSetI, sAsg, sPar, sFldM, sAug, frzV, valE, mVar, mC, mOp, mUn, mCall, mFun, mMeth, mMake, mFld, mTst, mNotT, mNotV, mAndV, mOrV, mAndT, mOrT, mIte, mNil, mCons, mTup, mLst, mChain, mIter_ap, mIsi_ap, mRng1, mRng2, mLc, mYes, mCell, mRel, mSl, oNo, oSome,
  gN, gT, gsCons, gsNil, frz_d, frz_l, frz_k, gIx_p, onSet_p, onQ_p, onL_p, gLen_p, onIns_p, put_put, atD_0, atD_1, atD_2, atD_3, atD_4, ixN_0, ixN_1, ixN_2, ixN_3, ixN_4, List.length_cons, List.length_nil, onBl_b, onInt_i, onTup_t, on1_1, on2_2, onQ_l, onQ_t, onQ_s, onL_l, onLs_l, onLs_s, onD_d, onOpt_s, gII, gB, gAdd_i, gAdd_s, gAdd_t, gAdd_l, gMul_i, gMul_l, gMul_t, gSub, gMod, gDiv, gPow, gNeg, gIx_l, gIx_t, gIx_s, gLen_l, gLen_t, gLen_s, gLen_d, iterD_t, iterD_l, iterD_s,
  kind_i, kind_b, kind_s, kind_n, kind_t, kind_l, gIsN, isNon, gTuple, gList, gAll, gAny, gSum, gMin, gMax, gMin2, gMax2, gAbs, gInt, gSorted,
  List.getElem?_cons_zero, List.getElem?_cons_succ, List.getElem?_nil, List.set_cons_zero, List.set_cons_succ, List.cons_append, List.nil_append, List.append_nil, wipeE, List.any_cons, List.any_nil, isK, Bool.or_false, Bool.false_or, Bool.or_true, Bool.true_or, Bool.not_true, Bool.not_false, if_true, if_false, Bool.false_eq_true, true_and, and_true, decide_eq_true_eq, id, reduceCtorEq, gEq_i, gNe_i, gEq_b, gNe_b, gEq_li, gNe_li, gEq_l0, gNe_l0, gEq_00, gNe_00, gEq_ti, gNe_ti, mEnum, Nat.zero_add, Nat.reduceAdd, Int.reduceEq, Int.cast_ofNat_Int, Nat.zero_le, sz1, sz2, sz3, sz4, sz5, sz6, decide_true, decide_false, sAugI, mPopAt, mApp, mExt, mGet, mDNew, sPar3, sFldAugM, mZip2, mZip3, sRaise0, mMethK, cutD, mLam]
  have al : alD 5 (.tup ((lineI k w p t m).map D.int)) = true := by
    have ll : (lineI k w p t m).length ≤ 16 := by
      simp [lineI]
      omega
    simp only [alD, Bool.and_eq_true, decide_eq_true_eq, List.length_map, List.all_eq_true]
    refine ⟨by omega, fun d hd => ?_⟩
    obtain ⟨v, _, rfl⟩ := List.mem_map.mp hd
    rfl
  refine ⟨_, _, rfl, rfl, by decide, al, ?_⟩
  simp only [sSeq, sSet, sSkip, sForget, sFor, sIf, sRet, sRetN, sDrop, sSetI, sAsg, sPar, sFldM, sAug, frzV, valE, mVar, mC, mOp, mUn, mCall, mFun, mMeth, mMake, mFld, mTst, mNotT, mNotV, mAndV, mOrV, mAndT, mOrT, mIte, mNil, mCons, mTup, mLst, mChain, mIter_ap, mIsi_ap, mRng1, mRng2, mLc, mYes, mCell, mRel, mSl, oNo, oSome,
  gN, gT, gsCons, gsNil, frz_d, frz_l, frz_k, gIx_p, onSet_p, onQ_p, onL_p, gLen_p, onIns_p, put_put, atD_0, atD_1, atD_2, atD_3, atD_4, ixN_0, ixN_1, ixN_2, ixN_3, ixN_4, List.length_cons, List.length_nil, onBl_b, onInt_i, onTup_t, on1_1, on2_2, onQ_l, onQ_t, onQ_s, onL_l, onLs_l, onLs_s, onD_d, onOpt_s, gII, gB, gAdd_i, gAdd_s, gAdd_t, gAdd_l, gMul_i, gMul_l, gMul_t, gSub, gMod, gDiv, gPow, gNeg, gIx_l, gIx_t, gIx_s, gLen_l, gLen_t, gLen_s, gLen_d, iterD_t, iterD_l, iterD_s,
  kind_i, kind_b, kind_s, kind_n, kind_t, kind_l, gIsN, isNon, gTuple, gList, gAll, gAny, gSum, gMin, gMax, gMin2, gMax2, gAbs, gInt, gSorted,
  List.getElem?_cons_zero, List.getElem?_cons_succ, List.getElem?_nil, List.set_cons_zero, List.set_cons_succ, List.cons_append, List.nil_append, List.append_nil, wipeE, List.any_cons, List.any_nil, isK, Bool.or_false, Bool.false_or, Bool.or_true, Bool.true_or, Bool.not_true, Bool.not_false, if_true, if_false, Bool.false_eq_true, true_and, and_true, decide_eq_true_eq, id, reduceCtorEq, gEq_i, gNe_i, gEq_b, gNe_b, gEq_li, gNe_li, gEq_l0, gNe_l0, gEq_00, gNe_00, gEq_ti, gNe_ti, mEnum, Nat.zero_add, Nat.reduceAdd, Int.reduceEq, Int.cast_ofNat_Int, Nat.zero_le, sz1, sz2, sz3, sz4, sz5, sz6, decide_true, decide_false, sAugI, mPopAt, mApp, mExt, mGet, mDNew, sPar3, sFldAugM, mZip2, mZip3, sRaise0, mMethK, cutD, mLam]
  refine ⟨r, k, rfl, k1, k2, R5, fun ms h6 mb f6 R6 => ?_⟩
  simp only [sSeq, sSet, sSkip, sForget, sFor, sIf, sRet, sRetN, sDrop, sSetI, sAsg, sPar, sFldM, sAug, frzV, valE, mVar, mC, mOp, mUn, mCall, mFun, mMeth, mMake, mFld, mTst, mNotT, mNotV, mAndV, mOrV, mAndT, mOrT, mIte, mNil, mCons, mTup, mLst, mChain, mIter_ap, mIsi_ap, mRng1, mRng2, mLc, mYes, mCell, mRel, mSl, oNo, oSome,
  gN, gT, gsCons, gsNil, frz_d, frz_l, frz_k, gIx_p, onSet_p, onQ_p, onL_p, gLen_p, onIns_p, put_put, atD_0, atD_1, atD_2, atD_3, atD_4, ixN_0, ixN_1, ixN_2, ixN_3, ixN_4, List.length_cons, List.length_nil, onBl_b, onInt_i, onTup_t, on1_1, on2_2, onQ_l, onQ_t, onQ_s, onL_l, onLs_l, onLs_s, onD_d, onOpt_s, gII, gB, gAdd_i, gAdd_s, gAdd_t, gAdd_l, gMul_i, gMul_l, gMul_t, gSub, gMod, gDiv, gPow, gNeg, gIx_l, gIx_t, gIx_s, gLen_l, gLen_t, gLen_s, gLen_d, iterD_t, iterD_l, iterD_s,
  kind_i, kind_b, kind_s, kind_n, kind_t, kind_l, gIsN, isNon, gTuple, gList, gAll, gAny, gSum, gMin, gMax, gMin2, gMax2, gAbs, gInt, gSorted,
  List.getElem?_cons_zero, List.getElem?_cons_succ, List.getElem?_nil, List.set_cons_zero, List.set_cons_succ, List.cons_append, List.nil_append, List.append_nil, wipeE, List.any_cons, List.any_nil, isK, Bool.or_false, Bool.false_or, Bool.or_true, Bool.true_or, Bool.not_true, Bool.not_false, if_true, if_false, Bool.false_eq_true, true_and, and_true, decide_eq_true_eq, id, reduceCtorEq, gEq_i, gNe_i, gEq_b, gNe_b, gEq_li, gNe_li, gEq_l0, gNe_l0, gEq_00, gNe_00, gEq_ti, gNe_ti, mEnum, Nat.zero_add, Nat.reduceAdd, Int.reduceEq, Int.cast_ofNat_Int, Nat.zero_le, sz1, sz2, sz3, sz4, sz5, sz6, decide_true, decide_false, sAugI, mPopAt, mApp, mExt, mGet, mDNew, sPar3, sFldAugM, mZip2, mZip3, sRaise0, mMethK, cutD, mLam]
  refine ⟨⟨by omega, by omega⟩, ?_⟩
  refine lc_filA (List.range k.toNat) (fun i : Nat => D.int (0 + (i : Int))) (fun i => decide (¬ (0 + (i : Int)) ∈ ms)) (by rw [List.length_range]; omega) ?_ ?_
  · intro i hi acc kc ha q
    simp only [sSeq, sSet, sSkip, sForget, sFor, sIf, sRet, sRetN, sDrop, sSetI, sAsg, sPar, sFldM, sAug, frzV, valE, mVar, mC, mOp, mUn, mCall, mFun, mMeth, mMake, mFld, mTst, mNotT, mNotV, mAndV, mOrV, mAndT, mOrT, mIte, mNil, mCons, mTup, mLst, mChain, mIter_ap, mIsi_ap, mRng1, mRng2, mLc, mYes, mCell, mRel, mSl, oNo, oSome,
  gN, gT, gsCons, gsNil, frz_d, frz_l, frz_k, gIx_p, onSet_p, onQ_p, onL_p, gLen_p, onIns_p, put_put, atD_0, atD_1, atD_2, atD_3, atD_4, ixN_0, ixN_1, ixN_2, ixN_3, ixN_4, List.length_cons, List.length_nil, onBl_b, onInt_i, onTup_t, on1_1, on2_2, onQ_l, onQ_t, onQ_s, onL_l, onLs_l, onLs_s, onD_d, onOpt_s, gII, gB, gAdd_i, gAdd_s, gAdd_t, gAdd_l, gMul_i, gMul_l, gMul_t, gSub, gMod, gDiv, gPow, gNeg, gIx_l, gIx_t, gIx_s, gLen_l, gLen_t, gLen_s, gLen_d, iterD_t, iterD_l, iterD_s,
  kind_i, kind_b, kind_s, kind_n, kind_t, kind_l, gIsN, isNon, gTuple, gList, gAll, gAny, gSum, gMin, gMax, gMin2, gMax2, gAbs, gInt, gSorted,
  List.getElem?_cons_zero, List.getElem?_cons_succ, List.getElem?_nil, List.set_cons_zero, List.set_cons_succ, List.cons_append, List.nil_append, List.append_nil, wipeE, List.any_cons, List.any_nil, isK, Bool.or_false, Bool.false_or, Bool.or_true, Bool.true_or, Bool.not_true, Bool.not_false, if_true, if_false, Bool.false_eq_true, true_and, and_true, decide_eq_true_eq, id, reduceCtorEq, gEq_i, gNe_i, gEq_b, gNe_b, gEq_li, gNe_li, gEq_l0, gNe_l0, gEq_00, gNe_00, gEq_ti, gNe_ti, mEnum, Nat.zero_add, Nat.reduceAdd, Int.reduceEq, Int.cast_ofNat_Int, Nat.zero_le, sz1, sz2, sz3, sz4, sz5, sz6, decide_true, decide_false, sAugI, mPopAt, mApp, mExt, mGet, mDNew, sPar3, sFldAugM, mZip2, mZip3, sRaise0, mMethK, cutD, mLam, gIn_t, fl_ints, inD_ints]
    by_cases c : (0 + (i : Int)) ∈ ms
    · rw [if_neg (by simpa using c)] at q
      simp only [c, sSeq, sSet, sSkip, sForget, sFor, sIf, sRet, sRetN, sDrop, sSetI, sAsg, sPar, sFldM, sAug, frzV, valE, mVar, mC, mOp, mUn, mCall, mFun, mMeth, mMake, mFld, mTst, mNotT, mNotV, mAndV, mOrV, mAndT, mOrT, mIte, mNil, mCons, mTup, mLst, mChain, mIter_ap, mIsi_ap, mRng1, mRng2, mLc, mYes, mCell, mRel, mSl, oNo, oSome,
  gN, gT, gsCons, gsNil, frz_d, frz_l, frz_k, gIx_p, onSet_p, onQ_p, onL_p, gLen_p, onIns_p, put_put, atD_0, atD_1, atD_2, atD_3, atD_4, ixN_0, ixN_1, ixN_2, ixN_3, ixN_4, List.length_cons, List.length_nil, onBl_b, onInt_i, onTup_t, on1_1, on2_2, onQ_l, onQ_t, onQ_s, onL_l, onLs_l, onLs_s, onD_d, onOpt_s, gII, gB, gAdd_i, gAdd_s, gAdd_t, gAdd_l, gMul_i, gMul_l, gMul_t, gSub, gMod, gDiv, gPow, gNeg, gIx_l, gIx_t, gIx_s, gLen_l, gLen_t, gLen_s, gLen_d, iterD_t, iterD_l, iterD_s,
  kind_i, kind_b, kind_s, kind_n, kind_t, kind_l, gIsN, isNon, gTuple, gList, gAll, gAny, gSum, gMin, gMax, gMin2, gMax2, gAbs, gInt, gSorted,
  List.getElem?_cons_zero, List.getElem?_cons_succ, List.getElem?_nil, List.set_cons_zero, List.set_cons_succ, List.cons_append, List.nil_append, List.append_nil, wipeE, List.any_cons, List.any_nil, isK, Bool.or_false, Bool.false_or, Bool.or_true, Bool.true_or, Bool.not_true, Bool.not_false, if_true, if_false, Bool.false_eq_true, true_and, and_true, decide_eq_true_eq, id, reduceCtorEq, gEq_i, gNe_i, gEq_b, gNe_b, gEq_li, gNe_li, gEq_l0, gNe_l0, gEq_00, gNe_00, gEq_ti, gNe_ti, mEnum, Nat.zero_add, Nat.reduceAdd, Int.reduceEq, Int.cast_ofNat_Int, Nat.zero_le, sz1, sz2, sz3, sz4, sz5, sz6, decide_true, decide_false, sAugI, mPopAt, mApp, mExt, mGet, mDNew, sPar3, sFldAugM, mZip2, mZip3, sRaise0, mMethK, cutD, mLam]
      exact ⟨rfl, q⟩
    · rw [if_pos (by simpa using c)] at q
      simp only [c, sSeq, sSet, sSkip, sForget, sFor, sIf, sRet, sRetN, sDrop, sSetI, sAsg, sPar, sFldM, sAug, frzV, valE, mVar, mC, mOp, mUn, mCall, mFun, mMeth, mMake, mFld, mTst, mNotT, mNotV, mAndV, mOrV, mAndT, mOrT, mIte, mNil, mCons, mTup, mLst, mChain, mIter_ap, mIsi_ap, mRng1, mRng2, mLc, mYes, mCell, mRel, mSl, oNo, oSome,
  gN, gT, gsCons, gsNil, frz_d, frz_l, frz_k, gIx_p, onSet_p, onQ_p, onL_p, gLen_p, onIns_p, put_put, atD_0, atD_1, atD_2, atD_3, atD_4, ixN_0, ixN_1, ixN_2, ixN_3, ixN_4, List.length_cons, List.length_nil, onBl_b, onInt_i, onTup_t, on1_1, on2_2, onQ_l, onQ_t, onQ_s, onL_l, onLs_l, onLs_s, onD_d, onOpt_s, gII, gB, gAdd_i, gAdd_s, gAdd_t, gAdd_l, gMul_i, gMul_l, gMul_t, gSub, gMod, gDiv, gPow, gNeg, gIx_l, gIx_t, gIx_s, gLen_l, gLen_t, gLen_s, gLen_d, iterD_t, iterD_l, iterD_s,
  kind_i, kind_b, kind_s, kind_n, kind_t, kind_l, gIsN, isNon, gTuple, gList, gAll, gAny, gSum, gMin, gMax, gMin2, gMax2, gAbs, gInt, gSorted,
  List.getElem?_cons_zero, List.getElem?_cons_succ, List.getElem?_nil, List.set_cons_zero, List.set_cons_succ, List.cons_append, List.nil_append, List.append_nil, wipeE, List.any_cons, List.any_nil, isK, Bool.or_false, Bool.false_or, Bool.or_true, Bool.true_or, Bool.not_true, Bool.not_false, if_true, if_false, Bool.false_eq_true, true_and, and_true, decide_eq_true_eq, id, reduceCtorEq, gEq_i, gNe_i, gEq_b, gNe_b, gEq_li, gNe_li, gEq_l0, gNe_l0, gEq_00, gNe_00, gEq_ti, gNe_ti, mEnum, Nat.zero_add, Nat.reduceAdd, Int.reduceEq, Int.cast_ofNat_Int, Nat.zero_le, sz1, sz2, sz3, sz4, sz5, sz6, decide_true, decide_false, sAugI, mPopAt, mApp, mExt, mGet, mDNew, sPar3, sFldAugM, mZip2, mZip3, sRaise0, mMethK, cutD, mLam]
      exact ⟨rfl, ha, q⟩
  have e9 : ((List.range k.toNat).filter fun i : Nat => decide (¬ (0 + (i : Int)) ∈ ms)).map (fun i : Nat => D.int (0 + (i : Int))) = (((List.range k.toNat).filter fun i : Nat => decide (¬ (0 + (i : Int)) ∈ ms)).map fun i : Nat => 0 + (i : Int)).map D.int := by rw [List.map_map]; rfl
  rw [e9]
  have ho : ∀ o ∈ ((List.range k.toNat).filter fun i : Nat => decide (¬ (0 + (i : Int)) ∈ ms)).map (fun i : Nat => 0 + (i : Int)), 0 ≤ o ∧ o < k ∧ o ∉ ms := fun o ho => by
    obtain ⟨i, hi, rfl⟩ := List.mem_map.mp ho
    obtain ⟨h1, h2⟩ := List.mem_filter.mp hi
    have h1 := List.mem_range.mp h1
    exact ⟨by omega, by omega, of_decide_eq_true h2⟩
  have ol : (((List.range k.toNat).filter fun i : Nat => decide (¬ (0 + (i : Int)) ∈ ms)).map (fun i : Nat => 0 + (i : Int))).length ≤ 16 := by
    rw [List.length_map]
    refine Nat.le_trans (List.length_filter_le _ _) ?_
    rw [List.length_range]
    omega
  generalize ((List.range k.toNat).filter fun i : Nat => decide (¬ (0 + (i : Int)) ∈ ms)).map (fun i : Nat => 0 + (i : Int)) = os at ho ol ⊢
  have fin2 : ∀ h', (bodyN Kn Kx).rt (.d (.bl true)) h' := fun h' => bodyN_rt0 (fin h')
  by_cases on : os = []
  · simp only [sSeq, sSet, sSkip, sForget, sFor, sIf, sRet, sRetN, sDrop, sSetI, sAsg, sPar, sFldM, sAug, frzV, valE, mVar, mC, mOp, mUn, mCall, mFun, mMeth, mMake, mFld, mTst, mNotT, mNotV, mAndV, mOrV, mAndT, mOrT, mIte, mNil, mCons, mTup, mLst, mChain, mIter_ap, mIsi_ap, mRng1, mRng2, mLc, mYes, mCell, mRel, mSl, oNo, oSome,
  gN, gT, gsCons, gsNil, frz_d, frz_l, frz_k, gIx_p, onSet_p, onQ_p, onL_p, gLen_p, onIns_p, put_put, atD_0, atD_1, atD_2, atD_3, atD_4, ixN_0, ixN_1, ixN_2, ixN_3, ixN_4, List.length_cons, List.length_nil, onBl_b, onInt_i, onTup_t, on1_1, on2_2, onQ_l, onQ_t, onQ_s, onL_l, onLs_l, onLs_s, onD_d, onOpt_s, gII, gB, gAdd_i, gAdd_s, gAdd_t, gAdd_l, gMul_i, gMul_l, gMul_t, gSub, gMod, gDiv, gPow, gNeg, gIx_l, gIx_t, gIx_s, gLen_l, gLen_t, gLen_s, gLen_d, iterD_t, iterD_l, iterD_s,
  kind_i, kind_b, kind_s, kind_n, kind_t, kind_l, gIsN, isNon, gTuple, gList, gAll, gAny, gSum, gMin, gMax, gMin2, gMax2, gAbs, gInt, gSorted,
  List.getElem?_cons_zero, List.getElem?_cons_succ, List.getElem?_nil, List.set_cons_zero, List.set_cons_succ, List.cons_append, List.nil_append, List.append_nil, wipeE, List.any_cons, List.any_nil, isK, Bool.or_false, Bool.false_or, Bool.or_true, Bool.true_or, Bool.not_true, Bool.not_false, if_true, if_false, Bool.false_eq_true, true_and, and_true, decide_eq_true_eq, id, reduceCtorEq, gEq_i, gNe_i, gEq_b, gNe_b, gEq_li, gNe_li, gEq_l0, gNe_l0, gEq_00, gNe_00, gEq_ti, gNe_ti, mEnum, Nat.zero_add, Nat.reduceAdd, Int.reduceEq, Int.cast_ofNat_Int, Nat.zero_le, sz1, sz2, sz3, sz4, sz5, sz6, decide_true, decide_false, sAugI, mPopAt, mApp, mExt, mGet, mDNew, sPar3, sFldAugM, mZip2, mZip3, sRaise0, mMethK, cutD, mLam, gNe_l0, on]
    subst hT
    exact rd_end ok mb R6 fin2
  · simp only [sSeq, sSet, sSkip, sForget, sFor, sIf, sRet, sRetN, sDrop, sSetI, sAsg, sPar, sFldM, sAug, frzV, valE, mVar, mC, mOp, mUn, mCall, mFun, mMeth, mMake, mFld, mTst, mNotT, mNotV, mAndV, mOrV, mAndT, mOrT, mIte, mNil, mCons, mTup, mLst, mChain, mIter_ap, mIsi_ap, mRng1, mRng2, mLc, mYes, mCell, mRel, mSl, oNo, oSome,
  gN, gT, gsCons, gsNil, frz_d, frz_l, frz_k, gIx_p, onSet_p, onQ_p, onL_p, gLen_p, onIns_p, put_put, atD_0, atD_1, atD_2, atD_3, atD_4, ixN_0, ixN_1, ixN_2, ixN_3, ixN_4, List.length_cons, List.length_nil, onBl_b, onInt_i, onTup_t, on1_1, on2_2, onQ_l, onQ_t, onQ_s, onL_l, onLs_l, onLs_s, onD_d, onOpt_s, gII, gB, gAdd_i, gAdd_s, gAdd_t, gAdd_l, gMul_i, gMul_l, gMul_t, gSub, gMod, gDiv, gPow, gNeg, gIx_l, gIx_t, gIx_s, gLen_l, gLen_t, gLen_s, gLen_d, iterD_t, iterD_l, iterD_s,
  kind_i, kind_b, kind_s, kind_n, kind_t, kind_l, gIsN, isNon, gTuple, gList, gAll, gAny, gSum, gMin, gMax, gMin2, gMax2, gAbs, gInt, gSorted,
  List.getElem?_cons_zero, List.getElem?_cons_succ, List.getElem?_nil, List.set_cons_zero, List.set_cons_succ, List.cons_append, List.nil_append, List.append_nil, wipeE, List.any_cons, List.any_nil, isK, Bool.or_false, Bool.false_or, Bool.or_true, Bool.true_or, Bool.not_true, Bool.not_false, if_true, if_false, Bool.false_eq_true, true_and, and_true, decide_eq_true_eq, id, reduceCtorEq, gEq_i, gNe_i, gEq_b, gNe_b, gEq_li, gNe_li, gEq_l0, gNe_l0, gEq_00, gNe_00, gEq_ti, gNe_ti, mEnum, Nat.zero_add, Nat.reduceAdd, Int.reduceEq, Int.cast_ofNat_Int, Nat.zero_le, sz1, sz2, sz3, sz4, sz5, sz6, decide_true, decide_false, sAugI, mPopAt, mApp, mExt, mGet, mDNew, sPar3, sFldAugM, mZip2, mZip3, sRaise0, mMethK, cutD, mLam, gNe_l0, on]
    subst hS
    refine rd_some ok mb ho on ol R6 fun e10 e11 h' R' => ?_
    subst hT
    exact rd_end ok mb R' fin2
end M3
set_option Elab.async false
set_option linter.all false
set_option maxRecDepth 100000
set_option maxHeartbeats 4000000
namespace M3
open PySem PySem.Spec PyProof.Rows L2
def top (i : Nat) : Stmt := PySem.Challenge.pw_fewcells_k05_lines.main.body.getD i (.Pass ⟨0, 0, 0, 0⟩)
abbrev s_law_row : Stmt := top 25
theorem sc_law_row : FnScope ["_law_script", "_law_mixed", "_law_cell"] ["_law_script"] (defScope s_law_row) := ⟨rfl, rfl, rfl, by decide +kernel, rfl, by decide +kernel, by decide +kernel⟩
abbrev s_law_taken : Stmt := top 26
theorem sc_law_taken : FnScope ["_law_row_here", "_law_many", "_law_found", "_law_cell"] ["_law_row_here", "_law_many"] (defScope s_law_taken) := ⟨rfl, rfl, rfl, by decide +kernel, rfl, by decide +kernel, by decide +kernel⟩
abbrev s_is_number : Stmt := top 13
theorem sc_is_number : FnScope ["part", "low", "high"] ["part", "low", "high"] (defScope s_is_number) := ⟨rfl, rfl, rfl, by decide +kernel, rfl, by decide +kernel, by decide +kernel⟩
abbrev s_is_prime : Stmt := top 15
theorem sc_is_prime : FnScope ["number", "other"] ["number"] (defScope s_is_prime) := ⟨rfl, rfl, rfl, by decide +kernel, rfl, by decide +kernel, by decide +kernel⟩
abbrev s_need_line : Stmt := top 16
theorem sc_need_line : FnScope ["keys", "wide", "prime"] ["keys", "wide", "prime"] (defScope s_need_line) := ⟨rfl, rfl, rfl, by decide +kernel, rfl, by decide +kernel, by decide +kernel⟩
abbrev s_line_row : Stmt := top 14
theorem sc_line_row : FnScope ["keys", "wide", "prime", "times", "more", "key"] ["keys", "wide", "prime", "times", "more"] (defScope s_line_row) := ⟨rfl, rfl, rfl, by decide +kernel, rfl, by decide +kernel, by decide +kernel⟩
abbrev s_line : Stmt := top 17
theorem sc_line : FnScope ["keys", "wide", "prime", "times", "more"] ["keys", "wide", "prime", "times", "more"] (defScope s_line) := ⟨rfl, rfl, rfl, by decide +kernel, rfl, by decide +kernel, by decide +kernel⟩
abbrev s_law_alike : Stmt := top 27
theorem sc_law_alike : FnScope ["_law_found", "_law_due", "_law_same_kind", "_law_k"] ["_law_found", "_law_due"] (defScope s_law_alike) := ⟨rfl, rfl, rfl, by decide +kernel, rfl, by decide +kernel, by decide +kernel⟩
abbrev s_law_members : Stmt := top 28
theorem sc_law_members : FnScope ["_law_row_here", "_law_keys", "_law_key"] ["_law_row_here", "_law_keys"] (defScope s_law_members) := ⟨rfl, rfl, rfl, by decide +kernel, rfl, by decide +kernel, by decide +kernel⟩
abbrev s_need_members : Stmt := top 22
theorem sc_need_members : FnScope ["keys", "members", "ahead", "number", "key"] ["keys", "members"] (defScope s_need_members) := ⟨rfl, rfl, rfl, by decide +kernel, rfl, by decide +kernel, by decide +kernel⟩
abbrev s_divisor : Stmt := top 19
theorem sc_divisor : FnScope ["one", "other"] ["one", "other"] (defScope s_divisor) := ⟨rfl, rfl, rfl, by decide +kernel, rfl, by decide +kernel, by decide +kernel⟩
abbrev s_part : Stmt := top 20
theorem sc_part : FnScope ["top", "under", "one"] ["top", "under"] (defScope s_part) := ⟨rfl, rfl, rfl, by decide +kernel, rfl, by decide +kernel, by decide +kernel⟩
abbrev s_line_share : Stmt := top 23
theorem sc_line_share : FnScope ["keys", "wide", "prime", "members", "key", "count", "times", "more", "row", "one"] ["keys", "wide", "prime", "members", "key"] (defScope s_line_share) := ⟨rfl, rfl, rfl, by decide +kernel, rfl, by decide +kernel, by decide +kernel⟩
abbrev s_law_gcd : Stmt := top 29
theorem sc_law_gcd : FnScope ["_law_one", "_law_other"] ["_law_one", "_law_other"] (defScope s_law_gcd) := ⟨rfl, rfl, rfl, by decide +kernel, rfl, by decide +kernel, by decide +kernel⟩
abbrev s_law_part : Stmt := top 30
theorem sc_law_part : FnScope ["_law_high_end", "_law_under", "_law_one"] ["_law_high_end", "_law_under"] (defScope s_law_part) := ⟨rfl, rfl, rfl, by decide +kernel, rfl, by decide +kernel, by decide +kernel⟩
abbrev s_law : Stmt := top 32
theorem sc_law : FnScope ["_law_script", "_law_row_here", "_law_prime", "_law_keys", "_law_cells", "_law_oft", "_law_more", "_law_due", "_law_members_here", "_law_others", "_law_key", "_law_count", "_law_a", "_law_b", "_law_mine", "_law_far", "_law_bad", "_law_works", "_law_work", "_law_one"] ["_law_script"] (defScope s_law) := ⟨rfl, rfl, rfl, by decide +kernel, rfl, by decide +kernel, by decide +kernel⟩
abbrev s_law_word : Stmt := top 31
theorem sc_law_word : FnScope ["_law_work", "_law_found", "_law_e", "_law_kinds", "_law_names", "_law_name"] ["_law_work"] (defScope s_law_word) := ⟨rfl, rfl, rfl, by decide +kernel, rfl, by decide +kernel, by decide +kernel⟩
abbrev s_BadCounts_init : Stmt := inClass (top 4) 0
theorem sc_BadCounts_init : FnScope ["self", "number"] ["self", "number"] (defScope s_BadCounts_init) := ⟨rfl, rfl, rfl, by decide +kernel, rfl, by decide +kernel, by decide +kernel⟩
/-! ### _law_word -/
abbrev NW : List Str := ["_law_work", "_law_found", "_law_e", "_law_kinds", "_law_names", "_law_name"]
theorem word_ok {P : Program} {w : World} {K : PySem.W.Frag} {mg : Str → Option Value} {base : Heap} {a : Ad} {g : Addr} {cdv : Value} (T : WF K mg a) {A : Around} {outer : List Env} {s : Shared} {H : Hp} {Q : VK} {f : Addr} (tl : XK → Hp → VK → Prop)
    (hr : Room 0 (A.deeper (envOfC "_law_word" (defScope s_law_word) s.heap.objs.size g cdv)))
    (act : ∀ (W : WX) (pn : List (Addr × Obj)) (xe : Value → Shared → Prop) (E : XK) (p1 p2 : Pos), Takes ((cxOf (L2.CX P w) P w K mg base NW "_law_word" (defScope s_law_word) g cdv A outer s H C8.E0).tr pn xe) W →
      PE ((cxOf (L2.CX P w) P w K mg base NW "_law_word" (defScope s_law_word) g cdv A outer s H C8.E0).tr pn xe) (.Call (.Name "_law_work" p1) [] [] p2) (fun σZ HZ Q => (∀ cls d H', E cls d H' → W cls d σZ H') ∧ σZ[0]? = some (some (.ref f)) ∧ tl E HZ Q))
    (mono : ∀ E H Q Q', (∀ v H', Q v H' → Q' v H') → tl E H Q → tl E H Q')
    (h : wordT a tl H Q) : ∃ t, PSs (cxOf (L2.CX P w) P w K mg base NW "_law_word" (defScope s_law_word) g cdv A outer s H C8.E0) (defBody s_law_word) t ∧ t { nx := fun _ H' => Q .non H', rt := Q } (L2.start NW [.ref f]) H := by
  have tk := takes_of (X := cxOf (L2.CX P w) P w K mg base NW "_law_word" (defScope s_law_word) g cdv A outer s H C8.E0) rfl rfl rfl rfl
  refine ⟨_, pss_cons (ps_set (i := 1) sc_law_word.nd rfl (Or.inl rfl) (pe_lst pa_nil)) (pss_cons (ps_try_as (i := 2) (tb := fun W D σ H => ∃ E : XK, (∀ cls d H', E cls d H' → W cls d σ H') ∧ σ[0]? = some (some (.ref f)) ∧ ∃ l, σ[1]? = some (some (.ref l)) ∧ H l = some (.lst []) ∧
      tl E H fun v H1 => H1 l = some (.lst []) ∧ D.nx σ (upd H1 l (.lst [v]))) rfl rfl sc_law_word.nd rfl rfl ⟨rfl, by decide, .inl T.gE⟩ tk (fun W pn xe tkW _ => ?body) (fun a0 oe cls d pn hz hf =>
      pss_cons (ps_set (i := 3) sc_law_word.nd rfl (Or.inl rfl) (pe_lst (pa_cons (pe_callB (isEK (K := K) rfl hz hf) (by rfl) T.zi (by decide +kernel) (pa_cons (pv 2) (pa_cons (pe_glob (v := .ref a.BadPlan) rfl T.g0 rfl) pa_nil))) (pa_cons (pe_callB (isEK (K := K) rfl hz hf) (by rfl) T.zi (by decide +kernel) (pa_cons (pv 2) (pa_cons (pe_glob (v := .ref a.BadKey) rfl T.g1 rfl) pa_nil))) (pa_cons (pe_callB (isEK (K := K) rfl hz hf) (by rfl) T.zi (by decide +kernel) (pa_cons (pv 2) (pa_cons (pe_glob (v := .ref a.BadCounts) rfl T.g2 rfl) pa_nil))) (pa_cons (pe_callB (isEK (K := K) rfl hz hf) (by rfl) T.zi (by decide +kernel) (pa_cons (pv 2) (pa_cons (pe_glob (v := .ref a.BadNumber) rfl T.g3 rfl) pa_nil))) pa_nil))))))
      (pss_cons (ps_set (i := 3) sc_law_word.nd rfl (Or.inl rfl) (pe_op op_cat (pv 3) (pe_lst (pa_cons (pe_callB (isEK (K := K) rfl hz hf) (by rfl) T.zi (by decide +kernel) (pa_cons (pv 2) (pa_cons (pe_glob (v := .ref a.BadMeet) rfl T.g4 rfl) pa_nil))) (pa_cons (pe_callB (isEK (K := K) rfl hz hf) (by rfl) T.zi (by decide +kernel) (pa_cons (pv 2) (pa_cons (pe_glob (v := .ref a.BadDeed) rfl T.g5 rfl) pa_nil))) (pa_cons (pe_callB (isEK (K := K) rfl hz hf) (by rfl) T.zi (by decide +kernel) (pa_cons (pv 2) (pa_cons (pe_glob (v := .ref a.Halted) rfl T.g6 rfl) pa_nil))) (pa_cons (pe_callB (isEK (K := K) rfl hz hf) (by rfl) T.zi (by decide +kernel) (pa_cons (pv 2) (pa_cons (pe_glob (v := .ref a.BadText) rfl T.g7 rfl) pa_nil))) pa_nil)))))))
      (pss_cons (ps_set (i := 4) sc_law_word.nd rfl (Or.inl rfl) (pe_lst (pa_cons pe_str (pa_cons pe_str (pa_cons pe_str (pa_cons pe_str (pa_cons pe_str (pa_cons pe_str (pa_cons pe_str (pa_cons pe_str pa_nil))))))))))
      (pss_cons (ps_if (PW.pt (pw_or (pt_cmpR op_ne (pe_bmK (K := K) rfl PySem.F.plainAttrs_list PySem.F.slot_list_count PySem.F.type_list_count (countK (K := K) rfl) (pv 3) (pa_cons pe_bl pa_nil)) pe_int (nomark _)) (pw_or1 (pt_not (pt_val (pe_callB (isEK (K := K) rfl hz hf) (by rfl) T.zi (by decide +kernel) (pa_cons (pv 2) (pa_cons (pe_bltn (v := .ty "ValueError") (by rfl) T.zv (by decide +kernel) rfl) pa_nil)))))))) (pss_one (ps_ret (pe_tup (pa_cons pe_str (pa_cons pe_non pa_nil))))) pss_nil)
      (pss_cons (ps_set (i := 5) sc_law_word.nd rfl (Or.inl rfl) (pe_ix (ixK (K := K) rfl) (pv 4) (pe_bmK (K := K) rfl PySem.F.plainAttrs_list PySem.F.slot_list_index PySem.F.type_list_index (indexK (K := K) rfl) (pv 3) (pa_cons pe_bl pa_nil)) (fun _ _ => rfl)))
      (pss_cons (ps_if (pt_cmpR op_eq (pv 5) pe_str (nomark _)) (pss_one (ps_ret (pe_tup (pa_cons (pv 5) (pa_cons (pe_tup (pa_cons (xfK (K := K) rfl hz hf (pv 2)) (pa_cons (xfK (K := K) rfl hz hf (pv 2)) pa_nil))) pa_nil))))) pss_nil)
      (pss_cons (ps_if (pt_cmpR op_eq (pv 5) pe_str (nomark _)) (pss_one (ps_ret (pe_tup (pa_cons (pv 5) (pa_cons (pe_tup (pa_cons (xfK (K := K) rfl hz hf (pv 2)) (pa_cons (xfK (K := K) rfl hz hf (pv 2)) pa_nil))) pa_nil))))) pss_nil)
      (pss_cons (ps_if (pt_cmpR op_eq (pv 5) pe_str (nomark _)) (pss_one (ps_ret (pe_tup (pa_cons (pv 5) (pa_cons (xfK (K := K) rfl hz hf (pv 2)) pa_nil))))) pss_nil)
      (pss_one (ps_ret (pe_ifExp (pt_cmpR (inSeqK (K := K) rfl) (pv 5) (pe_tup (pa_cons pe_str (pa_cons pe_str pa_nil))) (by rfl)) (pe_tup (pa_cons (pv 5) (pa_cons (xfK (K := K) rfl hz hf (pv 2)) pa_nil))) (pe_tup (pa_cons (pv 5) (pa_cons pe_non pa_nil)))))))))))))))
    (pss_one (ps_ret (pe_tup (pa_cons pe_str (pa_cons (pe_ix ix_list (pv 1) pe_int (fun _ _ => rfl)) pa_nil)))))), ?_⟩
  case body =>
    refine (pss_one (ps_expr (pe_bm PySem.F.plainAttrs_list PySem.F.slot_list_append PySem.F.type_list_append mt_append (pv 1) (pa_cons (⟨fun pins s σ H Q I z => by
      obtain ⟨E, hW, h0, h1⟩ := z
      exact (act W pn xe E _ _ tkW).run pins s σ H Q I ⟨hW, h0, h1⟩⟩ : PE _ _ (fun σ H Q => ∃ E : XK, (∀ cls d H', E cls d H' → W cls d σ H') ∧ σ[0]? = some (some (.ref f)) ∧ tl E H Q)) pa_nil)))).impM fun D σ H z => ?_
    obtain ⟨E, hW, h0, l, h1, h2, h3⟩ := z
    refine ⟨.ref l, h1, .inl ⟨rfl, _, SqL.of h2⟩, E, hW, h0, mono _ _ _ _ (fun v H' z => ?_) h3⟩
    exact ⟨l, [], v, rfl, rfl, z.1, by show 0 < sizeLine; decide, z.2⟩
  refine ⟨by show 0 ≤ sizeLine; decide, fun l hl => ?_⟩
  refine ⟨wordR a Q, ?caught, rfl, l, rfl, upd_same, mono _ _ _ _ (fun v H' z => ?_) (h l hl)⟩
  · intro cls d H' z
    obtain ⟨C, hC, e⟩ := wordR_cls z
    exact ⟨true, by rw [e]; exact (T.ok hC).m, fun _ a0 na => word_suite T z, fun h => nomatch h⟩
  · exact ⟨z.1, .ref l, rfl, l, [v], 0, v, rfl, rfl, SqL.of upd_same, atI_nat (j := 0) rfl, by show 2 ≤ sizeLine; decide, z.2⟩

theorem wok_ {P : Program} {w : World} {K : PySem.W.Frag} {mg : Str → Option Value} {base : Heap} {a : Ad} (T : WF K mg a) : WordOk P w K mg base a s_law_word "_law_e" := fun _ _ _ _ _ _ _ _ tl hr act mono h => word_ok T tl hr act mono h
def ltab_law : Nat → LamT
  | 0 => lamOf ((xE ((xS ((defBody s_law).getD 11 xS0)).getD 0 xE0)).getD 0 xE0)
  | 1 => lamOf ((xE ((xS ((defBody s_law).getD 11 xS0)).getD 0 xE0)).getD 1 xE0)
  | 2 => lamOf ((xE ((xE ((xS ((defBody s_law).getD 12 xS0)).getD 0 xE0)).getD 1 xE0)).getD 0 xE0)
  | 3 => lamOf ((xE ((xE ((xS ((defBody s_law).getD 13 xS0)).getD 0 xE0)).getD 1 xE0)).getD 0 xE0)
  | 4 => lamOf ((xE ((xE ((xS ((defBody s_law).getD 14 xS0)).getD 0 xE0)).getD 1 xE0)).getD 0 xE0)
  | 5 => lamOf ((xE ((xE ((xS ((defBody s_law).getD 15 xS0)).getD 0 xE0)).getD 1 xE0)).getD 0 xE0)
  | 6 => lamOf ((xE ((xS ((defBody s_law).getD 16 xS0)).getD 0 xE0)).getD 1 xE0)
  | 7 => lamOf ((xE ((xE ((xS ((defBody s_law).getD 18 xS0)).getD 0 xE0)).getD 0 xE0)).getD 1 xE0)
  | _ => lamOf xE0
def lx_law (X : Cx) : LX := ⟨"law" ++ ".<locals>." ++ "<lambda>", X.env.cells, ltab_law⟩
theorem ls_law_0 : LamS3 ["_law_script", "_law_row_here", "_law_prime", "_law_keys", "_law_cells", "_law_oft", "_law_more", "_law_due", "_law_members_here", "_law_others", "_law_key", "_law_count", "_law_a", "_law_b", "_law_mine", "_law_far", "_law_bad", "_law_works", "_law_work", "_law_one"] [12, 13] (defScope s_law) (ltab_law 0).scope := lamS3_by (by decide +kernel)
theorem lb_law_0 : LamBind (ltab_law 0) := .inl ⟨rfl, fun _ _ _ _ _ _ => rfl⟩
theorem ls_law_1 : LamS3 ["_law_script", "_law_row_here", "_law_prime", "_law_keys", "_law_cells", "_law_oft", "_law_more", "_law_due", "_law_members_here", "_law_others", "_law_key", "_law_count", "_law_a", "_law_b", "_law_mine", "_law_far", "_law_bad", "_law_works", "_law_work", "_law_one"] [12, 13] (defScope s_law) (ltab_law 1).scope := lamS3_by (by decide +kernel)
theorem lb_law_1 : LamBind (ltab_law 1) := .inr ⟨(fun h => nomatch h), "_law_a", by rfl, fun _ _ _ _ _ _ _ => ⟨_, rfl, fun _ => rfl⟩⟩
theorem ls_law_2 : LamS3 ["_law_script", "_law_row_here", "_law_prime", "_law_keys", "_law_cells", "_law_oft", "_law_more", "_law_due", "_law_members_here", "_law_others", "_law_key", "_law_count", "_law_a", "_law_b", "_law_mine", "_law_far", "_law_bad", "_law_works", "_law_work", "_law_one"] [12, 13] (defScope s_law) (ltab_law 2).scope := lamS3_by (by decide +kernel)
theorem lb_law_2 : LamBind (ltab_law 2) := .inr ⟨(fun h => nomatch h), "_law_b", by rfl, fun _ _ _ _ _ _ _ => ⟨_, rfl, fun _ => rfl⟩⟩
theorem ls_law_3 : LamS3 ["_law_script", "_law_row_here", "_law_prime", "_law_keys", "_law_cells", "_law_oft", "_law_more", "_law_due", "_law_members_here", "_law_others", "_law_key", "_law_count", "_law_a", "_law_b", "_law_mine", "_law_far", "_law_bad", "_law_works", "_law_work", "_law_one"] [12, 13] (defScope s_law) (ltab_law 3).scope := lamS3_by (by decide +kernel)
theorem lb_law_3 : LamBind (ltab_law 3) := .inr ⟨(fun h => nomatch h), "_law_c", by rfl, fun _ _ _ _ _ _ _ => ⟨_, rfl, fun _ => rfl⟩⟩
theorem ls_law_4 : LamS3 ["_law_script", "_law_row_here", "_law_prime", "_law_keys", "_law_cells", "_law_oft", "_law_more", "_law_due", "_law_members_here", "_law_others", "_law_key", "_law_count", "_law_a", "_law_b", "_law_mine", "_law_far", "_law_bad", "_law_works", "_law_work", "_law_one"] [12, 13] (defScope s_law) (ltab_law 4).scope := lamS3_by (by decide +kernel)
theorem lb_law_4 : LamBind (ltab_law 4) := .inr ⟨(fun h => nomatch h), "_law_e", by rfl, fun _ _ _ _ _ _ _ => ⟨_, rfl, fun _ => rfl⟩⟩
theorem ls_law_5 : LamS3 ["_law_script", "_law_row_here", "_law_prime", "_law_keys", "_law_cells", "_law_oft", "_law_more", "_law_due", "_law_members_here", "_law_others", "_law_key", "_law_count", "_law_a", "_law_b", "_law_mine", "_law_far", "_law_bad", "_law_works", "_law_work", "_law_one"] [12, 13] (defScope s_law) (ltab_law 5).scope := lamS3_by (by decide +kernel)
theorem lb_law_5 : LamBind (ltab_law 5) := .inr ⟨(fun h => nomatch h), "_law_f", by rfl, fun _ _ _ _ _ _ _ => ⟨_, rfl, fun _ => rfl⟩⟩
theorem ls_law_6 : LamS3 ["_law_script", "_law_row_here", "_law_prime", "_law_keys", "_law_cells", "_law_oft", "_law_more", "_law_due", "_law_members_here", "_law_others", "_law_key", "_law_count", "_law_a", "_law_b", "_law_mine", "_law_far", "_law_bad", "_law_works", "_law_work", "_law_one"] [12, 13] (defScope s_law) (ltab_law 6).scope := lamS3_by (by decide +kernel)
theorem lb_law_6 : LamBind (ltab_law 6) := .inr ⟨(fun h => nomatch h), "_law_g", by rfl, fun _ _ _ _ _ _ _ => ⟨_, rfl, fun _ => rfl⟩⟩
theorem ls_law_7 : LamS3 ["_law_script", "_law_row_here", "_law_prime", "_law_keys", "_law_cells", "_law_oft", "_law_more", "_law_due", "_law_members_here", "_law_others", "_law_key", "_law_count", "_law_a", "_law_b", "_law_mine", "_law_far", "_law_bad", "_law_works", "_law_work", "_law_one"] [12, 13] (defScope s_law) (ltab_law 7).scope := lamS3_by (by decide +kernel)
theorem lb_law_7 : LamBind (ltab_law 7) := .inl ⟨rfl, fun _ _ _ _ _ _ => rfl⟩
structure Fns where
  f_law_row : Addr
  fd_law_row : FuncData
  f_law_taken : Addr
  fd_law_taken : FuncData
  f_is_number : Addr
  fd_is_number : FuncData
  f_is_prime : Addr
  fd_is_prime : FuncData
  f_need_line : Addr
  fd_need_line : FuncData
  f_line_row : Addr
  fd_line_row : FuncData
  f_line : Addr
  fd_line : FuncData
  f_law_alike : Addr
  fd_law_alike : FuncData
  f_law_members : Addr
  fd_law_members : FuncData
  f_need_members : Addr
  fd_need_members : FuncData
  f_divisor : Addr
  fd_divisor : FuncData
  f_part : Addr
  fd_part : FuncData
  f_line_share : Addr
  fd_line_share : FuncData
  f_law_gcd : Addr
  fd_law_gcd : FuncData
  f_law_part : Addr
  fd_law_part : FuncData
  f_law : Addr
  fd_law : FuncData
  f_law_word : Addr
  fd_law_word : FuncData
  f_BadCounts_init : Addr
  fd_BadCounts_init : FuncData
  cc_law : Addr
  pt_law : Addr
structure Txt (K : Kf) (mg : Str → Option Value) (a : Ad) (n : Fns) : Prop where
  wf : WF K mg a
  code_law : n.fd_law.code = .ref n.cc_law
  zt_law : CT K n.pt_law ("law" ++ ".<locals>." ++ "<lambda>")
  F_law_row : Fun K "_law_row" "_law_row" s_law_row n.f_law_row n.fd_law_row
  b_law_row : Binds K n.fd_law_row ["_law_script"] []
  g_law_row : mg "_law_row" = some (.ref n.f_law_row)
  F_law_taken : Fun K "_law_taken" "_law_taken" s_law_taken n.f_law_taken n.fd_law_taken
  b_law_taken : Binds K n.fd_law_taken ["_law_row_here", "_law_many"] []
  g_law_taken : mg "_law_taken" = some (.ref n.f_law_taken)
  F_is_number : Fun K "is_number" "is_number" s_is_number n.f_is_number n.fd_is_number
  b_is_number : Binds K n.fd_is_number ["part", "low", "high"] []
  g_is_number : mg "is_number" = some (.ref n.f_is_number)
  F_is_prime : Fun K "is_prime" "is_prime" s_is_prime n.f_is_prime n.fd_is_prime
  b_is_prime : Binds K n.fd_is_prime ["number"] []
  g_is_prime : mg "is_prime" = some (.ref n.f_is_prime)
  F_need_line : Fun K "need_line" "need_line" s_need_line n.f_need_line n.fd_need_line
  b_need_line : Binds K n.fd_need_line ["keys", "wide", "prime"] []
  g_need_line : mg "need_line" = some (.ref n.f_need_line)
  F_line_row : Fun K "line_row" "line_row" s_line_row n.f_line_row n.fd_line_row
  b_line_row : Binds K n.fd_line_row ["keys", "wide", "prime", "times", "more"] []
  g_line_row : mg "line_row" = some (.ref n.f_line_row)
  F_line : Fun K "line" "line" s_line n.f_line n.fd_line
  b_line : Binds K n.fd_line ["keys", "wide", "prime", "times", "more"] []
  g_line : mg "line" = some (.ref n.f_line)
  F_law_alike : Fun K "_law_alike" "_law_alike" s_law_alike n.f_law_alike n.fd_law_alike
  b_law_alike : Binds K n.fd_law_alike ["_law_found", "_law_due"] []
  g_law_alike : mg "_law_alike" = some (.ref n.f_law_alike)
  F_law_members : Fun K "_law_members" "_law_members" s_law_members n.f_law_members n.fd_law_members
  b_law_members : Binds K n.fd_law_members ["_law_row_here", "_law_keys"] []
  g_law_members : mg "_law_members" = some (.ref n.f_law_members)
  F_need_members : Fun K "need_members" "need_members" s_need_members n.f_need_members n.fd_need_members
  b_need_members : Binds K n.fd_need_members ["keys", "members"] []
  g_need_members : mg "need_members" = some (.ref n.f_need_members)
  F_divisor : Fun K "divisor" "divisor" s_divisor n.f_divisor n.fd_divisor
  b_divisor : Binds K n.fd_divisor ["one", "other"] []
  g_divisor : mg "divisor" = some (.ref n.f_divisor)
  F_part : Fun K "part" "part" s_part n.f_part n.fd_part
  b_part : Binds K n.fd_part ["top", "under"] []
  g_part : mg "part" = some (.ref n.f_part)
  F_line_share : Fun K "line_share" "line_share" s_line_share n.f_line_share n.fd_line_share
  b_line_share : Binds K n.fd_line_share ["keys", "wide", "prime", "members", "key"] []
  g_line_share : mg "line_share" = some (.ref n.f_line_share)
  F_law_gcd : Fun K "_law_gcd" "_law_gcd" s_law_gcd n.f_law_gcd n.fd_law_gcd
  b_law_gcd : Binds K n.fd_law_gcd ["_law_one", "_law_other"] []
  g_law_gcd : mg "_law_gcd" = some (.ref n.f_law_gcd)
  F_law_part : Fun K "_law_part" "_law_part" s_law_part n.f_law_part n.fd_law_part
  b_law_part : Binds K n.fd_law_part ["_law_high_end", "_law_under"] []
  g_law_part : mg "_law_part" = some (.ref n.f_law_part)
  F_law : Fun K "law" "law" s_law n.f_law n.fd_law
  b_law : Binds K n.fd_law ["_law_script"] []
  g_law : mg "law" = some (.ref n.f_law)
  F_law_word : Fun K "_law_word" "_law_word" s_law_word n.f_law_word n.fd_law_word
  b_law_word : Binds K n.fd_law_word ["_law_work"] []
  g_law_word : mg "_law_word" = some (.ref n.f_law_word)
  F_BadCounts_init : Fun K "__init__" "BadCounts.__init__" s_BadCounts_init n.f_BadCounts_init n.fd_BadCounts_init
  b_BadCounts_init : Binds K n.fd_BadCounts_init ["self", "number"] []
  z_abs : mg "abs" = none
  z_all : mg "all" = none
  z_bool : mg "bool" = none
  z_enumerate : mg "enumerate" = none
  z_int : mg "int" = none
  z_isinstance : mg "isinstance" = none
  k_MOST_KEYS : ∃ t, mg "MOST_KEYS" = some (.int 16 t)
  k_MOST_WIDE : ∃ t, mg "MOST_WIDE" = some (.int 32 t)
  z_len : mg "len" = none
  z_list : mg "list" = none
  z_min : mg "min" = none
  z_range : mg "range" = none
  z_str : mg "str" = none
  z_tuple : mg "tuple" = none
  x0_BadNumber : X0 K a.BadNumber
  x1_BadCounts : X1 K a.BadCounts n.f_BadCounts_init ["number"]
  xb : XB K a.CellError
  gc_BadCounts : mg "BadCounts" = some (.ref a.BadCounts)
  gc_BadNumber : mg "BadNumber" = some (.ref a.BadNumber)
  gc_CellError : mg "CellError" = some (.ref a.CellError)
section
variable {P : Program} {w : World} {K : Kf} {mg : Str → Option Value} {base : Heap} {a : Ad} {n : Fns}
theorem oi_BadCounts (T : Txt K mg a n) : FnOk P w K mg base (L2.CX P w) 1 n.f_BadCounts_init n.fd_BadCounts_init ["self", "number"] (sp_oinit K ["number"]) :=
  T.F_BadCounts_init.okX sc_BadCounts_init (fun vs H Q E ⟨a, C, is, _, _, e, l, _⟩ => by rw [e, List.length_cons, List.length_map, l]; rfl) fun cdv A outer s H vs Q E hr ⟨a, C, is, o, nf, e, l, sm, hH, q⟩ => by
    subst e
    exact ⟨_, pss_cons (ps_expr (pe_cinit (by rfl) T.gc_CellError T.xb (pa_cons (pv 0) (pa_cons (pe_joined (.cons pe_str (.cons (pe_fmt (pv 1)) .nil))) pa_nil)))) (pss_one (ps_ost (pv 0) (pv 1))), oi_read1 (by decide) o nf l sm hH rfl q⟩
set_option maxHeartbeats 4000000 in
theorem d_law_row  (T : Txt K mg a n)  (cdv : Value) (A : Around) (outer : List Env) (s : Shared) (H : Hp) (E : XK) (hr : Room 0 (A.deeper (envOfC "_law_row" (defScope s_law_row) s.heap.objs.size n.f_law_row cdv))) : MB (cxOf (L2.CX P w) P w K mg base ["_law_script", "_law_mixed", "_law_cell"] "_law_row" (defScope s_law_row) n.f_law_row cdv A outer s H E) (WB E) (defBody s_law_row) (t_law_row a) := by
  have tk := takes_of (X := cxOf (L2.CX P w) P w K mg base ["_law_script", "_law_mixed", "_law_cell"] "_law_row" (defScope s_law_row) n.f_law_row cdv A outer s H E) rfl rfl rfl rfl
  exact mb_cons (ms_set (i := 1) sc_law_row.nd rfl (Or.inl rfl) (mv_int)) (
  mb_cons (ms_forget [2] (ms_for (ws := [2]) (passes_of rfl) rfl (mi_seq (mv_var (pv 0))) (mg_name (pg_name (i := 2) sc_law_row.nd rfl (Or.inl rfl))) (
   mb_forget [2] (mb_one (ms_set (i := 1) sc_law_row.nd rfl (Or.inl rfl) (mv (me_mod (mv (me_add (mv (me_add (mv (me_mul (mv_var (pv 1)) (mv_int))) (mv_var (pv 2)))) (mv_int))) (mv_int)))))))) (
  mb_one (ms_ret (me_lst (ma_cons (mv_var (pv 0)) (ma_cons (mv_int) (ma_cons (mv_int) (ma_cons (mv_var (pv 1)) (ma_nil)))))))))
set_option maxHeartbeats 4000000 in
theorem d_law_taken  (T : Txt K mg a n)  (cdv : Value) (A : Around) (outer : List Env) (s : Shared) (H : Hp) (E : XK) (hr : Room 0 (A.deeper (envOfC "_law_taken" (defScope s_law_taken) s.heap.objs.size n.f_law_taken cdv))) : MB (cxOf (L2.CX P w) P w K mg base ["_law_row_here", "_law_many", "_law_found", "_law_cell"] "_law_taken" (defScope s_law_taken) n.f_law_taken cdv A outer s H E) (WB E) (defBody s_law_taken) (t_law_taken a) := by
  have tk := takes_of (X := cxOf (L2.CX P w) P w K mg base ["_law_row_here", "_law_many", "_law_found", "_law_cell"] "_law_taken" (defScope s_law_taken) n.f_law_taken cdv A outer s H E) rfl rfl rfl rfl
  exact mb_cons (ms_forget [2] (ms_if (mt_cmp op_gt (has_int0 fun _ _ _ => .bl _) (mv (me_ix (hu_of hr) (mv_var (pv 0)) (mv_int))) (mv_int) (nomark _)) (mb_cons (ms_set (i := 2) sc_law_taken.nd rfl (Or.inl rfl) (mv (me_mod (mv (me_ix (hu_of hr) (mv_var (pv 0)) (mv_int))) (mv_var (pv 1))))) (
  mb_cons (ms_setI (hu_of hr) (mv_var (pv 0)) (mv_int) (mv (me_fdiv (mv (me_ix (hu_of hr) (mv_var (pv 0)) (mv_int))) (mv_var (pv 1))))) (
  mb_one (ms_ret (me (mv_var (pv 2))))))) (mb_nil))) (
  mb_cons (ms_forget [3] (ms_if (mt_cmp op_lt (has_int0 fun _ _ _ => .bl _) (mv (me_ix (hu_of hr) (mv_var (pv 0)) (mv_int))) (mv (me_callB call_lenA has_len (by rfl) T.z_len (by decide +kernel) (ma_cons (mv (me_ix (hu_of hr) (mv_var (pv 0)) (mv_int))) (ma_nil)))) (nomark _)) (mb_cons (ms_set (i := 3) sc_law_taken.nd rfl (Or.inl rfl) (mv (me_ix (hu_of hr) (mv (me_ix (hu_of hr) (mv_var (pv 0)) (mv_int))) (mv (me_ix (hu_of hr) (mv_var (pv 0)) (mv_int)))))) (
  mb_cons (ms_setI (hu_of hr) (mv_var (pv 0)) (mv_int) (mv (me_add (mv (me_ix (hu_of hr) (mv_var (pv 0)) (mv_int))) (mv_int)))) (
  mb_cons (ms_if (mt_cmp op_ge (has_int0 fun _ _ _ => .bl _) (mv_var (pv 3)) (mv (me_pow (mv_int) (mv_int))) (nomark _)) (mb_one (ms_setI (hu_of hr) (mv_var (pv 0)) (mv_int) (mv (me_fdiv (mv_var (pv 3)) (mv_var (pv 1)))))) (mb_nil)) (
  mb_one (ms_ret (me_mod (mv_var (pv 3)) (mv_var (pv 1)))))))) (mb_nil))) (
  mb_cons (ms_setI (hu_of hr) (mv_var (pv 0)) (mv_int) (mv (me_mod (mv (me_add (mv (me_mul (mv (me_ix (hu_of hr) (mv_var (pv 0)) (mv_int))) (mv_int))) (mv_int))) (mv_int)))) (
  mb_one (ms_ret (me_mod (mv (me_fdiv (mv (me_ix (hu_of hr) (mv_var (pv 0)) (mv_int))) (mv_int))) (mv_var (pv 1)))))))
set_option maxHeartbeats 4000000 in
theorem d_is_number  (T : Txt K mg a n)  (cdv : Value) (A : Around) (outer : List Env) (s : Shared) (H : Hp) (E : XK) (hr : Room 0 (A.deeper (envOfC "is_number" (defScope s_is_number) s.heap.objs.size n.f_is_number cdv))) : MB (cxOf (L2.CX P w) P w K mg base ["part", "low", "high"] "is_number" (defScope s_is_number) n.f_is_number cdv A outer s H E) (WB E) (defBody s_is_number) (t_is_number a) := by
  have tk := takes_of (X := cxOf (L2.CX P w) P w K mg base ["part", "low", "high"] "is_number" (defScope s_is_number) n.f_is_number cdv A outer s H E) rfl rfl rfl rfl
  exact mb_one (ms_ret (me (mv_and (mv_isi .int (by rfl) T.z_isinstance (by rfl) T.z_int (by decide +kernel) (mv_var (pv 0))) (mv_and (mv_notV (mv_isi .bool (by rfl) T.z_isinstance (by rfl) T.z_bool (by decide +kernel) (mv_var (pv 0)))) (mv_one (mv (me_chain op_le op_le (has_int0 fun _ _ _ => .bl _) (has_int0 fun _ _ _ => .bl _) (mv_var (pv 1)) (mv_var (pv 0)) (mv_var (pv 2)))))))))
set_option maxHeartbeats 4000000 in
theorem d_is_prime  (T : Txt K mg a n)  (cdv : Value) (A : Around) (outer : List Env) (s : Shared) (H : Hp) (E : XK) (hr : Room 0 (A.deeper (envOfC "is_prime" (defScope s_is_prime) s.heap.objs.size n.f_is_prime cdv))) : MB (cxOf (L2.CX P w) P w K mg base ["number", "other"] "is_prime" (defScope s_is_prime) n.f_is_prime cdv A outer s H E) (WB E) (defBody s_is_prime) (t_is_prime a) := by
  have tk := takes_of (X := cxOf (L2.CX P w) P w K mg base ["number", "other"] "is_prime" (defScope s_is_prime) n.f_is_prime cdv A outer s H E) rfl rfl rfl rfl
  exact mb_one (ms_ret (me (mv_and (mv (me_cmp op_gt (has_int0 fun _ _ _ => .bl _) (mv_var (pv 0)) (mv_int) (nomark _))) (mv_one (mv (me_callB (cr_all rfl) has_all (by rfl) T.z_all (by decide +kernel) (ma_cons (mv (me_lc (own := [("other", 1)]) rfl sc_is_prime.nd (mi_range2 (by rfl) T.z_range (ma_cons (mv_int) (ma_cons (mv_var (pv 0)) (ma_nil)))) (blkOk_by (N := ["number", "other"]) (sc := defScope s_is_prime) (own := [("other", 1)]) (by decide +kernel)) (fun _ _ _ _ _ => mg_name (pg_name (i := 1) sc_is_prime.nd rfl (Or.inl rfl))) (fun _ _ _ _ _ => mts_nil) (fun _ _ _ _ _ => mv (me_cmp (op_neD hr.units) has_ne (mv (me_mod (mv_var (pv 0)) (mv_var (pv 1)))) (mv_int) (nomark _))))) (ma_nil))))))))
set_option maxHeartbeats 4000000 in
theorem d_need_line  (T : Txt K mg a n) (G_is_number : FM P w K mg base 1 n.f_is_number n.fd_is_number ["part", "low", "high"] (sp_is_number a)) (G_is_prime : FM P w K mg base 1 n.f_is_prime n.fd_is_prime ["number"] (sp_is_prime a)) (cdv : Value) (A : Around) (outer : List Env) (s : Shared) (H : Hp) (E : XK) (hr : Room 1 (A.deeper (envOfC "need_line" (defScope s_need_line) s.heap.objs.size n.f_need_line cdv))) : MB (cxOf (L2.CX P w) P w K mg base ["keys", "wide", "prime"] "need_line" (defScope s_need_line) n.f_need_line cdv A outer s H E) (WB E) (defBody s_need_line) (t_need_line a) := by
  have tk := takes_of (X := cxOf (L2.CX P w) P w K mg base ["keys", "wide", "prime"] "need_line" (defScope s_need_line) n.f_need_line cdv A outer s H E) rfl rfl rfl rfl
  exact mb_cons (ms_if (MW.mt (mw_or (mt_not (mt_of (mv (me_call G_is_number (hr.mono (by first | decide | omega)) (by rfl) T.g_is_number T.F_is_number.kp T.b_is_number .nil (fun _ _ => .nil) tk (ma_cons (mv_var (pv 0)) (ma_cons (mv_int) (ma_cons (mv_gint (by rfl) T.k_MOST_KEYS) (ma_nil)))))))) (mw_or1 (mt_not (mt_of (mv (me_call G_is_number (hr.mono (by first | decide | omega)) (by rfl) T.g_is_number T.F_is_number.kp T.b_is_number .nil (fun _ _ => .nil) tk (ma_cons (mv_var (pv 1)) (ma_cons (mv_int) (ma_cons (mv_gint (by rfl) T.k_MOST_WIDE) (ma_nil))))))))))) (mb_one (ms_raise0 rfl tk T.x0_BadNumber T.gc_BadNumber (by rfl))) (mb_nil)) (
  mb_one (ms_if (MW.mt (mw_or (mt_not (mt_of (mv (me_call G_is_number (hr.mono (by first | decide | omega)) (by rfl) T.g_is_number T.F_is_number.kp T.b_is_number .nil (fun _ _ => .nil) tk (ma_cons (mv_var (pv 2)) (ma_cons (mv_var (pv 0)) (ma_cons (mv_int) (ma_nil)))))))) (mw_or1 (mt_not (mt_of (mv (me_call G_is_prime (hr.mono (by first | decide | omega)) (by rfl) T.g_is_prime T.F_is_prime.kp T.b_is_prime .nil (fun _ _ => .nil) tk (ma_cons (mv_var (pv 2)) (ma_nil))))))))) (mb_one (ms_raise0 rfl tk T.x0_BadNumber T.gc_BadNumber (by rfl))) (mb_nil)))
set_option maxHeartbeats 4000000 in
theorem d_line_row  (T : Txt K mg a n)  (cdv : Value) (A : Around) (outer : List Env) (s : Shared) (H : Hp) (E : XK) (hr : Room 0 (A.deeper (envOfC "line_row" (defScope s_line_row) s.heap.objs.size n.f_line_row cdv))) : MB (cxOf (L2.CX P w) P w K mg base ["keys", "wide", "prime", "times", "more", "key"] "line_row" (defScope s_line_row) n.f_line_row cdv A outer s H E) (WB E) (defBody s_line_row) (t_line_row a) := by
  have tk := takes_of (X := cxOf (L2.CX P w) P w K mg base ["keys", "wide", "prime", "times", "more", "key"] "line_row" (defScope s_line_row) n.f_line_row cdv A outer s H E) rfl rfl rfl rfl
  exact mb_one (ms_ret (me_callT call_tuple_of has_tuple (by rfl) T.z_tuple (by decide +kernel) (ma_cons (mv (me_lc (own := [("key", 5)]) rfl sc_line_row.nd (mi_range1 (by rfl) T.z_range (ma_cons (mv_var (pv 0)) (ma_nil))) (blkOk_by (N := ["keys", "wide", "prime", "times", "more", "key"]) (sc := defScope s_line_row) (own := [("key", 5)]) (by decide +kernel)) (fun _ _ _ _ _ => mg_name (pg_name (i := 5) sc_line_row.nd rfl (Or.inl rfl))) (fun _ _ _ _ _ => mts_nil) (fun _ _ _ _ _ => mv (me_mod (mv (me_mod (mv (me_add (mv (me_mul (mv_var (pv 3)) (mv_var (pv 5)))) (mv_var (pv 4)))) (mv_var (pv 2)))) (mv_var (pv 1)))))) (ma_nil))))
set_option maxHeartbeats 4000000 in
theorem d_line  (T : Txt K mg a n) (G_need_line : FM P w K mg base 2 n.f_need_line n.fd_need_line ["keys", "wide", "prime"] (sp_need_line a)) (G_is_number : FM P w K mg base 1 n.f_is_number n.fd_is_number ["part", "low", "high"] (sp_is_number a)) (G_line_row : FM P w K mg base 1 n.f_line_row n.fd_line_row ["keys", "wide", "prime", "times", "more"] (sp_line_row a)) (cdv : Value) (A : Around) (outer : List Env) (s : Shared) (H : Hp) (E : XK) (hr : Room 2 (A.deeper (envOfC "line" (defScope s_line) s.heap.objs.size n.f_line cdv))) : MB (cxOf (L2.CX P w) P w K mg base ["keys", "wide", "prime", "times", "more"] "line" (defScope s_line) n.f_line cdv A outer s H E) (WB E) (defBody s_line) (t_line a) := by
  have tk := takes_of (X := cxOf (L2.CX P w) P w K mg base ["keys", "wide", "prime", "times", "more"] "line" (defScope s_line) n.f_line cdv A outer s H E) rfl rfl rfl rfl
  exact mb_cons (ms_expr (me_call G_need_line (hr.mono (by first | decide | omega)) (by rfl) T.g_need_line T.F_need_line.kp T.b_need_line .nil (fun _ _ => .nil) tk (ma_cons (mv_var (pv 0)) (ma_cons (mv_var (pv 1)) (ma_cons (mv_var (pv 2)) (ma_nil)))))) (
  mb_cons (ms_if (MW.mt (mw_or (mt_not (mt_of (mv (me_call G_is_number (hr.mono (by first | decide | omega)) (by rfl) T.g_is_number T.F_is_number.kp T.b_is_number .nil (fun _ _ => .nil) tk (ma_cons (mv_var (pv 3)) (ma_cons (mv_int) (ma_cons (mv (me_sub (mv_var (pv 2)) (mv_int))) (ma_nil)))))))) (mw_or1 (mt_not (mt_of (mv (me_call G_is_number (hr.mono (by first | decide | omega)) (by rfl) T.g_is_number T.F_is_number.kp T.b_is_number .nil (fun _ _ => .nil) tk (ma_cons (mv_var (pv 4)) (ma_cons (mv_int) (ma_cons (mv (me_sub (mv_var (pv 2)) (mv_int))) (ma_nil))))))))))) (mb_one (ms_raise0 rfl tk T.x0_BadNumber T.gc_BadNumber (by rfl))) (mb_nil)) (
  mb_one (ms_ret (me_call G_line_row (hr.mono (by first | decide | omega)) (by rfl) T.g_line_row T.F_line_row.kp T.b_line_row .nil (fun _ _ => .nil) tk (ma_cons (mv_var (pv 0)) (ma_cons (mv_var (pv 1)) (ma_cons (mv_var (pv 2)) (ma_cons (mv_var (pv 3)) (ma_cons (mv_var (pv 4)) (ma_nil))))))))))
set_option maxHeartbeats 4000000 in
theorem d_law_alike (k : Nat) (T : Txt K mg a n) (G_law_alike : FM P w K mg base k n.f_law_alike n.fd_law_alike ["_law_found", "_law_due"] (sp_law_alike a k)) (cdv : Value) (A : Around) (outer : List Env) (s : Shared) (H : Hp) (E : XK) (hr : Room k (A.deeper (envOfC "_law_alike" (defScope s_law_alike) s.heap.objs.size n.f_law_alike cdv))) : MB (cxOf (L2.CX P w) P w K mg base ["_law_found", "_law_due", "_law_same_kind", "_law_k"] "_law_alike" (defScope s_law_alike) n.f_law_alike cdv A outer s H E) (WB E) (defBody s_law_alike) (t_law_alike a k) := by
  have tk := takes_of (X := cxOf (L2.CX P w) P w K mg base ["_law_found", "_law_due", "_law_same_kind", "_law_k"] "_law_alike" (defScope s_law_alike) n.f_law_alike cdv A outer s H E) rfl rfl rfl rfl
  exact mb_cons (ms_if (mt_of (mv_isi2 .tuple .list (by rfl) T.z_isinstance (by rfl) T.z_tuple (by decide +kernel) (by rfl) T.z_list (by decide +kernel) (mv_var (pv 1)))) (mb_cons (ms_if (MW.mt (mw_or (mt_cmp (op_neD hr.units) has_ne (mv_isi .tuple (by rfl) T.z_isinstance (by rfl) T.z_tuple (by decide +kernel) (mv_var (pv 0))) (mv_isi .tuple (by rfl) T.z_isinstance (by rfl) T.z_tuple (by decide +kernel) (mv_var (pv 1))) (nomark _)) (mw_or1 (mt_not (mt_of (mv_isi2 .tuple .list (by rfl) T.z_isinstance (by rfl) T.z_tuple (by decide +kernel) (by rfl) T.z_list (by decide +kernel) (mv_var (pv 0)))))))) (mb_one (ms_ret (me (mv_bl)))) (mb_nil)) (
  mb_cons (ms_if (mt_cmp (op_neD hr.units) has_ne (mv (me_callB call_lenA has_len (by rfl) T.z_len (by decide +kernel) (ma_cons (mv_var (pv 0)) (ma_nil)))) (mv (me_callB call_lenA has_len (by rfl) T.z_len (by decide +kernel) (ma_cons (mv_var (pv 1)) (ma_nil)))) (nomark _)) (mb_one (ms_ret (me (mv_bl)))) (mb_nil)) (
  mb_one (ms_ret (me_cmp (op_eqD hr.units) has_eq (mv (me_lc (own := [("_law_k", 3)]) rfl sc_law_alike.nd (mi_range1 (by rfl) T.z_range (ma_cons (mv (me_callB call_lenA has_len (by rfl) T.z_len (by decide +kernel) (ma_cons (mv_var (pv 1)) (ma_nil)))) (ma_nil))) (blkOk_by (N := ["_law_found", "_law_due", "_law_same_kind", "_law_k"]) (sc := defScope s_law_alike) (own := [("_law_k", 3)]) (by decide +kernel)) (fun _ _ _ _ _ => mg_name (pg_name (i := 3) sc_law_alike.nd rfl (Or.inl rfl))) (fun _ _ _ _ _ => mts_one (mt_not (mt_of (mv (me_call G_law_alike (hr.mono (by first | decide | omega)) (by rfl) T.g_law_alike T.F_law_alike.kp T.b_law_alike .nil (fun _ _ => .nil) takes0 (ma_cons (mv (me_ix (hu_of hr) (mv_var (pv 0)) (mv_var (pv 3)))) (ma_cons (mv (me_ix (hu_of hr) (mv_var (pv 1)) (mv_var (pv 3)))) (ma_nil)))))))) (fun _ _ _ _ _ => mv_var (pv 3)))) (mv (me_lst (ma_nil))) (nomark _)))))) (mb_nil)) (
  mb_cons (ms_if (MW.mt (mw_or (mt_cmp op_isN (has_isN (p := id)) (mv_var (pv 1)) (mv_non) (nomark _)) (mw_or1 (mt_cmp op_isN (has_isN (p := id)) (mv_var (pv 0)) (mv_non) (nomark _))))) (mb_one (ms_ret (me (mv_and (mv (me_cmp op_isN (has_isN (p := id)) (mv_var (pv 1)) (mv_non) (nomark _))) (mv_one (mv (me_cmp op_isN (has_isN (p := id)) (mv_var (pv 0)) (mv_non) (nomark _)))))))) (mb_nil)) (
  mb_cons (ms_set (i := 2) sc_law_alike.nd rfl (Or.inl rfl) (mv (me_cmp (op_eqD hr.units) has_eq (mv_isi .str (by rfl) T.z_isinstance (by rfl) T.z_str (by decide +kernel) (mv_var (pv 1))) (mv_isi .str (by rfl) T.z_isinstance (by rfl) T.z_str (by decide +kernel) (mv_var (pv 0))) (nomark _)))) (
  mb_one (ms_ret (me (mv_and (mv_var (pv 2)) (mv_and (mv (me_cmp (op_eqD hr.units) has_eq (mv_isi .bool (by rfl) T.z_isinstance (by rfl) T.z_bool (by decide +kernel) (mv_var (pv 1))) (mv_isi .bool (by rfl) T.z_isinstance (by rfl) T.z_bool (by decide +kernel) (mv_var (pv 0))) (nomark _))) (mv_one (mv (me_cmp (op_eqD hr.units) has_eq (mv_var (pv 0)) (mv_var (pv 1)) (nomark _)))))))))))
set_option maxHeartbeats 4000000 in
theorem d_law_members  (T : Txt K mg a n) (G_law_taken : FM P w K mg base 1 n.f_law_taken n.fd_law_taken ["_law_row_here", "_law_many"] (sp_law_taken a)) (cdv : Value) (A : Around) (outer : List Env) (s : Shared) (H : Hp) (E : XK) (hr : Room 1 (A.deeper (envOfC "_law_members" (defScope s_law_members) s.heap.objs.size n.f_law_members cdv))) : MB (cxOf (L2.CX P w) P w K mg base ["_law_row_here", "_law_keys", "_law_key"] "_law_members" (defScope s_law_members) n.f_law_members cdv A outer s H E) (WB E) (defBody s_law_members) (t_law_members a) := by
  have tk := takes_of (X := cxOf (L2.CX P w) P w K mg base ["_law_row_here", "_law_keys", "_law_key"] "_law_members" (defScope s_law_members) n.f_law_members cdv A outer s H E) rfl rfl rfl rfl
  exact mb_one (ms_ret (me_callT call_tuple_of has_tuple (by rfl) T.z_tuple (by decide +kernel) (ma_cons (mv (me_lc (own := [("_law_key", 2)]) rfl sc_law_members.nd (mi_range1 (by rfl) T.z_range (ma_cons (mv_var (pv 1)) (ma_nil))) (blkOk_by (N := ["_law_row_here", "_law_keys", "_law_key"]) (sc := defScope s_law_members) (own := [("_law_key", 2)]) (by decide +kernel)) (fun _ _ _ _ _ => mg_name (pg_name (i := 2) sc_law_members.nd rfl (Or.inl rfl))) (fun _ _ _ _ _ => mts_one (mt_cmp (op_eqD hr.units) has_eq (mv (me_call G_law_taken (hr.mono (by first | decide | omega)) (by rfl) T.g_law_taken T.F_law_taken.kp T.b_law_taken .nil (fun _ _ => .nil) takes0 (ma_cons (mv_var (pv 0)) (ma_cons (mv_int) (ma_nil))))) (mv_int) (nomark _))) (fun _ _ _ _ _ => mv_var (pv 2)))) (ma_nil))))
set_option maxHeartbeats 4000000 in
theorem d_need_members  (T : Txt K mg a n) (G_is_number : FM P w K mg base 1 n.f_is_number n.fd_is_number ["part", "low", "high"] (sp_is_number a)) (cdv : Value) (A : Around) (outer : List Env) (s : Shared) (H : Hp) (E : XK) (hr : Room 2 (A.deeper (envOfC "need_members" (defScope s_need_members) s.heap.objs.size n.f_need_members cdv))) : MB (cxOf (L2.CX P w) P w K mg base ["keys", "members", "ahead", "number", "key"] "need_members" (defScope s_need_members) n.f_need_members cdv A outer s H E) (WB E) (defBody s_need_members) (t_need_members a) := by
  have tk := takes_of (X := cxOf (L2.CX P w) P w K mg base ["keys", "members", "ahead", "number", "key"] "need_members" (defScope s_need_members) n.f_need_members cdv A outer s H E) rfl rfl rfl rfl
  exact mb_cons (ms_if (mt_not (mt_of (mv_isi .tuple (by rfl) T.z_isinstance (by rfl) T.z_tuple (by decide +kernel) (mv_var (pv 1))))) (mb_one (ms_raise1 rfl tk T.x1_BadCounts (oi_BadCounts T) (hr.mono (by first | decide | omega)) T.b_BadCounts_init passes0 T.gc_BadCounts (by rfl) (ma_cons (mv_int) (ma_nil)) (by decide))) (mb_nil)) (
  mb_cons (ms_set (i := 2) sc_need_members.nd rfl (Or.inl rfl) (mv (me_neg (mv_int)))) (
  mb_one (ms_forget [2, 3, 4] (ms_for (ws := [3, 4]) (passes_of rfl) rfl (mi_enum (by rfl) T.z_enumerate (ma_cons (mv_var (pv 1)) (ma_nil))) (mg_tup rfl (mgs_cons (mg_name (pg_name (i := 3) sc_need_members.nd rfl (Or.inl rfl))) (mgs_cons (mg_name (pg_name (i := 4) sc_need_members.nd rfl (Or.inl rfl))) (mgs_nil)))) (
   mb_forget [3, 4] (mb_cons (ms_if (mt_not (mt_of (mv (me_call G_is_number (hr.mono (by first | decide | omega)) (by rfl) T.g_is_number T.F_is_number.kp T.b_is_number .nil (fun _ _ => .nil) tk (ma_cons (mv_var (pv 4)) (ma_cons (mv (me_add (mv_var (pv 2)) (mv_int))) (ma_cons (mv (me_sub (mv_var (pv 0)) (mv_int))) (ma_nil)))))))) (mb_one (ms_raise1 rfl tk T.x1_BadCounts (oi_BadCounts T) (hr.mono (by first | decide | omega)) T.b_BadCounts_init passes0 T.gc_BadCounts (by rfl) (ma_cons (mv_var (pv 3)) (ma_nil)) (by decide))) (mb_nil)) (
  mb_one (ms_set (i := 2) sc_need_members.nd rfl (Or.inl rfl) (mv_var (pv 4))))))))))
set_option maxHeartbeats 4000000 in
theorem d_divisor  (T : Txt K mg a n)  (cdv : Value) (A : Around) (outer : List Env) (s : Shared) (H : Hp) (E : XK) (hr : Room 0 (A.deeper (envOfC "divisor" (defScope s_divisor) s.heap.objs.size n.f_divisor cdv))) : MB (cxOf (L2.CX P w) P w K mg base ["one", "other"] "divisor" (defScope s_divisor) n.f_divisor cdv A outer s H E) (WB E) (defBody s_divisor) (t_divisor a) := by
  have tk := takes_of (X := cxOf (L2.CX P w) P w K mg base ["one", "other"] "divisor" (defScope s_divisor) n.f_divisor cdv A outer s H E) rfl rfl rfl rfl
  exact mb_cons (ms_forget [1] (ms_while (passes_of rfl) (mt_cmp (op_neD hr.units) has_ne (mv_var (pv 1)) (mv_int) (nomark _)) (
   mb_one (ms_par (i := 0) (j := 1) rfl sc_divisor.nd rfl rfl (by decide) rfl rfl (ma_cons (mv_var (pv 1)) (ma_cons (mv (me_mod (mv_var (pv 0)) (mv_var (pv 1)))) (ma_nil))) (by rfl))))) (
  mb_one (ms_ret (me (mv_var (pv 0)))))
set_option maxHeartbeats 4000000 in
theorem d_part  (T : Txt K mg a n) (G_divisor : FM P w K mg base 1 n.f_divisor n.fd_divisor ["one", "other"] (sp_divisor a)) (cdv : Value) (A : Around) (outer : List Env) (s : Shared) (H : Hp) (E : XK) (hr : Room 1 (A.deeper (envOfC "part" (defScope s_part) s.heap.objs.size n.f_part cdv))) : MB (cxOf (L2.CX P w) P w K mg base ["top", "under", "one"] "part" (defScope s_part) n.f_part cdv A outer s H E) (WB E) (defBody s_part) (t_part a) := by
  have tk := takes_of (X := cxOf (L2.CX P w) P w K mg base ["top", "under", "one"] "part" (defScope s_part) n.f_part cdv A outer s H E) rfl rfl rfl rfl
  exact mb_cons (ms_set (i := 2) sc_part.nd rfl (Or.inl rfl) (mv (me_call G_divisor (hr.mono (by first | decide | omega)) (by rfl) T.g_divisor T.F_divisor.kp T.b_divisor .nil (fun _ _ => .nil) tk (ma_cons (mv (me_callB call_abs has_abs (by rfl) T.z_abs (by decide +kernel) (ma_cons (mv_var (pv 0)) (ma_nil)))) (ma_cons (mv_var (pv 1)) (ma_nil)))))) (
  mb_one (ms_ret (me (mv_tup (ma_cons (mv (me_fdiv (mv_var (pv 0)) (mv_var (pv 2)))) (ma_cons (mv (me_fdiv (mv_var (pv 1)) (mv_var (pv 2)))) (ma_nil)))))))
set_option maxHeartbeats 4000000 in
theorem d_line_share  (T : Txt K mg a n) (G_need_line : FM P w K mg base 2 n.f_need_line n.fd_need_line ["keys", "wide", "prime"] (sp_need_line a)) (G_need_members : FM P w K mg base 3 n.f_need_members n.fd_need_members ["keys", "members"] (sp_need_members a)) (G_is_number : FM P w K mg base 1 n.f_is_number n.fd_is_number ["part", "low", "high"] (sp_is_number a)) (G_line_row : FM P w K mg base 1 n.f_line_row n.fd_line_row ["keys", "wide", "prime", "times", "more"] (sp_line_row a)) (G_part : FM P w K mg base 2 n.f_part n.fd_part ["top", "under"] (sp_part a)) (cdv : Value) (A : Around) (outer : List Env) (s : Shared) (H : Hp) (E : XK) (hr : Room 3 (A.deeper (envOfC "line_share" (defScope s_line_share) s.heap.objs.size n.f_line_share cdv))) : MB (cxOf (L2.CX P w) P w K mg base ["keys", "wide", "prime", "members", "key", "count", "times", "more", "row", "one"] "line_share" (defScope s_line_share) n.f_line_share cdv A outer s H E) (WB E) (defBody s_line_share) (t_line_share a) := by
  have tk := takes_of (X := cxOf (L2.CX P w) P w K mg base ["keys", "wide", "prime", "members", "key", "count", "times", "more", "row", "one"] "line_share" (defScope s_line_share) n.f_line_share cdv A outer s H E) rfl rfl rfl rfl
  exact mb_cons (ms_expr (me_call G_need_line (hr.mono (by first | decide | omega)) (by rfl) T.g_need_line T.F_need_line.kp T.b_need_line .nil (fun _ _ => .nil) tk (ma_cons (mv_var (pv 0)) (ma_cons (mv_var (pv 1)) (ma_cons (mv_var (pv 2)) (ma_nil)))))) (
  mb_cons (ms_expr (me_call G_need_members (hr.mono (by first | decide | omega)) (by rfl) T.g_need_members T.F_need_members.kp T.b_need_members .nil (fun _ _ => .nil) tk (ma_cons (mv_var (pv 0)) (ma_cons (mv_var (pv 3)) (ma_nil))))) (
  mb_cons (ms_if (MW.mt (mw_or (mt_not (mt_of (mv (me_call G_is_number (hr.mono (by first | decide | omega)) (by rfl) T.g_is_number T.F_is_number.kp T.b_is_number .nil (fun _ _ => .nil) tk (ma_cons (mv_var (pv 4)) (ma_cons (mv_int) (ma_cons (mv (me_sub (mv_var (pv 0)) (mv_int))) (ma_nil)))))))) (mw_or1 (mt_cmp (op_inA (hu_of hr)) has_in (mv_var (pv 4)) (mv_var (pv 3)) (by rfl))))) (mb_one (ms_raise0 rfl tk T.x0_BadNumber T.gc_BadNumber (by rfl))) (mb_nil)) (
  mb_cons (ms_set (i := 5) sc_line_share.nd rfl (Or.inl rfl) (mv_int)) (
  mb_cons (ms_forget [6, 7, 8] (ms_for (ws := [6]) (passes_of rfl) rfl (mi_range2 (by rfl) T.z_range (ma_cons (mv_int) (ma_cons (mv_var (pv 2)) (ma_nil)))) (mg_name (pg_name (i := 6) sc_line_share.nd rfl (Or.inl rfl))) (
   mb_forget [6, 7, 8] (mb_one (ms_forget [7, 8] (ms_for (ws := [7]) (passes_of rfl) rfl (mi_range1 (by rfl) T.z_range (ma_cons (mv_var (pv 2)) (ma_nil))) (mg_name (pg_name (i := 7) sc_line_share.nd rfl (Or.inl rfl))) (
   mb_forget [7, 8] (mb_cons (ms_set (i := 8) sc_line_share.nd rfl (Or.inr rfl) (mv (me_call G_line_row (hr.mono (by first | decide | omega)) (by rfl) T.g_line_row T.F_line_row.kp T.b_line_row .nil (fun _ _ => .nil) tk (ma_cons (mv_var (pv 0)) (ma_cons (mv_var (pv 1)) (ma_cons (mv_var (pv 2)) (ma_cons (mv_var (pv 6)) (ma_cons (mv_var (pv 7)) (ma_nil))))))))) (
  mb_one (ms_aug (i := 5) sc_line_share.nd rfl (Or.inl rfl) (mv (me_callT call_int1 has_intC (by rfl) T.z_int (by decide +kernel) (ma_cons (mv (me_cmp (op_inA (hu_of hr)) has_in (mv (me_ix (hu_of hr) (mv_var (pv 8)) (mv_var (pv 4)))) (mv (me_lc (own := [("one", 9)]) rfl sc_line_share.nd (mi_seq (mv_var (pv 3))) (blkOk_by (N := ["keys", "wide", "prime", "members", "key", "count", "times", "more", "row", "one"]) (sc := defScope s_line_share) (own := [("one", 9)]) (by decide +kernel)) (fun _ _ _ _ _ => mg_name (pg_name (i := 9) sc_line_share.nd rfl (Or.inl rfl))) (fun _ _ _ _ _ => mts_nil) (fun _ _ _ _ _ => mv (me_ix (hu_of hr) (mv_var (pv 8)) (mv_var (pv 9)))))) (by rfl))) (ma_nil)))) ip_add (has_int0 fun _ _ _ => .int _))))))))))) (
  mb_one (ms_ret (me_call G_part (hr.mono (by first | decide | omega)) (by rfl) T.g_part T.F_part.kp T.b_part .nil (fun _ _ => .nil) tk (ma_cons (mv_var (pv 5)) (ma_cons (mv (me_mul (mv_var (pv 2)) (mv (me_sub (mv_var (pv 2)) (mv_int))))) (ma_nil))))))))))
set_option maxHeartbeats 4000000 in
theorem d_law_gcd  (T : Txt K mg a n)  (cdv : Value) (A : Around) (outer : List Env) (s : Shared) (H : Hp) (E : XK) (hr : Room 0 (A.deeper (envOfC "_law_gcd" (defScope s_law_gcd) s.heap.objs.size n.f_law_gcd cdv))) : MB (cxOf (L2.CX P w) P w K mg base ["_law_one", "_law_other"] "_law_gcd" (defScope s_law_gcd) n.f_law_gcd cdv A outer s H E) (WB E) (defBody s_law_gcd) (t_law_gcd a) := by
  have tk := takes_of (X := cxOf (L2.CX P w) P w K mg base ["_law_one", "_law_other"] "_law_gcd" (defScope s_law_gcd) n.f_law_gcd cdv A outer s H E) rfl rfl rfl rfl
  exact mb_cons (ms_forget [1] (ms_while (passes_of rfl) (mt_cmp op_gt (has_int0 fun _ _ _ => .bl _) (mv_var (pv 1)) (mv_int) (nomark _)) (
   mb_one (ms_par (i := 0) (j := 1) rfl sc_law_gcd.nd rfl rfl (by decide) rfl rfl (ma_cons (mv_var (pv 1)) (ma_cons (mv (me_mod (mv_var (pv 0)) (mv_var (pv 1)))) (ma_nil))) (by rfl))))) (
  mb_one (ms_ret (me (mv_var (pv 0)))))
set_option maxHeartbeats 4000000 in
theorem d_law_part  (T : Txt K mg a n) (G_law_gcd : FM P w K mg base 1 n.f_law_gcd n.fd_law_gcd ["_law_one", "_law_other"] (sp_law_gcd a)) (cdv : Value) (A : Around) (outer : List Env) (s : Shared) (H : Hp) (E : XK) (hr : Room 1 (A.deeper (envOfC "_law_part" (defScope s_law_part) s.heap.objs.size n.f_law_part cdv))) : MB (cxOf (L2.CX P w) P w K mg base ["_law_high_end", "_law_under", "_law_one"] "_law_part" (defScope s_law_part) n.f_law_part cdv A outer s H E) (WB E) (defBody s_law_part) (t_law_part a) := by
  have tk := takes_of (X := cxOf (L2.CX P w) P w K mg base ["_law_high_end", "_law_under", "_law_one"] "_law_part" (defScope s_law_part) n.f_law_part cdv A outer s H E) rfl rfl rfl rfl
  exact mb_cons (ms_set (i := 2) sc_law_part.nd rfl (Or.inl rfl) (mv (me_call G_law_gcd (hr.mono (by first | decide | omega)) (by rfl) T.g_law_gcd T.F_law_gcd.kp T.b_law_gcd .nil (fun _ _ => .nil) tk (ma_cons (mv (me_callB call_abs has_abs (by rfl) T.z_abs (by decide +kernel) (ma_cons (mv_var (pv 0)) (ma_nil)))) (ma_cons (mv_var (pv 1)) (ma_nil)))))) (
  mb_one (ms_ret (me (mv_tup (ma_cons (mv (me_fdiv (mv_var (pv 0)) (mv_var (pv 2)))) (ma_cons (mv (me_fdiv (mv_var (pv 1)) (mv_var (pv 2)))) (ma_nil)))))))
abbrev cx_law (P : Program) (w : World) (K : Kf) (mg : Str → Option Value) (base : Heap) (n : Fns) (A : Around) (outer : List Env) (s : Shared) (H : Hp) (E : XK) : Cx := cxOf (L2.CX P w) P w K mg base ["_law_script", "_law_row_here", "_law_prime", "_law_keys", "_law_cells", "_law_oft", "_law_more", "_law_due", "_law_members_here", "_law_others", "_law_key", "_law_count", "_law_a", "_law_b", "_law_mine", "_law_far", "_law_bad", "_law_works", "_law_work", "_law_one"] "law" (defScope s_law) n.f_law n.fd_law.code A outer s H E
set_option maxHeartbeats 4000000 in
theorem dl_law_0 (T : Txt K mg a n) (G_line : FM P w K mg base 3 n.f_line n.fd_line ["keys", "wide", "prime", "times", "more"] (sp_line a)) (G_line_share : FM P w K mg base 4 n.f_line_share n.fd_line_share ["keys", "wide", "prime", "members", "key"] (sp_line_share a)) (G_law_taken : FM P w K mg base 1 n.f_law_taken n.fd_law_taken ["_law_row_here", "_law_many"] (sp_law_taken a)) (A0 : Around) (outer0 : List Env) (s0 : Shared) (H0 : Hp) (E0 : XK) (E : XK) (f c' : Addr) (A : Around) (outer : List Env) (s : Shared) (H : Hp) (hr : Room 4 (A.deeper (LamX.lamEnv (cx_law P w K mg base n A0 outer0 s0 H0 E0) (ltab_law 0).scope s.heap.objs.size f c'))) : ME (LamX.lamCx (cx_law P w K mg base n A0 outer0 s0 H0 E0) A outer s H E (ltab_law 0).scope f c') (fun cls d _ H => E cls d H) (ltab_law 0).body (tl_law_0 a) := by
  have tk := takes_of (X := LamX.lamCx (cx_law P w K mg base n A0 outer0 s0 H0 E0) A outer s H E (ltab_law 0).scope f c') rfl rfl rfl rfl
  exact me_call G_line (hr.mono (by first | decide | omega)) (by rfl) T.g_line T.F_line.kp T.b_line .nil (fun _ _ => .nil) tk (ma_cons (mv_var (pv 3)) (ma_cons (mv_var (pv 4)) (ma_cons (mv_var (pv 16)) (ma_cons (mv_int) (ma_cons (mv_int) (ma_nil))))))
set_option maxHeartbeats 4000000 in
theorem dl_law_1 (T : Txt K mg a n) (G_line : FM P w K mg base 3 n.f_line n.fd_line ["keys", "wide", "prime", "times", "more"] (sp_line a)) (G_line_share : FM P w K mg base 4 n.f_line_share n.fd_line_share ["keys", "wide", "prime", "members", "key"] (sp_line_share a)) (G_law_taken : FM P w K mg base 1 n.f_law_taken n.fd_law_taken ["_law_row_here", "_law_many"] (sp_law_taken a)) (A0 : Around) (outer0 : List Env) (s0 : Shared) (H0 : Hp) (E0 : XK) (E : XK) (f c' : Addr) (A : Around) (outer : List Env) (s : Shared) (H : Hp) (hr : Room 4 (A.deeper (LamX.lamEnv (cx_law P w K mg base n A0 outer0 s0 H0 E0) (ltab_law 1).scope s.heap.objs.size f c'))) : ME (LamX.lamCx (cx_law P w K mg base n A0 outer0 s0 H0 E0) A outer s H E (ltab_law 1).scope f c') (fun cls d _ H => E cls d H) (ltab_law 1).body (tl_law_1 a) := by
  have tk := takes_of (X := LamX.lamCx (cx_law P w K mg base n A0 outer0 s0 H0 E0) A outer s H E (ltab_law 1).scope f c') rfl rfl rfl rfl
  exact me_call G_line_share (hr.mono (by first | decide | omega)) (by rfl) T.g_line_share T.F_line_share.kp T.b_line_share .nil (fun _ _ => .nil) tk (ma_cons (mv_var (pv 3)) (ma_cons (mv_var (pv 4)) (ma_cons (mv_var (pv 16)) (ma_cons (mv_int) (ma_cons (mv_int) (ma_nil))))))
set_option maxHeartbeats 4000000 in
theorem dl_law_2 (T : Txt K mg a n) (G_line : FM P w K mg base 3 n.f_line n.fd_line ["keys", "wide", "prime", "times", "more"] (sp_line a)) (G_line_share : FM P w K mg base 4 n.f_line_share n.fd_line_share ["keys", "wide", "prime", "members", "key"] (sp_line_share a)) (G_law_taken : FM P w K mg base 1 n.f_law_taken n.fd_law_taken ["_law_row_here", "_law_many"] (sp_law_taken a)) (A0 : Around) (outer0 : List Env) (s0 : Shared) (H0 : Hp) (E0 : XK) (E : XK) (f c' : Addr) (A : Around) (outer : List Env) (s : Shared) (H : Hp) (hr : Room 4 (A.deeper (LamX.lamEnv (cx_law P w K mg base n A0 outer0 s0 H0 E0) (ltab_law 2).scope s.heap.objs.size f c'))) : ME (LamX.lamCx (cx_law P w K mg base n A0 outer0 s0 H0 E0) A outer s H E (ltab_law 2).scope f c') (fun cls d _ H => E cls d H) (ltab_law 2).body (tl_law_2 a) := by
  have tk := takes_of (X := LamX.lamCx (cx_law P w K mg base n A0 outer0 s0 H0 E0) A outer s H E (ltab_law 2).scope f c') rfl rfl rfl rfl
  exact me_call G_line (hr.mono (by first | decide | omega)) (by rfl) T.g_line T.F_line.kp T.b_line .nil (fun _ _ => .nil) tk (ma_cons (mv_var (pv 3)) (ma_cons (mv_var (pv 4)) (ma_cons (mv_var (pv 2)) (ma_cons (mv (me_ix (hu_of hr) (mv (me_lst (ma_cons (mv_int) (ma_cons (mv (me_add (mv_var (pv 2)) (mv_var (pv 15)))) (ma_cons (mv_non) (ma_cons (mv_bl) (ma_nil))))))) (mv (me_call G_law_taken (hr.mono (by first | decide | omega)) (by rfl) T.g_law_taken T.F_law_taken.kp T.b_law_taken .nil (fun _ _ => .nil) tk (ma_cons (mv_var (pv 1)) (ma_cons (mv_int) (ma_nil))))))) (ma_cons (mv_int) (ma_nil))))))
set_option maxHeartbeats 4000000 in
theorem dl_law_3 (T : Txt K mg a n) (G_line : FM P w K mg base 3 n.f_line n.fd_line ["keys", "wide", "prime", "times", "more"] (sp_line a)) (G_line_share : FM P w K mg base 4 n.f_line_share n.fd_line_share ["keys", "wide", "prime", "members", "key"] (sp_line_share a)) (G_law_taken : FM P w K mg base 1 n.f_law_taken n.fd_law_taken ["_law_row_here", "_law_many"] (sp_law_taken a)) (A0 : Around) (outer0 : List Env) (s0 : Shared) (H0 : Hp) (E0 : XK) (E : XK) (f c' : Addr) (A : Around) (outer : List Env) (s : Shared) (H : Hp) (hr : Room 4 (A.deeper (LamX.lamEnv (cx_law P w K mg base n A0 outer0 s0 H0 E0) (ltab_law 3).scope s.heap.objs.size f c'))) : ME (LamX.lamCx (cx_law P w K mg base n A0 outer0 s0 H0 E0) A outer s H E (ltab_law 3).scope f c') (fun cls d _ H => E cls d H) (ltab_law 3).body (tl_law_3 a) := by
  have tk := takes_of (X := LamX.lamCx (cx_law P w K mg base n A0 outer0 s0 H0 E0) A outer s H E (ltab_law 3).scope f c') rfl rfl rfl rfl
  exact me_call G_line (hr.mono (by first | decide | omega)) (by rfl) T.g_line T.F_line.kp T.b_line .nil (fun _ _ => .nil) tk (ma_cons (mv_var (pv 3)) (ma_cons (mv_var (pv 4)) (ma_cons (mv_var (pv 2)) (ma_cons (mv_int) (ma_cons (mv (me_ix (hu_of hr) (mv (me_lst (ma_cons (mv (me_sub (mv_int) (mv_int))) (ma_cons (mv (me_add (mv_var (pv 2)) (mv_var (pv 15)))) (ma_cons (mv_non) (ma_cons (mv_bl) (ma_nil))))))) (mv (me_call G_law_taken (hr.mono (by first | decide | omega)) (by rfl) T.g_law_taken T.F_law_taken.kp T.b_law_taken .nil (fun _ _ => .nil) tk (ma_cons (mv_var (pv 1)) (ma_cons (mv_int) (ma_nil))))))) (ma_nil))))))
set_option maxHeartbeats 4000000 in
theorem dl_law_4 (T : Txt K mg a n) (G_line : FM P w K mg base 3 n.f_line n.fd_line ["keys", "wide", "prime", "times", "more"] (sp_line a)) (G_line_share : FM P w K mg base 4 n.f_line_share n.fd_line_share ["keys", "wide", "prime", "members", "key"] (sp_line_share a)) (G_law_taken : FM P w K mg base 1 n.f_law_taken n.fd_law_taken ["_law_row_here", "_law_many"] (sp_law_taken a)) (A0 : Around) (outer0 : List Env) (s0 : Shared) (H0 : Hp) (E0 : XK) (E : XK) (f c' : Addr) (A : Around) (outer : List Env) (s : Shared) (H : Hp) (hr : Room 4 (A.deeper (LamX.lamEnv (cx_law P w K mg base n A0 outer0 s0 H0 E0) (ltab_law 4).scope s.heap.objs.size f c'))) : ME (LamX.lamCx (cx_law P w K mg base n A0 outer0 s0 H0 E0) A outer s H E (ltab_law 4).scope f c') (fun cls d _ H => E cls d H) (ltab_law 4).body (tl_law_4 a) := by
  have tk := takes_of (X := LamX.lamCx (cx_law P w K mg base n A0 outer0 s0 H0 E0) A outer s H E (ltab_law 4).scope f c') rfl rfl rfl rfl
  exact me_call G_line (hr.mono (by first | decide | omega)) (by rfl) T.g_line T.F_line.kp T.b_line .nil (fun _ _ => .nil) tk (ma_cons (mv (me_ix (hu_of hr) (mv (me_lst (ma_cons (mv_int) (ma_cons (mv (me_add (mv_int) (mv_var (pv 15)))) (ma_cons (mv_non) (ma_nil)))))) (mv (me_call G_law_taken (hr.mono (by first | decide | omega)) (by rfl) T.g_law_taken T.F_law_taken.kp T.b_law_taken .nil (fun _ _ => .nil) tk (ma_cons (mv_var (pv 1)) (ma_cons (mv_int) (ma_nil))))))) (ma_cons (mv_var (pv 4)) (ma_cons (mv_int) (ma_cons (mv_int) (ma_cons (mv_int) (ma_nil))))))
set_option maxHeartbeats 4000000 in
theorem dl_law_5 (T : Txt K mg a n) (G_line : FM P w K mg base 3 n.f_line n.fd_line ["keys", "wide", "prime", "times", "more"] (sp_line a)) (G_line_share : FM P w K mg base 4 n.f_line_share n.fd_line_share ["keys", "wide", "prime", "members", "key"] (sp_line_share a)) (G_law_taken : FM P w K mg base 1 n.f_law_taken n.fd_law_taken ["_law_row_here", "_law_many"] (sp_law_taken a)) (A0 : Around) (outer0 : List Env) (s0 : Shared) (H0 : Hp) (E0 : XK) (E : XK) (f c' : Addr) (A : Around) (outer : List Env) (s : Shared) (H : Hp) (hr : Room 4 (A.deeper (LamX.lamEnv (cx_law P w K mg base n A0 outer0 s0 H0 E0) (ltab_law 5).scope s.heap.objs.size f c'))) : ME (LamX.lamCx (cx_law P w K mg base n A0 outer0 s0 H0 E0) A outer s H E (ltab_law 5).scope f c') (fun cls d _ H => E cls d H) (ltab_law 5).body (tl_law_5 a) := by
  have tk := takes_of (X := LamX.lamCx (cx_law P w K mg base n A0 outer0 s0 H0 E0) A outer s H E (ltab_law 5).scope f c') rfl rfl rfl rfl
  exact me_call G_line (hr.mono (by first | decide | omega)) (by rfl) T.g_line T.F_line.kp T.b_line .nil (fun _ _ => .nil) tk (ma_cons (mv_var (pv 3)) (ma_cons (mv (me_ix (hu_of hr) (mv (me_lst (ma_cons (mv_int) (ma_cons (mv (me_add (mv_int) (mv_var (pv 15)))) (ma_cons (mv_non) (ma_nil)))))) (mv (me_call G_law_taken (hr.mono (by first | decide | omega)) (by rfl) T.g_law_taken T.F_law_taken.kp T.b_law_taken .nil (fun _ _ => .nil) tk (ma_cons (mv_var (pv 1)) (ma_cons (mv_int) (ma_nil))))))) (ma_cons (mv_var (pv 2)) (ma_cons (mv_int) (ma_cons (mv_int) (ma_nil))))))
set_option maxHeartbeats 4000000 in
theorem dl_law_6 (T : Txt K mg a n) (G_line : FM P w K mg base 3 n.f_line n.fd_line ["keys", "wide", "prime", "times", "more"] (sp_line a)) (G_line_share : FM P w K mg base 4 n.f_line_share n.fd_line_share ["keys", "wide", "prime", "members", "key"] (sp_line_share a)) (G_law_taken : FM P w K mg base 1 n.f_law_taken n.fd_law_taken ["_law_row_here", "_law_many"] (sp_law_taken a)) (A0 : Around) (outer0 : List Env) (s0 : Shared) (H0 : Hp) (E0 : XK) (E : XK) (f c' : Addr) (A : Around) (outer : List Env) (s : Shared) (H : Hp) (hr : Room 4 (A.deeper (LamX.lamEnv (cx_law P w K mg base n A0 outer0 s0 H0 E0) (ltab_law 6).scope s.heap.objs.size f c'))) : ME (LamX.lamCx (cx_law P w K mg base n A0 outer0 s0 H0 E0) A outer s H E (ltab_law 6).scope f c') (fun cls d _ H => E cls d H) (ltab_law 6).body (tl_law_6 a) := by
  have tk := takes_of (X := LamX.lamCx (cx_law P w K mg base n A0 outer0 s0 H0 E0) A outer s H E (ltab_law 6).scope f c') rfl rfl rfl rfl
  exact me_call G_line_share (hr.mono (by first | decide | omega)) (by rfl) T.g_line_share T.F_line_share.kp T.b_line_share .nil (fun _ _ => .nil) tk (ma_cons (mv_var (pv 3)) (ma_cons (mv_var (pv 4)) (ma_cons (mv_var (pv 2)) (ma_cons (mv_var (pv 8)) (ma_cons (mv (me_ix (hu_of hr) (mv (me_add (mv_var (pv 8)) (mv_tup (ma_cons (mv (me_add (mv_var (pv 3)) (mv_var (pv 15)))) (ma_nil))))) (mv_int))) (ma_nil))))))
set_option maxHeartbeats 4000000 in
theorem dl_law_7 (T : Txt K mg a n) (G_line : FM P w K mg base 3 n.f_line n.fd_line ["keys", "wide", "prime", "times", "more"] (sp_line a)) (G_line_share : FM P w K mg base 4 n.f_line_share n.fd_line_share ["keys", "wide", "prime", "members", "key"] (sp_line_share a)) (G_law_taken : FM P w K mg base 1 n.f_law_taken n.fd_law_taken ["_law_row_here", "_law_many"] (sp_law_taken a)) (A0 : Around) (outer0 : List Env) (s0 : Shared) (H0 : Hp) (E0 : XK) (E : XK) (f c' : Addr) (A : Around) (outer : List Env) (s : Shared) (H : Hp) (hr : Room 4 (A.deeper (LamX.lamEnv (cx_law P w K mg base n A0 outer0 s0 H0 E0) (ltab_law 7).scope s.heap.objs.size f c'))) : ME (LamX.lamCx (cx_law P w K mg base n A0 outer0 s0 H0 E0) A outer s H E (ltab_law 7).scope f c') (fun cls d _ H => E cls d H) (ltab_law 7).body (tl_law_7 a) := by
  have tk := takes_of (X := LamX.lamCx (cx_law P w K mg base n A0 outer0 s0 H0 E0) A outer s H E (ltab_law 7).scope f c') rfl rfl rfl rfl
  exact me_call G_line_share (hr.mono (by first | decide | omega)) (by rfl) T.g_line_share T.F_line_share.kp T.b_line_share .nil (fun _ _ => .nil) tk (ma_cons (mv_var (pv 3)) (ma_cons (mv_var (pv 4)) (ma_cons (mv_var (pv 2)) (ma_cons (mv_tup (ma_cons (mv_var (pv 3)) (ma_nil))) (ma_cons (mv_int) (ma_nil))))))
theorem hb_law (T : Txt K mg a n) (G_line : FM P w K mg base 3 n.f_line n.fd_line ["keys", "wide", "prime", "times", "more"] (sp_line a)) (G_line_share : FM P w K mg base 4 n.f_line_share n.fd_line_share ["keys", "wide", "prime", "members", "key"] (sp_line_share a)) (G_law_taken : FM P w K mg base 1 n.f_law_taken n.fd_law_taken ["_law_row_here", "_law_many"] (sp_law_taken a)) (A0 : Around) (outer0 : List Env) (s0 : Shared) (H0 : Hp) (E0 : XK) : ∀ j, j < 8 → LamS3 (cx_law P w K mg base n A0 outer0 s0 H0 E0).N [12, 13] (cx_law P w K mg base n A0 outer0 s0 H0 E0).env.scope ((lx_law (cx_law P w K mg base n A0 outer0 s0 H0 E0)).lam j).scope ∧ LamBind ((lx_law (cx_law P w K mg base n A0 outer0 s0 H0 E0)).lam j) ∧ ∀ (E : XK) (f c' : Addr) (A : Around) (outer : List Env) (s : Shared) (H : Hp), Room 4 (A.deeper (LamX.lamEnv (cx_law P w K mg base n A0 outer0 s0 H0 E0) ((lx_law (cx_law P w K mg base n A0 outer0 s0 H0 E0)).lam j).scope s.heap.objs.size f c')) → ME (LamX.lamCx (cx_law P w K mg base n A0 outer0 s0 H0 E0) A outer s H E ((lx_law (cx_law P w K mg base n A0 outer0 s0 H0 E0)).lam j).scope f c') (fun cls d _ H => E cls d H) ((lx_law (cx_law P w K mg base n A0 outer0 s0 H0 E0)).lam j).body (tabs_law a j)
  | 0, _ => ⟨ls_law_0, lb_law_0, fun E f c' A outer s H hr => dl_law_0 T G_line G_line_share G_law_taken A0 outer0 s0 H0 E0 E f c' A outer s H hr⟩
  | 1, _ => ⟨ls_law_1, lb_law_1, fun E f c' A outer s H hr => dl_law_1 T G_line G_line_share G_law_taken A0 outer0 s0 H0 E0 E f c' A outer s H hr⟩
  | 2, _ => ⟨ls_law_2, lb_law_2, fun E f c' A outer s H hr => dl_law_2 T G_line G_line_share G_law_taken A0 outer0 s0 H0 E0 E f c' A outer s H hr⟩
  | 3, _ => ⟨ls_law_3, lb_law_3, fun E f c' A outer s H hr => dl_law_3 T G_line G_line_share G_law_taken A0 outer0 s0 H0 E0 E f c' A outer s H hr⟩
  | 4, _ => ⟨ls_law_4, lb_law_4, fun E f c' A outer s H hr => dl_law_4 T G_line G_line_share G_law_taken A0 outer0 s0 H0 E0 E f c' A outer s H hr⟩
  | 5, _ => ⟨ls_law_5, lb_law_5, fun E f c' A outer s H hr => dl_law_5 T G_line G_line_share G_law_taken A0 outer0 s0 H0 E0 E f c' A outer s H hr⟩
  | 6, _ => ⟨ls_law_6, lb_law_6, fun E f c' A outer s H hr => dl_law_6 T G_line G_line_share G_law_taken A0 outer0 s0 H0 E0 E f c' A outer s H hr⟩
  | 7, _ => ⟨ls_law_7, lb_law_7, fun E f c' A outer s H hr => dl_law_7 T G_line G_line_share G_law_taken A0 outer0 s0 H0 E0 E f c' A outer s H hr⟩
  | j + 8, h => absurd h (by omega)
set_option maxHeartbeats 4000000 in
theorem d_law  (T : Txt K mg a n) (G_law_row : FM P w K mg base 1 n.f_law_row n.fd_law_row ["_law_script"] (sp_law_row a)) (G_law_taken : FM P w K mg base 1 n.f_law_taken n.fd_law_taken ["_law_row_here", "_law_many"] (sp_law_taken a)) (G_line : FM P w K mg base 3 n.f_line n.fd_line ["keys", "wide", "prime", "times", "more"] (sp_line a)) (G_law_alike : FM P w K mg base 6 n.f_law_alike n.fd_law_alike ["_law_found", "_law_due"] (sp_law_alike a 6)) (G_law_members : FM P w K mg base 2 n.f_law_members n.fd_law_members ["_law_row_here", "_law_keys"] (sp_law_members a)) (G_line_share : FM P w K mg base 4 n.f_line_share n.fd_line_share ["keys", "wide", "prime", "members", "key"] (sp_line_share a)) (G_law_part : FM P w K mg base 2 n.f_law_part n.fd_law_part ["_law_high_end", "_law_under"] (sp_law_part a)) (TB_law : LamX.TabB base mg n.cc_law n.pt_law) (A : Around) (outer : List Env) (s : Shared) (H : Hp) (E : XK) (hr : Room 6 (A.deeper (envOfC "law" (defScope s_law) s.heap.objs.size n.f_law n.fd_law.code))) : MB (cx_law P w K mg base n A outer s H E) (WB E) (defBody s_law) (t_law a (lx_law (cx_law P w K mg base n A outer s H E))) := by
  have tk := takes_of (X := cx_law P w K mg base n A outer s H E) rfl rfl rfl rfl
  have hb := hb_law (P := P) (w := w) (base := base) T G_line G_line_share G_law_taken A outer s H E
  exact mb_cons (ms_set (i := 1) sc_law.nd rfl (Or.inr rfl) (mv (me_cell (me_call G_law_row (hr.mono (by first | decide | omega)) (by rfl) T.g_law_row T.F_law_row.kp T.b_law_row .nil (fun _ _ => .nil) tk (ma_cons (mv_var (pv 0)) (ma_nil)))))) (
  mb_cons (ms_set (i := 2) sc_law.nd rfl (Or.inr rfl) (mv (me_ix (hu_of hr) (mv (me_lst (ma_cons (mv_int) (ma_cons (mv_int) (ma_cons (mv_int) (ma_cons (mv_int) (ma_cons (mv_int) (ma_cons (mv_int) (ma_cons (mv_int) (ma_cons (mv_int) (ma_nil))))))))))) (mv (me_call G_law_taken (hr.mono (by first | decide | omega)) (by rfl) T.g_law_taken T.F_law_taken.kp T.b_law_taken .nil (fun _ _ => .nil) tk (ma_cons (mv_var (pv 1)) (ma_cons (mv_int) (ma_nil)))))))) (
  mb_cons (ms_asg (ws := [3, 4]) (mv_tup (ma_cons (mv (me_add (mv_int) (mv (me_call G_law_taken (hr.mono (by first | decide | omega)) (by rfl) T.g_law_taken T.F_law_taken.kp T.b_law_taken .nil (fun _ _ => .nil) tk (ma_cons (mv_var (pv 1)) (ma_cons (mv (me_callB (call_min2 rfl) has_min2 (by rfl) T.z_min (by decide +kernel) (ma_cons (mv_var (pv 2)) (ma_cons (mv_int) (ma_nil))))) (ma_nil))))))) (ma_cons (mv (me_add (mv_int) (mv (me_call G_law_taken (hr.mono (by first | decide | omega)) (by rfl) T.g_law_taken T.F_law_taken.kp T.b_law_taken .nil (fun _ _ => .nil) tk (ma_cons (mv_var (pv 1)) (ma_cons (mv_int) (ma_nil))))))) (ma_nil)))) (mg_tup rfl (mgs_cons (mg_name (pg_name (i := 3) sc_law.nd rfl (Or.inr rfl))) (mgs_cons (mg_name (pg_name (i := 4) sc_law.nd rfl (Or.inr rfl))) (mgs_nil))))) (
  mb_cons (ms_asg (ws := [5, 6]) (mv_tup (ma_cons (mv (me_add (mv_int) (mv (me_call G_law_taken (hr.mono (by first | decide | omega)) (by rfl) T.g_law_taken T.F_law_taken.kp T.b_law_taken .nil (fun _ _ => .nil) tk (ma_cons (mv_var (pv 1)) (ma_cons (mv (me_sub (mv_var (pv 2)) (mv_int))) (ma_nil))))))) (ma_cons (mv (me_call G_law_taken (hr.mono (by first | decide | omega)) (by rfl) T.g_law_taken T.F_law_taken.kp T.b_law_taken .nil (fun _ _ => .nil) tk (ma_cons (mv_var (pv 1)) (ma_cons (mv_var (pv 2)) (ma_nil))))) (ma_nil)))) (mg_tup rfl (mgs_cons (mg_name (pg_name (i := 5) sc_law.nd rfl (Or.inr rfl))) (mgs_cons (mg_name (pg_name (i := 6) sc_law.nd rfl (Or.inr rfl))) (mgs_nil))))) (
  mb_cons (ms_set (i := 7) sc_law.nd rfl (Or.inl rfl) (mv (me_callT call_tuple_of has_tuple (by rfl) T.z_tuple (by decide +kernel) (ma_cons (mv (me_lc (own := [("_law_key", 10)]) rfl sc_law.nd (mi_range1 (by rfl) T.z_range (ma_cons (mv_var (pv 3)) (ma_nil))) (blkOk_by (N := ["_law_script", "_law_row_here", "_law_prime", "_law_keys", "_law_cells", "_law_oft", "_law_more", "_law_due", "_law_members_here", "_law_others", "_law_key", "_law_count", "_law_a", "_law_b", "_law_mine", "_law_far", "_law_bad", "_law_works", "_law_work", "_law_one"]) (sc := defScope s_law) (own := [("_law_key", 10)]) (by decide +kernel)) (fun _ _ _ _ _ => mg_name (pg_name (i := 10) sc_law.nd rfl (Or.inl rfl))) (fun _ _ _ _ _ => mts_nil) (fun _ _ _ _ _ => mv (me_mod (mv (me_mod (mv (me_add (mv (me_mul (mv_var (pv 5)) (mv_var (pv 10)))) (mv_var (pv 6)))) (mv_var (pv 2)))) (mv_var (pv 4)))))) (ma_nil))))) (
  mb_cons (ms_if (mt_not (mt_of (mv (me_call G_law_alike (hr.mono (by first | decide | omega)) (by rfl) T.g_law_alike T.F_law_alike.kp T.b_law_alike .nil (fun _ _ => .nil) tk (ma_cons (mv (me_call G_line (hr.mono (by first | decide | omega)) (by rfl) T.g_line T.F_line.kp T.b_line .nil (fun _ _ => .nil) tk (ma_cons (mv_var (pv 3)) (ma_cons (mv_var (pv 4)) (ma_cons (mv_var (pv 2)) (ma_cons (mv_var (pv 5)) (ma_cons (mv_var (pv 6)) (ma_nil)))))))) (ma_cons (mv_var (pv 7)) (ma_nil))))))) (mb_one (ms_ret (me (mv_bl)))) (mb_nil)) (
  mb_cons (ms_set (i := 8) sc_law.nd rfl (Or.inr rfl) (mv (me_call G_law_members (hr.mono (by first | decide | omega)) (by rfl) T.g_law_members T.F_law_members.kp T.b_law_members .nil (fun _ _ => .nil) tk (ma_cons (mv_var (pv 1)) (ma_cons (mv_var (pv 3)) (ma_nil)))))) (
  mb_cons (ms_setLc (i := 9) (own := [("_law_key", 10)]) rfl sc_law.nd rfl rfl (sw_true rfl rfl rfl (by decide +kernel)) (mi_range1 (by rfl) T.z_range (ma_cons (mv_var (pv 3)) (ma_nil))) (blkOk_by (N := ["_law_script", "_law_row_here", "_law_prime", "_law_keys", "_law_cells", "_law_oft", "_law_more", "_law_due", "_law_members_here", "_law_others", "_law_key", "_law_count", "_law_a", "_law_b", "_law_mine", "_law_far", "_law_bad", "_law_works", "_law_work", "_law_one"]) (sc := defScope s_law) (own := [("_law_key", 10)]) (by decide +kernel)) (fun _ _ _ _ _ => mg_name (pg_name (i := 10) sc_law.nd rfl (Or.inl rfl))) (fun _ _ _ _ _ => mts_one (mt_cmp (op_notInA (hu_of hr)) has_in (mv_var (pv 10)) (mv_var (pv 8)) (by rfl))) (fun _ _ _ _ _ => mv_var (pv 10)) via_id) (
  mb_cons (ms_forget [10, 11, 12, 13, 14] (ms_if (mt_cmp (op_neD hr.units) has_ne (mv_var (pv 9)) (mv (me_lst (ma_nil))) (nomark _)) (mb_cons (ms_set (i := 10) sc_law.nd rfl (Or.inl rfl) (mv (me_ix (hu_of hr) (mv_var (pv 9)) (mv (me_call G_law_taken (hr.mono (by first | decide | omega)) (by rfl) T.g_law_taken T.F_law_taken.kp T.b_law_taken .nil (fun _ _ => .nil) tk (ma_cons (mv_var (pv 1)) (ma_cons (mv (me_callB call_lenA has_len (by rfl) T.z_len (by decide +kernel) (ma_cons (mv_var (pv 9)) (ma_nil)))) (ma_nil)))))))) (
  mb_cons (ms_set (i := 11) sc_law.nd rfl (Or.inl rfl) (mv_int)) (
  mb_cons (ms_forget [12, 13, 14] (ms_for (ws := [12]) (passes_of rfl) rfl (mi_range2 (by rfl) T.z_range (ma_cons (mv_int) (ma_cons (mv_var (pv 2)) (ma_nil)))) (mg_name (pg_name (i := 12) sc_law.nd rfl (Or.inr rfl))) (
   mb_forget [12, 13, 14] (mb_one (ms_forget [13, 14] (ms_for (ws := [13]) (passes_of rfl) rfl (mi_range1 (by rfl) T.z_range (ma_cons (mv_var (pv 2)) (ma_nil))) (mg_name (pg_name (i := 13) sc_law.nd rfl (Or.inr rfl))) (
   mb_forget [13, 14] (mb_cons (ms_set (i := 14) sc_law.nd rfl (Or.inl rfl) (mv (me_mod (mv (me_mod (mv (me_add (mv (me_mul (mv_var (pv 12)) (mv_var (pv 10)))) (mv_var (pv 13)))) (mv_var (pv 2)))) (mv_var (pv 4))))) (
  mb_one (ms_set (i := 11) sc_law.nd rfl (Or.inl rfl) (mv (me_add (mv_var (pv 11)) (mv (me_callT call_int1 has_intC (by rfl) T.z_int (by decide +kernel) (ma_cons (mv (me_cmp (op_inA (hu_of hr)) has_in (mv_var (pv 14)) (mv (me_lc (own := [("_law_one", 19)]) rfl sc_law.nd (mi_seq (mv_var (pv 8))) (blkOk_by (N := ["_law_script", "_law_row_here", "_law_prime", "_law_keys", "_law_cells", "_law_oft", "_law_more", "_law_due", "_law_members_here", "_law_others", "_law_key", "_law_count", "_law_a", "_law_b", "_law_mine", "_law_far", "_law_bad", "_law_works", "_law_work", "_law_one"]) (sc := defScope s_law) (own := [("_law_one", 19)]) (by decide +kernel)) (fun _ _ _ _ _ => mg_name (pg_name (i := 19) sc_law.nd rfl (Or.inl rfl))) (fun _ _ _ _ _ => mts_nil) (fun _ _ _ _ _ => mv (me_mod (mv (me_mod (mv (me_add (mv (me_mul (mv_var (pv 12)) (mv_var (pv 19)))) (mv_var (pv 13)))) (mv_var (pv 2)))) (mv_var (pv 4)))))) (by rfl))) (ma_nil)))))))))))))))) (
  mb_one (ms_if (mt_not (mt_of (mv (me_call G_law_alike (hr.mono (by first | decide | omega)) (by rfl) T.g_law_alike T.F_law_alike.kp T.b_law_alike .nil (fun _ _ => .nil) tk (ma_cons (mv (me_call G_line_share (hr.mono (by first | decide | omega)) (by rfl) T.g_line_share T.F_line_share.kp T.b_line_share .nil (fun _ _ => .nil) tk (ma_cons (mv_var (pv 3)) (ma_cons (mv_var (pv 4)) (ma_cons (mv_var (pv 2)) (ma_cons (mv_var (pv 8)) (ma_cons (mv_var (pv 10)) (ma_nil)))))))) (ma_cons (mv (me_call G_law_part (hr.mono (by first | decide | omega)) (by rfl) T.g_law_part T.F_law_part.kp T.b_law_part .nil (fun _ _ => .nil) tk (ma_cons (mv_var (pv 11)) (ma_cons (mv (me_mul (mv_var (pv 2)) (mv (me_sub (mv_var (pv 2)) (mv_int))))) (ma_nil))))) (ma_nil))))))) (mb_one (ms_ret (me (mv_bl)))) (mb_nil)))))) (mb_nil))) (
  mb_cons (ms_set (i := 15) sc_law.nd rfl (Or.inr rfl) (mv (me_mul (mv (me_call G_law_taken (hr.mono (by first | decide | omega)) (by rfl) T.g_law_taken T.F_law_taken.kp T.b_law_taken .nil (fun _ _ => .nil) tk (ma_cons (mv_var (pv 1)) (ma_cons (mv_int) (ma_nil))))) (mv (me_call G_law_taken (hr.mono (by first | decide | omega)) (by rfl) T.g_law_taken T.F_law_taken.kp T.b_law_taken .nil (fun _ _ => .nil) tk (ma_cons (mv_var (pv 1)) (ma_cons (mv_int) (ma_nil)))))))) (
  mb_cons (ms_set (i := 16) sc_law.nd rfl (Or.inr rfl) (mv (me_ix (hu_of hr) (mv (me_lst (ma_cons (mv_int) (ma_cons (mv_int) (ma_cons (mv (me_add (mv_int) (mv_var (pv 15)))) (ma_cons (mv_int) (ma_cons (mv_int) (ma_cons (mv_non) (ma_cons (mv_bl) (ma_cons (mv_str) (ma_cons (mv (me_ite (mt_cmp op_lt (has_int0 fun _ _ _ => .bl _) (mv_var (pv 3)) (mv_int) (nomark _)) (me_sub (mv_var (pv 3)) (mv_int)) (me (mv_int)))) (ma_cons (mv_int) (ma_cons (mv_int) (ma_cons (mv_int) (ma_cons (mv_int) (ma_nil)))))))))))))))) (mv (me_call G_law_taken (hr.mono (by first | decide | omega)) (by rfl) T.g_law_taken T.F_law_taken.kp T.b_law_taken .nil (fun _ _ => .nil) tk (ma_cons (mv_var (pv 1)) (ma_cons (mv_int) (ma_nil)))))))) (
  mb_cons (ms_set (i := 17) sc_law.nd rfl (Or.inl rfl) (mv (me_cell (me_lst (ma_cons (mv_lam (c := (lx_law (cx_law P w K mg base n A outer s H E))) (j := 0) TB_law T.code_law T.zt_law rfl rfl rfl (fun ok => LamS3.has ls_law_0 ok) ⟨rfl, .inl rfl⟩) (ma_cons (mv_lam (c := (lx_law (cx_law P w K mg base n A outer s H E))) (j := 1) TB_law T.code_law T.zt_law rfl rfl rfl (fun ok => LamS3.has ls_law_1 ok) ⟨rfl, .inr ⟨_, _, rfl⟩⟩) (ma_nil))))))) (
  mb_cons (ms_set (i := 17) sc_law.nd rfl (Or.inl rfl) (mv (me_cell (me_add (mv_var (pv 17)) (mv (me_lst (ma_cons (mv_lam (c := (lx_law (cx_law P w K mg base n A outer s H E))) (j := 2) TB_law T.code_law T.zt_law rfl rfl rfl (fun ok => LamS3.has ls_law_2 ok) ⟨rfl, .inr ⟨_, _, rfl⟩⟩) (ma_nil)))))))) (
  mb_cons (ms_set (i := 17) sc_law.nd rfl (Or.inl rfl) (mv (me_cell (me_add (mv_var (pv 17)) (mv (me_lst (ma_cons (mv_lam (c := (lx_law (cx_law P w K mg base n A outer s H E))) (j := 3) TB_law T.code_law T.zt_law rfl rfl rfl (fun ok => LamS3.has ls_law_3 ok) ⟨rfl, .inr ⟨_, _, rfl⟩⟩) (ma_nil)))))))) (
  mb_cons (ms_set (i := 17) sc_law.nd rfl (Or.inl rfl) (mv (me_cell (me_add (mv_var (pv 17)) (mv (me_lst (ma_cons (mv_lam (c := (lx_law (cx_law P w K mg base n A outer s H E))) (j := 4) TB_law T.code_law T.zt_law rfl rfl rfl (fun ok => LamS3.has ls_law_4 ok) ⟨rfl, .inr ⟨_, _, rfl⟩⟩) (ma_nil)))))))) (
  mb_cons (ms_set (i := 17) sc_law.nd rfl (Or.inl rfl) (mv (me_cell (me_add (mv_var (pv 17)) (mv (me_lst (ma_cons (mv_lam (c := (lx_law (cx_law P w K mg base n A outer s H E))) (j := 5) TB_law T.code_law T.zt_law rfl rfl rfl (fun ok => LamS3.has ls_law_5 ok) ⟨rfl, .inr ⟨_, _, rfl⟩⟩) (ma_nil)))))))) (
  mb_cons (ms_expr (me_append (mv_var (pv 17)) (mv_lam (c := (lx_law (cx_law P w K mg base n A outer s H E))) (j := 6) TB_law T.code_law T.zt_law rfl rfl rfl (fun ok => LamS3.has ls_law_6 ok) ⟨rfl, .inr ⟨_, _, rfl⟩⟩))) (
  mb_cons (ms_if (mt_cmp (op_neD hr.units) has_ne (mv (me_lcS (own := [("_law_work", 18)]) rfl sc_law.nd (mi_seq (mv_var (pv 17))) (blkOk_by (N := ["_law_script", "_law_row_here", "_law_prime", "_law_keys", "_law_cells", "_law_oft", "_law_more", "_law_due", "_law_members_here", "_law_others", "_law_key", "_law_count", "_law_a", "_law_b", "_law_mine", "_law_far", "_law_bad", "_law_works", "_law_work", "_law_one"]) (sc := defScope s_law) (own := [("_law_work", 18)]) (by decide +kernel)) (fun _ _ _ _ _ => mg_name (pg_name (i := 18) sc_law.nd rfl (Or.inl rfl))) (fun _ _ _ _ _ _ _ I f => tss_one (ts_cmp (op_neD hr.units) has_ne (vsE ((fun B => pe_wordC (a := a) (c := (lx_law (cx_law P w K mg base n A outer s H E))) (n := 8) (tab := tabs_law a) (k := 4) (ws := [12, 13] ++ [18]) (lw := [12, 13]) (own := [18]) rfl (fun i hi => List.mem_append_left _ hi) I f T.F_law_word sc_law_word T.b_law_word (wok_ T.wf) hr (by rfl) T.g_law_word (mv_var (pv 18)) (Or.inl rfl) rfl rfl hb))) (vs_of (mv_tup (ma_cons (mv_str) (ma_cons (mv_non) (ma_nil))))) (nomark _))) (fun _ _ _ _ _ _ _ I f => vs_of (mv_var (pv 18))))) (mv (me_lst (ma_nil))) (nomark _)) (mb_one (ms_ret (me (mv_bl)))) (mb_nil)) (
  mb_one (ms_ret (me_cmp (op_eqD hr.units) has_eq (mv (me_word (a := a) (c := (lx_law (cx_law P w K mg base n A outer s H E))) (n := 8) (tab := tabs_law a) (lw := [12, 13]) (k := 4) T.F_law_word sc_law_word T.b_law_word (wok_ T.wf) hr (by rfl) T.g_law_word (mv_lam (c := (lx_law (cx_law P w K mg base n A outer s H E))) (j := 7) TB_law T.code_law T.zt_law rfl rfl rfl (fun ok => LamS3.has ls_law_7 ok) ⟨rfl, .inl rfl⟩) (Or.inl rfl) rfl rfl hb)) (mv_tup (ma_cons (mv_str) (ma_cons (mv_int) (ma_nil)))) (nomark _)))))))))))))))))))))
end
end M3
set_option Elab.async false
set_option linter.all false
set_option maxRecDepth 100000
set_option maxHeartbeats 4000000
namespace M3
open PySem PySem.Spec PyProof.Rows L2
theorem len_law_row {a : Ad} : ∀ ds h Kn Kx, sp_law_row a ds h Kn Kx → ds.length = (["_law_script"] : List Str).length := by
  intro ds h Kn Kx q
  unfold sp_law_row at q
  repeat (first | (obtain ⟨rfl, _⟩ := q; rfl) | (obtain ⟨_, q⟩ := q))
theorem len_law_taken {a : Ad} : ∀ ds h Kn Kx, sp_law_taken a ds h Kn Kx → ds.length = (["_law_row_here", "_law_many"] : List Str).length := by
  intro ds h Kn Kx q
  unfold sp_law_taken at q
  repeat (first | (obtain ⟨rfl, _⟩ := q; rfl) | (obtain ⟨_, q⟩ := q))
theorem len_is_number {a : Ad} : ∀ ds h Kn Kx, sp_is_number a ds h Kn Kx → ds.length = (["part", "low", "high"] : List Str).length := by
  intro ds h Kn Kx q
  unfold sp_is_number at q
  repeat (first | (obtain ⟨rfl, _⟩ := q; rfl) | (obtain ⟨_, q⟩ := q))
theorem len_is_prime {a : Ad} : ∀ ds h Kn Kx, sp_is_prime a ds h Kn Kx → ds.length = (["number"] : List Str).length := by
  intro ds h Kn Kx q
  unfold sp_is_prime at q
  repeat (first | (obtain ⟨rfl, _⟩ := q; rfl) | (obtain ⟨_, q⟩ := q))
theorem len_need_line {a : Ad} : ∀ ds h Kn Kx, sp_need_line a ds h Kn Kx → ds.length = (["keys", "wide", "prime"] : List Str).length := by
  intro ds h Kn Kx q
  unfold sp_need_line at q
  repeat (first | (obtain ⟨rfl, _⟩ := q; rfl) | (obtain ⟨_, q⟩ := q))
theorem len_line_row {a : Ad} : ∀ ds h Kn Kx, sp_line_row a ds h Kn Kx → ds.length = (["keys", "wide", "prime", "times", "more"] : List Str).length := by
  intro ds h Kn Kx q
  unfold sp_line_row at q
  repeat (first | (obtain ⟨rfl, _⟩ := q; rfl) | (obtain ⟨_, q⟩ := q))
theorem len_line {a : Ad} : ∀ ds h Kn Kx, sp_line a ds h Kn Kx → ds.length = (["keys", "wide", "prime", "times", "more"] : List Str).length := by
  intro ds h Kn Kx q
  unfold sp_line at q
  repeat (first | (obtain ⟨rfl, _⟩ := q; rfl) | (obtain ⟨_, q⟩ := q))
theorem len_law_alike {a : Ad} {k : Nat} : ∀ ds h Kn Kx, sp_law_alike a (k + 1) ds h Kn Kx → ds.length = (["_law_found", "_law_due"] : List Str).length := by
  intro ds h Kn Kx q
  unfold sp_law_alike at q
  repeat (first | (obtain ⟨rfl, _⟩ := q; rfl) | (obtain ⟨_, q⟩ := q))
theorem len_law_members {a : Ad} : ∀ ds h Kn Kx, sp_law_members a ds h Kn Kx → ds.length = (["_law_row_here", "_law_keys"] : List Str).length := by
  intro ds h Kn Kx q
  unfold sp_law_members at q
  repeat (first | (obtain ⟨rfl, _⟩ := q; rfl) | (obtain ⟨_, q⟩ := q))
theorem len_need_members {a : Ad} : ∀ ds h Kn Kx, sp_need_members a ds h Kn Kx → ds.length = (["keys", "members"] : List Str).length := by
  intro ds h Kn Kx q
  unfold sp_need_members at q
  repeat (first | (obtain ⟨rfl, _⟩ := q; rfl) | (obtain ⟨_, q⟩ := q))
theorem len_divisor {a : Ad} : ∀ ds h Kn Kx, sp_divisor a ds h Kn Kx → ds.length = (["one", "other"] : List Str).length := by
  intro ds h Kn Kx q
  unfold sp_divisor at q
  repeat (first | (obtain ⟨rfl, _⟩ := q; rfl) | (obtain ⟨_, q⟩ := q))
theorem len_part {a : Ad} : ∀ ds h Kn Kx, sp_part a ds h Kn Kx → ds.length = (["top", "under"] : List Str).length := by
  intro ds h Kn Kx q
  unfold sp_part at q
  repeat (first | (obtain ⟨rfl, _⟩ := q; rfl) | (obtain ⟨_, q⟩ := q))
theorem len_line_share {a : Ad} : ∀ ds h Kn Kx, sp_line_share a ds h Kn Kx → ds.length = (["keys", "wide", "prime", "members", "key"] : List Str).length := by
  intro ds h Kn Kx q
  unfold sp_line_share at q
  repeat (first | (obtain ⟨rfl, _⟩ := q; rfl) | (obtain ⟨_, q⟩ := q))
theorem len_law_gcd {a : Ad} : ∀ ds h Kn Kx, sp_law_gcd a ds h Kn Kx → ds.length = (["_law_one", "_law_other"] : List Str).length := by
  intro ds h Kn Kx q
  unfold sp_law_gcd at q
  repeat (first | (obtain ⟨rfl, _⟩ := q; rfl) | (obtain ⟨_, q⟩ := q))
theorem len_law_part {a : Ad} : ∀ ds h Kn Kx, sp_law_part a ds h Kn Kx → ds.length = (["_law_high_end", "_law_under"] : List Str).length := by
  intro ds h Kn Kx q
  unfold sp_law_part at q
  repeat (first | (obtain ⟨rfl, _⟩ := q; rfl) | (obtain ⟨_, q⟩ := q))
theorem len_law {a : Ad} : ∀ ds h Kn Kx, sp_law a ds h Kn Kx → ds.length = (["_law_script"] : List Str).length := by
  intro ds h Kn Kx q
  unfold sp_law at q
  repeat (first | (obtain ⟨rfl, _⟩ := q; rfl) | (obtain ⟨_, q⟩ := q))
section
variable {P : Program} {w : World} {K : Kf} {mg : Str → Option Value} {base : Heap} {a : Ad} {n : Fns}
theorem ok_law_row (T : Txt K mg a n) : FM P w K mg base 1 n.f_law_row n.fd_law_row ["_law_script"] (sp_law_row a) := fm_of T.F_law_row sc_law_row len_law_row fun cdv A outer s H E hr => ⟨_, d_law_row T  cdv A outer s H E hr, fun ds h Kn Kx q => rd_law_row ds h Kn Kx q⟩
theorem ok_law_taken (T : Txt K mg a n) : FM P w K mg base 1 n.f_law_taken n.fd_law_taken ["_law_row_here", "_law_many"] (sp_law_taken a) := fm_of T.F_law_taken sc_law_taken len_law_taken fun cdv A outer s H E hr => ⟨_, d_law_taken T  cdv A outer s H E hr, fun ds h Kn Kx q => rd_law_taken ds h Kn Kx q⟩
theorem ok_is_number (T : Txt K mg a n) : FM P w K mg base 1 n.f_is_number n.fd_is_number ["part", "low", "high"] (sp_is_number a) := fm_of T.F_is_number sc_is_number len_is_number fun cdv A outer s H E hr => ⟨_, d_is_number T  cdv A outer s H E hr, fun ds h Kn Kx q => rd_is_number ds h Kn Kx q⟩
theorem ok_is_prime (T : Txt K mg a n) : FM P w K mg base 1 n.f_is_prime n.fd_is_prime ["number"] (sp_is_prime a) := fm_of T.F_is_prime sc_is_prime len_is_prime fun cdv A outer s H E hr => ⟨_, d_is_prime T  cdv A outer s H E hr, fun ds h Kn Kx q => rd_is_prime ds h Kn Kx q⟩
theorem ok_need_line (T : Txt K mg a n) : FM P w K mg base 2 n.f_need_line n.fd_need_line ["keys", "wide", "prime"] (sp_need_line a) := fm_of T.F_need_line sc_need_line len_need_line fun cdv A outer s H E hr => ⟨_, d_need_line T (ok_is_number T) (ok_is_prime T) cdv A outer s H E hr, fun ds h Kn Kx q => rd_need_line ds h Kn Kx q⟩
theorem ok_line_row (T : Txt K mg a n) : FM P w K mg base 1 n.f_line_row n.fd_line_row ["keys", "wide", "prime", "times", "more"] (sp_line_row a) := fm_of T.F_line_row sc_line_row len_line_row fun cdv A outer s H E hr => ⟨_, d_line_row T  cdv A outer s H E hr, fun ds h Kn Kx q => rd_line_row ds h Kn Kx q⟩
theorem ok_line (T : Txt K mg a n) : FM P w K mg base 3 n.f_line n.fd_line ["keys", "wide", "prime", "times", "more"] (sp_line a) := fm_of T.F_line sc_line len_line fun cdv A outer s H E hr => ⟨_, d_line T (ok_need_line T) (ok_is_number T) (ok_line_row T) cdv A outer s H E hr, fun ds h Kn Kx q => rd_line ds h Kn Kx q⟩
theorem ok_law_alike (T : Txt K mg a n) : ∀ k, FM P w K mg base k n.f_law_alike n.fd_law_alike ["_law_found", "_law_due"] (sp_law_alike a k)
  | 0 => ⟨fun _ _ _ _ ⟨_, _, _, _, _, _, _, _, q, _⟩ => q.elim, fun _ _ _ _ _ _ _ _ _ _ _ _ _ ⟨_, _, _, _, _, _, _, _, q, _⟩ => q.elim⟩
  | k + 1 => fm_of T.F_law_alike sc_law_alike len_law_alike fun cdv A outer s H E hr => ⟨_, d_law_alike k T (ok_law_alike T k) cdv A outer s H E hr, fun ds h Kn Kx q => rd_law_alike ds h Kn Kx q⟩
theorem ok_law_members (T : Txt K mg a n) : FM P w K mg base 2 n.f_law_members n.fd_law_members ["_law_row_here", "_law_keys"] (sp_law_members a) := fm_of T.F_law_members sc_law_members len_law_members fun cdv A outer s H E hr => ⟨_, d_law_members T (ok_law_taken T) cdv A outer s H E hr, fun ds h Kn Kx q => rd_law_members ds h Kn Kx q⟩
theorem ok_need_members (T : Txt K mg a n) : FM P w K mg base 3 n.f_need_members n.fd_need_members ["keys", "members"] (sp_need_members a) := fm_of T.F_need_members sc_need_members len_need_members fun cdv A outer s H E hr => ⟨_, d_need_members T (ok_is_number T) cdv A outer s H E hr, fun ds h Kn Kx q => rd_need_members ds h Kn Kx q⟩
theorem ok_divisor (T : Txt K mg a n) : FM P w K mg base 1 n.f_divisor n.fd_divisor ["one", "other"] (sp_divisor a) := fm_of T.F_divisor sc_divisor len_divisor fun cdv A outer s H E hr => ⟨_, d_divisor T  cdv A outer s H E hr, fun ds h Kn Kx q => rd_divisor ds h Kn Kx q⟩
theorem ok_part (T : Txt K mg a n) : FM P w K mg base 2 n.f_part n.fd_part ["top", "under"] (sp_part a) := fm_of T.F_part sc_part len_part fun cdv A outer s H E hr => ⟨_, d_part T (ok_divisor T) cdv A outer s H E hr, fun ds h Kn Kx q => rd_part ds h Kn Kx q⟩
theorem ok_line_share (T : Txt K mg a n) : FM P w K mg base 4 n.f_line_share n.fd_line_share ["keys", "wide", "prime", "members", "key"] (sp_line_share a) := fm_of T.F_line_share sc_line_share len_line_share fun cdv A outer s H E hr => ⟨_, d_line_share T (ok_need_line T) (ok_need_members T) (ok_is_number T) (ok_line_row T) (ok_part T) cdv A outer s H E hr, fun ds h Kn Kx q => rd_line_share ds h Kn Kx q⟩
theorem ok_law_gcd (T : Txt K mg a n) : FM P w K mg base 1 n.f_law_gcd n.fd_law_gcd ["_law_one", "_law_other"] (sp_law_gcd a) := fm_of T.F_law_gcd sc_law_gcd len_law_gcd fun cdv A outer s H E hr => ⟨_, d_law_gcd T  cdv A outer s H E hr, fun ds h Kn Kx q => rd_law_gcd ds h Kn Kx q⟩
theorem ok_law_part (T : Txt K mg a n) : FM P w K mg base 2 n.f_law_part n.fd_law_part ["_law_high_end", "_law_under"] (sp_law_part a) := fm_of T.F_law_part sc_law_part len_law_part fun cdv A outer s H E hr => ⟨_, d_law_part T (ok_law_gcd T) cdv A outer s H E hr, fun ds h Kn Kx q => rd_law_part ds h Kn Kx q⟩
theorem ok_law (T : Txt K mg a n) (TB_law : LamX.TabB base mg n.cc_law n.pt_law) : FM P w K mg base 7 n.f_law n.fd_law ["_law_script"] (sp_law a) := fm_ofC T.F_law sc_law len_law fun A outer s H E hr => ⟨_, d_law T (ok_law_row T) (ok_law_taken T) (ok_line T) (ok_law_alike T 6) (ok_law_members T) (ok_line_share T) (ok_law_part T) TB_law A outer s H E hr, fun ds h Kn Kx q => rd_law _ ds h Kn Kx q⟩
end
def a0 : Ad := { Filter := 0, Counter := 0, Signed := 0, Heavy := 0, Fewest := 0, Desk := 0, CellError := 0, BadPlan := 0, BadKey := 0, BadCounts := 0, BadNumber := 0, BadMeet := 0, BadDeed := 0, Halted := 0, BadText := 0 }
theorem law_sp {K : Kf} {n : Nat} {H : Hp} {a : Addr} {ns : List Int} {cs : List (Addr × Addr)} (hl : ns.length ≤ n) (hS : SqL K H a (ns.map V.int)) (tb : tabsB K cs = true) (hH : ∀ p ∈ cs, H p.2 = some (.tbl #[])) : LSp K (sp_law a0) [.ref a] H (fun v _ => v = .bl true) fun _ _ _ => False := by
  obtain ⟨F, R, S⟩ := rel_start tb hH hS
  exact ⟨fun _ => none, F, fun _ => none, [.scr ns], fun r _ => r = .d (.bl true), fun _ _ => False, R, .cons (.scr S) .nil, ⟨ns, rfl, fun _ => rfl⟩, fun r h' F' H' v _ _ q e => by
    subst e
    cases q
    rfl, fun _ _ _ _ _ _ _ _ _ q => q⟩
set_option maxHeartbeats 8000000 in
theorem all_mk {l : PySem.W.OpenLaw} {w : World} {K : PySem.W.Frag} {h : Heap} {mg : Str → Option Value} {fa : Addr} (X : K.In h) (G : h.Ns mainGlobals mg) (hfa : mg "law" = some (.ref fa))
    {cc_law pt_law : Addr}
    {f_law_row : Addr} {od_law_row an_law_row : Option Addr} {sl_law_row : Array (Option Value)} {oc_law_row kV_law_row dc_law_row pm_law_row cd_law_row ct_law_row : Value}
    {f_law_taken : Addr} {od_law_taken an_law_taken : Option Addr} {sl_law_taken : Array (Option Value)} {oc_law_taken kV_law_taken dc_law_taken pm_law_taken cd_law_taken ct_law_taken : Value}
    {f_is_number : Addr} {od_is_number an_is_number : Option Addr} {sl_is_number : Array (Option Value)} {oc_is_number kV_is_number dc_is_number pm_is_number cd_is_number ct_is_number : Value}
    {f_is_prime : Addr} {od_is_prime an_is_prime : Option Addr} {sl_is_prime : Array (Option Value)} {oc_is_prime kV_is_prime dc_is_prime pm_is_prime cd_is_prime ct_is_prime : Value}
    {f_need_line : Addr} {od_need_line an_need_line : Option Addr} {sl_need_line : Array (Option Value)} {oc_need_line kV_need_line dc_need_line pm_need_line cd_need_line ct_need_line : Value}
    {f_line_row : Addr} {od_line_row an_line_row : Option Addr} {sl_line_row : Array (Option Value)} {oc_line_row kV_line_row dc_line_row pm_line_row cd_line_row ct_line_row : Value}
    {f_line : Addr} {od_line an_line : Option Addr} {sl_line : Array (Option Value)} {oc_line kV_line dc_line pm_line cd_line ct_line : Value}
    {f_law_alike : Addr} {od_law_alike an_law_alike : Option Addr} {sl_law_alike : Array (Option Value)} {oc_law_alike kV_law_alike dc_law_alike pm_law_alike cd_law_alike ct_law_alike : Value}
    {f_law_members : Addr} {od_law_members an_law_members : Option Addr} {sl_law_members : Array (Option Value)} {oc_law_members kV_law_members dc_law_members pm_law_members cd_law_members ct_law_members : Value}
    {f_need_members : Addr} {od_need_members an_need_members : Option Addr} {sl_need_members : Array (Option Value)} {oc_need_members kV_need_members dc_need_members pm_need_members cd_need_members ct_need_members : Value}
    {f_divisor : Addr} {od_divisor an_divisor : Option Addr} {sl_divisor : Array (Option Value)} {oc_divisor kV_divisor dc_divisor pm_divisor cd_divisor ct_divisor : Value}
    {f_part : Addr} {od_part an_part : Option Addr} {sl_part : Array (Option Value)} {oc_part kV_part dc_part pm_part cd_part ct_part : Value}
    {f_line_share : Addr} {od_line_share an_line_share : Option Addr} {sl_line_share : Array (Option Value)} {oc_line_share kV_line_share dc_line_share pm_line_share cd_line_share ct_line_share : Value}
    {f_law_gcd : Addr} {od_law_gcd an_law_gcd : Option Addr} {sl_law_gcd : Array (Option Value)} {oc_law_gcd kV_law_gcd dc_law_gcd pm_law_gcd cd_law_gcd ct_law_gcd : Value}
    {f_law_part : Addr} {od_law_part an_law_part : Option Addr} {sl_law_part : Array (Option Value)} {oc_law_part kV_law_part dc_law_part pm_law_part cd_law_part ct_law_part : Value}
    {f_law : Addr} {od_law an_law : Option Addr} {sl_law : Array (Option Value)} {oc_law kV_law dc_law pm_law ct_law : Value}
    {f_law_word : Addr} {od_law_word an_law_word : Option Addr} {sl_law_word : Array (Option Value)} {oc_law_word kV_law_word dc_law_word pm_law_word cd_law_word ct_law_word : Value}
    {f_BadCounts_init : Addr} {od_BadCounts_init an_BadCounts_init : Option Addr} {sl_BadCounts_init : Array (Option Value)} {oc_BadCounts_init kV_BadCounts_init dc_BadCounts_init pm_BadCounts_init cd_BadCounts_init ct_BadCounts_init : Value}
    {C_CellError : Addr}
    {C_BadPlan : Addr}
    {C_BadKey : Addr}
    {C_BadCounts : Addr}
    {C_BadNumber : Addr}
    {C_BadMeet : Addr}
    {C_BadDeed : Addr}
    {C_Halted : Addr}
    {C_BadText : Addr}
    {t_MOST_KEYS : _}
    {t_MOST_WIDE : _}
    (aC_CellError : PySem.W.nsIn K mainGlobals "CellError" = some (some (.ref C_CellError)))
    (aC_BadPlan : PySem.W.nsIn K mainGlobals "BadPlan" = some (some (.ref C_BadPlan)))
    (aC_BadKey : PySem.W.nsIn K mainGlobals "BadKey" = some (some (.ref C_BadKey)))
    (aC_BadCounts : PySem.W.nsIn K mainGlobals "BadCounts" = some (some (.ref C_BadCounts)))
    (aC_BadNumber : PySem.W.nsIn K mainGlobals "BadNumber" = some (some (.ref C_BadNumber)))
    (aC_BadMeet : PySem.W.nsIn K mainGlobals "BadMeet" = some (some (.ref C_BadMeet)))
    (aC_BadDeed : PySem.W.nsIn K mainGlobals "BadDeed" = some (some (.ref C_BadDeed)))
    (aC_Halted : PySem.W.nsIn K mainGlobals "Halted" = some (some (.ref C_Halted)))
    (aC_BadText : PySem.W.nsIn K mainGlobals "BadText" = some (some (.ref C_BadText)))
    (a_law_row : PySem.W.nsIn K mainGlobals "_law_row" = some (some (.ref f_law_row)))
    (l_law_row : K.lookup f_law_row = some ⟨oc_law_row, od_law_row, .func (PySem.W.fnOf "_law_row" "_law_row" (defArgs s_law_row) (defBody s_law_row) (defScope s_law_row) .none kV_law_row dc_law_row pm_law_row an_law_row cd_law_row ct_law_row), sl_law_row⟩)
    (c_law_row : PySem.W.codeIn K cd_law_row "_law_row" = true)
    (k_law_row : PySem.W.keepIn K (.ref f_law_row) = true)
    (a_law_taken : PySem.W.nsIn K mainGlobals "_law_taken" = some (some (.ref f_law_taken)))
    (l_law_taken : K.lookup f_law_taken = some ⟨oc_law_taken, od_law_taken, .func (PySem.W.fnOf "_law_taken" "_law_taken" (defArgs s_law_taken) (defBody s_law_taken) (defScope s_law_taken) .none kV_law_taken dc_law_taken pm_law_taken an_law_taken cd_law_taken ct_law_taken), sl_law_taken⟩)
    (c_law_taken : PySem.W.codeIn K cd_law_taken "_law_taken" = true)
    (k_law_taken : PySem.W.keepIn K (.ref f_law_taken) = true)
    (a_is_number : PySem.W.nsIn K mainGlobals "is_number" = some (some (.ref f_is_number)))
    (l_is_number : K.lookup f_is_number = some ⟨oc_is_number, od_is_number, .func (PySem.W.fnOf "is_number" "is_number" (defArgs s_is_number) (defBody s_is_number) (defScope s_is_number) .none kV_is_number dc_is_number pm_is_number an_is_number cd_is_number ct_is_number), sl_is_number⟩)
    (c_is_number : PySem.W.codeIn K cd_is_number "is_number" = true)
    (k_is_number : PySem.W.keepIn K (.ref f_is_number) = true)
    (a_is_prime : PySem.W.nsIn K mainGlobals "is_prime" = some (some (.ref f_is_prime)))
    (l_is_prime : K.lookup f_is_prime = some ⟨oc_is_prime, od_is_prime, .func (PySem.W.fnOf "is_prime" "is_prime" (defArgs s_is_prime) (defBody s_is_prime) (defScope s_is_prime) .none kV_is_prime dc_is_prime pm_is_prime an_is_prime cd_is_prime ct_is_prime), sl_is_prime⟩)
    (c_is_prime : PySem.W.codeIn K cd_is_prime "is_prime" = true)
    (k_is_prime : PySem.W.keepIn K (.ref f_is_prime) = true)
    (a_need_line : PySem.W.nsIn K mainGlobals "need_line" = some (some (.ref f_need_line)))
    (l_need_line : K.lookup f_need_line = some ⟨oc_need_line, od_need_line, .func (PySem.W.fnOf "need_line" "need_line" (defArgs s_need_line) (defBody s_need_line) (defScope s_need_line) .none kV_need_line dc_need_line pm_need_line an_need_line cd_need_line ct_need_line), sl_need_line⟩)
    (c_need_line : PySem.W.codeIn K cd_need_line "need_line" = true)
    (k_need_line : PySem.W.keepIn K (.ref f_need_line) = true)
    (a_line_row : PySem.W.nsIn K mainGlobals "line_row" = some (some (.ref f_line_row)))
    (l_line_row : K.lookup f_line_row = some ⟨oc_line_row, od_line_row, .func (PySem.W.fnOf "line_row" "line_row" (defArgs s_line_row) (defBody s_line_row) (defScope s_line_row) .none kV_line_row dc_line_row pm_line_row an_line_row cd_line_row ct_line_row), sl_line_row⟩)
    (c_line_row : PySem.W.codeIn K cd_line_row "line_row" = true)
    (k_line_row : PySem.W.keepIn K (.ref f_line_row) = true)
    (a_line : PySem.W.nsIn K mainGlobals "line" = some (some (.ref f_line)))
    (l_line : K.lookup f_line = some ⟨oc_line, od_line, .func (PySem.W.fnOf "line" "line" (defArgs s_line) (defBody s_line) (defScope s_line) .none kV_line dc_line pm_line an_line cd_line ct_line), sl_line⟩)
    (c_line : PySem.W.codeIn K cd_line "line" = true)
    (k_line : PySem.W.keepIn K (.ref f_line) = true)
    (a_law_alike : PySem.W.nsIn K mainGlobals "_law_alike" = some (some (.ref f_law_alike)))
    (l_law_alike : K.lookup f_law_alike = some ⟨oc_law_alike, od_law_alike, .func (PySem.W.fnOf "_law_alike" "_law_alike" (defArgs s_law_alike) (defBody s_law_alike) (defScope s_law_alike) .none kV_law_alike dc_law_alike pm_law_alike an_law_alike cd_law_alike ct_law_alike), sl_law_alike⟩)
    (c_law_alike : PySem.W.codeIn K cd_law_alike "_law_alike" = true)
    (k_law_alike : PySem.W.keepIn K (.ref f_law_alike) = true)
    (a_law_members : PySem.W.nsIn K mainGlobals "_law_members" = some (some (.ref f_law_members)))
    (l_law_members : K.lookup f_law_members = some ⟨oc_law_members, od_law_members, .func (PySem.W.fnOf "_law_members" "_law_members" (defArgs s_law_members) (defBody s_law_members) (defScope s_law_members) .none kV_law_members dc_law_members pm_law_members an_law_members cd_law_members ct_law_members), sl_law_members⟩)
    (c_law_members : PySem.W.codeIn K cd_law_members "_law_members" = true)
    (k_law_members : PySem.W.keepIn K (.ref f_law_members) = true)
    (a_need_members : PySem.W.nsIn K mainGlobals "need_members" = some (some (.ref f_need_members)))
    (l_need_members : K.lookup f_need_members = some ⟨oc_need_members, od_need_members, .func (PySem.W.fnOf "need_members" "need_members" (defArgs s_need_members) (defBody s_need_members) (defScope s_need_members) .none kV_need_members dc_need_members pm_need_members an_need_members cd_need_members ct_need_members), sl_need_members⟩)
    (c_need_members : PySem.W.codeIn K cd_need_members "need_members" = true)
    (k_need_members : PySem.W.keepIn K (.ref f_need_members) = true)
    (a_divisor : PySem.W.nsIn K mainGlobals "divisor" = some (some (.ref f_divisor)))
    (l_divisor : K.lookup f_divisor = some ⟨oc_divisor, od_divisor, .func (PySem.W.fnOf "divisor" "divisor" (defArgs s_divisor) (defBody s_divisor) (defScope s_divisor) .none kV_divisor dc_divisor pm_divisor an_divisor cd_divisor ct_divisor), sl_divisor⟩)
    (c_divisor : PySem.W.codeIn K cd_divisor "divisor" = true)
    (k_divisor : PySem.W.keepIn K (.ref f_divisor) = true)
    (a_part : PySem.W.nsIn K mainGlobals "part" = some (some (.ref f_part)))
    (l_part : K.lookup f_part = some ⟨oc_part, od_part, .func (PySem.W.fnOf "part" "part" (defArgs s_part) (defBody s_part) (defScope s_part) .none kV_part dc_part pm_part an_part cd_part ct_part), sl_part⟩)
    (c_part : PySem.W.codeIn K cd_part "part" = true)
    (k_part : PySem.W.keepIn K (.ref f_part) = true)
    (a_line_share : PySem.W.nsIn K mainGlobals "line_share" = some (some (.ref f_line_share)))
    (l_line_share : K.lookup f_line_share = some ⟨oc_line_share, od_line_share, .func (PySem.W.fnOf "line_share" "line_share" (defArgs s_line_share) (defBody s_line_share) (defScope s_line_share) .none kV_line_share dc_line_share pm_line_share an_line_share cd_line_share ct_line_share), sl_line_share⟩)
    (c_line_share : PySem.W.codeIn K cd_line_share "line_share" = true)
    (k_line_share : PySem.W.keepIn K (.ref f_line_share) = true)
    (a_law_gcd : PySem.W.nsIn K mainGlobals "_law_gcd" = some (some (.ref f_law_gcd)))
    (l_law_gcd : K.lookup f_law_gcd = some ⟨oc_law_gcd, od_law_gcd, .func (PySem.W.fnOf "_law_gcd" "_law_gcd" (defArgs s_law_gcd) (defBody s_law_gcd) (defScope s_law_gcd) .none kV_law_gcd dc_law_gcd pm_law_gcd an_law_gcd cd_law_gcd ct_law_gcd), sl_law_gcd⟩)
    (c_law_gcd : PySem.W.codeIn K cd_law_gcd "_law_gcd" = true)
    (k_law_gcd : PySem.W.keepIn K (.ref f_law_gcd) = true)
    (a_law_part : PySem.W.nsIn K mainGlobals "_law_part" = some (some (.ref f_law_part)))
    (l_law_part : K.lookup f_law_part = some ⟨oc_law_part, od_law_part, .func (PySem.W.fnOf "_law_part" "_law_part" (defArgs s_law_part) (defBody s_law_part) (defScope s_law_part) .none kV_law_part dc_law_part pm_law_part an_law_part cd_law_part ct_law_part), sl_law_part⟩)
    (c_law_part : PySem.W.codeIn K cd_law_part "_law_part" = true)
    (k_law_part : PySem.W.keepIn K (.ref f_law_part) = true)
    (a_law : PySem.W.nsIn K mainGlobals "law" = some (some (.ref f_law)))
    (l_law : K.lookup f_law = some ⟨oc_law, od_law, .func (PySem.W.fnOf "law" "law" (defArgs s_law) (defBody s_law) (defScope s_law) .none kV_law dc_law pm_law an_law (.ref cc_law) ct_law), sl_law⟩)
    (c_law : PySem.W.codeIn K (.ref cc_law) "law" = true)
    (k_law : PySem.W.keepIn K (.ref f_law) = true)
    (a_law_word : PySem.W.nsIn K mainGlobals "_law_word" = some (some (.ref f_law_word)))
    (l_law_word : K.lookup f_law_word = some ⟨oc_law_word, od_law_word, .func (PySem.W.fnOf "_law_word" "_law_word" (defArgs s_law_word) (defBody s_law_word) (defScope s_law_word) .none kV_law_word dc_law_word pm_law_word an_law_word cd_law_word ct_law_word), sl_law_word⟩)
    (c_law_word : PySem.W.codeIn K cd_law_word "_law_word" = true)
    (k_law_word : PySem.W.keepIn K (.ref f_law_word) = true)
    (a_BadCounts_init : PySem.W.findIn K (.ref C_BadCounts) "__init__" = some (some (.ref f_BadCounts_init)))
    (i_BadCounts_init : PySem.W.isFn K (.ref f_BadCounts_init) = true)
    (l_BadCounts_init : K.lookup f_BadCounts_init = some ⟨oc_BadCounts_init, od_BadCounts_init, .func (PySem.W.fnOf "__init__" "BadCounts.__init__" (defArgs s_BadCounts_init) (defBody s_BadCounts_init) (defScope s_BadCounts_init) .none kV_BadCounts_init dc_BadCounts_init pm_BadCounts_init an_BadCounts_init cd_BadCounts_init ct_BadCounts_init), sl_BadCounts_init⟩)
    (c_BadCounts_init : PySem.W.codeIn K cd_BadCounts_init "BadCounts.__init__" = true)
    (k_BadCounts_init : PySem.W.keepIn K (.ref f_BadCounts_init) = true)
    (z_ValueError : PySem.W.nsIn K mainGlobals "ValueError" = some none)
    (wf_b : wfB K C_CellError [C_BadPlan, C_BadKey, C_BadCounts, C_BadNumber, C_BadMeet, C_BadDeed, C_Halted, C_BadText] = true)
    (hh_law : PySem.W.codeHdIn K cc_law pt_law = true)
    (nl_law : K.lookup pt_law = none)
    (zt_law : CT K pt_law ("law" ++ ".<locals>." ++ "<lambda>"))
    (tb_all : tabsB K [(cc_law, pt_law)] = true)
    (z_abs : PySem.W.nsIn K mainGlobals "abs" = some none)
    (z_all : PySem.W.nsIn K mainGlobals "all" = some none)
    (z_bool : PySem.W.nsIn K mainGlobals "bool" = some none)
    (z_enumerate : PySem.W.nsIn K mainGlobals "enumerate" = some none)
    (z_int : PySem.W.nsIn K mainGlobals "int" = some none)
    (z_isinstance : PySem.W.nsIn K mainGlobals "isinstance" = some none)
    (kc_MOST_KEYS : PySem.W.nsIn K mainGlobals "MOST_KEYS" = some (some (.int 16 t_MOST_KEYS)))
    (kc_MOST_WIDE : PySem.W.nsIn K mainGlobals "MOST_WIDE" = some (some (.int 32 t_MOST_WIDE)))
    (z_len : PySem.W.nsIn K mainGlobals "len" = some none)
    (z_list : PySem.W.nsIn K mainGlobals "list" = some none)
    (z_min : PySem.W.nsIn K mainGlobals "min" = some none)
    (z_range : PySem.W.nsIn K mainGlobals "range" = some none)
    (z_str : PySem.W.nsIn K mainGlobals "str" = some none)
    (z_tuple : PySem.W.nsIn K mainGlobals "tuple" = some none)
    (xq_BadNumber : PySem.W.excIn K C_BadNumber [.type "ValueError", .type "Exception", .type "BaseException", .type "object"] "ValueError.__new__" = true)
    (xk_BadNumber : PySem.W.keepIn K (.ref C_BadNumber) = true)
    (xb_BadNumber : PySem.W.subIn K (.ref C_BadNumber) (.type "BaseException") = some true)
    (xt_BadNumber : PySem.W.typeIn K (.ref C_BadNumber) = some (.type "type"))
    (x1_BadCounts : x1B K C_BadCounts f_BadCounts_init ["number"] = true)
    (xb_b : xbB K C_CellError = true)
    (hT : ∀ P ∈ [pt_law], h.get? P = some (PySem.W.tabObj #[])) :
    LamX.LawAtS l w K (L2.CX l.prog w) 7 63 "_law_script" mg fa h := by
  have e := hfa.symm.trans (PySem.W.mg_of X G a_law)
  cases e
  have F_law_row := fun_mk (st := s_law_row) l_law_row c_law_row k_law_row
  have F_law_taken := fun_mk (st := s_law_taken) l_law_taken c_law_taken k_law_taken
  have F_is_number := fun_mk (st := s_is_number) l_is_number c_is_number k_is_number
  have F_is_prime := fun_mk (st := s_is_prime) l_is_prime c_is_prime k_is_prime
  have F_need_line := fun_mk (st := s_need_line) l_need_line c_need_line k_need_line
  have F_line_row := fun_mk (st := s_line_row) l_line_row c_line_row k_line_row
  have F_line := fun_mk (st := s_line) l_line c_line k_line
  have F_law_alike := fun_mk (st := s_law_alike) l_law_alike c_law_alike k_law_alike
  have F_law_members := fun_mk (st := s_law_members) l_law_members c_law_members k_law_members
  have F_need_members := fun_mk (st := s_need_members) l_need_members c_need_members k_need_members
  have F_divisor := fun_mk (st := s_divisor) l_divisor c_divisor k_divisor
  have F_part := fun_mk (st := s_part) l_part c_part k_part
  have F_line_share := fun_mk (st := s_line_share) l_line_share c_line_share k_line_share
  have F_law_gcd := fun_mk (st := s_law_gcd) l_law_gcd c_law_gcd k_law_gcd
  have F_law_part := fun_mk (st := s_law_part) l_law_part c_law_part k_law_part
  have F_law := fun_mk (st := s_law) l_law c_law k_law
  have F_law_word := fun_mk (st := s_law_word) l_law_word c_law_word k_law_word
  have F_BadCounts_init := fun_mk (st := s_BadCounts_init) l_BadCounts_init c_BadCounts_init k_BadCounts_init
  have T : Txt K mg { Filter := fa, Counter := fa, Signed := fa, Heavy := fa, Fewest := fa, Desk := fa, CellError := C_CellError, BadPlan := C_BadPlan, BadKey := C_BadKey, BadCounts := C_BadCounts, BadNumber := C_BadNumber, BadMeet := C_BadMeet, BadDeed := C_BadDeed, Halted := C_Halted, BadText := C_BadText } { f_law_row := f_law_row, fd_law_row := PySem.W.fnOf "_law_row" "_law_row" (defArgs s_law_row) (defBody s_law_row) (defScope s_law_row) .none kV_law_row dc_law_row pm_law_row an_law_row cd_law_row ct_law_row, f_law_taken := f_law_taken, fd_law_taken := PySem.W.fnOf "_law_taken" "_law_taken" (defArgs s_law_taken) (defBody s_law_taken) (defScope s_law_taken) .none kV_law_taken dc_law_taken pm_law_taken an_law_taken cd_law_taken ct_law_taken, f_is_number := f_is_number, fd_is_number := PySem.W.fnOf "is_number" "is_number" (defArgs s_is_number) (defBody s_is_number) (defScope s_is_number) .none kV_is_number dc_is_number pm_is_number an_is_number cd_is_number ct_is_number, f_is_prime := f_is_prime, fd_is_prime := PySem.W.fnOf "is_prime" "is_prime" (defArgs s_is_prime) (defBody s_is_prime) (defScope s_is_prime) .none kV_is_prime dc_is_prime pm_is_prime an_is_prime cd_is_prime ct_is_prime, f_need_line := f_need_line, fd_need_line := PySem.W.fnOf "need_line" "need_line" (defArgs s_need_line) (defBody s_need_line) (defScope s_need_line) .none kV_need_line dc_need_line pm_need_line an_need_line cd_need_line ct_need_line, f_line_row := f_line_row, fd_line_row := PySem.W.fnOf "line_row" "line_row" (defArgs s_line_row) (defBody s_line_row) (defScope s_line_row) .none kV_line_row dc_line_row pm_line_row an_line_row cd_line_row ct_line_row, f_line := f_line, fd_line := PySem.W.fnOf "line" "line" (defArgs s_line) (defBody s_line) (defScope s_line) .none kV_line dc_line pm_line an_line cd_line ct_line, f_law_alike := f_law_alike, fd_law_alike := PySem.W.fnOf "_law_alike" "_law_alike" (defArgs s_law_alike) (defBody s_law_alike) (defScope s_law_alike) .none kV_law_alike dc_law_alike pm_law_alike an_law_alike cd_law_alike ct_law_alike, f_law_members := f_law_members, fd_law_members := PySem.W.fnOf "_law_members" "_law_members" (defArgs s_law_members) (defBody s_law_members) (defScope s_law_members) .none kV_law_members dc_law_members pm_law_members an_law_members cd_law_members ct_law_members, f_need_members := f_need_members, fd_need_members := PySem.W.fnOf "need_members" "need_members" (defArgs s_need_members) (defBody s_need_members) (defScope s_need_members) .none kV_need_members dc_need_members pm_need_members an_need_members cd_need_members ct_need_members, f_divisor := f_divisor, fd_divisor := PySem.W.fnOf "divisor" "divisor" (defArgs s_divisor) (defBody s_divisor) (defScope s_divisor) .none kV_divisor dc_divisor pm_divisor an_divisor cd_divisor ct_divisor, f_part := f_part, fd_part := PySem.W.fnOf "part" "part" (defArgs s_part) (defBody s_part) (defScope s_part) .none kV_part dc_part pm_part an_part cd_part ct_part, f_line_share := f_line_share, fd_line_share := PySem.W.fnOf "line_share" "line_share" (defArgs s_line_share) (defBody s_line_share) (defScope s_line_share) .none kV_line_share dc_line_share pm_line_share an_line_share cd_line_share ct_line_share, f_law_gcd := f_law_gcd, fd_law_gcd := PySem.W.fnOf "_law_gcd" "_law_gcd" (defArgs s_law_gcd) (defBody s_law_gcd) (defScope s_law_gcd) .none kV_law_gcd dc_law_gcd pm_law_gcd an_law_gcd cd_law_gcd ct_law_gcd, f_law_part := f_law_part, fd_law_part := PySem.W.fnOf "_law_part" "_law_part" (defArgs s_law_part) (defBody s_law_part) (defScope s_law_part) .none kV_law_part dc_law_part pm_law_part an_law_part cd_law_part ct_law_part, f_law := fa, fd_law := PySem.W.fnOf "law" "law" (defArgs s_law) (defBody s_law) (defScope s_law) .none kV_law dc_law pm_law an_law (.ref cc_law) ct_law, f_law_word := f_law_word, fd_law_word := PySem.W.fnOf "_law_word" "_law_word" (defArgs s_law_word) (defBody s_law_word) (defScope s_law_word) .none kV_law_word dc_law_word pm_law_word an_law_word cd_law_word ct_law_word, f_BadCounts_init := f_BadCounts_init, fd_BadCounts_init := PySem.W.fnOf "__init__" "BadCounts.__init__" (defArgs s_BadCounts_init) (defBody s_BadCounts_init) (defScope s_BadCounts_init) .none kV_BadCounts_init dc_BadCounts_init pm_BadCounts_init an_BadCounts_init cd_BadCounts_init ct_BadCounts_init, cc_law := cc_law, pt_law := pt_law } :=
    { wf := ⟨PySem.W.mg_none_of X G z_isinstance, PySem.W.mg_none_of X G z_ValueError, PySem.W.mg_of X G aC_CellError, PySem.W.mg_of X G aC_BadPlan, PySem.W.mg_of X G aC_BadKey, PySem.W.mg_of X G aC_BadCounts, PySem.W.mg_of X G aC_BadNumber, PySem.W.mg_of X G aC_BadMeet, PySem.W.mg_of X G aC_BadDeed, PySem.W.mg_of X G aC_Halted, PySem.W.mg_of X G aC_BadText, wf_b⟩,
      code_law := rfl,
      zt_law := zt_law,
      F_law_row := F_law_row,
      b_law_row := F_law_row.binds (ps := ["_law_script"]) fun _ _ _ _ _ _ us hl => match us, hl with | [_], _ => rfl,
      g_law_row := PySem.W.mg_of X G a_law_row,
      F_law_taken := F_law_taken,
      b_law_taken := F_law_taken.binds (ps := ["_law_row_here", "_law_many"]) fun _ _ _ _ _ _ us hl => match us, hl with | [_, _], _ => rfl,
      g_law_taken := PySem.W.mg_of X G a_law_taken,
      F_is_number := F_is_number,
      b_is_number := F_is_number.binds (ps := ["part", "low", "high"]) fun _ _ _ _ _ _ us hl => match us, hl with | [_, _, _], _ => rfl,
      g_is_number := PySem.W.mg_of X G a_is_number,
      F_is_prime := F_is_prime,
      b_is_prime := F_is_prime.binds (ps := ["number"]) fun _ _ _ _ _ _ us hl => match us, hl with | [_], _ => rfl,
      g_is_prime := PySem.W.mg_of X G a_is_prime,
      F_need_line := F_need_line,
      b_need_line := F_need_line.binds (ps := ["keys", "wide", "prime"]) fun _ _ _ _ _ _ us hl => match us, hl with | [_, _, _], _ => rfl,
      g_need_line := PySem.W.mg_of X G a_need_line,
      F_line_row := F_line_row,
      b_line_row := F_line_row.binds (ps := ["keys", "wide", "prime", "times", "more"]) fun _ _ _ _ _ _ us hl => match us, hl with | [_, _, _, _, _], _ => rfl,
      g_line_row := PySem.W.mg_of X G a_line_row,
      F_line := F_line,
      b_line := F_line.binds (ps := ["keys", "wide", "prime", "times", "more"]) fun _ _ _ _ _ _ us hl => match us, hl with | [_, _, _, _, _], _ => rfl,
      g_line := PySem.W.mg_of X G a_line,
      F_law_alike := F_law_alike,
      b_law_alike := F_law_alike.binds (ps := ["_law_found", "_law_due"]) fun _ _ _ _ _ _ us hl => match us, hl with | [_, _], _ => rfl,
      g_law_alike := PySem.W.mg_of X G a_law_alike,
      F_law_members := F_law_members,
      b_law_members := F_law_members.binds (ps := ["_law_row_here", "_law_keys"]) fun _ _ _ _ _ _ us hl => match us, hl with | [_, _], _ => rfl,
      g_law_members := PySem.W.mg_of X G a_law_members,
      F_need_members := F_need_members,
      b_need_members := F_need_members.binds (ps := ["keys", "members"]) fun _ _ _ _ _ _ us hl => match us, hl with | [_, _], _ => rfl,
      g_need_members := PySem.W.mg_of X G a_need_members,
      F_divisor := F_divisor,
      b_divisor := F_divisor.binds (ps := ["one", "other"]) fun _ _ _ _ _ _ us hl => match us, hl with | [_, _], _ => rfl,
      g_divisor := PySem.W.mg_of X G a_divisor,
      F_part := F_part,
      b_part := F_part.binds (ps := ["top", "under"]) fun _ _ _ _ _ _ us hl => match us, hl with | [_, _], _ => rfl,
      g_part := PySem.W.mg_of X G a_part,
      F_line_share := F_line_share,
      b_line_share := F_line_share.binds (ps := ["keys", "wide", "prime", "members", "key"]) fun _ _ _ _ _ _ us hl => match us, hl with | [_, _, _, _, _], _ => rfl,
      g_line_share := PySem.W.mg_of X G a_line_share,
      F_law_gcd := F_law_gcd,
      b_law_gcd := F_law_gcd.binds (ps := ["_law_one", "_law_other"]) fun _ _ _ _ _ _ us hl => match us, hl with | [_, _], _ => rfl,
      g_law_gcd := PySem.W.mg_of X G a_law_gcd,
      F_law_part := F_law_part,
      b_law_part := F_law_part.binds (ps := ["_law_high_end", "_law_under"]) fun _ _ _ _ _ _ us hl => match us, hl with | [_, _], _ => rfl,
      g_law_part := PySem.W.mg_of X G a_law_part,
      F_law := F_law,
      b_law := F_law.binds (ps := ["_law_script"]) fun _ _ _ _ _ _ us hl => match us, hl with | [_], _ => rfl,
      g_law := PySem.W.mg_of X G a_law,
      F_law_word := F_law_word,
      b_law_word := F_law_word.binds (ps := ["_law_work"]) fun _ _ _ _ _ _ us hl => match us, hl with | [_], _ => rfl,
      g_law_word := PySem.W.mg_of X G a_law_word,
      F_BadCounts_init := F_BadCounts_init,
      b_BadCounts_init := F_BadCounts_init.binds (ps := ["self", "number"]) fun _ _ _ _ _ _ us hl => match us, hl with | [_, _], _ => rfl,
      z_abs := PySem.W.mg_none_of X G z_abs,
      z_all := PySem.W.mg_none_of X G z_all,
      z_bool := PySem.W.mg_none_of X G z_bool,
      z_enumerate := PySem.W.mg_none_of X G z_enumerate,
      z_int := PySem.W.mg_none_of X G z_int,
      z_isinstance := PySem.W.mg_none_of X G z_isinstance,
      k_MOST_KEYS := ⟨_, PySem.W.mg_of X G kc_MOST_KEYS⟩,
      k_MOST_WIDE := ⟨_, PySem.W.mg_of X G kc_MOST_WIDE⟩,
      z_len := PySem.W.mg_none_of X G z_len,
      z_list := PySem.W.mg_none_of X G z_list,
      z_min := PySem.W.mg_none_of X G z_min,
      z_range := PySem.W.mg_none_of X G z_range,
      z_str := PySem.W.mg_none_of X G z_str,
      z_tuple := PySem.W.mg_none_of X G z_tuple,
      x0_BadNumber := ⟨xq_BadNumber, xk_BadNumber, xb_BadNumber, xt_BadNumber⟩,
      x1_BadCounts := x1_of x1_BadCounts,
      xb := xb_of xb_b,
      gc_BadCounts := PySem.W.mg_of X G aC_BadCounts,
      gc_BadNumber := PySem.W.mg_of X G aC_BadNumber,
      gc_CellError := PySem.W.mg_of X G aC_CellError }
  refine ⟨_, [(cc_law, pt_law)], LSp K (sp_law a0), List.forall_mem_cons.mpr ⟨hT pt_law (by simp), fun _ h => nomatch h⟩, List.forall_mem_cons.mpr ⟨nl_law, fun _ h => nomatch h⟩, List.forall_mem_cons.mpr ⟨PySem.W.codeHd_of_K X hh_law, fun _ h => nomatch h⟩, fun s v => .of_eq rfl, fun H a ns hl _ hH hS => law_sp hl hS tb_all hH, fun base _ _ hB => ok_law T (hB (cc_law, pt_law) (by simp))⟩
end M3
open PySem PySem.W PyProof.Rows in
set_option maxRecDepth 100000 in
set_option maxHeartbeats 0 in
theorem PySem.Challenge.cw_fewcells_k05_lines_holds : PySem.Challenge.rw_fewcells_k05_lines.Holds := by
  w_on; o_law; k_head; (case hw => w_witness2)
  k_fill
  refine LamX.walk_ofTs (l := PySem.Challenge.rw_fewcells_k05_lines) (n := 63) (k := 7) (x := "_law_script") (CX := fun w => L2.CX PySem.Challenge.rw_fewcells_k05_lines.prog w) rfl (by decide) rfl ⟨rfl, by decide, by decide⟩ (fun w h Y => PySem.W.km_in_of Y) ?F (fun _ _ _ _ _ ⟨_, _, _, _, _, _, _, _, _, _, _, _, z⟩ => z)
  case F =>
    intro w mg fa h Y KX G hmg
    refine' M3.all_mk KX G hmg ?aC_CellError ?aC_BadPlan ?aC_BadKey ?aC_BadCounts ?aC_BadNumber ?aC_BadMeet ?aC_BadDeed ?aC_Halted ?aC_BadText ?a_law_row ?l_law_row ?c_law_row ?k_law_row ?a_law_taken ?l_law_taken ?c_law_taken ?k_law_taken ?a_is_number ?l_is_number ?c_is_number ?k_is_number ?a_is_prime ?l_is_prime ?c_is_prime ?k_is_prime ?a_need_line ?l_need_line ?c_need_line ?k_need_line ?a_line_row ?l_line_row ?c_line_row ?k_line_row ?a_line ?l_line ?c_line ?k_line ?a_law_alike ?l_law_alike ?c_law_alike ?k_law_alike ?a_law_members ?l_law_members ?c_law_members ?k_law_members ?a_need_members ?l_need_members ?c_need_members ?k_need_members ?a_divisor ?l_divisor ?c_divisor ?k_divisor ?a_part ?l_part ?c_part ?k_part ?a_line_share ?l_line_share ?c_line_share ?k_line_share ?a_law_gcd ?l_law_gcd ?c_law_gcd ?k_law_gcd ?a_law_part ?l_law_part ?c_law_part ?k_law_part ?a_law ?l_law ?c_law ?k_law ?a_law_word ?l_law_word ?c_law_word ?k_law_word ?a_BadCounts_init ?i_BadCounts_init ?l_BadCounts_init ?c_BadCounts_init ?k_BadCounts_init ?z_ValueError ?wf_b ?hh_law ?nl_law ?zt_law ?tb_all ?z_abs ?z_all ?z_bool ?z_enumerate ?z_int ?z_isinstance ?kc_MOST_KEYS ?kc_MOST_WIDE ?z_len ?z_list ?z_min ?z_range ?z_str ?z_tuple ?xq_BadNumber ?xk_BadNumber ?xb_BadNumber ?xt_BadNumber ?x1_BadCounts ?xb_b ?hT
    (case hT => exact PySem.W.km_tabs_of Y)
    (case aC_CellError => k_is)
    (case aC_BadPlan => k_is)
    (case aC_BadKey => k_is)
    (case aC_BadCounts => k_is)
    (case aC_BadNumber => k_is)
    (case aC_BadMeet => k_is)
    (case aC_BadDeed => k_is)
    (case aC_Halted => k_is)
    (case aC_BadText => k_is)
    (case a_law_row => k_is)
    (case l_law_row => k_is)
    (case c_law_row => k_is)
    (case k_law_row => k_is)
    (case a_law_taken => k_is)
    (case l_law_taken => k_is)
    (case c_law_taken => k_is)
    (case k_law_taken => k_is)
    (case a_is_number => k_is)
    (case l_is_number => k_is)
    (case c_is_number => k_is)
    (case k_is_number => k_is)
    (case a_is_prime => k_is)
    (case l_is_prime => k_is)
    (case c_is_prime => k_is)
    (case k_is_prime => k_is)
    (case a_need_line => k_is)
    (case l_need_line => k_is)
    (case c_need_line => k_is)
    (case k_need_line => k_is)
    (case a_line_row => k_is)
    (case l_line_row => k_is)
    (case c_line_row => k_is)
    (case k_line_row => k_is)
    (case a_line => k_is)
    (case l_line => k_is)
    (case c_line => k_is)
    (case k_line => k_is)
    (case a_law_alike => k_is)
    (case l_law_alike => k_is)
    (case c_law_alike => k_is)
    (case k_law_alike => k_is)
    (case a_law_members => k_is)
    (case l_law_members => k_is)
    (case c_law_members => k_is)
    (case k_law_members => k_is)
    (case a_need_members => k_is)
    (case l_need_members => k_is)
    (case c_need_members => k_is)
    (case k_need_members => k_is)
    (case a_divisor => k_is)
    (case l_divisor => k_is)
    (case c_divisor => k_is)
    (case k_divisor => k_is)
    (case a_part => k_is)
    (case l_part => k_is)
    (case c_part => k_is)
    (case k_part => k_is)
    (case a_line_share => k_is)
    (case l_line_share => k_is)
    (case c_line_share => k_is)
    (case k_line_share => k_is)
    (case a_law_gcd => k_is)
    (case l_law_gcd => k_is)
    (case c_law_gcd => k_is)
    (case k_law_gcd => k_is)
    (case a_law_part => k_is)
    (case l_law_part => k_is)
    (case c_law_part => k_is)
    (case k_law_part => k_is)
    (case a_law => k_is)
    (case l_law => k_is)
    (case c_law => k_is)
    (case k_law => k_is)
    (case a_law_word => k_is)
    (case l_law_word => k_is)
    (case c_law_word => k_is)
    (case k_law_word => k_is)
    (case a_BadCounts_init => k_is)
    (case i_BadCounts_init => k_is)
    (case l_BadCounts_init => k_is)
    (case c_BadCounts_init => k_is)
    (case k_BadCounts_init => k_is)
    (case z_ValueError => k_is)
    (case wf_b => kernel_rfl)
    (case hh_law => kernel_rfl)
    (case nl_law => kernel_rfl)
    (case zt_law => (show M3.ctab _ _ = _); kernel_rfl)
    (case tb_all => kernel_rfl)
    (case z_abs => k_is)
    (case z_all => k_is)
    (case z_bool => k_is)
    (case z_enumerate => k_is)
    (case z_int => k_is)
    (case z_isinstance => k_is)
    (case kc_MOST_KEYS => k_is)
    (case kc_MOST_WIDE => k_is)
    (case z_len => k_is)
    (case z_list => k_is)
    (case z_min => k_is)
    (case z_range => k_is)
    (case z_str => k_is)
    (case z_tuple => k_is)
    (case xq_BadNumber => kernel_rfl)
    (case xk_BadNumber => k_is)
    (case xb_BadNumber => k_is)
    (case xt_BadNumber => k_is)
    (case x1_BadCounts => kernel_rfl)
    (case xb_b => kernel_rfl)
