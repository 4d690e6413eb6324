import PyProof.Rows.All
import Wide.All
import OpenK.AllK
import Wide.FinOn
import HandS.ForExc
import HandS.ForMost
import HandS.TupAny
import HandS.TupMul
import HandS.Comp
import HandS.Iter
import HandS.Zip
import HandS.Deep
import HandS.IsInst
import HandS.TupLe
import HandS.SortInts
import HandS.Wide
import KE.DataEq
import KE.DataIsa
import KE.DataCmp
import KE.DataAny
import KE.DataFind
import PyProof.Rows.ListMulArg
import HandS.ExcOwn
import HandS.Ends
import KE.SortData
import HandS.Conv
import PyProof.ListRange
import HandS.Style
import PyProof.SeqIndex
import PyProof.ReprRoads
import PyProof.Rows.SetFrom
import HandS.Defaults
import HandS.HeadHook3
import HandS.HeadEnd
import HandS.Dict
import HandS.More
import HandS.Exc
import HandS.Words
import HandS.WordsExc
import HandS.Head0
import HandS.Head1
import HandS.Head2
import KE.KStateDown
import PyProof.ReprLen
import HandS.SetFor
import HandS.Small
import HandS.ExcInit
import KE.KExcIs
import HandS.ClsMeth
import HandS.ExcIs
import HandS.Flow
import HandS.MakeKw
import KE.KAssignIn
import HandS.Text
import PyProof.StrLawsRepr
import PySem.Challenge.RW_surehand_k09_reach_and_rooms
set_option Elab.async false
set_option linter.all false
set_option maxRecDepth 100000
set_option maxHeartbeats 4000000
/-! ### values as data: a layer over HandS -/
namespace BV
open PySem L2

abbrev D := PyData
def keyD : Key → D
  | .inl i => .int i
  | .inr x => .str x
/-- a tuple's object is told: it has no dict of its own -/
def TupS (F : Hp) (a : Addr) (xs : List V) : Prop := ∃ o, F a = some (.frz o (.tup xs)) ∧ o.cls = .type "tuple" ∧ o.dict = none
theorem TupS.sq {K : PySem.W.Frag} {F : Hp} {a : Addr} {xs : List V} (h : TupS F a xs) : SqT K F a xs := by
  obtain ⟨o, e, _⟩ := h
  exact Or.inl (Or.inr ⟨o, e⟩)
mutual
/-- v stands for the data d, in a heap of objects that are not changed any more -/
inductive Rp (K : PySem.W.Frag) (F : Hp) : V → D → Prop
  | non : Rp K F .non .none
  | bl (b : Bool) : Rp K F (.bl b) (.bool b)
  | int (i : Int) : Rp K F (.int i) (.int i)
  | str (x : Str) : Rp K F (.str x) (.str x)
  | lst {a : Addr} {xs : List V} {ds : List D} : SqL K F a xs → RpA K F xs ds → Rp K F (.ref a) (.list ds)
  | tup {a : Addr} {xs : List V} {ds : List D} : TupS F a xs → RpA K F xs ds → Rp K F (.ref a) (.tuple ds)
  | dic {a : Addr} {es : List (Key × V)} {kvs : List (D × D)} : F a = some (.dK es) → RpE K F es kvs → Rp K F (.ref a) (.dict kvs)
inductive RpA (K : PySem.W.Frag) (F : Hp) : List V → List D → Prop
  | nil : RpA K F [] []
  | cons {v : V} {vs : List V} {d : D} {ds : List D} : Rp K F v d → RpA K F vs ds → RpA K F (v :: vs) (d :: ds)
inductive RpE (K : PySem.W.Frag) (F : Hp) : List (Key × V) → List (D × D) → Prop
  | nil : RpE K F [] []
  | cons {k : Key} {v : V} {es : List (Key × V)} {d : D} {kvs : List (D × D)} : Rp K F v d → RpE K F es kvs → RpE K F ((k, v) :: es) ((keyD k, d) :: kvs)
end

def Ex (H H' : Hp) : Prop := ∀ a o, H a = some o → H' a = some o
theorem Ex.refl (H : Hp) : Ex H H := fun _ _ h => h
theorem Ex.trans {H H1 H2 : Hp} (a : Ex H H1) (b : Ex H1 H2) : Ex H H2 := fun x o h => b x o (a x o h)
theorem Ex.new {H : Hp} {p : Addr} {o : HO} (h : H p = none) : Ex H (upd H p o) := fun a u e => by
  rw [upd_ne (ne_of_none e h)]
  exact e
theorem ex_rd {H H' : Hp} {a : Addr} {u : HO} (e : Ex H H') (h : Rd H a u) : Rd H' a u := by
  rcases h with h | ⟨o, h⟩
  · exact Or.inl (e a _ h)
  · exact Or.inr ⟨o, e a _ h⟩
theorem ex_l {K : PySem.W.Frag} {H H' : Hp} {a : Addr} {xs : List V} (e : Ex H H') (h : SqL K H a xs) : SqL K H' a xs := by
  rcases h with h | h
  · exact Or.inl (ex_rd e h)
  · exact Or.inr h
theorem ex_t {K : PySem.W.Frag} {H H' : Hp} {a : Addr} {xs : List V} (e : Ex H H') (h : SqT K H a xs) : SqT K H' a xs := by
  rcases h with h | h
  · exact Or.inl (ex_rd e h)
  · exact Or.inr h
theorem fresh_back {H H' : Hp} {p : Addr} (e : Ex H H') (h : H' p = none) : H p = none := by
  cases h1 : H p with
  | none => rfl
  | some o =>
    rw [e p o h1] at h
    cases h

theorem TupS.mono {F F' : Hp} (e : Ex F F') {a : Addr} {xs : List V} (h : TupS F a xs) : TupS F' a xs := by
  obtain ⟨o, h, r⟩ := h
  exact ⟨o, e _ _ h, r⟩
mutual
theorem Rp.mono {K : PySem.W.Frag} {F F' : Hp} (e : Ex F F') : ∀ {v : V} {d : D}, Rp K F v d → Rp K F' v d
  | _, _, .non => .non
  | _, _, .bl b => .bl b
  | _, _, .int i => .int i
  | _, _, .str x => .str x
  | _, _, .lst h a => .lst (ex_l e h) (RpA.mono e a)
  | _, _, .tup h a => .tup (h.mono e) (RpA.mono e a)
  | _, _, .dic h a => .dic (e _ _ h) (RpE.mono e a)
theorem RpA.mono {K : PySem.W.Frag} {F F' : Hp} (e : Ex F F') : ∀ {vs : List V} {ds : List D}, RpA K F vs ds → RpA K F' vs ds
  | _, _, .nil => .nil
  | _, _, .cons h a => .cons (Rp.mono e h) (RpA.mono e a)
theorem RpE.mono {K : PySem.W.Frag} {F F' : Hp} (e : Ex F F') : ∀ {es : List (Key × V)} {kvs : List (D × D)}, RpE K F es kvs → RpE K F' es kvs
  | _, _, .nil => .nil
  | _, _, .cons h a => .cons (Rp.mono e h) (RpE.mono e a)
end
theorem RpA.length {K : PySem.W.Frag} {F : Hp} : ∀ {vs : List V} {ds : List D}, RpA K F vs ds → vs.length = ds.length
  | _, _, .nil => rfl
  | _, _, .cons _ a => congrArg (· + 1) (RpA.length a)
theorem RpE.length {K : PySem.W.Frag} {F : Hp} : ∀ {vs : List (Key × V)} {ds : List (D × D)}, RpE K F vs ds → vs.length = ds.length
  | _, _, .nil => rfl
  | _, _, .cons _ a => congrArg (· + 1) (RpE.length a)
theorem RpA.append {K : PySem.W.Frag} {F : Hp} : ∀ {vs ws : List V} {ds es : List D}, RpA K F vs ds → RpA K F ws es → RpA K F (vs ++ ws) (ds ++ es)
  | _, _, _, _, .nil, b => b
  | _, _, _, _, .cons h a, b => .cons h (RpA.append a b)
theorem RpA.get {K : PySem.W.Frag} {F : Hp} : ∀ {vs : List V} {ds : List D} (i : Nat) {d : D}, RpA K F vs ds → ds[i]? = some d → ∃ v, vs[i]? = some v ∧ Rp K F v d
  | _, _, _, _, .nil, e => by simp at e
  | _, _, 0, _, .cons h _, e => by simp at e; subst e; exact ⟨_, rfl, h⟩
  | _, _, i + 1, _, .cons _ a, e => by
    obtain ⟨v, h1, h2⟩ := RpA.get i a (by simpa using e)
    exact ⟨v, by simpa using h1, h2⟩
theorem RpA.getV {K : PySem.W.Frag} {F : Hp} : ∀ {vs : List V} {ds : List D} (i : Nat) {v : V}, RpA K F vs ds → vs[i]? = some v → ∃ d, ds[i]? = some d ∧ Rp K F v d
  | _, _, _, _, .nil, e => by simp at e
  | _, _, 0, _, .cons h _, e => by simp at e; subst e; exact ⟨_, rfl, h⟩
  | _, _, i + 1, _, .cons _ a, e => by
    obtain ⟨v, h1, h2⟩ := RpA.getV i a (by simpa using e)
    exact ⟨v, by simpa using h1, h2⟩
theorem RpA.set {K : PySem.W.Frag} {F : Hp} {v : V} {d : D} (h : Rp K F v d) : ∀ {vs : List V} {ds : List D} (i : Nat), RpA K F vs ds → RpA K F (vs.set i v) (ds.set i d)
  | _, _, _, .nil => .nil
  | _, _, 0, .cons _ a => .cons h a
  | _, _, i + 1, .cons g a => .cons g (RpA.set h i a)
theorem RpA.take {K : PySem.W.Frag} {F : Hp} : ∀ {vs : List V} {ds : List D} (n : Nat), RpA K F vs ds → RpA K F (vs.take n) (ds.take n)
  | _, _, 0, _ => .nil
  | _, _, _ + 1, .nil => .nil
  | _, _, n + 1, .cons g a => .cons g (RpA.take n a)
theorem RpA.drop {K : PySem.W.Frag} {F : Hp} : ∀ {vs : List V} {ds : List D} (n : Nat), RpA K F vs ds → RpA K F (vs.drop n) (ds.drop n)
  | _, _, 0, a => a
  | _, _, _ + 1, .nil => .nil
  | _, _, n + 1, .cons g a => RpA.drop n a
theorem RpA.erase {K : PySem.W.Frag} {F : Hp} : ∀ {vs : List V} {ds : List D} (n : Nat), RpA K F vs ds → RpA K F (vs.eraseIdx n) (ds.eraseIdx n)
  | _, _, 0, .nil => .nil
  | _, _, 0, .cons _ a => a
  | _, _, _ + 1, .nil => .nil
  | _, _, n + 1, .cons g a => .cons g (RpA.erase n a)
theorem RpA.ints {K : PySem.W.Frag} {F : Hp} : ∀ {vs : List V} {ns : List Int}, RpA K F vs (ns.map .int) → vs = ns.map V.int
  | _, [], .nil => rfl
  | _, n :: ns, .cons h a => by
    cases h
    rw [RpA.ints a]
    rfl
theorem RpA.ofInts {K : PySem.W.Frag} {F : Hp} : ∀ {ns : List Int}, RpA K F (ns.map V.int) (ns.map .int)
  | [] => .nil
  | _ :: _ => .cons (.int _) RpA.ofInts
theorem RpA.bools {K : PySem.W.Frag} {F : Hp} : ∀ {vs : List V} {ns : List Bool}, RpA K F vs (ns.map .bool) → vs = ns.map V.bl
  | _, [], .nil => rfl
  | _, n :: ns, .cons h a => by
    cases h
    rw [RpA.bools a]
    rfl

mutual
/-- no dict inside -/
def nodic : D → Bool
  | .list ds => nodicA ds
  | .tuple ds => nodicA ds
  | .dict _ => false
  | _ => true
def nodicA : List D → Bool
  | [] => true
  | d :: ds => nodic d && nodicA ds
end
mutual
theorem Rp.dp {K : PySem.W.Frag} {F : Hp} : ∀ {v : V} {d : D}, Rp K F v d → nodic d = true → Dp K F v d
  | _, _, .non, _ => .non
  | _, _, .bl b, _ => .bl b
  | _, _, .int i, _ => .int i
  | _, _, .str x, _ => .str x
  | _, _, .lst h a, n => .lst h (RpA.dp a (by simpa [nodic] using n))
  | _, _, .tup h a, n => .tup h.sq (RpA.dp a (by simpa [nodic] using n))
  | _, _, .dic _ _, n => by simp [nodic] at n
theorem RpA.dp {K : PySem.W.Frag} {F : Hp} : ∀ {vs : List V} {ds : List D}, RpA K F vs ds → nodicA ds = true → DpAll K F vs ds
  | _, _, .nil, _ => .nil
  | _, _, .cons h a, n => .cons (Rp.dp h (by simp [nodicA] at n; exact n.1)) (RpA.dp a (by simp [nodicA] at n; exact n.2))
end

/-! ### exceptions that are kept -/
structure Exn where
  cls : String
  fld : Option (Str × D)
/-- a slot that holds no data: the module's def x, or an exception that was caught -/
inductive Tag where
  | fn (x : Str)
  | exn (x : Exn)
/-- an exception's object: its class, its dict -/
def excK (a C : Addr) (d : Option Addr) : HO := .ext fun h => ∃ oe : Obj, h.get? a = some oe ∧ oe.cls = .ref C ∧ oe.dict = d ∧ ∃ vs, oe.data = .fields vs
def TagAt (K : PySem.W.Frag) (F : Hp) (a : Addr) : Tag → Prop
  | .fn x => PySem.W.nsIn K mainGlobals x = some (some (.ref a))
  | .exn x => ∃ (C : Addr) (oe : Option Addr), PySem.W.nsIn K mainGlobals x.cls = some (some (.ref C)) ∧ F a = some (excK a C oe) ∧ match x.fld with
    | none => oe = none
    | some (n, d) => ∃ dx v, oe = some dx ∧ F dx = some (.xd [(n, v)]) ∧ Rp K F v d
theorem TagAt.mono {K : PySem.W.Frag} {F F' : Hp} {a : Addr} (e : Ex F F') : ∀ {t : Tag}, TagAt K F a t → TagAt K F' a t
  | .fn _, h => h
  | .exn ⟨x, none⟩, ⟨C, oe, h1, h2, h3⟩ => ⟨C, oe, h1, e _ _ h2, h3⟩
  | .exn ⟨x, some (n, d)⟩, ⟨C, oe, h1, h2, dx, v, h3, h4, h5⟩ => ⟨C, oe, h1, e _ _ h2, dx, v, h3, e _ _ h4, h5.mono e⟩

/-! ### states -/
/-- what an owned object holds: data alone, or parts that are owned, too -/
inductive O where
  | lst (ds : List D)
  | dic (kvs : List (D × D))
  | leaf (d : D)
  | row (os : List O)
  | ins (c : Str) (ns : List Str) (os : List O)
mutual
/-- as data, where it is such -/
def O.dq : O → Option D
  | .lst ds => some (.list ds)
  | .dic kvs => some (.dict kvs)
  | .leaf d => some d
  | .row os => (O.dqA os).map .list
  | .ins _ _ _ => none
def O.dqA : List O → Option (List D)
  | [] => some []
  | o :: os => match O.dq o, O.dqA os with
    | some d, some ds => some (d :: ds)
    | _, _ => none
end
/-- flat: its own list or dict, what is in it data -/
def O.fl : O → Option D
  | .lst ds => some (.list ds)
  | .dic kvs => some (.dict kvs)
  | _ => none
def O.dat (o : O) : D := match o.dq with
  | some d => d
  | none => .none
inductive Slot where
  | no
  | frz (d : D)
  | own (o : O)
  | fn (t : Tag)
abbrev Env := List Slot
inductive Val where
  | frz (d : D)
  | new (o : O)
  | bor (i : Nat)
inductive Out (α : Type) where
  | ok (a : α)
  | exc (x : Exn) (e : Env)
  | bad
def Out.bind {α β : Type} : Out α → (α → Out β) → Out β
  | .ok a, g => g a
  | .exc x e, _ => .exc x e
  | .bad, _ => .bad
@[simp] theorem Out.bind_ok {α β : Type} (a : α) (g : α → Out β) : (Out.ok a).bind g = g a := rfl
@[simp] theorem Out.bind_exc {α β : Type} (x : Exn) (e : Env) (g : α → Out β) : (Out.exc x e : Out α).bind g = .exc x e := rfl
@[simp] theorem Out.bind_bad {α β : Type} (g : α → Out β) : (Out.bad : Out α).bind g = .bad := rfl
theorem Out.bind_assoc {α β γ : Type} (x : Out α) (f : α → Out β) (g : β → Out γ) : (x.bind f).bind g = x.bind fun a => (f a).bind g := by
  cases x <;> rfl

structure Sta where
  F : Hp
  H : Hp
  σ : L2.St
  e : Env

def adr : V → List Addr
  | .ref p => [p]
  | _ => []
def partsO : Option HO → List V
  | some (.lst vs) => vs
  | some (.ins _ _ fs) => fs.map (·.2)
  | _ => []
def parts (H : Hp) : V → List V
  | .ref p => partsO (H p)
  | _ => []
mutual
/-- the objects of a thing -/
def fp (H : Hp) : O → V → List Addr
  | .lst _, v => adr v
  | .dic _, v => adr v
  | .leaf _, _ => []
  | .row os, v => adr v ++ fpA H os (parts H v)
  | .ins _ _ os, v => adr v ++ fpA H os (parts H v)
def fpA (H : Hp) : List O → List V → List Addr
  | [], _ => []
  | _ :: _, [] => []
  | o :: os, v :: vs => fp H o v ++ fpA H os vs
end
mutual
def OwnAtO (K : PySem.W.Frag) (F H : Hp) : O → Addr → Prop
  | .lst ds, p => ∃ vs, H p = some (.lst vs) ∧ RpA K F vs ds
  | .dic kvs, p => ∃ es, H p = some (.dK es) ∧ RpE K F es kvs
  | .leaf _, _ => False
  | .row os, p => ∃ vs, H p = some (.lst vs) ∧ OwnLO K F H os vs
  | .ins c ns os, p => ∃ C dx fs, PySem.W.nsIn K mainGlobals c = some (some (.ref C)) ∧ H p = some (.ins C dx fs) ∧ F dx = some (.own p) ∧ fs.map (·.1) = ns ∧ OwnLO K F H os (fs.map (·.2))
def OwnLO (K : PySem.W.Frag) (F H : Hp) : List O → List V → Prop
  | [], vs => vs = []
  | _ :: _, [] => False
  | o :: os, v :: vs => ((∃ d, o = .leaf d ∧ Rp K F v d) ∨ ∃ p, v = .ref p ∧ OwnAtO K F H o p) ∧ OwnLO K F H os vs
end
abbrev OwnAt (K : PySem.W.Frag) (F H : Hp) (p : Addr) (o : O) : Prop := OwnAtO K F H o p
theorem OwnAt.some {K : PySem.W.Frag} {F H : Hp} {p : Addr} : ∀ {o : O}, OwnAt K F H p o → ∃ u, H p = some u
  | .lst _, ⟨_, h, _⟩ => ⟨_, h⟩
  | .dic _, ⟨_, h, _⟩ => ⟨_, h⟩
  | .row _, ⟨_, h, _⟩ => ⟨_, h⟩
  | .ins _ _ _, ⟨_, _, _, _, h, _⟩ => ⟨_, h⟩
theorem OwnAt.self {K : PySem.W.Frag} {F H H' : Hp} {p : Addr} : ∀ {o : O}, OwnAt K F H p o → p ∈ fp H' o (.ref p)
  | .lst _, _ => List.mem_singleton.mpr rfl
  | .dic _, _ => List.mem_singleton.mpr rfl
  | .row _, _ => List.mem_cons_self
  | .ins _ _ _, _ => List.mem_cons_self
theorem OwnAt.ne {K : PySem.W.Frag} {F H : Hp} {p q : Addr} {o : O} (h : OwnAt K F H p o) (n : H q = none) : p ≠ q := by
  obtain ⟨u, e⟩ := h.some
  exact ne_of_none e n
mutual
theorem OwnAt.all {K : PySem.W.Frag} {F H : Hp} : ∀ (o : O) {p : Addr}, OwnAtO K F H o p → ∀ a ∈ fp H o (.ref p), ∃ u, H a = some u
  | .lst _, p, ⟨_, h, _⟩, a, ha => by
    rw [List.mem_singleton.mp ha]
    exact ⟨_, h⟩
  | .dic _, p, ⟨_, h, _⟩, a, ha => by
    rw [List.mem_singleton.mp ha]
    exact ⟨_, h⟩
  | .leaf _, p, h, a, ha => by cases ha
  | .row os, p, ⟨vs, h, r⟩, a, ha => by
    rcases List.mem_append.mp ha with ha | ha
    · rw [List.mem_singleton.mp ha]
      exact ⟨_, h⟩
    · have e : parts H (.ref p) = vs := by
        show partsO (H p) = _
        rw [h]
        rfl
      rw [e] at ha
      exact OwnLO.all os r a ha
  | .ins c ns os, p, ⟨C, dx, fs, _, h, _, _, r⟩, a, ha => by
    rcases List.mem_append.mp ha with ha | ha
    · rw [List.mem_singleton.mp ha]
      exact ⟨_, h⟩
    · have e : parts H (.ref p) = fs.map (·.2) := by
        show partsO (H p) = _
        rw [h]
        rfl
      rw [e] at ha
      exact OwnLO.all os r a ha
theorem OwnLO.all {K : PySem.W.Frag} {F H : Hp} : ∀ (os : List O) {vs : List V}, OwnLO K F H os vs → ∀ a ∈ fpA H os vs, ∃ u, H a = some u
  | [], _, _, a, ha => by cases ha
  | _ :: _, [], h, a, ha => by cases ha
  | o :: os, v :: vs, ⟨h1, h2⟩, a, ha => by
    rcases List.mem_append.mp ha with ha | ha
    · rcases h1 with ⟨d, rfl, _⟩ | ⟨p, rfl, h1⟩
      · cases ha
      · exact OwnAt.all o h1 a ha
    · exact OwnLO.all os h2 a ha
end
mutual
theorem fp_congr {H H' : Hp} : ∀ (o : O) {v : V}, (∀ a ∈ fp H o v, H' a = H a) → fp H' o v = fp H o v
  | .lst _, _, _ => rfl
  | .dic _, _, _ => rfl
  | .leaf _, _, _ => rfl
  | .row os, v, h => by
    have e : parts H' v = parts H v := by
      cases v with
      | ref p =>
        show partsO (H' p) = partsO (H p)
        rw [h p List.mem_cons_self]
      | _ => rfl
    show adr v ++ fpA H' os (parts H' v) = adr v ++ fpA H os (parts H v)
    rw [e, fpA_congr os fun a ha => h a (List.mem_append_right _ ha)]
  | .ins _ _ os, v, h => by
    have e : parts H' v = parts H v := by
      cases v with
      | ref p =>
        show partsO (H' p) = partsO (H p)
        rw [h p List.mem_cons_self]
      | _ => rfl
    show adr v ++ fpA H' os (parts H' v) = adr v ++ fpA H os (parts H v)
    rw [e, fpA_congr os fun a ha => h a (List.mem_append_right _ ha)]
theorem fpA_congr {H H' : Hp} : ∀ (os : List O) {vs : List V}, (∀ a ∈ fpA H os vs, H' a = H a) → fpA H' os vs = fpA H os vs
  | [], _, _ => rfl
  | _ :: _, [], _ => rfl
  | o :: os, v :: vs, h => by
    show fp H' o v ++ fpA H' os vs = fp H o v ++ fpA H os vs
    rw [fp_congr o fun a ha => h a (List.mem_append_left _ ha), fpA_congr os fun a ha => h a (List.mem_append_right _ ha)]
end
mutual
theorem OwnAtO.mono {K : PySem.W.Frag} {F F' H H' : Hp} (f : Ex F F') : ∀ (o : O) {p : Addr}, (∀ a ∈ fp H o (.ref p), H' a = H a) → OwnAtO K F H o p → OwnAtO K F' H' o p
  | .lst _, p, h, ⟨vs, e, r⟩ => ⟨vs, (h p (List.mem_singleton.mpr rfl)).trans e, r.mono f⟩
  | .dic _, p, h, ⟨vs, e, r⟩ => ⟨vs, (h p (List.mem_singleton.mpr rfl)).trans e, r.mono f⟩
  | .row os, p, h, ⟨vs, e, r⟩ => by
    refine ⟨vs, (h p List.mem_cons_self).trans e, OwnLO.mono f os (fun a ha => h a (List.mem_append_right _ ?_)) r⟩
    show a ∈ fpA H os (partsO (H p))
    rw [e]
    exact ha
  | .ins c ns os, p, h, ⟨C, dx, fs, c1, e, d, n, r⟩ => by
    refine ⟨C, dx, fs, c1, (h p List.mem_cons_self).trans e, f _ _ d, n, OwnLO.mono f os (fun a ha => h a (List.mem_append_right _ ?_)) r⟩
    show a ∈ fpA H os (partsO (H p))
    rw [e]
    exact ha
theorem OwnLO.mono {K : PySem.W.Frag} {F F' H H' : Hp} (f : Ex F F') : ∀ (os : List O) {vs : List V}, (∀ a ∈ fpA H os vs, H' a = H a) → OwnLO K F H os vs → OwnLO K F' H' os vs
  | [], _, _, h => h
  | o :: os, v :: vs, h, ⟨h1, h2⟩ => by
    refine ⟨?_, OwnLO.mono f os (fun a ha => h a (List.mem_append_right _ ha)) h2⟩
    rcases h1 with ⟨d, rfl, r⟩ | ⟨p, rfl, h1⟩
    · exact Or.inl ⟨d, rfl, r.mono f⟩
    · exact Or.inr ⟨p, rfl, OwnAtO.mono f o (fun a ha => h a (List.mem_append_left _ ha)) h1⟩
end
/-- an owned thing: its objects are no data, and each is its own -/
structure OwnS (K : PySem.W.Frag) (F H : Hp) (p : Addr) (o : O) : Prop where
  nf : ∀ a ∈ fp H o (.ref p), F a = none
  nd : (fp H o (.ref p)).Nodup
  own : OwnAt K F H p o
theorem OwnS.fnone {K : PySem.W.Frag} {F H : Hp} {p : Addr} {o : O} (h : OwnS K F H p o) : F p = none := h.nf p h.own.self
theorem OwnS.later {K : PySem.W.Frag} {F F' H H' : Hp} {p : Addr} {o : O} (h : OwnS K F H p o) (f : Ex F F') (hh : ∀ a ∈ fp H o (.ref p), H' a = H a) (fn : ∀ a ∈ fp H o (.ref p), F' a = none) : OwnS K F' H' p o := by
  have e := fp_congr o hh
  exact ⟨by rw [e]; exact fn, by rw [e]; exact h.nd, OwnAtO.mono f o hh h.own⟩
theorem OwnS.lst {K : PySem.W.Frag} {F H : Hp} {p : Addr} {vs : List V} {ds : List D} (f : F p = none) (h : H p = some (.lst vs)) (r : RpA K F vs ds) : OwnS K F H p (.lst ds) :=
  ⟨fun a ha => by rw [List.mem_singleton.mp ha]; exact f, List.nodup_cons.mpr ⟨by simp, List.nodup_nil⟩, ⟨vs, h, r⟩⟩
theorem OwnS.dic {K : PySem.W.Frag} {F H : Hp} {p : Addr} {es : List (Key × V)} {kvs : List (D × D)} (f : F p = none) (h : H p = some (.dK es)) (r : RpE K F es kvs) : OwnS K F H p (.dic kvs) :=
  ⟨fun a ha => by rw [List.mem_singleton.mp ha]; exact f, List.nodup_cons.mpr ⟨by simp, List.nodup_nil⟩, ⟨es, h, r⟩⟩

/-- p is the address of an owned thing -/
def OwnA (s : Sta) (a : Addr) : Prop := ∃ (i : Nat) (o : O) (p : Addr), s.e[i]? = some (Slot.own o) ∧ s.σ[i]? = some (some (V.ref p)) ∧ a ∈ fp s.H o (.ref p)

/-- the slot holds what the tag tells -/
def FnSl (K : PySem.W.Frag) (F : Hp) (σ : L2.St) (i : Nat) (x : Tag) : Prop := ∃ a, TagAt K F a x ∧ σ[i]? = some (some (V.ref a))
theorem FnSl.mono {K : PySem.W.Frag} {F F' : Hp} {σ : L2.St} {i : Nat} {x : Tag} (e : Ex F F') (h : FnSl K F σ i x) : FnSl K F' σ i x := by
  obtain ⟨a, h1, h2⟩ := h
  exact ⟨a, h1.mono e, h2⟩
structure St (K : PySem.W.Frag) (s : Sta) : Prop where
  len : s.e.length = s.σ.length
  fh : Ex s.F s.H
  frz : ∀ (i : Nat) (d : D), s.e[i]? = some (Slot.frz d) → ∃ v, s.σ[i]? = some (some v) ∧ Rp K s.F v d
  own : ∀ (i : Nat) (o : O), s.e[i]? = some (Slot.own o) → ∃ p, s.σ[i]? = some (some (V.ref p)) ∧ OwnS K s.F s.H p o
  apart : ∀ (i j : Nat) (oi oj : O) (p q : Addr), s.e[i]? = some (Slot.own oi) → s.e[j]? = some (Slot.own oj) → s.σ[i]? = some (some (V.ref p)) → s.σ[j]? = some (some (V.ref q)) → i ≠ j → ∀ a ∈ fp s.H oi (.ref p), a ∉ fp s.H oj (.ref q)
  fn : ∀ (i : Nat) (x : Tag), s.e[i]? = some (Slot.fn x) → FnSl K s.F s.σ i x

structure Stp (s s' : Sta) : Prop where
  ff : Ex s.F s'.F
  fnew : ∀ a o, s'.F a = some o → s.F a = some o ∨ s.H a = none ∨ OwnA s a
  keep : ∀ a o, s.H a = some o → ¬ OwnA s a → s'.H a = some o
  own : ∀ a, OwnA s' a → OwnA s a ∨ s.H a = none
  dom : ∀ a o, s.H a = some o → ∃ o', s'.H a = some o'
theorem Stp.refl (s : Sta) : Stp s s := ⟨Ex.refl _, fun _ _ h => .inl h, fun _ _ h _ => h, fun _ h => .inl h, fun _ o h => ⟨o, h⟩⟩
theorem Stp.gone {s s' : Sta} (x : Stp s s') {a : Addr} (h : s'.H a = none) : s.H a = none := by
  cases e : s.H a with
  | none => rfl
  | some o =>
    obtain ⟨o', e'⟩ := x.dom a o e
    rw [h] at e'
    cases e'
theorem Stp.trans {s s1 s2 : Sta} (x : Stp s s1) (y : Stp s1 s2) : Stp s s2 := by
  refine ⟨x.ff.trans y.ff, fun a o h => ?_, fun a o h n => ?_, fun a h => ?_, fun a o h => ?_⟩
  · rcases y.fnew a o h with h | h | h
    · exact x.fnew a o h
    · exact .inr (.inl (x.gone h))
    · rcases x.own a h with h | h
      · exact .inr (.inr h)
      · exact .inr (.inl h)
  · refine y.keep a o (x.keep a o h n) fun z => ?_
    rcases x.own a z with z | z
    · exact n z
    · rw [h] at z
      cases z
  · rcases y.own a h with h | h
    · exact x.own a h
    · exact .inr (x.gone h)
  · obtain ⟨o', h'⟩ := x.dom a o h
    exact y.dom a o' h'

def Nw (s : Sta) (a : Addr) : Prop := s.H a = none ∨ OwnA s a
theorem Stp.nw {s s' : Sta} (x : Stp s s') {a : Addr} (h : Nw s' a) : Nw s a := by
  rcases h with h | h
  · exact Or.inl (x.gone h)
  · exact (x.own a h).symm
def VRep (K : PySem.W.Frag) (s0 s : Sta) (v : V) : Val → Prop
  | .frz d => Rp K s.F v d
  | .new o => ∃ p, v = .ref p ∧ OwnS K s.F s.H p o ∧ ∀ a ∈ fp s.H o (.ref p), Nw s0 a ∧ ¬ OwnA s a
  | .bor i => s.σ[i]? = some (some v) ∧ ∃ o, s.e[i]? = some (Slot.own o)

/-- exceptions: the class by name, its one field -/
abbrev CMap := String → Value → Prop
def XR (K : PySem.W.Frag) (cm : CMap) (x : Exn) (C : Value) (oe : Option Addr) (s : Sta) : Prop :=
  cm x.cls C ∧ match x.fld with
  | none => oe = none
  | some (n, d) => ∃ dx v, oe = some dx ∧ s.F dx = some (.xd [(n, v)]) ∧ Rp K s.F v d

structure Cf where
  K : PySem.W.Frag
  cm : CMap
  W : WX

def Post (c : Cf) (s : Sta) (Q : V → Val → Sta → Prop) : Out (Val × Env) → Prop
  | .ok (val, e') => ∀ v F' H', Stp s ⟨F', H', s.σ, e'⟩ → St c.K ⟨F', H', s.σ, e'⟩ → VRep c.K s ⟨F', H', s.σ, e'⟩ v val → Q v val ⟨F', H', s.σ, e'⟩
  | .exc x e' => ∀ C oe F' H', Stp s ⟨F', H', s.σ, e'⟩ → St c.K ⟨F', H', s.σ, e'⟩ → XR c.K c.cm x C oe ⟨F', H', s.σ, e'⟩ → c.W C oe s.σ H'
  | .bad => False

def PostB (c : Cf) (s : Sta) (Q : Bool → Sta → Prop) : Out (Bool × Env) → Prop
  | .ok (b, e') => ∀ F' H', Stp s ⟨F', H', s.σ, e'⟩ → St c.K ⟨F', H', s.σ, e'⟩ → Q b ⟨F', H', s.σ, e'⟩
  | .exc x e' => ∀ C oe F' H', Stp s ⟨F', H', s.σ, e'⟩ → St c.K ⟨F', H', s.σ, e'⟩ → XR c.K c.cm x C oe ⟨F', H', s.σ, e'⟩ → c.W C oe s.σ H'
  | .bad => False

theorem VRep.back {K : PySem.W.Frag} {s0 s1 s : Sta} {v : V} (h : ∀ a, Nw s1 a → Nw s0 a) : ∀ {val : Val}, VRep K s1 s v val → VRep K s0 s v val
  | .frz _, r => r
  | .new _, ⟨p, e, r, n⟩ => ⟨p, e, r, fun a ha => ⟨h a (n a ha).1, (n a ha).2⟩⟩
  | .bor _, r => r

/-- from a later state on less is asked -/
theorem Post.later {c : Cf} {s s1 : Sta} {Q : V → Val → Sta → Prop} (x : Stp s s1) (hσ : s1.σ = s.σ) : ∀ {o : Out (Val × Env)}, Post c s Q o → Post c s1 Q o
  | .ok (val, e'), h => fun v F' H' y z r => by
    rw [hσ] at y z r ⊢
    exact h v F' H' (x.trans y) z (VRep.back (fun _ q => x.nw q) r)
  | .exc xx e', h => fun C oe F' H' y z r => by
    rw [hσ] at y z r ⊢
    exact h C oe F' H' (x.trans y) z r
theorem PostB.later {c : Cf} {s s1 : Sta} {Q : Bool → Sta → Prop} (x : Stp s s1) (hσ : s1.σ = s.σ) : ∀ {o : Out (Bool × Env)}, PostB c s Q o → PostB c s1 Q o
  | .ok (val, e'), h => fun F' H' y z => by
    rw [hσ] at y z ⊢
    exact h F' H' (x.trans y) z
  | .exc xx e', h => fun C oe F' H' y z r => by
    rw [hσ] at y z r ⊢
    exact h C oe F' H' (x.trans y) z r

/-- an expression's meaning by data -/
def EVt (c : Cf) (t : TE) (f : Env → Out (Val × Env)) : Prop := ∀ (s : Sta) (Q : V → Hp → Prop), St c.K s → Post c s (fun v _ s' => Q v s'.H) (f s.e) → t s.σ s.H Q
def ETt (c : Cf) (t : TT) (f : Env → Out (Bool × Env)) : Prop := ∀ (s : Sta) (Q : Bool → Hp → Prop), St c.K s → PostB c s (fun b s' => Q b s'.H) (f s.e) → t s.σ s.H Q

theorem EVt.step {c : Cf} {t : TE} {f : Env → Out (Val × Env)} {g : Val × Env → Out (Val × Env)} {s : Sta} {Q : V → Val → Sta → Prop} {R : V → Hp → Prop} (h : EVt c t f) (z : St c.K s) (p : Post c s Q ((f s.e).bind g))
    (k : ∀ v val e1 F1 H1, Stp s ⟨F1, H1, s.σ, e1⟩ → St c.K ⟨F1, H1, s.σ, e1⟩ → VRep c.K s ⟨F1, H1, s.σ, e1⟩ v val → Post c ⟨F1, H1, s.σ, e1⟩ Q (g (val, e1)) → R v H1) : t s.σ s.H R := by
  refine h s R z ?_
  revert p
  cases f s.e with
  | ok a =>
    obtain ⟨val, e1⟩ := a
    intro p v F1 H1 x y r
    exact k v val e1 F1 H1 x y r (Post.later x rfl p)
  | exc x e1 => exact fun p => p
  | bad => exact fun p => p
theorem EVt.stepB {c : Cf} {t : TE} {f : Env → Out (Val × Env)} {g : Val × Env → Out (Bool × Env)} {s : Sta} {Q : Bool → Sta → Prop} {R : V → Hp → Prop} (h : EVt c t f) (z : St c.K s) (p : PostB c s Q ((f s.e).bind g))
    (k : ∀ v val e1 F1 H1, Stp s ⟨F1, H1, s.σ, e1⟩ → St c.K ⟨F1, H1, s.σ, e1⟩ → VRep c.K s ⟨F1, H1, s.σ, e1⟩ v val → PostB c ⟨F1, H1, s.σ, e1⟩ Q (g (val, e1)) → R v H1) : t s.σ s.H R := by
  refine h s R z ?_
  revert p
  cases f s.e with
  | ok a =>
    obtain ⟨val, e1⟩ := a
    intro p v F1 H1 x y r
    exact k v val e1 F1 H1 x y r (PostB.later x rfl p)
  | exc x e1 => exact fun p => p
  | bad => exact fun p => p
theorem ETt.step {c : Cf} {t : TT} {f : Env → Out (Bool × Env)} {g : Bool × Env → Out (Val × Env)} {s : Sta} {Q : V → Val → Sta → Prop} {R : Bool → Hp → Prop} (h : ETt c t f) (z : St c.K s) (p : Post c s Q ((f s.e).bind g))
    (k : ∀ b e1 F1 H1, Stp s ⟨F1, H1, s.σ, e1⟩ → St c.K ⟨F1, H1, s.σ, e1⟩ → Post c ⟨F1, H1, s.σ, e1⟩ Q (g (b, e1)) → R b H1) : t s.σ s.H R := by
  refine h s R z ?_
  revert p
  cases f s.e with
  | ok a =>
    obtain ⟨val, e1⟩ := a
    intro p F1 H1 x y
    exact k val e1 F1 H1 x y (Post.later x rfl p)
  | exc x e1 => exact fun p => p
  | bad => exact fun p => p
theorem ETt.stepB {c : Cf} {t : TT} {f : Env → Out (Bool × Env)} {g : Bool × Env → Out (Bool × Env)} {s : Sta} {Q : Bool → Sta → Prop} {R : Bool → Hp → Prop} (h : ETt c t f) (z : St c.K s) (p : PostB c s Q ((f s.e).bind g))
    (k : ∀ b e1 F1 H1, Stp s ⟨F1, H1, s.σ, e1⟩ → St c.K ⟨F1, H1, s.σ, e1⟩ → PostB c ⟨F1, H1, s.σ, e1⟩ Q (g (b, e1)) → R b H1) : t s.σ s.H R := by
  refine h s R z ?_
  revert p
  cases f s.e with
  | ok a =>
    obtain ⟨val, e1⟩ := a
    intro p F1 H1 x y
    exact k val e1 F1 H1 x y (PostB.later x rfl p)
  | exc x e1 => exact fun p => p
  | bad => exact fun p => p

/-! ### laying and freezing -/
theorem St.ownA {K : PySem.W.Frag} {s : Sta} (z : St K s) {a : Addr} (h : OwnA s a) : s.F a = none ∧ ∃ u, s.H a = some u := by
  obtain ⟨i, o, p, h1, h2, h3⟩ := h
  obtain ⟨q, q1, q2⟩ := z.own i o h1
  rw [h2] at q1
  cases q1
  exact ⟨q2.nf a h3, OwnAt.all o q2.own a h3⟩
theorem St.notOwn {K : PySem.W.Frag} {s : Sta} (z : St K s) {p : Addr} (h : s.H p = none) : ¬ OwnA s p := fun o => by
  obtain ⟨_, u, q⟩ := z.ownA o
  rw [h] at q
  cases q
theorem St.fnone {K : PySem.W.Frag} {s : Sta} (z : St K s) {p : Addr} (h : s.H p = none) : s.F p = none := fresh_back z.fh h
/-- the heap is changed elsewhere -/
theorem St.change {K : PySem.W.Frag} {F H F' H' : Hp} {σ : L2.St} {e : Env} (z : St K ⟨F, H, σ, e⟩) (ff : Ex F F') (fh : Ex F' H') (hh : ∀ a, OwnA ⟨F, H, σ, e⟩ a → H' a = H a) (fn : ∀ a, OwnA ⟨F, H, σ, e⟩ a → F' a = none) :
    St K ⟨F', H', σ, e⟩ ∧ ∀ a, OwnA ⟨F', H', σ, e⟩ a ↔ OwnA ⟨F, H, σ, e⟩ a := by
  have fpe : ∀ {i : Nat} {o : O} {p : Addr}, e[i]? = some (Slot.own o) → σ[i]? = some (some (V.ref p)) → fp H' o (.ref p) = fp H o (.ref p) := fun h1 h2 => fp_congr _ fun a ha => hh a ⟨_, _, _, h1, h2, ha⟩
  refine ⟨⟨z.len, fh, fun i d h => ?_, fun i o h => ?_, fun i j oi oj p q h1 h2 h3 h4 ne => ?_, fun i x q => (z.fn i x q).mono ff⟩, fun a => ⟨fun h => ?_, fun h => ?_⟩⟩
  · obtain ⟨v, v1, v2⟩ := z.frz i d h
    exact ⟨v, v1, v2.mono ff⟩
  · obtain ⟨p, p1, p2⟩ := z.own i o h
    exact ⟨p, p1, p2.later ff (fun a ha => hh a ⟨i, o, p, h, p1, ha⟩) fun a ha => fn a ⟨i, o, p, h, p1, ha⟩⟩
  · show ∀ a ∈ fp H' oi (.ref p), a ∉ fp H' oj (.ref q)
    rw [fpe h1 h3, fpe h2 h4]
    exact z.apart i j oi oj p q h1 h2 h3 h4 ne
  · obtain ⟨i, o, p, h1, h2, h3⟩ := h
    have h3 : a ∈ fp H' o (.ref p) := h3
    rw [fpe h1 h2] at h3
    exact ⟨i, o, p, h1, h2, h3⟩
  · obtain ⟨i, o, p, h1, h2, h3⟩ := h
    refine ⟨i, o, p, h1, h2, ?_⟩
    show a ∈ fp H' o (.ref p)
    rw [fpe h1 h2]
    exact h3
/-- a new object is laid -/
theorem St.laid2 {K : PySem.W.Frag} {F H : Hp} {σ : L2.St} {e : Env} (z : St K ⟨F, H, σ, e⟩) {p : Addr} (h : H p = none) (o : HO) : St K ⟨F, upd H p o, σ, e⟩ ∧ ∀ a, OwnA ⟨F, upd H p o, σ, e⟩ a ↔ OwnA ⟨F, H, σ, e⟩ a :=
  z.change (Ex.refl _) (z.fh.trans (Ex.new h)) (fun a ha => upd_ne fun q => z.notOwn h (q ▸ ha)) fun a ha => (z.ownA ha).1
theorem St.laid {K : PySem.W.Frag} {F H : Hp} {σ : L2.St} {e : Env} (z : St K ⟨F, H, σ, e⟩) {p : Addr} (h : H p = none) (o : HO) : St K ⟨F, upd H p o, σ, e⟩ := (z.laid2 h o).1
theorem Stp.laid {K : PySem.W.Frag} {F H : Hp} {σ : L2.St} {e : Env} (z : St K ⟨F, H, σ, e⟩) {p : Addr} (h : H p = none) (o : HO) : Stp ⟨F, H, σ, e⟩ ⟨F, upd H p o, σ, e⟩ :=
  ⟨Ex.refl _, fun _ _ q => .inl q, fun a o' e1 _ => Ex.new h a o' e1, fun a q => .inl (((z.laid2 h o).2 a).mp q), fun a o' e1 => ⟨o', Ex.new h a o' e1⟩⟩
/-- objects that stand and are not owned are frozen -/
def frzF (F H : Hp) (as : List Addr) : Hp := fun a => if a ∈ as then H a else F a
theorem frzF_in {F H : Hp} {as : List Addr} {a : Addr} (h : a ∈ as) : frzF F H as a = H a := if_pos h
theorem frzF_out {F H : Hp} {as : List Addr} {a : Addr} (h : a ∉ as) : frzF F H as a = F a := if_neg h
theorem Ex.frzF {F H : Hp} {as : List Addr} (f : ∀ a ∈ as, F a = none) : Ex F (frzF F H as) := fun a o h => by
  rw [frzF_out fun q => by rw [f a q] at h; cases h]
  exact h
theorem frzF_ex {F H : Hp} {as : List Addr} (f : Ex F H) : Ex (frzF F H as) H := fun a o h => by
  by_cases q : a ∈ as
  · rw [frzF_in q] at h
    exact h
  · rw [frzF_out q] at h
    exact f a o h
theorem frzF_one {F H : Hp} {p : Addr} {o : HO} (h : H p = some o) : frzF F H [p] = upd F p o := by
  funext a
  by_cases q : a = p
  · subst q
    rw [frzF_in (List.mem_singleton.mpr rfl), upd_same, h]
  · rw [frzF_out (fun w => q (List.mem_singleton.mp w)), upd_ne q]
theorem St.freezes {K : PySem.W.Frag} {F H : Hp} {σ : L2.St} {e : Env} (z : St K ⟨F, H, σ, e⟩) {as : List Addr} (f : ∀ a ∈ as, F a = none) (n : ∀ a ∈ as, ¬ OwnA ⟨F, H, σ, e⟩ a) : St K ⟨frzF F H as, H, σ, e⟩ ∧ ∀ a, OwnA ⟨frzF F H as, H, σ, e⟩ a ↔ OwnA ⟨F, H, σ, e⟩ a :=
  z.change (Ex.frzF f) (frzF_ex z.fh) (fun _ _ => rfl) fun a ha => by
    rw [frzF_out fun q => n a q ha]
    exact (z.ownA ha).1
theorem Stp.freezes {F H : Hp} {σ : L2.St} {e : Env} {as : List Addr} {s : Sta} (f : ∀ a ∈ as, F a = none) (h : ∀ a ∈ as, Nw s a) (x : Stp s ⟨F, H, σ, e⟩) : Stp s ⟨frzF F H as, H, σ, e⟩ := by
  refine ⟨x.ff.trans (Ex.frzF f), fun a u e1 => ?_, x.keep, x.own, x.dom⟩
  by_cases ha : a ∈ as
  · exact .inr (h a ha)
  · have e1 : frzF F H as a = some u := e1
    rw [frzF_out ha] at e1
    exact x.fnew a u e1
theorem St.freeze {K : PySem.W.Frag} {F H : Hp} {σ : L2.St} {e : Env} (z : St K ⟨F, H, σ, e⟩) {p : Addr} {o : HO} (h : H p = some o) (f : F p = none) (n : ¬ OwnA ⟨F, H, σ, e⟩ p) : St K ⟨upd F p o, H, σ, e⟩ := by
  have := (z.freezes (as := [p]) (fun a ha => by rw [List.mem_singleton.mp ha]; exact f) fun a ha => by rw [List.mem_singleton.mp ha]; exact n).1
  rwa [frzF_one h] at this
theorem Stp.freeze {F H : Hp} {σ : L2.St} {e : Env} {p : Addr} {o : HO} {s : Sta} (f : F p = none) (h : s.H p = none) (x : Stp s ⟨F, H, σ, e⟩) : Stp s ⟨upd F p o, H, σ, e⟩ := by
  refine ⟨x.ff.trans (Ex.new f), fun a u e1 => ?_, x.keep, x.own, x.dom⟩
  by_cases ha : a = p
  · subst ha
    exact .inr (.inl h)
  · have e1 : upd F p o a = some u := e1
    rw [upd_ne ha] at e1
    exact x.fnew a u e1

/-- a new value loses its owner: it is data from now on -/
def fzv : Val × Env → Out (Val × Env)
  | (.new o, e) => match o.dq with
    | some d => .ok (.frz d, e)
    | none => .bad
  | (v, e) => .ok (v, e)
def fz (f : Env → Out (Val × Env)) : Env → Out (Val × Env) := fun e => (f e).bind fzv
theorem frzF_sub {F H : Hp} {as bs : List Addr} (f : ∀ a ∈ bs, F a = none) (s : ∀ a ∈ as, a ∈ bs) : Ex (frzF F H as) (frzF F H bs) := fun a o h => by
  by_cases q : a ∈ as
  · rw [frzF_in q] at h
    rw [frzF_in (s a q)]
    exact h
  · rw [frzF_out q] at h
    exact Ex.frzF f a o h
mutual
theorem Rp.ofOwnO {K : PySem.W.Frag} {F H : Hp} : ∀ (o : O) {p : Addr} {d : D}, OwnAtO K F H o p → (∀ a ∈ fp H o (.ref p), F a = none) → o.dq = some d → Rp K (frzF F H (fp H o (.ref p))) (.ref p) d
  | .lst ds, p, d, ⟨vs, h, r⟩, f, e => by
    cases e
    exact .lst (SqL.of ((frzF_in (List.mem_singleton.mpr rfl)).trans h)) (r.mono (Ex.frzF f))
  | .dic kvs, p, d, ⟨vs, h, r⟩, f, e => by
    cases e
    exact .dic ((frzF_in (List.mem_singleton.mpr rfl)).trans h) (r.mono (Ex.frzF f))
  | .row os, p, d, ⟨vs, h, r⟩, f, e => by
    simp only [O.dq] at e
    cases q : O.dqA os with
    | none =>
      rw [q] at e
      cases e
    | some ds =>
      rw [q] at e
      cases e
      have pe : parts H (.ref p) = vs := by
        show partsO (H p) = _
        rw [h]
        rfl
      have fs : ∀ a ∈ fpA H os vs, a ∈ fp H (.row os) (.ref p) := fun a ha => by
        show a ∈ adr (.ref p) ++ fpA H os (parts H (.ref p))
        rw [pe]
        exact List.mem_append_right _ ha
      exact .lst (SqL.of ((frzF_in List.mem_cons_self).trans h)) ((Rp.ofOwnL os r (fun a ha => f a (fs a ha)) q).mono (frzF_sub f fs))
  | .ins _ _ _, p, d, _, f, e => by cases e
theorem Rp.ofOwnL {K : PySem.W.Frag} {F H : Hp} : ∀ (os : List O) {vs : List V} {ds : List D}, OwnLO K F H os vs → (∀ a ∈ fpA H os vs, F a = none) → O.dqA os = some ds → RpA K (frzF F H (fpA H os vs)) vs ds
  | [], _, _, h, f, e => by
    cases e
    cases h
    exact .nil
  | o :: os, [], ds, h, f, e => h.elim
  | o :: os, v :: vs, ds, ⟨h1, h2⟩, f, e => by
    have fl : ∀ a ∈ fp H o v, F a = none := fun a ha => f a (List.mem_append_left _ ha)
    have fr : ∀ a ∈ fpA H os vs, F a = none := fun a ha => f a (List.mem_append_right _ ha)
    simp only [O.dqA] at e
    cases q : O.dq o with
    | none =>
      rw [q] at e
      cases e
    | some d =>
      cases q2 : O.dqA os with
      | none =>
        rw [q, q2] at e
        cases e
      | some ds =>
        rw [q, q2] at e
        cases e
        refine .cons ?_ ((Rp.ofOwnL os h2 fr q2).mono (frzF_sub f fun a ha => List.mem_append_right _ ha))
        rcases h1 with ⟨d', rfl, r⟩ | ⟨p, rfl, h1⟩
        · cases q
          exact r.mono (Ex.frzF f)
        · exact (Rp.ofOwnO o h1 fl q).mono (frzF_sub f fun a ha => List.mem_append_left _ ha)
end
theorem EVt.fz {c : Cf} {t : TE} {f : Env → Out (Val × Env)} (h : EVt c t f) : EVt c t (fz f) := fun s Q z p => by
  refine h s Q z ?_
  unfold BV.fz at p
  revert p
  cases f s.e with
  | exc x e1 => exact fun p => p
  | bad => exact fun p => p
  | ok a =>
    obtain ⟨val, e1⟩ := a
    intro p v F1 H1 x y r
    cases val with
    | frz d => exact p v F1 H1 x y r
    | bor i => exact p v F1 H1 x y r
    | new o =>
      simp only [Out.bind_ok, fzv] at p
      cases q : o.dq with
      | none =>
        rw [q] at p
        exact p.elim
      | some d =>
        rw [q] at p
        obtain ⟨a, rfl, os, n⟩ := r
        exact p (.ref a) (frzF F1 H1 (fp H1 o (.ref a))) H1 (Stp.freezes os.nf (fun b hb => (n b hb).1) x) (y.freezes os.nf fun b hb => (n b hb).2).1 (Rp.ofOwnO o os.own os.nf q)
end BV
namespace BV
open PySem L2

/-! ### data as the library's Reads -/
theorem Pairs.keysAll {P : Program} {w : World} {h : Heap} : ∀ {es : List DictEntry} {ks : List (Key × Value)}, PySem.Pairs (mixKind P w) es ks → ∃ as, ReadsAll h (es.map (·.key)) (ks.map fun p => keyD p.1) as
  | _, _, .nil => ⟨_, .nil⟩
  | _, _, .cons (kv := kv) (e := e) h1 h2 r => by
    obtain ⟨as, q⟩ := Pairs.keysAll (h := h) r
    rcases keyIs_shape h1 with ⟨i, t, e1, e2⟩ | ⟨x, t, e1, e2⟩
    · refine ⟨[] ++ as, .cons (as := []) ?_ q⟩
      show Reads h e.key (keyD kv.1) []
      rw [e1, e2]
      exact .int i t
    · refine ⟨[] ++ as, .cons (as := []) ?_ q⟩
      show Reads h e.key (keyD kv.1) []
      rw [e1, e2]
      exact .str x t
theorem Pairs.vals {P : Program} {w : World} : ∀ {es : List DictEntry} {ks : List (Key × Value)}, PySem.Pairs (mixKind P w) es ks → es.map (·.val) = ks.map (·.2)
  | _, _, .nil => rfl
  | _, _, .cons _ h2 r => by
    rw [List.map_cons, List.map_cons, Pairs.vals r, h2]
section
variable {X : Cx} {pins : List (Addr × Obj)} {σ : L2.St} {H : Hp} {s : Shared}
theorem RpE.keys {K : PySem.W.Frag} {F : Hp} {ys : List (Key × Value)} : ∀ {es : List (Key × V)} {kvs : List (D × D)}, RpE K F es kvs → KV es ys → ys.map (fun p => keyD p.1) = kvs.map (·.1) := by
  induction ys with
  | nil =>
    intro es kvs r k
    cases k
    cases r
    rfl
  | cons y ys ih =>
    intro es kvs r k
    cases k with
    | cons a b =>
      cases r with
      | cons r1 r2 =>
        rw [List.map_cons, List.map_cons, ih r2 b]
        have e := a.1
        simp only at e
        rw [← e]
mutual
theorem Rp.reads (I : Inv X pins σ H s) : ∀ (d : D) (v : V) (u : Value), Rp X.K H v d → RelV v u → ∃ as, Reads s.heap u d as
  | .none, _, _, h, r => by
    cases h
    cases r
    exact ⟨_, .none⟩
  | .bool b, _, _, h, r => by
    cases h
    cases r
    exact ⟨_, .bool b⟩
  | .int i, _, _, h, r => by
    cases h
    obtain ⟨t, rfl⟩ := r
    exact ⟨_, .int i t⟩
  | .str x, _, _, h, r => by
    cases h
    obtain ⟨t, rfl⟩ := r
    exact ⟨_, .str x t⟩
  | .list ds, _, _, h, r => by
    cases h with
    | lst hs ha =>
      cases r
      obtain ⟨its, rv, ⟨o, n, ho, hc, _, hd⟩, _⟩ := I.list hs
      obtain ⟨as, hr⟩ := RpA.reads I ds _ its ha rv
      exact ⟨_, .list ho hc hd hr⟩
  | .tuple ds, _, _, h, r => by
    cases h with
    | tup hs ha =>
      cases r
      obtain ⟨its, rv, ⟨o, ho, hc, n, hd⟩, _⟩ := I.tuple (hs.sq (K := X.K))
      obtain ⟨as, hr⟩ := RpA.reads I ds _ its ha rv
      exact ⟨_, .tuple ho hc hd hr⟩
  | .dict kvs, _, _, h, r => by
    cases h with
    | dic hs ha =>
      cases r
      obtain ⟨_, _, ys, kv, o, es, ep, ho, hx, hd, _, hp, _⟩ := I.hok _ _ hs
      obtain ⟨as, h1⟩ := Pairs.keysAll (h := s.heap) hp
      obtain ⟨bs, h2⟩ := RpE.reads I kvs _ ys ha kv
      have h3 : ReadsAll s.heap (es.toList.map (·.val)) (kvs.map (·.2)) bs := by
        rw [Pairs.vals hp]
        exact h2
      exact ⟨_, .dict ho hx.1 hd (by rw [← RpE.keys ha kv]; exact h1) h3⟩
theorem RpA.reads (I : Inv X pins σ H s) : ∀ (ds : List D) (vs : List V) (us : List Value), RpA X.K H vs ds → Vals vs us → ∃ as, ReadsAll s.heap us ds as
  | [], _, _, h, r => by
    cases h
    cases r
    exact ⟨_, .nil⟩
  | d :: ds, _, _, h, r => by
    cases h with
    | cons h1 h2 =>
      cases r with
      | cons r1 r2 =>
        obtain ⟨as, q1⟩ := Rp.reads I d _ _ h1 r1
        obtain ⟨bs, q2⟩ := RpA.reads I ds _ _ h2 r2
        exact ⟨_, .cons q1 q2⟩
theorem RpE.reads (I : Inv X pins σ H s) : ∀ (ds : List (D × D)) (vs : List (Key × V)) (us : List (Key × Value)), RpE X.K H vs ds → KV vs us → ∃ as, ReadsAll s.heap (us.map (·.2)) (ds.map (·.2)) as
  | [], _, _, h, r => by
    cases h
    cases r
    exact ⟨_, .nil⟩
  | (k, d) :: ds, _, _, h, r => by
    cases h with
    | cons h1 h2 =>
      cases r with
      | cons r1 r2 =>
        obtain ⟨as, q1⟩ := Rp.reads I d _ _ h1 r1.2
        obtain ⟨bs, q2⟩ := RpE.reads I ds _ _ h2 r2
        exact ⟨_, .cons q1 q2⟩
end
end

/-! ### operands -/
def opd (e : Env) : Val → Option D
  | .frz d => some d
  | .new o => o.fl
  | .bor i => match e[i]? with
    | some (.own o) => o.fl
    | _ => none
/-- an operand: its own list or dict stands in H, what is in it in F -/
def Opn (K : PySem.W.Frag) (F H : Hp) (v : V) : D → Prop
  | .list ds => ∃ a xs, v = .ref a ∧ SqL K H a xs ∧ RpA K F xs ds
  | .dict kvs => ∃ a es, v = .ref a ∧ H a = some (.dK es) ∧ RpE K F es kvs
  | d => Rp K F v d
theorem Opn.rp {K : PySem.W.Frag} {F H : Hp} (e : Ex F H) {v : V} : ∀ {d : D}, Opn K F H v d → Rp K H v d
  | .none, h => Rp.mono e h
  | .bool _, h => Rp.mono e h
  | .int _, h => Rp.mono e h
  | .str _, h => Rp.mono e h
  | .tuple _, h => Rp.mono e h
  | .list _, ⟨_, _, h, s, r⟩ => by
    subst h
    exact .lst s (r.mono e)
  | .dict _, ⟨_, _, h, s, r⟩ => by
    subst h
    exact .dic s (r.mono e)
theorem Opn.of {K : PySem.W.Frag} {F H : Hp} (e : Ex F H) {v : V} {d : D} (h : Rp K F v d) : Opn K F H v d := by
  cases h with
  | non => exact .non
  | bl b => exact .bl b
  | int i => exact .int i
  | str x => exact .str x
  | lst s r => exact ⟨_, _, rfl, ex_l e s, r⟩
  | tup s r => exact .tup s r
  | dic s r => exact ⟨_, _, rfl, e _ _ s, r⟩
theorem Opn.own {K : PySem.W.Frag} {F H : Hp} {p : Addr} : ∀ {o : O} {d : D}, OwnAt K F H p o → o.fl = some d → Opn K F H (.ref p) d
  | .lst _, _, ⟨_, h, r⟩, e => by
    cases e
    exact ⟨_, _, rfl, SqL.of h, r⟩
  | .dic _, _, ⟨_, h, r⟩, e => by
    cases e
    exact ⟨_, _, rfl, h, r⟩
theorem VRep.opn {K : PySem.W.Frag} {s0 s : Sta} (z : St K s) {v : V} {val : Val} {d : D} (r : VRep K s0 s v val) (h : opd s.e val = some d) : Opn K s.F s.H v d := by
  cases val with
  | frz d' =>
    cases h
    exact .of z.fh r
  | new o =>
    obtain ⟨p, rfl, os, _⟩ := r
    exact .own os.own h
  | bor i =>
    obtain ⟨r1, o, r2⟩ := r
    simp only [opd, r2] at h
    obtain ⟨p, q1, q3⟩ := z.own i o r2
    rw [r1] at q1
    cases q1
    exact .own q3.own h
/-- an operand that is no new one, at a later state of the same slots -/
def noNew : Val → Bool
  | .new _ => false
  | _ => true
theorem VRep.later {K : PySem.W.Frag} {s0 s1 s s' : Sta} (x : Stp s s') (hσ : s'.σ = s.σ) {v : V} {val : Val} {d : D} (r : VRep K s0 s v val) (n : noNew val = true) (h : opd s'.e val = some d) : VRep K s1 s' v val := by
  cases val with
  | frz d' => exact Rp.mono x.ff r
  | new o => cases n
  | bor i =>
    refine ⟨by rw [hσ]; exact r.1, ?_⟩
    simp only [opd] at h
    split at h
    · exact ⟨_, by assumption⟩
    · cases h
theorem fz_noNew {f : Env → Out (Val × Env)} {e : Env} {val : Val} {e1 : Env} (h : fz f e = .ok (val, e1)) : noNew val = true := by
  unfold fz at h
  cases q : f e with
  | ok a =>
    obtain ⟨v, e2⟩ := a
    rw [q] at h
    cases v with
    | new o =>
      simp only [Out.bind_ok, fzv] at h
      cases q2 : o.dq with
      | none =>
        rw [q2] at h
        cases h
      | some d =>
        rw [q2] at h
        cases h
        rfl
    | frz d =>
      cases h
      rfl
    | bor i =>
      cases h
      rfl
  | exc x e2 =>
    rw [q] at h
    cases h
  | bad =>
    rw [q] at h
    cases h

/-- .. with what f told -/
theorem EVt.step' {c : Cf} {t : TE} {f : Env → Out (Val × Env)} {g : Val × Env → Out (Val × Env)} {s : Sta} {Q : V → Val → Sta → Prop} {R : V → Hp → Prop} (h : EVt c t f) (z : St c.K s) (p : Post c s Q ((f s.e).bind g))
    (k : ∀ v val e1 F1 H1, f s.e = .ok (val, e1) → Stp s ⟨F1, H1, s.σ, e1⟩ → St c.K ⟨F1, H1, s.σ, e1⟩ → VRep c.K s ⟨F1, H1, s.σ, e1⟩ v val → Post c ⟨F1, H1, s.σ, e1⟩ Q (g (val, e1)) → R v H1) : t s.σ s.H R := by
  refine h s R z ?_
  revert p
  cases q : f s.e with
  | ok a =>
    obtain ⟨val, e1⟩ := a
    intro p v F1 H1 x y r
    exact k v val e1 F1 H1 q x y r (Post.later x rfl p)
  | exc x e1 => exact fun p => p
  | bad => exact fun p => p

def res (o : Option Val) (e : Env) : Out (Val × Env) := match o with
  | some v => .ok (v, e)
  | none => .bad
def un (g : D → Option Val) (fa : Env → Out (Val × Env)) : Env → Out (Val × Env) := fun e => (fz fa e).bind fun a => match opd a.2 a.1 with
  | some x => res (g x) a.2
  | none => .bad
def bin (g : D → D → Option Val) (fa fb : Env → Out (Val × Env)) : Env → Out (Val × Env) := fun e => (fz fa e).bind fun a => (fz fb a.2).bind fun b =>
  match opd b.2 a.1, opd b.2 b.1 with
  | some x, some y => res (g x y) b.2
  | _, _ => .bad

/-- the reading of an operation by data -/
def Gives (K : PySem.W.Frag) (s : Sta) (val : Val) (Q : V → Hp → Prop) : Prop := ∀ v F' H', Stp s ⟨F', H', s.σ, s.e⟩ → St K ⟨F', H', s.σ, s.e⟩ → VRep K s ⟨F', H', s.σ, s.e⟩ v val → Q v H'
def rG1 (K : PySem.W.Frag) (g : D → Option Val) : V → Hp → VK → Prop := fun x H Q => ∃ (s : Sta) (dx : D) (val : Val), s.H = H ∧ St K s ∧ Opn K s.F s.H x dx ∧ g dx = some val ∧ Gives K s val Q
def rG (K : PySem.W.Frag) (g : D → D → Option Val) : R2 := fun x y H Q => ∃ (s : Sta) (dx dy : D) (val : Val), s.H = H ∧ St K s ∧ Opn K s.F s.H x dx ∧ Opn K s.F s.H y dy ∧ g dx dy = some val ∧ Gives K s val Q
theorem Post.gives {c : Cf} {s : Sta} {Q : V → Hp → Prop} {o : Option Val} (p : Post c s (fun v _ s' => Q v s'.H) (res o s.e)) : ∃ val, o = some val ∧ Gives c.K s val Q := by
  cases o with
  | none => exact False.elim p
  | some val => exact ⟨val, rfl, p⟩
theorem EVt.un {c : Cf} {t : TE} {f : Env → Out (Val × Env)} {g : D → Option Val} (h : EVt c t f) : EVt c (tUn (rG1 c.K g) t) (un g f) := fun s Q z p => by
  refine h.fz.step z p fun v val e1 F1 H1 x y r p1 => ?_
  simp only at p1
  cases q : opd e1 val with
  | none =>
    rw [q] at p1
    exact False.elim p1
  | some d =>
    rw [q] at p1
    obtain ⟨w, e, k⟩ := p1.gives
    exact ⟨_, d, w, rfl, y, r.opn y q, e, k⟩
theorem EVt.bin {c : Cf} {ta tb : TE} {fa fb : Env → Out (Val × Env)} {g : D → D → Option Val} (ha : EVt c ta fa) (hb : EVt c tb fb) : EVt c (tOp (rG c.K g) ta tb) (bin g fa fb) := fun s Q z p => by
  refine ha.fz.step' z p fun v val e1 F1 H1 q1 x y r p1 => ?_
  refine hb.fz.step' y p1 fun v2 val2 e2 F2 H2 q2 x2 y2 r2 p2 => ?_
  simp only at p2
  cases o1 : opd e2 val with
  | none =>
    rw [o1] at p2
    exact False.elim p2
  | some d1 =>
    cases o2 : opd e2 val2 with
    | none =>
      rw [o1, o2] at p2
      exact False.elim p2
    | some d2 =>
      rw [o1, o2] at p2
      obtain ⟨w, e, k⟩ := p2.gives
      exact ⟨_, d1, d2, w, rfl, y2, ((r.later (s1 := ⟨F1, H1, s.σ, e1⟩) x2 rfl (fz_noNew q1) o1).opn y2 o1), r2.opn y2 o2, e, k⟩

theorem VRep.laid {K : PySem.W.Frag} {F H : Hp} {σ : L2.St} {e : Env} {p : Addr} {u : HO} {o : O} (z : St K ⟨F, H, σ, e⟩) (hp : H p = none) (os : OwnS K F (upd H p u) p o) (fo : fp (upd H p u) o (.ref p) = [p]) : VRep K ⟨F, H, σ, e⟩ ⟨F, upd H p u, σ, e⟩ (.ref p) (.new o) := ⟨p, rfl, os, fun a ha => by
  have ha : a ∈ fp (upd H p u) o (.ref p) := ha
  rw [fo, List.mem_singleton] at ha
  subst ha
  exact ⟨.inl hp, fun w => z.notOwn hp (((z.laid2 hp _).2 a).mp w)⟩⟩
theorem Gives.same {K : PySem.W.Frag} {s : Sta} {d : D} {Q : V → Hp → Prop} (k : Gives K s (.frz d) Q) (z : St K s) {v : V} (r : Rp K s.F v d) : Q v s.H := k v s.F s.H (Stp.refl _) z r
theorem Gives.list {K : PySem.W.Frag} {s : Sta} {ds : List D} {Q : V → Hp → Prop} (k : Gives K s (.new (.lst ds)) Q) (z : St K s) {vs : List V} (r : RpA K s.F vs ds) {p : Addr} (hp : s.H p = none) : Q (.ref p) (upd s.H p (.lst vs)) := by
  obtain ⟨F, H, σ, e⟩ := s
  exact k (.ref p) F (upd H p (.lst vs)) (Stp.laid z hp _) (z.laid hp _) (VRep.laid z hp (.lst (z.fnone hp) upd_same r) rfl)
/-- how a new tuple comes: with the object that it is -/
def NewT (H : Hp) (vs : List V) (Q : V → Hp → Prop) : Prop := ∀ p o, H p = none → o.cls = .type "tuple" → o.dict = none → Q (.ref p) (upd H p (.frz o (.tup vs)))
theorem Gives.tuple {K : PySem.W.Frag} {s : Sta} {ds : List D} {Q : V → Hp → Prop} (k : Gives K s (.frz (.tuple ds)) Q) (z : St K s) {vs : List V} (r : RpA K s.F vs ds) : NewT s.H vs Q := fun p o hp hc hd => by
  obtain ⟨F, H, σ, e⟩ := s
  have f : F p = none := z.fnone hp
  have n : ¬ OwnA ⟨F, upd H p (.frz o (.tup vs)), σ, e⟩ p := fun w => z.notOwn hp (((z.laid2 hp _).2 p).mp w)
  exact k (.ref p) (upd F p (.frz o (.tup vs))) (upd H p (.frz o (.tup vs))) (Stp.freeze f hp (Stp.laid z hp _)) ((z.laid hp _).freeze upd_same f n) (.tup ⟨o, upd_same, hc, hd⟩ (r.mono (Ex.new f)))
section
variable {X : Cx} {pins : List (Addr × Obj)} {σ : L2.St} {H : Hp} {s : Shared}
/-- a tuple's object is laid -/
theorem lay_tup (I : L2.Inv X pins σ H s) {its : List Value} {vs : List V} (r : Vals vs its) (hz : vs.length ≤ sizeLine) {Q : VK} (k : NewT H vs Q) :
    EP X pins σ Q (.ref s.heap.objs.size) { s with heap := s.heap.push { cls := .type "tuple", data := .seq its.toArray } } := by
  refine ⟨.ref s.heap.objs.size, _, I.laid (t' := s.toks) (o := .frz { cls := .type "tuple", data := .seq its.toArray } (.tup vs)) (fun b ob q => Heap.get?_push_of_some _ q) (Nat.le_refl _) ?_, rfl, k _ _ (I.hok.fresh (Nat.le_refl _)) rfl rfl⟩
  exact ⟨Heap.get?_push_size _ rfl, hz, its, r, PyProof.Rows.IsTup.new _ _⟩
end
end BV
namespace BV
open PySem L2 PyProof.Rows
section
variable {X : Cx}

/-! ### arithmetic -/
def gAdd : D → D → Option Val
  | .int a, .int b => some (.frz (.int (a + b)))
  | .str a, .str b => if a.length + b.length ≤ sizeLine then some (.frz (.str (a ++ b))) else none
  | .tuple a, .tuple b => if a.length + b.length ≤ sizeLine then some (.frz (.tuple (a ++ b))) else none
  | .list a, .list b => if a.length + b.length ≤ sizeLine then some (.new (.lst (a ++ b))) else none
  | _, _ => none
theorem opn_lst {K : PySem.W.Frag} {F H : Hp} {v : V} {ds : List D} (h : Opn K F H v (.list ds)) : ∃ a xs, v = .ref a ∧ SqL K H a xs ∧ RpA K F xs ds := h
theorem opn_tup {K : PySem.W.Frag} {F H : Hp} (e : Ex F H) {v : V} {ds : List D} (h : Opn K F H v (.tuple ds)) : ∃ a xs, v = .ref a ∧ SqT K H a xs ∧ RpA K F xs ds ∧ TupS F a xs := by
  cases (h : Rp K F v (.tuple ds)) with
  | tup s r => exact ⟨_, _, rfl, ex_t e s.sq, r, s⟩
theorem opn_int {K : PySem.W.Frag} {F H : Hp} {v : V} {i : Int} (h : Opn K F H v (.int i)) : v = .int i := by
  cases (h : Rp K F v (.int i))
  rfl
theorem opn_str {K : PySem.W.Frag} {F H : Hp} {v : V} {i : Str} (h : Opn K F H v (.str i)) : v = .str i := by
  cases (h : Rp K F v (.str i))
  rfl
theorem opn_bl {K : PySem.W.Frag} {F H : Hp} {v : V} {b : Bool} (h : Opn K F H v (.bool b)) : v = .bl b := by
  cases (h : Rp K F v (.bool b))
  rfl
theorem opn_non {K : PySem.W.Frag} {F H : Hp} {v : V} (h : Opn K F H v .none) : v = .non := by
  cases (h : Rp K F v .none)
  rfl

theorem os_add : OpR X (binaryOp .Add) (rG X.K gAdd) := by
  intro pins s σ H x y v u Q I rx ry h
  obtain ⟨S, dx, dy, val, rfl, z, ox, oy, g, k⟩ := h
  unfold gAdd at g
  split at g
  · cases g
    cases opn_int ox
    cases opn_int oy
    exact op_add pins s σ S.H _ _ v u Q I rx ry ⟨_, _, rfl, rfl, k.same z (.int _)⟩
  · split at g
    · cases g
      cases opn_str ox
      cases opn_str oy
      exact op_add_str pins s σ S.H _ _ v u Q I rx ry ⟨_, _, rfl, rfl, by assumption, k.same z (.str _)⟩
    · cases g
  · split at g
    · cases g
      obtain ⟨a, xs, rfl, h1, r1, f1⟩ := opn_tup z.fh ox
      obtain ⟨b, ys, rfl, h2, r2, f2⟩ := opn_tup z.fh oy
      have l1 := r1.length
      have l2 := r2.length
      cases rx
      cases ry
      obtain ⟨its, w1, p1, _⟩ := I.tuple h1
      obtain ⟨its2, w2, p2, _⟩ := I.tuple h2
      by_cases hx : its = []
      · subst hx
        cases w1
        cases r1
        exact cat_tup0 p1 p2 ⟨.ref b, S.H, I, rfl, k.same z (.tup f2 r2)⟩
      · refine HT.cat_tup p1 p2 hx (fun e => ?_) (fun e => ?_) (by rw [← w1.length, ← w2.length]; omega)
        · subst e
          cases w2
          cases r2
          rw [List.append_nil] at k
          exact ⟨.ref a, S.H, I, rfl, k.same z (.tup f1 r1)⟩
        · exact lay_tup I (w1.append w2) (by rw [List.length_append]; omega) (k.tuple z (r1.append r2))
    · cases g
  · split at g
    · cases g
      obtain ⟨a, xs, rfl, h1, r1⟩ := opn_lst ox
      obtain ⟨b, ys, rfl, h2, r2⟩ := opn_lst oy
      have l1 := r1.length
      have l2 := r2.length
      obtain ⟨its, rv, ⟨⟨cls, dd, data, sl⟩, n, ho, hc, hd, hdt⟩, hz⟩ := I.list h1
      obtain ⟨its2, rv2, ⟨⟨cls2, dd2, data2, sl2⟩, n2, ho2, hc2, hd2, hdt2⟩, hz2⟩ := I.list h2
      simp only at hc hd hdt hc2 hd2 hdt2
      subst hc hd hdt hc2 hd2 hdt2
      have m1 := rv.length
      have m2 := rv2.length
      cases rx
      cases ry
      have e : its.toArray ++ its2.toArray = (its ++ its2).toArray := by simp
      refine concat_meets ⟨_, ho, rfl⟩ ⟨_, ho2, rfl⟩ PySem.noFill_list_add PySem.seq_list_add PySem.F.slot_list_add PySem.F.entry_list_add (PySem.F.args_list_add_2 _ _)
        (list_addW a b its.toArray its2.toArray n n2 _ _ sl sl2 (by rw [List.size_toArray, List.size_toArray]; omega)) ⟨ho, ho2, ?_⟩
      rw [e]
      have fr : S.H s.heap.objs.size = none := I.hok.fresh (Nat.le_refl _)
      refine ⟨.ref s.heap.objs.size, _, I.laid (t' := s.toks) (o := .lst (xs ++ ys)) (fun b ob q => Heap.get?_push_of_some _ q) (Nat.le_refl _) ?_, rfl, k.list z (r1.append r2) fr⟩
      exact ⟨by rw [List.length_append]; omega, _, 0, rv.append rv2, Heap.get?_push_size _ rfl⟩
    · cases g
  · cases g
def gSub : D → D → Option Val
  | .int a, .int b => some (.frz (.int (a - b)))
  | _, _ => none
theorem os_sub : OpR X (binaryOp .Sub) (rG X.K gSub) := by
  intro pins s σ H x y v u Q I rx ry h
  obtain ⟨S, dx, dy, val, rfl, z, ox, oy, g, k⟩ := h
  unfold gSub at g
  split at g
  · cases g
    cases opn_int ox
    cases opn_int oy
    exact op_sub pins s σ S.H _ _ v u Q I rx ry ⟨_, _, rfl, rfl, k.same z (.int _)⟩
  · cases g
/-- // and % by a positive divisor -/
def gFdiv : D → D → Option Val
  | .int a, .int b => if 0 < b ∧ b < 1073741824 then some (.frz (.int (a / b))) else none
  | _, _ => none
theorem os_fdiv : OpR X (binaryOp .FloorDiv) (rG X.K gFdiv) := by
  intro pins s σ H x y v u Q I rx ry h
  obtain ⟨S, dx, dy, val, rfl, z, ox, oy, g, k⟩ := h
  unfold gFdiv at g
  split at g
  · split at g
    · cases g
      cases opn_int ox
      cases opn_int oy
      rename_i hc
      exact op_fdiv pins s σ S.H _ _ v u Q I rx ry ⟨_, _, rfl, rfl, hc, k.same z (.int _)⟩
    · cases g
  · cases g
def gMod : D → D → Option Val
  | .int a, .int b => if 0 < b then some (.frz (.int (a % b))) else none
  | _, _ => none
theorem os_mod : OpR X (binaryOp .Mod) (rG X.K gMod) := by
  intro pins s σ H x y v u Q I rx ry h
  obtain ⟨S, dx, dy, val, rfl, z, ox, oy, g, k⟩ := h
  unfold gMod at g
  split at g
  · split at g
    · cases g
      cases opn_int ox
      cases opn_int oy
      rename_i hc
      exact op_mod pins s σ S.H _ _ v u Q I rx ry ⟨_, _, rfl, rfl, hc, k.same z (.int _)⟩
    · cases g
  · cases g
def gPow : D → D → Option Val
  | .int a, .int b => if 0 ≤ b ∧ b ≤ 1000000 ∧ a.natAbs < 2 ^ 64 then some (.frz (.int (a ^ b.toNat))) else none
  | _, _ => none
theorem os_pow : OpR X (binaryOp .Pow) (rG X.K gPow) := by
  intro pins s σ H x y v u Q I rx ry h
  obtain ⟨S, dx, dy, val, rfl, z, ox, oy, g, k⟩ := h
  unfold gPow at g
  split at g
  · split at g
    · cases g
      cases opn_int ox
      cases opn_int oy
      rename_i hc
      exact op_pow pins s σ S.H _ _ v u Q I rx ry ⟨_, _, rfl, rfl, hc, k.same z (.int _)⟩
    · cases g
  · cases g
def gNeg : D → Option Val
  | .int a => some (.frz (.int (-a)))
  | _ => none
theorem us_neg : UnR X (unaryOp .USub) (rG1 X.K gNeg) := by
  intro pins s σ H x v Q I rx h
  obtain ⟨S, dx, val, rfl, z, ox, g, k⟩ := h
  unfold gNeg at g
  split at g
  · cases g
    cases opn_int ox
    exact un_neg pins s σ S.H _ v Q I rx ⟨_, rfl, k.same z (.int _)⟩
  · cases g

/-! ### comparisons -/
def gEq (x y : D) : Option Val := if x.plain = true ∧ y.plain = true ∧ min x.depth y.depth ≤ 100 then some (.frz (.bool (PyData.eqv x y))) else none
def gNe (x y : D) : Option Val := if x.plain = true ∧ y.plain = true ∧ min x.depth y.depth ≤ 100 then some (.frz (.bool (!PyData.eqv x y))) else none
theorem os_eq (hu : X.A.units + 150 < cLine) : OpR X (compareOp .Eq) (rG X.K gEq) := by
  intro pins s σ H x y v u Q I rx ry h
  obtain ⟨S, dx, dy, val, rfl, z, ox, oy, g, k⟩ := h
  unfold gEq at g
  split at g
  · cases g
    rename_i hc
    obtain ⟨as, r1⟩ := Rp.reads I dx x v (ox.rp z.fh) rx
    obtain ⟨bs, r2⟩ := Rp.reads I dy y u (oy.rp z.fh) ry
    exact SeqAt.eq_plain r1 r2 hc.1 hc.2.1 (by omega) ⟨.bl _, S.H, I, rfl, k.same z (.bl _)⟩
  · cases g
theorem os_ne (hu : X.A.units + 150 < cLine) : OpR X (compareOp .NotEq) (rG X.K gNe) := by
  intro pins s σ H x y v u Q I rx ry h
  obtain ⟨S, dx, dy, val, rfl, z, ox, oy, g, k⟩ := h
  unfold gNe at g
  split at g
  · cases g
    rename_i hc
    obtain ⟨as, r1⟩ := Rp.reads I dx x v (ox.rp z.fh) rx
    obtain ⟨bs, r2⟩ := Rp.reads I dy y u (oy.rp z.fh) ry
    exact SeqAt.ne_plain r1 r2 hc.1 hc.2.1 (by omega) ⟨.bl _, S.H, I, rfl, k.same z (.bl _)⟩
  · cases g
/-- is None -/
def isN : D → Bool
  | .none => true
  | _ => false
theorem isN_ne {d : D} (h : isN d = false) : d ≠ .none := fun e => by
  subst e
  cases h
/-- ints by their order, other alike data by the library's -/
def gLt : D → D → Option Val
  | .int a, .int b => some (.frz (.bool (decide (a < b))))
  | x, y => if PySem.W.alike x y = true ∧ isN x = false ∧ min x.depth y.depth ≤ 100 then some (.frz (.bool (PySem.W.dataLt x y))) else none
def gLe : D → D → Option Val
  | .int a, .int b => some (.frz (.bool (decide (a ≤ b))))
  | x, y => if PySem.W.alike x y = true ∧ isN x = false ∧ min x.depth y.depth ≤ 100 then some (.frz (.bool (!PySem.W.dataLt y x))) else none
def gGt : D → D → Option Val
  | .int a, .int b => some (.frz (.bool (decide (b < a))))
  | x, y => if PySem.W.alike x y = true ∧ isN x = false ∧ min x.depth y.depth ≤ 100 then some (.frz (.bool (PySem.W.dataLt y x))) else none
def gGe : D → D → Option Val
  | .int a, .int b => some (.frz (.bool (decide (b ≤ a))))
  | x, y => if PySem.W.alike x y = true ∧ isN x = false ∧ min x.depth y.depth ≤ 100 then some (.frz (.bool (!PySem.W.dataLt x y))) else none
theorem os_lt (hu : X.A.units + 150 < cLine) : OpR X (compareOp .Lt) (rG X.K gLt) := by
  intro pins s σ H x y v u Q I rx ry h
  obtain ⟨S, dx, dy, val, rfl, z, ox, oy, g, k⟩ := h
  unfold gLt at g
  split at g
  · cases g
    cases opn_int ox
    cases opn_int oy
    exact op_lt pins s σ S.H _ _ v u Q I rx ry ⟨_, _, rfl, rfl, k.same z (.bl _)⟩
  · split at g
    · cases g
      rename_i hc
      obtain ⟨as, r1⟩ := Rp.reads I dx x v (ox.rp z.fh) rx
      obtain ⟨bs, r2⟩ := Rp.reads I dy y u (oy.rp z.fh) ry
      exact PySem.W.lt_data r1 r2 hc.1 (isN_ne hc.2.1) (by omega) ⟨.bl _, S.H, I, rfl, k.same z (.bl _)⟩
    · cases g
theorem os_le (hu : X.A.units + 150 < cLine) : OpR X (compareOp .LtE) (rG X.K gLe) := by
  intro pins s σ H x y v u Q I rx ry h
  obtain ⟨S, dx, dy, val, rfl, z, ox, oy, g, k⟩ := h
  unfold gLe at g
  split at g
  · cases g
    cases opn_int ox
    cases opn_int oy
    exact op_le pins s σ S.H _ _ v u Q I rx ry ⟨_, _, rfl, rfl, k.same z (.bl _)⟩
  · split at g
    · cases g
      rename_i hc
      obtain ⟨as, r1⟩ := Rp.reads I dx x v (ox.rp z.fh) rx
      obtain ⟨bs, r2⟩ := Rp.reads I dy y u (oy.rp z.fh) ry
      exact PySem.W.le_data r1 r2 hc.1 (isN_ne hc.2.1) (by omega) ⟨.bl _, S.H, I, rfl, k.same z (.bl _)⟩
    · cases g
theorem os_gt (hu : X.A.units + 150 < cLine) : OpR X (compareOp .Gt) (rG X.K gGt) := by
  intro pins s σ H x y v u Q I rx ry h
  obtain ⟨S, dx, dy, val, rfl, z, ox, oy, g, k⟩ := h
  unfold gGt at g
  split at g
  · cases g
    cases opn_int ox
    cases opn_int oy
    exact op_gt pins s σ S.H _ _ v u Q I rx ry ⟨_, _, rfl, rfl, k.same z (.bl _)⟩
  · split at g
    · cases g
      rename_i hc
      obtain ⟨as, r1⟩ := Rp.reads I dx x v (ox.rp z.fh) rx
      obtain ⟨bs, r2⟩ := Rp.reads I dy y u (oy.rp z.fh) ry
      exact PySem.W.gt_data r1 r2 hc.1 (isN_ne hc.2.1) (by omega) ⟨.bl _, S.H, I, rfl, k.same z (.bl _)⟩
    · cases g
theorem os_ge (hu : X.A.units + 150 < cLine) : OpR X (compareOp .GtE) (rG X.K gGe) := by
  intro pins s σ H x y v u Q I rx ry h
  obtain ⟨S, dx, dy, val, rfl, z, ox, oy, g, k⟩ := h
  unfold gGe at g
  split at g
  · cases g
    cases opn_int ox
    cases opn_int oy
    exact op_ge pins s σ S.H _ _ v u Q I rx ry ⟨_, _, rfl, rfl, k.same z (.bl _)⟩
  · split at g
    · cases g
      rename_i hc
      obtain ⟨as, r1⟩ := Rp.reads I dx x v (ox.rp z.fh) rx
      obtain ⟨bs, r2⟩ := Rp.reads I dy y u (oy.rp z.fh) ry
      exact PySem.W.ge_data r1 r2 hc.1 (isN_ne hc.2.1) (by omega) ⟨.bl _, S.H, I, rfl, k.same z (.bl _)⟩
    · cases g
/-- x in c -/
def gIn : D → D → Option Val
  | d, .list xs => if PyData.plainAll xs = true ∧ d.plain = true ∧ min (PyData.depthAll xs) d.depth ≤ 100 then some (.frz (.bool (xs.any fun y => PyData.eqv y d))) else none
  | d, .tuple xs => if PyData.plainAll xs = true ∧ d.plain = true ∧ min (PyData.depthAll xs) d.depth ≤ 100 then some (.frz (.bool (xs.any fun y => PyData.eqv y d))) else none
  | .str a, .str b => some (.frz (.bool (!(Builtin.Str.occurrences b a 0 b.length 1).isEmpty)))
  | _, _ => none
def gNotIn : D → D → Option Val
  | d, .list xs => if PyData.plainAll xs = true ∧ d.plain = true ∧ min (PyData.depthAll xs) d.depth ≤ 100 then some (.frz (.bool (!xs.any fun y => PyData.eqv y d))) else none
  | d, .tuple xs => if PyData.plainAll xs = true ∧ d.plain = true ∧ min (PyData.depthAll xs) d.depth ≤ 100 then some (.frz (.bool (!xs.any fun y => PyData.eqv y d))) else none
  | .str a, .str b => some (.frz (.bool (!(!(Builtin.Str.occurrences b a 0 b.length 1).isEmpty))))
  | _, _ => none
theorem os_in (hu : X.A.units + 150 < cLine) : OpR X (compareOp .In) (rG X.K gIn) := by
  intro pins s σ H x y v u Q I rx ry h
  obtain ⟨S, dx, dy, val, rfl, z, ox, oy, g, k⟩ := h
  unfold gIn at g
  split at g
  · split at g
    · cases g
      rename_i hc
      obtain ⟨as, r1⟩ := Rp.reads I dx x v (ox.rp z.fh) rx
      obtain ⟨bs, r2⟩ := Rp.reads I _ y u (oy.rp z.fh) ry
      exact SeqAt.in_list_data r2 r1 hc.1 hc.2.1 (by omega) ⟨.bl _, S.H, I, rfl, k.same z (.bl _)⟩
    · cases g
  · split at g
    · cases g
      rename_i hc
      obtain ⟨as, r1⟩ := Rp.reads I dx x v (ox.rp z.fh) rx
      obtain ⟨bs, r2⟩ := Rp.reads I _ y u (oy.rp z.fh) ry
      exact SeqAt.in_tuple_data r2 r1 hc.1 hc.2.1 (by omega) ⟨.bl _, S.H, I, rfl, k.same z (.bl _)⟩
    · cases g
  · cases g
    cases opn_str ox
    cases opn_str oy
    exact op_in_str pins s σ S.H _ _ v u Q I rx ry ⟨_, _, rfl, rfl, k.same z (.bl _)⟩
  · cases g
theorem os_notIn (hu : X.A.units + 150 < cLine) : OpR X (compareOp .NotIn) (rG X.K gNotIn) := by
  intro pins s σ H x y v u Q I rx ry h
  obtain ⟨S, dx, dy, val, rfl, z, ox, oy, g, k⟩ := h
  unfold gNotIn at g
  split at g
  · split at g
    · cases g
      rename_i hc
      obtain ⟨as, r1⟩ := Rp.reads I dx x v (ox.rp z.fh) rx
      obtain ⟨bs, r2⟩ := Rp.reads I _ y u (oy.rp z.fh) ry
      exact SeqAt.notIn_list_data r2 r1 hc.1 hc.2.1 (by omega) ⟨.bl _, S.H, I, rfl, k.same z (.bl _)⟩
    · cases g
  · split at g
    · cases g
      rename_i hc
      obtain ⟨as, r1⟩ := Rp.reads I dx x v (ox.rp z.fh) rx
      obtain ⟨bs, r2⟩ := Rp.reads I _ y u (oy.rp z.fh) ry
      exact SeqAt.notIn_tuple_data r2 r1 hc.1 hc.2.1 (by omega) ⟨.bl _, S.H, I, rfl, k.same z (.bl _)⟩
    · cases g
  · cases g
    cases opn_str ox
    cases opn_str oy
    exact op_notin_str pins s σ S.H _ _ v u Q I rx ry ⟨_, _, rfl, rfl, k.same z (.bl _)⟩
  · cases g
def gIs : D → D → Option Val
  | x, .none => some (.frz (.bool (isN x)))
  | .bool a, .bool b => some (.frz (.bool (decide (a = b))))
  | _, _ => none
def gIsNot : D → D → Option Val
  | x, .none => some (.frz (.bool (!isN x)))
  | .bool a, .bool b => some (.frz (.bool (!decide (a = b))))
  | _, _ => none
theorem isN_of {K : PySem.W.Frag} {F : Hp} {v : V} {d : D} (h : Rp K F v d) : decide (v = .non) = isN d := by
  cases h <;> rfl
theorem os_is : OpR X (compareOp .Is) (rG X.K gIs) := by
  intro pins s σ H x y v u Q I rx ry h
  obtain ⟨S, dx, dy, val, rfl, z, ox, oy, g, k⟩ := h
  unfold gIs at g
  split at g
  · cases g
    cases opn_non oy
    exact op_isN pins s σ S.H _ _ v u Q I rx ry ⟨rfl, by rw [isN_of (ox.rp z.fh)]; exact k.same z (.bl _)⟩
  · cases g
    cases opn_bl ox
    cases opn_bl oy
    exact op_is_bl pins s σ S.H _ _ v u Q I rx ry ⟨_, _, rfl, rfl, k.same z (.bl _)⟩
  · cases g
theorem os_isNot : OpR X (compareOp .IsNot) (rG X.K gIsNot) := by
  intro pins s σ H x y v u Q I rx ry h
  obtain ⟨S, dx, dy, val, rfl, z, ox, oy, g, k⟩ := h
  unfold gIsNot at g
  split at g
  · cases g
    cases opn_non oy
    exact op_notN pins s σ S.H _ _ v u Q I rx ry ⟨rfl, by rw [isN_of (ox.rp z.fh)]; exact k.same z (.bl _)⟩
  · cases g
    cases opn_bl ox
    cases opn_bl oy
    exact op_isnot_bl pins s σ S.H _ _ v u Q I rx ry ⟨_, _, rfl, rfl, k.same z (.bl _)⟩
  · cases g
end
end BV
namespace BV
open PySem L2 PyProof.Rows
section
variable {X : Cx}
theorem tmul_same (l : Addr) (items : Array Value) (n : Nat) (dd : Option Addr) (sl : Array (Option Value)) (x : Int) (u : Tok) (c0 : (decide (x < -(2 ^ 63)) || decide (x ≥ 2 ^ 63)) = false) (c1 : (items.isEmpty || x == 1) = true) :
    Meets (Builtin.«tuple.__mul__» ⟨[.ref l, .int x u], []⟩) (fun _ R s => s.heap.get? l = some { cls := .type "tuple", dict := dd, data := .seq items n, slots := sl } ∧ R (.ok (.ret (Value.ref l))) s) :=
  .of_wp fun prog w A R s h => by
    obtain ⟨hp, g, d, tk, os⟩ := s
    obtain ⟨hl, h⟩ := h
    have f1 := AutoSeq1.idx_int
    wp_walk using wpAny_loadPart' hl
    repeat (first
      | (refine wpAny_ite_false (decide_eq_false (by rw [c0]; exact Bool.false_ne_true)) ?_; wp_walk using wpAny_loadPart' hl)
      | (refine wpAny_ite_true (decide_eq_true c1) ?_; wp_walk using wpAny_loadPart' hl))
    exact ⟨_, rfl, h⟩
theorem tmul_none (l : Addr) (items : Array Value) (n : Nat) (dd : Option Addr) (sl : Array (Option Value)) (x : Int) (u : Tok) (c0 : (decide (x < -(2 ^ 63)) || decide (x ≥ 2 ^ 63)) = false) (c1 : (items.isEmpty || x == 1) = false) (c2 : (decide (x ≤ 0) || items.isEmpty) = true) :
    Meets (Builtin.«tuple.__mul__» ⟨[.ref l, .int x u], []⟩) (fun _ R s => s.heap.get? l = some { cls := .type "tuple", dict := dd, data := .seq items n, slots := sl } ∧
      R (.ok (.ret (Value.ref s.heap.objs.size))) { s with heap := s.heap.push { cls := Value.type "tuple", data := Data.seq #[] }, toks := s.toks }) :=
  .of_wp fun prog w A R s h => by
    obtain ⟨hp, g, d, tk, os⟩ := s
    obtain ⟨hl, h⟩ := h
    have f1 := AutoSeq1.idx_int
    wp_walk using wpAny_loadPart' hl
    repeat (first
      | (refine wpAny_ite_false (decide_eq_false (by rw [c0]; exact Bool.false_ne_true)) ?_; wp_walk using wpAny_loadPart' hl)
      | (refine wpAny_ite_false (decide_eq_false (by rw [c1]; exact Bool.false_ne_true)) ?_; wp_walk using wpAny_loadPart' hl)
      | (refine wpAny_ite_true (decide_eq_true c2) ?_; wp_walk using wpAny_loadPart' hl))
    exact ⟨_, rfl, h⟩

theorem RpA.rep {K : PySem.W.Frag} {F : Hp} {vs : List V} {ds : List D} (r : RpA K F vs ds) : ∀ k : Nat, RpA K F (List.replicate k vs).flatten (List.replicate k ds).flatten
  | 0 => .nil
  | k + 1 => by
    rw [List.replicate_succ, List.replicate_succ, List.flatten_cons, List.flatten_cons]
    exact r.append (RpA.rep r k)
def gMul : D → D → Option Val
  | .int a, .int b => if (-2 ^ 64 < a ∧ a < 2 ^ 64) ∨ (-2 ^ 64 < b ∧ b < 2 ^ 64) then some (.frz (.int (a * b))) else none
  | .list a, .int k => if -(2 ^ 63) ≤ k ∧ k < 2 ^ 63 ∧ a.length * k.toNat ≤ sizeLine then some (.new (.lst (List.replicate k.toNat a).flatten)) else none
  | .tuple a, .int k => if -(2 ^ 63) ≤ k ∧ k < 2 ^ 63 ∧ a.length * k.toNat ≤ sizeLine then some (.frz (.tuple (List.replicate k.toNat a).flatten)) else none
  | _, _ => none
theorem rep_fit {its : List Value} {k : Int} (h : its.length * k.toNat ≤ sizeLine) : ((List.replicate k.toNat its).flatten).length ≤ sizeLine := by
  rw [PyProof.Rows.lm_len_rep_flat, Nat.mul_comm]
  exact h
theorem os_mul : OpR X (binaryOp .Mult) (rG X.K gMul) := by
  intro pins s σ H x y v u Q I rx ry h
  obtain ⟨S, dx, dy, val, rfl, z, ox, oy, g, k⟩ := h
  have fr : S.H s.heap.objs.size = none := I.hok.fresh (Nat.le_refl _)
  have hcap : (sizeLine : Nat) ≤ (2 ^ 63 - 1) / 8 := by decide
  unfold gMul at g
  split at g
  · split at g
    · cases g
      cases opn_int ox
      cases opn_int oy
      rename_i hc
      exact op_mul pins s σ S.H _ _ v u Q I rx ry ⟨_, _, rfl, rfl, hc, k.same z (.int _)⟩
    · cases g
  · split at g
    · cases g
      rename_i ds n hc
      obtain ⟨c1, c2, c3⟩ := hc
      obtain ⟨a, xs, rfl, h1, r1⟩ := opn_lst ox
      cases opn_int oy
      have l1 := r1.length
      obtain ⟨its, rv, ⟨⟨cls, dd, data, sl⟩, m, ho, hcl, hd, hdt⟩, hz⟩ := I.list h1
      simp only at hcl hd hdt
      subst hcl hd hdt
      have m1 := rv.length
      cases rx
      obtain ⟨t, rfl⟩ := ry
      have e1 : its.toArray.size * n.toNat ≤ sizeLine := by
        rw [List.size_toArray, ← m1, l1]
        exact c3
      refine wpAny_binaryOp_repeat_ref (T := "list") (U := "int") (by decide) ⟨_, ho, rfl⟩ (fun s' => typeIs_int s' n t) noFill_list_mul PySem.F.fills_int_mul PySem.F.slot_int_rmul repeat_list PySem.F.slot_int_index.lookup
        (call_meets PySem.F.slot_int_rmul (typeIs_int s n t) PySem.F.entry_int_rmul (PySem.F.args_int_rmul_2 _ _) (lm_int_rmul_list_any n t a its.toArray m none sl)
          ⟨ho, rfl, ⟨_, ho, rfl⟩, call_meets PySem.F.slot_list_mul ⟨_, ho, rfl⟩ PySem.F.entry_list_mul (PySem.F.args_list_mul_2 _ _)
            (lm_list_mul_any a its.toArray m none sl n t (by simp [Builtin.List.listFitsIndex]; omega) (by omega) (by simp [Builtin.List.listTooLong]; rw [← List.size_toArray]; exact e1)) ⟨ho, ?_⟩⟩)
      rw [listMul_foldl_if]
      have e2 : its.toArray.toList = its := rfl
      rw [e2]
      refine ⟨.ref s.heap.objs.size, _, I.laid (t' := s.toks) (o := .lst (List.replicate n.toNat xs).flatten) (fun b ob q => Heap.get?_push_of_some _ q) (Nat.le_refl _) ?_, rfl, k.list z (r1.rep _) fr⟩
      refine ⟨?_, _, 0, rv.rep n.toNat, Heap.get?_push_size _ rfl⟩
      rw [PyProof.Rows.lm_len_rep_flat, Nat.mul_comm, l1]
      exact c3
    · cases g
  · split at g
    · cases g
      rename_i ds n hc
      obtain ⟨c1, c2, c3⟩ := hc
      obtain ⟨a, xs, rfl, h1, r1, f1⟩ := opn_tup z.fh ox
      cases opn_int oy
      have l1 := r1.length
      obtain ⟨its, rv, ⟨⟨cls, dd, data, sl⟩, ho, hcl, m, hdt⟩, hz⟩ := I.tuple h1
      simp only at hcl hdt
      subst hcl hdt
      have m1 := rv.length
      cases rx
      obtain ⟨t, rfl⟩ := ry
      have e0 : its.toArray.size = ds.length := by
        rw [List.size_toArray, ← m1, l1]
      have e1 : its.toArray.size * n.toNat ≤ sizeLine := by
        rw [e0]
        exact c3
      have c0 : (decide (n < -(2 ^ 63)) || decide (n ≥ 2 ^ 63)) = false := by
        rw [decide_eq_false (by omega), decide_eq_false (by omega)]
        rfl
      have go : ∀ {u : Value} {s' : Shared}, Meets (Builtin.«tuple.__mul__» ⟨[.ref a, .int n t], []⟩) (fun _ R s => s.heap.get? a = some { cls := .type "tuple", dict := dd, data := .seq its.toArray m, slots := sl } ∧ R (.ok (.ret u)) s') →
          False ∨ True := fun _ => .inr trivial
      by_cases hs : (its.toArray.isEmpty || n == 1) = true
      · have eq : (List.replicate n.toNat ds).flatten = ds := by
          rw [Bool.or_eq_true] at hs
          rcases hs with hs | hs
          · have : its = [] := by simpa using hs
            subst this
            have : ds = [] := List.eq_nil_of_length_eq_zero (by simpa using e0.symm)
            subst this
            simp
          · have : n = 1 := by simpa using hs
            subst this
            simp
        rw [eq] at k
        exact wpAny_binaryOp_repeat_ref (T := "tuple") (U := "int") (by decide) ⟨_, ho, rfl⟩ (fun s' => typeIs_int s' n t) noFill_tuple_mul PySem.F.fills_int_mul PySem.F.slot_int_rmul repeat_tuple PySem.F.slot_int_index.lookup
          (call_meets PySem.F.slot_int_rmul (typeIs_int s n t) PySem.F.entry_int_rmul (PySem.F.args_int_rmul_2 _ _) (int_rmul_tuple n t a its.toArray m dd sl)
            ⟨ho, rfl, ⟨_, ho, rfl⟩, call_meets PySem.F.slot_tuple_mul ⟨_, ho, rfl⟩ PySem.F.entry_tuple_mul (PySem.F.args_tuple_mul_2 _ _) (tmul_same a its.toArray m dd sl n t c0 hs) ⟨ho, ⟨.ref a, S.H, I, rfl, k.same z (.tup f1 r1)⟩⟩⟩)
      · have hs : (its.toArray.isEmpty || n == 1) = false := by simpa using hs
        by_cases hn : (decide (n ≤ 0) || its.toArray.isEmpty) = true
        · have hemp : its.toArray.isEmpty = false := (Bool.or_eq_false_iff.mp hs).1
          rw [hemp, Bool.or_false] at hn
          have hn0 : n ≤ 0 := by simpa using hn
          have e3 : n.toNat = 0 := by omega
          rw [e3] at k
          refine wpAny_binaryOp_repeat_ref (T := "tuple") (U := "int") (by decide) ⟨_, ho, rfl⟩ (fun s' => typeIs_int s' n t) noFill_tuple_mul PySem.F.fills_int_mul PySem.F.slot_int_rmul repeat_tuple PySem.F.slot_int_index.lookup
            (call_meets PySem.F.slot_int_rmul (typeIs_int s n t) PySem.F.entry_int_rmul (PySem.F.args_int_rmul_2 _ _) (int_rmul_tuple n t a its.toArray m dd sl)
              ⟨ho, rfl, ⟨_, ho, rfl⟩, call_meets PySem.F.slot_tuple_mul ⟨_, ho, rfl⟩ PySem.F.entry_tuple_mul (PySem.F.args_tuple_mul_2 _ _) (tmul_none a its.toArray m dd sl n t c0 hs (by rw [hemp, Bool.or_false]; exact hn)) ⟨ho, ?_⟩⟩)
          exact lay_tup I (its := []) .nil (Nat.zero_le _) (k.tuple z .nil)
        · have hn : (decide (n ≤ 0) || its.toArray.isEmpty) = false := by simpa using hn
          have hpos : 0 < n := by
            have := (Bool.or_eq_false_iff.mp hn).1
            simpa using this
          have e4 : ((its.toArray.size : Nat) : Int) * n = ((its.toArray.size * n.toNat : Nat) : Int) := by
            rw [Int.natCast_mul, Int.toNat_of_nonneg (by omega)]
          refine wpAny_binaryOp_repeat_ref (T := "tuple") (U := "int") (by decide) ⟨_, ho, rfl⟩ (fun s' => typeIs_int s' n t) noFill_tuple_mul PySem.F.fills_int_mul PySem.F.slot_int_rmul repeat_tuple PySem.F.slot_int_index.lookup
            (call_meets PySem.F.slot_int_rmul (typeIs_int s n t) PySem.F.entry_int_rmul (PySem.F.args_int_rmul_2 _ _) (int_rmul_tuple n t a its.toArray m dd sl)
              ⟨ho, rfl, ⟨_, ho, rfl⟩, call_meets PySem.F.slot_tuple_mul ⟨_, ho, rfl⟩ PySem.F.entry_tuple_mul (PySem.F.args_tuple_mul_2 _ _)
                (tuple_mulW a its.toArray m dd sl n t c0 hs hn (by rw [e4]; have := sizeLine_eq; omega) (by unfold Builtin.Tuple.tupleTooMany; exact decide_eq_false (by rw [e4]; omega))
                  (by rw [size_rep, List.size_toArray]; exact rep_fit (by rw [← List.size_toArray]; exact e1))) ⟨ho, ?_⟩⟩)
          rw [size_rep]
          refine lay_tup I (rv.rep n.toNat) ?_ (k.tuple z (r1.rep _))
          rw [PyProof.Rows.lm_len_rep_flat, Nat.mul_comm, l1]
          exact c3
    · cases g
  · cases g
end
end BV
/-! promises of defs, called outside of any repr that runs -/
namespace BV
open PySem PySem.Spec PyProof.Rows L2

/-- as FnOk, called where no repr runs -/
structure FnG (P : Program) (w : World) (K : PySem.W.Frag) (mg : Str → Option Value) (base : Heap) (CX : CXT) (k : Nat) (f : Addr) (fd : FuncData) (ps : List Str) (sp : Sp) : Prop where
  len : ∀ vs H Q E, sp vs H Q E → vs.length = ps.length
  run : ∀ (A : Around) (outer : List PySem.Env) (s : Shared) (H : Hp) (args : Args) (us : List Value) (vs : List V) (Q : VK) (E : XK),
    A.guards = some [] → Room k A → Env0 P w K mg base A outer s H → BindsTo s fd args (ps.zip us) → Vals vs us → sp vs H Q E →
      codeAny (model P w) A (.call (.ref f) args) (CR CX outer P w H s Q E) s

section
variable {P : Program} {w : World} {K : PySem.W.Frag} {mg : Str → Option Value} {base : Heap} {CX : CXT}
theorem FnG.mono {j k : Nat} {f : Addr} {fd : FuncData} {ps : List Str} {sp : Sp} (F : FnG P w K mg base CX j f fd ps sp) (h : j ≤ k) : FnG P w K mg base CX k f fd ps sp :=
  ⟨F.len, fun A o s H as us vs Q E hg hr => F.run A o s H as us vs Q E hg (hr.mono h)⟩
theorem FnG.ofOk {k : Nat} {f : Addr} {fd : FuncData} {ps : List Str} {sp : Sp} (F : FnOk P w K mg base CX k f fd ps sp) : FnG P w K mg base CX k f fd ps sp :=
  ⟨F.len, fun A o s H as us vs Q E _ hr => F.run A o s H as us vs Q E hr⟩

/-- a def, by its body -/
theorem body_of {k : Nat} {x qual : Str} {st : Stmt} {f : Addr} {fd : FuncData} {N ps : List Str} {sp : Sp} (D : L2.Fun K x qual st f fd) (S : FnScope N ps (defScope st))
    (len : ∀ vs H Q E, sp vs H Q E → vs.length = ps.length)
    (hb : ∀ (cdv : Value) (A : Around) (outer : List PySem.Env) (s : Shared) (H : Hp) (vs : List V) (Q : VK) (E : XK),
      A.guards = some [] → Room k (A.deeper (envOfC qual (defScope st) s.heap.objs.size f cdv)) → sp vs H Q E →
      ∃ t, PSs (cxOf CX P w K mg base N qual (defScope st) f cdv A outer s H E) (defBody st) t ∧ t { nx := fun _ H' => Q .non H', rt := Q } (start N vs) H) :
    FnG P w K mg base CX (k + 1) f fd ps sp := by
  obtain ⟨oc, od, kV, doc, pm, an, cdv, ct, osl, rfl, lk, hcd⟩ := D.ex
  refine ⟨len, fun A outer s H args us vs Q E hg hr e0 hbd r hsp => ?_⟩
  have KX : K.In s.heap := e0.mod.kin.keeps fun b o e => (e0.bs b o e).1
  have lim := e0.mod.nolimit.keeps (h' := s.heap) fun b o e => (e0.bs b o e).1
  have names : ∀ y ∈ ps.zip us, (defScope st).names.lookup y.1 = some .local ∨
      ((defScope st).names.lookup y.1 = some .cell ∧ ((cellsFrom (s.heap.objs.size + 1) (defScope st).names []).lookup y.1).isSome = true) := by
    rintro ⟨n, v⟩ hy
    rcases S.par n (List.of_mem_zip hy).1 with q | q
    · exact Or.inl q
    · exact Or.inr ⟨q, PySem.W.cellsFrom_some _ _ _ (Or.inl q)⟩
  refine codeAny_call_function hr.depth (KX _ _ lk) rfl S.co S.gen rfl (PySem.W.codeRec_of KX hcd) (hbd _ _ _ _ ?_)
  refine wpAny_newFunctionEnv_cells S.kind names fun env he s1 x => ?_
  subst he
  refine ⟨lim.keeps x.toInCall.keep, codeAny_func ?_⟩
  obtain ⟨t, ht, hq⟩ := hb cdv A outer s H vs Q E hg (hr.deeper _) hsp
  have I := inv_start (CX := CX) (E := E) S hr.hd e0 (len _ _ _ _ hsp) r x
  refine wpAny_mono (ht.run [] s1 (start N vs) H _ I hq) (fun fl s' hs => ?_) fun e s' hs => hs
  cases fl with
  | brk =>
    obtain ⟨_, _, _, q⟩ := hs
    exact q.elim
  | cont =>
    obtain ⟨_, _, _, q⟩ := hs
    exact q.elim
  | next =>
    obtain ⟨σ', H', J, q⟩ := hs
    exact ⟨V.non, H', J.os, J.bare, J.base, J.hok, rfl, q⟩
  | ret u =>
    obtain ⟨v, σ', H', J, rv, q⟩ := hs
    exact ⟨v, H', J.os, J.bare, J.base, J.hok, rv, q⟩
end

section
variable {X : Cx} {CX : CXT} {k : Nat} {f : Addr} {fd : FuncData} {ps : List Str} {sp : Sp} {dvs : List V} {ds : List Value} {E : L2.St → XK}
/-- the callee runs -/
theorem run_g {pins : List (Addr × Obj)} {σ : L2.St} {H : Hp} {s : Shared} {Q : VK} {us : List Value} {vs : List V} (F : FnG X.prog X.w X.K X.mg X.base CX k f fd ps sp) (hg : X.A.guards = some []) (hr : Room k X.A)
    (hb : Binds X.K fd ps ds) (hd : Vals dvs ds) (hx : PassesAt CX X σ (E σ)) (I : L2.Inv X pins σ H s) (r : Vals vs us) (h : sp (vs ++ dvs) H Q (E σ)) :
    wpAny (model X.prog X.w) X.A (call (.ref f) us) (EP X pins σ Q) X.xe s := by
  have r2 := r.append hd
  have hl : (us ++ ds).length = ps.length := r2.length.symm.trans (F.len _ _ _ _ h)
  refine wpAny_call (codeAny_mono (F.run X.A X.stack s H ⟨us, []⟩ (us ++ ds) (vs ++ dvs) Q (E σ) hg hr I.env0 (hb s us I.kIn hl) r2 h) fun fin s' hq => ?_)
  cases fin with
  | error e => exact hx pins H s e s' I hq
  | ok fl =>
    cases fl with
    | next => exact hq.elim
    | brk => exact hq.elim
    | cont => exact hq.elim
    | ret u => exact I.after hq
/-- what a call asks: the promise at the arguments and the defaults -/
def tCallG (sp : Sp) (dvs : List V) (E : L2.St → XK) (t : TA) : TE := fun σ H Q => t σ H fun vs H1 => sp (vs ++ dvs) H1 Q (E σ)
theorem pe_callG {x : Str} {p pos : Pos} {e : Expr} {es : List Expr} {t : TA} (F : FnG X.prog X.w X.K X.mg X.base CX k f fd ps sp) (hG : X.A.guards = some []) (hr : Room k X.A) (hg : Gl X x) (hm : X.mg x = some (.ref f))
    (hk : PySem.W.keepIn X.K (.ref f) = true) (hb : Binds X.K fd ps ds) (hd : Vals dvs ds) (hx : ∀ σ, PassesAt CX X σ (E σ)) (ha : PA X (e :: es) t) (hdb : (x == ("__debug__" : Str)) = false := by decide)
    (he : starEach (e :: es) X.env = (false, eval e X.env) :: starEach es X.env := by rfl) (hpl : (backTo pos (starEach es X.env)).any (·.1) = false := by rfl) :
    PE X (.Call (.Name x p) (e :: es) [] pos) (tCallG sp dvs E t) := by
  constructor
  intro pins s σ H Q I h
  refine wpAny_Call_Name_kw (ld_glob I hg hm ?_ hdb)
  refine PySem.W.callWith_K (h₀ := X.base) I.ok.mod.kin hk (thn (ha.run pos pins s σ H _ I h) ?_) he hpl
  rintro us s1 ⟨vs, H1, I1, r, q⟩
  exact ⟨I1.kIn, run_g F hG hr hb hd (hx σ) I1 r q⟩
end

/-! ### the law's own call -/
theorem law_run {P : Program} {w : World} {K : PySem.W.Frag} {mg mb : Str → Option Value} {CX : CXT} {k : Nat} {fa a : Addr} {fd : FuncData} {x : Str} {sp : Sp} {s₁ : Shared} {vs : List Value} {ns : List Int}
    (KX : K.In s₁.heap) (hns : s₁.heap.Ns mainGlobals mg) (hb : s₁.heap.Ns builtinsNs mb) (hbb : ∀ x : Str, x ≠ "__name__" → mb x = bootBuiltins x) (hlim : s₁.heap.NoLimit) (hg : s₁.gens = #[])
    (ha : s₁.heap.get? a = some { cls := .type "list", data := .seq vs.toArray }) (hi : IntsAre vs ns) (hl : ns.length ≤ sizeLine) (hr : Room k callerA)
    (F : ∀ base : Heap, K.In base → base.Ns mainGlobals mg → FnG P w K mg base CX k fa fd [x] sp) (hbind : ∀ (s : Shared) (u : Value), BindsTo s fd ⟨[u], []⟩ [(x, u)])
    (hsp : ∀ H : Hp, Only H → SqL K H a (ns.map V.int) → sp [.ref a] H (fun v _ => v = .bl true) fun _ _ _ => False)
    (hCX : ∀ H e s', CX [] H s₁ (fun _ _ _ => False) e s' → False) :
    codeAny (model P w) callerA (.call (.ref fa) ⟨[.ref a], []⟩) (fun r s' => r = .ok (.ret (.bool true)) ∧ OldK s₁.heap s'.heap ∧ s'.os = s₁.os ∧ AllBare s'.gens) s₁ := by
  have rv := vals_ints hi
  have lenV := hi.length
  have main : ∀ H : Hp, Only H → SqL K H a (ns.map V.int) → HOk P w H s₁.heap → (∀ b, H b ≠ none → b = a ∧ K.lookup a = none) →
      codeAny (model P w) callerA (.call (.ref fa) ⟨[.ref a], []⟩) (fun r s' => r = .ok (.ret (.bool true)) ∧ OldK s₁.heap s'.heap ∧ s'.os = s₁.os ∧ AllBare s'.gens) s₁ := by
    intro H hO hS hok hA
    have sure : ∀ {b : Addr}, b ≠ a → H b = none := by
      intro b hb
      cases q : H b with
      | none => rfl
      | some u => exact absurd (hA b (by rw [q]; simp)).1 hb
    have nsK : ∀ {b : Addr} {m : Str → Option Value}, s₁.heap.Ns b m → (hidT s₁.heap H).Ns b m := by
      rintro b m ⟨o, es, ep, e, d, r⟩
      refine ⟨o, es, ep, hidT_get e (sure fun q => ?_), d, r⟩
      subst q
      rw [ha] at e
      cases e
      exact nomatch (show Data.seq vs.toArray _ = Data.dict es ep from d)
    have hKb : K.In (hidT s₁.heap H) := by
      intro b o e
      refine hidT_get (KX b o e) ?_
      cases q : H b with
      | none => rfl
      | some u =>
        obtain ⟨z1, z2⟩ := hA b (by rw [q]; simp)
        subst z1
        rw [z2] at e
        cases e
    have hM : Mod K mg (hidT s₁.heap H) := by
      obtain ⟨mc, h1, h2⟩ := hlim
      exact ⟨hKb, nsK hns, ⟨mb, nsK hb, hbb⟩, ⟨mc, nsK h1, h2⟩⟩
    have e0 : Env0 P w K mg (hidT s₁.heap H) callerA [] s₁ H :=
      ⟨rfl, hM, fun b o e => of_hidT e, Nat.le_of_eq (hidT_size _ _), trivial, fun b hb => absurd (show b ∈ ([] : List Addr) from hb) (by simp), hok, .of_eq hg⟩
    refine codeAny_mono ((F _ hKb (nsK hns)).run callerA [] s₁ H ⟨[.ref a], []⟩ [.ref a] [.ref a] _ _ rfl hr e0 (hbind s₁ (.ref a)) (.cons rfl .nil) (hsp H hO hS)) ?_
    intro r s' h
    cases r with
    | error e => exact (hCX H e s' h).elim
    | ok fl =>
      cases fl with
      | next => exact h.elim
      | brk => exact h.elim
      | cont => exact h.elim
      | ret u =>
        obtain ⟨v, H', os, bare, un, hok', r', q⟩ := h
        obtain rfl : v = .bl true := q
        obtain rfl : u = Value.bool true := r'
        refine ⟨rfl, OldK.of_keep fun b o e => ?_, os, bare⟩
        cases q : H b with
        | none => exact un.keep b o e q (fun z => absurd (show b ∈ ([] : List Addr) from z) (by simp)) (by simp)
        | some u =>
          rcases hO b with z | ⟨ob, xs, z⟩
          · rw [q] at z
            cases z
          · obtain ⟨e1, _⟩ := hok b _ z
            obtain ⟨e2, _⟩ := hok' b _ (un.frzs b ob _ z)
            rw [e] at e1
            cases e1
            exact e2
  cases hk : K.lookup a with
  | some o =>
    have e := KX a o hk
    rw [ha] at e
    cases e
    refine main (fun _ => none) (fun _ => Or.inl rfl) (Or.inr ⟨_, vs.toArray, _, hk, rfl, rfl, rfl, by rw [List.size_toArray, lenV]; exact hl, by simpa using rv⟩) ?_ ?_
    · intro b u z
      exact nomatch (show (none : Option HO) = some u from z)
    · intro b z
      exact absurd rfl z
  | none =>
    refine main (fun b => if b = a then some (.frz { cls := .type "list", data := .seq vs.toArray } (.lst (ns.map V.int))) else none) ?_ (Or.inl (Or.inr ⟨_, if_pos rfl⟩)) ?_ ?_
    · intro b
      by_cases hb : b = a
      · exact Or.inr ⟨_, _, if_pos hb⟩
      · exact Or.inl (if_neg hb)
    · intro b u z
      by_cases hb : b = a
      · have z' := (if_pos hb).symm.trans z
        cases z'
        subst hb
        exact ⟨ha, by rw [List.length_map]; exact hl, vs, _, rv, ha⟩
      · exact nomatch (if_neg hb).symm.trans z
    · intro b z
      by_cases hb : b = a
      · exact ⟨hb, hk⟩
      · exact absurd (if_neg hb) z
theorem walk_g {l : PySem.W.OpenLaw} {n k : Nat} {q : Program} {loose : List Str} {XP : (Str → Option Value) → Heap → Prop} {YP : World → Heap → Prop} {d : DefRec} {K : Params → PySem.W.Frag} {CX : World → CXT} {sp : World → Sp} {x : Str}
    (hn : l.most = some n) (hn2 : n ≤ sizeLine) (hdf : d.params.defaults = []) (hr : Room k callerA) (hY : ∀ (w : World) (h : Heap), YP w h → (K w.params).In h)
    (F : ∀ (w : World) (mg : Str → Option Value) (fa : Addr) (h : Heap), (K w.params).In h → h.Ns mainGlobals mg → mg d.name = some (.ref fa) →
      ∃ fd : FuncData, (∀ (s : Shared) (u : Value), BindsTo s fd ⟨[u], []⟩ [(x, u)]) ∧
        ∀ base : Heap, (K w.params).In base → base.Ns mainGlobals mg → FnG l.prog w (K w.params) mg base (CX w) k fa fd [x] (sp w))
    (hsp : ∀ (w : World) (H : Hp) (a : Addr) (ns : List Int), ns.length ≤ n → Only H → SqL (K w.params) H a (ns.map V.int) → sp w [.ref a] H (fun v _ => v = .bl true) fun _ _ _ => False)
    (hCX : ∀ (w : World) (H : Hp) (s : Shared) (e : Value) (s' : Shared), CX w [] H s (fun _ _ _ => False) e s' → False) :
    PySem.W.WalkO q loose XP YP l.row.toRowW d [] (fun f vs => PySem.call f vs) := by
  refine Att.attach_call hn hdf fun w s₀ s₁ mg mb fa o pm cd doc a vs ns G Y ho hd hcd hmg hobj hints hlen hg => ?_
  obtain ⟨fd, hb, hF⟩ := F w mg fa _ (hY w _ Y) G.T.g hmg
  exact law_run (hY w _ Y) G.T.g G.T.b G.T.builtins G.T.nolimit hg hobj hints (Nat.le_trans hlen hn2) hr hF hb (fun H hO hS => hsp w H a ns hlen hO hS) fun H e s' => hCX w H s₁ e s'
end BV
/-! expressions and tests, each by what it does with data -/
namespace BV
open PySem PySem.Spec PyProof.Rows L2

abbrev cf (X : Cx) (cm : CMap) (W : WX) : Cf := ⟨X.K, cm, W⟩
structure EV (X : Cx) (cm : CMap) (W : WX) (e : Expr) (f : Env → Out (Val × Env)) : Prop where
  ex : ∃ t, PE X e t ∧ EVt (cf X cm W) t f
structure ET (X : Cx) (cm : CMap) (W : WX) (e : Expr) (f : Env → Out (Bool × Env)) : Prop where
  ex : ∃ t, PT X e t ∧ ETt (cf X cm W) t f
/-- a chain of and, or -/
structure EW (X : Cx) (cm : CMap) (W : WX) (e : Expr) (f : Env → Out (Bool × Env)) : Prop where
  ex : ∃ t, PW X e t ∧ ETt (cf X cm W) t f

def fVar (i : Nat) : Env → Out (Val × Env) := fun e => match e[i]? with
  | some (.frz d) => .ok (.frz d, e)
  | some (.own _) => .ok (.bor i, e)
  | _ => .bad
def fC (d : D) : Env → Out (Val × Env) := fun e => .ok (.frz d, e)
def fAnd (f g : Env → Out (Val × Env)) : Env → Out (Val × Env) := fun e => (f e).bind fun a => match a.1 with
  | .frz (.bool true) => g a.2
  | .frz (.bool false) => .ok (.frz (.bool false), a.2)
  | _ => .bad
def fOr (f g : Env → Out (Val × Env)) : Env → Out (Val × Env) := fun e => (f e).bind fun a => match a.1 with
  | .frz (.bool true) => .ok (.frz (.bool true), a.2)
  | .frz (.bool false) => g a.2
  | _ => .bad
def fNot (f : Env → Out (Val × Env)) : Env → Out (Val × Env) := fun e => (f e).bind fun a => match a.1 with
  | .frz (.bool b) => .ok (.frz (.bool (!b)), a.2)
  | _ => .bad
def fIf (c : Env → Out (Bool × Env)) (f g : Env → Out (Val × Env)) : Env → Out (Val × Env) := fun e => (c e).bind fun b => if b.1 = true then f b.2 else g b.2
def tOf (f : Env → Out (Val × Env)) : Env → Out (Bool × Env) := fun e => (f e).bind fun a => match a.1 with
  | .frz (.bool b) => .ok (b, a.2)
  | _ => .bad
def tAnd (f g : Env → Out (Bool × Env)) : Env → Out (Bool × Env) := fun e => (f e).bind fun a => if a.1 = true then g a.2 else .ok (false, a.2)
def tOr (f g : Env → Out (Bool × Env)) : Env → Out (Bool × Env) := fun e => (f e).bind fun a => if a.1 = true then .ok (true, a.2) else g a.2
def tNot (f : Env → Out (Bool × Env)) : Env → Out (Bool × Env) := fun e => (f e).bind fun a => .ok (!a.1, a.2)
def fChain (g g' : D → D → Option Val) (fa fb fc : Env → Out (Val × Env)) : Env → Out (Val × Env) := fun e => (fz fa e).bind fun a => (fz fb a.2).bind fun b =>
  match opd b.2 a.1, opd b.2 b.1 with
  | some x, some y => match g x y with
    | some (.frz (.bool true)) => (fz fc b.2).bind fun c => match opd c.2 b.1, opd c.2 c.1 with
      | some y', some w => res (g' y' w) c.2
      | _, _ => .bad
    | some (.frz (.bool false)) => .ok (.frz (.bool false), b.2)
    | _ => .bad
  | _, _ => .bad

section
variable {X : Cx} {cm : CMap} {W : WX} {pos : Pos} {a b c' : Expr} {fa fb fc : Env → Out (Val × Env)}

theorem Rp.blV {K : PySem.W.Frag} {F : Hp} {v : V} {b : Bool} (h : Rp K F v (.bool b)) : v = .bl b := by
  cases h
  rfl
theorem ev_var {x : Str} (i : Nat) (hN : X.N[i]? = some x := by rfl) (hv : Vis X.env.scope x := by first | exact Or.inl rfl | exact Or.inr (Or.inl rfl) | exact Or.inr (Or.inr rfl))
    (hd : (x == ("__debug__" : Str)) = false := by decide) (hcd : (x == ("__classdict__" : Str)) = false := by decide) : EV X cm W (.Name x pos) (fVar i) := by
  refine ⟨_, pe_var hN hv hd hcd, fun s Q z p => ?_⟩
  unfold fVar at p
  split at p
  · rename_i d e
    obtain ⟨v, h1, h2⟩ := z.frz i d e
    exact ⟨v, h1, p v s.F s.H (Stp.refl s) z h2⟩
  · rename_i o e
    obtain ⟨q, h1, h2, h3⟩ := z.own i o e
    exact ⟨.ref q, h1, p (.ref q) s.F s.H (Stp.refl s) z ⟨h1, o, e⟩⟩
  · exact p.elim
theorem evt_const {c : Cf} {v : V} {d : D} (h : ∀ K F, Rp K F v d) : EVt c (tC v) (fC d) := fun s Q z p => p v s.F s.H (Stp.refl s) z (h _ _)
theorem ev_int {i : Int} {j : Nat} : EV X cm W (.Constant (.int i) j pos) (fC (.int i)) := ⟨_, pe_int, evt_const fun _ _ => .int i⟩
theorem ev_bool {i : Bool} {j : Nat} : EV X cm W (.Constant (.bool i) j pos) (fC (.bool i)) := ⟨_, pe_bl, evt_const fun _ _ => .bl i⟩
theorem ev_none {j : Nat} : EV X cm W (.Constant .none j pos) (fC .none) := ⟨_, pe_non, evt_const fun _ _ => .non⟩
theorem ev_str {x : Str} {j : Nat} : EV X cm W (.Constant (.str x) j pos) (fC (.str x)) := ⟨_, pe_str, evt_const fun _ _ => .str x⟩
/-- a module's constant: an int, a text -/
theorem ev_globI {x : Str} {i : Int} {t : Tok} (hm : X.mg x = some (.int i t)) (hg : Gl X x := by rfl) (hd : (x == ("__debug__" : Str)) = false := by decide) : EV X cm W (.Name x pos) (fC (.int i)) :=
  ⟨_, pe_glob hg hm (v := .int i) ⟨t, rfl⟩ hd, evt_const fun _ _ => .int i⟩
theorem ev_globS {x : Str} {i : Str} {t : Tok} (hm : X.mg x = some (.str i t)) (hg : Gl X x := by rfl) (hd : (x == ("__debug__" : Str)) = false := by decide) : EV X cm W (.Name x pos) (fC (.str i)) :=
  ⟨_, pe_glob hg hm (v := .str i) ⟨t, rfl⟩ hd, evt_const fun _ _ => .str i⟩
theorem ev_bin {op : Operator} {g : D → D → Option Val} (ho : OpR X (binaryOp op) (rG X.K g)) (ha : EV X cm W a fa) (hb : EV X cm W b fb) : EV X cm W (.BinOp a op b pos) (bin g fa fb) := by
  obtain ⟨ta, pa, ea⟩ := ha
  obtain ⟨tb, pb, eb⟩ := hb
  exact ⟨_, pe_op ho pa pb, ea.bin eb⟩
theorem ev_cmp {op : CmpOp} {g : D → D → Option Val} (ho : OpR X (compareOp op) (rG X.K g)) (ha : EV X cm W a fa) (hb : EV X cm W b fb) (hm : behindInMarks op b = false := by first | exact nomark _ | rfl) :
    EV X cm W (.Compare a [op] [b] pos) (bin g fa fb) := by
  obtain ⟨ta, pa, ea⟩ := ha
  obtain ⟨tb, pb, eb⟩ := hb
  exact ⟨_, pe_cmpR ho pa pb hm, ea.bin eb⟩
theorem ev_un {op : UnaryOp} {g : D → Option Val} (ho : UnR X (unaryOp op) (rG1 X.K g)) (ha : EV X cm W a fa) : EV X cm W (.UnaryOp op a pos) (un g fa) := by
  obtain ⟨ta, pa, ea⟩ := ha
  exact ⟨_, pe_un ho pa, ea.un⟩
theorem EVt.tOf {c : Cf} {t : TE} {f : Env → Out (Val × Env)} (h : EVt c t f) : ETt c (tTest t) (tOf f) := fun s Q z p => by
  refine h.stepB z p fun v val e1 F1 H1 x y r p1 => ?_
  simp only at p1
  split at p1
  · rename_i b
    exact ⟨b, r.blV, p1 F1 H1 (Stp.refl _) y⟩
  · exact p1.elim
theorem et_val {e : Expr} {f : Env → Out (Val × Env)} (h : EV X cm W e f) (he : ∀ whole, isTrue e X.env whole = (do let v ← whole; standAt e.pos; holding [v] (truthy v)) := by intro _; rfl) : ET X cm W e (tOf f) := by
  obtain ⟨t, p, ev⟩ := h
  exact ⟨_, pt_val p he, ev.tOf⟩
theorem et_cmp {op : CmpOp} {g : D → D → Option Val} (ho : OpR X (compareOp op) (rG X.K g)) (ha : EV X cm W a fa) (hb : EV X cm W b fb) (hm : behindInMarks op b = false := by first | exact nomark _ | rfl) :
    ET X cm W (.Compare a [op] [b] pos) (tOf (bin g fa fb)) := by
  obtain ⟨ta, pa, ea⟩ := ha
  obtain ⟨tb, pb, eb⟩ := hb
  exact ⟨_, pt_cmpR ho pa pb hm, (ea.bin eb).tOf⟩
theorem EVt.chain {c : Cf} {ta tb tc : TE} {g g' : D → D → Option Val} {fa fb fc : Env → Out (Val × Env)} (ha : EVt c ta fa) (hb : EVt c tb fb) (hc : EVt c tc fc) : EVt c (tChain (rG c.K g) (rG c.K g') ta tb tc) (fChain g g' fa fb fc) := fun s Q z p => by
  refine ha.fz.step' z p fun v val e1 F1 H1 q1 x y r p1 => ?_
  refine hb.fz.step' y p1 fun v2 val2 e2 F2 H2 q2 x2 y2 r2 p2 => ?_
  simp only at p2
  cases o1 : opd e2 val with
  | none =>
    rw [o1] at p2
    exact p2.elim
  | some d1 =>
    cases o2 : opd e2 val2 with
    | none =>
      rw [o1, o2] at p2
      exact p2.elim
    | some d2 =>
      rw [o1, o2] at p2
      simp only at p2
      have r1' := (r.later (s1 := ⟨F1, H1, s.σ, e1⟩) x2 rfl (fz_noNew q1) o1).opn y2 o1
      split at p2
      · rename_i hg
        refine ⟨_, d1, d2, _, rfl, y2, r1', r2.opn y2 o2, hg, fun z3 F3 H3 x3 y3 r3 => ⟨true, r3.blV, ?_⟩⟩
        rw [if_pos rfl]
        refine hc.fz.step' y3 (p2.later x3 rfl) fun v4 val4 e4 F4 H4 q4 x4 y4 r4 p4 => ?_
        simp only at p4
        cases o3 : opd e4 val2 with
        | none =>
          rw [o3] at p4
          exact p4.elim
        | some d3 =>
          cases o4 : opd e4 val4 with
          | none =>
            rw [o3, o4] at p4
            exact p4.elim
          | some d4 =>
            rw [o3, o4] at p4
            obtain ⟨w, e, k⟩ := p4.gives
            exact ⟨_, d3, d4, w, rfl, y4, (r2.later (s1 := s) (x3.trans x4) rfl (fz_noNew q2) o3).opn y4 o3, r4.opn y4 o4, e, k⟩
      · rename_i hg
        refine ⟨_, d1, d2, _, rfl, y2, r1', r2.opn y2 o2, hg, fun z3 F3 H3 x3 y3 r3 => ⟨false, r3.blV, ?_⟩⟩
        exact p2 (.bl false) F3 H3 x3 y3 (.bl false)
      · exact p2.elim
theorem ev_chain {op op' : CmpOp} {g g' : D → D → Option Val} (ho : OpR X (compareOp op) (rG X.K g)) (ho' : OpR X (compareOp op') (rG X.K g')) (ha : EV X cm W a fa) (hb : EV X cm W b fb) (hc : EV X cm W c' fc)
    (hm : lastMarks [op, op'] [b, c'] = false := by with_unfolding_all rfl) : EV X cm W (.Compare a [op, op'] [b, c'] pos) (fChain g g' fa fb fc) := by
  obtain ⟨ta, pa, ea⟩ := ha
  obtain ⟨tb, pb, eb⟩ := hb
  obtain ⟨tc, pc, ec⟩ := hc
  exact ⟨_, pe_chain ho ho' pa pb pc hm, ea.chain eb ec⟩
theorem et_chain {op op' : CmpOp} {g g' : D → D → Option Val} (ho : OpR X (compareOp op) (rG X.K g)) (ho' : OpR X (compareOp op') (rG X.K g')) (ha : EV X cm W a fa) (hb : EV X cm W b fb) (hc : EV X cm W c' fc)
    (hm : lastMarks [op, op'] [b, c'] = false := by with_unfolding_all rfl) : ET X cm W (.Compare a [op, op'] [b, c'] pos) (tOf (fChain g g' fa fb fc)) := by
  obtain ⟨ta, pa, ea⟩ := ha
  obtain ⟨tb, pb, eb⟩ := hb
  obtain ⟨tc, pc, ec⟩ := hc
  exact ⟨_, pt_chain ho ho' pa pb pc hm, (ea.chain eb ec).tOf⟩
/-! and, or, not -/
variable {rest : List Expr}
theorem ev_one {op : BoolOp} (h : EV X cm W a fa) : EV X cm W (.BoolOp op [a] pos) fa := by
  obtain ⟨t, p, e⟩ := h
  exact ⟨_, pe_one p, e⟩
theorem ev_and (ha : EV X cm W a fa) (hb : EV X cm W (.BoolOp .And (b :: rest) pos) fb) : EV X cm W (.BoolOp .And (a :: b :: rest) pos) (fAnd fa fb) := by
  obtain ⟨ta, pa, ea⟩ := ha
  obtain ⟨tb, pb, eb⟩ := hb
  refine ⟨_, pe_and pa pb, fun s Q z p => ?_⟩
  refine ea.step z p fun v val e1 F1 H1 x y r p1 => ?_
  simp only at p1
  split at p1
  · exact ⟨true, r.blV, by rw [if_pos rfl]; exact eb _ Q y p1⟩
  · exact ⟨false, r.blV, p1 (.bl false) F1 H1 (Stp.refl _) y (.bl false)⟩
  · exact p1.elim
theorem ev_or (ha : EV X cm W a fa) (hb : EV X cm W (.BoolOp .Or (b :: rest) pos) fb) : EV X cm W (.BoolOp .Or (a :: b :: rest) pos) (fOr fa fb) := by
  obtain ⟨ta, pa, ea⟩ := ha
  obtain ⟨tb, pb, eb⟩ := hb
  refine ⟨_, pe_or pa pb, fun s Q z p => ?_⟩
  refine ea.step z p fun v val e1 F1 H1 x y r p1 => ?_
  simp only at p1
  split at p1
  · exact ⟨true, r.blV, by rw [if_pos rfl]; exact p1 (.bl true) F1 H1 (Stp.refl _) y (.bl true)⟩
  · exact ⟨false, r.blV, eb _ Q y p1⟩
  · exact p1.elim
theorem ev_not (ha : EV X cm W a fa) : EV X cm W (.UnaryOp .Not a pos) (fNot fa) := by
  obtain ⟨ta, pa, ea⟩ := ha
  refine ⟨_, pe_not pa, fun s Q z p => ?_⟩
  refine ea.step z p fun v val e1 F1 H1 x y r p1 => ?_
  simp only at p1
  split at p1
  · rename_i b
    exact ⟨b, r.blV, p1 (.bl (!b)) F1 H1 (Stp.refl _) y (.bl _)⟩
  · exact p1.elim
variable {ga gb : Env → Out (Bool × Env)}
theorem et_w {e : Expr} (h : EW X cm W e ga) : ET X cm W e ga := by
  obtain ⟨t, p, e⟩ := h
  exact ⟨_, p.pt, e⟩
theorem ew_and1 (h : ET X cm W a ga) : EW X cm W (.BoolOp .And [a] pos) ga := by
  obtain ⟨t, p, e⟩ := h
  exact ⟨_, pw_and1 p, e⟩
theorem ew_or1 (h : ET X cm W a ga) : EW X cm W (.BoolOp .Or [a] pos) ga := by
  obtain ⟨t, p, e⟩ := h
  exact ⟨_, pw_or1 p, e⟩
theorem ew_and (ha : ET X cm W a ga) (hb : EW X cm W (.BoolOp .And (b :: rest) pos) gb) : EW X cm W (.BoolOp .And (a :: b :: rest) pos) (tAnd ga gb) := by
  obtain ⟨ta, pa, ea⟩ := ha
  obtain ⟨tb, pb, eb⟩ := hb
  refine ⟨_, pw_and pa pb, fun s Q z p => ?_⟩
  refine ea.stepB z p fun v e1 F1 H1 x y p1 => ?_
  cases v with
  | true => exact eb _ Q y p1
  | false => exact p1 F1 H1 (Stp.refl _) y
theorem ew_or (ha : ET X cm W a ga) (hb : EW X cm W (.BoolOp .Or (b :: rest) pos) gb) : EW X cm W (.BoolOp .Or (a :: b :: rest) pos) (tOr ga gb) := by
  obtain ⟨ta, pa, ea⟩ := ha
  obtain ⟨tb, pb, eb⟩ := hb
  refine ⟨_, pw_or pa pb, fun s Q z p => ?_⟩
  refine ea.stepB z p fun v e1 F1 H1 x y p1 => ?_
  cases v with
  | true => exact p1 F1 H1 (Stp.refl _) y
  | false => exact eb _ Q y p1
theorem et_not (ha : ET X cm W a ga) : ET X cm W (.UnaryOp .Not a pos) (tNot ga) := by
  obtain ⟨ta, pa, ea⟩ := ha
  refine ⟨_, pt_not pa, fun s Q z p => ?_⟩
  refine ea.stepB z p fun v e1 F1 H1 x y p1 => ?_
  exact p1 F1 H1 (Stp.refl _) y
theorem ev_if {c : Expr} (hc : ET X cm W c ga) (ha : EV X cm W a fa) (hb : EV X cm W b fb) : EV X cm W (.IfExp c a b pos) (fIf ga fa fb) := by
  obtain ⟨tc, pc, ec⟩ := hc
  obtain ⟨ta, pa, ea⟩ := ha
  obtain ⟨tb, pb, eb⟩ := hb
  refine ⟨_, pe_ifExp pc pa pb, fun s Q z p => ?_⟩
  refine ec.step z p fun v e1 F1 H1 x y p1 => ?_
  cases v with
  | true => exact ea _ Q y p1
  | false => exact eb _ Q y p1
end

/-! ### argument lists, displays -/
def asD : Val × Env → Out (D × Env)
  | (.frz d, e) => .ok (d, e)
  | _ => .bad
def PostA (c : Cf) (s : Sta) (Q : List V → List D → Sta → Prop) : Out (List D × Env) → Prop
  | .ok (ds, e') => ∀ vs F' H', Stp s ⟨F', H', s.σ, e'⟩ → St c.K ⟨F', H', s.σ, e'⟩ → RpA c.K F' vs ds → Q vs ds ⟨F', H', s.σ, e'⟩
  | .exc x e' => ∀ C oe F' H', Stp s ⟨F', H', s.σ, e'⟩ → St c.K ⟨F', H', s.σ, e'⟩ → XR c.K c.cm x C oe ⟨F', H', s.σ, e'⟩ → c.W C oe s.σ H'
  | .bad => False
def EAt (c : Cf) (t : TA) (f : Env → Out (List D × Env)) : Prop := ∀ (s : Sta) (Q : List V → Hp → Prop), St c.K s → PostA c s (fun vs _ s' => Q vs s'.H) (f s.e) → t s.σ s.H Q
structure EA (X : Cx) (cm : CMap) (W : WX) (es : List Expr) (f : Env → Out (List D × Env)) : Prop where
  ex : ∃ t, PA X es t ∧ EAt (cf X cm W) t f
def aNil : Env → Out (List D × Env) := fun e => .ok ([], e)
def aCons (f : Env → Out (Val × Env)) (g : Env → Out (List D × Env)) : Env → Out (List D × Env) := fun e => ((fz f e).bind asD).bind fun a => (g a.2).bind fun b => .ok (a.1 :: b.1, b.2)
theorem PostA.later {c : Cf} {s s1 : Sta} {Q : List V → List D → Sta → Prop} (x : Stp s s1) (hσ : s1.σ = s.σ) : ∀ {o : Out (List D × Env)}, PostA c s Q o → PostA c s1 Q o
  | .ok (val, e'), h => fun v F' H' y z r => by
    rw [hσ] at y z ⊢
    exact h v F' H' (x.trans y) z r
  | .exc xx e', h => fun C oe F' H' y z r => by
    rw [hσ] at y z r ⊢
    exact h C oe F' H' (x.trans y) z r
theorem EVt.stepA {c : Cf} {t : TE} {f : Env → Out (Val × Env)} {g : Val × Env → Out (List D × Env)} {s : Sta} {Q : List V → List D → Sta → Prop} {R : V → Hp → Prop} (h : EVt c t f) (z : St c.K s) (p : PostA c s Q ((f s.e).bind g))
    (k : ∀ v val e1 F1 H1, Stp s ⟨F1, H1, s.σ, e1⟩ → St c.K ⟨F1, H1, s.σ, e1⟩ → VRep c.K s ⟨F1, H1, s.σ, e1⟩ v val → PostA c ⟨F1, H1, s.σ, e1⟩ Q (g (val, e1)) → R v H1) : t s.σ s.H R := by
  refine h s R z ?_
  revert p
  cases f s.e with
  | ok a =>
    obtain ⟨val, e1⟩ := a
    intro p v F1 H1 x y r
    exact k v val e1 F1 H1 x y r (PostA.later x rfl p)
  | exc x e1 => exact fun p => p
  | bad => exact fun p => p
theorem EAt.step {c : Cf} {t : TA} {f : Env → Out (List D × Env)} {g : List D × Env → Out (Val × Env)} {s : Sta} {Q : V → Val → Sta → Prop} {R : List V → Hp → Prop} (h : EAt c t f) (z : St c.K s) (p : Post c s Q ((f s.e).bind g))
    (k : ∀ vs ds e1 F1 H1, Stp s ⟨F1, H1, s.σ, e1⟩ → St c.K ⟨F1, H1, s.σ, e1⟩ → RpA c.K F1 vs ds → Post c ⟨F1, H1, s.σ, e1⟩ Q (g (ds, e1)) → R vs H1) : t s.σ s.H R := by
  refine h s R z ?_
  revert p
  cases f s.e with
  | ok a =>
    obtain ⟨val, e1⟩ := a
    intro p v F1 H1 x y r
    exact k v val e1 F1 H1 x y r (Post.later x rfl p)
  | exc x e1 => exact fun p => p
  | bad => exact fun p => p
theorem EAt.stepA {c : Cf} {t : TA} {f : Env → Out (List D × Env)} {g : List D × Env → Out (List D × Env)} {s : Sta} {Q : List V → List D → Sta → Prop} {R : List V → Hp → Prop} (h : EAt c t f) (z : St c.K s) (p : PostA c s Q ((f s.e).bind g))
    (k : ∀ vs ds e1 F1 H1, Stp s ⟨F1, H1, s.σ, e1⟩ → St c.K ⟨F1, H1, s.σ, e1⟩ → RpA c.K F1 vs ds → PostA c ⟨F1, H1, s.σ, e1⟩ Q (g (ds, e1)) → R vs H1) : t s.σ s.H R := by
  refine h s R z ?_
  revert p
  cases f s.e with
  | ok a =>
    obtain ⟨val, e1⟩ := a
    intro p v F1 H1 x y r
    exact k v val e1 F1 H1 x y r (PostA.later x rfl p)
  | exc x e1 => exact fun p => p
  | bad => exact fun p => p
def fTup (f : Env → Out (List D × Env)) : Env → Out (Val × Env) := fun e => (f e).bind fun a => if a.1.length ≤ sizeLine then .ok (.frz (.tuple a.1), a.2) else .bad
def fLst (f : Env → Out (List D × Env)) : Env → Out (Val × Env) := fun e => (f e).bind fun a => if a.1.length ≤ sizeLine then .ok (.new (.lst a.1), a.2) else .bad
section
variable {X : Cx} {cm : CMap} {W : WX} {pos : Pos} {a : Expr} {es : List Expr} {fa : Env → Out (Val × Env)} {fs : Env → Out (List D × Env)}
theorem ea_nil : EA X cm W [] aNil := ⟨_, pa_nil, fun s Q z p => p [] s.F s.H (Stp.refl s) z .nil⟩
theorem ea_cons (ha : EV X cm W a fa) (hr : EA X cm W es fs) (hs : starEach (a :: es) X.env = (false, eval a X.env) :: starEach es X.env := by rfl) : EA X cm W (a :: es) (aCons fa fs) := by
  obtain ⟨ta, pa, ea⟩ := ha
  obtain ⟨tr, pr, er⟩ := hr
  refine ⟨_, pa_cons pa pr hs, fun s Q z p => ?_⟩
  unfold aCons at p
  rw [Out.bind_assoc] at p
  refine ea.fz.stepA z p fun v val e1 F1 H1 x y r p1 => ?_
  cases val with
  | new o => exact p1.elim
  | bor i => exact p1.elim
  | frz d =>
    refine er.stepA (s := ⟨F1, H1, s.σ, e1⟩) y p1 fun vs ds e2 F2 H2 x2 y2 r2 p2 => ?_
    exact p2 (v :: vs) F2 H2 (Stp.refl _) y2 (.cons (Rp.mono x2.ff r) r2)
def tTupF (t : TA) : TE := fun σ H Q => t σ H fun xs H1 => xs.length ≤ sizeLine ∧ NewT H1 xs Q
theorem pe_tupF {k : Nat} {t : TA} (h : PA X es t) : PE X (.Tuple es k pos) (tTupF t) := by
  refine ⟨fun pins s σ H Q I hq => wpAny_Tuple_spliced (thn (h.run pos pins s σ H _ I hq) ?_)⟩
  rintro us s1 ⟨xs, H1, I1, r, z, q⟩
  exact ⟨by rw [← r.length]; exact z, lay_tup I1 r z q⟩
theorem ev_tup {k : Nat} (h : EA X cm W es fs) : EV X cm W (.Tuple es k pos) (fTup fs) := by
  obtain ⟨t, p, ev⟩ := h
  refine ⟨_, pe_tupF p, fun s Q z q => ?_⟩
  refine ev.step z q fun vs ds e1 F1 H1 x y r p1 => ?_
  simp only at p1
  split at p1
  · rename_i hz
    exact ⟨by rw [r.length]; exact hz, Gives.tuple (K := X.K) (s := ⟨F1, H1, s.σ, e1⟩) p1 y r⟩
  · exact p1.elim
theorem ev_lst (h : EA X cm W es fs) : EV X cm W (.List es pos) (fLst fs) := by
  obtain ⟨t, p, ev⟩ := h
  refine ⟨_, pe_lst p, fun s Q z q => ?_⟩
  refine ev.step z q fun vs ds e1 F1 H1 x y r p1 => ?_
  simp only at p1
  split at p1
  · rename_i hz
    exact ⟨by rw [r.length]; exact hz, fun a ha => Gives.list (K := X.K) (s := ⟨F1, H1, s.σ, e1⟩) p1 y r ha⟩
  · exact p1.elim
end
end BV
/-! items, slices, built-in functions by data -/
namespace BV
open PySem PySem.Spec PyProof.Rows L2

/-! ### items -/
def gIx : D → D → Option Val
  | .list xs, .int i => (atI xs i).map .frz
  | .tuple xs, .int i => (atI xs i).map .frz
  | .str z, .int i => if z.length ≤ sizeLine then (atI z.cps.toList i).map fun c => .frz (.str ⟨#[c]⟩) else none
  | _, _ => none
theorem RpA.atI {K : PySem.W.Frag} {F : Hp} {vs : List V} {ds : List D} (r : RpA K F vs ds) {i : Int} {d : D} (h : L2.atI ds i = some d) : ∃ v, L2.atI vs i = some v ∧ Rp K F v d := by
  unfold L2.atI at h ⊢
  rw [r.length]
  cases q : ixN ds.length i with
  | none =>
    rw [q] at h
    cases h
  | some j =>
    rw [q] at h
    obtain ⟨v, h1, h2⟩ := r.get j h
    exact ⟨v, h1, h2⟩
section
variable {X : Cx}
theorem ix_data : IxR X (rG X.K gIx) := by
  intro value slice pins s σ H x y v u Q I rx ry h hs
  obtain ⟨S, dx, dy, val, rfl, z, ox, oy, g, k⟩ := h
  unfold gIx at g
  split at g
  · cases e : atI _ _ with
    | none =>
      rw [e] at g
      cases g
    | some d =>
      rw [e] at g
      cases g
      obtain ⟨a, xs, rfl, h1, r1⟩ := opn_lst ox
      cases opn_int oy
      obtain ⟨w, e2, r2⟩ := r1.atI e
      exact ix_list value slice pins s σ S.H _ _ v u Q I rx ry ⟨a, xs, _, w, rfl, rfl, h1, e2, k.same z r2⟩ hs
  · cases e : atI _ _ with
    | none =>
      rw [e] at g
      cases g
    | some d =>
      rw [e] at g
      cases g
      obtain ⟨a, xs, rfl, h1, r1, _⟩ := opn_tup z.fh ox
      cases opn_int oy
      obtain ⟨w, e2, r2⟩ := r1.atI e
      exact ix_tup value slice pins s σ S.H _ _ v u Q I rx ry ⟨a, xs, _, w, rfl, rfl, h1, e2, k.same z r2⟩ hs
  · split at g
    · cases e : atI _ _ with
      | none =>
        rw [e] at g
        cases g
      | some d =>
        rw [e] at g
        cases g
        cases opn_str ox
        cases opn_int oy
        exact ix_str value slice pins s σ S.H _ _ v u Q I rx ry ⟨_, _, _, rfl, rfl, by assumption, e, k.same z (.str _)⟩ hs
    · cases g
  · cases g
variable {cm : CMap} {W : WX} {pos : Pos} {a b : Expr} {fa fb : Env → Out (Val × Env)}
theorem ev_ix (ha : EV X cm W a fa) (hb : EV X cm W b fb) (hs : PlainIx b := by exact fun _ _ => rfl) : EV X cm W (.Subscript a b pos) (bin gIx fa fb) := by
  obtain ⟨ta, pa, ea⟩ := ha
  obtain ⟨tb, pb, eb⟩ := hb
  exact ⟨_, pe_ix ix_data pa pb hs, ea.bin eb⟩
end

/-! ### slices -/
def cutD (xs : List D) (lo hi : Option Int) : List D := (xs.drop (HT.sIx xs.length 0 lo)).take (HT.sIx xs.length xs.length hi - HT.sIx xs.length 0 lo)
theorem RpA.cut {K : PySem.W.Frag} {F : Hp} {vs : List V} {ds : List D} (r : RpA K F vs ds) (lo hi : Option Int) : RpA K F (cutV vs lo hi) (cutD ds lo hi) := by
  unfold cutV cutD
  rw [r.length]
  exact (r.drop _).take _
def gSl (d : D) (lo hi : Option Int) : Option Val := match d with
  | .list xs => some (.new (.lst (cutD xs lo hi)))
  | .tuple xs => some (.frz (.tuple (cutD xs lo hi)))
  | .str z => if z.length ≤ sizeLine then some (.frz (.str (cutS z lo hi))) else none
  | _ => none
def rGS (K : PySem.W.Frag) : V → Option Int → Option Int → Hp → VK → Prop := fun x lo hi H Q => ∃ (s : Sta) (dx : D) (val : Val), s.H = H ∧ St K s ∧ Opn K s.F s.H x dx ∧ gSl dx lo hi = some val ∧ Gives K s val Q
theorem cut_whole {xs : List D} {lo hi : Option Int} (h : HT.sIx xs.length 0 lo = 0 ∧ HT.sIx xs.length xs.length hi = xs.length) : cutD xs lo hi = xs := by
  unfold cutD
  rw [h.1, h.2]
  simp
theorem sl_data {X : Cx} : SlR X (rGS X.K) := by
  intro pins s σ H x v vl vu lo hi sl Q I rx hs pl pu h
  obtain ⟨S, dx, val, rfl, z, ox, g, k⟩ := h
  unfold gSl at g
  split at g
  · cases g
    obtain ⟨a, xs, rfl, h1, r1⟩ := opn_lst ox
    exact sl_list pins s σ S.H _ v vl vu lo hi sl Q I rx hs pl pu ⟨a, xs, rfl, h1, fun p hp => k.list z (r1.cut lo hi) hp⟩
  · cases g
    obtain ⟨a, xs, rfl, h1, r1, f1⟩ := opn_tup z.fh ox
    have l1 := r1.length
    cases rx
    obtain ⟨its, w1, ht, hz⟩ := I.tuple h1
    have hlen : its.toArray.size = xs.length := by
      rw [List.size_toArray, w1.length]
    refine ⟨"tuple", _, slot_tuple_getitem.lookup, ht.typeIs, ?_⟩
    by_cases hw : HT.sIx xs.length 0 lo = 0 ∧ HT.sIx xs.length xs.length hi = xs.length
    · refine getItem_tuple_whole ht hs pl pu (by rw [hlen]; exact hw) ⟨.ref a, S.H, I, rfl, ?_⟩
      rw [r1.length] at hw
      rw [cut_whole hw] at k
      exact k.same z (.tup f1 r1)
    · refine HT.getItem_tuple_cut ht hs pl pu (by rw [hlen]; exact hw) ?_ (by rw [hlen]; exact hz)
      rw [hlen]
      exact lay_tup I ((w1.drop _).take _) (Nat.le_trans (cutV_length xs lo hi) hz) (k.tuple z (r1.cut lo hi))
  · split at g
    · cases g
      cases opn_str ox
      exact sl_str pins s σ S.H _ v vl vu lo hi sl Q I rx hs pl pu ⟨_, rfl, by assumption, k.same z (.str _)⟩
    · cases g
  · cases g
/-- a slice's end -/
def PostO (c : Cf) (s : Sta) (Q : Option Int → Sta → Prop) : Out (Option Int × Env) → Prop
  | .ok (b, e') => ∀ F' H', Stp s ⟨F', H', s.σ, e'⟩ → St c.K ⟨F', H', s.σ, e'⟩ → Q b ⟨F', H', s.σ, e'⟩
  | .exc x e' => ∀ C oe F' H', Stp s ⟨F', H', s.σ, e'⟩ → St c.K ⟨F', H', s.σ, e'⟩ → XR c.K c.cm x C oe ⟨F', H', s.σ, e'⟩ → c.W C oe s.σ H'
  | .bad => False
def EOt (c : Cf) (t : TO) (f : Env → Out (Option Int × Env)) : Prop := ∀ (s : Sta) (Q : Option Int → Hp → Prop), St c.K s → PostO c s (fun b s' => Q b s'.H) (f s.e) → t s.σ s.H Q
structure EO (X : Cx) (cm : CMap) (W : WX) (e : Option Expr) (f : Env → Out (Option Int × Env)) : Prop where
  ex : ∃ t, PO X e t ∧ EOt (cf X cm W) t f
def oNone : Env → Out (Option Int × Env) := fun e => .ok (none, e)
def oSome (f : Env → Out (Val × Env)) : Env → Out (Option Int × Env) := fun e => (f e).bind fun a => match a.1 with
  | .frz (.int i) => .ok (some i, a.2)
  | _ => .bad
theorem EOt.step {c : Cf} {t : TO} {f : Env → Out (Option Int × Env)} {g : Option Int × Env → Out (Val × Env)} {s : Sta} {Q : V → Val → Sta → Prop} {R : Option Int → Hp → Prop} (h : EOt c t f) (z : St c.K s) (p : Post c s Q ((f s.e).bind g))
    (k : ∀ b e1 F1 H1, Stp s ⟨F1, H1, s.σ, e1⟩ → St c.K ⟨F1, H1, s.σ, e1⟩ → Post c ⟨F1, H1, s.σ, e1⟩ Q (g (b, e1)) → R b H1) : t s.σ s.H R := by
  refine h s R z ?_
  revert p
  cases f s.e with
  | ok a =>
    obtain ⟨val, e1⟩ := a
    intro p F1 H1 x y
    exact k val e1 F1 H1 x y (Post.later x rfl p)
  | exc x e1 => exact fun p => p
  | bad => exact fun p => p
def fSl (f : Env → Out (Val × Env)) (lo hi : Env → Out (Option Int × Env)) : Env → Out (Val × Env) := fun e => (fz f e).bind fun a => (lo a.2).bind fun l => (hi l.2).bind fun h =>
  match opd h.2 a.1 with
  | some d => res (gSl d l.1 h.1) h.2
  | none => .bad
section
variable {X : Cx} {cm : CMap} {W : WX} {pos : Pos} {a : Expr} {lo hi : Option Expr} {fa : Env → Out (Val × Env)} {fl fh : Env → Out (Option Int × Env)}
theorem eo_none : EO X cm W none oNone := ⟨_, po_none, fun s Q z p => p s.F s.H (Stp.refl s) z⟩
theorem eo_some (h : EV X cm W a fa) : EO X cm W (some a) (oSome fa) := by
  obtain ⟨t, p, ev⟩ := h
  refine ⟨_, po_some p, fun s Q z q => ?_⟩
  refine ev s _ z ?_
  revert q
  unfold oSome
  cases fa s.e with
  | exc x e1 => exact fun p => p
  | bad => exact fun p => p
  | ok w =>
    obtain ⟨val, e1⟩ := w
    intro q v F1 H1 x y r
    rw [Out.bind_ok] at q
    simp only at q
    split at q
    · rename_i i
      cases (show Rp X.K F1 v (.int i) from r)
      exact ⟨i, rfl, q F1 H1 x y⟩
    · exact q.elim
theorem ev_sl {p2 : Pos} (ha : EV X cm W a fa) (hl : EO X cm W lo fl) (hh : EO X cm W hi fh) : EV X cm W (.Subscript a (.Slice lo hi none p2) pos) (fSl fa fl fh) := by
  obtain ⟨ta, pa, ea⟩ := ha
  obtain ⟨tl, pl, el⟩ := hl
  obtain ⟨th, ph, eh⟩ := hh
  refine ⟨_, pe_slice sl_data pa pl ph, fun s Q z p => ?_⟩
  refine ea.fz.step' z p fun v val e1 F1 H1 q1 x y r p1 => ?_
  refine el.step (s := ⟨F1, H1, s.σ, e1⟩) y p1 fun l e2 F2 H2 x2 y2 p2 => ?_
  refine eh.step (s := ⟨F2, H2, s.σ, e2⟩) y2 p2 fun h e3 F3 H3 x3 y3 p3 => ?_
  simp only at p3
  cases o : opd e3 val with
  | none =>
    rw [o] at p3
    exact p3.elim
  | some d =>
    rw [o] at p3
    obtain ⟨w, e, k⟩ := p3.gives
    exact ⟨_, d, w, rfl, y3, (r.later (s1 := s) (x2.trans x3) rfl (fz_noNew q1) o).opn y3 o, e, k⟩
end

/-! ### built-in functions of one thing, of two -/
def rL1 (K : PySem.W.Frag) (g : D → Option Val) : List V → Hp → VK → Prop := fun xs H Q => ∃ x, xs = [x] ∧ rG1 K g x H Q
def rL2 (K : PySem.W.Frag) (g : D → D → Option Val) : List V → Hp → VK → Prop := fun xs H Q => ∃ x y, xs = [x, y] ∧ rG K g x y H Q
/-- isinstance(x, T), T a built-in class -/
def rLT (K : PySem.W.Frag) (T : String) (g : D → Option Val) : List V → Hp → VK → Prop := fun xs H Q => ∃ x, xs = [x, .ty T] ∧ rG1 K g x H Q
section
variable {X : Cx} {cm : CMap} {W : WX} {pos p : Pos} {a b : Expr} {fa fb : Env → Out (Val × Env)} {x : Str}
theorem ev_callB {id : String} {g : D → Option Val} (hc : CallR X (.builtin id) (rL1 X.K g)) (hm : X.mg x = none) (ha : EV X cm W a fa) (hg : Gl X x := by rfl) (hv : bootBuiltins x = some (.builtin id) := by decide +kernel)
    (hn : x ≠ "__name__" := by decide) (hdb : (x == ("__debug__" : Str)) = false := by decide) (hs : starEach [a] X.env = (false, eval a X.env) :: starEach [] X.env := by rfl) (hpl : (backTo pos (starEach [] X.env)).any (·.1) = false := by rfl) :
    EV X cm W (.Call (.Name x p) [a] [] pos) (un g fa) := by
  obtain ⟨ta, pa, ea⟩ := ha
  refine ⟨_, pe_callB hc hg hm hv (pa_cons pa pa_nil hs) hn hdb hs hpl, fun s Q z q => ?_⟩
  exact ea.un (g := g) s (fun v H => Q v H) z q |> fun h => by
    have : ∀ (t : TE) (Q1 Q2 : V → Hp → Prop), Q1 = Q2 → t s.σ s.H Q1 → t s.σ s.H Q2 := fun t Q1 Q2 e h => e ▸ h
    refine this ta _ _ ?_ h
    funext v H
    exact propext ⟨fun h => ⟨v, rfl, h⟩, fun ⟨y, e, h⟩ => by cases e; exact h⟩
theorem ev_callT {T : String} {g : D → Option Val} (hc : CallR X (.type T) (rL1 X.K g)) (hm : X.mg x = none) (ha : EV X cm W a fa) (hg : Gl X x := by rfl) (hv : bootBuiltins x = some (.type T) := by decide +kernel)
    (hn : x ≠ "__name__" := by decide) (hdb : (x == ("__debug__" : Str)) = false := by decide) (hs : starEach [a] X.env = (false, eval a X.env) :: starEach [] X.env := by rfl) (hpl : (backTo pos (starEach [] X.env)).any (·.1) = false := by rfl) :
    EV X cm W (.Call (.Name x p) [a] [] pos) (un g fa) := by
  obtain ⟨ta, pa, ea⟩ := ha
  refine ⟨_, pe_callTy hc hg hm hv (pa_cons pa pa_nil hs) hn hdb hs hpl, fun s Q z q => ?_⟩
  exact ea.un (g := g) s (fun v H => Q v H) z q |> fun h => by
    have : ∀ (t : TE) (Q1 Q2 : V → Hp → Prop), Q1 = Q2 → t s.σ s.H Q1 → t s.σ s.H Q2 := fun t Q1 Q2 e h => e ▸ h
    refine this ta _ _ ?_ h
    funext v H
    exact propext ⟨fun h => ⟨v, rfl, h⟩, fun ⟨y, e, h⟩ => by cases e; exact h⟩
theorem ev_callB2 {id : String} {g : D → D → Option Val} (hc : CallR X (.builtin id) (rL2 X.K g)) (hm : X.mg x = none) (ha : EV X cm W a fa) (hb : EV X cm W b fb) (hg : Gl X x := by rfl) (hv : bootBuiltins x = some (.builtin id) := by decide +kernel)
    (hn : x ≠ "__name__" := by decide) (hdb : (x == ("__debug__" : Str)) = false := by decide) (hs2 : starEach [b] X.env = (false, eval b X.env) :: starEach [] X.env := by rfl) (hs : starEach [a, b] X.env = (false, eval a X.env) :: starEach [b] X.env := by rfl)
    (hpl : (backTo pos (starEach [b] X.env)).any (·.1) = false := by rfl) : EV X cm W (.Call (.Name x p) [a, b] [] pos) (bin g fa fb) := by
  obtain ⟨ta, pa, ea⟩ := ha
  obtain ⟨tb, pb, eb⟩ := hb
  refine ⟨_, pe_callB hc hg hm hv (pa_cons pa (pa_cons pb pa_nil hs2) hs) hn hdb hs hpl, fun s Q z q => ?_⟩
  exact ea.bin (g := g) eb s (fun v H => Q v H) z q |> fun h => by
    have : ∀ (t : TE) (Q1 Q2 : V → Hp → Prop), Q1 = Q2 → t s.σ s.H Q1 → t s.σ s.H Q2 := fun t Q1 Q2 e h => e ▸ h
    refine this ta _ _ ?_ h
    funext v H
    refine congrArg (fun R => tb s.σ H R) ?_
    funext w H2
    exact propext ⟨fun h => ⟨v, w, rfl, h⟩, fun ⟨y, y2, e, h⟩ => by cases e; exact h⟩
theorem ev_isi {T : String} {y : Str} {py : Pos} {g : D → Option Val} (hc : CallR X (.builtin "isinstance") (rLT X.K T g)) (hm : X.mg x = none) (hmT : X.mg y = none) (ha : EV X cm W a fa) (hx : x = "isinstance" := by rfl) (hg : Gl X x := by rfl) (hgT : Gl X y := by rfl)
    (hvT : bootBuiltins y = some (.type T) := by decide +kernel) (hn : y ≠ "__name__" := by decide) (hdb : (y == ("__debug__" : Str)) = false := by decide)
    (hs2 : starEach [.Name y py] X.env = (false, eval (.Name y py) X.env) :: starEach [] X.env := by rfl) (hs : starEach [a, .Name y py] X.env = (false, eval a X.env) :: starEach [.Name y py] X.env := by rfl)
    (hpl : (backTo pos (starEach [.Name y py] X.env)).any (·.1) = false := by rfl) : EV X cm W (.Call (.Name x p) [a, .Name y py] [] pos) (un g fa) := by
  obtain ⟨ta, pa, ea⟩ := ha
  subst hx
  refine ⟨_, pe_callB hc hg hm (by decide +kernel) (pa_cons pa (pa_cons (pe_bltn (v := .ty T) hgT hmT hvT rfl hn hdb) pa_nil hs2) hs) (by decide) (by decide) hs hpl, fun s Q z q => ?_⟩
  exact ea.un (g := g) s (fun v H => Q v H) z q |> fun h => by
    have : ∀ (t : TE) (Q1 Q2 : V → Hp → Prop), Q1 = Q2 → t s.σ s.H Q1 → t s.σ s.H Q2 := fun t Q1 Q2 e h => e ▸ h
    refine this ta _ _ ?_ h
    funext v H
    exact propext ⟨fun h => ⟨v, rfl, h⟩, fun ⟨y, e, h⟩ => by cases e; exact h⟩
end

section
variable {X : Cx}
def gIsi (f : D → Bool) (d : D) : Option Val := some (.frz (.bool (f d)))
theorem isi_of {T : String} {f : D → Bool} (h : ∀ {A : Around} {E : Value → Shared → Prop} {s : Shared} {v : Value} {d : D} {as : List Addr} {Q : Value → Shared → Prop}, Reads s.heap v d as → (∀ tk, s.toks ≤ tk → Q (.bool (f d)) { s with toks := tk }) →
    wpAny (model X.prog X.w) A (call (.builtin "isinstance") [v, .type T]) Q E s) : CallR X (.builtin "isinstance") (rLT X.K T (gIsi f)) := by
  intro pins s σ H xs us Q I r hq
  obtain ⟨x, rfl, S, dx, val, rfl, z, ox, g, k⟩ := hq
  cases g
  cases r with
  | cons r1 r2 =>
    cases r2 with
    | cons r2 r3 =>
      cases r3
      cases r2
      obtain ⟨as, rd⟩ := Rp.reads I dx x _ (ox.rp z.fh) r1
      exact h rd fun tk _ => ⟨.bl _, S.H, I.tok tk, rfl, k.same z (.bl _)⟩
theorem is_int : CallR X (.builtin "isinstance") (rLT X.K "int" (gIsi PyData.isInt)) := isi_of fun r h => PySem.W.isinstance_int_data r h
theorem is_bool : CallR X (.builtin "isinstance") (rLT X.K "bool" (gIsi PyData.isBool)) := isi_of fun r h => PySem.W.isinstance_bool_data r h
theorem is_str : CallR X (.builtin "isinstance") (rLT X.K "str" (gIsi PyData.isStr)) := isi_of fun r h => PySem.W.isinstance_str_data r h
theorem is_tuple : CallR X (.builtin "isinstance") (rLT X.K "tuple" (gIsi PyData.isTuple)) := isi_of fun r h => PySem.W.isinstance_tuple_data r h
theorem is_list : CallR X (.builtin "isinstance") (rLT X.K "list" (gIsi PyData.isList)) := isi_of fun r h => PySem.W.isinstance_list_data r h
theorem is_dict : CallR X (.builtin "isinstance") (rLT X.K "dict" (gIsi PyData.isDict)) := isi_of fun r h => PySem.W.isinstance_dict_data r h

def gLen : D → Option Val
  | .list xs => some (.frz (.int xs.length))
  | .tuple xs => some (.frz (.int xs.length))
  | .dict xs => some (.frz (.int xs.length))
  | .str z => if z.length ≤ sizeLine then some (.frz (.int z.length)) else none
  | _ => none
theorem cd_len : CallR X (.builtin "len") (rL1 X.K gLen) := by
  intro pins s σ H xs us Q I r h
  obtain ⟨x, rfl, S, dx, val, rfl, z, ox, g, k⟩ := h
  unfold gLen at g
  split at g
  · cases g
    obtain ⟨a, xs, rfl, h1, r1⟩ := opn_lst ox
    exact call_len pins s σ S.H _ us Q I r ⟨_, _, rfl, Or.inl ⟨xs, h1, r1.length.symm⟩, k.same z (.int _)⟩
  · cases g
    obtain ⟨a, xs, rfl, h1, r1, _⟩ := opn_tup z.fh ox
    exact call_len pins s σ S.H _ us Q I r ⟨_, _, rfl, Or.inr ⟨xs, h1, r1.length.symm⟩, k.same z (.int _)⟩
  · cases g
    obtain ⟨a, es, rfl, h1, r1⟩ := ox
    exact call_lenD pins s σ S.H _ us Q I r ⟨a, es, rfl, h1, by rw [r1.length]; exact k.same z (.int _)⟩
  · split at g
    · cases g
      cases opn_str ox
      exact call_len pins s σ S.H _ us Q I r ⟨_, _, rfl, ⟨by assumption, rfl⟩, k.same z (.int _)⟩
    · cases g
  · cases g
def asInts : List D → Option (List Int)
  | [] => some []
  | .int i :: ds => (asInts ds).map (i :: ·)
  | _ :: _ => none
def asBools : List D → Option (List Bool)
  | [] => some []
  | .bool i :: ds => (asBools ds).map (i :: ·)
  | _ :: _ => none
theorem asInts_eq : ∀ {ds : List D} {ns : List Int}, asInts ds = some ns → ds = ns.map .int
  | [], ns, h => by
    cases h
    rfl
  | d :: ds, ns, h => by
    cases d <;> simp only [asInts] at h <;> try cases h
    cases q : asInts ds with
    | none =>
      rw [q] at h
      cases h
    | some m =>
      rw [q] at h
      cases h
      rw [asInts_eq q]
      rfl
theorem asBools_eq : ∀ {ds : List D} {ns : List Bool}, asBools ds = some ns → ds = ns.map .bool
  | [], ns, h => by
    cases h
    rfl
  | d :: ds, ns, h => by
    cases d <;> simp only [asBools] at h <;> try cases h
    cases q : asBools ds with
    | none =>
      rw [q] at h
      cases h
    | some m =>
      rw [q] at h
      cases h
      rw [asBools_eq q]
      rfl
theorem asInts_map (ns : List Int) : asInts (ns.map .int) = some ns := by
  induction ns with
  | nil => rfl
  | cons n ns ih => simp [asInts, ih]
theorem asBools_map (ns : List Bool) : asBools (ns.map .bool) = some ns := by
  induction ns with
  | nil => rfl
  | cons n ns ih => simp [asBools, ih]
def gAll : D → Option Val
  | .list ds => (asBools ds).map fun bs => .frz (.bool (bs.all id))
  | _ => none
def gAny : D → Option Val
  | .list ds => (asBools ds).map fun bs => .frz (.bool (bs.any id))
  | _ => none
def gSum : D → Option Val
  | .list ds => (asInts ds).map fun ns => .frz (.int ns.sum)
  | _ => none
theorem cd_all (hc : X.calm = true) : CallR X (.builtin "all") (rL1 X.K gAll) := by
  intro pins s σ H xs us Q I r h
  obtain ⟨x, rfl, S, dx, val, rfl, z, ox, g, k⟩ := h
  unfold gAll at g
  split at g
  · rename_i ds
    cases e : asBools ds with
    | none =>
      rw [e] at g
      cases g
    | some bs =>
      rw [e] at g
      cases g
      obtain ⟨a, xs, rfl, h1, r1⟩ := opn_lst ox
      rw [asBools_eq e] at r1
      rw [r1.bools] at h1
      exact cr_all hc pins s σ S.H _ us Q I r ⟨a, bs, rfl, h1, k.same z (.bl _)⟩
  · cases g
theorem cd_any (hc : X.calm = true) : CallR X (.builtin "any") (rL1 X.K gAny) := by
  intro pins s σ H xs us Q I r h
  obtain ⟨x, rfl, S, dx, val, rfl, z, ox, g, k⟩ := h
  unfold gAny at g
  split at g
  · rename_i ds
    cases e : asBools ds with
    | none =>
      rw [e] at g
      cases g
    | some bs =>
      rw [e] at g
      cases g
      obtain ⟨a, xs, rfl, h1, r1⟩ := opn_lst ox
      rw [asBools_eq e] at r1
      rw [r1.bools] at h1
      exact cr_any hc pins s σ S.H _ us Q I r ⟨a, bs, rfl, h1, k.same z (.bl _)⟩
  · cases g
theorem cd_sum (hc : X.calm = true) : CallR X (.builtin "sum") (rL1 X.K gSum) := by
  intro pins s σ H xs us Q I r h
  obtain ⟨x, rfl, S, dx, val, rfl, z, ox, g, k⟩ := h
  unfold gSum at g
  split at g
  · rename_i ds
    cases e : asInts ds with
    | none =>
      rw [e] at g
      cases g
    | some bs =>
      rw [e] at g
      cases g
      obtain ⟨a, xs, rfl, h1, r1⟩ := opn_lst ox
      rw [asInts_eq e] at r1
      rw [r1.ints] at h1
      exact cr_sum hc pins s σ S.H _ us Q I r ⟨a, bs, rfl, h1, k.same z (.int _)⟩
  · cases g
def gAbs : D → Option Val
  | .int i => some (.frz (.int (if i < 0 then -i else i)))
  | _ => none
theorem cd_abs : CallR X (.builtin "abs") (rL1 X.K gAbs) := by
  intro pins s σ H xs us Q I r h
  obtain ⟨x, rfl, S, dx, val, rfl, z, ox, g, k⟩ := h
  unfold gAbs at g
  split at g
  · cases g
    cases opn_int ox
    exact call_abs pins s σ S.H _ us Q I r ⟨_, rfl, k.same z (.int _)⟩
  · cases g
def gInt : D → Option Val
  | .int i => some (.frz (.int i))
  | .bool b => some (.frz (.int (if b then 1 else 0)))
  | _ => none
theorem cd_int : CallR X (.type "int") (rL1 X.K gInt) := by
  intro pins s σ H xs us Q I r h
  obtain ⟨x, rfl, S, dx, val, rfl, z, ox, g, k⟩ := h
  unfold gInt at g
  split at g
  · cases g
    cases opn_int ox
    exact call_int1 pins s σ S.H _ us Q I r (Or.inl ⟨_, rfl, k.same z (.int _)⟩)
  · cases g
    cases opn_bl ox
    exact call_int1 pins s σ S.H _ us Q I r (Or.inr ⟨_, rfl, k.same z (.int _)⟩)
  · cases g
def gMax2 : D → D → Option Val
  | .int i, .int j => some (.frz (.int (if j > i then j else i)))
  | _, _ => none
def gMin2 : D → D → Option Val
  | .int i, .int j => some (.frz (.int (if j < i then j else i)))
  | _, _ => none
theorem cd_max2 (hc : X.calm = true) : CallR X (.builtin "max") (rL2 X.K gMax2) := by
  intro pins s σ H xs us Q I r h
  obtain ⟨x, y, rfl, S, dx, dy, val, rfl, z, ox, oy, g, k⟩ := h
  unfold gMax2 at g
  split at g
  · cases g
    cases opn_int ox
    cases opn_int oy
    exact call_max2 hc pins s σ S.H _ us Q I r ⟨_, _, rfl, k.same z (.int _)⟩
  · cases g
theorem cd_min2 (hc : X.calm = true) : CallR X (.builtin "min") (rL2 X.K gMin2) := by
  intro pins s σ H xs us Q I r h
  obtain ⟨x, y, rfl, S, dx, dy, val, rfl, z, ox, oy, g, k⟩ := h
  unfold gMin2 at g
  split at g
  · cases g
    cases opn_int ox
    cases opn_int oy
    exact call_min2 hc pins s σ S.H _ us Q I r ⟨_, _, rfl, k.same z (.int _)⟩
  · cases g
/-- list(x), tuple(x) -/
def gList : D → Option Val
  | .list xs => some (.new (.lst xs))
  | .tuple xs => some (.new (.lst xs))
  | _ => none
theorem cd_list : CallR X (.type "list") (rL1 X.K gList) := by
  intro pins s σ H xs us Q I r h
  obtain ⟨x, rfl, S, dx, val, rfl, z, ox, g, k⟩ := h
  unfold gList at g
  split at g
  · cases g
    obtain ⟨a, xs, rfl, h1, r1⟩ := opn_lst ox
    exact call_list_of pins s σ S.H _ us Q I r ⟨a, xs, rfl, Or.inl h1, fun p hp => k.list z r1 hp⟩
  · cases g
    obtain ⟨a, xs, rfl, h1, r1, _⟩ := opn_tup z.fh ox
    exact call_list_of pins s σ S.H _ us Q I r ⟨a, xs, rfl, Or.inr h1, fun p hp => k.list z r1 hp⟩
  · cases g
def gTuple : D → Option Val
  | .list xs => some (.frz (.tuple xs))
  | .tuple xs => some (.frz (.tuple xs))
  | _ => none
theorem cd_tuple : CallR X (.type "tuple") (rL1 X.K gTuple) := by
  intro pins s σ H xs us Q I r h
  obtain ⟨x, rfl, S, dx, val, rfl, z, ox, g, k⟩ := h
  unfold gTuple at g
  split at g
  · cases g
    obtain ⟨a, xs, rfl, h1, r1⟩ := opn_lst ox
    obtain ⟨u, rfl, rx⟩ := vals1 r
    cases rx
    obtain ⟨its, w1, pl, hz⟩ := I.list h1
    have l1 := w1.length
    refine call_tuple_list pl.isList (fun h' kp => ?_) (by simp only [List.size_toArray] <;> omega)
    have I1 : L2.Inv X pins σ S.H { s with heap := h' } := I.kept (t' := s.toks) kp
    exact lay_tup I1 w1 hz (k.tuple z r1)
  · cases g
    obtain ⟨a, xs, rfl, h1, r1, f1⟩ := opn_tup z.fh ox
    exact call_tuple_of pins s σ S.H _ us Q I r ⟨a, xs, rfl, Or.inr ⟨h1, k.same z (.tup f1 r1)⟩⟩
  · cases g
end
end BV
/-! calls of the program's own defs -/
namespace BV
open PySem PySem.Spec PyProof.Rows L2

inductive Arg where
  | dat (d : D)
  | own (i : Nat)
def ownIx : List Arg → List Nat
  | [] => []
  | .dat _ :: as => ownIx as
  | .own i :: as => i :: ownIx as
def slotsOf (e : Env) : List Arg → Option (List Slot)
  | [] => some []
  | .dat d :: as => (slotsOf e as).map (.frz d :: ·)
  | .own i :: as => match e[i]? with
    | some (.own o) => (slotsOf e as).map (.own o :: ·)
    | _ => none
/-- the owned arguments as the callee leaves them -/
def wb : List Arg → List Slot → Env → Option Env
  | [], _, e => some e
  | .dat _ :: as, _ :: sl, e => wb as sl e
  | .own i :: as, .own o :: sl, e => (wb as sl e).map (·.set i (.own o))
  | _, _, _ => none
inductive ArgRep (K : PySem.W.Frag) (F : Hp) (σ : L2.St) : List V → List Arg → Prop
  | nil : ArgRep K F σ [] []
  | dat {v : V} {d : D} {vs : List V} {as : List Arg} : Rp K F v d → ArgRep K F σ vs as → ArgRep K F σ (v :: vs) (.dat d :: as)
  | own {v : V} {i : Nat} {vs : List V} {as : List Arg} : σ[i]? = some (some v) → ArgRep K F σ vs as → ArgRep K F σ (v :: vs) (.own i :: as)
theorem ArgRep.mono {K : PySem.W.Frag} {F F' : Hp} {σ : L2.St} (e : Ex F F') : ∀ {vs : List V} {as : List Arg}, ArgRep K F σ vs as → ArgRep K F' σ vs as
  | _, _, .nil => .nil
  | _, _, .dat h r => .dat (h.mono e) (r.mono e)
  | _, _, .own h r => .own h (r.mono e)
theorem ArgRep.append {K : PySem.W.Frag} {F : Hp} {σ : L2.St} : ∀ {vs ws : List V} {as bs : List Arg}, ArgRep K F σ vs as → ArgRep K F σ ws bs → ArgRep K F σ (vs ++ ws) (as ++ bs)
  | _, _, _, _, .nil, b => b
  | _, _, _, _, .dat h r, b => .dat h (r.append b)
  | _, _, _, _, .own h r, b => .own h (r.append b)
theorem ArgRep.ofData {K : PySem.W.Frag} {F : Hp} {σ : L2.St} : ∀ {vs : List V} {ds : List D}, RpA K F vs ds → ArgRep K F σ vs (ds.map .dat)
  | _, _, .nil => .nil
  | _, _, .cons h r => .dat h (ArgRep.ofData r)
theorem ArgRep.length {K : PySem.W.Frag} {F : Hp} {σ : L2.St} : ∀ {vs : List V} {as : List Arg}, ArgRep K F σ vs as → vs.length = as.length
  | _, _, .nil => rfl
  | _, _, .dat _ r => congrArg (· + 1) r.length
  | _, _, .own _ r => congrArg (· + 1) r.length
theorem ArgRep.ownV {K : PySem.W.Frag} {F : Hp} {σ : L2.St} : ∀ {vs : List V} {as : List Arg} {j i : Nat}, ArgRep K F σ vs as → as[j]? = some (Arg.own i) → ∃ v, vs[j]? = some v ∧ σ[i]? = some (some v)
  | _, _, _, _, .nil, e => by simp at e
  | _, _, 0, _, .dat _ _, e => by simp at e
  | _, _, 0, _, .own h _, e => by
    simp at e
    subst e
    exact ⟨_, rfl, h⟩
  | _, _, j + 1, _, .dat _ r, e => by
    obtain ⟨v, h1, h2⟩ := ArgRep.ownV (j := j) r (by simpa using e)
    exact ⟨v, by simpa using h1, h2⟩
  | _, _, j + 1, _, .own _ r, e => by
    obtain ⟨v, h1, h2⟩ := ArgRep.ownV (j := j) r (by simpa using e)
    exact ⟨v, by simpa using h1, h2⟩
theorem ArgRep.datV {K : PySem.W.Frag} {F : Hp} {σ : L2.St} : ∀ {vs : List V} {as : List Arg} {j : Nat} {d : D}, ArgRep K F σ vs as → as[j]? = some (Arg.dat d) → ∃ v, vs[j]? = some v ∧ Rp K F v d
  | _, _, _, _, .nil, e => by simp at e
  | _, _, 0, _, .own _ _, e => by simp at e
  | _, _, 0, _, .dat h _, e => by
    simp at e
    subst e
    exact ⟨_, rfl, h⟩
  | _, _, j + 1, _, .dat _ r, e => by
    obtain ⟨v, h1, h2⟩ := ArgRep.datV (j := j) r (by simpa using e)
    exact ⟨v, by simpa using h1, h2⟩
  | _, _, j + 1, _, .own _ r, e => by
    obtain ⟨v, h1, h2⟩ := ArgRep.datV (j := j) r (by simpa using e)
    exact ⟨v, by simpa using h1, h2⟩
theorem ownIx_mem : ∀ {as : List Arg} {j i : Nat}, as[j]? = some (Arg.own i) → i ∈ ownIx as
  | [], _, _, e => by simp at e
  | .dat d :: as, 0, _, e => by simp at e
  | .own k :: as, 0, _, e => by
    simp at e
    subst e
    exact List.mem_cons_self
  | .dat d :: as, j + 1, _, e => ownIx_mem (as := as) (j := j) (by simpa using e)
  | .own k :: as, j + 1, _, e => List.mem_cons_of_mem _ (ownIx_mem (as := as) (j := j) (by simpa using e))
theorem ownIx_at : ∀ {as : List Arg} {i : Nat}, i ∈ ownIx as → ∃ (j : Nat), as[j]? = some (Arg.own i)
  | [], _, h => by cases h
  | .dat d :: as, _, h => by
    obtain ⟨j, e⟩ := ownIx_at (as := as) h
    exact ⟨j + 1, by simpa using e⟩
  | .own k :: as, i, h => by
    rcases List.mem_cons.mp h with h | h
    · subst h
      exact ⟨0, rfl⟩
    · obtain ⟨j, e⟩ := ownIx_at (as := as) h
      exact ⟨j + 1, by simpa using e⟩
theorem ownIx_inj : ∀ {as : List Arg} {j k i : Nat}, (ownIx as).Nodup → as[j]? = some (Arg.own i) → as[k]? = some (Arg.own i) → j = k
  | [], _, _, _, _, e, _ => by simp at e
  | .dat d :: as, 0, _, _, _, e, _ => by simp at e
  | .dat d :: as, j + 1, 0, _, _, _, e => by simp at e
  | .dat d :: as, j + 1, k + 1, i, n, e, f => congrArg (· + 1) (ownIx_inj (as := as) (i := i) n (by simpa using e) (by simpa using f))
  | .own m :: as, 0, 0, _, _, _, _ => rfl
  | .own m :: as, 0, k + 1, i, n, e, f => by
    simp at e
    subst e
    exact absurd (ownIx_mem (as := as) (j := k) (by simpa using f)) (List.nodup_cons.mp n).1
  | .own m :: as, j + 1, 0, i, n, e, f => by
    simp at f
    subst f
    exact absurd (ownIx_mem (as := as) (j := j) (by simpa using e)) (List.nodup_cons.mp n).1
  | .own m :: as, j + 1, k + 1, i, n, e, f => congrArg (· + 1) (ownIx_inj (as := as) (i := i) (List.nodup_cons.mp n).2 (by simpa using e) (by simpa using f))
theorem slotsOf_len {e : Env} : ∀ {as : List Arg} {sl : List Slot}, slotsOf e as = some sl → sl.length = as.length
  | [], sl, h => by
    cases h
    rfl
  | .dat d :: as, sl, h => by
    simp only [slotsOf] at h
    cases q : slotsOf e as with
    | none =>
      rw [q] at h
      cases h
    | some l =>
      rw [q] at h
      cases h
      simp [slotsOf_len q]
  | .own i :: as, sl, h => by
    simp only [slotsOf] at h
    split at h
    · cases q : slotsOf e as with
      | none =>
        rw [q] at h
        cases h
      | some l =>
        rw [q] at h
        cases h
        simp [slotsOf_len q]
    · cases h
theorem slotsOf_get {e : Env} : ∀ {as : List Arg} {sl : List Slot} {j : Nat} {x : Slot}, slotsOf e as = some sl → sl[j]? = some x →
    (∃ (d : D), as[j]? = some (Arg.dat d) ∧ x = .frz d) ∨ ∃ (i : Nat) (o : O), as[j]? = some (Arg.own i) ∧ e[i]? = some (Slot.own o) ∧ x = .own o
  | [], sl, j, x, h, g => by
    cases h
    simp at g
  | .dat d :: as, sl, j, x, h, g => by
    simp only [slotsOf] at h
    cases q : slotsOf e as with
    | none =>
      rw [q] at h
      cases h
    | some l =>
      rw [q] at h
      cases h
      cases j with
      | zero =>
        simp at g
        exact Or.inl ⟨d, rfl, g.symm⟩
      | succ j => simpa using slotsOf_get (j := j) q (by simpa using g)
  | .own i :: as, sl, j, x, h, g => by
    simp only [slotsOf] at h
    split at h
    · rename_i o ho
      cases q : slotsOf e as with
      | none =>
        rw [q] at h
        cases h
      | some l =>
        rw [q] at h
        cases h
        cases j with
        | zero =>
          simp at g
          exact Or.inr ⟨i, o, rfl, ho, g.symm⟩
        | succ j => simpa using slotsOf_get (j := j) q (by simpa using g)
    · cases h
theorem slotsOf_own {e : Env} : ∀ {as : List Arg} {sl : List Slot} {j i : Nat}, slotsOf e as = some sl → as[j]? = some (Arg.own i) → ∃ o, e[i]? = some (Slot.own o) ∧ sl[j]? = some (Slot.own o)
  | [], sl, j, i, h, g => by simp at g
  | .dat d :: as, sl, j, i, h, g => by
    simp only [slotsOf] at h
    cases q : slotsOf e as with
    | none =>
      rw [q] at h
      cases h
    | some l =>
      rw [q] at h
      cases h
      cases j with
      | zero => simp at g
      | succ j => simpa using slotsOf_own (j := j) (i := i) q (by simpa using g)
  | .own k :: as, sl, j, i, h, g => by
    simp only [slotsOf] at h
    split at h
    · rename_i o ho
      cases q : slotsOf e as with
      | none =>
        rw [q] at h
        cases h
      | some l =>
        rw [q] at h
        cases h
        cases j with
        | zero =>
          simp at g
          subst g
          exact ⟨o, ho, rfl⟩
        | succ j => simpa using slotsOf_own (j := j) (i := i) q (by simpa using g)
    · cases h
theorem wb_len : ∀ {as : List Arg} {sl : List Slot} {e e' : Env}, wb as sl e = some e' → e'.length = e.length
  | [], _, _, _, h => by
    cases h
    rfl
  | .dat _ :: as, [], _, _, h => by cases h
  | .dat _ :: as, _ :: sl, _, _, h => wb_len (as := as) (sl := sl) h
  | .own i :: as, [], _, _, h => by cases h
  | .own i :: as, .no :: sl, _, _, h => by cases h
  | .own i :: as, .frz _ :: sl, _, _, h => by cases h
  | .own i :: as, .own o :: sl, e, _, h => by
    simp only [wb] at h
    cases q : wb as sl e with
    | none =>
      rw [q] at h
      cases h
    | some l =>
      rw [q] at h
      cases h
      simp [wb_len q]
theorem wb_out : ∀ {as : List Arg} {sl : List Slot} {e e' : Env} {i : Nat}, wb as sl e = some e' → i ∉ ownIx as → e'[i]? = e[i]?
  | [], _, _, _, _, h, _ => by
    cases h
    rfl
  | .dat _ :: as, [], _, _, _, h, _ => by cases h
  | .dat _ :: as, _ :: sl, _, _, _, h, n => wb_out (as := as) (sl := sl) h n
  | .own i :: as, [], _, _, _, h, _ => by cases h
  | .own i :: as, .no :: sl, _, _, _, h, _ => by cases h
  | .own i :: as, .frz _ :: sl, _, _, _, h, _ => by cases h
  | .own i :: as, .own o :: sl, e, _, k, h, n => by
    simp only [wb] at h
    cases q : wb as sl e with
    | none =>
      rw [q] at h
      cases h
    | some l =>
      rw [q] at h
      cases h
      have n' := not_or.mp (fun z => n (List.mem_cons.mpr z))
      rw [List.getElem?_set_ne (Ne.symm n'.1)]
      exact wb_out q n'.2
theorem wb_own : ∀ {as : List Arg} {sl : List Slot} {e e' : Env} {i j : Nat}, wb as sl e = some e' → (ownIx as).Nodup → as[j]? = some (Arg.own i) → i < e.length → ∃ o, sl[j]? = some (Slot.own o) ∧ e'[i]? = some (Slot.own o)
  | [], _, _, _, _, _, _, _, g, _ => by simp at g
  | .dat _ :: as, [], _, _, _, _, h, _, _, _ => by cases h
  | .dat _ :: as, _ :: sl, _, _, _, 0, h, _, g, _ => by simp at g
  | .dat _ :: as, _ :: sl, _, _, _, j + 1, h, n, g, l => by
    obtain ⟨o, h1, h2⟩ := wb_own (as := as) (sl := sl) (j := j) h n (by simpa using g) l
    exact ⟨o, by simpa using h1, h2⟩
  | .own i :: as, [], _, _, _, _, h, _, _, _ => by cases h
  | .own i :: as, .no :: sl, _, _, _, _, h, _, _, _ => by cases h
  | .own i :: as, .frz _ :: sl, _, _, _, _, h, _, _, _ => by cases h
  | .own i :: as, .own o :: sl, e, _, k, j, h, n, g, hl => by
    simp only [wb] at h
    cases q : wb as sl e with
    | none =>
      rw [q] at h
      cases h
    | some l =>
      rw [q] at h
      cases h
      have n' := List.nodup_cons.mp n
      cases j with
      | zero =>
        simp at g
        subst g
        exact ⟨o, rfl, List.getElem?_set_self (by rw [wb_len q]; exact hl)⟩
      | succ j =>
        obtain ⟨o', h1, h2⟩ := wb_own (as := as) (sl := sl) (j := j) q n'.2 (by simpa using g) hl
        refine ⟨o', by simpa using h1, ?_⟩
        rw [List.getElem?_set_ne]
        · exact h2
        · rintro rfl
          exact n'.1 (ownIx_mem (as := as) (j := j) (by simpa using g))

section
variable {K : PySem.W.Frag} {F H : Hp} {σ : L2.St} {e : Env} {vs : List V} {as : List Arg} {sl : List Slot}
theorem mapSome {j : Nat} {v : V} (h : vs[j]? = some v) : (vs.map some)[j]? = some (some v) := by
  rw [List.getElem?_map, h]
  rfl
/-- the callee's state -/
theorem call_in (z : St K ⟨F, H, σ, e⟩) (r : ArgRep K F σ vs as) (n : (ownIx as).Nodup) (h : slotsOf e as = some sl) : St K ⟨F, H, vs.map some, sl⟩ := by
  have own : ∀ {j : Nat} {o : O}, sl[j]? = some (Slot.own o) → ∃ i p, as[j]? = some (Arg.own i) ∧ e[i]? = some (Slot.own o) ∧ σ[i]? = some (some (V.ref p)) ∧ vs[j]? = some (.ref p) ∧ OwnS K F H p o := fun g => by
    rcases slotsOf_get h g with ⟨d', h1, h2⟩ | ⟨i, o', h1, h2, h3⟩
    · cases h2
    · cases h3
      obtain ⟨v, v1, v2⟩ := r.ownV h1
      obtain ⟨p, p1, p3⟩ := z.own i _ h2
      have p1 : σ[i]? = some (some (V.ref p)) := p1
      rw [v2] at p1
      cases p1
      exact ⟨i, p, h1, h2, v2, v1, p3⟩
  refine ⟨?_, z.fh, fun j d g => ?_, fun j o g => ?_, fun j k oj ok p q g1 g2 g3 g4 ne => ?_, fun j x g => by
    rcases slotsOf_get h g with ⟨d', h1, h2⟩ | ⟨i, o, h1, h2, h3⟩
    · cases h2
    · cases h3⟩
  · show sl.length = (vs.map some).length
    rw [List.length_map, slotsOf_len h, r.length]
  · rcases slotsOf_get h g with ⟨d', h1, h2⟩ | ⟨i, o, h1, h2, h3⟩
    · cases h2
      obtain ⟨v, v1, v2⟩ := r.datV h1
      exact ⟨v, mapSome v1, v2⟩
    · cases h3
  · obtain ⟨i, p, _, _, _, v1, p3⟩ := own g
    exact ⟨p, mapSome v1, p3⟩
  · obtain ⟨i, p', h1, h2, h3, h4, _⟩ := own g1
    obtain ⟨i', q', k1, k2, k3, k4, _⟩ := own g2
    have g3 : (vs.map some)[j]? = some (some (V.ref p)) := g3
    have g4 : (vs.map some)[k]? = some (some (V.ref q)) := g4
    rw [mapSome h4] at g3
    rw [mapSome k4] at g4
    cases g3
    cases g4
    refine z.apart i i' oj ok p q h2 k2 h3 k3 fun w => ?_
    subst w
    exact ne (ownIx_inj n h1 k1)
theorem call_own (r : ArgRep K F σ vs as) (h : slotsOf e as = some sl) {a : Addr} (o : OwnA ⟨F, H, vs.map some, sl⟩ a) : ∃ (i j : Nat) (oo : O) (p : Addr), as[j]? = some (Arg.own i) ∧ e[i]? = some (Slot.own oo) ∧ σ[i]? = some (some (V.ref p)) ∧ a ∈ fp H oo (.ref p) := by
  obtain ⟨j, o, p, g, g2, g3⟩ := o
  rcases slotsOf_get h g with ⟨d', _, h2⟩ | ⟨i, o', h1, h2, h3⟩
  · cases h2
  · cases h3
    obtain ⟨v, v1, v2⟩ := r.ownV h1
    have g2 : (vs.map some)[j]? = some (some (V.ref p)) := g2
    rw [mapSome v1] at g2
    cases g2
    exact ⟨i, j, o, p, h1, h2, v2, g3⟩
variable {F' H' : Hp} {sl' : List Slot} {e' : Env}
theorem wb_cases (z : St K ⟨F, H, σ, e⟩) (n : (ownIx as).Nodup) (h : slotsOf e as = some sl) (w : wb as sl' e = some e') {i : Nat} {x : Slot} (g : e'[i]? = some x) :
    (i ∉ ownIx as ∧ e[i]? = some x) ∨ ∃ (j : Nat) (o o' : O), as[j]? = some (Arg.own i) ∧ e[i]? = some (Slot.own o) ∧ sl'[j]? = some (Slot.own o') ∧ x = .own o' := by
  by_cases hi : i ∈ ownIx as
  · obtain ⟨j, hj⟩ := ownIx_at hi
    obtain ⟨o, h1, h2⟩ := slotsOf_own h hj
    have hl : i < e.length := (List.getElem?_eq_some_iff.mp h1).1
    obtain ⟨o', h3, h4⟩ := wb_own w n hj hl
    rw [g] at h4
    cases h4
    exact Or.inr ⟨j, o, o', hj, h1, h3, rfl⟩
  · rw [wb_out w hi] at g
    exact Or.inl ⟨hi, g⟩
/-- what is not handed in is not touched -/
theorem call_apart (z : St K ⟨F, H, σ, e⟩) (r : ArgRep K F σ vs as) (h : slotsOf e as = some sl) {i : Nat} {o : O} {p : Addr} (ni : i ∉ ownIx as) (g : e[i]? = some (Slot.own o)) (g2 : σ[i]? = some (some (V.ref p))) {a : Addr} (ha : a ∈ fp H o (.ref p)) : ¬ OwnA ⟨F, H, vs.map some, sl⟩ a := fun w => by
  obtain ⟨i', j, oo, q, k1, k2, k3, k4⟩ := call_own r h w
  refine z.apart i i' o oo p q g k2 g2 k3 (fun q => ?_) a ha k4
  subst q
  exact ni (ownIx_mem k1)
theorem call_keep (z : St K ⟨F, H, σ, e⟩) (r : ArgRep K F σ vs as) (h : slotsOf e as = some sl) (x : Stp ⟨F, H, vs.map some, sl⟩ ⟨F', H', vs.map some, sl'⟩) {i : Nat} {o : O} {p : Addr} (ni : i ∉ ownIx as) (g : e[i]? = some (Slot.own o)) (g2 : σ[i]? = some (some (V.ref p))) {a : Addr} (ha : a ∈ fp H o (.ref p)) : H' a = H a ∧ F' a = none := by
  obtain ⟨f, u, hu⟩ := z.ownA ⟨i, o, p, g, g2, ha⟩
  have nc := call_apart z r h ni g g2 ha
  refine ⟨(x.keep a u hu nc).trans hu.symm, ?_⟩
  cases q : F' a with
  | none => rfl
  | some u' =>
    rcases x.fnew a u' q with q | q | q
    · exact nomatch (f.symm.trans q : (none : Option HO) = some u')
    · exact nomatch (hu.symm.trans q : some u = (none : Option HO))
    · exact absurd q nc
theorem call_out (z : St K ⟨F, H, σ, e⟩) (r : ArgRep K F σ vs as) (n : (ownIx as).Nodup) (h : slotsOf e as = some sl) (w : wb as sl' e = some e')
    (x : Stp ⟨F, H, vs.map some, sl⟩ ⟨F', H', vs.map some, sl'⟩) (y : St K ⟨F', H', vs.map some, sl'⟩) : Stp ⟨F, H, σ, e⟩ ⟨F', H', σ, e'⟩ ∧ St K ⟨F', H', σ, e'⟩ := by
  have back : ∀ {a : Addr}, OwnA ⟨F, H, vs.map some, sl⟩ a → OwnA ⟨F, H, σ, e⟩ a := fun o => by
    obtain ⟨i, j, oo, p, _, h2, h3, h4⟩ := call_own r h o
    exact ⟨i, oo, p, h2, h3, h4⟩
  have dom : ∀ {i : Nat} {o : O} {p : Addr}, e[i]? = some (Slot.own o) → σ[i]? = some (some (V.ref p)) → ∀ {a : Addr}, a ∈ fp H o (.ref p) → ∃ u, H a = some u := fun g g2 _ ha => (z.ownA ⟨_, _, _, g, g2, ha⟩).2
  /- an owned slot behind the call -/
  have slot : ∀ {i : Nat} {o : O} {p : Addr}, e'[i]? = some (Slot.own o) → σ[i]? = some (some (V.ref p)) → (i ∉ ownIx as ∧ e[i]? = some (Slot.own o) ∧ fp H' o (.ref p) = fp H o (.ref p)) ∨ ∃ (j : Nat) (o1 : O), as[j]? = some (Arg.own i) ∧ e[i]? = some (Slot.own o1) ∧ sl'[j]? = some (Slot.own o) ∧ (vs.map some)[j]? = some (some (V.ref p)) := fun g g2 => by
    rcases wb_cases z n h w g with ⟨ni, g'⟩ | ⟨j, o1, o2, h1, h2, h3, h4⟩
    · exact Or.inl ⟨ni, g', fp_congr _ fun a ha => (call_keep z r h x ni g' g2 ha).1⟩
    · cases h4
      obtain ⟨v, v1, v2⟩ := r.ownV h1
      rw [g2] at v2
      cases v2
      exact Or.inr ⟨j, o1, h1, h2, h3, mapSome v1⟩
  have was : ∀ {i : Nat} {o : O} {p : Addr}, e'[i]? = some (Slot.own o) → σ[i]? = some (some (V.ref p)) → ∀ {a : Addr}, a ∈ fp H' o (.ref p) → (∃ oo, e[i]? = some (Slot.own oo) ∧ a ∈ fp H oo (.ref p)) ∨ OwnA ⟨F, H, vs.map some, sl⟩ a ∨ H a = none := fun g g2 a ha => by
    rcases slot g g2 with ⟨_, g', e1⟩ | ⟨j, o1, h1, h2, h3, h4⟩
    · rw [e1] at ha
      exact Or.inl ⟨_, g', ha⟩
    · exact Or.inr (x.own a ⟨j, _, _, h3, h4, ha⟩)
  refine ⟨⟨x.ff, fun a o q => ?_, fun a o q m => x.keep a o q fun z => m (back z), fun a q => ?_, x.dom⟩, ⟨?_, y.fh, fun i d g => ?_, fun i o g => ?_, fun i j oi oj p q g1 g2 g3 g4 ne => ?_, fun i t g => by
    rcases wb_cases z n h w g with ⟨_, g'⟩ | ⟨j, o1, o2, _, _, _, h4⟩
    · exact (z.fn i t g').mono x.ff
    · cases h4⟩⟩
  · rcases x.fnew a o q with q | q | q
    · exact Or.inl q
    · exact Or.inr (Or.inl q)
    · exact Or.inr (Or.inr (back q))
  · obtain ⟨i, o, p, g, g2, g3⟩ := q
    rcases was g g2 g3 with ⟨oo, h1, h2⟩ | h1 | h1
    · exact Or.inl ⟨i, oo, p, h1, g2, h2⟩
    · exact Or.inl (back h1)
    · exact Or.inr h1
  · show e'.length = σ.length
    rw [wb_len w]
    exact z.len
  · rcases wb_cases z n h w g with ⟨_, g'⟩ | ⟨j, o1, o2, _, _, _, h4⟩
    · obtain ⟨v, v1, v2⟩ := z.frz i d g'
      exact ⟨v, v1, v2.mono x.ff⟩
    · cases h4
  · rcases wb_cases z n h w g with ⟨ni, g'⟩ | ⟨j, o1, o2, h1, h2, h3, h4⟩
    · obtain ⟨p, p1, p3⟩ := z.own i o g'
      exact ⟨p, p1, p3.later x.ff (fun a ha => (call_keep z r h x ni g' p1 ha).1) fun a ha => (call_keep z r h x ni g' p1 ha).2⟩
    · cases h4
      obtain ⟨p, p1, p3⟩ := y.own j o h3
      obtain ⟨v, v1, v2⟩ := r.ownV h1
      have p1 : (vs.map some)[j]? = some (some (V.ref p)) := p1
      rw [mapSome v1] at p1
      cases p1
      exact ⟨p, v2, p3⟩
  · intro a ha hb
    have ha : a ∈ fp H' oi (.ref p) := ha
    have hb : a ∈ fp H' oj (.ref q) := hb
    rcases slot g1 g3 with ⟨ni, g1', e1⟩ | ⟨i', o1, h1, h2, h3, h4⟩
    · rw [e1] at ha
      rcases slot g2 g4 with ⟨nj, g2', e2⟩ | ⟨j', o2, k1, k2, k3, k4⟩
      · rw [e2] at hb
        exact z.apart i j oi oj p q g1' g2' g3 g4 ne a ha hb
      · rcases x.own a ⟨j', _, _, k3, k4, hb⟩ with c | c
        · exact call_apart z r h ni g1' g3 ha c
        · obtain ⟨u, hu⟩ := dom g1' g3 ha
          have c : H a = none := c
          rw [hu] at c
          cases c
    · rcases slot g2 g4 with ⟨nj, g2', e2⟩ | ⟨j', o2, k1, k2, k3, k4⟩
      · rw [e2] at hb
        rcases x.own a ⟨i', _, _, h3, h4, ha⟩ with c | c
        · exact call_apart z r h nj g2' g4 hb c
        · obtain ⟨u, hu⟩ := dom g2' g4 hb
          have c : H a = none := c
          rw [hu] at c
          cases c
      · refine y.apart i' j' oi oj p q h3 k3 h4 k4 (fun w => ?_) a ha hb
        subst w
        rw [h1] at k1
        cases k1
        exact ne rfl
theorem call_val (z : St K ⟨F, H, σ, e⟩) (r : ArgRep K F σ vs as) (n : (ownIx as).Nodup) (h : slotsOf e as = some sl) (w : wb as sl' e = some e')
    (x : Stp ⟨F, H, vs.map some, sl⟩ ⟨F', H', vs.map some, sl'⟩) {v : V} {val : Val} (nb : ∀ i, val ≠ .bor i) (y : VRep K ⟨F, H, vs.map some, sl⟩ ⟨F', H', vs.map some, sl'⟩ v val) : VRep K ⟨F, H, σ, e⟩ ⟨F', H', σ, e'⟩ v val := by
  cases val with
  | frz d => exact y
  | bor i => exact absurd rfl (nb i)
  | new o =>
    obtain ⟨p, rfl, os, no⟩ := y
    refine ⟨p, rfl, os, fun a ha => ⟨(no a ha).1.imp id fun w => ?_, fun q => ?_⟩⟩
    · obtain ⟨i, j, oo, p, _, h2, h3, h4⟩ := call_own r h w
      exact ⟨i, oo, p, h2, h3, h4⟩
    obtain ⟨i, oo, p', g, g2, g3⟩ := q
    rcases wb_cases z n h w g with ⟨ni, g'⟩ | ⟨j, o1, o2, h1, h2, h3, h4⟩
    · have e1 : fp H' oo (.ref p') = fp H oo (.ref p') := fp_congr _ fun a ha => (call_keep z r h x ni g' g2 ha).1
      have g3 : a ∈ fp H' oo (.ref p') := g3
      rw [e1] at g3
      obtain ⟨u, hu⟩ := (z.ownA ⟨i, oo, p', g', g2, g3⟩).2
      have hu : H a = some u := hu
      rcases (no a ha).1 with na | na
      · have na : H a = none := na
        rw [hu] at na
        cases na
      · exact call_apart z r h ni g' g2 g3 na
    · cases h4
      obtain ⟨v, v1, v2⟩ := r.ownV h1
      have g2 : σ[i]? = some (some (V.ref p')) := g2
      rw [v2] at g2
      cases g2
      exact (no a ha).2 ⟨j, _, p', h3, mapSome v1, g3⟩
end

/-! ### what a def promises, by data -/
abbrev Fn := List Slot → Out (Val × List Slot)
def spB (n : Nat) (K : PySem.W.Frag) (cm : CMap) (m : Fn) : Sp := fun vs H Q E => vs.length = n ∧ ∃ (F : Hp) (sl : List Slot), St K ⟨F, H, vs.map some, sl⟩ ∧
  Post ⟨K, cm, fun C oe _ H' => E C oe H'⟩ ⟨F, H, vs.map some, sl⟩ (fun v _ s' => Q v s'.H) (m sl)
def PostR (c : Cf) (s : Sta) (Q : List V → List Arg → Sta → Prop) : Out (List Arg × Env) → Prop
  | .ok (as, e') => ∀ vs F' H', Stp s ⟨F', H', s.σ, e'⟩ → St c.K ⟨F', H', s.σ, e'⟩ → ArgRep c.K F' s.σ vs as → Q vs as ⟨F', H', s.σ, e'⟩
  | .exc x e' => ∀ C oe F' H', Stp s ⟨F', H', s.σ, e'⟩ → St c.K ⟨F', H', s.σ, e'⟩ → XR c.K c.cm x C oe ⟨F', H', s.σ, e'⟩ → c.W C oe s.σ H'
  | .bad => False
def ERt (c : Cf) (t : TA) (f : Env → Out (List Arg × Env)) : Prop := ∀ (s : Sta) (Q : List V → Hp → Prop), St c.K s → PostR c s (fun vs _ s' => Q vs s'.H) (f s.e) → t s.σ s.H Q
structure ER (X : Cx) (cm : CMap) (W : WX) (es : List Expr) (f : Env → Out (List Arg × Env)) : Prop where
  ex : ∃ t, PA X es t ∧ ERt (cf X cm W) t f
def rNil : Env → Out (List Arg × Env) := fun e => .ok ([], e)
def rDat (f : Env → Out (Val × Env)) (g : Env → Out (List Arg × Env)) : Env → Out (List Arg × Env) := fun e => ((fz f e).bind asD).bind fun a => (g a.2).bind fun b => .ok (.dat a.1 :: b.1, b.2)
def rOwn (i : Nat) (g : Env → Out (List Arg × Env)) : Env → Out (List Arg × Env) := fun e => match e[i]? with
  | some (.own _) => (g e).bind fun b => .ok (.own i :: b.1, b.2)
  | _ => .bad
theorem PostR.later {c : Cf} {s s1 : Sta} {Q : List V → List Arg → Sta → Prop} (x : Stp s s1) (hσ : s1.σ = s.σ) : ∀ {o : Out (List Arg × Env)}, PostR c s Q o → PostR c s1 Q o
  | .ok (val, e'), h => fun v F' H' y z r => by
    rw [hσ] at y z r ⊢
    exact h v F' H' (x.trans y) z r
  | .exc xx e', h => fun C oe F' H' y z r => by
    rw [hσ] at y z r ⊢
    exact h C oe F' H' (x.trans y) z r
theorem EVt.stepR {c : Cf} {t : TE} {f : Env → Out (Val × Env)} {g : Val × Env → Out (List Arg × Env)} {s : Sta} {Q : List V → List Arg → Sta → Prop} {R : V → Hp → Prop} (h : EVt c t f) (z : St c.K s) (p : PostR c s Q ((f s.e).bind g))
    (k : ∀ v val e1 F1 H1, Stp s ⟨F1, H1, s.σ, e1⟩ → St c.K ⟨F1, H1, s.σ, e1⟩ → VRep c.K s ⟨F1, H1, s.σ, e1⟩ v val → PostR c ⟨F1, H1, s.σ, e1⟩ Q (g (val, e1)) → R v H1) : t s.σ s.H R := by
  refine h s R z ?_
  revert p
  cases f s.e with
  | ok a =>
    obtain ⟨val, e1⟩ := a
    intro p v F1 H1 x y r
    exact k v val e1 F1 H1 x y r (PostR.later x rfl p)
  | exc x e1 => exact fun p => p
  | bad => exact fun p => p
theorem ERt.step {c : Cf} {t : TA} {f : Env → Out (List Arg × Env)} {g : List Arg × Env → Out (Val × Env)} {s : Sta} {Q : V → Val → Sta → Prop} {R : List V → Hp → Prop} (h : ERt c t f) (z : St c.K s) (p : Post c s Q ((f s.e).bind g))
    (k : ∀ vs as e1 F1 H1, Stp s ⟨F1, H1, s.σ, e1⟩ → St c.K ⟨F1, H1, s.σ, e1⟩ → ArgRep c.K F1 s.σ vs as → Post c ⟨F1, H1, s.σ, e1⟩ Q (g (as, e1)) → R vs H1) : t s.σ s.H R := by
  refine h s R z ?_
  revert p
  cases f s.e with
  | ok a =>
    obtain ⟨val, e1⟩ := a
    intro p v F1 H1 x y r
    exact k v val e1 F1 H1 x y r (Post.later x rfl p)
  | exc x e1 => exact fun p => p
  | bad => exact fun p => p
theorem ERt.stepR {c : Cf} {t : TA} {f : Env → Out (List Arg × Env)} {g : List Arg × Env → Out (List Arg × Env)} {s : Sta} {Q : List V → List Arg → Sta → Prop} {R : List V → Hp → Prop} (h : ERt c t f) (z : St c.K s) (p : PostR c s Q ((f s.e).bind g))
    (k : ∀ vs as e1 F1 H1, Stp s ⟨F1, H1, s.σ, e1⟩ → St c.K ⟨F1, H1, s.σ, e1⟩ → ArgRep c.K F1 s.σ vs as → PostR c ⟨F1, H1, s.σ, e1⟩ Q (g (as, e1)) → R vs H1) : t s.σ s.H R := by
  refine h s R z ?_
  revert p
  cases f s.e with
  | ok a =>
    obtain ⟨val, e1⟩ := a
    intro p v F1 H1 x y r
    exact k v val e1 F1 H1 x y r (PostR.later x rfl p)
  | exc x e1 => exact fun p => p
  | bad => exact fun p => p
/-- a call, its defaults behind -/
def fCall (m : Fn) (dds : List D) (fs : Env → Out (List Arg × Env)) : Env → Out (Val × Env) := fun e => (fs e).bind fun a =>
  let as := a.1 ++ dds.map Arg.dat
  if (ownIx as).Nodup then match slotsOf a.2 as with
    | some sl => match m sl with
      | .ok (rv, sl') => match rv, wb as sl' a.2 with
        | .bor _, _ => .bad
        | rv, some e' => .ok (rv, e')
        | _, none => .bad
      | .exc x sl' => match wb as sl' a.2 with
        | some e' => .exc x e'
        | none => .bad
      | .bad => .bad
    | none => .bad
  else .bad
section
variable {X : Cx} {cm : CMap} {W : WX} {pos : Pos} {a : Expr} {es : List Expr} {fa : Env → Out (Val × Env)} {fs : Env → Out (List Arg × Env)}
theorem er_nil : ER X cm W [] rNil := ⟨_, pa_nil, fun s Q z p => p [] s.F s.H (Stp.refl s) z .nil⟩
theorem er_dat (ha : EV X cm W a fa) (hr : ER X cm W es fs) (hs : starEach (a :: es) X.env = (false, eval a X.env) :: starEach es X.env := by rfl) : ER X cm W (a :: es) (rDat fa fs) := by
  obtain ⟨ta, pa, ea⟩ := ha
  obtain ⟨tr, pr, er⟩ := hr
  refine ⟨_, pa_cons pa pr hs, fun s Q z p => ?_⟩
  unfold rDat at p
  rw [Out.bind_assoc] at p
  refine ea.fz.stepR z p fun v val e1 F1 H1 x y r p1 => ?_
  cases val with
  | new o => exact p1.elim
  | bor i => exact p1.elim
  | frz d =>
    refine er.stepR (s := ⟨F1, H1, s.σ, e1⟩) y p1 fun vs ds e2 F2 H2 x2 y2 r2 p2 => ?_
    exact p2 (v :: vs) F2 H2 (Stp.refl _) y2 (.dat (Rp.mono x2.ff r) r2)
theorem er_own {x : Str} {p : Pos} (i : Nat) (hr : ER X cm W es fs) (hN : X.N[i]? = some x := by rfl) (hv : Vis X.env.scope x := by first | exact Or.inl rfl | exact Or.inr (Or.inl rfl) | exact Or.inr (Or.inr rfl))
    (hs : starEach (.Name x p :: es) X.env = (false, eval (.Name x p) X.env) :: starEach es X.env := by rfl)
    (hd : (x == ("__debug__" : Str)) = false := by decide) (hcd : (x == ("__classdict__" : Str)) = false := by decide) : ER X cm W (.Name x p :: es) (rOwn i fs) := by
  obtain ⟨tr, pr, er⟩ := hr
  refine ⟨_, pa_cons (pe_var hN hv hd hcd) pr hs, fun s Q z p => ?_⟩
  unfold rOwn at p
  split at p
  · rename_i o e
    obtain ⟨q, h1, h3⟩ := z.own i o e
    refine ⟨.ref q, h1, ?_⟩
    refine er.stepR z p fun vs ds e2 F2 H2 x2 y2 r2 p2 => ?_
    exact p2 (.ref q :: vs) F2 H2 (Stp.refl _) y2 (.own h1 r2)
  · exact p.elim
theorem ev_call {x : Str} {p : Pos} {CX : CXT} {k n : Nat} {f : Addr} {fd : FuncData} {ps : List Str} {m : Fn} {dvs : List V} {dds : List D} {ds : List Value} (F : FnG X.prog X.w X.K X.mg X.base CX k f fd ps (spB n X.K cm m)) (hm : X.mg x = some (.ref f))
    (hk : PySem.W.keepIn X.K (.ref f) = true) (hb : Binds X.K fd ps ds) (hd : Vals dvs ds) (hdd : ∀ F, RpA X.K F dvs dds) (hG : X.A.guards = some []) (hr : Room k X.A) (hx : ∀ σ, PassesAt CX X σ (WE W σ)) (hn : (a :: es).length + dds.length = n) (ha : ER X cm W (a :: es) fs)
    (hlen : ∀ e as e', fs e = .ok (as, e') → as.length = (a :: es).length)
    (hg : Gl X x := by rfl) (hdb : (x == ("__debug__" : Str)) = false := by decide)
    (he : starEach (a :: es) X.env = (false, eval a X.env) :: starEach es X.env := by rfl) (hpl : (backTo pos (starEach es X.env)).any (·.1) = false := by rfl) : EV X cm W (.Call (.Name x p) (a :: es) [] pos) (fCall m dds fs) := by
  obtain ⟨t, pa, er⟩ := ha
  refine ⟨_, pe_callG F hG hr hg hm hk hb hd hx pa hdb he hpl, fun s Q z q => ?_⟩
  refine er s _ z ?_
  revert q
  unfold fCall
  cases hfs : fs s.e with
  | exc x e1 => exact fun p => p
  | bad => exact fun p => p
  | ok w =>
    obtain ⟨as0, e1⟩ := w
    rw [Out.bind_ok]
    intro q vs F1 H1 x y r0
    have r : ArgRep X.K F1 s.σ (vs ++ dvs) (as0 ++ dds.map Arg.dat) := r0.append (.ofData (hdd F1))
    generalize has : as0 ++ dds.map Arg.dat = as at r q
    simp only at q
    split at q
    · rename_i nd
      cases hsl : slotsOf e1 as with
      | none =>
        rw [hsl] at q
        exact q.elim
      | some sl =>
        rw [hsl] at q
        simp only at q
        have y' : St X.K ⟨F1, H1, s.σ, e1⟩ := y
        refine ⟨?_, F1, sl, call_in y' r nd hsl, ?_⟩
        · rw [r.length, ← has, List.length_append, List.length_map, hlen _ _ _ hfs]
          exact hn
        · revert q
          cases hm' : m sl with
          | bad => exact fun q => q
          | exc xx sl' =>
            cases hw : wb as sl' e1 with
            | none =>
              simp only [hw]
              exact fun q => q.elim
            | some e' =>
              simp only [hw]
              intro q C oe F' H' x2 y2 xr
              obtain ⟨x3, y3⟩ := call_out y' r nd hsl hw x2 y2
              exact q C oe F' H' (x.trans x3) y3 xr
          | ok w =>
            obtain ⟨rv, sl'⟩ := w
            cases hw : wb as sl' e1 with
            | none =>
              simp only [hw]
              cases rv <;> exact fun q => q.elim
            | some e' =>
              simp only [hw]
              intro q v F' H' x2 y2 vr
              obtain ⟨x3, y3⟩ := call_out y' r nd hsl hw x2 y2
              cases rv with
              | bor i => exact q.elim
              | frz d => exact q v F' H' (x.trans x3) y3 (VRep.back (fun _ h => x.nw h) (call_val y' r nd hsl hw x2 (fun _ h => by cases h) vr))
              | new o => exact q v F' H' (x.trans x3) y3 (VRep.back (fun _ h => x.nw h) (call_val y' r nd hsl hw x2 (fun _ h => by cases h) vr))
    · exact q.elim
end
end BV
/-! statements and defs by data -/
namespace BV
open PySem PySem.Spec PyProof.Rows L2

inductive Fl where
  | nx
  | ret (v : Val)
  | brk
  | cont
/-- the first k slots, where owned, stay -/
def Par (k : Nat) (s s' : Sta) : Prop := ∀ (j : Nat) (o : O), j < k → s.e[j]? = some (Slot.own o) → s'.σ[j]? = s.σ[j]? ∧ ∃ (o' : O), s'.e[j]? = some (Slot.own o')
theorem Par.refl (k : Nat) (s : Sta) : Par k s s := fun _ o _ h => ⟨rfl, o, h⟩
theorem Par.trans {k : Nat} {s s1 s2 : Sta} (a : Par k s s1) (b : Par k s1 s2) : Par k s s2 := fun j o hj h => by
  obtain ⟨h1, o1, h2⟩ := a j o hj h
  obtain ⟨h3, o2, h4⟩ := b j o1 hj h2
  exact ⟨h3.trans h1, o2, h4⟩
/-- an expression leaves owned slots owned -/
def SPost (c : Cf) (k : Nat) (s : Sta) (D : Ends) : Out (Fl × Env) → Prop
  | .ok (.nx, e') => ∀ F' H' σ', Stp s ⟨F', H', σ', e'⟩ → Par k s ⟨F', H', σ', e'⟩ → St c.K ⟨F', H', σ', e'⟩ → D.nx σ' H'
  | .ok (.ret val, e') => ∀ v F' H' σ', Stp s ⟨F', H', σ', e'⟩ → Par k s ⟨F', H', σ', e'⟩ → St c.K ⟨F', H', σ', e'⟩ → VRep c.K s ⟨F', H', σ', e'⟩ v val → D.rt v H'
  | .ok (.brk, e') => ∀ F' H' σ', Stp s ⟨F', H', σ', e'⟩ → Par k s ⟨F', H', σ', e'⟩ → St c.K ⟨F', H', σ', e'⟩ → D.bk σ' H'
  | .ok (.cont, e') => ∀ F' H' σ', Stp s ⟨F', H', σ', e'⟩ → Par k s ⟨F', H', σ', e'⟩ → St c.K ⟨F', H', σ', e'⟩ → D.ct σ' H'
  | .exc x e' => ∀ C oe F' H' σ', Stp s ⟨F', H', σ', e'⟩ → St c.K ⟨F', H', σ', e'⟩ → XR c.K c.cm x C oe ⟨F', H', σ', e'⟩ → Par k s ⟨F', H', σ', e'⟩ → c.W C oe σ' H'
  | .bad => False
theorem SPost.later {c : Cf} {k : Nat} {s s1 : Sta} {D : Ends} (x : Stp s s1) (q : Par k s s1) : ∀ {o : Out (Fl × Env)}, SPost c k s D o → SPost c k s1 D o
  | .ok (.nx, e'), h => fun F' H' σ' y r z => h F' H' σ' (x.trans y) (q.trans r) z
  | .ok (.brk, e'), h => fun F' H' σ' y r z => h F' H' σ' (x.trans y) (q.trans r) z
  | .ok (.cont, e'), h => fun F' H' σ' y r z => h F' H' σ' (x.trans y) (q.trans r) z
  | .ok (.ret v, e'), h => fun v F' H' σ' y r z u => h v F' H' σ' (x.trans y) (q.trans r) z (VRep.back (fun _ w => x.nw w) u)
  | .exc xx e', h => fun C oe F' H' σ' y z u r => h C oe F' H' σ' (x.trans y) z u (q.trans r)
def SVt (c : Cf) (k : Nat) (t : TS) (f : Env → Out (Fl × Env)) : Prop := ∀ (s : Sta) (D : Ends), St c.K s → SPost c k s D (f s.e) → t D s.σ s.H
structure SV (X : Cx) (cm : CMap) (W : WX) (k : Nat) (st : Stmt) (f : Env → Out (Fl × Env)) : Prop where
  ex : ∃ t, PS X st t ∧ SVt (cf X cm W) k t f
structure SVs (X : Cx) (cm : CMap) (W : WX) (k : Nat) (st : List Stmt) (f : Env → Out (Fl × Env)) : Prop where
  ex : ∃ t, PSs X st t ∧ SVt (cf X cm W) k t f

/-- does an expression leave the owned slots owned? -/
def keepsB : Env → Env → Bool
  | [], [] => true
  | .own _ :: e, .own _ :: e' => keepsB e e'
  | .own _ :: _, _ :: _ => false
  | _ :: e, _ :: e' => keepsB e e'
  | _, _ => false
theorem keepsB_get : ∀ {e e' : Env} {j : Nat} {o : O}, keepsB e e' = true → e[j]? = some (Slot.own o) → ∃ (o' : O), e'[j]? = some (Slot.own o')
  | [], _, _, _, _, h => by simp at h
  | .own _ :: e, .own o' :: e', 0, _, _, h => ⟨o', rfl⟩
  | .own _ :: e, .own o' :: e', j + 1, _, k, h => by
    obtain ⟨o', q⟩ := keepsB_get (e := e) (e' := e') (j := j) (by simpa [keepsB] using k) (by simpa using h)
    exact ⟨o', by simpa using q⟩
  | .own _ :: e, .no :: e', _, _, k, _ => by simp [keepsB] at k
  | .own _ :: e, .frz _ :: e', _, _, k, _ => by simp [keepsB] at k
  | .own _ :: e, [], _, _, k, _ => by simp [keepsB] at k
  | .no :: e, [], _, _, k, _ => by simp [keepsB] at k
  | .frz _ :: e, [], _, _, k, _ => by simp [keepsB] at k
  | .fn _ :: e, [], _, _, k, _ => by simp [keepsB] at k
  | .own _ :: e, .fn _ :: e', _, _, k, _ => by simp [keepsB] at k
  | .fn _ :: e, _ :: e', 0, _, _, h => by simp at h
  | .fn _ :: e, _ :: e', j + 1, _, k, h => by
    obtain ⟨o', q⟩ := keepsB_get (e := e) (e' := e') (j := j) (by simpa [keepsB] using k) (by simpa using h)
    exact ⟨o', by simpa using q⟩
  | .no :: e, _ :: e', 0, _, _, h => by simp at h
  | .frz _ :: e, _ :: e', 0, _, _, h => by simp at h
  | .no :: e, _ :: e', j + 1, _, k, h => by
    obtain ⟨o', q⟩ := keepsB_get (e := e) (e' := e') (j := j) (by simpa [keepsB] using k) (by simpa using h)
    exact ⟨o', by simpa using q⟩
  | .frz _ :: e, _ :: e', j + 1, _, k, h => by
    obtain ⟨o', q⟩ := keepsB_get (e := e) (e' := e') (j := j) (by simpa [keepsB] using k) (by simpa using h)
    exact ⟨o', by simpa using q⟩
theorem keepsB_refl : ∀ e : Env, keepsB e e = true
  | [] => rfl
  | .own _ :: e => keepsB_refl e
  | .no :: e => keepsB_refl e
  | .frz _ :: e => keepsB_refl e
  | .fn _ :: e => keepsB_refl e
theorem Par.of {k : Nat} {F H F' H' : Hp} {σ : L2.St} {e e' : Env} (h : keepsB e e' = true) : Par k ⟨F, H, σ, e⟩ ⟨F', H', σ, e'⟩ := fun _ _ _ g => ⟨rfl, keepsB_get h g⟩

/-! ### stores -/
/-- an owned parameter is never stored over -/
def asgOk (k : Nat) (e : Env) (i : Nat) : Bool := if i < k then (match e[i]? with
  | some (.own _) => false
  | _ => true) else true
section
variable {K : PySem.W.Frag} {F H : Hp} {σ : L2.St} {e : Env} {i : Nat} {v : V}
theorem set_get {α : Type} {l : List α} {i j : Nat} {a x : α} (h : (l.set i a)[j]? = some x) : (j = i ∧ x = a) ∨ (j ≠ i ∧ l[j]? = some x) := by
  rw [List.getElem?_set] at h
  by_cases e : i = j
  · rw [if_pos e] at h
    split at h
    · cases h
      exact Or.inl ⟨e.symm, rfl⟩
    · cases h
  · rw [if_neg e] at h
    exact Or.inr ⟨Ne.symm e, h⟩
theorem Par.set {k : Nat} {x : Slot} (a : asgOk k e i = true) : Par k ⟨F, H, σ, e⟩ ⟨F, H, σ.set i (some v), e.set i x⟩ := fun j o hj h => by
  have ne : i ≠ j := by
    rintro rfl
    unfold asgOk at a
    rw [if_pos hj, h] at a
    cases a
  exact ⟨List.getElem?_set_ne ne, o, (List.getElem?_set_ne ne).trans h⟩
/-- i = data -/
theorem St.put (z : St K ⟨F, H, σ, e⟩) {d : D} (r : Rp K F v d) : St K ⟨F, H, σ.set i (some v), e.set i (.frz d)⟩ := by
  refine ⟨by simpa using z.len, z.fh, fun j d' h => ?_, fun j o h => ?_, fun j k oj ok p q h1 h2 h3 h4 ne => ?_, fun j x h => by
    rcases set_get h with ⟨_, q⟩ | ⟨ne, q⟩
    · cases q
    · obtain ⟨a, a1, a2⟩ := z.fn j x q
      exact ⟨a, a1, (List.getElem?_set_ne (Ne.symm ne)).trans a2⟩⟩
  · rcases set_get h with ⟨rfl, q⟩ | ⟨ne, q⟩
    · cases q
      have hl : j < e.length := by
        have := (List.getElem?_eq_some_iff.mp h).1
        simpa using this
      have zl : e.length = σ.length := z.len
      exact ⟨v, List.getElem?_set_self (by omega), r⟩
    · obtain ⟨w, h1, h2⟩ := z.frz j d' q
      exact ⟨w, (List.getElem?_set_ne (Ne.symm ne)).trans h1, h2⟩
  · rcases set_get h with ⟨_, q⟩ | ⟨ne, q⟩
    · cases q
    · obtain ⟨p, h1, h3⟩ := z.own j o q
      exact ⟨p, (List.getElem?_set_ne (Ne.symm ne)).trans h1, h3⟩
  · rcases set_get h1 with ⟨_, q⟩ | ⟨n1, q1⟩
    · cases q
    · rcases set_get h2 with ⟨_, q⟩ | ⟨n2, q2⟩
      · cases q
      · exact z.apart j k oj ok p q q1 q2 ((List.getElem?_set_ne (Ne.symm n1)).symm.trans h3) ((List.getElem?_set_ne (Ne.symm n2)).symm.trans h4) ne
theorem OwnA.unput {d : D} {a : Addr} (h : OwnA ⟨F, H, σ.set i (some v), e.set i (.frz d)⟩ a) : OwnA ⟨F, H, σ, e⟩ a := by
  obtain ⟨j, o, p, h1, h2, h3⟩ := h
  rcases set_get h1 with ⟨_, q⟩ | ⟨ne, q⟩
  · cases q
  · exact ⟨j, o, p, q, (List.getElem?_set_ne (Ne.symm ne)).symm.trans h2, h3⟩
theorem Stp.put {s : Sta} (x : Stp s ⟨F, H, σ, e⟩) {d : D} : Stp s ⟨F, H, σ.set i (some v), e.set i (.frz d)⟩ :=
  ⟨x.ff, x.fnew, x.keep, fun a h => x.own a (OwnA.unput h), x.dom⟩
/-- i = a new object -/
theorem St.putNew (z : St K ⟨F, H, σ, e⟩) {p : Addr} {o : O} (os : OwnS K F H p o) (n : ∀ a ∈ fp H o (.ref p), ¬ OwnA ⟨F, H, σ, e⟩ a) : St K ⟨F, H, σ.set i (some (.ref p)), e.set i (.own o)⟩ := by
  have zl : e.length = σ.length := z.len
  have self : ∀ {j : Nat} {x : Slot}, (e.set i (Slot.own o))[j]? = some x → j = i → (σ.set i (some (V.ref p)))[j]? = some (some (V.ref p)) := fun h w => by
    subst w
    have := (List.getElem?_eq_some_iff.mp h).1
    exact List.getElem?_set_self (by simp at this; omega)
  refine ⟨by simpa using z.len, z.fh, fun j d' h => ?_, fun j o' h => ?_, fun j k oj ok p1 p2 h1 h2 h3 h4 ne => ?_, fun j x h => by
    rcases set_get h with ⟨_, q⟩ | ⟨ne, q⟩
    · cases q
    · obtain ⟨a, a1, a2⟩ := z.fn j x q
      exact ⟨a, a1, (List.getElem?_set_ne (Ne.symm ne)).trans a2⟩⟩
  · rcases set_get h with ⟨rfl, q⟩ | ⟨ne, q⟩
    · cases q
    · obtain ⟨w, h1, h2⟩ := z.frz j d' q
      exact ⟨w, (List.getElem?_set_ne (Ne.symm ne)).trans h1, h2⟩
  · rcases set_get h with ⟨rfl, q⟩ | ⟨ne, q⟩
    · cases q
      exact ⟨p, self h rfl, os⟩
    · obtain ⟨p, h1, h3⟩ := z.own j o' q
      exact ⟨p, (List.getElem?_set_ne (Ne.symm ne)).trans h1, h3⟩
  · have h3 : (σ.set i (some (V.ref p)))[j]? = some (some (V.ref p1)) := h3
    have h4 : (σ.set i (some (V.ref p)))[k]? = some (some (V.ref p2)) := h4
    intro a ha hb
    rcases set_get h1 with ⟨e1, q1⟩ | ⟨n1, q1⟩
    · rcases set_get h2 with ⟨e2, q2⟩ | ⟨n2, q2⟩
      · exact ne (e1.trans e2.symm)
      · cases q1
        rw [self h1 e1] at h3
        cases h3
        exact n a ha ⟨k, ok, p2, q2, (List.getElem?_set_ne (Ne.symm n2)).symm.trans h4, hb⟩
    · rcases set_get h2 with ⟨e2, q2⟩ | ⟨n2, q2⟩
      · cases q2
        rw [self h2 e2] at h4
        cases h4
        exact n a hb ⟨j, oj, p1, q1, (List.getElem?_set_ne (Ne.symm n1)).symm.trans h3, ha⟩
      · exact z.apart j k oj ok p1 p2 q1 q2 ((List.getElem?_set_ne (Ne.symm n1)).symm.trans h3) ((List.getElem?_set_ne (Ne.symm n2)).symm.trans h4) ne a ha hb
theorem Stp.putNew {s : Sta} (x : Stp s ⟨F, H, σ, e⟩) (zl : e.length = σ.length) {p : Addr} {o : O} (hp : ∀ a ∈ fp H o (.ref p), Nw s a) : Stp s ⟨F, H, σ.set i (some (.ref p)), e.set i (.own o)⟩ := by
  refine ⟨x.ff, x.fnew, x.keep, fun a h => ?_, x.dom⟩
  obtain ⟨j, o', p', h1, h2, h3⟩ := h
  rcases set_get h1 with ⟨rfl, q⟩ | ⟨ne, q⟩
  · have hl : j < e.length := by
      have := (List.getElem?_eq_some_iff.mp h1).1
      simpa using this
    have h2 : (σ.set j (some (.ref p)))[j]? = some (some (V.ref p')) := h2
    rw [List.getElem?_set_self (by omega)] at h2
    cases h2
    cases q
    exact (hp a h3).symm
  · exact x.own a ⟨j, o', p', q, (List.getElem?_set_ne (Ne.symm ne)).symm.trans h2, h3⟩
/-- an owned slot's object is frozen where it stands -/
theorem St.moves (z : St K ⟨F, H, σ, e⟩) {j : Nat} {o : O} {d : D} (g : e[j]? = some (Slot.own o)) (hd : o.dq = some d) : ∃ p, σ[j]? = some (some (V.ref p)) ∧ (∀ a ∈ fp H o (.ref p), F a = none) ∧ St K ⟨frzF F H (fp H o (.ref p)), H, σ, e.set j (.frz d)⟩ ∧ Rp K (frzF F H (fp H o (.ref p))) (.ref p) d := by
  obtain ⟨p, h1, os⟩ := z.own j o g
  have ru := Rp.ofOwnO o os.own os.nf hd
  have ff : Ex F (frzF F H (fp H o (.ref p))) := Ex.frzF os.nf
  refine ⟨p, h1, os.nf, ⟨by simpa using z.len, frzF_ex z.fh, fun k d' q => ?_, fun k o' q => ?_, fun k l ok ol p1 p2 q1 q2 q3 q4 ne => ?_, fun k x q => by
    rcases set_get q with ⟨_, q'⟩ | ⟨ne, q'⟩
    · cases q'
    · exact (z.fn k x q').mono ff⟩, ru⟩
  · rcases set_get q with ⟨rfl, q'⟩ | ⟨ne, q'⟩
    · cases q'
      exact ⟨.ref p, h1, ru⟩
    · obtain ⟨w, w1, w2⟩ := z.frz k d' q'
      exact ⟨w, w1, w2.mono ff⟩
  · rcases set_get q with ⟨_, q'⟩ | ⟨ne, q'⟩
    · cases q'
    · obtain ⟨p', k1, k3⟩ := z.own k o' q'
      refine ⟨p', k1, k3.later ff (fun _ _ => rfl) fun a ha => ?_⟩
      show frzF F H (fp H o (.ref p)) a = none
      rw [frzF_out fun w => z.apart k j o' o p' p q' g k1 h1 ne a ha w]
      exact k3.nf a ha
  · rcases set_get q1 with ⟨_, q⟩ | ⟨n1, q1⟩
    · cases q
    · rcases set_get q2 with ⟨_, q⟩ | ⟨n2, q2⟩
      · cases q
      · exact z.apart k l ok ol p1 p2 q1 q2 q3 q4 ne
theorem Stp.moves {s : Sta} (x : Stp s ⟨F, H, σ, e⟩) {j : Nat} {o : O} {p : Addr} {d : D} (g : e[j]? = some (Slot.own o)) (g2 : σ[j]? = some (some (V.ref p))) (f : ∀ a ∈ fp H o (.ref p), F a = none) : Stp s ⟨frzF F H (fp H o (.ref p)), H, σ, e.set j (.frz d)⟩ := by
  refine ⟨x.ff.trans (Ex.frzF f), fun a w q => ?_, x.keep, fun a h => ?_, x.dom⟩
  · by_cases ha : a ∈ fp H o (.ref p)
    · rcases x.own a ⟨j, o, p, g, g2, ha⟩ with h | h
      · exact Or.inr (Or.inr h)
      · exact Or.inr (Or.inl h)
    · have q : frzF F H (fp H o (.ref p)) a = some w := q
      rw [frzF_out ha] at q
      exact x.fnew a w q
  · obtain ⟨k, o', p', h1, h2, h3⟩ := h
    rcases set_get h1 with ⟨_, q⟩ | ⟨ne, q⟩
    · cases q
    · exact x.own a ⟨k, o', p', q, h2, h3⟩
theorem Par.move {k j : Nat} {F' H' : Hp} {d : D} (h : ¬ j < k) : Par k ⟨F, H, σ, e⟩ ⟨F', H', σ, e.set j (.frz d)⟩ := fun l o hl g =>
  ⟨rfl, o, (List.getElem?_set_ne (by rintro rfl; exact h hl)).trans g⟩
/-- an owned slot is given up: what stood there is new to all -/
theorem St.drop (z : St K ⟨F, H, σ, e⟩) {j : Nat} : St K ⟨F, H, σ, e.set j .no⟩ := by
  refine ⟨by simpa using z.len, z.fh, fun k d q => ?_, fun k o' q => ?_, fun k l ok ol p1 p2 q1 q2 q3 q4 ne => ?_, fun k x q => by
    rcases set_get q with ⟨_, q'⟩ | ⟨ne, q'⟩
    · cases q'
    · exact z.fn k x q'⟩
  · rcases set_get q with ⟨_, q'⟩ | ⟨ne, q'⟩
    · cases q'
    · exact z.frz k d q'
  · rcases set_get q with ⟨_, q'⟩ | ⟨ne, q'⟩
    · cases q'
    · exact z.own k o' q'
  · rcases set_get q1 with ⟨_, q⟩ | ⟨n1, q1⟩
    · cases q
    · rcases set_get q2 with ⟨_, q⟩ | ⟨n2, q2⟩
      · cases q
      · exact z.apart k l ok ol p1 p2 q1 q2 q3 q4 ne
theorem OwnA.undrop {j : Nat} {a : Addr} (h : OwnA ⟨F, H, σ, e.set j .no⟩ a) : OwnA ⟨F, H, σ, e⟩ a := by
  obtain ⟨k, o, p, h1, h2, h3⟩ := h
  rcases set_get h1 with ⟨_, q⟩ | ⟨ne, q⟩
  · cases q
  · exact ⟨k, o, p, q, h2, h3⟩
theorem Stp.drop {s : Sta} (x : Stp s ⟨F, H, σ, e⟩) {j : Nat} : Stp s ⟨F, H, σ, e.set j .no⟩ := ⟨x.ff, x.fnew, x.keep, fun a h => x.own a h.undrop, x.dom⟩
theorem Par.drop {k j : Nat} (h : ¬ j < k) : Par k ⟨F, H, σ, e⟩ ⟨F, H, σ, e.set j .no⟩ := fun l o hl g =>
  ⟨rfl, o, (List.getElem?_set_ne (by rintro rfl; exact h hl)).trans g⟩
end

/-! ### statements -/
def sNil : Env → Out (Fl × Env) := fun e => .ok (.nx, e)
def sSeq (f g : Env → Out (Fl × Env)) : Env → Out (Fl × Env) := fun e => (f e).bind fun a => match a.1 with
  | .nx => g a.2
  | fl => .ok (fl, a.2)
/-- an expression within a statement: the owned stay owned -/
def sE {α β : Type} (e : Env) (x : Out (α × Env)) (g : α → Env → Out β) : Out β := match x with
  | .ok (a, e1) => if keepsB e e1 = true then g a e1 else .bad
  | .exc xx e1 => if keepsB e e1 = true then .exc xx e1 else .bad
  | .bad => .bad
def sDrop (f : Env → Out (Val × Env)) : Env → Out (Fl × Env) := fun e => sE e (f e) fun _ e1 => .ok (.nx, e1)
/-- return: an owned local goes out as a new object -/
def sRet (k : Nat) (f : Env → Out (Val × Env)) : Env → Out (Fl × Env) := fun e => sE e (f e) fun v e1 => match v with
  | .bor i => if i < k then .bad else match e1[i]? with
    | some (.own o) => match o.dq with
      | some d => .ok (.ret (.frz d), e1.set i (.frz d))
      | none => .bad
    | _ => .bad
  | v => .ok (.ret v, e1)
def sRetN : Env → Out (Fl × Env) := fun e => .ok (.ret (.frz .none), e)
def sIf (c : Env → Out (Bool × Env)) (f g : Env → Out (Fl × Env)) : Env → Out (Fl × Env) := fun e => sE e (c e) fun b e1 => if b = true then f e1 else g e1
def sSet (k i : Nat) (f : Env → Out (Val × Env)) : Env → Out (Fl × Env) := fun e => sE e (f e) fun v e1 => if asgOk k e1 i = true then match v with
  | .frz d => .ok (.nx, e1.set i (.frz d))
  | .new o => .ok (.nx, e1.set i (.own o))
  | .bor j => if j < k then .bad else match e1[j]? with
    | some (.own o) => match o.dq with
      | some d => .ok (.nx, (e1.set j (.frz d)).set i (.frz d))
      | none => .bad
    | _ => .bad
  else .bad
/-- the same, a new object as data from the start -/
def sSetF (k i : Nat) (f : Env → Out (Val × Env)) : Env → Out (Fl × Env) := sSet k i (fz f)

/-- an expression in a statement -/
theorem EVt.stepS {c : Cf} {k : Nat} {t : TE} {f : Env → Out (Val × Env)} {g : Val → Env → Out (Fl × Env)} {s : Sta} {D : Ends} {R : V → Hp → Prop} (h : EVt c t f) (z : St c.K s) (p : SPost c k s D (sE s.e (f s.e) g))
    (hk : ∀ v val e1 F1 H1, f s.e = .ok (val, e1) → Stp s ⟨F1, H1, s.σ, e1⟩ → Par k s ⟨F1, H1, s.σ, e1⟩ → St c.K ⟨F1, H1, s.σ, e1⟩ → VRep c.K s ⟨F1, H1, s.σ, e1⟩ v val → SPost c k s D (g val e1) → R v H1) : t s.σ s.H R := by
  refine h s R z ?_
  revert p
  unfold sE
  cases q : f s.e with
  | bad => exact fun p => p
  | exc xx e1 =>
    simp only
    split
    · rename_i kb
      intro p C oe F' H' x y xr
      exact p C oe F' H' s.σ x y xr (Par.of kb)
    · exact fun p => p.elim
  | ok a =>
    obtain ⟨val, e1⟩ := a
    simp only
    split
    · rename_i kb
      intro p v F1 H1 x y r
      exact hk v val e1 F1 H1 q x (Par.of kb) y r p
    · exact fun p => p.elim
theorem ETt.stepS {c : Cf} {k : Nat} {t : TT} {f : Env → Out (Bool × Env)} {g : Bool → Env → Out (Fl × Env)} {s : Sta} {D : Ends} {R : Bool → Hp → Prop} (h : ETt c t f) (z : St c.K s) (p : SPost c k s D (sE s.e (f s.e) g))
    (hk : ∀ b e1 F1 H1, Stp s ⟨F1, H1, s.σ, e1⟩ → Par k s ⟨F1, H1, s.σ, e1⟩ → St c.K ⟨F1, H1, s.σ, e1⟩ → SPost c k s D (g b e1) → R b H1) : t s.σ s.H R := by
  refine h s R z ?_
  revert p
  unfold sE
  cases q : f s.e with
  | bad => exact fun p => p
  | exc xx e1 =>
    simp only
    split
    · rename_i kb
      intro p C oe F' H' x y xr
      exact p C oe F' H' s.σ x y xr (Par.of kb)
    · exact fun p => p.elim
  | ok a =>
    obtain ⟨val, e1⟩ := a
    simp only
    split
    · rename_i kb
      intro p F1 H1 x y
      exact hk val e1 F1 H1 x (Par.of kb) y p
    · exact fun p => p.elim
theorem SVt.step {c : Cf} {k : Nat} {t : TS} {f : Env → Out (Fl × Env)} {g : Env → Out (Fl × Env)} {u : TS} (h : SVt c k t f) (h2 : SVt c k u g) : SVt c k (tSeq t u) (sSeq f g) := fun s D z p => by
  refine h s { D with nx := u D } z ?_
  revert p
  unfold sSeq
  cases q : f s.e with
  | bad => exact fun p => p
  | exc xx e1 => exact fun p => p
  | ok a =>
    obtain ⟨fl, e1⟩ := a
    rw [Out.bind_ok]
    cases fl with
    | nx => exact fun p F' H' σ' x y r => h2 ⟨F', H', σ', e1⟩ D r (p.later x y)
    | ret v => exact fun p => p
    | brk => exact fun p => p
    | cont => exact fun p => p
section
variable {X : Cx} {cm : CMap} {W : WX} {k : Nat} {pos : Pos} {a : Expr} {st : Stmt} {rest : List Stmt} {fa : Env → Out (Val × Env)} {f g : Env → Out (Fl × Env)} {ga : Env → Out (Bool × Env)}
theorem svs_nil : SVs X cm W k [] sNil := ⟨_, pss_nil, fun s D z p => p s.F s.H s.σ (Stp.refl s) (Par.refl k s) z⟩
theorem svs_cons (h : SV X cm W k st f) (h2 : SVs X cm W k rest g) : SVs X cm W k (st :: rest) (sSeq f g) := by
  obtain ⟨t, p, q⟩ := h
  obtain ⟨u, p2, q2⟩ := h2
  exact ⟨_, pss_cons p p2, q.step q2⟩
theorem svs_one (h : SV X cm W k st f) : SVs X cm W k [st] f := by
  obtain ⟨t, p, q⟩ := h
  exact ⟨_, pss_one p, q⟩
theorem sv_pass : SV X cm W k (.Pass pos) sNil := ⟨_, ps_pass, fun s D z p => p s.F s.H s.σ (Stp.refl s) (Par.refl k s) z⟩
theorem sv_expr (h : EV X cm W a fa) (hs : swapsWith a none pos.line X.env = pure false := by rfl) : SV X cm W k (.Expr a pos) (sDrop fa) := by
  obtain ⟨t, p, ev⟩ := h
  refine ⟨_, ps_expr p hs, fun s D z q => ?_⟩
  refine ev.stepS z q fun v val e1 F1 H1 _ x y r _ p1 => ?_
  exact p1 F1 H1 s.σ x y r
theorem sv_ret (h : EV X cm W a fa) : SV X cm W k (.Return (some a) pos) (sRet k fa) := by
  obtain ⟨t, p, ev⟩ := h
  refine ⟨_, ps_ret p, fun s D z q => ?_⟩
  refine ev.stepS z q fun v val e1 F1 H1 _ x y r vr p1 => ?_
  cases val with
  | frz d => exact p1 v F1 H1 s.σ x y r vr
  | new o => exact p1 v F1 H1 s.σ x y r vr
  | bor i =>
    simp only at p1
    split at p1
    · exact p1.elim
    · rename_i hi
      split at p1
      · rename_i o g
        cases hd : o.dq with
        | none =>
          rw [hd] at p1
          exact p1.elim
        | some d =>
          rw [hd] at p1
          obtain ⟨pp, h1, hf, y', ru⟩ := St.moves r g hd
          obtain ⟨w1, _⟩ := vr
          have w1 : s.σ[i]? = some (some v) := w1
          rw [h1] at w1
          cases w1
          exact p1 (.ref pp) _ H1 s.σ (Stp.moves x g h1 hf) (y.trans (Par.move hi)) y' ru
      · exact p1.elim
theorem sv_retN : SV X cm W k (.Return none pos) sRetN := ⟨_, ps_retN, fun s D z p => p .non s.F s.H s.σ (Stp.refl s) (Par.refl k s) z .non⟩
theorem sv_if {as bs : List Stmt} (hc : ET X cm W a ga) (ha : SVs X cm W k as f) (hb : SVs X cm W k bs g) : SV X cm W k (.If a as bs pos) (sIf ga f g) := by
  obtain ⟨tc, pc, ec⟩ := hc
  obtain ⟨ta, pa, ea⟩ := ha
  obtain ⟨tb, pb, eb⟩ := hb
  refine ⟨_, ps_if pc pa pb, fun s D z p => ?_⟩
  refine ec.stepS z p fun b e1 F1 H1 x y r p1 => ?_
  cases b with
  | true => exact ea ⟨F1, H1, s.σ, e1⟩ D r (p1.later x y)
  | false => exact eb ⟨F1, H1, s.σ, e1⟩ D r (p1.later x y)
theorem SVt.set {c : Cf} {t : TE} {i : Nat} (ev : EVt c t fa) : SVt c k (tAsg t (gName i)) (sSet k i fa) := fun s D z q => by
  refine ev.stepS z q fun v val e1 F1 H1 _ x y r vr p1 => ?_
  split at p1
  · rename_i ok
    cases val with
    | frz d => exact p1 F1 H1 (s.σ.set i (some v)) x.put (y.trans (Par.set ok)) (r.put vr)
    | new o =>
      obtain ⟨p, rfl, os, no⟩ := vr
      exact p1 F1 H1 (s.σ.set i (some (.ref p))) (x.putNew r.len fun a ha => (no a ha).1) (y.trans (Par.set ok)) (r.putNew os fun a ha => (no a ha).2)
    | bor j =>
      simp only at p1
      split at p1
      · exact p1.elim
      · rename_i hj
        split at p1
        · rename_i o g
          cases hd : o.dq with
          | none =>
            rw [hd] at p1
            exact p1.elim
          | some d =>
          rw [hd] at p1
          obtain ⟨pp, h1, hf, y', ru⟩ := St.moves r g hd
          obtain ⟨w1, _⟩ := vr
          have w1 : s.σ[j]? = some (some v) := w1
          rw [h1] at w1
          cases w1
          have ok2 : asgOk k (e1.set j (.frz d)) i = true := by
            unfold asgOk
            split
            · rename_i hi
              rw [List.getElem?_set_ne (by rintro rfl; exact hj hi)]
              unfold asgOk at ok
              rw [if_pos hi] at ok
              exact ok
            · rfl
          exact p1 _ H1 (s.σ.set i (some (.ref pp))) (Stp.put (Stp.moves x g h1 hf)) ((y.trans (Par.move hj)).trans (Par.set ok2)) (y'.put ru)
        · exact p1.elim
  · exact p1.elim
theorem sv_set {x : Str} {p : Pos} (i : Nat) (hN : X.N.Nodup) (h : EV X cm W a fa) (hi : X.N[i]? = some x := by rfl) (hx : Loc X.env.scope x := by first | exact Or.inl rfl | exact Or.inr rfl) (hs : swapsWith a (some (.Name x p)) pos.line X.env = pure false := by rfl)
    (hf : X.fn x = true ∨ X.env.scope.names.lookup x = some .local := by first | exact .inl rfl | exact .inr rfl | assumption) : SV X cm W k (.Assign [.Name x p] a pos) (sSet k i fa) := by
  obtain ⟨t, pa, ev⟩ := h
  exact ⟨_, ps_set hN hi hx pa hs hf, SVt.set ev⟩
theorem sv_setF {x : Str} {p : Pos} (i : Nat) (hN : X.N.Nodup) (h : EV X cm W a fa) (hi : X.N[i]? = some x := by rfl) (hx : Loc X.env.scope x := by first | exact Or.inl rfl | exact Or.inr rfl) (hs : swapsWith a (some (.Name x p)) pos.line X.env = pure false := by rfl)
    (hf : X.fn x = true ∨ X.env.scope.names.lookup x = some .local := by first | exact .inl rfl | exact .inr rfl | assumption) : SV X cm W k (.Assign [.Name x p] a pos) (sSetF k i fa) := by
  obtain ⟨t, pa, ev⟩ := h
  exact ⟨_, ps_set hN hi hx pa hs hf, SVt.set ev.fz⟩
end

/-! ### defs -/
def back : List Slot → Env → Option (List Slot)
  | [], _ => some []
  | .own _ :: sl, .own o :: e => (back sl e).map (.own o :: ·)
  | .frz d :: sl, _ :: e => (back sl e).map (.frz d :: ·)
  | _, _ => none
def runF (n N : Nat) (f : Env → Out (Fl × Env)) : Fn := fun sl => match f (sl ++ List.replicate (N - n) .no) with
  | .ok (.ret v, e) => match v, back sl e with
    | .bor _, _ => .bad
    | v, some sl' => .ok (v, sl')
    | _, none => .bad
  | .ok (.nx, e) => match back sl e with
    | some sl' => .ok (.frz .none, sl')
    | none => .bad
  | .exc x e => match back sl e with
    | some sl' => .exc x sl'
    | none => .bad
  | _ => .bad
theorem back_len : ∀ {sl : List Slot} {e : Env} {sl' : List Slot}, back sl e = some sl' → sl'.length = sl.length
  | [], _, _, h => by
    cases h
    rfl
  | .no :: sl, _, _, h => by cases h
  | .own _ :: sl, [], _, h => by cases h
  | .own _ :: sl, .no :: e, _, h => by cases h
  | .own _ :: sl, .frz _ :: e, _, h => by cases h
  | .frz _ :: sl, [], _, h => by cases h
  | .own _ :: sl, .own o :: e, sl', h => by
    simp only [back] at h
    cases q : back sl e with
    | none =>
      rw [q] at h
      cases h
    | some l =>
      rw [q] at h
      cases h
      simp [back_len q]
  | .frz _ :: sl, _ :: e, sl', h => by
    simp only [back] at h
    cases q : back sl e with
    | none =>
      rw [q] at h
      cases h
    | some l =>
      rw [q] at h
      cases h
      simp [back_len q]
theorem back_get : ∀ {sl : List Slot} {e : Env} {sl' : List Slot} {j : Nat} {x : Slot}, back sl e = some sl' → sl'[j]? = some x →
    (∃ (d : D), sl[j]? = some (Slot.frz d) ∧ x = .frz d) ∨ ∃ (o o' : O), sl[j]? = some (Slot.own o) ∧ e[j]? = some (Slot.own o') ∧ x = .own o'
  | [], _, _, _, _, h, g => by
    cases h
    simp at g
  | .no :: sl, _, _, _, _, h, _ => by cases h
  | .own _ :: sl, [], _, _, _, h, _ => by cases h
  | .own _ :: sl, .no :: e, _, _, _, h, _ => by cases h
  | .own _ :: sl, .frz _ :: e, _, _, _, h, _ => by cases h
  | .frz _ :: sl, [], _, _, _, h, _ => by cases h
  | .own o0 :: sl, .own o :: e, sl', j, x, h, g => by
    simp only [back] at h
    cases q : back sl e with
    | none =>
      rw [q] at h
      cases h
    | some l =>
      rw [q] at h
      cases h
      cases j with
      | zero =>
        simp at g
        exact Or.inr ⟨o0, o, rfl, rfl, g.symm⟩
      | succ j => simpa using back_get (j := j) q (by simpa using g)
  | .frz d :: sl, y :: e, sl', j, x, h, g => by
    simp only [back] at h
    cases q : back sl e with
    | none =>
      rw [q] at h
      cases h
    | some l =>
      rw [q] at h
      cases h
      cases j with
      | zero =>
        simp at g
        exact Or.inl ⟨d, rfl, g.symm⟩
      | succ j => simpa using back_get (j := j) q (by simpa using g)
section
variable {K : PySem.W.Frag} {F H : Hp} {vs : List V} {sl : List Slot} {m : Nat}
theorem start_get {N : Nat} {j : Nat} {x : Slot} (h : (sl ++ List.replicate N Slot.no)[j]? = some x) (n : x ≠ .no) : sl[j]? = some x := by
  by_cases hj : j < sl.length
  · rwa [List.getElem?_append_left hj] at h
  · rw [List.getElem?_append_right (by omega), List.getElem?_replicate] at h
    split at h
    · cases h
      exact absurd rfl n
    · cases h
theorem startσ {N : Nat} {j : Nat} (h : j < vs.length) : (vs.map some ++ List.replicate N (none : Option V))[j]? = (vs.map some)[j]? := List.getElem?_append_left (by simpa using h)
theorem St.begin (z : St K ⟨F, H, vs.map some, sl⟩) : St K ⟨F, H, vs.map some ++ List.replicate m none, sl ++ List.replicate m .no⟩ := by
  have zl : sl.length = (vs.map some).length := z.len
  rw [List.length_map] at zl
  have lt : ∀ {j : Nat} {x : Slot}, sl[j]? = some x → j < vs.length := fun h => by
    have := (List.getElem?_eq_some_iff.mp h).1
    omega
  refine ⟨by simp [zl], z.fh, fun j d h => ?_, fun j o h => ?_, fun i j oi oj p q h1 h2 h3 h4 ne => ?_, fun j x h => by
    have h' := start_get h (fun q => by cases q)
    obtain ⟨a, a1, a2⟩ := z.fn j x h'
    exact ⟨a, a1, (startσ (lt h')).trans a2⟩⟩
  · have h' := start_get h (fun q => by cases q)
    obtain ⟨v, v1, v2⟩ := z.frz j d h'
    exact ⟨v, (startσ (lt h')).trans v1, v2⟩
  · have h' := start_get h (fun q => by cases q)
    obtain ⟨p, p1, p3⟩ := z.own j o h'
    exact ⟨p, (startσ (lt h')).trans p1, p3⟩
  · have g1 := start_get h1 (fun q => by cases q)
    have g2 := start_get h2 (fun q => by cases q)
    exact z.apart i j oi oj p q g1 g2 ((startσ (lt g1)).symm.trans h3) ((startσ (lt g2)).symm.trans h4) ne
theorem OwnA.begin {N : Nat} (zl : sl.length = vs.length) {a : Addr} (h : OwnA ⟨F, H, vs.map some ++ List.replicate N none, sl ++ List.replicate N .no⟩ a) : OwnA ⟨F, H, vs.map some, sl⟩ a := by
  obtain ⟨j, o, p, h1, h2, h3⟩ := h
  have g := start_get h1 (fun q => by cases q)
  have hl := (List.getElem?_eq_some_iff.mp g).1
  exact ⟨j, o, p, g, (startσ (by omega)).symm.trans h2, h3⟩
variable {F' H' : Hp} {σ' : L2.St} {e' : Env} {sl' : List Slot}
theorem end_slot {n : Nat} (zl : sl.length = vs.length) (hn : vs.length = n) (q : Par n ⟨F, H, vs.map some ++ List.replicate m none, sl ++ List.replicate m .no⟩ ⟨F', H', σ', e'⟩) {j : Nat} {o : O} (g : sl[j]? = some (Slot.own o)) : σ'[j]? = (vs.map some)[j]? := by
  have hl := (List.getElem?_eq_some_iff.mp g).1
  have g' : (sl ++ List.replicate m Slot.no)[j]? = some (Slot.own o) := (List.getElem?_append_left hl).trans g
  exact (q j o (by omega) g').1.trans (startσ (by omega))
theorem St.ended {n : Nat} (hn : vs.length = n) (z : St K ⟨F, H, vs.map some, sl⟩) (x : Stp ⟨F, H, vs.map some ++ List.replicate m none, sl ++ List.replicate m .no⟩ ⟨F', H', σ', e'⟩)
    (q : Par n ⟨F, H, vs.map some ++ List.replicate m none, sl ++ List.replicate m .no⟩ ⟨F', H', σ', e'⟩) (y : St K ⟨F', H', σ', e'⟩) (b : back sl e' = some sl') :
    Stp ⟨F, H, vs.map some, sl⟩ ⟨F', H', vs.map some, sl'⟩ ∧ St K ⟨F', H', vs.map some, sl'⟩ := by
  have zl : sl.length = vs.length := by
    have := z.len
    simpa using this
  have bo : ∀ {a : Addr}, OwnA ⟨F, H, vs.map some, sl⟩ a ↔ OwnA ⟨F, H, vs.map some ++ List.replicate m none, sl ++ List.replicate m .no⟩ a := fun {a} => by
    refine ⟨fun h => ?_, OwnA.begin zl⟩
    obtain ⟨j, o, p, h1, h2, h3⟩ := h
    have hl : j < sl.length := (List.getElem?_eq_some_iff.mp h1).1
    exact ⟨j, o, p, (List.getElem?_append_left hl).trans h1, (startσ (by omega)).trans h2, h3⟩
  refine ⟨⟨x.ff, fun a o h => ?_, fun a o h n' => x.keep a o h fun w => n' (bo.mpr w), fun a h => ?_, x.dom⟩, ⟨?_, y.fh, fun j d h => ?_, fun j o h => ?_, fun i j oi oj p1 p2 h1 h2 h3 h4 ne => ?_, fun j x h => by
    rcases back_get b h with ⟨d', _, g2⟩ | ⟨o0, o1, _, _, g3⟩
    · cases g2
    · cases g3⟩⟩
  · rcases x.fnew a o h with h | h | h
    · exact Or.inl h
    · exact Or.inr (Or.inl h)
    · exact Or.inr (Or.inr (bo.mpr h))
  · obtain ⟨j, o, p, h1, h2, h3⟩ := h
    rcases back_get b h1 with ⟨d, _, g⟩ | ⟨o0, o1, g1, g2, g3⟩
    · cases g
    · cases g3
      rcases x.own a ⟨j, o, p, g2, (end_slot zl hn q g1).trans h2, h3⟩ with w | w
      · exact Or.inl (bo.mpr w)
      · exact Or.inr w
  · show sl'.length = (vs.map some).length
    rw [back_len b, List.length_map]
    exact zl
  · rcases back_get b h with ⟨d', g1, g2⟩ | ⟨o0, o1, _, _, g3⟩
    · cases g2
      obtain ⟨v, v1, v2⟩ := z.frz j d g1
      exact ⟨v, v1, v2.mono x.ff⟩
    · cases g3
  · rcases back_get b h with ⟨d', _, g2⟩ | ⟨o0, o1, g1, g2, g3⟩
    · cases g2
    · cases g3
      obtain ⟨p, p1, p3⟩ := y.own j o g2
      exact ⟨p, (end_slot zl hn q g1).symm.trans p1, p3⟩
  · rcases back_get b h1 with ⟨d', _, g2⟩ | ⟨o0, o1, g1, g2, g3⟩
    · cases g2
    · rcases back_get b h2 with ⟨d', _, k2⟩ | ⟨u0, u1, k1, k2, k3⟩
      · cases k2
      · cases g3
        cases k3
        exact y.apart i j oi oj p1 p2 g2 k2 ((end_slot zl hn q g1).trans h3) ((end_slot zl hn q k1).trans h4) ne
theorem VRep.ended {n : Nat} (hn : vs.length = n) (z : St K ⟨F, H, vs.map some, sl⟩) (q : Par n ⟨F, H, vs.map some ++ List.replicate m none, sl ++ List.replicate m .no⟩ ⟨F', H', σ', e'⟩) (b : BV.back sl e' = some sl') {v : V} {val : Val} (nb : ∀ i, val ≠ .bor i)
    (r : VRep K ⟨F, H, vs.map some ++ List.replicate m none, sl ++ List.replicate m .no⟩ ⟨F', H', σ', e'⟩ v val) : VRep K ⟨F, H, vs.map some, sl⟩ ⟨F', H', vs.map some, sl'⟩ v val := by
  have zl : sl.length = vs.length := by
    have := z.len
    simpa using this
  cases val with
  | frz d => exact r
  | bor i => exact absurd rfl (nb i)
  | new o =>
    obtain ⟨p, rfl, os, no⟩ := r
    refine ⟨p, rfl, os, fun a ha => ⟨(no a ha).1.imp id (OwnA.begin zl), fun w => ?_⟩⟩
    obtain ⟨j, oo, p', h1, h2, h3⟩ := w
    rcases back_get b h1 with ⟨d, _, g⟩ | ⟨o0, o1, g1, g2, g3⟩
    · cases g
    · cases g3
      exact (no a ha).2 ⟨j, oo, p', g2, (end_slot zl hn q g1).trans h2, h3⟩
end
/-- a def, by its body -/
theorem fn_data {P : Program} {w : World} {K : PySem.W.Frag} {mg : Str → Option Value} {base : Heap} {k : Nat} {x qual : Str} {st : Stmt} {f : Addr} {fd : FuncData} {N ps : List Str} {cm : CMap} {fs : Env → Out (Fl × Env)}
    (Dd : L2.Fun K x qual st f fd) (S : FnScope N ps (defScope st)) (hle : ps.length ≤ N.length)
    (hb : ∀ (cdv : Value) (A : Around) (outer : List PySem.Env) (s : Shared) (H : Hp) (E : XK), A.guards = some [] → Room k (A.deeper (envOfC qual (defScope st) s.heap.objs.size f cdv)) →
      SVs (cxOf (CX P w) P w K mg base N qual (defScope st) f cdv A outer s H E) cm (fun C oe _ H' => E C oe H') ps.length (defBody st) fs) :
    FnG P w K mg base (CX P w) (k + 1) f fd ps (spB ps.length K cm (runF ps.length N.length fs)) := by
  refine body_of Dd S (fun vs H Q E h => h.1) fun cdv A outer s H vs Q E hg hr h => ?_
  obtain ⟨hn, F, sl, z, p⟩ := h
  obtain ⟨t, pt, sv⟩ := hb cdv A outer s H E hg hr
  refine ⟨t, pt, ?_⟩
  have e : L2.start N vs = vs.map some ++ List.replicate (N.length - ps.length) none := by
    unfold L2.start
    rw [hn]
  rw [e]
  refine sv ⟨F, H, _, sl ++ List.replicate (N.length - ps.length) Slot.no⟩ _ (St.begin (K := K) (m := N.length - ps.length) z) ?_
  revert p
  unfold runF
  simp only
  cases hf : fs (sl ++ List.replicate (N.length - ps.length) .no) with
  | bad => exact fun p => p
  | exc xx e' =>
    dsimp only
    cases b : back sl e' with
    | none => exact fun p => False.elim p
    | some sl' =>
      intro p C oe F' H' σ' x y xr q
      obtain ⟨x', y'⟩ := St.ended hn z x q y b
      exact p C oe F' H' x' y' xr
  | ok a =>
    obtain ⟨fl, e'⟩ := a
    cases fl with
    | brk => exact fun p => False.elim p
    | cont => exact fun p => False.elim p
    | nx =>
      dsimp only
      cases b : back sl e' with
      | none => exact fun p => False.elim p
      | some sl' =>
        intro p F' H' σ' x q y
        obtain ⟨x', y'⟩ := St.ended hn z x q y b
        exact p .non F' H' x' y' .non
    | ret v =>
      dsimp only
      cases b : back sl e' with
      | none =>
        cases v <;> exact fun p => False.elim p
      | some sl' =>
        cases v with
        | bor i => exact fun p => False.elim p
        | frz d =>
          intro p v F' H' σ' x q y r
          obtain ⟨x', y'⟩ := St.ended hn z x q y b
          exact p v F' H' x' y' (VRep.ended hn z q b (fun _ h => by cases h) r)
        | new o =>
          intro p v F' H' σ' x q y r
          obtain ⟨x', y'⟩ := St.ended hn z x q y b
          exact p v F' H' x' y' (VRep.ended hn z q b (fun _ h => by cases h) r)
end BV
/-! loops and comprehensions by data -/
namespace BV
open PySem PySem.Spec PyProof.Rows L2

/-! ### what is walked -/
/-- a turn may lay one new tuple -/
def Laid1 (F H F' H' : Hp) : Prop := (F' = F ∧ H' = H) ∨ ∃ (p : Addr) (xs : List V), H p = none ∧ F' = upd F p (.tup xs) ∧ H' = upd H p (.tup xs)
/-- an item; where w, a pair laid by a walk, of which less is told -/
def RpB (w : Bool) (K : PySem.W.Frag) (F : Hp) (v : V) (d : D) : Prop := Rp K F v d ∨ (w = true ∧ ∃ a vs ds, v = .ref a ∧ d = .tuple ds ∧ SqT K F a vs ∧ RpA K F vs ds)
structure ItD (w : Bool) (K : PySem.W.Frag) (F : Hp) (J : It) (ds : List D) : Prop where
  go : ∀ F' H i, Ex F F' → Ex F' H → i < ds.length → J.go i H
  stop : ∀ F' H i, Ex F F' → Ex F' H → ds.length ≤ i → J.stop i H
  yld : ∀ F' H i x H' d, Ex F F' → Ex F' H → ds[i]? = some d → J.yld i H x H' → ∃ F'', Laid1 F' H F'' H' ∧ RpB w K F'' x d
theorem ItD.mono {w : Bool} {K : PySem.W.Frag} {F F1 : Hp} {J : It} {ds : List D} (e : Ex F F1) (d : ItD w K F J ds) : ItD w K F1 J ds :=
  ⟨fun F' H i a => d.go F' H i (e.trans a), fun F' H i a => d.stop F' H i (e.trans a), fun F' H i x H' y a => d.yld F' H i x H' y (e.trans a)⟩
theorem Laid1.st {K : PySem.W.Frag} {F H F' H' : Hp} {σ : L2.St} {e : Env} (l : Laid1 F H F' H') (z : St K ⟨F, H, σ, e⟩) : Stp ⟨F, H, σ, e⟩ ⟨F', H', σ, e⟩ ∧ St K ⟨F', H', σ, e⟩ := by
  rcases l with ⟨rfl, rfl⟩ | ⟨p, xs, hp, rfl, rfl⟩
  · exact ⟨Stp.refl _, z⟩
  · have f : F p = none := z.fnone hp
    have n : ¬ OwnA ⟨F, upd H p (.tup xs), σ, e⟩ p := fun w => z.notOwn hp (((z.laid2 hp _).2 p).mp w)
    exact ⟨Stp.freeze f hp (Stp.laid z hp _), (z.laid hp _).freeze upd_same f n⟩
theorem itD_list {w : Bool} {K : PySem.W.Frag} {F : Hp} {a : Addr} {xs : List V} {ds : List D} (h : SqL K F a xs) (r : RpA K F xs ds) : ItD w K F (Itl K a) ds := by
  refine ⟨fun F' H i e1 e2 hi => ?_, fun F' H i e1 e2 hi => ⟨xs, ex_l (e1.trans e2) h, by rw [r.length]; exact hi⟩, fun F' H i x H' d e1 e2 hd y => ?_⟩
  · have hi' : i < xs.length := by rw [r.length]; exact hi
    exact ⟨xs, xs[i], ex_l (e1.trans e2) h, by simp [hi']⟩
  · obtain ⟨rfl, y⟩ := y
    obtain ⟨v, v1, v2⟩ := r.get i hd
    have e := y xs (ex_l (e1.trans e2) h)
    rw [v1] at e
    cases e
    exact ⟨F', Or.inl ⟨rfl, rfl⟩, Or.inl (v2.mono e1)⟩
theorem itD_tup {w : Bool} {K : PySem.W.Frag} {F : Hp} {a : Addr} {xs : List V} {ds : List D} (h : SqT K F a xs) (r : RpA K F xs ds) : ItD w K F (Itt K a) ds := by
  refine ⟨fun F' H i e1 e2 hi => ?_, fun F' H i e1 e2 hi => ⟨xs, ex_t (e1.trans e2) h, by rw [r.length]; exact hi⟩, fun F' H i x H' d e1 e2 hd y => ?_⟩
  · have hi' : i < xs.length := by rw [r.length]; exact hi
    exact ⟨xs, xs[i], ex_t (e1.trans e2) h, by simp [hi']⟩
  · obtain ⟨rfl, y⟩ := y
    obtain ⟨v, v1, v2⟩ := r.get i hd
    have e := y xs (ex_t (e1.trans e2) h)
    rw [v1] at e
    cases e
    exact ⟨F', Or.inl ⟨rfl, rfl⟩, Or.inl (v2.mono e1)⟩
def rints (lo : Int) (n : Nat) : List D := (List.range n).map fun i => .int (lo + (i : Nat))
theorem rints_len (lo : Int) (n : Nat) : (rints lo n).length = n := by simp [rints]
theorem itD_range {w : Bool} {K : PySem.W.Frag} {F : Hp} {lo : Int} {n : Nat} : ItD w K F (Itr lo n) (rints lo n) := by
  refine ⟨fun F' H i _ _ hi => ?_, fun F' H i _ _ hi => ?_, fun F' H i x H' d _ _ hd y => ?_⟩
  · rw [rints_len] at hi
    exact hi
  · rw [rints_len] at hi
    exact hi
  · obtain ⟨rfl, rfl⟩ := y
    unfold rints at hd
    rw [List.getElem?_map] at hd
    cases q : (List.range n)[i]? with
    | none =>
      rw [q] at hd
      cases hd
    | some j =>
      rw [q] at hd
      cases hd
      have : j = i := by
        obtain ⟨h1, h2⟩ := List.getElem?_eq_some_iff.mp q
        simpa using h2.symm
      subst this
      exact ⟨F', Or.inl ⟨rfl, rfl⟩, Or.inl (.int _)⟩
theorem itD_str {w : Bool} {K : PySem.W.Frag} {F : Hp} {x : Str} : ItD w K F (Its x) (x.cps.toList.map fun c => .str ⟨#[c]⟩) := by
  refine ⟨fun F' H i _ _ hi => ?_, fun F' H i _ _ hi => ?_, fun F' H i v H' d _ _ hd y => ?_⟩
  · rw [List.length_map, Array.length_toList] at hi
    exact hi
  · rw [List.length_map, Array.length_toList] at hi
    exact hi
  · obtain ⟨rfl, c, hc, rfl⟩ := y
    rw [List.getElem?_map, Array.getElem?_toList, hc] at hd
    cases hd
    exact ⟨F', Or.inl ⟨rfl, rfl⟩, Or.inl (.str _)⟩
def pairs (xs ys : List D) : List D := (xs.zip ys).map fun p => .tuple [p.1, p.2]
theorem pairs_get {xs ys : List D} {i : Nat} {d : D} (h : (pairs xs ys)[i]? = some d) : ∃ a b, xs[i]? = some a ∧ ys[i]? = some b ∧ d = .tuple [a, b] := by
  unfold pairs at h
  rw [List.getElem?_map] at h
  cases q : (xs.zip ys)[i]? with
  | none =>
    rw [q] at h
    cases h
  | some p =>
    rw [q] at h
    cases h
    obtain ⟨h1, h2⟩ := List.getElem?_zip_eq_some.mp q
    exact ⟨p.1, p.2, h1, h2, rfl⟩
theorem pairs_len (xs ys : List D) : (pairs xs ys).length = min xs.length ys.length := by simp [pairs]
theorem itD_pair {K : PySem.W.Frag} {F' H H' : Hp} {x : V} {T : Addr} {a b : V} {da db : D} (ha : Rp K F' a da) (hb : Rp K F' b db) (e : Ex F' H) (hT : H T = none) : ∃ F'', Laid1 F' H F'' (upd H T (.tup [a, b])) ∧ RpB true K F'' (.ref T) (.tuple [da, db]) := by
  have f : F' T = none := fresh_back e hT
  exact ⟨upd F' T (.tup [a, b]), Or.inr ⟨T, _, hT, rfl, rfl⟩, Or.inr ⟨rfl, T, _, _, rfl, rfl, SqT.of upd_same, .cons (ha.mono (Ex.new f)) (.cons (hb.mono (Ex.new f)) .nil)⟩⟩
theorem itD_zip {K : PySem.W.Frag} {F : Hp} {a b : Addr} {xs ys : List V} {ds es : List D} (h : SqL K F a xs) (h2 : SqL K F b ys) (r : RpA K F xs ds) (r2 : RpA K F ys es) : ItD true K F (Itz K a b) (pairs ds es) := by
  have l1 := r.length
  have l2 := r2.length
  refine ⟨fun F' H i e1 e2 hi => ?_, fun F' H i e1 e2 hi => ⟨xs, ys, ex_l (e1.trans e2) h, ex_l (e1.trans e2) h2, by rw [pairs_len] at hi; omega⟩, fun F' H i x H' d e1 e2 hd y => ?_⟩
  · rw [pairs_len] at hi
    have i1 : i < xs.length := by omega
    have i2 : i < ys.length := by omega
    exact ⟨xs, ys, xs[i], ys[i], ex_l (e1.trans e2) h, ex_l (e1.trans e2) h2, by simp [i1], by simp [i2]⟩
  · obtain ⟨T, x1, y1, rfl, hT, rfl, k1, k2⟩ := y
    obtain ⟨d1, d2, g1, g2, rfl⟩ := pairs_get hd
    obtain ⟨v, v1, v2⟩ := r.get i g1
    obtain ⟨w, w1, w2⟩ := r2.get i g2
    have q1 := k1 xs (ex_l (e1.trans e2) h)
    have q2 := k2 ys (ex_l (e1.trans e2) h2)
    rw [v1] at q1
    rw [w1] at q2
    cases q1
    cases q2
    exact itD_pair (x := .ref T) (H' := H) (v2.mono e1) (w2.mono e1) e2 hT
theorem itD_zipT {K : PySem.W.Frag} {F : Hp} {a b : Addr} {xs ys : List V} {ds es : List D} (h : SqT K F a xs) (h2 : SqT K F b ys) (r : RpA K F xs ds) (r2 : RpA K F ys es) : ItD true K F (RZ.ItzT K a b) (pairs ds es) := by
  have l1 := r.length
  have l2 := r2.length
  refine ⟨fun F' H i e1 e2 hi => ?_, fun F' H i e1 e2 hi => ⟨xs, ys, ex_t (e1.trans e2) h, ex_t (e1.trans e2) h2, by rw [pairs_len] at hi; omega⟩, fun F' H i x H' d e1 e2 hd y => ?_⟩
  · rw [pairs_len] at hi
    have i1 : i < xs.length := by omega
    have i2 : i < ys.length := by omega
    exact ⟨xs, ys, xs[i], ys[i], ex_t (e1.trans e2) h, ex_t (e1.trans e2) h2, by simp [i1], by simp [i2]⟩
  · obtain ⟨T, x1, y1, rfl, hT, rfl, k1, k2⟩ := y
    obtain ⟨d1, d2, g1, g2, rfl⟩ := pairs_get hd
    obtain ⟨v, v1, v2⟩ := r.get i g1
    obtain ⟨w, w1, w2⟩ := r2.get i g2
    have q1 := k1 xs (ex_t (e1.trans e2) h)
    have q2 := k2 ys (ex_t (e1.trans e2) h2)
    rw [v1] at q1
    rw [w1] at q2
    cases q1
    cases q2
    exact itD_pair (x := .ref T) (H' := H) (v2.mono e1) (w2.mono e1) e2 hT
def enumD (xs : List D) : List D := pairs (rints 0 xs.length) xs
theorem itD_enum {K : PySem.W.Frag} {F : Hp} {a : Addr} {xs : List V} {ds : List D} (h : SqL K F a xs) (r : RpA K F xs ds) : ItD true K F (Ite K a) (enumD ds) := by
  have l1 := r.length
  have ln : (enumD ds).length = ds.length := by
    unfold enumD
    rw [pairs_len, rints_len]
    omega
  refine ⟨fun F' H i e1 e2 hi => ?_, fun F' H i e1 e2 hi => ⟨xs, ex_l (e1.trans e2) h, by omega⟩, fun F' H i x H' d e1 e2 hd y => ?_⟩
  · have i1 : i < xs.length := by omega
    exact ⟨xs, xs[i], ex_l (e1.trans e2) h, by simp [i1]⟩
  · obtain ⟨T, y1, rfl, hT, rfl, k2⟩ := y
    obtain ⟨d1, d2, g1, g2, rfl⟩ := pairs_get (xs := rints 0 ds.length) (ys := ds) hd
    obtain ⟨w, w1, w2⟩ := r.get i g2
    have q2 := k2 xs (ex_l (e1.trans e2) h)
    rw [w1] at q2
    cases q2
    have e3 : d1 = .int (i : Nat) := by
      unfold rints at g1
      rw [List.getElem?_map] at g1
      cases q : (List.range ds.length)[i]? with
      | none =>
        rw [q] at g1
        cases g1
      | some j =>
        rw [q] at g1
        obtain ⟨_, h2⟩ := List.getElem?_eq_some_iff.mp q
        have : j = i := by simpa using h2.symm
        subst this
        cases g1
        show PyData.int (0 + ((j : Nat) : Int)) = _
        rw [Int.zero_add]
    subst e3
    exact itD_pair (x := .ref T) (H' := H) (.int _) (w2.mono e1) e2 hT
end BV
namespace BV
open PySem PySem.Spec PyProof.Rows L2

def PostI (w : Bool) (c : Cf) (s : Sta) (R : It → Hp → List D → Sta → Prop) : Out (List D × Env) → Prop
  | .ok (ds, e') => ∀ J F' H', Stp s ⟨F', H', s.σ, e'⟩ → St c.K ⟨F', H', s.σ, e'⟩ → ItD w c.K F' J ds → R J H' ds ⟨F', H', s.σ, e'⟩
  | .exc x e' => ∀ C oe F' H', Stp s ⟨F', H', s.σ, e'⟩ → St c.K ⟨F', H', s.σ, e'⟩ → XR c.K c.cm x C oe ⟨F', H', s.σ, e'⟩ → c.W C oe s.σ H'
  | .bad => False
def PVt (w : Bool) (c : Cf) (t : TI) (f : Env → Out (List D × Env)) : Prop := ∀ (s : Sta) (R : It → Hp → Prop), St c.K s → PostI w c s (fun J H _ _ => R J H) (f s.e) → t s.σ s.H R
structure PV (w : Bool) (X : Cx) (cm : CMap) (W : WX) (tg iter : Expr) (f : Env → Out (List D × Env)) : Prop where
  ex : ∃ t, PI X tg iter t ∧ PVt w (cf X cm W) t f

theorem PostI.later {w : Bool} {c : Cf} {s s1 : Sta} {Q : It → Hp → List D → Sta → Prop} (x : Stp s s1) (hσ : s1.σ = s.σ) : ∀ {o : Out (List D × Env)}, PostI w c s Q o → PostI w c s1 Q o
  | .ok (val, e'), h => fun v F' H' y z r => by
    rw [hσ] at y z ⊢
    exact h v F' H' (x.trans y) z r
  | .exc xx e', h => fun C oe F' H' y z r => by
    rw [hσ] at y z r ⊢
    exact h C oe F' H' (x.trans y) z r
theorem EVt.stepI {w : Bool} {c : Cf} {t : TE} {f : Env → Out (Val × Env)} {g : Val × Env → Out (List D × Env)} {s : Sta} {Q : It → Hp → List D → Sta → Prop} {R : V → Hp → Prop} (h : EVt c t f) (z : St c.K s) (p : PostI w c s Q ((f s.e).bind g))
    (k : ∀ v val e1 F1 H1, Stp s ⟨F1, H1, s.σ, e1⟩ → St c.K ⟨F1, H1, s.σ, e1⟩ → VRep c.K s ⟨F1, H1, s.σ, e1⟩ v val → PostI w c s Q (g (val, e1)) → R v H1) : t s.σ s.H R := by
  refine h s R z ?_
  revert p
  cases f s.e with
  | ok a =>
    obtain ⟨val, e1⟩ := a
    intro p v F1 H1 x y r
    exact k v val e1 F1 H1 x y r p
  | exc x e1 => exact fun p => p
  | bad => exact fun p => p
/-- a list, a tuple, a text -/
def itemsD : D → Option (List D)
  | .list ds => some ds
  | .tuple ds => some ds
  | .str z => some (z.cps.toList.map fun c => .str ⟨#[c]⟩)
  | _ => none
def resI (o : Option (List D)) (e : Env) : Out (List D × Env) := match o with
  | some v => .ok (v, e)
  | none => .bad
/-- an owned local that is walked is data from then on -/
def iSeq (k : Nat) (f : Env → Out (Val × Env)) : Env → Out (List D × Env) := fun e => (fz f e).bind fun a => match a.1 with
  | .frz d => resI (itemsD d) a.2
  | .bor i => if i < k then .bad else match a.2[i]? with
    | some (.own o) => match o.dq with
      | some d => resI (itemsD d) (a.2.set i (.frz d))
      | none => .bad
    | _ => .bad
  | .new _ => .bad
def tSeqI (K : PySem.W.Frag) (tl : TE) : TI := fun σ H R => tl σ H fun x H1 =>
  (∃ a xs, x = .ref a ∧ SqL K H1 a xs ∧ R (Itl K a) H1) ∨ (∃ a xs, x = .ref a ∧ SqT K H1 a xs ∧ R (Itt K a) H1) ∨ ∃ z, x = .str z ∧ R (Its z) H1
theorem pi_seq {X : Cx} {tg l : Expr} {tl : TE} (hl : PE X l tl) : PI X tg l (tSeqI X.K tl) := by
  refine ⟨fun pins s σ H R I h => thn (hl.run pins s σ H _ I h) ?_⟩
  rintro v s1 ⟨x, H1, I1, r1, q⟩
  rcases q with ⟨a, xs, rfl, hq, q⟩ | ⟨a, xs, rfl, hq, q⟩ | ⟨z, rfl, q⟩
  · cases r1
    obtain ⟨its, _, p, _⟩ := I1.list hq
    exact wpAny_pyIter_list p.isList (pi_one (tk := s1.toks) I1 _ (turn_list a _) ⟨_, Heap.get?_push_size _ rfl, rfl, rfl⟩ q)
  · cases r1
    obtain ⟨its, _, p, _⟩ := I1.tuple hq
    exact wpAny_pyIter_tuple (show s1.heap.IsTuple a its.toArray from p) (pi_one (tk := s1.toks) I1 _ (turn_tuple a _) ⟨_, Heap.get?_push_size _ rfl, rfl, rfl⟩ q)
  · obtain ⟨t, rfl⟩ := r1
    cases ha : z.cps.all (· < 128) with
    | false => exact wpAny_pyIter_wide ha (pi_one (tk := s1.toks) I1 _ (turn_str _ z t "str_iterator" (Or.inr rfl)) ⟨_, Heap.get?_push_size _ rfl, rfl, rfl⟩ q)
    | true => exact wpAny_pyIter_ascii ha (pi_one (tk := s1.toks) I1 _ (turn_str _ z t "str_ascii_iterator" (Or.inl rfl)) ⟨_, Heap.get?_push_size _ rfl, rfl, rfl⟩ q)
theorem seq_it {w : Bool} {K : PySem.W.Frag} {F H : Hp} (e : Ex F H) {v : V} {d : D} {ds : List D} {R : It → Hp → Prop} (r : Rp K F v d) (h : itemsD d = some ds) (k : ∀ J, ItD w K F J ds → R J H) :
    (∃ a xs, v = .ref a ∧ SqL K H a xs ∧ R (Itl K a) H) ∨ (∃ a xs, v = .ref a ∧ SqT K H a xs ∧ R (Itt K a) H) ∨ ∃ z, v = .str z ∧ R (Its z) H := by
  cases r with
  | non => cases h
  | bl b => cases h
  | int i => cases h
  | dic _ _ => cases h
  | str x =>
    cases h
    exact Or.inr (Or.inr ⟨x, rfl, k _ itD_str⟩)
  | lst s r =>
    cases h
    exact Or.inl ⟨_, _, rfl, ex_l e s, k _ (itD_list s r)⟩
  | tup s r =>
    cases h
    exact Or.inr (Or.inl ⟨_, _, rfl, ex_t e s.sq, k _ (itD_tup s.sq r)⟩)
section
variable {X : Cx} {cm : CMap} {W : WX} {pos p : Pos} {tg a b : Expr} {fa fb : Env → Out (Val × Env)}
theorem pv_seq {w : Bool} {k : Nat} (h : EV X cm W a fa) : PV w X cm W tg a (iSeq k fa) := by
  obtain ⟨t, pe, ev⟩ := h
  refine ⟨_, pi_seq pe, fun s R z q => ?_⟩
  refine ev.fz.stepI z q fun v val e1 F1 H1 x y r p1 => ?_
  cases val with
  | new o => exact False.elim p1
  | frz d =>
    simp only at p1
    cases hd : itemsD d with
    | none =>
      rw [hd] at p1
      exact False.elim p1
    | some ds =>
      rw [hd] at p1
      exact seq_it y.fh r hd fun J j => p1 J F1 H1 x y j
  | bor i =>
    simp only at p1
    split at p1
    · exact False.elim p1
    · split at p1
      · rename_i o g
        cases hq : o.dq with
        | none =>
          rw [hq] at p1
          exact False.elim p1
        | some d =>
        rw [hq] at p1
        simp only at p1
        cases hd : itemsD d with
        | none =>
          rw [hd] at p1
          exact False.elim p1
        | some ds =>
          rw [hd] at p1
          obtain ⟨pp, h1, hf, y', ru⟩ := St.moves y g hq
          obtain ⟨w1, _⟩ := r
          have w1 : s.σ[i]? = some (some v) := w1
          rw [h1] at w1
          cases w1
          exact seq_it y'.fh ru hd fun J j => p1 J _ H1 (Stp.moves x g h1 hf) y' j
      · exact False.elim p1
/-- range(n), range(a, b) -/
def iR1 (f : Env → Out (Val × Env)) : Env → Out (List D × Env) := fun e => (fz f e).bind fun a => match a.1 with
  | .frz (.int n) => if -(2 ^ 62) ≤ n ∧ n < 2 ^ 62 then .ok (rints 0 n.toNat, a.2) else .bad
  | _ => .bad
def iR2 (f g : Env → Out (Val × Env)) : Env → Out (List D × Env) := fun e => (fz f e).bind fun a => match a.1 with
  | .frz (.int m) => (fz g a.2).bind fun b => match b.1 with
    | .frz (.int n) => if -(2 ^ 62) ≤ m ∧ m < 2 ^ 62 ∧ -(2 ^ 62) ≤ n ∧ n < 2 ^ 62 then .ok (rints m (n - m).toNat, b.2) else .bad
    | _ => .bad
  | _ => .bad
theorem pv_r1 {w : Bool} (hm : X.mg "range" = none) (h : EV X cm W a fa) (hg : Gl X "range" := by rfl) (hs : starEach [a] X.env = [(false, eval a X.env)] := by rfl) : PV w X cm W tg (.Call (.Name "range" p) [a] [] pos) (iR1 fa) := by
  obtain ⟨t, pe, ev⟩ := h
  refine ⟨_, pi_range1 hg hm (pa_cons pe pa_nil (by rw [hs]; rfl)) hs, fun s R z q => ?_⟩
  refine ev.fz.stepI z q fun v val e1 F1 H1 x y r p1 => ?_
  simp only at p1
  split at p1
  · rename_i n
    split at p1
    · rename_i hn
      cases (show Rp X.K F1 v (.int n) from r)
      exact ⟨n, rfl, hn.1, hn.2, p1 _ F1 H1 x y itD_range⟩
    · exact False.elim p1
  · exact False.elim p1
theorem pv_r2 {w : Bool} (hm : X.mg "range" = none) (ha : EV X cm W a fa) (hb : EV X cm W b fb) (hg : Gl X "range" := by rfl) (hs : starEach [a, b] X.env = [(false, eval a X.env), (false, eval b X.env)] := by rfl) (hs2 : starEach [b] X.env = [(false, eval b X.env)] := by rfl) :
    PV w X cm W tg (.Call (.Name "range" p) [a, b] [] pos) (iR2 fa fb) := by
  obtain ⟨ta, pa, ea⟩ := ha
  obtain ⟨tb, pb, eb⟩ := hb
  refine ⟨_, pi_range2 hg hm (pa_cons pa (pa_cons pb pa_nil hs2) (by rw [hs, hs2])) hs hs2, fun s R z q => ?_⟩
  refine ea.fz.stepI z q fun v val e1 F1 H1 x y r p1 => ?_
  simp only at p1
  split at p1
  · rename_i m
    cases (show Rp X.K F1 v (.int m) from r)
    refine eb.fz.stepI (s := ⟨F1, H1, s.σ, e1⟩) y (p1.later x rfl) fun v2 val2 e2 F2 H2 x2 y2 r2 p2 => ?_
    simp only at p2
    split at p2
    · rename_i n
      cases (show Rp X.K F2 v2 (.int n) from r2)
      split at p2
      · rename_i hn
        exact ⟨m, n, rfl, hn, p2 _ F2 H2 x2 y2 itD_range⟩
      · exact False.elim p2
    · exact False.elim p2
  · exact False.elim p1
/-- zip of two lists, of two tuples; enumerate of a list -/
def zipD : D → D → Option (List D)
  | .list xs, .list ys => some (pairs xs ys)
  | .tuple xs, .tuple ys => some (pairs xs ys)
  | _, _ => none
def iZip2 (f g : Env → Out (Val × Env)) : Env → Out (List D × Env) := fun e => (fz f e).bind fun a => match a.1 with
  | .frz x => (fz g a.2).bind fun b => match b.1 with
    | .frz y => resI (zipD x y) b.2
    | _ => .bad
  | _ => .bad
def iEnum1 (f : Env → Out (Val × Env)) : Env → Out (List D × Env) := fun e => (fz f e).bind fun a => match a.1 with
  | .frz (.list ds) => .ok (enumD ds, a.2)
  | _ => .bad
theorem pv_zip {tpos : Pos} {elts : List Expr} {kk : Nat} (hm : X.mg "zip" = none) (ha : EV X cm W a fa) (hb : EV X cm W b fb) (hg : Gl X "zip" := by rfl) (hs2 : starEach [b] X.env = (false, eval b X.env) :: starEach [] X.env := by rfl) (hs : starEach [a, b] X.env = (false, eval a X.env) :: starEach [b] X.env := by rfl)
    (hpl : (backTo pos (starEach [b] X.env)).any (·.1) = false := by rfl) : PV true X cm W (.Tuple elts kk tpos) (.Call (.Name "zip" p) [a, b] [] pos) (iZip2 fa fb) := by
  obtain ⟨ta, pa, ea⟩ := ha
  obtain ⟨tb, pb, eb⟩ := hb
  refine ⟨_, RZ.pi_zipA hg hm (pa_cons pa (pa_cons pb pa_nil hs2) hs) hs hpl, fun s R z q => ?_⟩
  refine ea.fz.stepI z q fun v val e1 F1 H1 x y r p1 => ?_
  simp only at p1
  split at p1
  · rename_i d1
    refine eb.fz.stepI (s := ⟨F1, H1, s.σ, e1⟩) y (p1.later x rfl) fun v2 val2 e2 F2 H2 x2 y2 r2 p2 => ?_
    simp only at p2
    split at p2
    · rename_i d2
      have r1' : Rp X.K F2 v d1 := Rp.mono x2.ff r
      have r2' : Rp X.K F2 v2 d2 := r2
      cases hz : zipD d1 d2 with
      | none =>
        rw [hz] at p2
        exact False.elim p2
      | some ds =>
        rw [hz] at p2
        cases r1' with
        | lst s1 q1 =>
          cases r2' with
          | lst s2 q2 =>
            cases hz
            exact ⟨_, _, _, _, rfl, Or.inl ⟨ex_l y2.fh s1, ex_l y2.fh s2, p2 _ F2 H2 x2 y2 (itD_zip s1 s2 q1 q2)⟩⟩
          | _ => cases hz
        | tup s1 q1 =>
          cases r2' with
          | tup s2 q2 =>
            cases hz
            exact ⟨_, _, _, _, rfl, Or.inr ⟨ex_t y2.fh s1.sq, ex_t y2.fh s2.sq, p2 _ F2 H2 x2 y2 (itD_zipT s1.sq s2.sq q1 q2)⟩⟩
          | _ => cases hz
        | _ => cases hz
    · exact False.elim p2
  · exact False.elim p1
theorem pv_enum {tpos : Pos} {elts : List Expr} {kk : Nat} (hm : X.mg "enumerate" = none) (ha : EV X cm W a fa) (hg : Gl X "enumerate" := by rfl) (hs : starEach [a] X.env = [(false, eval a X.env)] := by rfl) :
    PV true X cm W (.Tuple elts kk tpos) (.Call (.Name "enumerate" p) [a] [] pos) (iEnum1 fa) := by
  obtain ⟨ta, pa, ea⟩ := ha
  refine ⟨_, pi_enum hg hm (pa_cons pa pa_nil hs) hs, fun s R z q => ?_⟩
  refine ea.fz.stepI z q fun v val e1 F1 H1 x y r p1 => ?_
  simp only at p1
  split at p1
  · rename_i ds
    cases (show Rp X.K F1 v (.list ds) from r) with
    | lst s1 q1 => exact ⟨_, _, rfl, ex_l y.fh s1, p1 _ F1 H1 x y (itD_enum s1 q1)⟩
  · exact False.elim p1
end

/-! ### targets -/
/-- a target takes an item: one name, or a written tuple of names -/
inductive Tg where
  | name (i : Nat)
  | tup (is : List Nat)
def putAll (k : Nat) : List Nat → List D → Env → Option Env
  | [], [], e => some e
  | i :: is, d :: ds, e => if asgOk k e i = true then putAll k is ds (e.set i (.frz d)) else none
  | _, _, _ => none
def Tg.put (k : Nat) : Tg → D → Env → Option Env
  | .name i, d, e => if asgOk k e i = true then some (e.set i (.frz d)) else none
  | .tup is, .tuple ds, e => putAll k is ds e
  | .tup _, _, _ => none
def Tg.is : Tg → List Nat
  | .name i => [i]
  | .tup is => is
def PGt (w : Bool) (c : Cf) (k : Nat) (g : TG) (t : Tg) : Prop := ∀ (s : Sta) (v : V) (d : D) (e' : Env) (Q : L2.St → Hp → Prop), St c.K s → RpB w c.K s.F v d → t.put k d s.e = some e' →
  (∀ σ', Stp s ⟨s.F, s.H, σ', e'⟩ → Par k s ⟨s.F, s.H, σ', e'⟩ → St c.K ⟨s.F, s.H, σ', e'⟩ → σ'.length = s.σ.length → (∀ j, j ∉ t.is → σ'[j]? = s.σ[j]?) → Q σ' s.H) → g v s.σ s.H Q
theorem pg_n {c : Cf} {k i : Nat} : PGt false c k (gName i) (.name i) := fun s v d e' Q z r h q => by
  simp only [Tg.put] at h
  split at h
  · rename_i ok
    cases h
    have r : Rp c.K s.F v d := by
      rcases r with r | ⟨r, _⟩
      · exact r
      · cases r
    exact q _ (Stp.put (Stp.refl s)) (Par.set ok) (z.put r) (List.length_set ..) fun j hj => List.getElem?_set_ne fun e => hj (by rw [← e]; exact List.mem_cons_self)
  · cases h
def gNames : List Nat → TGs
  | [] => gNil
  | i :: is => gCons (gName i) (gNames is)
theorem pgs_n {c : Cf} {k : Nat} : ∀ (is : List Nat) (s : Sta) (vs : List V) (ds : List D) (e' : Env) (Q : L2.St → Hp → Prop), St c.K s → RpA c.K s.F vs ds → putAll k is ds s.e = some e' →
    (∀ σ', Stp s ⟨s.F, s.H, σ', e'⟩ → Par k s ⟨s.F, s.H, σ', e'⟩ → St c.K ⟨s.F, s.H, σ', e'⟩ → σ'.length = s.σ.length → (∀ j, j ∉ is → σ'[j]? = s.σ[j]?) → Q σ' s.H) → gNames is vs s.σ s.H Q
  | [], s, vs, ds, e', Q, z, r, h, q => by
    cases r with
    | cons _ _ => cases h
    | nil =>
      cases h
      exact ⟨rfl, q s.σ (Stp.refl s) (Par.refl k s) z rfl fun _ _ => rfl⟩
  | i :: is, s, vs, ds, e', Q, z, r, h, q => by
    cases r with
    | nil => cases h
    | cons r1 r2 =>
      rename_i v vs d ds
      simp only [putAll] at h
      split at h
      · rename_i ok
        refine ⟨v, vs, rfl, ?_⟩
        have s1 : Stp s ⟨s.F, s.H, s.σ.set i (some v), s.e.set i (.frz d)⟩ := Stp.put (Stp.refl s)
        have q1 : Par k s ⟨s.F, s.H, s.σ.set i (some v), s.e.set i (.frz d)⟩ := Par.set ok
        exact pgs_n is ⟨s.F, s.H, s.σ.set i (some v), s.e.set i (.frz d)⟩ vs ds e' Q (z.put r1) r2 h fun σ' x y w l u => q σ' (s1.trans x) (q1.trans y) w (l.trans (List.length_set ..)) fun j hj =>
          (u j fun m => hj (List.mem_cons_of_mem _ m)).trans (List.getElem?_set_ne fun e => hj (by rw [← e]; exact List.mem_cons_self))
      · cases h
theorem pg_t {c : Cf} {k n : Nat} {is : List Nat} (hn : is.length = n) : PGt true c k (gTup c.K n (gNames is)) (.tup is) := fun s v d e' Q z r h q => by
  cases d with
  | tuple ds =>
    have r : ∃ a vs, v = .ref a ∧ SqT c.K s.F a vs ∧ RpA c.K s.F vs ds := by
      rcases r with r | ⟨_, a, vs, ds', e1, e2, e3, e4⟩
      · cases r with
        | tup s1 r1 => exact ⟨_, _, rfl, s1.sq, r1⟩
      · cases e2
        exact ⟨a, vs, e1, e3, e4⟩
    obtain ⟨a0, vs0, rfl, s1, r1⟩ := r
    · have hl : ∀ (is : List Nat) (ds : List D) (e e' : Env), putAll k is ds e = some e' → is.length = ds.length := by
        intro is
        induction is with
        | nil =>
          intro ds e e' h
          cases ds with
          | nil => rfl
          | cons _ _ => cases h
        | cons i is ih =>
          intro ds e e' h
          cases ds with
          | nil => cases h
          | cons d ds =>
            simp only [putAll] at h
            split at h
            · simp [ih _ _ _ h]
            · cases h
      exact ⟨_, _, rfl, ex_t z.fh s1, by rw [r1.length, ← hl _ _ _ _ h]; exact hn, pgs_n is s _ ds e' Q z r1 h q⟩
  | _ => cases h

/-! ### for -/
def forL (k : Nat) (t : Tg) (body : Env → Out (Fl × Env)) : List D → Env → Out (Fl × Env)
  | [], e => .ok (.nx, e)
  | d :: ds, e => match t.put k d e with
    | none => .bad
    | some e1 => match body e1 with
      | .ok (.nx, e2) => forL k t body ds e2
      | .ok (.cont, e2) => forL k t body ds e2
      | .ok (.brk, e2) => .ok (.nx, e2)
      | .ok (.ret v, e2) => .ok (.ret v, e2)
      | .exc x e2 => .exc x e2
      | .bad => .bad
def keepsK (k : Nat) (e e' : Env) : Bool := keepsB (e.take k) (e'.take k)
theorem Par.ofK {k : Nat} {F H F' H' : Hp} {σ : L2.St} {e e' : Env} (h : keepsK k e e' = true) : Par k ⟨F, H, σ, e⟩ ⟨F', H', σ, e'⟩ := fun j o hj g => by
  refine ⟨rfl, ?_⟩
  obtain ⟨o', q⟩ := keepsB_get (j := j) (o := o) h (by rw [List.getElem?_take_of_lt hj]; exact g)
  rw [List.getElem?_take_of_lt hj] at q
  exact ⟨o', q⟩
def sFor (k : Nat) (it : Env → Out (List D × Env)) (t : Tg) (body : Env → Out (Fl × Env)) : Env → Out (Fl × Env) := fun e => match it e with
  | .ok (ds, e1) => if keepsK k e e1 = true then forL k t body ds e1 else .bad
  | .exc x e1 => if keepsK k e e1 = true then .exc x e1 else .bad
  | .bad => .bad
section
variable {X : Cx} {cm : CMap} {W : WX} {k : Nat} {pos : Pos} {tg iter : Expr} {g : TG} {t : Tg} {fi : Env → Out (List D × Env)} {body : List Stmt} {fb : Env → Out (Fl × Env)}
theorem drop_cons {ds : List D} {i : Nat} {d : D} (h : ds[i]? = some d) : ds.drop i = d :: ds.drop (i + 1) := by
  obtain ⟨h1, h2⟩ := List.getElem?_eq_some_iff.mp h
  rw [← h2]
  exact List.drop_eq_getElem_cons h1
theorem sv_for {w : Bool} (hp : PassesOwn (model X.prog X.w) X.A X.env X.xe) (hc : X.calm = true) (hi : PV w X cm W tg iter fi) (hg : PG X tg g) (ht : PGt w (cf X cm W) k g t) (hb : SVs X cm W k body fb)
    (hs : ∀ x, foldedSetIterable iter X.env x = pure x := by intro _; rfl) : SV X cm W k (.For tg iter body [] pos) (sFor k fi t fb) := by
  obtain ⟨wi, pi, ei⟩ := hi
  obtain ⟨tb, pb, eb⟩ := hb
  refine ⟨_, ps_for hp hc pi hg pb hs, fun s D z p => ?_⟩
  refine ei s _ z ?_
  revert p
  unfold sFor
  cases fi s.e with
  | bad => exact fun p => p
  | exc x e1 =>
    simp only
    split
    · rename_i kb
      intro p C oe F' H' x y xr
      exact p C oe F' H' s.σ x y xr (Par.ofK kb)
    · exact fun p => False.elim p
  | ok w =>
    obtain ⟨ds, e1⟩ := w
    simp only
    split
    · rename_i kb
      intro p J F1 H1 x1 y1 it
      refine ⟨fun i m σ H => m = ds.length - i ∧ ∃ F e, Stp s ⟨F, H, σ, e⟩ ∧ Par k s ⟨F, H, σ, e⟩ ∧ St X.K ⟨F, H, σ, e⟩ ∧ ItD w X.K F J ds ∧ SPost (cf X cm W) k ⟨F, H, σ, e⟩ D (forL k t fb (ds.drop i) e),
        ⟨ds.length, rfl, F1, e1, x1, Par.ofK kb, y1, it, p.later x1 (Par.ofK kb)⟩, ?_⟩
      rintro i m σ H ⟨rfl, F, e, x, q, y, it, p⟩
      by_cases hlt : i < ds.length
      · right
        refine ⟨it.go F H i (Ex.refl _) y.fh hlt, fun σ' H' => ∃ F' e', Stp s ⟨F', H', σ', e'⟩ ∧ Par k s ⟨F', H', σ', e'⟩ ∧ St X.K ⟨F', H', σ', e'⟩ ∧ ItD w X.K F' J ds ∧ SPost (cf X cm W) k ⟨F', H', σ', e'⟩ D (forL k t fb (ds.drop (i + 1)) e'),
          fun σ' H' ⟨F', e', a1, a2, a3, a4, a5⟩ => ⟨ds.length - (i + 1), by omega, rfl, F', e', a1, a2, a3, a4, a5⟩, fun v H' yl => ?_⟩
        have hd : ds[i]? = some ds[i] := List.getElem?_eq_getElem hlt
        obtain ⟨F'', l1, r1⟩ := it.yld F H i v H' _ (Ex.refl _) y.fh hd yl
        obtain ⟨x2, y2⟩ := l1.st (σ := σ) (e := e) y
        have q2 : Par k ⟨F, H, σ, e⟩ ⟨F'', H', σ, e⟩ := Par.of (keepsB_refl e)
        rw [drop_cons hd] at p
        simp only [forL] at p
        cases hput : t.put k ds[i] e with
        | none =>
          rw [hput] at p
          exact False.elim p
        | some e2 =>
          rw [hput] at p
          simp only at p
          refine ht ⟨F'', H', σ, e⟩ v _ e2 _ y2 r1 hput fun σ3 x3 q3 y3 _ _ => ?_
          have xa := (x.trans x2).trans x3
          have qa := (q.trans q2).trans q3
          have p := p.later (x2.trans x3) (q2.trans q3)
          refine eb ⟨F'', H', σ3, e2⟩ _ y3 ?_
          revert p
          cases fb e2 with
          | bad => exact fun p => p
          | exc xx e4 => exact fun p => p
          | ok w =>
            obtain ⟨fl, e4⟩ := w
            cases fl with
            | nx =>
              intro p F4 H4 σ4 x4 q4 y4
              exact ⟨F4, e4, xa.trans x4, qa.trans q4, y4, it.mono ((x2.trans x3).trans x4).ff, p.later x4 q4⟩
            | cont =>
              intro p F4 H4 σ4 x4 q4 y4
              exact ⟨F4, e4, xa.trans x4, qa.trans q4, y4, it.mono ((x2.trans x3).trans x4).ff, p.later x4 q4⟩
            | brk => exact fun p => p
            | ret v => exact fun p => p
      · left
        have hle : ds.length ≤ i := by omega
        refine ⟨it.stop F H i (Ex.refl _) y.fh hle, ?_⟩
        rw [List.drop_eq_nil_of_le hle] at p
        exact p F H σ (Stp.refl _) (Par.refl _ _) y
    · exact fun p => False.elim p
end
end BV
/-! while, comprehensions, methods that change an owned list -/
namespace BV
open PySem PySem.Spec PyProof.Rows L2

/-! ### while -/
def whL (c : Env → Out (Bool × Env)) (body : Env → Out (Fl × Env)) : Nat → Env → Out (Fl × Env)
  | 0, _ => .bad
  | n + 1, e => sE e (c e) fun b e1 => if b = true then (match body e1 with
      | .ok (.nx, e2) => whL c body n e2
      | .ok (.cont, e2) => whL c body n e2
      | .ok (.brk, e2) => .ok (.nx, e2)
      | .ok (.ret v, e2) => .ok (.ret v, e2)
      | .exc x e2 => .exc x e2
      | .bad => .bad) else .ok (.nx, e1)
open Classical in
noncomputable def sWhile (c : Env → Out (Bool × Env)) (body : Env → Out (Fl × Env)) : Env → Out (Fl × Env) := fun e =>
  if h : ∃ n, whL c body n e ≠ .bad then whL c body h.choose e else .bad
theorem whL_more {c : Env → Out (Bool × Env)} {body : Env → Out (Fl × Env)} : ∀ {n : Nat} {e : Env}, whL c body n e ≠ .bad → ∀ m, n ≤ m → whL c body m e = whL c body n e
  | 0, e, h, _, _ => absurd rfl h
  | n + 1, e, h, 0, hm => by omega
  | n + 1, e, h, m + 1, hm => by
    revert h
    simp only [whL, sE]
    cases c e with
    | bad => exact fun h => absurd rfl h
    | exc x e1 => exact fun _ => rfl
    | ok w =>
      obtain ⟨b, e1⟩ := w
      simp only
      split
      · split
        · cases body e1 with
          | bad => exact fun h => absurd rfl h
          | exc x e2 => exact fun _ => rfl
          | ok w =>
            obtain ⟨fl, e2⟩ := w
            cases fl with
            | nx => exact fun h => whL_more h m (by omega)
            | cont => exact fun h => whL_more h m (by omega)
            | brk => exact fun _ => rfl
            | ret v => exact fun _ => rfl
        · exact fun _ => rfl
      · exact fun _ => rfl
/-- enough turns tell what the loop does -/
theorem sWhile_of {c : Env → Out (Bool × Env)} {body : Env → Out (Fl × Env)} {n : Nat} {e : Env} {r : Out (Fl × Env)} (h : whL c body n e = r) (hr : r ≠ .bad) : sWhile c body e = r := by
  have ex : ∃ n, whL c body n e ≠ .bad := ⟨n, by rw [h]; exact hr⟩
  unfold sWhile
  rw [dif_pos ex]
  have h1 := ex.choose_spec
  have h2 : whL c body n e ≠ .bad := by rw [h]; exact hr
  rw [← h, ← whL_more h1 (max ex.choose n) (by omega), whL_more h2 (max ex.choose n) (by omega)]
section
variable {X : Cx} {cm : CMap} {W : WX} {k : Nat} {pos : Pos} {c : Expr} {gc : Env → Out (Bool × Env)} {body : List Stmt} {fb : Env → Out (Fl × Env)}
theorem sv_while (hp : PassesOwn (model X.prog X.w) X.A X.env X.xe) (hc : ET X cm W c gc) (hb : SVs X cm W k body fb) : SV X cm W k (.While c body [] pos) (sWhile gc fb) := by
  obtain ⟨tc, pc, ec⟩ := hc
  obtain ⟨tb, pb, eb⟩ := hb
  refine ⟨_, ps_while hp pc pb, fun s D z p => ?_⟩
  unfold sWhile at p
  split at p
  · rename_i ex
    generalize ex.choose = n at p
    refine ⟨fun m σ H => ∃ F e, Stp s ⟨F, H, σ, e⟩ ∧ Par k s ⟨F, H, σ, e⟩ ∧ St X.K ⟨F, H, σ, e⟩ ∧ SPost (cf X cm W) k ⟨F, H, σ, e⟩ D (whL gc fb m e), ⟨n, s.F, s.e, Stp.refl s, Par.refl k s, z, p⟩, ?_⟩
    rintro m σ H ⟨F, e, x, q, y, p⟩
    cases m with
    | zero => exact False.elim p
    | succ m =>
      refine ec.stepS (s := ⟨F, H, σ, e⟩) y p fun b e1 F1 H1 x1 q1 y1 p1 => ?_
      cases b with
      | false => exact p1 F1 H1 σ x1 q1 y1
      | true =>
        rw [if_pos rfl] at p1 ⊢
        refine ⟨fun σ' H' => ∃ F' e', Stp s ⟨F', H', σ', e'⟩ ∧ Par k s ⟨F', H', σ', e'⟩ ∧ St X.K ⟨F', H', σ', e'⟩ ∧ SPost (cf X cm W) k ⟨F', H', σ', e'⟩ D (whL gc fb m e'),
          fun σ' H' ⟨F', e', a1, a2, a3, a4⟩ => ⟨m, by omega, F', e', a1, a2, a3, a4⟩, ?_⟩
        refine eb ⟨F1, H1, σ, e1⟩ _ y1 ?_
        have p1 := p1.later x1 q1
        revert p1
        cases fb e1 with
        | bad => exact fun p => p
        | exc xx e4 => exact fun p => p
        | ok w =>
          obtain ⟨fl, e4⟩ := w
          cases fl with
          | nx =>
            intro p F4 H4 σ4 x4 q4 y4
            exact ⟨F4, e4, (x.trans x1).trans x4, (q.trans q1).trans q4, y4, p.later x4 q4⟩
          | cont =>
            intro p F4 H4 σ4 x4 q4 y4
            exact ⟨F4, e4, (x.trans x1).trans x4, (q.trans q1).trans q4, y4, p.later x4 q4⟩
          | brk => exact fun p => p
          | ret v => exact fun p => p
  · exact False.elim p
end

/-! ### comprehensions -/
def wipeE (e : Env) : List Nat → Env
  | [] => e
  | v :: vs => (wipeE e vs).set v .no
theorem wipeE_get {e : Env} {j : Nat} {x : Slot} : ∀ {vs : List Nat}, (wipeE e vs)[j]? = some x → x ≠ .no → e[j]? = some x ∧ j ∉ vs
  | [], h, _ => ⟨h, fun q => by cases q⟩
  | v :: vs, h, n => by
    rcases set_get h with ⟨_, q⟩ | ⟨ne, q⟩
    · exact absurd q n
    · obtain ⟨a, b⟩ := wipeE_get q n
      exact ⟨a, fun m => (List.mem_cons.mp m).elim ne b⟩
theorem wipe_get {σ : L2.St} {j : Nat} : ∀ {vs : List Nat}, j ∉ vs → (L2.wipe σ vs)[j]? = σ[j]?
  | [], _ => rfl
  | v :: vs, h => by
    unfold L2.wipe
    rw [List.getElem?_set_ne (fun e => h (by rw [e]; exact List.mem_cons_self))]
    exact wipe_get fun m => h (List.mem_cons_of_mem _ m)
theorem wipeE_len (e : Env) : ∀ vs, (wipeE e vs).length = e.length
  | [] => rfl
  | v :: vs => by
    unfold wipeE
    rw [List.length_set, wipeE_len e vs]
/-- the slots vs hold nothing -/
def Bare (e : Env) (vs : List Nat) : Prop := ∀ j ∈ vs, ∀ (x : Slot), e[j]? = some x → x = .no
theorem Bare.wipe (e : Env) : ∀ vs, Bare (wipeE e vs) vs
  | [], j, h, _, _ => by cases h
  | v :: vs, j, h, x, g => by
    rcases set_get g with ⟨_, q⟩ | ⟨ne, q⟩
    · exact q
    · rcases List.mem_cons.mp h with h | h
      · exact absurd h ne
      · exact Bare.wipe e vs j h x q
section
variable {K : PySem.W.Frag} {F H : Hp} {σ σ' : L2.St} {e : Env}
/-- the state hangs on the slots that hold something -/
theorem St.slots (z : St K ⟨F, H, σ, e⟩) (hl : σ'.length = σ.length) (h : ∀ (j : Nat) (x : Slot), e[j]? = some x → x ≠ .no → σ'[j]? = σ[j]?) : St K ⟨F, H, σ', e⟩ := by
  refine ⟨z.len.trans hl.symm, z.fh, fun j d g => ?_, fun j o g => ?_, fun i j oi oj p q g1 g2 g3 g4 ne => ?_, fun j x g => by
    obtain ⟨a, a1, a2⟩ := z.fn j x g
    exact ⟨a, a1, (h j _ g (fun q => by cases q)).trans a2⟩⟩
  · obtain ⟨v, v1, v2⟩ := z.frz j d g
    exact ⟨v, (h j _ g (fun q => by cases q)).trans v1, v2⟩
  · obtain ⟨p, p1, p3⟩ := z.own j o g
    exact ⟨p, (h j _ g (fun q => by cases q)).trans p1, p3⟩
  · have h1 : σ'[i]? = σ[i]? := h i _ g1 (fun q => by cases q)
    have h2 : σ'[j]? = σ[j]? := h j _ g2 (fun q => by cases q)
    exact z.apart i j oi oj p q g1 g2 (h1.symm.trans g3) (h2.symm.trans g4) ne
theorem OwnA.slots {F' : Hp} (h : ∀ (j : Nat) (x : Slot), e[j]? = some x → x ≠ .no → σ'[j]? = σ[j]?) {a : Addr} (o : OwnA ⟨F, H, σ, e⟩ a) : OwnA ⟨F', H, σ', e⟩ a := by
  obtain ⟨j, oo, p, g, g2, g3⟩ := o
  exact ⟨j, oo, p, g, (h j _ g (fun q => by cases q)).trans g2, g3⟩
theorem St.wipeE (z : St K ⟨F, H, σ, e⟩) (vs : List Nat) : St K ⟨F, H, σ, BV.wipeE e vs⟩ := by
  refine ⟨(wipeE_len e vs).trans z.len, z.fh, fun j d g => ?_, fun j o g => ?_, fun i j oi oj p q g1 g2 g3 g4 ne => ?_, fun j x g => z.fn j x (wipeE_get g (fun q => by cases q)).1⟩
  · exact z.frz j d (wipeE_get g (fun q => by cases q)).1
  · exact z.own j o (wipeE_get g (fun q => by cases q)).1
  · exact z.apart i j oi oj p q (wipeE_get g1 (fun q => by cases q)).1 (wipeE_get g2 (fun q => by cases q)).1 g3 g4 ne
theorem OwnA.wipeE {vs : List Nat} {a : Addr} (o : OwnA ⟨F, H, σ, BV.wipeE e vs⟩ a) : OwnA ⟨F, H, σ, e⟩ a := by
  obtain ⟨j, oo, p, g, g2, g3⟩ := o
  exact ⟨j, oo, p, (wipeE_get g (fun q => by cases q)).1, g2, g3⟩
end
/-- nothing is raised within a comprehension -/
def noX {α : Type} : Out α → Out α
  | .exc _ _ => .bad
  | x => x
def lcL (t : Tg) (c : Env → Out (Bool × Env)) (f : Env → Out (Val × Env)) (vs : List Nat) : List D → List D → Env → Out (List D × Env)
  | [], acc, e => .ok (acc, e)
  | d :: ds, acc, e => match t.put 0 d e with
    | none => .bad
    | some e1 => (noX (c e1)).bind fun b => if b.1 = true then ((noX (fz f b.2)).bind asD).bind fun y =>
        if acc.length < sizeLine then lcL t c f vs ds (acc ++ [y.1]) (wipeE y.2 vs) else .bad
      else lcL t c f vs ds acc (wipeE b.2 vs)
open Classical in
noncomputable def fLc (it : Env → Out (List D × Env)) (t : Tg) (c : Env → Out (Bool × Env)) (f : Env → Out (Val × Env)) (vs : List Nat) : Env → Out (Val × Env) := fun e => (it e).bind fun a =>
  if Bare a.2 vs then (lcL t c f vs a.1 [] a.2).bind fun b => .ok (.new (.lst b.1), b.2) else .bad
def tYesF : Env → Out (Bool × Env) := fun e => .ok (true, e)
/-- the reading of an expression, told by its meaning alone -/
def tF (c : Cf) (f : Env → Out (Val × Env)) : TE := fun σ H Q => ∃ F e, St c.K ⟨F, H, σ, e⟩ ∧ Post c ⟨F, H, σ, e⟩ (fun v _ s' => Q v s'.H) (f e)
def tB (c : Cf) (f : Env → Out (Bool × Env)) : TT := fun σ H Q => ∃ F e, St c.K ⟨F, H, σ, e⟩ ∧ PostB c ⟨F, H, σ, e⟩ (fun v s' => Q v s'.H) (f e)
theorem EV.can {X : Cx} {cm : CMap} {W : WX} {e : Expr} {f : Env → Out (Val × Env)} (h : EV X cm W e f) : PE X e (tF (cf X cm W) f) := by
  obtain ⟨t, p, ev⟩ := h
  refine ⟨fun pins s σ H Q I hq => ?_⟩
  obtain ⟨F, en, z, q⟩ := hq
  exact p.run pins s σ H Q I (ev ⟨F, H, σ, en⟩ Q z q)
theorem ET.can {X : Cx} {cm : CMap} {W : WX} {e : Expr} {f : Env → Out (Bool × Env)} (h : ET X cm W e f) : PT X e (tB (cf X cm W) f) := by
  obtain ⟨t, p, ev⟩ := h
  refine ⟨fun pins s σ H Q I hq => ?_⟩
  obtain ⟨F, en, z, q⟩ := hq
  exact p.run pins s σ H Q I (ev ⟨F, H, σ, en⟩ Q z q)
structure ETs (X : Cx) (cm : CMap) (W : WX) (es : List Expr) (f : Env → Out (Bool × Env)) : Prop where
  can : PTs X es (tB (cf X cm W) f)
theorem ets_nil {X : Cx} {cm : CMap} {W : WX} : ETs X cm W [] tYesF := ⟨⟨fun pins s σ H Q I hq => by
  obtain ⟨F, en, z, q⟩ := hq
  exact pts_nil.run pins s σ H Q I (q F H (Stp.refl _) z)⟩⟩
theorem ets_one {X : Cx} {cm : CMap} {W : WX} {e : Expr} {f : Env → Out (Bool × Env)} (h : ET X cm W e f) : ETs X cm W [e] f := ⟨pts_one h.can⟩
def wNo : WX := fun _ _ _ _ => False
section
variable {K : PySem.W.Frag} {F H : Hp} {σ σ' : L2.St} {e : Env} {s : Sta}
theorem Stp.slots (x : Stp s ⟨F, H, σ, e⟩) (h : ∀ (j : Nat) (x : Slot), e[j]? = some x → x ≠ .no → σ'[j]? = σ[j]?) : Stp s ⟨F, H, σ', e⟩ :=
  ⟨x.ff, x.fnew, x.keep, fun a o => x.own a (OwnA.slots (F := F) (fun j y g n => (h j y g n).symm) o), x.dom⟩
theorem Stp.wipeE (x : Stp s ⟨F, H, σ, e⟩) (vs : List Nat) : Stp s ⟨F, H, σ, BV.wipeE e vs⟩ := ⟨x.ff, x.fnew, x.keep, fun a o => x.own a o.wipeE, x.dom⟩
/-- an object of nobody's is written -/
theorem St.write2 (z : St K ⟨F, H, σ, e⟩) {p : Addr} {o : HO} (f : F p = none) (n : ¬ OwnA ⟨F, H, σ, e⟩ p) : St K ⟨F, upd H p o, σ, e⟩ ∧ ∀ a, OwnA ⟨F, upd H p o, σ, e⟩ a ↔ OwnA ⟨F, H, σ, e⟩ a :=
  z.change (Ex.refl _) (fun a u q => by rw [upd_ne (ne_of_none q f)]; exact z.fh a u q) (fun a ha => upd_ne fun w => n (w ▸ ha)) fun a ha => (z.ownA ha).1
theorem St.write (z : St K ⟨F, H, σ, e⟩) {p : Addr} {o : HO} (f : F p = none) (n : ¬ OwnA ⟨F, H, σ, e⟩ p) : St K ⟨F, upd H p o, σ, e⟩ := (z.write2 f n).1
theorem Stp.write (x : Stp s ⟨F, H, σ, e⟩) (z : St K ⟨F, H, σ, e⟩) {p : Addr} {o : HO} (f : s.H p = none) (f2 : F p = none) (n : ¬ OwnA ⟨F, H, σ, e⟩ p) : Stp s ⟨F, upd H p o, σ, e⟩ := by
  refine ⟨x.ff, x.fnew, fun a u q n => ?_, fun a h => x.own a (((z.write2 f2 n).2 a).mp h), fun a u q => ?_⟩
  · show upd H p o a = some u
    rw [upd_ne (ne_of_none q f)]
    exact x.keep a u q n
  · show ∃ u, upd H p o a = some u
    rw [upd_ne (ne_of_none q f)]
    exact x.dom a u q
theorem wipe_eq {vs : List Nat} (hl : σ'.length = σ.length) (h : ∀ j, j ∉ vs → σ'[j]? = σ[j]?) : L2.wipe σ' vs = L2.wipe σ vs := by
  have at_ : ∀ (τ : L2.St) (vs : List Nat) (j : Nat), j ∈ vs → (L2.wipe τ vs)[j]? = if j < τ.length then some none else none := by
    intro τ vs
    induction vs with
    | nil =>
      intro j h
      cases h
    | cons v vs ih =>
      intro j h
      unfold L2.wipe
      rw [List.getElem?_set]
      by_cases e : v = j
      · rw [if_pos e, L2.wipe_length]
        subst e
        rfl
      · rw [if_neg e]
        rcases List.mem_cons.mp h with h | h
        · exact absurd h.symm e
        · exact ih j h
  apply List.ext_getElem?
  intro j
  by_cases m : j ∈ vs
  · rw [at_ σ' vs j m, at_ σ vs j m, hl]
  · rw [wipe_get m, wipe_get m]
    exact h j m
theorem EVt.lc {w : Bool} {c : Cf} {wi : TI} {fi : Env → Out (List D × Env)} {g : TG} {t : Tg} {gc : Env → Out (Bool × Env)} {fe : Env → Out (Val × Env)} {vs : List Nat} {cm : CMap} (hi : PVt w c wi fi) (ht : PGt w c 0 g t) (hv : ∀ i ∈ t.is, i ∈ vs) :
    EVt c (tLc wi g (tB ⟨c.K, cm, wNo⟩ gc) (tF ⟨c.K, cm, wNo⟩ (BV.fz fe)) vs) (fLc fi t gc fe vs) := fun s Q z p => by
  refine hi s _ z ?_
  revert p
  unfold fLc
  cases fi s.e with
  | bad => exact fun p => p
  | exc x e1 => exact fun p => p
  | ok w =>
    obtain ⟨ds, e1⟩ := w
    rw [Out.bind_ok]
    intro p J F1 H1 x1 y1 it Dl hD
    split at p
    · rename_i hb
      have p1 := Post.later x1 rfl p
      clear p
      refine ⟨fun i m H => m = ds.length - i ∧ ∃ F e acc vsa, Stp ⟨F1, H1, s.σ, e1⟩ ⟨F, H, s.σ, e⟩ ∧ St c.K ⟨F, H, s.σ, e⟩ ∧ Bare e vs ∧ ItD w c.K F J ds ∧ H Dl = some (.lst vsa) ∧ RpA c.K F vsa acc ∧ F Dl = none ∧ ¬ OwnA ⟨F, H, s.σ, e⟩ Dl ∧
          Post c ⟨F1, H1, s.σ, e1⟩ (fun v _ s' => Q v s'.H) ((lcL t gc fe vs (ds.drop i) acc e).bind fun b => .ok (.new (.lst b.1), b.2)),
        ⟨ds.length, rfl, F1, e1, [], [], Stp.laid y1 hD _, y1.laid hD _, hb, it, upd_same, .nil, y1.fnone hD, fun w => y1.notOwn hD (((y1.laid2 hD _).2 _).mp w), p1⟩, ?_⟩
      rintro i m H ⟨rfl, F, e, acc, vsa, x, y, hbe, it, hDl, racc, fD, nD, p⟩
      by_cases hlt : i < ds.length
      · right
        refine ⟨it.go F H i (Ex.refl _) y.fh hlt, fun H' => ∃ F e acc vsa, Stp ⟨F1, H1, s.σ, e1⟩ ⟨F, H', s.σ, e⟩ ∧ St c.K ⟨F, H', s.σ, e⟩ ∧ Bare e vs ∧ ItD w c.K F J ds ∧ H' Dl = some (.lst vsa) ∧ RpA c.K F vsa acc ∧ F Dl = none ∧ ¬ OwnA ⟨F, H', s.σ, e⟩ Dl ∧
            Post c ⟨F1, H1, s.σ, e1⟩ (fun v _ s' => Q v s'.H) ((lcL t gc fe vs (ds.drop (i + 1)) acc e).bind fun b => .ok (.new (.lst b.1), b.2)),
          fun H' ⟨F', e', acc', vsa', r⟩ => ⟨ds.length - (i + 1), by omega, rfl, F', e', acc', vsa', r⟩, fun v H' yl => ?_⟩
        have hd : ds[i]? = some ds[i] := List.getElem?_eq_getElem hlt
        obtain ⟨F2, l1, r1⟩ := it.yld F H i v H' _ (Ex.refl _) y.fh hd yl
        obtain ⟨x2, y2⟩ := l1.st (σ := s.σ) (e := e) y
        have agree : ∀ (j : Nat) (w : Slot), e[j]? = some w → w ≠ .no → (L2.wipe s.σ vs)[j]? = s.σ[j]? := fun j w g n => wipe_get fun m => n (hbe j m w g)
        have y3 : St c.K ⟨F2, H', L2.wipe s.σ vs, e⟩ := y2.slots (L2.wipe_length _ _) agree
        have x3 : Stp ⟨F, H, s.σ, e⟩ ⟨F2, H', L2.wipe s.σ vs, e⟩ := x2.slots agree
        rw [drop_cons hd] at p
        simp only [lcL] at p
        cases hput : t.put 0 ds[i] e with
        | none =>
          rw [hput] at p
          exact False.elim p
        | some e2 =>
          rw [hput] at p
          simp only at p
          refine ht ⟨F2, H', L2.wipe s.σ vs, e⟩ v _ e2 _ y3 r1 hput fun σ4 x4 _ y4 hl4 ag4 => ?_
          have ag4' : ∀ j, j ∉ vs → σ4[j]? = (L2.wipe s.σ vs)[j]? := fun j hj => ag4 j fun m => hj (hv j m)
          have hww : L2.wipe (L2.wipe s.σ vs) vs = L2.wipe s.σ vs := wipe_eq (L2.wipe_length _ _) fun j hj => wipe_get hj
          refine ⟨(wipe_eq hl4 ag4').trans hww, F2, e2, y4, ?_⟩
          have back : ∀ (e' : Env) (j : Nat) (w : Slot), (BV.wipeE e' vs)[j]? = some w → w ≠ .no → s.σ[j]? = σ4[j]? := fun e' j w g n => by
            have m := (wipeE_get g n).2
            rw [ag4' j m, wipe_get m]
          cases hgc : gc e2 with
          | bad =>
            rw [hgc] at p
            exact False.elim p
          | exc xx e3 =>
            rw [hgc] at p
            exact False.elim p
          | ok w =>
            obtain ⟨b, e3⟩ := w
            rw [hgc] at p
            intro F3 H3 x5 y5
            have x5' := (x3.trans x4).trans x5
            have len4 : s.σ.length = σ4.length := by rw [hl4, L2.wipe_length]
            cases b with
            | false =>
              refine iteF ?_
              have xx : Stp ⟨F, H, s.σ, e⟩ ⟨F3, H3, s.σ, BV.wipeE e3 vs⟩ := (x5'.wipeE vs).slots (back e3)
              refine ⟨F3, BV.wipeE e3 vs, acc, vsa, x.trans xx, (y5.wipeE vs).slots len4 (back e3), Bare.wipe e3 vs, it.mono xx.ff, xx.keep _ _ hDl nD, racc.mono xx.ff, ?_, fun o => ?_, p⟩
              · cases q : F3 Dl with
                | none => rfl
                | some u =>
                  rcases xx.fnew Dl u q with q | q | q
                  · exact nomatch fD.symm.trans q
                  · exact nomatch hDl.symm.trans q
                  · exact absurd q nD
              · rcases xx.own Dl o with q | q
                · exact nD q
                · exact nomatch hDl.symm.trans q
            | true =>
              refine iteT ?_
              refine ⟨F3, e3, y5, ?_⟩
              cases hfe : BV.fz fe e3 with
              | bad =>
                simp only [BV.noX, Out.bind_ok, if_true, hfe] at p
                exact False.elim p
              | exc xx e4 =>
                simp only [BV.noX, Out.bind_ok, if_true, hfe] at p
                exact False.elim p
              | ok w =>
                obtain ⟨val, e4⟩ := w
                simp only [BV.noX, Out.bind_ok, if_true, hfe] at p
                intro v5 F4 H4 x6 y6 r6
                cases val with
                | new o => exact False.elim p
                | bor k => exact False.elim p
                | frz d =>
                  simp only [asD, Out.bind_ok] at p
                  split at p
                  · rename_i hz
                    have xx : Stp ⟨F, H, s.σ, e⟩ ⟨F4, H4, s.σ, BV.wipeE e4 vs⟩ := ((x5'.trans x6).wipeE vs).slots (back e4)
                    have hD4 : H4 Dl = some (.lst vsa) := xx.keep _ _ hDl nD
                    have f4 : F4 Dl = none := by
                      cases q : F4 Dl with
                      | none => rfl
                      | some u =>
                        rcases xx.fnew Dl u q with q | q | q
                        · exact nomatch fD.symm.trans q
                        · exact nomatch hDl.symm.trans q
                        · exact absurd q nD
                    have n4 : ¬ OwnA ⟨F4, H4, s.σ, BV.wipeE e4 vs⟩ Dl := fun o => by
                      rcases xx.own Dl o with q | q
                      · exact nD q
                      · exact nomatch hDl.symm.trans q
                    have y7 : St c.K ⟨F4, H4, s.σ, BV.wipeE e4 vs⟩ := (y6.wipeE vs).slots len4 (back e4)
                    exact ⟨vsa, hD4, by rw [racc.length]; exact hz, F4, BV.wipeE e4 vs, acc ++ [d], vsa ++ [v5], (x.trans xx).write y7 hD f4 n4, y7.write f4 n4, Bare.wipe e4 vs, it.mono xx.ff, upd_same,
                      (racc.mono xx.ff).append (.cons r6 .nil), f4, fun w => n4 (((y7.write2 f4 n4).2 _).mp w), p⟩
                  · exact False.elim p
      · left
        have hle : ds.length ≤ i := by omega
        refine ⟨it.stop F H i (Ex.refl _) y.fh hle, ?_⟩
        rw [List.drop_eq_nil_of_le hle] at p
        exact p (.ref Dl) F H x y ⟨Dl, rfl, .lst fD hDl racc, fun a ha => by rw [List.mem_singleton.mp ha]; exact ⟨.inl hD, nD⟩⟩
    · exact False.elim p
end
section
variable {X : Cx} {cm : CMap} {W : WX} {k : Nat} {pos : Pos} {tg iter elt : Expr} {ifs : List Expr} {scope : Scope} {own : List (Str × Nat)} {g : TG} {t : Tg} {fi : Env → Out (List D × Env)} {gc : Env → Out (Bool × Env)} {fe : Env → Out (Val × Env)}
/-- [elt for tg in iter if ..] -/
theorem ev_lc {w : Bool} (hc : X.calm = true) (hN : X.N.Nodup) (hi : PV w X cm W tg iter fi) (ok : BlkOk X.N X.env.scope scope own)
    (hg : ∀ (s : Shared) (H : Hp) (C : Addr) (cl : List (Str × Addr)) (fp : List Addr), PG (Cx.blk X s H scope (compEnvC scope cl C X.env) fp) tg g) (ht : PGt w (cf X cm W) 0 g t) (hv : ∀ i ∈ t.is, i ∈ own.map (·.2))
    (hts : ∀ (s : Shared) (H : Hp) (C : Addr) (cl : List (Str × Addr)) (fp : List Addr), ETs (Cx.blk X s H scope (compEnvC scope cl C X.env) fp) cm wNo ifs gc)
    (he : ∀ (s : Shared) (H : Hp) (C : Addr) (cl : List (Str × Addr)) (fp : List Addr), EV (Cx.blk X s H scope (compEnvC scope cl C X.env) fp) cm wNo elt fe)
    (hs : ∀ x, foldedSetIterable iter X.env x = pure x := by intro _; rfl) : EV X cm W (.ListComp elt [⟨tg, iter, ifs, 0⟩] scope pos) (fLc fi t gc fe (own.map (·.2))) := by
  obtain ⟨wi, pi, ei⟩ := hi
  have hez : ∀ (s : Shared) (H : Hp) (C : Addr) (cl : List (Str × Addr)) (fp : List Addr), EV (Cx.blk X s H scope (compEnvC scope cl C X.env) fp) cm wNo elt (fz fe) := fun s H C cl fp => by
    obtain ⟨t, p, e⟩ := he s H C cl fp
    exact ⟨t, p, e.fz⟩
  exact ⟨_, pe_lc hc hN pi ok hg (fun s H C cl fp => (hts s H C cl fp).can) (fun s H C cl fp => (hez s H C cl fp).can) hs, EVt.lc (c := cf X cm W) (cm := cm) ei ht hv⟩
theorem sv_setLc {w : Bool} {y : Str} {py : Pos} {spos : Pos} (i : Nat) (hc : X.calm = true) (hN : X.N.Nodup) (hi : PV w X cm W tg iter fi) (ok : BlkOk X.N X.env.scope scope own)
    (hg : ∀ (s : Shared) (H : Hp) (C : Addr) (cl : List (Str × Addr)) (fp : List Addr), PG (Cx.blk X s H scope (compEnvC scope cl C X.env) fp) tg g) (ht : PGt w (cf X cm W) 0 g t) (hv : ∀ i ∈ t.is, i ∈ own.map (·.2))
    (hts : ∀ (s : Shared) (H : Hp) (C : Addr) (cl : List (Str × Addr)) (fp : List Addr), ETs (Cx.blk X s H scope (compEnvC scope cl C X.env) fp) cm wNo ifs gc)
    (he : ∀ (s : Shared) (H : Hp) (C : Addr) (cl : List (Str × Addr)) (fp : List Addr), EV (Cx.blk X s H scope (compEnvC scope cl C X.env) fp) cm wNo elt fe)
    (hy : X.N[i]? = some y := by rfl) (hyl : X.env.scope.names.lookup y = some .local := by rfl)
    (hsw : swapsWith (.ListComp elt [⟨tg, iter, ifs, 0⟩] scope pos) (some (.Name y py)) spos.line X.env = pure true := by exact sw_true rfl rfl rfl (by decide +kernel))
    (hs : ∀ x, foldedSetIterable iter X.env x = pure x := by intro _; rfl) : SV X cm W k (.Assign [.Name y py] (.ListComp elt [⟨tg, iter, ifs, 0⟩] scope pos) spos) (sSet k i (fLc fi t gc fe (own.map (·.2)))) := by
  obtain ⟨wi, pi, ei⟩ := hi
  have hez : ∀ (s : Shared) (H : Hp) (C : Addr) (cl : List (Str × Addr)) (fp : List Addr), EV (Cx.blk X s H scope (compEnvC scope cl C X.env) fp) cm wNo elt (fz fe) := fun s H C cl fp => by
    obtain ⟨t, p, e⟩ := he s H C cl fp
    exact ⟨t, p, e.fz⟩
  exact ⟨_, ps_setLc hc hN hy hyl hsw pi ok hg (fun s H C cl fp => (hts s H C cl fp).can) (fun s H C cl fp => (hez s H C cl fp).can) hs, SVt.set (EVt.lc (c := cf X cm W) (cm := cm) ei ht hv)⟩
end
end BV
/-! owned lists changed; stores of several names; more built-ins -/
namespace BV
open PySem PySem.Spec PyProof.Rows L2

section
variable {K : PySem.W.Frag} {F H : Hp} {σ : L2.St} {e : Env} {s : Sta} {i : Nat} {o o' : O} {p : Addr} {u : HO}
/-- an owned thing is changed: its root stays, what is new in it was nobody's -/
theorem St.mutO {F' H' : Hp} (z : St K ⟨F, H, σ, e⟩) (g : e[i]? = some (Slot.own o)) (g2 : σ[i]? = some (some (V.ref p))) (ff : Ex F F') (fh : Ex F' H') (hh : ∀ a, a ∉ fp H o (.ref p) → ∀ u, H a = some u → H' a = some u) (fn : ∀ a, F' a = none ∨ F' a = F a ∨ H a = none)
    (os : OwnS K F' H' p o') (new : ∀ a ∈ fp H' o' (.ref p), a ∈ fp H o (.ref p) ∨ H a = none) (dom : ∀ a ∈ fp H o (.ref p), ∃ u, H' a = some u) : St K ⟨F', H', σ, e.set i (.own o')⟩ ∧ Stp ⟨F, H, σ, e⟩ ⟨F', H', σ, e.set i (.own o')⟩ := by
  obtain ⟨p', k1, k2⟩ := z.own i o g
  have k1 : σ[i]? = some (some (V.ref p')) := k1
  rw [g2] at k1
  cases k1
  have hl := (List.getElem?_eq_some_iff.mp g).1
  have oth : ∀ {j : Nat} {oo : O} {q : Addr}, j ≠ i → e[j]? = some (Slot.own oo) → σ[j]? = some (some (V.ref q)) → ∀ a ∈ fp H oo (.ref q), a ∉ fp H o (.ref p) ∧ H' a = H a ∧ F' a = none := fun ne h1 h2 a ha => by
    have na : a ∉ fp H o (.ref p) := z.apart _ i _ o _ p h1 g h2 g2 ne a ha
    obtain ⟨f, u, hu⟩ := z.ownA ⟨_, _, _, h1, h2, ha⟩
    have hu : H a = some u := hu
    have f : F a = none := f
    refine ⟨na, (hh a na u hu).trans hu.symm, ?_⟩
    rcases fn a with q | q | q
    · exact q
    · exact q.trans f
    · rw [hu] at q
      cases q
  have othf : ∀ {j : Nat} {oo : O} {q : Addr}, j ≠ i → e[j]? = some (Slot.own oo) → σ[j]? = some (some (V.ref q)) → fp H' oo (.ref q) = fp H oo (.ref q) := fun ne h1 h2 => fp_congr _ fun a ha => (oth ne h1 h2 a ha).2.1
  refine ⟨⟨(List.length_set ..).trans z.len, fh, fun j d h => ?_, fun j oo h => ?_, fun j l oj ol p1 p2 h1 h2 h3 h4 ne => ?_, fun j x h => by
    rcases set_get h with ⟨_, q⟩ | ⟨ne, q⟩
    · cases q
    · exact (z.fn j x q).mono ff⟩, ⟨ff, fun a u q => ?_, fun a u q n => ?_, fun a h => ?_, fun a u q => ?_⟩⟩
  · rcases set_get h with ⟨_, q⟩ | ⟨ne, q⟩
    · cases q
    · obtain ⟨v, v1, v2⟩ := z.frz j d q
      exact ⟨v, v1, v2.mono ff⟩
  · rcases set_get h with ⟨rfl, q⟩ | ⟨ne, q⟩
    · cases q
      exact ⟨p, g2, os⟩
    · obtain ⟨p', h1, h3⟩ := z.own j oo q
      exact ⟨p', h1, h3.later ff (fun a ha => (oth ne q h1 a ha).2.1) fun a ha => (oth ne q h1 a ha).2.2⟩
  · have h3 : σ[j]? = some (some (V.ref p1)) := h3
    have h4 : σ[l]? = some (some (V.ref p2)) := h4
    have cross : ∀ {b : Nat} {ob : O} {pb : Addr}, b ≠ i → e[b]? = some (Slot.own ob) → σ[b]? = some (some (V.ref pb)) → ∀ a ∈ fp H' o' (.ref p), a ∉ fp H' ob (.ref pb) := fun hb q w a ha hc => by
      rw [othf hb q w] at hc
      rcases new a ha with r | r
      · exact (oth hb q w a hc).1 r
      · obtain ⟨u, hu⟩ := (z.ownA ⟨_, _, _, q, w, hc⟩).2
        have hu : H a = some u := hu
        rw [hu] at r
        cases r
    intro a ha hb
    rcases set_get h1 with ⟨e1, q1⟩ | ⟨n1, q1⟩
    · rcases set_get h2 with ⟨e2, q2⟩ | ⟨n2, q2⟩
      · exact ne (e1.trans e2.symm)
      · cases q1
        subst e1
        rw [g2] at h3
        cases h3
        exact cross n2 q2 h4 a ha hb
    · rcases set_get h2 with ⟨e2, q2⟩ | ⟨n2, q2⟩
      · cases q2
        subst e2
        rw [g2] at h4
        cases h4
        exact cross n1 q1 h3 a hb ha
      · have ha : a ∈ fp H' oj (.ref p1) := ha
        have hb : a ∈ fp H' ol (.ref p2) := hb
        rw [othf n1 q1 h3] at ha
        rw [othf n2 q2 h4] at hb
        exact z.apart j l oj ol p1 p2 q1 q2 h3 h4 ne a ha hb
  · rcases fn a with w | w | w
    · have q : F' a = some u := q
      rw [w] at q
      cases q
    · exact Or.inl (w.symm.trans q)
    · exact Or.inr (Or.inl w)
  · exact hh a (fun w => n ⟨i, o, p, g, g2, w⟩) u q
  · obtain ⟨j, oo, q, h1, h2, h3⟩ := h
    rcases set_get h1 with ⟨rfl, w⟩ | ⟨ne, w⟩
    · cases w
      have h2 : σ[j]? = some (some (V.ref q)) := h2
      rw [g2] at h2
      cases h2
      rcases new a h3 with r | r
      · exact Or.inl ⟨j, o, p, g, g2, r⟩
      · exact Or.inr r
    · have h3 : a ∈ fp H' oo (.ref q) := h3
      rw [othf ne w h2] at h3
      exact Or.inl ⟨j, oo, q, w, h2, h3⟩
  · by_cases w : a ∈ fp H o (.ref p)
    · exact dom a w
    · exact ⟨u, hh a w u q⟩
/-- .. a flat one -/
theorem St.mut2 (z : St K ⟨F, H, σ, e⟩) (g : e[i]? = some (Slot.own o)) (g2 : σ[i]? = some (some (V.ref p))) (fo : fp H o (.ref p) = [p]) (fo' : fp (upd H p u) o' (.ref p) = [p]) (oa : OwnAt K F (upd H p u) p o') : St K ⟨F, upd H p u, σ, e.set i (.own o')⟩ ∧ Stp ⟨F, H, σ, e⟩ ⟨F, upd H p u, σ, e.set i (.own o')⟩ := by
  obtain ⟨p', k1, k2⟩ := z.own i o g
  have k1 : σ[i]? = some (some (V.ref p')) := k1
  rw [g2] at k1
  cases k1
  have fpn : F p = none := k2.fnone
  refine z.mutO g g2 (Ex.refl _) (fun a w q => ?_) (fun a na w q => ?_) (fun a => Or.inr (Or.inl rfl)) ⟨by rw [fo']; intro a ha; rw [List.mem_singleton.mp ha]; exact fpn, by rw [fo']; simp, oa⟩ (by rw [fo, fo']; exact fun a ha => Or.inl ha) (by
    rw [fo]
    intro a ha
    rw [List.mem_singleton.mp ha]
    exact ⟨u, upd_same⟩)
  · rw [upd_ne (ne_of_none q fpn)]
    exact z.fh a w q
  · rw [fo, List.mem_singleton] at na
    rw [upd_ne na]
    exact q
theorem St.mutL (z : St K ⟨F, H, σ, e⟩) {ds ds' : List D} {vs : List V} (g : e[i]? = some (Slot.own (.lst ds))) (g2 : σ[i]? = some (some (V.ref p))) (r : RpA K F vs ds') : St K ⟨F, upd H p (.lst vs), σ, e.set i (.own (.lst ds'))⟩ ∧ Stp ⟨F, H, σ, e⟩ ⟨F, upd H p (.lst vs), σ, e.set i (.own (.lst ds'))⟩ := z.mut2 g g2 rfl rfl ⟨vs, upd_same, r⟩
theorem St.mutD (z : St K ⟨F, H, σ, e⟩) {ds ds' : List (D × D)} {es : List (Key × V)} (g : e[i]? = some (Slot.own (.dic ds))) (g2 : σ[i]? = some (some (V.ref p))) (r : RpE K F es ds') : St K ⟨F, upd H p (.dK es), σ, e.set i (.own (.dic ds'))⟩ ∧ Stp ⟨F, H, σ, e⟩ ⟨F, upd H p (.dK es), σ, e.set i (.own (.dic ds'))⟩ := z.mut2 g g2 rfl rfl ⟨es, upd_same, r⟩
end

/-- xs.m(e), xs an owned list -/
def gOwn (h : List D → D → Option (Val × List D)) (i : Nat) (f : Env → Out (Val × Env)) : Env → Out (Val × Env) := fun e => match e[i]? with
  | some (.own (.lst _)) => ((fz f e).bind asD).bind fun a => match a.2[i]? with
    | some (.own (.lst ds)) => match h ds a.1 with
      | some (v, ds') => .ok (v, a.2.set i (.own (.lst ds')))
      | none => .bad
    | _ => .bad
  | _ => .bad
def gOwn0 (h : List D → Option (Val × List D)) (i : Nat) : Env → Out (Val × Env) := fun e => match e[i]? with
  | some (.own (.lst ds)) => match h ds with
    | some (v, ds') => .ok (v, e.set i (.own (.lst ds')))
    | none => .bad
  | _ => .bad
/-- what such a method does -/
def MutOk (X : Cx) (id : String) (h : List D → D → Option (Val × List D)) : Prop := ∀ (F H : Hp) (p : Addr) (vs : List V) (ds : List D) (v : V) (d : D) (val : Val) (ds' : List D),
  Ex F H → H p = some (.lst vs) → RpA X.K F vs ds → Rp X.K F v d → h ds d = some (val, ds') → (∃ d', val = .frz d') ∧ ∃ r, MtR X id r ∧ ∀ Q : VK, (∀ w vs', RpA X.K F vs' ds' → (∀ d', val = .frz d' → Rp X.K F w d') → Q w (upd H p (.lst vs'))) → r (.ref p) [v] H Q
def MutOk0 (X : Cx) (id : String) (h : List D → Option (Val × List D)) : Prop := ∀ (F H : Hp) (p : Addr) (vs : List V) (ds : List D) (val : Val) (ds' : List D),
  Ex F H → H p = some (.lst vs) → RpA X.K F vs ds → h ds = some (val, ds') → (∃ d', val = .frz d') ∧ ∃ r, MtR X id r ∧ ∀ Q : VK, (∀ w vs', RpA X.K F vs' ds' → (∀ d', val = .frz d' → Rp X.K F w d') → Q w (upd H p (.lst vs'))) → r (.ref p) [] H Q
/-- a method's reading, by data -/
def rMut (K : PySem.W.Frag) (h : List D → D → Option (Val × List D)) : V → List V → Hp → VK → Prop := fun x xs H Q => ∃ (F : Hp) (p : Addr) (vs : List V) (ds : List D) (v : V) (d : D) (val : Val) (ds' : List D),
  x = .ref p ∧ xs = [v] ∧ Ex F H ∧ H p = some (.lst vs) ∧ RpA K F vs ds ∧ Rp K F v d ∧ h ds d = some (val, ds') ∧ ∀ w vs', RpA K F vs' ds' → (∀ d', val = .frz d' → Rp K F w d') → Q w (upd H p (.lst vs'))
def rMut0 (K : PySem.W.Frag) (h : List D → Option (Val × List D)) : V → List V → Hp → VK → Prop := fun x xs H Q => ∃ (F : Hp) (p : Addr) (vs : List V) (ds : List D) (val : Val) (ds' : List D),
  x = .ref p ∧ xs = [] ∧ Ex F H ∧ H p = some (.lst vs) ∧ RpA K F vs ds ∧ h ds = some (val, ds') ∧ ∀ w vs', RpA K F vs' ds' → (∀ d', val = .frz d' → Rp K F w d') → Q w (upd H p (.lst vs'))
section
variable {X : Cx}
theorem MutOk.mt {id : String} {h : List D → D → Option (Val × List D)} (m : MutOk X id h) : MtR X id (rMut X.K h) := by
  intro pins s σ H x xs v us Q I rx rs hq
  obtain ⟨F, p, vs, ds, w, d, val, ds', rfl, rfl, fh, hp, r, rv, e, k⟩ := hq
  obtain ⟨_, r', m', kk⟩ := m F H p vs ds w d val ds' fh hp r rv e
  exact m' pins s σ H _ _ v us Q I rx rs (kk Q k)
theorem MutOk0.mt {id : String} {h : List D → Option (Val × List D)} (m : MutOk0 X id h) : MtR X id (rMut0 X.K h) := by
  intro pins s σ H x xs v us Q I rx rs hq
  obtain ⟨F, p, vs, ds, val, ds', rfl, rfl, fh, hp, r, e, k⟩ := hq
  obtain ⟨_, r', m', kk⟩ := m F H p vs ds val ds' fh hp r e
  exact m' pins s σ H _ _ v us Q I rx rs (kk Q k)
variable {cm : CMap} {W : WX} {k : Nat} {apos cpos np : Pos} {a : Expr} {fa : Env → Out (Val × Env)} {x name : Str} {id : String}
theorem ev_own {h : List D → D → Option (Val × List D)} (i : Nat) (m : MutOk X id h) (hP : PlainAttrs "list") (hS : PySem.Slot "list" name id) (hT : typeOf (.builtin id) = pure (.type "method_descriptor")) (ha : EV X cm W a fa)
    (hN : X.N[i]? = some x := by rfl) (hv : Vis X.env.scope x := by first | exact Or.inl rfl | exact Or.inr (Or.inl rfl) | exact Or.inr (Or.inr rfl)) (hd : (x == ("__debug__" : Str)) = false := by decide) (hcd : (x == ("__classdict__" : Str)) = false := by decide)
    (h1 : attributeBase (.Name x np) name X.env (eval (.Name x np) X.env) = eval (.Name x np) X.env := by rfl)
    (h2 : (((backTo cpos (starEach (a :: []) X.env)).all fun y => !y.1) && ((backToKw cpos (keywordEach [] X.env)).all fun y => y.1.isSome) && decide (((a :: ([] : List Expr)).length + ([] : List Keyword).length + if ([] : List Keyword).isEmpty = true then 0 else 1) < 30)) = true := by rfl)
    (h3 : (apos.endLine == cpos.line) = true := by rfl) (hs : starEach [a] X.env = (false, eval a X.env) :: starEach [] X.env := by rfl) (hpl : (backTo cpos (starEach [] X.env)).any (·.1) = false := by rfl) :
    EV X cm W (.Call (.Attribute (.Name x np) name apos) [a] [] cpos) (gOwn h i fa) := by
  obtain ⟨ta, pa, ea⟩ := ha
  refine ⟨_, pe_bm hP hS hT m.mt (pe_var hN hv hd hcd) (pa_cons pa pa_nil hs) h1 h2 h3 hs hpl, fun s Q z p => ?_⟩
  unfold gOwn at p
  split at p
  · rename_i ds0 g0
    obtain ⟨q, q1, ⟨q2, _, vs0, q3, q4⟩⟩ := z.own i _ g0
    refine ⟨.ref q, q1, Or.inl ⟨rfl, vs0, SqL.of q3⟩, ?_⟩
    rw [Out.bind_assoc] at p
    refine ea.fz.step z p fun v val e1 F1 H1 x y r p1 => ?_
    cases val with
    | new o => exact p1.elim
    | bor j => exact p1.elim
    | frz d =>
      simp only [asD, Out.bind_ok] at p1
      split at p1
      · rename_i ds g
        cases hh : h ds d with
        | none =>
          rw [hh] at p1
          exact p1.elim
        | some w =>
          obtain ⟨val, ds'⟩ := w
          rw [hh] at p1
          obtain ⟨q', k1, ⟨k2, _, vs, k3, k4⟩⟩ := y.own i _ g
          have k1 : s.σ[i]? = some (some (V.ref q')) := k1
          rw [q1] at k1
          cases k1
          obtain ⟨⟨d', rfl⟩, _⟩ := m F1 H1 q vs ds v d val ds' y.fh k3 k4 r hh
          refine ⟨F1, q, vs, ds, v, d, _, ds', rfl, rfl, y.fh, k3, k4, r, hh, fun w vs' r' hw => ?_⟩
          exact p1 w F1 (upd H1 q (.lst vs')) (St.mutL y g q1 r').2 (St.mutL y g q1 r').1 (hw d' rfl)
      · exact p1.elim
  · exact p.elim
theorem ev_own0 {h : List D → Option (Val × List D)} (i : Nat) (m : MutOk0 X id h) (hP : PlainAttrs "list") (hS : PySem.Slot "list" name id) (hT : typeOf (.builtin id) = pure (.type "method_descriptor"))
    (hN : X.N[i]? = some x := by rfl) (hv : Vis X.env.scope x := by first | exact Or.inl rfl | exact Or.inr (Or.inl rfl) | exact Or.inr (Or.inr rfl)) (hd : (x == ("__debug__" : Str)) = false := by decide) (hcd : (x == ("__classdict__" : Str)) = false := by decide)
    (h1 : attributeBase (.Name x np) name X.env (eval (.Name x np) X.env) = eval (.Name x np) X.env := by rfl) (h3 : (apos.endLine == cpos.line) = true := by rfl) :
    EV X cm W (.Call (.Attribute (.Name x np) name apos) [] [] cpos) (gOwn0 h i) := by
  refine ⟨_, pe_bm0 hP hS hT m.mt (pe_var hN hv hd hcd) h1 h3, fun s Q z p => ?_⟩
  unfold gOwn0 at p
  split at p
  · rename_i ds g
    obtain ⟨q, q1, ⟨q2, _, vs, q3, q4⟩⟩ := z.own i _ g
    cases hh : h ds with
    | none =>
      rw [hh] at p
      exact p.elim
    | some w =>
      obtain ⟨val, ds'⟩ := w
      rw [hh] at p
      obtain ⟨⟨d', rfl⟩, _⟩ := m s.F s.H q vs ds val ds' z.fh q3 q4 hh
      refine ⟨.ref q, q1, Or.inl ⟨rfl, vs, SqL.of q3⟩, s.F, q, vs, ds, _, ds', rfl, rfl, z.fh, q3, q4, hh, fun w vs' r' hw => ?_⟩
      exact p w s.F (upd s.H q (.lst vs')) (St.mutL z g q1 r').2 (St.mutL z g q1 r').1 (hw d' rfl)
  · exact p.elim
def mApp (ds : List D) (d : D) : Option (Val × List D) := if ds.length < sizeLine then some (.frz .none, ds ++ [d]) else none
theorem mk_append : MutOk X "list.append" mApp := fun F H p vs ds v d val ds' fh hp r rv h => by
  unfold mApp at h
  split at h
  · cases h
    exact ⟨⟨_, rfl⟩, rAppend, mt_append, fun Q k => ⟨p, vs, v, rfl, rfl, hp, by rw [r.length]; assumption, k .non _ (r.append (.cons rv .nil)) fun d' e => by cases e; exact .non⟩⟩
  · cases h
def mPop0 (ds : List D) : Option (Val × List D) := (ds[ds.length - 1]?).map fun d => (.frz d, ds.dropLast)
theorem RpA.dropLast {K : PySem.W.Frag} {F : Hp} {vs : List V} {ds : List D} (r : RpA K F vs ds) : RpA K F vs.dropLast ds.dropLast := by
  rw [List.dropLast_eq_take, List.dropLast_eq_take, r.length]
  exact r.take _
theorem mk_pop0 : MutOk0 X "list.pop" mPop0 := fun F H p vs ds val ds' fh hp r h => by
  unfold mPop0 at h
  cases q : ds[ds.length - 1]? with
  | none =>
    rw [q] at h
    cases h
  | some d =>
    rw [q] at h
    cases h
    obtain ⟨v, v1, v2⟩ := r.get _ q
    exact ⟨⟨_, rfl⟩, rPop, mt_pop, fun Q k => ⟨p, vs, v, rfl, rfl, hp, by rw [r.length]; exact v1, k v _ r.dropLast fun d' e => by cases e; exact v2⟩⟩
def mPop (ds : List D) : D → Option (Val × List D)
  | .int i => if -(2 ^ 63) ≤ i ∧ i < 2 ^ 63 then (seqIndex? i ds.length).bind fun k => (ds[k]?).map fun d => (.frz d, ds.eraseIdx k) else none
  | _ => none
theorem mk_pop : MutOk X "list.pop" mPop := fun F H p vs ds v d val ds' fh hp r rv h => by
  cases d with
  | int i =>
    cases rv
    simp only [mPop] at h
    split at h
    · rename_i hi
      cases q : seqIndex? i ds.length with
      | none =>
        rw [q] at h
        cases h
      | some j =>
        rw [q] at h
        simp only [Option.bind_some] at h
        cases q2 : ds[j]? with
        | none =>
          rw [q2] at h
          cases h
        | some d =>
          rw [q2] at h
          cases h
          obtain ⟨v, v1, v2⟩ := r.get _ q2
          exact ⟨⟨_, rfl⟩, rPopAt, mt_popAt, fun Q k => ⟨p, vs, i, j, v, rfl, rfl, hp, hi.1, hi.2, by rw [r.length]; exact q, v1, k v _ (r.erase j) fun d' e => by cases e; exact v2⟩⟩
    · cases h
  | _ => cases h
def mClear (ds : List D) : Option (Val × List D) := some (.frz .none, [])
theorem mk_clear : MutOk0 X "list.clear" mClear := fun F H p vs ds val ds' fh hp r h => by
  cases h
  exact ⟨⟨_, rfl⟩, rClear, mt_clear, fun Q k => ⟨p, vs, rfl, rfl, hp, k .non [] .nil fun d' e => by cases e; exact .non⟩⟩
end

/-- extend, by a list or a tuple -/
theorem ext_any (T : String) (hT : T = "list" ∨ T = "tuple") (l : Addr) (items : Array Value) (n : Nat) (b : Addr) (items2 : Array Value) (n2 : Nat) (dd2 : Option Addr) (sl2 : Array (Option Value))
    (hc0 : ¬(!items.isEmpty && Builtin.List.listTooLong (items.size + items2.size)) = true) (hc1 : items.size ≤ sizeLine) (hs2 : items.size + items2.size ≤ sizeLine + 1) :
    Meets (Builtin.«list.extend» ⟨[.ref l, .ref b], []⟩) (fun _ R s => s.heap.get? l = some { cls := .type "list", data := .seq items n } ∧ s.heap.get? b = some { cls := .type T, dict := dd2, data := .seq items2 n2, slots := sl2 } ∧
      R (.ok (.ret Value.none)) { s with heap := s.heap.update l (Obj.mapSeq fun x => x ++ items2), toks := s.toks }) :=
  .of_wp fun prog w A R s h => by
    obtain ⟨hp, g, d, tk, os⟩ := s
    obtain ⟨hl, hb, h⟩ := h
    have f1 := AutoSeq1.idx_int
    have f2 := AutoSeq1.sub_tuple_tuple
    have f3 := AutoSeq1.sub_list_list
    have f4 := AutoSeq1.sub_tuple_list
    have f5 := AutoSeq1.sub_list_tuple
    have hz' : (items ++ items2).size ≤ sizeLine + 1 := by
      rw [Array.size_append]
      exact hs2
    rcases hT with rfl | rfl
    · wp_walk using (wpAny_updateSeq hl rfl (hz := hc1) (_hz' := hz')), AutoSeq1.wpAny_loadPart' hl, AutoSeq1.wpAny_loadPart' hb
      exact ⟨_, rfl, h⟩
    · wp_walk using (wpAny_updateSeq hl rfl (hz := hc1) (_hz' := hz')), AutoSeq1.wpAny_loadPart' hl, AutoSeq1.wpAny_loadPart' hb
      exact ⟨_, rfl, h⟩
section
variable {X : Cx}
def rExtA (K : PySem.W.Frag) : V → List V → Hp → VK → Prop := fun x vs H Q => ∃ l b xs zs, x = .ref l ∧ vs = [.ref b] ∧ H l = some (.lst xs) ∧ (SqL K H b zs ∨ SqT K H b zs) ∧ xs.length + zs.length ≤ sizeLine ∧ Q .non (upd H l (.lst (xs ++ zs)))
theorem mt_extA : MtR X "list.extend" (rExtA X.K) := by
  intro pins s σ H x vs v us Q I rx rv h
  obtain ⟨l, b, xs, zs, rfl, rfl, hH, hB, hz, q⟩ := h
  cases rx
  obtain ⟨u, rfl, ru⟩ := rv.one
  cases ru
  obtain ⟨_, its, n, r, hl, e⟩ := I.lstM hH
  have go : ∀ (its2 : List Value) (T : String) (n2 : Nat) (dd2 : Option Addr) (sl2 : Array (Option Value)), (T = "list" ∨ T = "tuple") → Vals zs its2 →
      s.heap.get? b = some { cls := .type T, dict := dd2, data := .seq its2.toArray n2, slots := sl2 } → wpAny (model X.prog X.w) X.A (call (.builtin "list.extend") [.ref l, .ref b]) (EP X pins σ Q) X.xe s := by
    intro its2 T n2 dd2 sl2 hT r2 e2
    have hl2 := r2.length
    have hsz : its.toArray.size + its2.toArray.size ≤ sizeLine := by
      rw [List.size_toArray, List.size_toArray]
      omega
    have hlong : ¬ (!its.toArray.isEmpty && Builtin.List.listTooLong (its.toArray.size + its2.toArray.size)) = true := by
      rw [notLongL hsz, Bool.and_false]
      exact Bool.false_ne_true
    refine call_meets PySem.F.slot_list_extend ⟨_, e, rfl⟩ PySem.F.entry_list_extend (PySem.F.args_list_extend_2 _ _) (ext_any T hT l its.toArray n b its2.toArray n2 dd2 sl2 hlong (by rw [List.size_toArray]; omega) (by omega)) ⟨e, e2, ?_⟩
    exact ⟨.non, _, I.lset (its' := its ++ its2) hH e (by simp) (r.append r2) (by rw [List.length_append]; omega), rfl, q⟩
  rcases hB with hB | hB
  · obtain ⟨its2, r2, ⟨⟨cls2, dd2, data2, sl2⟩, n2, e2, hc2, hd2, hdt2⟩, _⟩ := I.list hB
    simp only at hc2 hd2 hdt2
    subst hc2 hd2 hdt2
    exact go its2 "list" n2 _ sl2 (Or.inl rfl) r2 e2
  · obtain ⟨its2, r2, ⟨⟨cls2, dd2, data2, sl2⟩, e2, hc2, n2, hdt2⟩, _⟩ := I.tuple hB
    simp only at hc2 hdt2
    subst hc2 hdt2
    exact go its2 "tuple" n2 _ sl2 (Or.inr rfl) r2 e2
def mExt (ds : List D) : D → Option (Val × List D)
  | .list es => if ds.length + es.length ≤ sizeLine then some (.frz .none, ds ++ es) else none
  | .tuple es => if ds.length + es.length ≤ sizeLine then some (.frz .none, ds ++ es) else none
  | _ => none
theorem mk_extend : MutOk X "list.extend" mExt := fun F H p vs ds v d val ds' fh hp r rv h => by
  have l1 := r.length
  cases d with
  | list es =>
    simp only [mExt] at h
    split at h
    · cases h
      cases rv with
      | lst s1 r1 =>
        have l2 := r1.length
        exact ⟨⟨_, rfl⟩, rExtA X.K, mt_extA, fun Q k => ⟨p, _, vs, _, rfl, rfl, hp, Or.inl (ex_l fh s1), by omega, k .non _ (r.append r1) fun d' e => by cases e; exact .non⟩⟩
    · cases h
  | tuple es =>
    simp only [mExt] at h
    split at h
    · cases h
      cases rv with
      | tup s1 r1 =>
        have l2 := r1.length
        exact ⟨⟨_, rfl⟩, rExtA X.K, mt_extA, fun Q k => ⟨p, _, vs, _, rfl, rfl, hp, Or.inr (ex_t fh s1.sq), by omega, k .non _ (r.append r1) fun d' e => by cases e; exact .non⟩⟩
    · cases h
  | _ => cases h
end

/-! ### xs[i] = e, a, b = .., x += e -/
def sSetIx (i : Nat) (fv fi : Env → Out (Val × Env)) : Env → Out (Fl × Env) := fun e => sE e ((fz fv e).bind asD) fun d e1 => match e1[i]? with
  | some (.own (.lst _)) => sE e1 (fz fi e1) fun n e2 => match n, e2[i]? with
    | .frz (.int n), some (.own (.lst ds)) => match ixN ds.length n with
      | some j => .ok (.nx, e2.set i (.own (.lst (ds.set j d))))
      | none => .bad
    | _, _ => .bad
  | _ => .bad
theorem EVt.asD {c : Cf} {t : TE} {f : Env → Out (Val × Env)} (h : EVt c t f) (s : Sta) (Q : V → Hp → Prop) (z : St c.K s) (k : Nat) (D : Ends) (g : PyData → Env → Out (Fl × Env)) (p : SPost c k s D (sE s.e ((BV.fz f s.e).bind BV.asD) g))
    (hk : ∀ v d e1 F1 H1, Stp s ⟨F1, H1, s.σ, e1⟩ → Par k s ⟨F1, H1, s.σ, e1⟩ → St c.K ⟨F1, H1, s.σ, e1⟩ → Rp c.K F1 v d → SPost c k s D (g d e1) → Q v H1) : t s.σ s.H Q := by
  refine h.fz s Q z ?_
  revert p
  cases BV.fz f s.e with
  | bad => exact fun p => p
  | exc xx e1 =>
    simp only [Out.bind_exc, sE]
    split
    · rename_i kb
      intro p C oe F' H' x y xr
      exact p C oe F' H' s.σ x y xr (Par.of kb)
    · exact fun p => False.elim p
  | ok w =>
    obtain ⟨val, e1⟩ := w
    cases val with
    | new o => exact fun p => False.elim p
    | bor j => exact fun p => False.elim p
    | frz d =>
      simp only [Out.bind_ok, BV.asD, sE]
      split
      · rename_i kb
        intro p v F1 H1 x y r
        exact hk v d e1 F1 H1 x (Par.of kb) y r p
      · exact fun p => False.elim p
def sUnp (k : Nat) (is : List Nat) (f : Env → Out (Val × Env)) : Env → Out (Fl × Env) := fun e => sE e ((fz f e).bind asD) fun d e1 => match d with
  | .tuple ds => match putAll k is ds e1 with
    | some e2 => .ok (.nx, e2)
    | none => .bad
  | _ => .bad
def sPar (k : Nat) (is : List Nat) (f : Env → Out (List D × Env)) : Env → Out (Fl × Env) := fun e => sE e (f e) fun ds e1 => match putAll k is ds e1 with
  | some e2 => .ok (.nx, e2)
  | none => .bad
def sAug (k i : Nat) (g : Int → Int → Int) (f : Env → Out (Val × Env)) : Env → Out (Fl × Env) := fun e => match e[i]? with
  | some (.frz (.int a)) => sE e (fz f e) fun v e1 => match v with
    | .frz (.int b) => if asgOk k e1 i = true then .ok (.nx, e1.set i (.frz (.int (g a b)))) else .bad
    | _ => .bad
  | _ => .bad
section
variable {X : Cx} {cm : CMap} {W : WX} {k : Nat} {pos : Pos} {a b : Expr} {fa fb : Env → Out (Val × Env)} {fs : Env → Out (List D × Env)}
theorem sv_setIx {x : Str} {np sp : Pos} (i : Nat) (hv : EV X cm W a fa) (hi : EV X cm W b fb) (hN : X.N[i]? = some x := by rfl) (hvs : Vis X.env.scope x := by first | exact Or.inl rfl | exact Or.inr (Or.inl rfl) | exact Or.inr (Or.inr rfl))
    (hd : (x == ("__debug__" : Str)) = false := by decide) (hcd : (x == ("__classdict__" : Str)) = false := by decide)
    (hs : swapsWithSole [.Subscript (.Name x np) b sp] a pos.line X.env = pure false := by rfl) (hw : swappedStores [.Subscript (.Name x np) b sp] a X.env = pure none := by rfl) (h1 : (assignEach [.Subscript (.Name x np) b sp] X.env).map (·.2) = [assign (.Subscript (.Name x np) b sp) X.env] := by rfl)
    (has : ∀ v, assign (.Subscript (.Name x np) b sp) X.env v = (do
      let ov ← holding [v] (eval (.Name x np) X.env)
      let iv ← holding [v, ov] (eval b X.env)
      standAt sp
      holding [v, ov, iv] (setItem ov iv v)
      release [v, ov, iv] []) := by intro _; rfl) : SV X cm W k (.Assign [.Subscript (.Name x np) b sp] a pos) (sSetIx i fa fb) := by
  obtain ⟨ta, pa, ea⟩ := hv
  obtain ⟨tb, pb, eb⟩ := hi
  refine ⟨_, ps_asg pa (pg_sub (pe_var hN hvs hd hcd) pb set_list has) hs hw h1, fun s D z p => ?_⟩
  refine EVt.asD ea s _ z k D _ p fun v d e1 F1 H1 x1 q1 y1 r p1 => ?_
  split at p1
  · rename_i ds0 g0
    obtain ⟨q, k1, _⟩ := y1.own i _ g0
    refine ⟨.ref q, k1, ?_⟩
    refine eb.fz.stepS (s := ⟨F1, H1, s.σ, e1⟩) y1 (p1.later x1 q1) fun v2 n e2 F2 H2 _ x2 q2 y2 r2 p2 => ?_
    split at p2
    · rename_i n ds g _
      cases (show Rp X.K F2 v2 (.int n) from r2)
      cases hj : ixN ds.length n with
      | none =>
        rw [hj] at p2
        exact False.elim p2
      | some j =>
        rw [hj] at p2
        obtain ⟨q', k1', ⟨k2, _, vs, k3, k4⟩⟩ := y2.own i _ g
        have k1' : s.σ[i]? = some (some (V.ref q')) := k1'
        have k1 : s.σ[i]? = some (some (V.ref q)) := k1
        rw [k1] at k1'
        cases k1'
        refine ⟨q, vs, n, j, rfl, rfl, k3, by rw [k4.length]; exact hj, ?_⟩
        have r4 : Rp X.K F2 v d := Rp.mono x2.ff r
        exact p2 F2 (upd H2 q (.lst (vs.set j v))) s.σ (x2.trans (St.mutL y2 g k1 (k4.set r4 j)).2) (q2.trans fun l o hl go => ⟨rfl, by
          by_cases e : i = l
          · subst e
            exact ⟨_, List.getElem?_set_self (List.getElem?_eq_some_iff.mp g).1⟩
          · exact ⟨o, (List.getElem?_set_ne e).trans go⟩⟩) (St.mutL y2 g k1 (k4.set r4 j)).1
    · exact False.elim p2
  · exact False.elim p1
theorem sv_unp {es : List Expr} {kk n : Nat} {tp : Pos} (is : List Nat) (hc : X.calm = true) (hg : PGs X es (gNames is)) (hl : is.length = n) (ha : EV X cm W a fa)
    (hn : (assignEach es X.env).length = n := by rfl) (hst : (assignEach es X.env).findIdx? (·.1) = none := by rfl)
    (hs : swapsWithSole [.Tuple es kk tp] a pos.line X.env = pure false := by rfl) (hw : swappedStores [.Tuple es kk tp] a X.env = pure none := by rfl) (h1 : (assignEach [.Tuple es kk tp] X.env).map (·.2) = [assign (.Tuple es kk tp) X.env] := by rfl) :
    SV X cm W k (.Assign [.Tuple es kk tp] a pos) (sUnp k is fa) := by
  obtain ⟨ta, pa, ea⟩ := ha
  refine ⟨_, ps_asg pa (pg_tup hc hg hn hst) hs hw h1, fun s D z p => ?_⟩
  refine EVt.asD ea s _ z k D _ p fun v d e1 F1 H1 x1 q1 y1 r p1 => ?_
  split at p1
  · rename_i ds
    cases hp : putAll k is ds e1 with
    | none =>
      rw [hp] at p1
      exact False.elim p1
    | some e2 =>
      rw [hp] at p1
      refine pg_t (c := cf X cm W) (k := k) hl ⟨F1, H1, s.σ, e1⟩ v (.tuple ds) e2 _ y1 (Or.inl r) hp fun σ' x2 q2 y2 _ _ => ?_
      exact p1 F1 H1 σ' (x1.trans x2) (q1.trans q2) y2
  · exact False.elim p1
theorem EAt.stepS {c : Cf} {k : Nat} {t : TA} {f : Env → Out (List D × Env)} {g : List D → Env → Out (Fl × Env)} {s : Sta} {D : Ends} {R : List V → Hp → Prop} (h : EAt c t f) (z : St c.K s) (p : SPost c k s D (sE s.e (f s.e) g))
    (hk : ∀ vs ds e1 F1 H1, Stp s ⟨F1, H1, s.σ, e1⟩ → Par k s ⟨F1, H1, s.σ, e1⟩ → St c.K ⟨F1, H1, s.σ, e1⟩ → RpA c.K F1 vs ds → SPost c k s D (g ds e1) → R vs H1) : t s.σ s.H R := by
  refine h s R z ?_
  revert p
  unfold sE
  cases f s.e with
  | bad => exact fun p => p
  | exc xx e1 =>
    simp only
    split
    · rename_i kb
      intro p C oe F' H' x y xr
      exact p C oe F' H' s.σ x y xr (Par.of kb)
    · exact fun p => p.elim
  | ok a =>
    obtain ⟨ds, e1⟩ := a
    simp only
    split
    · rename_i kb
      intro p vs F1 H1 x y r
      exact hk vs ds e1 F1 H1 x (Par.of kb) y r p
    · exact fun p => p.elim
theorem sv_par2 {x y : Str} {px py pt : Pos} {kt k2 : Nat} {pt2 : Pos} (i j : Nat) (hc : X.calm = true) (hN : X.N.Nodup) (ha : EA X cm W [a, b] fs) (hi : X.N[i]? = some x := by rfl) (hj : X.N[j]? = some y := by rfl) (hij : i ≠ j := by decide)
    (hx : X.env.scope.names.lookup x = some .local := by rfl) (hy : X.env.scope.names.lookup y = some .local := by rfl) (hw : swappedStores [.Tuple [.Name x px, .Name y py] kt pt] (.Tuple [a, b] k2 pt2) X.env = pure (some [x, y]) := by rfl)
    (hs : swapsWithSole [.Tuple [.Name x px, .Name y py] kt pt] (.Tuple [a, b] k2 pt2) pos.line X.env = pure false := by rfl) : SV X cm W k (.Assign [.Tuple [.Name x px, .Name y py] kt pt] (.Tuple [a, b] k2 pt2) pos) (sPar k [i, j] fs) := by
  obtain ⟨ta, pa, ea⟩ := ha
  refine ⟨_, ps_par hc hN hi hj hij hx hy pa hw hs, fun s D z p => ?_⟩
  refine ea.stepS z p fun vs ds e1 F1 H1 x1 q1 y1 r p1 => ?_
  cases hp : putAll k [i, j] ds e1 with
  | none =>
    rw [hp] at p1
    exact False.elim p1
  | some e2 =>
    rw [hp] at p1
    obtain ⟨v, vs, rfl, w, vs', rfl, rfl, h⟩ := pgs_n (c := cf X cm W) (k := k) [i, j] ⟨F1, H1, s.σ, e1⟩ vs ds e2 (fun σ' H' => D.nx σ' H') y1 r hp fun σ' x2 q2 y2 _ _ => p1 F1 H1 σ' (x1.trans x2) (q1.trans q2) y2
    exact ⟨v, w, rfl, h⟩
theorem sv_par3 {c' : Expr} {x y w : Str} {px py pz pt : Pos} {kt k2 : Nat} {pt2 : Pos} (i j l : Nat) (hc : X.calm = true) (hN : X.N.Nodup) (ha : EA X cm W [a, b, c'] fs) (hi : X.N[i]? = some x := by rfl) (hj : X.N[j]? = some y := by rfl) (hl : X.N[l]? = some w := by rfl)
    (hij : i ≠ j := by decide) (hil : i ≠ l := by decide) (hjl : j ≠ l := by decide)
    (hx : X.env.scope.names.lookup x = some .local := by rfl) (hy : X.env.scope.names.lookup y = some .local := by rfl) (hz : X.env.scope.names.lookup w = some .local := by rfl) (hw : swappedStores [.Tuple [.Name x px, .Name y py, .Name w pz] kt pt] (.Tuple [a, b, c'] k2 pt2) X.env = pure (some [x, y, w]) := by rfl)
    (hs : swapsWithSole [.Tuple [.Name x px, .Name y py, .Name w pz] kt pt] (.Tuple [a, b, c'] k2 pt2) pos.line X.env = pure false := by rfl) : SV X cm W k (.Assign [.Tuple [.Name x px, .Name y py, .Name w pz] kt pt] (.Tuple [a, b, c'] k2 pt2) pos) (sPar k [i, j, l] fs) := by
  obtain ⟨ta, pa, ea⟩ := ha
  refine ⟨_, ps_par3 hc hN hi hj hl hij hil hjl hx hy hz pa hw hs, fun s D z p => ?_⟩
  refine ea.stepS z p fun vs ds e1 F1 H1 x1 q1 y1 r p1 => ?_
  cases hp : putAll k [i, j, l] ds e1 with
  | none =>
    rw [hp] at p1
    exact False.elim p1
  | some e2 =>
    rw [hp] at p1
    obtain ⟨v, vs, rfl, w, vs', rfl, u, vs2, rfl, rfl, h⟩ := pgs_n (c := cf X cm W) (k := k) [i, j, l] ⟨F1, H1, s.σ, e1⟩ vs ds e2 (fun σ' H' => D.nx σ' H') y1 r hp fun σ' x2 q2 y2 _ _ => p1 F1 H1 σ' (x1.trans x2) (q1.trans q2) y2
    exact ⟨v, w, u, rfl, h⟩
theorem sv_aug {x : Str} {xp : Pos} {op : Operator} {g : Int → Int → Int} (i : Nat) (hN : X.N.Nodup) (ho : PIp X op (ipI g)) (ha : EV X cm W a fa) (hi : X.N[i]? = some x := by rfl) (hx : Loc X.env.scope x := by first | exact Or.inl rfl | exact Or.inr rfl)
    (hf : X.fn x = true ∨ X.env.scope.names.lookup x = some .local := by first | exact .inl rfl | exact .inr rfl | assumption) : SV X cm W k (.AugAssign (.Name x xp) op a pos) (sAug k i g fa) := by
  obtain ⟨ta, pa, ea⟩ := ha
  refine ⟨_, ps_aug hN hi hx pa ho hf, fun s D z p => ?_⟩
  unfold sAug at p
  split at p
  · rename_i n g0
    obtain ⟨v, v1, v2⟩ := z.frz i _ g0
    cases v2
    refine ⟨.int n, v1, ?_⟩
    refine ea.fz.stepS z p fun v2 val e1 F1 H1 _ x1 q1 y1 r1 p1 => ?_
    split at p1
    · rename_i m _
      cases (show Rp X.K F1 v2 (.int m) from r1)
      split at p1
      · rename_i ok
        exact ⟨n, m, rfl, rfl, p1 F1 H1 _ (Stp.put x1) (q1.trans (Par.set ok)) (St.put y1 (.int _))⟩
      · exact False.elim p1
    · exact False.elim p1
  · exact False.elim p
end
end BV
namespace BV
open PySem PySem.Spec PyProof.Rows PySem.SeqAt L2

/-! ### methods of what is not changed -/
def tyS (K : PySem.W.Frag) (T : String) (x : V) (H : Hp) : Prop := tyV K T x H ∨ (T = "tuple" ∧ ∃ a xs, x = .ref a ∧ TupS H a xs)
def tyD : D → String
  | .str _ => "str"
  | .list _ => "list"
  | .tuple _ => "tuple"
  | .dict _ => "dict"
  | .int _ => "int"
  | _ => ""
section
variable {X : Cx}
theorem tyS_is {pins : List (Addr × Obj)} {σ : L2.St} {H : Hp} {s : Shared} {T : String} {x : V} {v : Value} (I : L2.Inv X pins σ H s) (r : RelV x v) (ty : tyS X.K T x H) :
    s.TypeIs v T ∧ ∀ a, v = .ref a → ∃ ob, s.heap.get? a = some ob ∧ ob.dict = none := by
  rcases ty with ty | ⟨rfl, p, xs, rfl, o, e, hc, hd⟩
  · exact tyV_is I r ty
  · cases r
    obtain ⟨g, _⟩ := I.hok p _ e
    refine ⟨⟨o, g, hc⟩, fun a e2 => ?_⟩
    cases e2
    exact ⟨o, g, hd⟩
theorem Opn.ty {F H : Hp} (e : Ex F H) {x : V} {d : D} (h : Opn X.K F H x d) (n : tyD d ≠ "") : tyS X.K (tyD d) x H := by
  cases d with
  | none => exact absurd rfl n
  | bool b => exact absurd rfl n
  | int i =>
    cases (show Rp X.K F x (.int i) from h)
    exact Or.inl rfl
  | str z =>
    cases (show Rp X.K F x (.str z) from h)
    exact Or.inl rfl
  | tuple ds =>
    cases (show Rp X.K F x (.tuple ds) from h) with
    | tup s r => exact Or.inr ⟨rfl, _, _, rfl, s.mono e⟩
  | list ds =>
    obtain ⟨a, xs, rfl, s, _⟩ := h
    exact Or.inl (Or.inl ⟨rfl, xs, s⟩)
  | dict kvs =>
    obtain ⟨a, es, rfl, s, _⟩ := h
    exact Or.inl (Or.inr (Or.inr (Or.inl ⟨rfl, Or.inl ⟨es, s⟩⟩)))
variable {o e : Expr} {es : List Expr} {to : TE} {t : TA} {name : Str} {apos cpos : Pos} {T id : String} {r : V → List V → Hp → VK → Prop}
def tMS0 (K : PySem.W.Frag) (T : String) (r : V → List V → Hp → VK → Prop) (to : TE) : TE := fun σ H Q => to σ H fun x H1 => tyS K T x H1 ∧ r x [] H1 Q
def tMS (K : PySem.W.Frag) (T : String) (r : V → List V → Hp → VK → Prop) (to : TE) (t : TA) : TE := fun σ H Q => to σ H fun x H1 => tyS K T x H1 ∧ t σ H1 fun xs H2 => r x xs H2 Q
theorem pe_ms0 (pa : PlainAttrs T) (slot : PySem.Slot T name id) (hty : typeOf (.builtin id) = pure (.type "method_descriptor")) (hm : MtR X id r) (ho : PE X o to)
    (h1 : attributeBase o name X.env (eval o X.env) = eval o X.env) (h3 : (apos.endLine == cpos.line) = true) : PE X (.Call (.Attribute o name apos) [] [] cpos) (tMS0 X.K T r to) := by
  refine ⟨fun pins s σ H Q I h => wpAny_Call_method0_late h1 h3 (thn (ho.run pins s σ H _ I h) fun v s1 hh => ?_)⟩
  obtain ⟨x, H1, I1, r1, ty, q1⟩ := hh
  have w := tyS_is I1 r1 ty
  exact ⟨T, id, pa, slot, hty, w.1, w.2, Calls.callWith_builtin rfl (PySem.evalArgs_none (hm pins s1 σ H1 x [] v [] Q I1 r1 .nil q1))⟩
theorem pe_ms (pa : PlainAttrs T) (slot : PySem.Slot T name id) (hty : typeOf (.builtin id) = pure (.type "method_descriptor")) (hm : MtR X id r) (ho : PE X o to) (ha : PA X (e :: es) t)
    (h1 : attributeBase o name X.env (eval o X.env) = eval o X.env)
    (h2 : (((backTo cpos (starEach (e :: es) X.env)).all fun y => !y.1) && ((backToKw cpos (keywordEach [] X.env)).all fun y => y.1.isSome) && decide (((e :: es).length + ([] : List Keyword).length + if ([] : List Keyword).isEmpty = true then 0 else 1) < 30)) = true)
    (h3 : (apos.endLine == cpos.line) = true) (hs : starEach (e :: es) X.env = (false, eval e X.env) :: starEach es X.env) (hpl : (backTo cpos (starEach es X.env)).any (·.1) = false) :
    PE X (.Call (.Attribute o name apos) (e :: es) [] cpos) (tMS X.K T r to t) := by
  refine ⟨fun pins s σ H Q I h => wpAny_Call_method_late h1 h2 h3 rfl (thn (ho.run pins s σ H _ I h) fun v s1 hh => ?_)⟩
  obtain ⟨x, H1, I1, r1, ty, q1⟩ := hh
  have w := tyS_is I1 r1 ty
  refine ⟨T, id, pa, slot, hty, w.1, w.2, ?_⟩
  have hA := ha.run cpos pins s1 σ H1 _ I1 q1
  rw [hs] at hA ⊢
  refine Calls.callWith_builtin (by show (false || (backTo cpos (starEach es X.env)).any (·.1)) = false; rw [hpl] <;> rfl) (Calls.evalArgs_plain (thn hA fun us s2 hh => ?_))
  obtain ⟨vs, H2, I2, r2, q2⟩ := hh
  exact hm pins s2 σ H2 x vs v us Q I2 r1 r2 q2
end
/-- o.m(e) by data -/
def meth (T : String) (g : D → D → Option Val) (fa fb : Env → Out (Val × Env)) : Env → Out (Val × Env) := fun e => (fz fa e).bind fun a => match opd a.2 a.1 with
  | some x => if tyD x = T then (fz fb a.2).bind fun b => match opd b.2 a.1, opd b.2 b.1 with
      | some x, some y => res (g x y) b.2
      | _, _ => .bad
    else .bad
  | none => .bad
def meth0 (T : String) (g : D → Option Val) (fa : Env → Out (Val × Env)) : Env → Out (Val × Env) := fun e => (fz fa e).bind fun a => match opd a.2 a.1 with
  | some x => if tyD x = T then res (g x) a.2 else .bad
  | none => .bad
def rM1 (K : PySem.W.Frag) (g : D → D → Option Val) : V → List V → Hp → VK → Prop := fun x xs H Q => ∃ y, xs = [y] ∧ rG K g x y H Q
def rM0 (K : PySem.W.Frag) (g : D → Option Val) : V → List V → Hp → VK → Prop := fun x xs H Q => xs = [] ∧ rG1 K g x H Q
section
variable {X : Cx} {cm : CMap} {W : WX} {apos cpos : Pos} {a b : Expr} {fa fb : Env → Out (Val × Env)} {name : Str} {T id : String}
theorem ev_meth {g : D → D → Option Val} (m : MtR X id (rM1 X.K g)) (hP : PlainAttrs T) (hS : PySem.Slot T name id) (hT : typeOf (.builtin id) = pure (.type "method_descriptor")) (ha : EV X cm W a fa) (hb : EV X cm W b fb)
    (nT : T ≠ "" := by decide)
    (h1 : attributeBase a name X.env (eval a X.env) = eval a X.env := by rfl)
    (h2 : (((backTo cpos (starEach [b] X.env)).all fun y => !y.1) && ((backToKw cpos (keywordEach [] X.env)).all fun y => y.1.isSome) && decide ((([b] : List Expr).length + ([] : List Keyword).length + if ([] : List Keyword).isEmpty = true then 0 else 1) < 30)) = true := by rfl)
    (h3 : (apos.endLine == cpos.line) = true := by rfl) (hs : starEach [b] X.env = (false, eval b X.env) :: starEach [] X.env := by rfl) (hpl : (backTo cpos (starEach [] X.env)).any (·.1) = false := by rfl) :
    EV X cm W (.Call (.Attribute a name apos) [b] [] cpos) (meth T g fa fb) := by
  obtain ⟨ta, pa, ea⟩ := ha
  obtain ⟨tb, pb, eb⟩ := hb
  refine ⟨_, pe_ms hP hS hT m pa (pa_cons pb pa_nil hs) h1 h2 h3 hs hpl, fun s Q z p => ?_⟩
  refine ea.fz.step' z p fun v val e1 F1 H1 q1 x y r p1 => ?_
  simp only at p1
  cases q : opd e1 val with
  | none =>
    rw [q] at p1
    exact p1.elim
  | some d0 =>
    rw [q] at p1
    simp only at p1
    split at p1
    · rename_i ht
      subst ht
      refine ⟨(r.opn y q).ty y.fh nT, ?_⟩
      refine eb.fz.step' y p1 fun v2 val2 e2 F2 H2 q2 x2 y2 r2 p2 => ?_
      simp only at p2
      cases o1 : opd e2 val with
      | none =>
        rw [o1] at p2
        exact p2.elim
      | some d1 =>
        cases o2 : opd e2 val2 with
        | none =>
          rw [o1, o2] at p2
          exact p2.elim
        | some d2 =>
          rw [o1, o2] at p2
          obtain ⟨w, e, k⟩ := p2.gives
          exact ⟨v2, rfl, _, d1, d2, w, rfl, y2, ((r.later (s1 := s) x2 rfl (fz_noNew q1) o1).opn y2 o1), r2.opn y2 o2, e, k⟩
    · exact p1.elim
theorem ev_meth0 {g : D → Option Val} (m : MtR X id (rM0 X.K g)) (hP : PlainAttrs T) (hS : PySem.Slot T name id) (hT : typeOf (.builtin id) = pure (.type "method_descriptor")) (ha : EV X cm W a fa) (nT : T ≠ "" := by decide)
    (h1 : attributeBase a name X.env (eval a X.env) = eval a X.env := by rfl) (h3 : (apos.endLine == cpos.line) = true := by rfl) :
    EV X cm W (.Call (.Attribute a name apos) [] [] cpos) (meth0 T g fa) := by
  obtain ⟨ta, pa, ea⟩ := ha
  refine ⟨_, pe_ms0 hP hS hT m pa h1 h3, fun s Q z p => ?_⟩
  refine ea.fz.step' z p fun v val e1 F1 H1 q1 x y r p1 => ?_
  simp only at p1
  cases q : opd e1 val with
  | none =>
    rw [q] at p1
    exact p1.elim
  | some d0 =>
    rw [q] at p1
    simp only at p1
    split at p1
    · rename_i ht
      subst ht
      obtain ⟨w, e, k⟩ := p1.gives
      exact ⟨(r.opn y q).ty y.fh nT, rfl, _, d0, w, rfl, y, r.opn y q, e, k⟩
    · exact p1.elim
end
def cmpOk (xs : List D) (d : D) : Prop := PyData.plainAll xs = true ∧ d.plain = true ∧ min (PyData.depthAll xs) d.depth ≤ 100
instance (xs : List D) (d : D) : Decidable (cmpOk xs d) := by unfold cmpOk; infer_instance
def gIdxT : D → D → Option Val
  | .tuple xs, d => if cmpOk xs d then (dataPlace xs d).map fun j => .frz (.int (j : Nat)) else none
  | _, _ => none
def gIdxL : D → D → Option Val
  | .list xs, d => if cmpOk xs d then (dataPlace xs d).map fun j => .frz (.int (j : Nat)) else none
  | _, _ => none
def gCntT : D → D → Option Val
  | .tuple xs, d => if cmpOk xs d then some (.frz (.int ((xs.countP fun y => PyData.eqv y d : Nat) : Int))) else none
  | _, _ => none
def gCntL : D → D → Option Val
  | .list xs, d => if cmpOk xs d then some (.frz (.int ((xs.countP fun y => PyData.eqv y d : Nat) : Int))) else none
  | _, _ => none
section
variable {X : Cx}
theorem Opn.list {pins : List (Addr × Obj)} {σ : L2.St} {F H : Hp} {s : Shared} (I : L2.Inv X pins σ H s) (e : Ex F H) {x : V} {v : Value} {ds : List D} (h : Opn X.K F H x (.list ds)) (r : RelV x v) :
    ∃ l its as, v = .ref l ∧ s.heap.IsList l its.toArray ∧ ReadsAll s.heap its ds as ∧ ds.length ≤ sizeLine := by
  obtain ⟨a, xs, rfl, hs, ha⟩ := h
  cases r
  obtain ⟨its, rv, pl, hz⟩ := I.list hs
  obtain ⟨as, hr⟩ := RpA.reads I ds _ its (ha.mono e) rv
  exact ⟨_, its, as, rfl, pl.isList, hr, by rw [← ha.length]; exact hz⟩
theorem Opn.tuple {pins : List (Addr × Obj)} {σ : L2.St} {F H : Hp} {s : Shared} (I : L2.Inv X pins σ H s) (e : Ex F H) {x : V} {v : Value} {ds : List D} (h : Opn X.K F H x (.tuple ds)) (r : RelV x v) :
    ∃ l its as, v = .ref l ∧ s.heap.IsTuple l its.toArray ∧ ReadsAll s.heap its ds as ∧ ds.length ≤ sizeLine := by
  cases (show Rp X.K F x (.tuple ds) from h) with
  | tup hs ha =>
    cases r
    obtain ⟨its, rv, pl, hz⟩ := I.tuple ((hs.mono e).sq (K := X.K))
    obtain ⟨as, hr⟩ := RpA.reads I ds _ its (ha.mono e) rv
    exact ⟨_, its, as, rfl, pl, hr, by rw [← ha.length]; exact hz⟩
theorem mt_idxT (hu : X.A.units + 150 < cLine) : MtR X "tuple.index" (rM1 X.K gIdxT) := by
  intro pins s σ H x xs v us Q I rx rs hq
  obtain ⟨y, rfl, S, dx, dy, val, rfl, z, ox, oy, g, k⟩ := hq
  obtain ⟨u, rfl, ry⟩ := Vals.one rs
  cases dx with
  | tuple ds =>
    simp only [gIdxT] at g
    split at g
    · rename_i c
      obtain ⟨c1, c2, c3⟩ := c
      cases hp : dataPlace ds dy with
      | none =>
        rw [hp] at g
        cases g
      | some j =>
        rw [hp] at g
        cases g
        obtain ⟨l, its, as, rfl, hl, r1, hz⟩ := ox.tuple I z.fh rx
        obtain ⟨bs, r2⟩ := Rp.reads I dy y u (oy.rp z.fh) ry
        have r1' : ReadsAll s.heap its.toArray.toList ds as := r1
        obtain ⟨⟨cls, dd, data, sl⟩, ho, hc, n, hd⟩ := id hl
        simp only at hc hd
        subst hc hd
        obtain ⟨hj, hit, hno⟩ := hit_at r1' c1 hp
        have q0 : (fun m => PyData.eqv (readOf s.heap (its.toArray[m]?.getD .none)) dy) j = true := by
          simp only [Array.getElem?_eq_getElem hj, Option.getD_some]
          exact hit
        refine call_meets F.slot_tuple_index ⟨_, ho, rfl⟩ F.entry_tuple_index (F.args_tuple_index_2 _ _)
          (tuple_index2_found l its.toArray n dd sl u (fun m => PyData.eqv (readOf s.heap (its.toArray[m]?.getD .none)) dy) j hj (Nat.zero_le _) hj q0 ?_) ⟨ho, fun m hm => ?_, ?_⟩
        · intro m hm _ hlt
          simp only [Array.getElem?_eq_getElem hm, Option.getD_some]
          exact hno m hm hlt
        · have h := items_plain (A := X.A) r1' r2 c1 c2 (by omega) its.toArray[m] (Array.getElem_mem hm)
          simp only [Array.getElem?_eq_getElem hm, Option.getD_some]
          exact h
        · exact ⟨.int _, S.H, I.tok _, ⟨_, rfl⟩, k.same z (.int _)⟩
    · cases g
  | _ => cases g
theorem mt_idxL (hu : X.A.units + 150 < cLine) : MtR X "list.index" (rM1 X.K gIdxL) := by
  intro pins s σ H x xs v us Q I rx rs hq
  obtain ⟨y, rfl, S, dx, dy, val, rfl, z, ox, oy, g, k⟩ := hq
  obtain ⟨u, rfl, ry⟩ := Vals.one rs
  cases dx with
  | list ds =>
    simp only [gIdxL] at g
    split at g
    · rename_i c
      obtain ⟨c1, c2, c3⟩ := c
      cases hp : dataPlace ds dy with
      | none =>
        rw [hp] at g
        cases g
      | some j =>
        rw [hp] at g
        cases g
        obtain ⟨l, its, as, rfl, hl, r1, hz⟩ := ox.list I z.fh rx
        obtain ⟨bs, r2⟩ := Rp.reads I dy y u (oy.rp z.fh) ry
        have r1' : ReadsAll s.heap its.toArray.toList ds as := r1
        obtain ⟨⟨cls, dd, data, sl⟩, ho, hc, n, hd⟩ := id hl
        simp only at hc hd
        subst hc hd
        obtain ⟨hj, hit, hno⟩ := hit_at r1' c1 hp
        have q0 : (fun m => PyData.eqv (readOf s.heap (its.toArray[m]?.getD .none)) dy) j = true := by
          simp only [Array.getElem?_eq_getElem hj, Option.getD_some]
          exact hit
        refine call_meets F.slot_list_index ⟨_, ho, rfl⟩ F.entry_list_index (F.args_list_index_2 _ _)
          (list_index2_found l its.toArray n dd sl u (fun m => PyData.eqv (readOf s.heap (its.toArray[m]?.getD .none)) dy) j hj (Nat.zero_le _) (by have e := len_at r1'; have : sizeLine = 2 ^ 24 := sizeLine_eq; omega) q0 ?_) ⟨ho, fun m hm => ?_, ?_⟩
        · intro m hm _ hlt
          simp only [Array.getElem?_eq_getElem hm, Option.getD_some]
          exact hno m hm hlt
        · have h := items_plain (A := X.A) r1' r2 c1 c2 (by omega) its.toArray[m] (Array.getElem_mem hm)
          simp only [Array.getElem?_eq_getElem hm, Option.getD_some]
          exact h
        · exact ⟨.int _, S.H, I.tok _, ⟨_, rfl⟩, k.same z (.int _)⟩
    · cases g
  | _ => cases g
theorem mt_cntT (hu : X.A.units + 150 < cLine) : MtR X "tuple.count" (rM1 X.K gCntT) := by
  intro pins s σ H x xs v us Q I rx rs hq
  obtain ⟨y, rfl, S, dx, dy, val, rfl, z, ox, oy, g, k⟩ := hq
  obtain ⟨u, rfl, ry⟩ := Vals.one rs
  cases dx with
  | tuple ds =>
    simp only [gCntT] at g
    split at g
    · rename_i c
      obtain ⟨c1, c2, c3⟩ := c
      cases g
      obtain ⟨l, its, as, rfl, hl, r1, hz⟩ := ox.tuple I z.fh rx
      obtain ⟨bs, r2⟩ := Rp.reads I dy y u (oy.rp z.fh) ry
      exact count_tuple_data (vs := its.toArray) hl r1 r2 c1 c2 (by omega) ⟨.int _, S.H, I.tok _, ⟨_, rfl⟩, k.same z (.int _)⟩
    · cases g
  | _ => cases g
theorem mt_cntL (hu : X.A.units + 150 < cLine) : MtR X "list.count" (rM1 X.K gCntL) := by
  intro pins s σ H x xs v us Q I rx rs hq
  obtain ⟨y, rfl, S, dx, dy, val, rfl, z, ox, oy, g, k⟩ := hq
  obtain ⟨u, rfl, ry⟩ := Vals.one rs
  cases dx with
  | list ds =>
    simp only [gCntL] at g
    split at g
    · rename_i c
      obtain ⟨c1, c2, c3⟩ := c
      cases g
      obtain ⟨l, its, as, rfl, hl, r1, hz⟩ := ox.list I z.fh rx
      obtain ⟨bs, r2⟩ := Rp.reads I dy y u (oy.rp z.fh) ry
      exact count_list_data (vs := its.toArray) hl r1 r2 c1 c2 (by omega) ⟨.int _, S.H, I.tok _, ⟨_, rfl⟩, k.same z (.int _)⟩
    · cases g
  | _ => cases g
end
end BV
namespace BV
open PySem PySem.Spec PyProof.Rows L2

/-! ### repr -/
def gRepr (d : D) : Option Val := if nodic d = true ∧ d.showable = true ∧ d.depth ≤ 100 ∧ d.shown.length ≤ sizeLine then some (.frz (.str d.shown)) else none
mutual
theorem nodic_has : ∀ d : D, nodic d = true → d.hasDict = false
  | .none, _ => rfl
  | .bool _, _ => rfl
  | .int _, _ => rfl
  | .str _, _ => rfl
  | .list ds, h => by
    simp only [nodic] at h
    simpa [PyData.hasDict] using nodicA_has ds h
  | .tuple ds, h => by
    simp only [nodic] at h
    simpa [PyData.hasDict] using nodicA_has ds h
  | .dict _, h => by simp [nodic] at h
theorem nodicA_has : ∀ ds : List D, nodicA ds = true → PyData.hasDictAll ds = false
  | [], _ => rfl
  | d :: ds, h => by
    simp only [nodicA, Bool.and_eq_true] at h
    simp [PyData.hasDictAll, nodic_has d h.1, nodicA_has ds h.2]
end
section
variable {X : Cx}
theorem cd_repr (hg : X.A.guards = some []) (hu : X.A.units + 150 < cLine) : CallR X (.builtin "repr") (rL1 X.K gRepr) := by
  intro pins s σ H xs us Q I r hq
  obtain ⟨x, rfl, S, dx, val, rfl, z, ox, g, k⟩ := hq
  obtain ⟨u, rfl, rx⟩ := Vals.one r
  unfold gRepr at g
  split at g
  · rename_i c
    obtain ⟨c1, c2, c3, c4⟩ := c
    cases g
    have rp := ox.rp z.fh
    obtain ⟨as, r1⟩ := Rp.reads I dx x u rp rx
    have done : ∀ (h' : Heap) (t tk : Nat), (∀ b o, s.heap.get? b = some o → h'.get? b = some o) → EP X pins σ Q (.str dx.shown t) { s with heap := h', toks := tk } :=
      fun h' t tk kk => ⟨.str dx.shown, S.H, I.kept kk, ⟨_, rfl⟩, k.same z (.str _)⟩
    have viaRef : ∀ a, u = .ref a → wpAny (model X.prog X.w) X.A (call (.builtin "repr") [u]) (EP X pins σ Q) X.xe s := fun a e => by
      subst e
      exact repr_of_reads' r1 c2 (fun h => by rw [nodic_has dx c1] at h; cases h) hg (by omega) (fun _ _ e => e) (fun h' t tk kk => done h' t tk kk) c4
    cases rp with
    | non =>
      cases rx
      exact P.repr_of_none (done _ _ _ fun _ _ e => e)
    | bl b =>
      cases rx
      exact P.repr_of_bool (done _ _ _ fun _ _ e => e)
    | int i =>
      obtain ⟨t, rfl⟩ := rx
      exact P.repr_of_int (by simpa [PyData.showable] using c2) (done _ _ _ fun _ _ e => e)
    | str y =>
      obtain ⟨t, rfl⟩ := rx
      exact P.repr_of_str (done _ _ _ fun _ _ e => e) c4
    | lst _ _ =>
      cases rx
      exact viaRef _ rfl
    | tup _ _ =>
      cases rx
      exact viaRef _ rfl
    | dic _ _ =>
      cases rx
      exact viaRef _ rfl
  · cases g

/-! ### sorted(list) -/
def sortB (ds : List D) : Bool := ds.all (fun d => ds.all fun e => PySem.W.alike d e) && (ds.all (fun d => match d with
  | .tuple (_ :: _) => true
  | _ => false) || ds.all fun d => match d with
  | .none => false
  | .tuple _ => false
  | _ => true) && ds.all fun d => decide (d.depth ≤ 100)
def dLe (a b : D) : Bool := PySem.W.dataLe false (fun d : D => d) a b
def sortD (ds : List D) : List D := ds.mergeSort dLe
def gSorted : D → Option Val
  | .list ds => if sortB ds = true then some (.new (.lst (sortD ds))) else none
  | _ => none
theorem each_zip {s : Shared} {H : Hp} {pins : List (Addr × Obj)} {σ : L2.St} (I : L2.Inv X pins σ H s) : ∀ {xs : List V} {ds : List D} {us : List Value}, RpA X.K H xs ds → Vals xs us →
    PySem.W.EachIs (fun u (p : V × D) => RelV p.1 u ∧ Rp X.K H p.1 p.2) us (xs.zip ds) ∧ PySem.W.EachIs (fun u (p : V × D) => ∃ as, Reads s.heap u p.2 as) us (xs.zip ds)
  | _, _, _, .nil, .nil => ⟨.nil, .nil⟩
  | _, _, _, .cons r a, .cons v b => by
    obtain ⟨h1, h2⟩ := each_zip I a b
    exact ⟨.cons ⟨v, r⟩ h1, .cons (Rp.reads I _ _ _ r v) h2⟩
theorem each_out {F : Hp} : ∀ {us : List Value} {ps : List (V × D)}, PySem.W.EachIs (fun u (p : V × D) => RelV p.1 u ∧ Rp X.K F p.1 p.2) us ps → Vals (ps.map (·.1)) us ∧ RpA X.K F (ps.map (·.1)) (ps.map (·.2))
  | _, _, .nil => ⟨.nil, .nil⟩
  | _, _, .cons ⟨v, r⟩ t => by
    obtain ⟨h1, h2⟩ := each_out t
    exact ⟨.cons v h1, .cons r h2⟩
theorem cd_sorted (hu : X.A.units + 150 < cLine) : CallR X (.builtin "sorted") (rL1 X.K gSorted) := by
  intro pins s σ H xs us Q I r hq
  obtain ⟨x, rfl, S, dx, val, rfl, z, ox, g, k⟩ := hq
  obtain ⟨u, rfl, rx⟩ := Vals.one r
  cases dx with
  | list ds =>
    simp only [gSorted] at g
    split at g
    · rename_i c
      cases g
      obtain ⟨l, vs, rfl, hs, ha⟩ := ox
      cases rx
      obtain ⟨its, rv, pl, hz⟩ := I.list hs
      have haH := ha.mono z.fh
      obtain ⟨e1, e2⟩ := each_zip I haH rv
      have e1' : PySem.W.EachIs (fun u (p : V × D) => RelV p.1 u ∧ Rp X.K S.F p.1 p.2) its (vs.zip ds) := by
        have go : ∀ {xs : List V} {ds : List D} {us : List Value}, RpA X.K S.F xs ds → Vals xs us → PySem.W.EachIs (fun u (p : V × D) => RelV p.1 u ∧ Rp X.K S.F p.1 p.2) us (xs.zip ds) := by
          intro xs ds us a
          induction xs generalizing ds us with
          | nil =>
            intro b
            cases a
            cases b
            exact .nil
          | cons v xs ih =>
            intro b
            cases a with
            | cons r a =>
              cases b with
              | cons q b => exact .cons ⟨q, r⟩ (ih a b)
        exact go ha rv
      have len := ha.length
      have hm : (vs.zip ds).map (·.2) = ds := List.map_snd_zip (by omega)
      unfold sortB at c
      simp only [Bool.and_eq_true, Bool.or_eq_true, List.all_eq_true, decide_eq_true_eq] at c
      obtain ⟨⟨c1, c2⟩, c3⟩ := c
      have hz2 : (vs.zip ds).length ≤ sizeLine := by
        rw [List.length_zip]
        omega
      refine PySem.W.sorted_data (enc := fun p : V × D => p.2) (bs := vs.zip ds) pl.isList e1' e2 (by rw [hm]; exact fun d h1 d' h2 => c1 d h1 d' h2) ?_ hz2 (fun b hb => ?_) fun out ho eo => ?_
      · rw [hm]
        rcases c2 with c2 | c2
        · left
          intro d hd
          have h := c2 d hd
          split at h
          · exact ⟨_, _, rfl⟩
          · cases h
        · right
          intro d hd
          have h := c2 d hd
          constructor
          · rintro rfl
            cases h
          · rintro ys rfl
            cases h
      · have hb2 : b.2 ∈ ds := by
          rw [← hm]
          exact List.mem_map_of_mem hb
        have h := c3 _ hb2
        show X.A.units + 2 + b.2.depth < cLine
        omega
      · obtain ⟨q1, q2⟩ := each_out (X := X) eo
        have hms : ((vs.zip ds).mergeSort (PySem.W.dataLe false fun p : V × D => p.2)).map (·.2) = sortD ds := by
          have h := List.map_mergeSort (r := PySem.W.dataLe false fun p : V × D => p.2) (s := dLe) (f := fun p : V × D => p.2) (l := vs.zip ds) (fun a _ b _ => rfl)
          rw [h, hm]
          rfl
        rw [hms] at q2
        obtain ⟨ep, he'⟩ := PyProof.Rows.sortedAll_at s.heap its out.toArray
        have hlen : (((vs.zip ds).mergeSort (PySem.W.dataLe false fun p : V × D => p.2)).map (·.1)).length ≤ sizeLine := by
          rw [List.length_map, List.length_mergeSort]
          exact hz2
        exact ⟨.ref _, upd S.H (s.heap.objs.size + 1) (.lst _), I.laid (t' := s.toks) (fun _ _ => PyProof.Rows.sortedAll_old) (Nat.le_succ _) ⟨hlen, out, ep, q1, he'⟩, rfl, k.list z q2 (I.hok.fresh (Nat.le_succ _))⟩
    · cases g
  | _ => cases g
end

/-! ### list(range(..)), len(set(..)) -/
def distinct (ns : List Int) : List Int := PyProof.Rows.firstMet (fun i => ns.getD i 0) ns.length
def gLenSet : D → Option Val
  | .list ds => match asInts ds with
    | some ns => if ns.length ≤ 4000 then some (.frz (.int ((distinct ns).length : Nat))) else none
    | none => none
  | _ => none
section
variable {X : Cx} {cm : CMap} {W : WX} {a b : Expr} {fa fb : Env → Out (Val × Env)}
def tLenSet (K : PySem.W.Frag) (ta : TE) : TE := fun σ H Q => ta σ H fun x H1 => ∃ (l : Addr) (ns : List Int), x = .ref l ∧ SqL K H1 l (ns.map V.int) ∧ ns.length ≤ 4000 ∧ Q (.int ((distinct ns).length : Nat)) H1
theorem pe_lenSet {ta : TE} {p p2 q pos : Pos} (hc : X.calm = true) (hm : X.mg "len" = none) (hm2 : X.mg "set" = none) (ha : PE X a ta) (hg : Gl X "len") (hg2 : Gl X "set")
    (na : starEach [a] X.env = (false, eval a X.env) :: starEach [] X.env) : PE X (.Call (.Name "len" p) [.Call (.Name "set" p2) [a] [] q] [] pos) (tLenSet X.K ta) := by
  refine ⟨fun pins s σ H Q I h => Call_ (ld_blt I hg hm PySem.boot_len (PyProof.Rows.callWith_builtin1 (PyProof.Rows.args_cons ?_ rfl) rfl rfl))⟩
  refine Call_ (ld_blt I hg2 hm2 PyProof.Rows.boot_set (PyProof.Rows.callWith_type1 (PyProof.Rows.args_cons (thn (ha.run pins s σ H _ I h) fun v s1 hh => PyProof.Rows.args_nil ?_) na) na rfl))
  obtain ⟨x, H1, I1, r1, l, ns, rfl, hq, h1, q1⟩ := hh
  cases r1
  obtain ⟨its, r, pl, hz⟩ := I1.list hq
  have hl : its.toArray.size = ns.length := by rw [List.size_toArray, ← r.length, List.length_map]
  refine call_set_list (I1.ok.hd hc) pl.isList (ns := ns) (by simpa using r.ints) (by unfold scanBound; omega) fun h' tk hS hk => ?_
  rw [hl] at hS
  refine PyProof.Rows.args_nil ?_
  obtain ⟨o, es, ep, t, ho, hex, hd, _, _, _, hf, hn⟩ := hS
  have I2 : L2.Inv X pins σ H1 { s1 with heap := h', toks := tk } := I1.kept fun b o e => hk b o (Heap.lt_size e) e
  have hb : es.size ≤ 4000 := by
    rw [hn]
    refine Nat.le_trans (Nat.le_of_eq rfl) (Nat.le_trans (?_ : (distinct ns).length ≤ ns.length) h1)
    exact PyProof.Rows.firstMet_length_le _ _
  exact call_len_set ho hex hd hf (by omega) ⟨.int ((distinct ns).length : Nat), H1, I2.tok _, ⟨_, by rw [hn]; rfl⟩, q1⟩
theorem ev_lenSet {p p2 q pos : Pos} (hc : X.calm = true) (hm : X.mg "len" = none) (hm2 : X.mg "set" = none) (ha : EV X cm W a fa) (hg : Gl X "len" := by rfl) (hg2 : Gl X "set" := by rfl)
    (na : starEach [a] X.env = (false, eval a X.env) :: starEach [] X.env := by rfl) : EV X cm W (.Call (.Name "len" p) [.Call (.Name "set" p2) [a] [] q] [] pos) (un gLenSet fa) := by
  obtain ⟨ta, pa, ea⟩ := ha
  refine ⟨_, pe_lenSet hc hm hm2 pa hg hg2 na, fun s Q z p => ?_⟩
  refine ea.fz.step z p fun v val e1 F1 H1 x y r p1 => ?_
  simp only at p1
  cases q : opd e1 val with
  | none =>
    rw [q] at p1
    exact p1.elim
  | some d =>
    rw [q] at p1
    obtain ⟨w, e, k⟩ := p1.gives
    have o := r.opn y q
    cases d with
    | list ds =>
      simp only [gLenSet] at e
      split at e
      · rename_i ns hns
        split at e
        · rename_i hl
          cases e
          obtain ⟨l, xs, rfl, s1, a1⟩ := o
          have := asInts_eq hns
          subst this
          have := a1.ints
          subst this
          exact ⟨l, ns, rfl, s1, hl, k.same y (.int _)⟩
        · cases e
      · cases e
    | _ => cases e
def fLRg1 (mk : List D → Val) (f : Env → Out (Val × Env)) : Env → Out (Val × Env) := fun e => (fz f e).bind fun a => match a.1 with
  | .frz (.int n) => if -(2 ^ 62) ≤ n ∧ n ≤ 2 ^ 24 then .ok (mk (rints 0 n.toNat), a.2) else .bad
  | _ => .bad
theorem rgV_eq (a b : Int) : RpA X.K F (rgV a b) (rints a (b - a).toNat) := by
  unfold rgV rints
  have : ∀ l : List Nat, RpA X.K F (l.map fun i => V.int (a + (i : Nat))) (l.map fun i => PyData.int (a + (i : Nat))) := by
    intro l
    induction l with
    | nil => exact .nil
    | cons i l ih => exact .cons (.int _) ih
  exact this _
theorem ev_listRg1 {p pos p2 pos2 : Pos} (hc : X.calm = true) (hm : X.mg "list" = none) (hm2 : X.mg "range" = none) (ha : EV X cm W a fa) (hg : Gl X "list" := by rfl) (hg2 : Gl X "range" := by rfl)
    (na : starEach [a] X.env = (false, eval a X.env) :: starEach [] X.env := by rfl)
    (nb : starEach [.Call (.Name "range" p2) [a] [] pos2] X.env = (false, eval (.Call (.Name "range" p2) [a] [] pos2) X.env) :: starEach [] X.env := by rfl) :
    EV X cm W (.Call (.Name "list" p) [.Call (.Name "range" p2) [a] [] pos2] [] pos) (fLRg1 (fun ds => .new (.lst ds)) fa) := by
  obtain ⟨ta, pa, ea⟩ := ha
  refine ⟨_, pe_listRg hc hg hm (prg_1 hg2 hm2 pa na) nb, fun s Q z p => ?_⟩
  refine ea.fz.step z p fun v val e1 F1 H1 x y r p1 => ?_
  simp only at p1
  split at p1
  · rename_i n
    split at p1
    · rename_i hn
      cases (show Rp X.K F1 v (.int n) from r)
      refine ⟨n, rfl, ⟨by omega, by omega, hn.1, by omega, by omega⟩, fun q hq => ?_⟩
      have e : (n - 0).toNat = n.toNat := by rw [Int.sub_zero]
      exact Gives.list (K := X.K) (s := ⟨F1, H1, s.σ, e1⟩) (ds := rints 0 n.toNat) (Q := Q) p1 y (by rw [← e]; exact rgV_eq 0 n) hq
    · exact p1.elim
  · exact p1.elim
end
end BV
namespace BV
open PySem PySem.Spec PyProof.Rows L2

/-! ### what a text asks of the top -/
def DefAt (K : PySem.W.Frag) (mg : Str → Option Value) (x : Str) (st : Stmt) (ps : List Str) : Prop := ∃ (f : Addr) (fd : FuncData), L2.Fun K x x st f fd ∧ mg x = some (.ref f) ∧ Binds K fd ps [] ∧ PySem.W.nsIn K mainGlobals x = some (some (.ref f))
theorem fun_of_D {K : PySem.W.Frag} {x qual : Str} {st : Stmt} {f : Addr} {fd : FuncData} (F : FunD K x qual (defArgs st) (defBody st) (defScope st) [] [] f fd) : L2.Fun K x qual st f fd := by
  obtain ⟨oc, od, dV, kV, doc, pm, an, cdv, ct, osl, rfl, lk, hcd, hD, hK⟩ := F.ex
  rcases hD with ⟨_, rfl⟩ | ⟨e, _⟩
  · exact ⟨⟨oc, od, kV, doc, pm, an, cdv, ct, osl, rfl, lk, hcd⟩, F.kp⟩
  · exact absurd rfl e
theorem hu150 {k : Nat} {A : Around} (hr : Room k A) : A.units + 150 < cLine := by
  have := hr.un
  omega
theorem hxN {P : Program} {w : World} {X : Cx} (σ : L2.St) : PassesAt (L2.CX P w) X σ (WE wNo σ) := fun pins H s e s' I c => by
  obtain ⟨a, B, H', cls, d, _, _, _, _, _, _, _, h⟩ := c
  exact h.elim
/-! ### lengths of argument lists -/
def RLen (n : Nat) (f : Env → Out (List Arg × Env)) : Prop := ∀ e as e', f e = .ok (as, e') → as.length = n
theorem rlen_nil : RLen 0 rNil := fun e as e' h => by
  cases h
  rfl
theorem rlen_dat {n : Nat} {f : Env → Out (Val × Env)} {g : Env → Out (List Arg × Env)} (h : RLen n g) : RLen (n + 1) (rDat f g) := fun e as e' q => by
  unfold rDat at q
  cases q1 : (fz f e).bind asD with
  | ok a =>
    rw [q1] at q
    simp only [Out.bind_ok] at q
    cases q2 : g a.2 with
    | ok b =>
      rw [q2] at q
      cases q
      rw [List.length_cons, h _ _ _ q2]
    | exc x e2 =>
      rw [q2] at q
      cases q
    | bad =>
      rw [q2] at q
      cases q
  | exc x e2 =>
    rw [q1] at q
    cases q
  | bad =>
    rw [q1] at q
    cases q
theorem rlen_own {n i : Nat} {g : Env → Out (List Arg × Env)} (h : RLen n g) : RLen (n + 1) (rOwn i g) := fun e as e' q => by
  unfold rOwn at q
  split at q
  · cases q2 : g e with
    | ok b =>
      rw [q2] at q
      cases q
      rw [List.length_cons, h _ _ _ q2]
    | exc x e2 =>
      rw [q2] at q
      cases q
    | bad =>
      rw [q2] at q
      cases q
  · cases q
/-! ### {} -/
def fDic0 : Env → Out (Val × Env) := fun e => .ok (.new (.dic []), e)
section
variable {X : Cx} {cm : CMap} {W : WX} {pos : Pos} {a : Expr} {fa : Env → Out (Val × Env)}
theorem ev_dict0 : EV X cm W (.Dict [] [] pos) fDic0 := by
  refine ⟨_, pe_dnewK, fun s Q z p q hq => ?_⟩
  obtain ⟨F, H, σ, e⟩ := s
  exact p (.ref q) F (upd H q (.dK [])) (Stp.laid z hq _) (z.laid hq _) (VRep.laid z hq (.dic (z.fnone hq) upd_same .nil) rfl)
/-! ### in a table of the module -/
def TabAt (w : World) (K : PySem.W.Frag) (mg : Str → Option Value) (x : Str) (ks : List Str) : Prop := ∃ d es n, mg x = some (.ref d) ∧ KDict K w d es n ∧ ∀ z, ∃ r, PySem.W.nsIn K d z = some r ∧ r.isSome = ks.contains z
def gInG (ks : List Str) : D → Option Val
  | .str z => some (.frz (.bool (ks.contains z)))
  | _ => none
def gNotInG (ks : List Str) : D → Option Val
  | .str z => some (.frz (.bool (!ks.contains z)))
  | _ => none
theorem keyOf_find {P : Params} {z : Str} : ∀ {l : List DictEntry} {ks : List Str}, l.map He.keyOf = He.keysIn P ks → (l.find? (·.key.isStr z)).isSome = ks.contains z ∧ l.any (·.refKey) = false
  | [], [], _ => ⟨rfl, rfl⟩
  | [], _ :: _, h => by cases h
  | e :: l, [], h => by cases h
  | e :: l, k :: ks, h => by
    have h1 : He.keyOf e :: l.map He.keyOf = some (k, PyData.keyHash P k) :: He.keysIn P ks := h
    injection h1 with h2 h3
    obtain ⟨i1, i2⟩ := keyOf_find (z := z) h3
    unfold He.keyOf at h2
    split at h2
    · rename_i x t q
      have hx : x = k := (Prod.mk.inj (Option.some.inj h2)).1
      subst hx
      refine ⟨?_, ?_⟩
      · rw [List.find?_cons, q]
        by_cases e : x = z
        · subst e
          simp [Value.isStr]
        · have : (Value.str x t).isStr z = false := by simp [Value.isStr, e]
          rw [this]
          simp only [i1, List.contains_cons]
          have e' : ¬ z = x := fun q => e q.symm
          simp [e']
      · rw [List.any_cons, i2]
        simp [DictEntry.refKey, q]
    · cases h2
theorem tab_mk {w : World} {K : PySem.W.Frag} {mg : Str → Option Value} {h : Heap} {x : Str} {ks : List Str} (X : K.In h) (G : h.Ns mainGlobals mg) (hg : mg x = some (.ref (He.ga K x))) (hd : He.dicW K (He.ga K x) = some (He.keysIn w.params ks)) : TabAt w K mg x ks := by
  obtain ⟨es, n, D⟩ := He.dicW_ok hd
  refine ⟨_, es, n, hg, D, fun z => ?_⟩
  have hk : es.toList.map He.keyOf = He.keysIn w.params ks := by
    unfold He.dicW at hd
    rw [D.at_] at hd
    simp only at hd
    split at hd
    · exact Option.some.inj hd
    · cases hd
  obtain ⟨i1, i2⟩ := keyOf_find (z := z) hk
  unfold PySem.W.nsIn
  rw [D.at_]
  simp only
  cases q : es.toList.find? (·.key.isStr z) with
  | some e =>
    rw [q] at i1
    exact ⟨_, rfl, i1⟩
  | none =>
    rw [q] at i1
    rw [i2]
    exact ⟨_, rfl, i1⟩
theorem evt_tab {c : Cf} {ks : List Str} {t : TE} {r : V → V → Hp → VK → Prop} {v : V} {K : PySem.W.Frag} {f : Env → Out (Val × Env)} {g : D → Option Val} (h : EVt c t f)
    (hr : ∀ (s : Sta) (x : V) (d : D) (val : Val) (Q : V → Hp → Prop), St c.K s → Opn c.K s.F s.H x d → g d = some val → Gives c.K s val Q → r x v s.H Q) : EVt c (tOp r t (tC v)) (un g f) := fun s Q z p => by
  refine h.fz.step z p fun u val e1 F1 H1 x y ru p1 => ?_
  simp only at p1
  cases q : opd e1 val with
  | none =>
    rw [q] at p1
    exact p1.elim
  | some d =>
    rw [q] at p1
    obtain ⟨w, e, k⟩ := p1.gives
    exact hr _ u d w Q y (ru.opn y q) e k
variable {x : Str} {p0 : Pos} {ks : List Str}
theorem pe_tab {d : Addr} (hm : X.mg x = some (.ref d)) (hg : Gl X x) (hdb : (x == ("__debug__" : Str)) = false) : PE X (.Name x p0) (tC (.ref d)) := pe_glob hg hm rfl hdb
theorem ev_InG (T : TabAt X.w X.K X.mg x ks) (ha : EV X cm W a fa) (hg : Gl X x := by rfl) (hdb : (x == ("__debug__" : Str)) = false := by decide) (hm : behindInMarks .In (.Name x p0) = false := by first | exact nomark _ | rfl) :
    EV X cm W (.Compare a [.In] [.Name x p0] pos) (un (gInG ks) fa) := by
  obtain ⟨d, es, n, h1, h2, h3⟩ := T
  obtain ⟨ta, pa, ea⟩ := ha
  refine ⟨_, pe_cmpR (op_in_kd h2) pa (pe_tab h1 hg hdb) hm, ?_⟩
  exact evt_tab (K := X.K) (ks := ks) ea fun s y dd val Q z o e k => by
    cases dd with
    | str zz =>
      cases e
      cases opn_str o
      obtain ⟨r, r1, r2⟩ := h3 zz
      refine ⟨zz, r, rfl, rfl, r1, ?_⟩
      rw [r2]
      exact k.same z (.bl _)
    | _ => cases e
theorem et_InG (T : TabAt X.w X.K X.mg x ks) (ha : EV X cm W a fa) (hg : Gl X x := by rfl) (hdb : (x == ("__debug__" : Str)) = false := by decide) (hm : behindInMarks .In (.Name x p0) = false := by first | exact nomark _ | rfl) :
    ET X cm W (.Compare a [.In] [.Name x p0] pos) (tOf (un (gInG ks) fa)) := by
  obtain ⟨d, es, n, h1, h2, h3⟩ := T
  obtain ⟨ta, pa, ea⟩ := ha
  refine ⟨_, pt_cmpR (op_in_kd h2) pa (pe_tab h1 hg hdb) hm, EVt.tOf ?_⟩
  exact evt_tab (K := X.K) (ks := ks) ea fun s y dd val Q z o e k => by
    cases dd with
    | str zz =>
      cases e
      cases opn_str o
      obtain ⟨r, r1, r2⟩ := h3 zz
      refine ⟨zz, r, rfl, rfl, r1, ?_⟩
      rw [r2]
      exact k.same z (.bl _)
    | _ => cases e
theorem ev_NotInG (T : TabAt X.w X.K X.mg x ks) (ha : EV X cm W a fa) (hg : Gl X x := by rfl) (hdb : (x == ("__debug__" : Str)) = false := by decide) (hm : behindInMarks .NotIn (.Name x p0) = false := by first | exact nomark _ | rfl) :
    EV X cm W (.Compare a [.NotIn] [.Name x p0] pos) (un (gNotInG ks) fa) := by
  obtain ⟨d, es, n, h1, h2, h3⟩ := T
  obtain ⟨ta, pa, ea⟩ := ha
  refine ⟨_, pe_cmpR (op_notIn_kd h2) pa (pe_tab h1 hg hdb) hm, ?_⟩
  exact evt_tab (K := X.K) (ks := ks) ea fun s y dd val Q z o e k => by
    cases dd with
    | str zz =>
      cases e
      cases opn_str o
      obtain ⟨r, r1, r2⟩ := h3 zz
      refine ⟨zz, r, rfl, rfl, r1, ?_⟩
      rw [r2]
      exact k.same z (.bl _)
    | _ => cases e
theorem et_NotInG (T : TabAt X.w X.K X.mg x ks) (ha : EV X cm W a fa) (hg : Gl X x := by rfl) (hdb : (x == ("__debug__" : Str)) = false := by decide) (hm : behindInMarks .NotIn (.Name x p0) = false := by first | exact nomark _ | rfl) :
    ET X cm W (.Compare a [.NotIn] [.Name x p0] pos) (tOf (un (gNotInG ks) fa)) := by
  obtain ⟨d, es, n, h1, h2, h3⟩ := T
  obtain ⟨ta, pa, ea⟩ := ha
  refine ⟨_, pt_cmpR (op_notIn_kd h2) pa (pe_tab h1 hg hdb) hm, EVt.tOf ?_⟩
  exact evt_tab (K := X.K) (ks := ks) ea fun s y dd val Q z o e k => by
    cases dd with
    | str zz =>
      cases e
      cases opn_str o
      obtain ⟨r, r1, r2⟩ := h3 zz
      refine ⟨zz, r, rfl, rfl, r1, ?_⟩
      rw [r2]
      exact k.same z (.bl _)
    | _ => cases e


/-! ### f(a, .., k = b, ..) -/
def callAs (m : Fn) (as : List Arg) (e : Env) : Out (Val × Env) :=
  if (ownIx as).Nodup then match slotsOf e as with
    | some sl => match m sl with
      | .ok (rv, sl') => match rv, wb as sl' e with
        | .bor _, _ => .bad
        | rv, some e' => .ok (rv, e')
        | _, none => .bad
      | .exc x sl' => match wb as sl' e with
        | some e' => .exc x e'
        | none => .bad
      | .bad => .bad
    | none => .bad
  else .bad
theorem callAs_post {n : Nat} {m : Fn} {as : List Arg} {vs : List V} {s : Sta} {F1 H1 : Hp} {e1 : Env} {Q : V → Hp → Prop} (x : Stp s ⟨F1, H1, s.σ, e1⟩) (y : St X.K ⟨F1, H1, s.σ, e1⟩) (r : ArgRep X.K F1 s.σ vs as) (hn : vs.length = n)
    (q : Post (cf X cm W) s (fun v _ s' => Q v s'.H) (callAs m as e1)) : spB n X.K cm m vs H1 Q (WE W s.σ) := by
  unfold callAs at q
  split at q
  · rename_i nd
    cases hsl : slotsOf e1 as with
    | none =>
      rw [hsl] at q
      exact q.elim
    | some sl =>
      rw [hsl] at q
      refine ⟨hn, F1, sl, call_in y r nd hsl, ?_⟩
      revert q
      simp only
      cases hm' : m sl with
      | bad => exact fun q => q
      | exc xx sl' =>
        cases hw : wb as sl' e1 with
        | none =>
          simp only [hw]
          exact fun q => q.elim
        | some e' =>
          simp only [hw]
          intro q C oe F' H' x2 y2 xr
          obtain ⟨x3, y3⟩ := call_out y r nd hsl hw x2 y2
          exact q C oe F' H' (x.trans x3) y3 xr
      | ok w =>
        obtain ⟨rv, sl'⟩ := w
        cases hw : wb as sl' e1 with
        | none =>
          simp only [hw]
          cases rv <;> exact fun q => q.elim
        | some e' =>
          simp only [hw]
          intro q v F' H' x2 y2 vr
          obtain ⟨x3, y3⟩ := call_out y r nd hsl hw x2 y2
          cases rv with
          | bor i => exact q.elim
          | frz d => exact q v F' H' (x.trans x3) y3 (VRep.back (fun _ h => x.nw h) (call_val y r nd hsl hw x2 (fun _ h => by cases h) vr))
          | new o => exact q v F' H' (x.trans x3) y3 (VRep.back (fun _ h => x.nw h) (call_val y r nd hsl hw x2 (fun _ h => by cases h) vr))
  · exact q.elim
/-- the places of a call's arguments, parameter by parameter -/
def pickG {α : Type} (is : List Nat) (us ws : List α) : List α := is.filterMap fun i => (us ++ ws)[i]?
theorem vals_at : ∀ {vs : List V} {us : List Value} (i : Nat), Vals vs us → (vs[i]? = none ∧ us[i]? = none) ∨ ∃ v u, vs[i]? = some v ∧ us[i]? = some u ∧ RelV v u
  | _, _, _, .nil => Or.inl ⟨rfl, rfl⟩
  | _, _, 0, .cons r _ => Or.inr ⟨_, _, rfl, rfl, r⟩
  | _, _, i + 1, .cons _ t => by simpa using vals_at i t
theorem vals_pick {vs zs : List V} {us ws : List Value} (a : Vals vs us) (b : Vals zs ws) : ∀ is : List Nat, Vals (pickG is vs zs) (pickG is us ws)
  | [] => .nil
  | i :: is => by
    have ih := vals_pick a b is
    unfold pickG at ih ⊢
    rw [List.filterMap_cons, List.filterMap_cons]
    rcases vals_at i (a.append b) with ⟨h1, h2⟩ | ⟨v, u, h1, h2, r⟩
    · rw [h1, h2]
      exact ih
    · rw [h1, h2]
      exact .cons r ih
theorem argRep_at {K : PySem.W.Frag} {F : Hp} {σ : L2.St} : ∀ {vs : List V} {as : List Arg} (i : Nat), ArgRep K F σ vs as → (vs[i]? = none ∧ as[i]? = none) ∨ ∃ v a, vs[i]? = some v ∧ as[i]? = some a ∧ ∀ {vs' as'}, ArgRep K F σ vs' as' → ArgRep K F σ (v :: vs') (a :: as')
  | _, _, _, .nil => Or.inl ⟨rfl, rfl⟩
  | _, _, 0, .dat r _ => Or.inr ⟨_, _, rfl, rfl, fun t => .dat r t⟩
  | _, _, 0, .own r _ => Or.inr ⟨_, _, rfl, rfl, fun t => .own r t⟩
  | _, _, i + 1, .dat _ t => by simpa using argRep_at i t
  | _, _, i + 1, .own _ t => by simpa using argRep_at i t
theorem argRep_pick {K : PySem.W.Frag} {F : Hp} {σ : L2.St} {vs zs : List V} {as bs : List Arg} (a : ArgRep K F σ vs as) (b : ArgRep K F σ zs bs) : ∀ is : List Nat, ArgRep K F σ (pickG is vs zs) (pickG is as bs)
  | [] => .nil
  | i :: is => by
    have ih := argRep_pick a b is
    unfold pickG at ih ⊢
    rw [List.filterMap_cons, List.filterMap_cons]
    rcases argRep_at i (a.append b) with ⟨h1, h2⟩ | ⟨v, u, h1, h2, r⟩
    · rw [h1, h2]
      exact ih
    · rw [h1, h2]
      exact r ih
structure EK (X : Cx) (cm : CMap) (W : WX) (kws : List Keyword) (f : Env → Out (List Arg × Env)) : Prop where
  ex : ∃ t, PK X kws t ∧ ERt (cf X cm W) t f
theorem ek_nil : EK X cm W [] rNil := ⟨_, pk_nil, fun s Q z p => p [] s.F s.H (Stp.refl s) z .nil⟩
theorem ek_dat {nm : Option Str} {kp : Pos} {kws : List Keyword} {fs : Env → Out (List Arg × Env)} (ha : EV X cm W a fa) (hr : EK X cm W kws fs) : EK X cm W (⟨nm, a, kp⟩ :: kws) (rDat fa fs) := by
  obtain ⟨ta, pa, ea⟩ := ha
  obtain ⟨tr, pr, er⟩ := hr
  refine ⟨_, pk_cons pa pr, fun s Q z p => ?_⟩
  unfold rDat at p
  rw [Out.bind_assoc] at p
  refine ea.fz.stepR z p fun v val e1 F1 H1 x y r p1 => ?_
  cases val with
  | new o => exact p1.elim
  | bor i => exact p1.elim
  | frz d =>
    refine er.stepR (s := ⟨F1, H1, s.σ, e1⟩) y p1 fun vs ds e2 F2 H2 x2 y2 r2 p2 => ?_
    exact p2 (v :: vs) F2 H2 (Stp.refl _) y2 (.dat (Rp.mono x2.ff r) r2)
def fCallK (m : Fn) (is : List Nat) (fs fk : Env → Out (List Arg × Env)) : Env → Out (Val × Env) := fun e => (fs e).bind fun a => (fk a.2).bind fun b => callAs m (pickG is a.1 b.1) b.2
def KwAt (K : PySem.W.Frag) (fd : FuncData) (ps : List Str) (n : Nat) (ks : List Str) (is : List Nat) : Prop := KBn K fd ps n ks (pickG is) (pickG is)
theorem kw_mk {K : PySem.W.Frag} {x qual : Str} {st : Stmt} {f : Addr} {fd : FuncData} {ps ks : List Str} {n : Nat} {is : List Nat} (F : L2.Fun K x qual st f fd)
    (h : ∀ (kV doc pm : Value) (an : Option Addr) (cdv ct : Value) (us ws : List Value), us.length = n → ws.length = ks.length → bindArgs (PySem.W.fnOf x qual (defArgs st) (defBody st) (defScope st) .none kV doc pm an cdv ct) ⟨us, ks.zip ws⟩ = pure (ps.zip (pickG is us ws))) : KwAt K fd ps n ks is := by
  obtain ⟨oc, od, kV, doc, pm, an, cdv, ct, osl, rfl, lk, hcd⟩ := F.ex
  exact ⟨fun s us ws _ l1 l2 => .of_eq (h kV doc pm an cdv ct us ws l1 l2), fun r rz => vals_pick r rz _⟩
section
variable {CX : CXT} {k n : Nat} {f : Addr} {fd : FuncData} {ps ks : List Str} {sp : Sp} {E : L2.St → XK}
theorem run_gN {pins : List (Addr × Obj)} {σ : L2.St} {H : Hp} {s : Shared} {Q : VK} {us ws : List Value} {vs zs : List V} {is : List Nat} (F : FnG X.prog X.w X.K X.mg X.base CX k f fd ps sp) (hg : X.A.guards = some []) (hr : Room k X.A)
    (hb : KwAt X.K fd ps n ks is) (hx : PassesAt CX X σ (E σ)) (I : L2.Inv X pins σ H s) (r : Vals vs us) (rz : Vals zs ws) (l1 : vs.length = n) (l2 : zs.length = ks.length) (h : sp (pickG is vs zs) H Q (E σ)) :
    wpAny (model X.prog X.w) X.A (call (.ref f) us (ks.zip ws)) (EP X pins σ Q) X.xe s := by
  have r2 := hb.rel r rz
  refine wpAny_call (codeAny_mono (F.run X.A X.stack s H ⟨us, ks.zip ws⟩ (pickG is us ws) (pickG is vs zs) Q (E σ) hg hr I.env0 (hb.to s us ws I.kIn (r.length.symm.trans l1) (rz.length.symm.trans l2)) r2 h) fun fin s' hq => ?_)
  cases fin with
  | error e => exact hx pins H s e s' I hq
  | ok fl =>
    cases fl with
    | next => exact hq.elim
    | brk => exact hq.elim
    | cont => exact hq.elim
    | ret u => exact I.after hq
def tCallGN (n m : Nat) (is : List Nat) (sp : Sp) (E : L2.St → XK) (t tk : TA) : TE := fun σ H Q => t σ H fun vs H1 => tk σ H1 fun zs H2 => vs.length = n ∧ zs.length = m ∧ sp (pickG is vs zs) H2 Q (E σ)
theorem pe_callGN {x : Str} {p pos : Pos} {e : Expr} {es : List Expr} {kws : List Keyword} {is : List Nat} {t tk : TA} (F : FnG X.prog X.w X.K X.mg X.base CX k f fd ps sp) (hG : X.A.guards = some []) (hr : Room k X.A) (hg : Gl X x) (hm : X.mg x = some (.ref f))
    (hk : PySem.W.keepIn X.K (.ref f) = true) (hb : KwAt X.K fd ps n ks is) (hx : ∀ σ, PassesAt CX X σ (E σ)) (ha : PA X (e :: es) t) (hkw : PK X kws tk) (hall : (backToKw pos (keywordEach kws X.env)).all (·.1.isSome) = true)
    (hks : (backToKw pos (keywordEach kws X.env)).filterMap (·.1) = ks) (hdb : (x == ("__debug__" : Str)) = false) (he : starEach (e :: es) X.env = (false, eval e X.env) :: starEach es X.env)
    (hpl : ((backTo pos (starEach (e :: es) X.env)).any (·.1) || (backToKw pos (keywordEach kws X.env)).any (·.1.isNone)) = false) : PE X (.Call (.Name x p) (e :: es) kws pos) (tCallGN n ks.length is sp E t tk) := by
  constructor
  intro pins s σ H Q I h
  refine wpAny_Call_Name_kw (ld_glob I hg hm ?_ hdb)
  refine PySem.W.callWith_KW (h₀ := X.base) I.ok.mod.kin hk hall (thn (ha.run pos pins s σ H _ I h) ?_) hpl he
  rintro us s1 ⟨vs, H1, I1, r, q⟩
  refine thn (hkw.run pos pins s1 σ H1 _ I1 q) ?_
  rintro ws s2 ⟨zs, H2, I2, rz, l1, l2, q2⟩
  refine ⟨I2.kIn, ?_⟩
  rw [hks]
  exact run_gN F hG hr hb (hx σ) I2 r rz l1 l2 q2
end
theorem ev_callK {x : Str} {p : Pos} {CX : CXT} {k n mm : Nat} {f : Addr} {fd : FuncData} {ps ks : List Str} {m : Fn} {e : Expr} {es : List Expr} {kws : List Keyword} {is : List Nat} {fs fk : Env → Out (List Arg × Env)} (F : FnG X.prog X.w X.K X.mg X.base CX k f fd ps (spB mm X.K cm m))
    (hm : X.mg x = some (.ref f)) (hk : PySem.W.keepIn X.K (.ref f) = true) (hb : KwAt X.K fd ps n ks is) (hG : X.A.guards = some []) (hr : Room k X.A) (hx : ∀ σ, PassesAt CX X σ (WE W σ)) (ha : ER X cm W (e :: es) fs) (hkw : EK X cm W kws fk)
    (hl1 : RLen n fs) (hl2 : RLen ks.length fk) (hpk : ∀ vs zs : List V, vs.length = n → zs.length = ks.length → (pickG is vs zs).length = mm)
    (hg : Gl X x := by rfl) (hdb : (x == ("__debug__" : Str)) = false := by decide) (hall : (backToKw pos (keywordEach kws X.env)).all (·.1.isSome) = true := by rfl)
    (hks : (backToKw pos (keywordEach kws X.env)).filterMap (·.1) = ks := by rfl) (he : starEach (e :: es) X.env = (false, eval e X.env) :: starEach es X.env := by rfl)
    (hpl : ((backTo pos (starEach (e :: es) X.env)).any (·.1) || (backToKw pos (keywordEach kws X.env)).any (·.1.isNone)) = false := by rfl) : EV X cm W (.Call (.Name x p) (e :: es) kws pos) (fCallK m is fs fk) := by
  obtain ⟨t, pa, er⟩ := ha
  obtain ⟨tk, pk, ek⟩ := hkw
  refine ⟨_, pe_callGN F hG hr hg hm hk hb hx pa pk hall hks hdb he hpl, fun s Q z q => ?_⟩
  refine er s _ z ?_
  revert q
  unfold fCallK
  cases hfs : fs s.e with
  | exc x e1 => exact fun p => p
  | bad => exact fun p => p
  | ok w =>
    obtain ⟨as, e1⟩ := w
    rw [Out.bind_ok]
    intro q vs F1 H1 x1 y1 r1
    refine ek ⟨F1, H1, s.σ, e1⟩ _ y1 ?_
    revert q
    simp only
    cases hfk : fk e1 with
    | exc xx e2 =>
      intro q C oe F' H' x2 y2 xr
      exact q C oe F' H' (x1.trans x2) y2 xr
    | bad => exact fun p => p
    | ok w2 =>
      obtain ⟨bs, e2⟩ := w2
      rw [Out.bind_ok]
      intro q zs F2 H2 x2 y2 r2
      have a1 : vs.length = n := by rw [r1.length, hl1 _ _ _ hfs]
      have a2 : zs.length = ks.length := by rw [r2.length, hl2 _ _ _ hfk]
      exact ⟨a1, a2, callAs_post (x1.trans x2) y2 (argRep_pick (r1.mono x2.ff) r2 is) (hpk vs zs a1 a2) q⟩
end
/-- a block's names, looked at -/
def blkB (N : List Str) (sn names : List (Str × NameKind)) (own : List (Str × Nat)) : Bool := names.all (fun y => decide (names.lookup y.1 = some y.2)) && (own.all (fun p => decide (N[p.2]? = some p.1)) &&
  (names.all (fun y => !decide (y.2 = .free) || (decide (sn.lookup y.1 = some .cell) || decide (sn.lookup y.1 = some .free))) &&
    names.all fun y => !(decide (y.2 = .local) || decide (y.2 = .cell)) || (decide (y.1 ∈ own.map (·.1)) || decide (y.1 ∉ N))))
theorem blk_of {N' : List Str} {sc scope : Scope} {own : List (Str × Nat)} (N : List Str) (sn : List (Str × NameKind)) (h : blkB N sn scope.names own = true) (hN : N' = N := by rfl) (hs : sc.names = sn := by rfl) (hk : scope.kind = .function := by rfl) : BlkOk N' sc scope own := by
  subst hN
  unfold blkB at h
  simp only [Bool.and_eq_true, List.all_eq_true, decide_eq_true_eq, Bool.or_eq_true, Bool.not_eq_true', decide_eq_false_iff_not] at h
  obtain ⟨h1, h2, h3, h4⟩ := h
  refine ⟨hk, h1, h2, fun y hy hf => ?_, fun y hy hf => ?_⟩
  · rw [hs]
    rcases h3 y hy with q | q
    · exact absurd hf q
    · exact q
  · rcases h4 y hy with q | q
    · simp only [Bool.or_eq_false_iff, decide_eq_false_iff_not] at q
      rcases hf with e | e
      · exact absurd e q.1
      · exact absurd e q.2
    · exact q
theorem SaysT.dic {fa : List He.Fa} {fn : List He.DefD} {ts : List He.Tab} {w : World} {K : PySem.W.Frag} (c : He.SaysT fa fn ts w K) (i : Nat) {t : He.Tab} (h : ts[i]? = some t) : He.dicW K (t.1 K) = some (He.keysIn w.params t.2) := by
  have e : ts.map (fun t => He.dicW K (t.1 K)) = ts.map fun t => some (He.keysIn w.params t.2) := congrArg (fun z : He.AlT => z.2) c
  have e2 : (ts.map fun t => He.dicW K (t.1 K))[i]? = (ts.map fun t => some (He.keysIn w.params t.2))[i]? := by rw [e]
  rw [List.getElem?_map, List.getElem?_map, h] at e2
  exact Option.some.inj e2
/-! ### the head by k_head: facts one by one -/
theorem def_mk {K : PySem.W.Frag} {h : Heap} {mg : Str → Option Value} {x : Str} {st : Stmt} {ps : List Str} {f : Addr} {oc : Value} {od an : Option Addr} {osl : Array (Option Value)} {kV doc pm cdv ct : Value} (X : K.In h) (G : h.Ns mainGlobals mg)
    (a : PySem.W.nsIn K mainGlobals x = some (some (.ref f))) (l : K.lookup f = some ⟨oc, od, .func (PySem.W.fnOf x x (defArgs st) (defBody st) (defScope st) .none kV doc pm an cdv ct), osl⟩) (c : PySem.W.codeIn K cdv x = true) (k : PySem.W.keepIn K (.ref f) = true)
    (b : ∀ (kV doc pm : Value) (an : Option Addr) (cdv ct : Value) (us : List Value), us.length = ps.length → bindArgs (PySem.W.fnOf x x (defArgs st) (defBody st) (defScope st) .none kV doc pm an cdv ct) ⟨us, []⟩ = pure (ps.zip us)) : DefAt K mg x st ps :=
  ⟨f, _, fun_mk l c k, PySem.W.mg_of X G a, (fun_mk l c k).binds b, a⟩
theorem tab_mk2 {w : World} {K : PySem.W.Frag} {h : Heap} {mg : Str → Option Value} {x : Str} {ks : List Str} {d : Addr} {es : Array DictEntry} {n : Nat} (X : K.In h) (G : h.Ns mainGlobals mg) (a : PySem.W.nsIn K mainGlobals x = some (some (.ref d)))
    (l : K.lookup d = some ⟨.type "dict", none, .dict es n, #[]⟩) (hk : es.toList.map He.keyOf = He.keysIn w.params ks) (low : (d == sysModules) = false) : TabAt w K mg x ks := by
  refine ⟨d, es, n, PySem.W.mg_of X G a, ⟨l, He.keysLit_of hk, low⟩, fun z => ?_⟩
  obtain ⟨i1, i2⟩ := keyOf_find (z := z) hk
  unfold PySem.W.nsIn
  rw [l]
  simp only
  cases q : es.toList.find? (·.key.isStr z) with
  | some e =>
    rw [q] at i1
    exact ⟨_, rfl, i1⟩
  | none =>
    rw [q] at i1
    rw [i2]
    exact ⟨_, rfl, i1⟩
theorem only_ex {K : PySem.W.Frag} {H : Hp} {a : Addr} {ns : List Int} (hS : SqL K H a (ns.map V.int)) : St K ⟨H, H, [some (.ref a)], [.frz (.list (ns.map .int))]⟩ := by
  refine ⟨rfl, Ex.refl _, fun j d h => ?_, fun j o h => ?_, fun i j oi oj _ _ h1 _ _ _ ne => ?_, fun j x h => by
    cases j with
    | zero => cases h
    | succ j => cases h⟩
  · match j with
    | 0 =>
      cases h
      exact ⟨_, rfl, .lst hS RpA.ofInts⟩
    | j + 1 => cases h
  · match j with
    | 0 => cases h
    | j + 1 => cases h
  · match i with
    | 0 => cases h1
    | i + 1 => cases h1
/-- the end of a law: its def answers True at every script -/
theorem walk_bv {l : PySem.W.OpenLaw} {n k : Nat} {q : Program} {loose : List Str} {XP : (Str → Option Value) → Heap → Prop} {YP : World → Heap → Prop} {d : DefRec} {K : Params → PySem.W.Frag} {cm : CMap} {x : Str} {m : Fn}
    (hn : l.most = some n) (hn2 : n ≤ sizeLine) (hdf : d.params.defaults = []) (hr : Room k callerA) (hY : ∀ (w : World) (h : Heap), YP w h → (K w.params).In h)
    (F : ∀ (w : World) (mg : Str → Option Value) (fa : Addr) (h : Heap), (K w.params).In h → h.Ns mainGlobals mg → mg d.name = some (.ref fa) →
      ∃ fd : FuncData, (∀ (s : Shared) (u : Value), BindsTo s fd ⟨[u], []⟩ [(x, u)]) ∧
        ∀ base : Heap, (K w.params).In base → base.Ns mainGlobals mg → FnG l.prog w (K w.params) mg base (L2.CX l.prog w) k fa fd [x] (spB 1 (K w.params) cm m))
    (fin : ∀ ns : List Int, ns.length ≤ n → ∃ sl, m [.frz (.list (ns.map .int))] = .ok (.frz (.bool true), sl)) :
    PySem.W.WalkO q loose XP YP l.row.toRowW d [] (fun f vs => PySem.call f vs) := by
  refine walk_g (n := n) (k := k) (x := x) (K := K) (CX := fun w => L2.CX l.prog w) (sp := fun w => spB 1 (K w.params) cm m) hn hn2 hdf hr hY F (fun w H a ns hl hO hS => ?_) fun w H s e s' z => ?_
  · obtain ⟨sl, e⟩ := fin ns hl
    refine ⟨rfl, H, _, only_ex hS, ?_⟩
    show Post _ _ _ (m [.frz (.list (ns.map .int))])
    rw [e]
    intro v F' H' _ _ r
    exact Rp.blV r
  · obtain ⟨a, B, H', cls, dd, _, _, _, _, _, _, _, h⟩ := z
    exact h
theorem bind_law {K : PySem.W.Frag} {x p : Str} {st : Stmt} {f : Addr} {fd : FuncData} (F : L2.Fun K x x st f fd)
    (b : ∀ (kV doc pm : Value) (an : Option Addr) (cdv ct : Value) (u : Value), bindArgs (PySem.W.fnOf x x (defArgs st) (defBody st) (defScope st) .none kV doc pm an cdv ct) ⟨[u], []⟩ = pure [(p, u)]) (s : Shared) (u : Value) : BindsTo s fd ⟨[u], []⟩ [(p, u)] := by
  obtain ⟨oc, od, kV, doc, pm, an, cdv, ct, osl, rfl, lk, hcd⟩ := F.ex
  exact .of_eq (b kV doc pm an cdv ct u)
theorem int_mk {K : PySem.W.Frag} {h : Heap} {mg : Str → Option Value} {x : Str} {i : Int} {t : Tok} (X : K.In h) (G : h.Ns mainGlobals mg) (a : PySem.W.nsIn K mainGlobals x = some (some (.int i t))) : ∃ t, mg x = some (.int i t) := ⟨t, PySem.W.mg_of X G a⟩
end BV
namespace BV
open PySem PySem.Spec PyProof.Rows L2
/-! ### what the words do, by equations -/
section
variable {e e1 : BV.Env} {f g fa fb fc : BV.Env → Out (Val × BV.Env)} {c d : BV.Env → Out (Bool × BV.Env)}
@[simp] theorem dq_lst (ds : List D) : (O.lst ds).dq = some (.list ds) := rfl
@[simp] theorem dq_dic (ds : List (D × D)) : (O.dic ds).dq = some (.dict ds) := rfl
@[simp] theorem dq_row (os : List O) : (O.row os).dq = (O.dqA os).map .list := rfl
@[simp] theorem dqA_nil : O.dqA [] = some [] := rfl
@[simp] theorem dqA_cons (o : O) (os : List O) : O.dqA (o :: os) = match o.dq, O.dqA os with
    | some d, some ds => some (d :: ds)
    | _, _ => none := rfl
@[simp] theorem dq_leaf (d : D) : (O.leaf d).dq = some d := rfl
@[simp] theorem dq_ins (c : Str) (ns : List Str) (os : List O) : (O.ins c ns os).dq = none := rfl
@[simp] theorem fl_lst (ds : List D) : (O.lst ds).fl = some (.list ds) := rfl
@[simp] theorem fl_dic (ds : List (D × D)) : (O.dic ds).fl = some (.dict ds) := rfl
@[simp] theorem fl_row (os : List O) : (O.row os).fl = none := rfl
@[simp] theorem fl_leaf (d : D) : (O.leaf d).fl = none := rfl
@[simp] theorem fl_ins (c : Str) (ns : List Str) (os : List O) : (O.ins c ns os).fl = none := rfl
@[simp] theorem fzv_new (o : O) : fzv (.new o, e) = match o.dq with
    | some d => .ok (.frz d, e)
    | none => .bad := rfl
@[simp] theorem fzv_frz (x : D) : fzv (.frz x, e) = .ok (.frz x, e) := rfl
@[simp] theorem fzv_bor (i : Nat) : fzv (.bor i, e) = .ok (.bor i, e) := rfl
@[simp] theorem fz_eq : fz f e = (f e).bind fzv := rfl
@[simp] theorem fVar_eq (i : Nat) : fVar i e = match e[i]? with
  | some (.frz d) => .ok (.frz d, e)
  | some (.own _) => .ok (.bor i, e)
  | _ => .bad := rfl
@[simp] theorem fC_eq (x : D) : fC x e = .ok (.frz x, e) := rfl
@[simp] theorem fDic0_eq : fDic0 e = .ok (.new (.dic []), e) := rfl
@[simp] theorem opd_frz (x : D) : opd e (.frz x) = some x := rfl
@[simp] theorem opd_new (o : O) : opd e (.new o) = o.fl := rfl
@[simp] theorem opd_bor (i : Nat) : opd e (.bor i) = match e[i]? with
  | some (.own o) => o.fl
  | _ => none := rfl
@[simp] theorem dat_lst (ds : List D) : (O.lst ds).dat = .list ds := rfl
@[simp] theorem dat_dic (ds : List (D × D)) : (O.dic ds).dat = .dict ds := rfl
@[simp] theorem res_some (v : Val) : res (some v) e = .ok (v, e) := rfl
@[simp] theorem res_none : res none e = .bad := rfl
def unK (h : D → Option Val) (a : Val × BV.Env) : Out (Val × BV.Env) := match opd a.2 a.1 with
  | some x => res (h x) a.2
  | none => .bad
@[simp] theorem unK_eq (h : D → Option Val) (v : Val) : unK h (v, e) = match opd e v with
  | some x => res (h x) e
  | none => .bad := rfl
@[simp] theorem un_eq (h : D → Option Val) : un h fa e = (fz fa e).bind (unK h) := rfl
def binK2 (h : D → D → Option Val) (v : Val) (b : Val × BV.Env) : Out (Val × BV.Env) := match opd b.2 v, opd b.2 b.1 with
  | some x, some y => res (h x y) b.2
  | _, _ => .bad
def binK (h : D → D → Option Val) (fb : BV.Env → Out (Val × BV.Env)) (a : Val × BV.Env) : Out (Val × BV.Env) := (fz fb a.2).bind (binK2 h a.1)
@[simp] theorem binK2_eq (h : D → D → Option Val) (v w : Val) : binK2 h v (w, e) = match opd e v, opd e w with
  | some x, some y => res (h x y) e
  | _, _ => .bad := rfl
@[simp] theorem binK_eq (h : D → D → Option Val) (v : Val) : binK h fb (v, e) = (fz fb e).bind (binK2 h v) := rfl
@[simp] theorem bin_eq (h : D → D → Option Val) : BV.bin h fa fb e = (fz fa e).bind (binK h fb) := rfl
def andK (g : BV.Env → Out (Val × BV.Env)) (a : Val × BV.Env) : Out (Val × BV.Env) := match a.1 with
  | .frz (.bool true) => g a.2
  | .frz (.bool false) => .ok (.frz (.bool false), a.2)
  | _ => .bad
def orK (g : BV.Env → Out (Val × BV.Env)) (a : Val × BV.Env) : Out (Val × BV.Env) := match a.1 with
  | .frz (.bool true) => .ok (.frz (.bool true), a.2)
  | .frz (.bool false) => g a.2
  | _ => .bad
def notK (a : Val × BV.Env) : Out (Val × BV.Env) := match a.1 with
  | .frz (.bool b) => .ok (.frz (.bool (!b)), a.2)
  | _ => .bad
def ifEK (f g : BV.Env → Out (Val × BV.Env)) (b : Bool × BV.Env) : Out (Val × BV.Env) := if b.1 = true then f b.2 else g b.2
def tOfK (a : Val × BV.Env) : Out (Bool × BV.Env) := match a.1 with
  | .frz (.bool b) => .ok (b, a.2)
  | _ => .bad
def tAndK (d : BV.Env → Out (Bool × BV.Env)) (a : Bool × BV.Env) : Out (Bool × BV.Env) := if a.1 = true then d a.2 else .ok (false, a.2)
def tOrK (d : BV.Env → Out (Bool × BV.Env)) (a : Bool × BV.Env) : Out (Bool × BV.Env) := if a.1 = true then .ok (true, a.2) else d a.2
def tNotK (a : Bool × BV.Env) : Out (Bool × BV.Env) := .ok (!a.1, a.2)
@[simp] theorem andK_t : andK g (.frz (.bool true), e) = g e := rfl
@[simp] theorem andK_f : andK g (.frz (.bool false), e) = .ok (.frz (.bool false), e) := rfl
@[simp] theorem orK_t : orK g (.frz (.bool true), e) = .ok (.frz (.bool true), e) := rfl
@[simp] theorem orK_f : orK g (.frz (.bool false), e) = g e := rfl
@[simp] theorem notK_b (b : Bool) : notK (.frz (.bool b), e) = .ok (.frz (.bool (!b)), e) := rfl
@[simp] theorem ifEK_t : ifEK f g (true, e) = f e := rfl
@[simp] theorem ifEK_f : ifEK f g (false, e) = g e := rfl
@[simp] theorem tOfK_b (b : Bool) : tOfK (.frz (.bool b), e) = .ok (b, e) := rfl
@[simp] theorem tAndK_t : tAndK d (true, e) = d e := rfl
@[simp] theorem tAndK_f : tAndK d (false, e) = .ok (false, e) := rfl
@[simp] theorem tOrK_t : tOrK d (true, e) = .ok (true, e) := rfl
@[simp] theorem tOrK_f : tOrK d (false, e) = d e := rfl
@[simp] theorem tNotK_eq (b : Bool) : tNotK (b, e) = .ok (!b, e) := rfl
@[simp] theorem fAnd_eq : fAnd f g e = (f e).bind (andK g) := rfl
@[simp] theorem fOr_eq : fOr f g e = (f e).bind (orK g) := rfl
@[simp] theorem fNot_eq : fNot f e = (f e).bind notK := rfl
@[simp] theorem fIf_eq : fIf c f g e = (c e).bind (ifEK f g) := rfl
@[simp] theorem tOf_eq : tOf f e = (f e).bind tOfK := rfl
@[simp] theorem tAnd_eq : tAnd c d e = (c e).bind (tAndK d) := rfl
@[simp] theorem tOr_eq : tOr c d e = (c e).bind (tOrK d) := rfl
@[simp] theorem tNot_eq : tNot c e = (c e).bind tNotK := rfl
@[simp] theorem tYes_eq : tYesF e = .ok (true, e) := rfl
def chK3 (h' : D → D → Option Val) (v : Val) (c : Val × BV.Env) : Out (Val × BV.Env) := match opd c.2 v, opd c.2 c.1 with
  | some x, some y => res (h' x y) c.2
  | _, _ => .bad
def chK2 (h h' : D → D → Option Val) (fc : BV.Env → Out (Val × BV.Env)) (v : Val) (b : Val × BV.Env) : Out (Val × BV.Env) := match opd b.2 v, opd b.2 b.1 with
  | some x, some y => (match h x y with
    | some (.frz (.bool true)) => (fz fc b.2).bind (chK3 h' b.1)
    | some (.frz (.bool false)) => .ok (.frz (.bool false), b.2)
    | _ => .bad)
  | _, _ => .bad
def chK (h h' : D → D → Option Val) (fb fc : BV.Env → Out (Val × BV.Env)) (a : Val × BV.Env) : Out (Val × BV.Env) := (fz fb a.2).bind (chK2 h h' fc a.1)
@[simp] theorem chK3_eq (h' : D → D → Option Val) (v w : Val) : chK3 h' v (w, e) = match opd e v, opd e w with
  | some x, some y => res (h' x y) e
  | _, _ => .bad := rfl
@[simp] theorem chK2_eq (h h' : D → D → Option Val) (v w : Val) : chK2 h h' fc v (w, e) = match opd e v, opd e w with
  | some x, some y => (match h x y with
    | some (.frz (.bool true)) => (fz fc e).bind (chK3 h' w)
    | some (.frz (.bool false)) => .ok (.frz (.bool false), e)
    | _ => .bad)
  | _, _ => .bad := rfl
@[simp] theorem chK_eq (h h' : D → D → Option Val) (v : Val) : chK h h' fb fc (v, e) = (fz fb e).bind (chK2 h h' fc v) := rfl
@[simp] theorem fChain_eq (h h' : D → D → Option Val) : fChain h h' fa fb fc e = (fz fa e).bind (chK h h' fb fc) := rfl
@[simp] theorem asD_frz (x : D) : asD (.frz x, e) = .ok (x, e) := rfl
@[simp] theorem aNil_eq : aNil e = .ok ([], e) := rfl
def aK2 (x : D) (b : List D × BV.Env) : Out (List D × BV.Env) := .ok (x :: b.1, b.2)
def aK (g : BV.Env → Out (List D × BV.Env)) (a : D × BV.Env) : Out (List D × BV.Env) := (g a.2).bind (aK2 a.1)
def tupK (a : List D × BV.Env) : Out (Val × BV.Env) := if a.1.length ≤ sizeLine then .ok (.frz (.tuple a.1), a.2) else .bad
def lstK (a : List D × BV.Env) : Out (Val × BV.Env) := if a.1.length ≤ sizeLine then .ok (.new (.lst a.1), a.2) else .bad
@[simp] theorem aK2_eq (x : D) (ds : List D) : aK2 x (ds, e) = .ok (x :: ds, e) := rfl
@[simp] theorem aK_eq (g : BV.Env → Out (List D × BV.Env)) (x : D) : aK g (x, e) = (g e).bind (aK2 x) := rfl
@[simp] theorem aCons_eq (g : BV.Env → Out (List D × BV.Env)) : aCons f g e = ((fz f e).bind asD).bind (aK g) := rfl
theorem small_len {n : Nat} (h : n ≤ 4000) : n ≤ sizeLine := Nat.le_trans h (by decide)
@[simp] theorem tupK_eq (ds : List D) : tupK (ds, e) = if ds.length ≤ sizeLine then .ok (.frz (.tuple ds), e) else .bad := rfl
@[simp] theorem lstK_eq (ds : List D) : lstK (ds, e) = if ds.length ≤ sizeLine then .ok (.new (.lst ds), e) else .bad := rfl
@[simp] theorem fTup_eq (g : BV.Env → Out (List D × BV.Env)) : fTup g e = (g e).bind tupK := rfl
@[simp] theorem fLst_eq (g : BV.Env → Out (List D × BV.Env)) : fLst g e = (g e).bind lstK := rfl
@[simp] theorem oNone_eq : oNone e = .ok (none, e) := rfl
def oK (a : Val × BV.Env) : Out (Option Int × BV.Env) := match a.1 with
  | .frz (.int i) => .ok (some i, a.2)
  | _ => .bad
@[simp] theorem oK_eq (i : Int) : oK (.frz (.int i), e) = .ok (some i, e) := rfl
@[simp] theorem oSome_eq : oSome f e = (f e).bind oK := rfl
def slK3 (v : Val) (l : Option Int) (h : Option Int × BV.Env) : Out (Val × BV.Env) := match opd h.2 v with
  | some d => res (gSl d l h.1) h.2
  | none => .bad
def slK2 (hi : BV.Env → Out (Option Int × BV.Env)) (v : Val) (l : Option Int × BV.Env) : Out (Val × BV.Env) := (hi l.2).bind (slK3 v l.1)
def slK (lo hi : BV.Env → Out (Option Int × BV.Env)) (a : Val × BV.Env) : Out (Val × BV.Env) := (lo a.2).bind (slK2 hi a.1)
@[simp] theorem slK3_eq (v : Val) (l h : Option Int) : slK3 v l (h, e) = match opd e v with
  | some d => res (gSl d l h) e
  | none => .bad := rfl
@[simp] theorem slK2_eq (hi : BV.Env → Out (Option Int × BV.Env)) (v : Val) (l : Option Int) : slK2 hi v (l, e) = (hi e).bind (slK3 v l) := rfl
@[simp] theorem slK_eq (lo hi : BV.Env → Out (Option Int × BV.Env)) (v : Val) : slK lo hi (v, e) = (lo e).bind (slK2 hi v) := rfl
@[simp] theorem fSl_eq (lo hi : BV.Env → Out (Option Int × BV.Env)) : fSl f lo hi e = (fz f e).bind (slK lo hi) := rfl
@[simp] theorem rNil_eq : rNil e = .ok ([], e) := rfl
def rK2 (x : Arg) (b : List Arg × BV.Env) : Out (List Arg × BV.Env) := .ok (x :: b.1, b.2)
def rK (g : BV.Env → Out (List Arg × BV.Env)) (a : D × BV.Env) : Out (List Arg × BV.Env) := (g a.2).bind (rK2 (.dat a.1))
@[simp] theorem rK2_eq (x : Arg) (b : List Arg) : rK2 x (b, e) = .ok (x :: b, e) := rfl
@[simp] theorem rK_eq (g : BV.Env → Out (List Arg × BV.Env)) (x : D) : rK g (x, e) = (g e).bind (rK2 (.dat x)) := rfl
@[simp] theorem rDat_eq (g : BV.Env → Out (List Arg × BV.Env)) : rDat f g e = ((fz f e).bind asD).bind (rK g) := rfl
@[simp] theorem rOwn_eq (i : Nat) (g : BV.Env → Out (List Arg × BV.Env)) : rOwn i g e = match e[i]? with
  | some (.own _) => (g e).bind (rK2 (.own i))
  | _ => .bad := rfl
theorem fCall_as (m : Fn) (ds : List D) (fs : BV.Env → Out (List Arg × BV.Env)) : fCall m ds fs e = (fs e).bind fun a => callAs m (a.1 ++ ds.map Arg.dat) a.2 := rfl
def cK (m : Fn) (a : List Arg × BV.Env) : Out (Val × BV.Env) := callAs m a.1 a.2
@[simp] theorem cK_eq (m : Fn) (as : List Arg) : cK m (as, e) = callAs m as e := rfl
@[simp] theorem fCall_eq (m : Fn) (fs : BV.Env → Out (List Arg × BV.Env)) : fCall m [] fs e = (fs e).bind (cK m) := by
  rw [fCall_as]
  simp only [List.map_nil, List.append_nil]
  try rfl
def ckK2 (m : Fn) (is : List Nat) (as : List Arg) (b : List Arg × BV.Env) : Out (Val × BV.Env) := callAs m (pickG is as b.1) b.2
def ckK (m : Fn) (is : List Nat) (fk : BV.Env → Out (List Arg × BV.Env)) (a : List Arg × BV.Env) : Out (Val × BV.Env) := (fk a.2).bind (ckK2 m is a.1)
@[simp] theorem ckK2_eq (m : Fn) (is : List Nat) (as bs : List Arg) : ckK2 m is as (bs, e) = callAs m (pickG is as bs) e := rfl
@[simp] theorem ckK_eq (m : Fn) (is : List Nat) (fk : BV.Env → Out (List Arg × BV.Env)) (as : List Arg) : ckK m is fk (as, e) = (fk e).bind (ckK2 m is as) := rfl
@[simp] theorem fCallK_eq (m : Fn) (is : List Nat) (fs fk : BV.Env → Out (List Arg × BV.Env)) : fCallK m is fs fk e = (fs e).bind (ckK m is fk) := rfl
/-- a call answers -/
theorem callAs_ok {m : Fn} {as : List Arg} {sl sl' : List Slot} {v : Val} {e' : BV.Env} (hn : (ownIx as).Nodup) (h1 : slotsOf e as = some sl) (h2 : m sl = .ok (v, sl')) (h3 : wb as sl' e = some e') (h4 : ∀ i, v ≠ .bor i) : callAs m as e = .ok (v, e') := by
  unfold callAs
  rw [if_pos hn, h1]
  cases v with
  | bor i => exact absurd rfl (h4 i)
  | frz d => simp only [h2, h3]
  | new o => simp only [h2, h3]
/-! statements -/
variable {s t : BV.Env → Out (Fl × BV.Env)}
@[simp] theorem keepsB_nil : keepsB [] [] = true := rfl
@[simp] theorem keepsB_oo (a b : O) (x y : BV.Env) : keepsB (.own a :: x) (.own b :: y) = keepsB x y := rfl
@[simp] theorem keepsB_f (a : D) (b : Slot) (x y : BV.Env) : keepsB (.frz a :: x) (b :: y) = keepsB x y := rfl
@[simp] theorem keepsB_n (b : Slot) (x y : BV.Env) : keepsB (.no :: x) (b :: y) = keepsB x y := rfl
@[simp] theorem keepsB_same (x : BV.Slot) (a b : BV.Env) : keepsB (x :: a) (x :: b) = keepsB a b := by cases x <;> rfl
@[simp] theorem sE_ok {α β : Type} (a : α) (h : α → BV.Env → Out β) : sE e (.ok (a, e1)) h = if keepsB e e1 = true then h a e1 else .bad := rfl
@[simp] theorem sE_exc {α β : Type} (x : Exn) (h : α → BV.Env → Out β) : sE e (.exc x e1) h = if keepsB e e1 = true then .exc x e1 else .bad := rfl
@[simp] theorem sNil_eq : sNil e = .ok (.nx, e) := rfl
def seqK (t : BV.Env → Out (Fl × BV.Env)) (a : Fl × BV.Env) : Out (Fl × BV.Env) := match a.1 with
  | .nx => t a.2
  | fl => .ok (fl, a.2)
@[simp] theorem seqK_nx : seqK t (.nx, e) = t e := rfl
@[simp] theorem seqK_ret (v : Val) : seqK t (.ret v, e) = .ok (.ret v, e) := rfl
@[simp] theorem seqK_brk : seqK t (.brk, e) = .ok (.brk, e) := rfl
@[simp] theorem seqK_cont : seqK t (.cont, e) = .ok (.cont, e) := rfl
@[simp] theorem sSeq_eq : sSeq s t e = (s e).bind (seqK t) := rfl
def dropK (_ : Val) (e : BV.Env) : Out (Fl × BV.Env) := .ok (.nx, e)
@[simp] theorem dropK_eq (v : Val) : dropK v e = .ok (.nx, e) := rfl
@[simp] theorem sDrop_eq : sDrop f e = sE e (f e) dropK := rfl
def retK (k : Nat) (v : Val) (e1 : BV.Env) : Out (Fl × BV.Env) := match v with
  | .bor i => if i < k then .bad else match e1[i]? with
    | some (.own o) => match o.dq with
      | some d => .ok (.ret (.frz d), e1.set i (.frz d))
      | none => .bad
    | _ => .bad
  | v => .ok (.ret v, e1)
@[simp] theorem retK_frz (k : Nat) (d : D) : retK k (.frz d) e = .ok (.ret (.frz d), e) := rfl
@[simp] theorem retK_new (k : Nat) (d : O) : retK k (.new d) e = .ok (.ret (.new d), e) := rfl
@[simp] theorem retK_bor (k i : Nat) : retK k (.bor i) e = if i < k then .bad else match e[i]? with
    | some (.own o) => match o.dq with
      | some d => .ok (.ret (.frz d), e.set i (.frz d))
      | none => .bad
    | _ => .bad := rfl
@[simp] theorem sRet_eq (k : Nat) : sRet k f e = sE e (f e) (retK k) := rfl
@[simp] theorem sRetN_eq : sRetN e = .ok (.ret (.frz .none), e) := rfl
def ifK (s t : BV.Env → Out (Fl × BV.Env)) (b : Bool) (e1 : BV.Env) : Out (Fl × BV.Env) := if b = true then s e1 else t e1
@[simp] theorem ifK_t : ifK s t true e = s e := rfl
@[simp] theorem ifK_f : ifK s t false e = t e := rfl
@[simp] theorem sIf_eq : sIf c s t e = sE e (c e) (ifK s t) := rfl
def setK (k i : Nat) (v : Val) (e1 : BV.Env) : Out (Fl × BV.Env) := if asgOk k e1 i = true then match v with
  | .frz d => .ok (.nx, e1.set i (.frz d))
  | .new o => .ok (.nx, e1.set i (.own o))
  | .bor j => if j < k then .bad else match e1[j]? with
    | some (.own o) => match o.dq with
      | some d => .ok (.nx, (e1.set j (.frz d)).set i (.frz d))
      | none => .bad
    | _ => .bad
  else .bad
@[simp] theorem setK_frz (k i : Nat) (d : D) : setK k i (.frz d) e = if asgOk k e i = true then .ok (.nx, e.set i (.frz d)) else .bad := rfl
@[simp] theorem setK_new (k i : Nat) (o : O) : setK k i (.new o) e = if asgOk k e i = true then .ok (.nx, e.set i (.own o)) else .bad := rfl
@[simp] theorem setK_bor (k i j : Nat) : setK k i (.bor j) e = if asgOk k e i = true then (if j < k then .bad else match e[j]? with
    | some (.own o) => match o.dq with
      | some d => .ok (.nx, (e.set j (.frz d)).set i (.frz d))
      | none => .bad
    | _ => .bad) else .bad := rfl
@[simp] theorem sSet_eq (k i : Nat) : sSet k i f e = sE e (f e) (setK k i) := rfl
@[simp] theorem asgOk_eq (k : Nat) (i : Nat) : asgOk k e i = if i < k then (match e[i]? with
  | some (.own _) => false
  | _ => true) else true := rfl
def sxK2 (i : Nat) (d : D) (n : Val) (e2 : BV.Env) : Out (Fl × BV.Env) := match n, e2[i]? with
    | .frz (.int n), some (.own (.lst ds)) => match ixN ds.length n with
      | some j => .ok (.nx, e2.set i (.own (.lst (ds.set j d))))
      | none => .bad
    | _, _ => .bad
def sxK (i : Nat) (fi : BV.Env → Out (Val × BV.Env)) (d : D) (e1 : BV.Env) : Out (Fl × BV.Env) := match e1[i]? with
  | some (.own (.lst _)) => sE e1 (fz fi e1) (sxK2 i d)
  | _ => .bad
@[simp] theorem sxK2_eq (i : Nat) (d : D) (n : Int) : sxK2 i d (.frz (.int n)) e = match e[i]? with
    | some (.own (.lst ds)) => (match ixN ds.length n with
      | some j => .ok (.nx, e.set i (.own (.lst (ds.set j d))))
      | none => .bad)
    | _ => .bad := by
  unfold sxK2
  cases h : e[i]? with
  | none => rfl
  | some o =>
    cases o with
    | own o => cases o <;> rfl
    | _ => rfl
@[simp] theorem sxK_eq (i : Nat) (fi : BV.Env → Out (Val × BV.Env)) (d : D) : sxK i fi d e = match e[i]? with
  | some (.own (.lst _)) => sE e (fz fi e) (sxK2 i d)
  | _ => .bad := rfl
@[simp] theorem sSetIx_eq (i : Nat) (fi : BV.Env → Out (Val × BV.Env)) : sSetIx i f fi e = sE e ((fz f e).bind asD) (sxK i fi) := rfl
def putK (k : Nat) (is : List Nat) (ds : List D) (e1 : BV.Env) : Out (Fl × BV.Env) := match putAll k is ds e1 with
    | some e2 => .ok (.nx, e2)
    | none => .bad
def unpK (k : Nat) (is : List Nat) (d : D) (e1 : BV.Env) : Out (Fl × BV.Env) := match d with
  | .tuple ds => putK k is ds e1
  | _ => .bad
@[simp] theorem unpK_eq (k : Nat) (is : List Nat) (ds : List D) : unpK k is (.tuple ds) e = putK k is ds e := rfl
@[simp] theorem putK_eq (k : Nat) (is : List Nat) (ds : List D) : putK k is ds e = match putAll k is ds e with
    | some e2 => .ok (.nx, e2)
    | none => .bad := rfl
@[simp] theorem putAll_nil (k : Nat) : putAll k [] [] e = some e := rfl
@[simp] theorem putAll_cons (k i : Nat) (is : List Nat) (d : D) (ds : List D) : putAll k (i :: is) (d :: ds) e = if asgOk k e i = true then putAll k is ds (e.set i (.frz d)) else none := rfl
theorem sUnp_eq (k : Nat) (is : List Nat) : sUnp k is f e = sE e ((fz f e).bind asD) (unpK k is) := rfl
theorem sPar_eq (k : Nat) (is : List Nat) (h : BV.Env → Out (List D × BV.Env)) : sPar k is h e = sE e (h e) (putK k is) := rfl
def augK (k i : Nat) (h : Int → Int → Int) (a : Int) (v : Val) (e1 : BV.Env) : Out (Fl × BV.Env) := match v with
    | .frz (.int b) => if asgOk k e1 i = true then .ok (.nx, e1.set i (.frz (.int (h a b)))) else .bad
    | _ => .bad
@[simp] theorem augK_eq (k i : Nat) (h : Int → Int → Int) (a b : Int) : augK k i h a (.frz (.int b)) e = if asgOk k e i = true then .ok (.nx, e.set i (.frz (.int (h a b)))) else .bad := rfl
@[simp] theorem sAug_eq (k i : Nat) (h : Int → Int → Int) : sAug k i h f e = match e[i]? with
  | some (.frz (.int a)) => sE e (fz f e) (augK k i h a)
  | _ => .bad := rfl
def gOwnK (h : List D → D → Option (Val × List D)) (i : Nat) (a : D × BV.Env) : Out (Val × BV.Env) := match a.2[i]? with
    | some (.own (.lst ds)) => (match h ds a.1 with
      | some (v, ds') => .ok (v, a.2.set i (.own (.lst ds')))
      | none => .bad)
    | _ => .bad
@[simp] theorem gOwnK_eq (h : List D → D → Option (Val × List D)) (i : Nat) (d : D) : gOwnK h i (d, e) = match e[i]? with
    | some (.own (.lst ds)) => (match h ds d with
      | some (v, ds') => .ok (v, e.set i (.own (.lst ds')))
      | none => .bad)
    | _ => .bad := rfl
@[simp] theorem gOwn_eq (h : List D → D → Option (Val × List D)) (i : Nat) : gOwn h i f e = match e[i]? with
  | some (.own (.lst _)) => ((fz f e).bind asD).bind (gOwnK h i)
  | _ => .bad := rfl
@[simp] theorem gOwn0_eq (h : List D → Option (Val × List D)) (i : Nat) : gOwn0 h i e = match e[i]? with
  | some (.own (.lst ds)) => match h ds with
    | some (v, ds') => .ok (v, e.set i (.own (.lst ds')))
    | none => .bad
  | _ => .bad := rfl
def methK (T : String) (h : D → D → Option Val) (fb : BV.Env → Out (Val × BV.Env)) (a : Val × BV.Env) : Out (Val × BV.Env) := match opd a.2 a.1 with
  | some x => if tyD x = T then (fz fb a.2).bind (binK2 h a.1) else .bad
  | none => .bad
@[simp] theorem methK_eq (T : String) (h : D → D → Option Val) (v : Val) : methK T h fb (v, e) = match opd e v with
  | some x => if tyD x = T then (fz fb e).bind (binK2 h v) else .bad
  | none => .bad := rfl
@[simp] theorem meth_eq (T : String) (h : D → D → Option Val) : meth T h fa fb e = (fz fa e).bind (methK T h fb) := rfl
@[simp] theorem tyD_s (x : Str) : tyD (.str x) = "str" := rfl
@[simp] theorem tyD_l (x : List D) : tyD (.list x) = "list" := rfl
@[simp] theorem tyD_t (x : List D) : tyD (.tuple x) = "tuple" := rfl
@[simp] theorem tyD_d (x : List (D × D)) : tyD (.dict x) = "dict" := rfl
def seqIK (k : Nat) (a : Val × BV.Env) : Out (List D × BV.Env) := match a.1 with
  | .frz d => resI (itemsD d) a.2
  | .bor i => if i < k then .bad else match a.2[i]? with
    | some (.own o) => match o.dq with
      | some d => resI (itemsD d) (a.2.set i (.frz d))
      | none => .bad
    | _ => .bad
  | .new _ => .bad
@[simp] theorem seqIK_frz (k : Nat) (d : D) : seqIK k (.frz d, e) = resI (itemsD d) e := rfl
@[simp] theorem seqIK_bor (k i : Nat) : seqIK k (.bor i, e) = if i < k then .bad else match e[i]? with
    | some (.own o) => match o.dq with
      | some d => resI (itemsD d) (e.set i (.frz d))
      | none => .bad
    | _ => .bad := rfl
@[simp] theorem iSeq_eq (k : Nat) : iSeq k f e = (fz f e).bind (seqIK k) := rfl
@[simp] theorem resI_some (ds : List D) : resI (some ds) e = .ok (ds, e) := rfl
@[simp] theorem itemsD_l (ds : List D) : itemsD (.list ds) = some ds := rfl
@[simp] theorem itemsD_t (ds : List D) : itemsD (.tuple ds) = some ds := rfl
def r1K (a : Val × BV.Env) : Out (List D × BV.Env) := match a.1 with
  | .frz (.int n) => if -(2 ^ 62) ≤ n ∧ n < 2 ^ 62 then .ok (rints 0 n.toNat, a.2) else .bad
  | _ => .bad
@[simp] theorem r1K_eq (n : Int) : r1K (.frz (.int n), e) = if -(2 ^ 62) ≤ n ∧ n < 2 ^ 62 then .ok (rints 0 n.toNat, e) else .bad := rfl
@[simp] theorem iR1_eq : iR1 f e = (fz f e).bind r1K := rfl
def lrK (mk : List D → Val) (a : Val × BV.Env) : Out (Val × BV.Env) := match a.1 with
  | .frz (.int n) => if -(2 ^ 62) ≤ n ∧ n ≤ 2 ^ 24 then .ok (mk (rints 0 n.toNat), a.2) else .bad
  | _ => .bad
@[simp] theorem lrK_eq (mk : List D → Val) (n : Int) : lrK mk (.frz (.int n), e) = if -(2 ^ 62) ≤ n ∧ n ≤ 2 ^ 24 then .ok (mk (rints 0 n.toNat), e) else .bad := rfl
@[simp] theorem fLRg1_eq (mk : List D → Val) : fLRg1 mk f e = (fz f e).bind (lrK mk) := rfl
/-! the operations at ints -/
@[simp] theorem gAdd_i (a b : Int) : gAdd (.int a) (.int b) = some (.frz (.int (a + b))) := rfl
@[simp] theorem gSub_i (a b : Int) : gSub (.int a) (.int b) = some (.frz (.int (a - b))) := rfl
@[simp] theorem gNeg_i (a : Int) : gNeg (.int a) = some (.frz (.int (-a))) := rfl
@[simp] theorem gLt_i (a b : Int) : gLt (.int a) (.int b) = some (.frz (.bool (decide (a < b)))) := rfl
@[simp] theorem gLe_i (a b : Int) : gLe (.int a) (.int b) = some (.frz (.bool (decide (a ≤ b)))) := rfl
@[simp] theorem gGt_i (a b : Int) : gGt (.int a) (.int b) = some (.frz (.bool (decide (b < a)))) := rfl
@[simp] theorem gGe_i (a b : Int) : gGe (.int a) (.int b) = some (.frz (.bool (decide (b ≤ a)))) := rfl
@[simp] theorem gMod_i (a b : Int) : gMod (.int a) (.int b) = if 0 < b then some (.frz (.int (a % b))) else none := rfl
@[simp] theorem gFdiv_i (a b : Int) : gFdiv (.int a) (.int b) = if 0 < b ∧ b < 1073741824 then some (.frz (.int (a / b))) else none := rfl
@[simp] theorem gMul_i (a b : Int) : gMul (.int a) (.int b) = if (-18446744073709551616 < a ∧ a < 18446744073709551616) ∨ (-18446744073709551616 < b ∧ b < 18446744073709551616) then some (.frz (.int (a * b))) else none := rfl
@[simp] theorem gPow_i (a b : Int) : gPow (.int a) (.int b) = if 0 ≤ b ∧ b ≤ 1000000 ∧ a.natAbs < 2 ^ 64 then some (.frz (.int (a ^ b.toNat))) else none := rfl
@[simp] theorem gIx_l (xs : List D) (i : Int) : gIx (.list xs) (.int i) = (atI xs i).map .frz := rfl
@[simp] theorem gIx_t (xs : List D) (i : Int) : gIx (.tuple xs) (.int i) = (atI xs i).map .frz := rfl
@[simp] theorem gLen_l (xs : List D) : gLen (.list xs) = some (.frz (.int (xs.length : Nat))) := rfl
@[simp] theorem gLen_t (xs : List D) : gLen (.tuple xs) = some (.frz (.int (xs.length : Nat))) := rfl
@[simp] theorem gMin2_i (a b : Int) : gMin2 (.int a) (.int b) = some (.frz (.int (if b < a then b else a))) := rfl
@[simp] theorem gMax2_i (a b : Int) : gMax2 (.int a) (.int b) = some (.frz (.int (if b > a then b else a))) := rfl
@[simp] theorem gInt_i (a : Int) : gInt (.int a) = some (.frz (.int a)) := rfl
@[simp] theorem gInt_b (b : Bool) : gInt (.bool b) = some (.frz (.int (if b then 1 else 0))) := rfl
@[simp] theorem gAbs_i (a : Int) : gAbs (.int a) = some (.frz (.int (if a < 0 then -a else a))) := rfl
@[simp] theorem gList_l (xs : List D) : gList (.list xs) = some (.new (.lst xs)) := rfl
@[simp] theorem gList_t (xs : List D) : gList (.tuple xs) = some (.new (.lst xs)) := rfl
@[simp] theorem gTuple_l (xs : List D) : gTuple (.list xs) = some (.frz (.tuple xs)) := rfl
@[simp] theorem gTuple_t (xs : List D) : gTuple (.tuple xs) = some (.frz (.tuple xs)) := rfl
@[simp] theorem gIsi_eq (h : D → Bool) (d : D) : gIsi h d = some (.frz (.bool (h d))) := rfl
@[simp] theorem gSl_l (xs : List D) (lo hi : Option Int) : gSl (.list xs) lo hi = some (.new (.lst (cutD xs lo hi))) := rfl
@[simp] theorem gSl_t (xs : List D) (lo hi : Option Int) : gSl (.tuple xs) lo hi = some (.frz (.tuple (cutD xs lo hi))) := rfl
@[simp] theorem gSum_l (ns : List Int) : gSum (.list (ns.map .int)) = some (.frz (.int ns.sum)) := by
  show (asInts (ns.map .int)).map _ = _
  rw [asInts_map]
  rfl
@[simp] theorem atI_0 (x : D) (xs : List D) : atI (x :: xs) 0 = some x := by
  unfold atI ixN
  simp
@[simp] theorem atI_1 (x y : D) (xs : List D) : atI (x :: y :: xs) 1 = some y := by
  unfold atI ixN
  rw [if_pos (by decide), if_pos (by simp only [List.length_cons]; omega)]
  rfl
theorem atI_nat {xs : List D} {i : Int} (h0 : 0 ≤ i) (h1 : i < xs.length) : ∃ d, atI xs i = some d ∧ xs[i.toNat]? = some d := by
  unfold atI ixN
  have hl : i.toNat < xs.length := by omega
  rw [if_pos h0, if_pos h1]
  exact ⟨xs[i.toNat], by simp [hl], by simp [hl]⟩
@[simp] theorem eqv_i (a b : Int) : PyData.eqv (.int a) (.int b) = decide (a = b) := by
  show (a == b) = _
  by_cases h : a = b <;> simp [h]
@[simp] theorem gEq_i (a b : Int) : gEq (.int a) (.int b) = some (.frz (.bool (decide (a = b)))) := by
  unfold gEq
  simp [PyData.plain, PyData.depth]
@[simp] theorem gNe_i (a b : Int) : gNe (.int a) (.int b) = some (.frz (.bool (!decide (a = b)))) := by
  unfold gNe
  simp [PyData.plain, PyData.depth]
@[simp] theorem noX_ok {α : Type} (a : α) : noX (.ok a) = .ok a := rfl
theorem runF_ret {n N : Nat} {s : BV.Env → Out (Fl × BV.Env)} {sl : List Slot} {v : Val} {e' : BV.Env} {sl' : List Slot} (h : s (sl ++ List.replicate (N - n) .no) = .ok (.ret v, e')) (hb : back sl e' = some sl') (hv : ∀ i, v ≠ .bor i) : runF n N s sl = .ok (v, sl') := by
  unfold runF
  rw [h]
  cases v with
  | bor i => exact absurd rfl (hv i)
  | frz d => simp only [hb]
  | new o => simp only [hb]
theorem runF_nx {n N : Nat} {s : BV.Env → Out (Fl × BV.Env)} {sl : List Slot} {e' : BV.Env} {sl' : List Slot} (h : s (sl ++ List.replicate (N - n) .no) = .ok (.nx, e')) (hb : back sl e' = some sl') : runF n N s sl = .ok (.frz .none, sl') := by
  unfold runF
  rw [h]
  simp only [hb]
theorem seq_step {s t : BV.Env → Out (Fl × BV.Env)} {e e1 : BV.Env} (h : s e = .ok (.nx, e1)) : sSeq s t e = t e1 := by
  rw [sSeq_eq, h]
  rfl
theorem seq_ret {s t : BV.Env → Out (Fl × BV.Env)} {e e1 : BV.Env} {v : Val} (h : s e = .ok (.ret v, e1)) : sSeq s t e = .ok (.ret v, e1) := by
  rw [sSeq_eq, h]
  rfl
/-! the pool of a law's drawn numbers: two ints -/
def PoolL (ds : List D) : Prop := ∃ a b : Int, ds = [.int a, .int b] ∧ 0 ≤ a ∧ 0 ≤ b ∧ b < 2147483647
/-- a def that draws: from the pool, below n -/
def Takes2 (m : Fn) : Prop := ∀ (ds : List D) (n : Int), PoolL ds → 0 < n → n < 1073741824 → ∃ (r : Int) (ds' : List D), m [.own (.lst ds), .frz (.int n)] = .ok (.frz (.int r), [.own (.lst ds'), .frz (.int n)]) ∧ PoolL ds' ∧ 0 ≤ r ∧ r < n
theorem take_call {m : Fn} (T : Takes2 m) {e : BV.Env} {i : Nat} {ds : List D} {n : Int} (he : e[i]? = some (.own (.lst ds))) (hp : PoolL ds) (h0 : 0 < n) (h1 : n < 1073741824) :
    ∃ (r : Int) (ds' : List D), callAs m [.own i, .dat (.int n)] e = .ok (.frz (.int r), e.set i (.own (.lst ds'))) ∧ PoolL ds' ∧ 0 ≤ r ∧ r < n := by
  obtain ⟨r, ds', h, p, b1, b2⟩ := T ds n hp h0 h1
  refine ⟨r, ds', callAs_ok (by simp [ownIx]) (sl := [.own (.lst ds), .frz (.int n)]) ?_ h ?_ (fun _ q => by cases q), p, b1, b2⟩
  · simp [slotsOf, he]
  · simp [wb]
def IntsIn (lo hi : Int) (ds : List D) : Prop := ∀ d ∈ ds, ∃ i : Int, d = .int i ∧ lo ≤ i ∧ i ≤ hi
theorem IntsIn.get {lo hi : Int} {ds : List D} (h : IntsIn lo hi ds) {i : Nat} {d : D} (q : ds[i]? = some d) : ∃ k : Int, d = .int k ∧ lo ≤ k ∧ k ≤ hi := h d (List.mem_of_getElem? q)
theorem IntsIn.erase {lo hi : Int} {ds : List D} (h : IntsIn lo hi ds) (i : Nat) : IntsIn lo hi (ds.eraseIdx i) := fun d hd => h d (List.mem_of_mem_eraseIdx hd)
theorem IntsIn.snoc {lo hi k : Int} {ds : List D} (h : IntsIn lo hi ds) (h1 : lo ≤ k) (h2 : k ≤ hi) : IntsIn lo hi (ds ++ [.int k]) := fun d hd => by
  rcases List.mem_append.mp hd with q | q
  · exact h d q
  · rw [List.mem_singleton] at q
    exact ⟨k, q, h1, h2⟩
theorem IntsIn.nil {lo hi : Int} : IntsIn lo hi [] := fun d hd => by cases hd
theorem IntsIn.mono {lo hi lo' hi' : Int} {ds : List D} (h : IntsIn lo hi ds) (h1 : lo' ≤ lo) (h2 : hi ≤ hi') : IntsIn lo' hi' ds := fun d hd => by
  obtain ⟨i, e, a, b⟩ := h d hd
  exact ⟨i, e, by omega, by omega⟩
theorem IntsIn.sub {lo hi : Int} {ds es : List D} (h : IntsIn lo hi ds) (s : ∀ d ∈ es, d ∈ ds) : IntsIn lo hi es := fun d hd => h d (s d hd)
theorem rints_in (lo : Int) (n : Nat) (hi : Int) (h : lo + n ≤ hi + 1) : IntsIn lo hi (rints lo n) := fun d hd => by
  unfold rints at hd
  obtain ⟨i, h1, h2⟩ := List.mem_map.mp hd
  have := List.mem_range.mp h1
  exact ⟨_, h2.symm, by omega, by omega⟩
theorem sorted_ints {lo hi : Int} {ds : List D} (h : IntsIn lo hi ds) : gSorted (.list ds) = some (.new (.lst (sortD ds))) ∧ IntsIn lo hi (sortD ds) ∧ (sortD ds).length = ds.length := by
  have hb : sortB ds = true := by
    unfold sortB
    simp only [Bool.and_eq_true, Bool.or_eq_true, List.all_eq_true, decide_eq_true_eq]
    refine ⟨⟨fun d hd e he => ?_, Or.inr fun d hd => ?_⟩, fun d hd => ?_⟩
    · obtain ⟨i, rfl, _⟩ := h d hd
      obtain ⟨j, rfl, _⟩ := h e he
      simp [PySem.W.alike]
    · obtain ⟨i, rfl, _⟩ := h d hd
      rfl
    · obtain ⟨i, rfl, _⟩ := h d hd
      simp [PyData.depth]
  refine ⟨by simp only [gSorted, if_pos hb], fun d hd => h d ?_, ?_⟩
  · exact (List.mergeSort_perm ds dLe).mem_iff.mp hd
  · exact List.length_mergeSort ds
theorem mPop_ok {ds : List D} {i : Int} (h0 : 0 ≤ i) (h1 : i < ds.length) (h2 : ds.length ≤ 4000) : ∃ d, mPop ds (.int i) = some (.frz d, ds.eraseIdx i.toNat) ∧ d ∈ ds := by
  have hl : i.toNat < ds.length := by omega
  refine ⟨ds[i.toNat], ?_, List.getElem_mem hl⟩
  have e : seqIndex? i ds.length = some i.toNat := by
    unfold seqIndex?
    have n0 : ¬ i < 0 := by omega
    simp [n0, h0, h1]
  show (if _ then _ else _) = _
  rw [if_pos (by omega), e]
  simp [hl]
theorem erase_perm {α : Type} : ∀ (l : List α) (i : Nat) (h : i < l.length), (l[i] :: l.eraseIdx i).Perm l
  | x :: l, 0, _ => List.Perm.refl _
  | x :: l, i + 1, h => by
    have ih := erase_perm l i (by simpa using h)
    simp only [List.getElem_cons_succ, List.eraseIdx_cons_succ]
    exact (List.Perm.swap _ _ _).trans (List.Perm.cons x ih)
theorem mPop_perm {ds : List D} {i : Int} (h0 : 0 ≤ i) (h1 : i < ds.length) (h2 : ds.length ≤ 4000) : ∃ d, mPop ds (.int i) = some (.frz d, ds.eraseIdx i.toNat) ∧ (d :: ds.eraseIdx i.toNat).Perm ds := by
  have hl : i.toNat < ds.length := by omega
  refine ⟨ds[i.toNat], ?_, erase_perm ds _ hl⟩
  have e : seqIndex? i ds.length = some i.toNat := by
    unfold seqIndex?
    have n0 : ¬ i < 0 := by omega
    simp [n0, h0, h1]
  show (if _ then _ else _) = _
  rw [if_pos (by omega), e]
  simp [hl]
theorem sortD_nodup {ds : List D} (h : ds.Nodup) : (sortD ds).Nodup := (List.mergeSort_perm ds dLe).nodup_iff.mpr h
theorem rints_nodup (lo : Int) (n : Nat) : (rints lo n).Nodup := by
  unfold rints
  rw [List.nodup_iff_pairwise_ne, List.pairwise_map]
  refine List.Pairwise.imp ?_ (List.nodup_iff_pairwise_ne.mp List.nodup_range)
  intro a b hab e
  injection e with e
  omega
/-- the rooms of a row of cells -/
def rm1 : D → Bool
  | .int i => !decide (i = -1)
  | _ => true
/-! comprehensions, loops -/
theorem fLc_ok {it : BV.Env → Out (List D × BV.Env)} {t : Tg} {c : BV.Env → Out (Bool × BV.Env)} {f : BV.Env → Out (Val × BV.Env)} {vs : List Nat} {ds out : List D} {e' : BV.Env} (h1 : it e = .ok (ds, e1)) (h2 : Bare e1 vs) (h3 : lcL t c f vs ds [] e1 = .ok (out, e')) : fLc it t c f vs e = .ok (.new (.lst out), e') := by
  unfold fLc
  rw [h1, Out.bind_ok, if_pos h2, h3]
  rfl
/-- a comprehension whose items each are told, the slots else as they were -/
theorem lcL_map {c : BV.Env → Out (Bool × BV.Env)} {f : BV.Env → Out (Val × BV.Env)} {t : Tg} {vs : List Nat} {p : D → Bool} {y : D → D} {e : BV.Env} : ∀ (ds acc : List D), acc.length + ds.length ≤ sizeLine →
    (∀ d ∈ ds, ∃ e1, t.put 0 d e = some e1 ∧ c e1 = .ok (p d, e1) ∧ (p d = true → (fz f e1).bind asD = .ok (y d, e1)) ∧ wipeE e1 vs = e) → lcL t c f vs ds acc e = .ok (acc ++ (ds.filter p).map y, e)
  | [], acc, _, _ => by simp [lcL]
  | d :: ds, acc, hl, h => by
    obtain ⟨e1, h1, h2, h3, h4⟩ := h d List.mem_cons_self
    rw [List.length_cons] at hl
    have ih := fun acc (q : acc.length + ds.length ≤ sizeLine) => lcL_map (c := c) (f := f) (t := t) (vs := vs) (p := p) (y := y) (e := e) ds acc q fun d hd => h d (List.mem_cons_of_mem _ hd)
    unfold lcL
    rw [h1]
    simp only [h2, noX_ok, Out.bind_ok]
    cases hp : p d with
    | true =>
      have e3 := h3 hp
      have hx : noX (fz f e1) = fz f e1 := by
        cases q : fz f e1 with
        | ok _ => rfl
        | exc x e2 =>
          rw [q] at e3
          cases e3
        | bad => rfl
      rw [if_pos rfl, hx, e3, Out.bind_ok, if_pos (by omega), h4, ih _ (by rw [List.length_append]; simp only [List.length_cons, List.length_nil]; omega)]
      simp [hp]
    | false =>
      rw [if_neg (by simp), h4, ih _ (by omega)]
      simp [hp]
/-- a comprehension whose items change the slots: by an invariant -/
theorem lcL_inv {c : BV.Env → Out (Bool × BV.Env)} {f : BV.Env → Out (Val × BV.Env)} {t : Tg} {vs : List Nat} (I : List D → List D → BV.Env → Prop) : ∀ (ds acc : List D) (e : BV.Env), acc.length + ds.length ≤ sizeLine → I ds acc e →
    (∀ d ds acc e, I (d :: ds) acc e → ∃ e1 e2 b, t.put 0 d e = some e1 ∧ c e1 = .ok (b, e2) ∧ ((b = true ∧ ∃ y e3, (fz f e2).bind asD = .ok (y, e3) ∧ I ds (acc ++ [y]) (wipeE e3 vs)) ∨ (b = false ∧ I ds acc (wipeE e2 vs)))) →
      ∃ out e', lcL t c f vs ds acc e = .ok (out, e') ∧ I [] out e'
  | [], acc, e, _, hi, _ => ⟨acc, e, rfl, hi⟩
  | d :: ds, acc, e, hl, hi, h => by
    obtain ⟨e1, e2, b, h1, h2, h3⟩ := h d ds acc e hi
    rw [List.length_cons] at hl
    unfold lcL
    rw [h1]
    simp only [h2, noX_ok, Out.bind_ok]
    rcases h3 with ⟨rfl, y, e3, h3, h4⟩ | ⟨rfl, h4⟩
    · have hx : noX (fz f e2) = fz f e2 := by
        cases q : fz f e2 with
        | ok _ => rfl
        | exc x e2 =>
          rw [q] at h3
          cases h3
        | bad => rfl
      rw [if_pos rfl, hx, h3, Out.bind_ok, if_pos (by omega)]
      exact lcL_inv I ds _ _ (by rw [List.length_append]; simp only [List.length_cons, List.length_nil]; omega) h4 h
    · rw [if_neg (by simp)]
      exact lcL_inv I ds _ _ (by omega) h4 h
/-- a loop through, by an invariant -/
theorem forL_inv {k : Nat} {t : Tg} {body : BV.Env → Out (Fl × BV.Env)} (I : List D → BV.Env → Prop) : ∀ (ds : List D) (e : BV.Env), I ds e →
    (∀ d ds e, I (d :: ds) e → ∃ e1 e2, t.put k d e = some e1 ∧ (body e1 = .ok (.nx, e2) ∨ body e1 = .ok (.cont, e2)) ∧ I ds e2) → ∃ e', forL k t body ds e = .ok (.nx, e') ∧ I [] e'
  | [], e, hi, _ => ⟨e, rfl, hi⟩
  | d :: ds, e, hi, h => by
    obtain ⟨e1, e2, h1, h2, h3⟩ := h d ds e hi
    unfold forL
    rw [h1]
    rcases h2 with h2 | h2
    · simp only [h2]
      exact forL_inv I ds e2 h3 h
    · simp only [h2]
      exact forL_inv I ds e2 h3 h
theorem sFor_eq {k : Nat} {it : BV.Env → Out (List D × BV.Env)} {t : Tg} {body : BV.Env → Out (Fl × BV.Env)} {ds : List D} (h1 : it e = .ok (ds, e1)) (h2 : keepsK k e e1 = true) : sFor k it t body e = forL k t body ds e1 := by
  unfold sFor
  rw [h1]
  simp only [if_pos h2]
end
end BV
namespace BV
open PySem PySem.Spec PyProof.Rows L2
/-! small data, by levels: what may be looked at, told and compared -/
def atomD : D → Prop
  | .none => True
  | .bool _ => True
  | .int i => i.natAbs < 1000000
  | .str x => (reprText x).length ≤ 20
  | _ => False
def Lv : Nat → D → Prop
  | 0, d => atomD d
  | k + 1, d => atomD d ∨ ∃ ds, (d = .list ds ∨ d = .tuple ds) ∧ ds.length ≤ 20 ∧ ∀ x ∈ ds, Lv k x
theorem Lv.atom {d : D} (h : atomD d) : ∀ k, Lv k d
  | 0 => h
  | _ + 1 => Or.inl h
theorem Lv.up : ∀ {k : Nat} {d : D}, Lv k d → Lv (k + 1) d
  | 0, d, h => Or.inl h
  | k + 1, d, h => by
    rcases h with h | ⟨ds, h1, h2, h3⟩
    · exact Or.inl h
    · exact Or.inr ⟨ds, h1, h2, fun x hx => (h3 x hx).up⟩
theorem Lv.list {k : Nat} {ds : List D} (h1 : ds.length ≤ 20) (h2 : ∀ x ∈ ds, Lv k x) : Lv (k + 1) (.list ds) := Or.inr ⟨ds, Or.inl rfl, h1, h2⟩
theorem Lv.tuple {k : Nat} {ds : List D} (h1 : ds.length ≤ 20) (h2 : ∀ x ∈ ds, Lv k x) : Lv (k + 1) (.tuple ds) := Or.inr ⟨ds, Or.inr rfl, h1, h2⟩
theorem Lv.int {k : Nat} {i : Int} (h : i.natAbs < 1000000) : Lv k (.int i) := Lv.atom (d := .int i) h k
def shB : Nat → Nat
  | 0 => 20
  | k + 1 => 20 * (shB k + 2) + 3
theorem shB_le (k : Nat) : 20 ≤ shB k := by
  induction k with
  | zero => exact Nat.le_refl _
  | succ k ih =>
    show 20 ≤ 20 * (shB k + 2) + 3
    omega
structure Tells (n b : Nat) (d : D) : Prop where
  nodic : nodic d = true
  plain : d.plain = true
  depth : d.depth ≤ n
  showable : d.showable = true
  shown : d.shown.length ≤ b
theorem atom_tells {d : D} (h : atomD d) : Tells 1 20 d := by
  cases d with
  | none => exact ⟨rfl, rfl, by simp [PyData.depth], rfl, by decide⟩
  | bool b => exact ⟨rfl, rfl, by simp [PyData.depth], rfl, by cases b <;> decide⟩
  | int i =>
    have h : i.natAbs < 1000000 := h
    refine ⟨rfl, rfl, by simp [PyData.depth], ?_, ?_⟩
    · simp only [PyData.showable, decide_eq_true_eq]
      have : i.natAbs.log2 < 20 := by
        by_cases h0 : i.natAbs = 0
        · rw [h0]
          decide
        · exact (Nat.log2_lt h0).mpr (by omega)
      omega
    · show (Str.ofString (toString i)).length ≤ 20
      have e := int_text_length_le10 (a := i) (k := 6) (by decide) (by omega)
      rw [PySem.ofString_length]
      omega
  | str x => exact ⟨rfl, rfl, by simp [PyData.depth], rfl, h⟩
  | _ => exact False.elim h
theorem all_tells {n b : Nat} : ∀ {ds : List D}, (∀ x ∈ ds, Tells n b x) → nodicA ds = true ∧ PyData.plainAll ds = true ∧ PyData.depthAll ds ≤ n ∧ PyData.showableAll ds = true ∧ ((PyData.shownAll ds).map (·.length)).sum ≤ ds.length * b ∧ (PyData.shownAll ds).length = ds.length
  | [], _ => ⟨rfl, by simp [PyData.plainAll], by simp [PyData.depthAll], by simp [PyData.showableAll], by simp [PyData.shownAll], by simp [PyData.shownAll]⟩
  | d :: ds, h => by
    have t := h d List.mem_cons_self
    obtain ⟨h1, h2, h3, h4, h5, h6⟩ := all_tells (ds := ds) fun x hx => h x (List.mem_cons_of_mem _ hx)
    refine ⟨by simp [nodicA, t.nodic, h1], by simp [PyData.plainAll, t.plain, h2], ?_, by simp [PyData.showableAll, t.showable, h4], ?_, by simp [PyData.shownAll, h6]⟩
    · have := t.depth
      simp only [PyData.depthAll]
      omega
    · have := t.shown
      simp only [PyData.shownAll, List.map_cons, List.sum_cons, List.length_cons, Nat.add_mul, Nat.one_mul]
      omega
theorem Lv.tells : ∀ {k : Nat} {d : D}, Lv k d → Tells (k + 1) (shB k) d
  | 0, d, h => atom_tells h
  | k + 1, d, h => by
    rcases h with h | ⟨ds, h1, h2, h3⟩
    · have t := atom_tells h
      have := shB_le (k + 1)
      exact ⟨t.nodic, t.plain, by have := t.depth; omega, t.showable, by have := t.shown; omega⟩
    · obtain ⟨q1, q2, q3, q4, q5, q6⟩ := all_tells fun x hx => (h3 x hx).tells
      have hb : ds.length * shB k ≤ 20 * shB k := Nat.mul_le_mul_right _ h2
      rcases h1 with rfl | rfl
      · refine ⟨by simpa [BV.nodic] using q1, by simpa [PyData.plain] using q2, ?_, by simpa [PyData.showable] using q4, ?_⟩
        · simp only [PyData.depth]
          omega
        · have := listText_len_le (PyData.shownAll ds)
          show (listText (PyData.shownAll ds)).length ≤ 20 * (shB k + 2) + 3
          omega
      · refine ⟨by simpa [BV.nodic] using q1, by simpa [PyData.plain] using q2, ?_, by simpa [PyData.showable] using q4, ?_⟩
        · simp only [PyData.depth]
          omega
        · have := tupleText_len_le (PyData.shownAll ds)
          show (tupleText (PyData.shownAll ds)).length ≤ 20 * (shB k + 2) + 3
          omega
theorem sh3 : shB 3 ≤ sizeLine := Nat.le_trans (by decide : shB 3 ≤ 1000000) (by decide)
theorem Lv.repr {d : D} (h : Lv 3 d) : gRepr d = some (.frz (.str d.shown)) := by
  have t := h.tells
  unfold gRepr
  rw [if_pos ⟨t.nodic, t.showable, by have := t.depth; omega, Nat.le_trans t.shown sh3⟩]
theorem Lv.ints {lo hi : Int} {ds : List D} (h : IntsIn lo hi ds) (h1 : -1000 ≤ lo) (h2 : hi ≤ 1000) (k : Nat) : ∀ x ∈ ds, Lv k x := fun x hx => by
  obtain ⟨i, rfl, a, b⟩ := h x hx
  exact Lv.int (by omega)
theorem atI_mem {xs : List D} {i : Int} {d : D} (h : atI xs i = some d) : d ∈ xs := by
  unfold atI at h
  cases q : ixN xs.length i with
  | none =>
    rw [q] at h
    cases h
  | some j =>
    rw [q] at h
    exact List.mem_of_getElem? h
theorem atI_in {xs : List D} {i : Int} (h0 : 0 ≤ i) (h1 : i < xs.length) : ∃ d, atI xs i = some d ∧ d ∈ xs := by
  obtain ⟨d, a, b⟩ := atI_nat h0 h1
  exact ⟨d, a, List.mem_of_getElem? b⟩
theorem cut_mem {xs : List D} {lo hi : Option Int} {d : D} (h : d ∈ BV.cutD xs lo hi) : d ∈ xs := List.mem_of_mem_drop (List.mem_of_mem_take h)
theorem cut_len (xs : List D) (lo hi : Option Int) : (BV.cutD xs lo hi).length ≤ xs.length := by
  unfold BV.cutD
  rw [List.length_take, List.length_drop]
  omega
/-- an item out of a list that is written, at a drawn place -/
theorem ix_pick {A B : BV.Env → Out (Val × BV.Env)} {E E1 E2 : BV.Env} {L : List D} {r : Int} {d : D} (hA : A E = .ok (.new (.lst L), E1)) (hB : B E1 = .ok (.frz (.int r), E2)) (h : atI L r = some d) : BV.bin gIx A B E = .ok (.frz d, E2) := by
  simp [hA, hB, h]
@[simp] theorem gAdd_t (a b : List D) : gAdd (.tuple a) (.tuple b) = if a.length + b.length ≤ sizeLine then some (.frz (.tuple (a ++ b))) else none := rfl
@[simp] theorem gAdd_l (a b : List D) : gAdd (.list a) (.list b) = if a.length + b.length ≤ sizeLine then some (.new (.lst (a ++ b))) else none := rfl
end BV
namespace BV
open PySem PySem.Spec PyProof.Rows L2
/-! a def out of a table of the module, and its call -/
def TabF (w : World) (K : PySem.W.Frag) (mg : Str → Option Value) (x : Str) (tbl : List (Str × Str)) : Prop :=
  ∃ d es n, mg x = some (.ref d) ∧ KDict K w d es n ∧ ∀ z f, tbl.lookup z = some f → ∃ a, PySem.W.nsIn K d z = some (some (.ref a)) ∧ PySem.W.nsIn K mainGlobals f = some (some (.ref a))
section
variable {K : PySem.W.Frag} {F H : Hp} {σ : L2.St} {e : BV.Env} {i : Nat} {a : Addr} {f : Tag}
theorem St.putFn (z : BV.St K ⟨F, H, σ, e⟩) (h : TagAt K F a f) : BV.St K ⟨F, H, σ.set i (some (.ref a)), e.set i (.fn f)⟩ := by
  have zl : e.length = σ.length := z.len
  refine ⟨by simpa using z.len, z.fh, fun j d q => ?_, fun j o q => ?_, fun j k oj ok p1 p2 q1 q2 q3 q4 ne => ?_, fun j x q => ?_⟩
  · rcases set_get q with ⟨_, q⟩ | ⟨ne, q⟩
    · cases q
    · obtain ⟨w, w1, w2⟩ := z.frz j d q
      exact ⟨w, (List.getElem?_set_ne (Ne.symm ne)).trans w1, w2⟩
  · rcases set_get q with ⟨_, q⟩ | ⟨ne, q⟩
    · cases q
    · obtain ⟨p, w1, w3⟩ := z.own j o q
      exact ⟨p, (List.getElem?_set_ne (Ne.symm ne)).trans w1, w3⟩
  · rcases set_get q1 with ⟨_, q⟩ | ⟨n1, q1⟩
    · cases q
    · rcases set_get q2 with ⟨_, q⟩ | ⟨n2, q2⟩
      · cases q
      · exact z.apart j k oj ok p1 p2 q1 q2 ((List.getElem?_set_ne (Ne.symm n1)).symm.trans q3) ((List.getElem?_set_ne (Ne.symm n2)).symm.trans q4) ne
  · rcases set_get q with ⟨rfl, q'⟩ | ⟨ne, q'⟩
    · cases q'
      have hl : j < e.length := by
        have := (List.getElem?_eq_some_iff.mp q).1
        simpa using this
      exact ⟨a, h, List.getElem?_set_self (by omega)⟩
    · obtain ⟨b, b1, b2⟩ := z.fn j x q'
      exact ⟨b, b1, (List.getElem?_set_ne (Ne.symm ne)).trans b2⟩
theorem Stp.putFn {s : Sta} (x : BV.Stp s ⟨F, H, σ, e⟩) {v : V} : BV.Stp s ⟨F, H, σ.set i (some v), e.set i (.fn f)⟩ :=
  ⟨x.ff, x.fnew, x.keep, fun b h => by
    obtain ⟨j, o, p, h1, h2, h3⟩ := h
    rcases set_get h1 with ⟨_, q⟩ | ⟨ne, q⟩
    · cases q
    · exact x.own b ⟨j, o, p, q, (List.getElem?_set_ne (Ne.symm ne)).symm.trans h2, h3⟩, x.dom⟩
end
def dispK (k i : Nat) (tbl : List (Str × Str)) (v : Val) (e1 : BV.Env) : Out (Fl × BV.Env) := match v with
  | .frz (.str z) => (match tbl.lookup z with
    | some f => if asgOk k e1 i = true then .ok (.nx, e1.set i (.fn (.fn f))) else .bad
    | none => .bad)
  | _ => .bad
/-- y = TABLE[..] -/
def sDisp (k i : Nat) (tbl : List (Str × Str)) (fa : BV.Env → Out (Val × BV.Env)) : BV.Env → Out (Fl × BV.Env) := fun e => sE e (fz fa e) (dispK k i tbl)
@[simp] theorem dispK_eq (k i : Nat) (tbl : List (Str × Str)) (z : Str) (e : BV.Env) : dispK k i tbl (.frz (.str z)) e = match tbl.lookup z with
    | some f => if asgOk k e i = true then .ok (.nx, e.set i (.fn (.fn f))) else .bad
    | none => .bad := rfl
@[simp] theorem sDisp_eq (k i : Nat) (tbl : List (Str × Str)) (fa : BV.Env → Out (Val × BV.Env)) (e : BV.Env) : sDisp k i tbl fa e = sE e (fz fa e) (dispK k i tbl) := rfl
section
variable {X : Cx} {cm : CMap} {W : WX} {k : Nat} {pos : Pos} {a b : Expr} {fa fb : BV.Env → Out (Val × BV.Env)}
theorem sv_disp {T y : Str} {pT py ps : Pos} {tbl : List (Str × Str)} (i : Nat) (hT : TabF X.w X.K X.mg T tbl) (hN : X.N.Nodup) (hb : EV X cm W b fb) (hg : Gl X T := by rfl) (hdb : (T == ("__debug__" : Str)) = false := by decide)
    (hi : X.N[i]? = some y := by rfl) (hx : Loc X.env.scope y := by first | exact Or.inl rfl | exact Or.inr rfl) (hs : swapsWith (.Subscript (.Name T pT) b ps) (some (.Name y py)) pos.line X.env = pure false := by rfl)
    (hf : X.fn y = true ∨ X.env.scope.names.lookup y = some .local := by first | exact .inl rfl | exact .inr rfl | assumption) (hp : PlainIx b := by exact fun _ _ => rfl) :
    SV X cm W k (.Assign [.Name y py] (.Subscript (.Name T pT) b ps) pos) (sDisp k i tbl fb) := by
  obtain ⟨d, es, n, h1, h2, h3⟩ := hT
  obtain ⟨tb, pb, eb⟩ := hb
  refine ⟨_, ps_set hN hi hx (pe_ix ix_kdict (pe_tab h1 hg hdb) pb hp) hs hf, fun s D z q => ?_⟩
  refine eb.fz.stepS z q fun v val e1 F1 H1 _ x y' r vr p1 => ?_
  cases val with
  | new o => exact p1.elim
  | bor j => exact p1.elim
  | frz dd =>
    cases dd with
    | str zz =>
      simp only [dispK] at p1
      cases hl : tbl.lookup zz with
      | none =>
        rw [hl] at p1
        exact p1.elim
      | some f =>
        rw [hl] at p1
        simp only at p1
        split at p1
        · rename_i ok
          obtain ⟨ad, a1, a2⟩ := h3 zz f hl
          cases (show Rp X.K F1 v (.str zz) from vr)
          refine ⟨d, zz, .ref ad, rfl, rfl, ⟨es, n, .ref ad, h2.at_, h2.lit, a1, rfl⟩, ?_⟩
          exact p1 F1 H1 (s.σ.set i (some (.ref ad))) x.putFn (y'.trans (Par.set ok)) (r.putFn a2)
        · exact p1.elim
    | _ => exact p1.elim
def fCallV (i : Nat) (ms : List (Str × Fn)) (fs : BV.Env → Out (List Arg × BV.Env)) : BV.Env → Out (Val × BV.Env) := fun e => match e[i]? with
  | some (.fn (.fn x)) => (match ms.lookup x with
    | some m => (fs e).bind (cK m)
    | none => .bad)
  | _ => .bad
@[simp] theorem fCallV_eq (i : Nat) (ms : List (Str × Fn)) (fs : BV.Env → Out (List Arg × BV.Env)) (e : BV.Env) : fCallV i ms fs e = match e[i]? with
  | some (.fn (.fn x)) => (match ms.lookup x with
    | some m => (fs e).bind (cK m)
    | none => .bad)
  | _ => .bad := rfl
/-- the defs that the slot may hold -/
def Holds (X : Cx) (cm : CMap) (CX : CXT) (k n : Nat) (ms : List (Str × Fn)) : Prop := ∀ x m, ms.lookup x = some m → ∃ (a : Addr) (fd : FuncData) (ps : List Str), PySem.W.nsIn X.K mainGlobals x = some (some (.ref a)) ∧
  FnG X.prog X.w X.K X.mg X.base CX k a fd ps (spB n X.K cm m) ∧ PySem.W.keepIn X.K (.ref a) = true ∧ Binds X.K fd ps []
def tCallV (K : PySem.W.Frag) (cm : CMap) (W : WX) (i n : Nat) (ms : List (Str × Fn)) (t : TA) : TE := fun σ H Q => ∃ x m a, ms.lookup x = some m ∧ PySem.W.nsIn K mainGlobals x = some (some (.ref a)) ∧ σ[i]? = some (some (V.ref a)) ∧
  t σ H fun vs H1 => spB n K cm m vs H1 Q (WE W σ)
theorem pe_callV {x : Str} {p : Pos} {CX : CXT} {j n i : Nat} {ms : List (Str × Fn)} {e : Expr} {es : List Expr} {t : TA} (hh : Holds X cm CX j n ms) (hG : X.A.guards = some []) (hr : Room j X.A) (hx : ∀ σ, PassesAt CX X σ (WE W σ)) (ha : PA X (e :: es) t)
    (hN : X.N[i]? = some x) (hv : Vis X.env.scope x) (hdb : (x == ("__debug__" : Str)) = false) (hcd : (x == ("__classdict__" : Str)) = false)
    (he : starEach (e :: es) X.env = (false, eval e X.env) :: starEach es X.env) (hpl : (backTo pos (starEach es X.env)).any (·.1) = false) : PE X (.Call (.Name x p) (e :: es) [] pos) (tCallV X.K cm W i n ms t) := by
  constructor
  rintro pins s σ H Q I ⟨y, m, f, hl, hns, hs, ht⟩
  obtain ⟨f', fd, ps, hns', FG, hk, hb⟩ := hh y m hl
  rw [hns] at hns'
  cases hns'
  refine wpAny_Call_Name_kw (thn ((pe_var (pos := p) hN hv hdb hcd).run pins s σ H (fun v H1 => v = .ref f ∧ H1 = H) I ⟨.ref f, hs, rfl, rfl⟩) ?_)
  rintro u s1 ⟨v, H1, I1, r1, rfl, rfl⟩
  cases r1
  refine PySem.W.callWith_K (h₀ := X.base) I.ok.mod.kin hk (thn (ha.run pos pins s1 σ _ _ I1 ht) ?_) he hpl
  rintro us s2 ⟨vs, H2, I2, r, q⟩
  refine ⟨I2.kIn, run_g (dvs := []) (E := WE W) FG hG hr hb .nil (hx σ) I2 r ?_⟩
  rw [List.append_nil]
  exact q
theorem ev_callV {x : Str} {p : Pos} {CX : CXT} {j n : Nat} {ms : List (Str × Fn)} {e : Expr} {es : List Expr} {fs : BV.Env → Out (List Arg × BV.Env)} (i : Nat) (hh : Holds X cm CX j n ms) (hG : X.A.guards = some []) (hr : Room j X.A) (hx : ∀ σ, PassesAt CX X σ (WE W σ)) (ha : ER X cm W (e :: es) fs) (hl : RLen n fs)
    (hN : X.N[i]? = some x := by rfl) (hv : Vis X.env.scope x := by first | exact Or.inl rfl | exact Or.inr (Or.inl rfl) | exact Or.inr (Or.inr rfl)) (hdb : (x == ("__debug__" : Str)) = false := by decide) (hcd : (x == ("__classdict__" : Str)) = false := by decide)
    (he : starEach (e :: es) X.env = (false, eval e X.env) :: starEach es X.env := by rfl) (hpl : (backTo pos (starEach es X.env)).any (·.1) = false := by rfl) : EV X cm W (.Call (.Name x p) (e :: es) [] pos) (fCallV i ms fs) := by
  obtain ⟨t, pa, er⟩ := ha
  refine ⟨_, pe_callV hh hG hr hx pa hN hv hdb hcd he hpl, fun s Q z q => ?_⟩
  unfold fCallV at q
  split at q
  · rename_i y g
    obtain ⟨a, a1, a2⟩ := z.fn i _ g
    cases hm : ms.lookup y with
    | none =>
      rw [hm] at q
      exact q.elim
    | some m =>
      rw [hm] at q
      refine ⟨y, m, a, hm, a1, a2, er s _ z ?_⟩
      revert q
      simp only
      cases hfs : fs s.e with
      | exc xx e1 => exact fun p => p
      | bad => exact fun p => p
      | ok w =>
        obtain ⟨as, e1⟩ := w
        rw [Out.bind_ok]
        intro q vs F1 H1 x1 y1 r1
        exact callAs_post x1 y1 r1 (by rw [r1.length, hl _ _ _ hfs]) q
  · exact q.elim
end
theorem tabF_mk {w : World} {K : PySem.W.Frag} {h : Heap} {mg : Str → Option Value} {x : Str} {ks : List Str} {d : Addr} {es : Array DictEntry} {n : Nat} {tbl : List (Str × Str)} (X : K.In h) (G : h.Ns mainGlobals mg) (a : PySem.W.nsIn K mainGlobals x = some (some (.ref d)))
    (l : K.lookup d = some ⟨.type "dict", none, .dict es n, #[]⟩) (hk : es.toList.map He.keyOf = He.keysIn w.params ks) (low : (d == sysModules) = false)
    (hf : ∀ z f, tbl.lookup z = some f → ∃ a, PySem.W.nsIn K d z = some (some (.ref a)) ∧ PySem.W.nsIn K mainGlobals f = some (some (.ref a))) : TabF w K mg x tbl :=
  ⟨d, es, n, PySem.W.mg_of X G a, ⟨l, He.keysLit_of hk, low⟩, hf⟩
theorem holds_nil {X : Cx} {cm : CMap} {CX : CXT} {k n : Nat} : Holds X cm CX k n [] := fun x m h => by cases h
theorem holds_cons {X : Cx} {cm : CMap} {CX : CXT} {k n : Nat} {x : Str} {m : Fn} {ms : List (Str × Fn)} {a : Addr} {fd : FuncData} {ps : List Str} (F : FnG X.prog X.w X.K X.mg X.base CX k a fd ps (spB n X.K cm m))
    (hn : PySem.W.nsIn X.K mainGlobals x = some (some (.ref a))) (hk : PySem.W.keepIn X.K (.ref a) = true) (hb : Binds X.K fd ps []) (r : Holds X cm CX k n ms) : Holds X cm CX k n ((x, m) :: ms) := fun y m' h => by
  rw [List.lookup_cons] at h
  by_cases e : y = x
  · subst e
    simp at h
    subst h
    exact ⟨a, fd, ps, hn, F, hk, hb⟩
  · have e2 : (y == x) = false := by simpa using e
    rw [e2] at h
    exact r y m' h
/-- a table's values are defs of the module -/
def TblOk (K : PySem.W.Frag) (d : Addr) (tbl : List (Str × Str)) : Prop := ∀ z f, tbl.lookup z = some f → ∃ a, PySem.W.nsIn K d z = some (some (.ref a)) ∧ PySem.W.nsIn K mainGlobals f = some (some (.ref a))
theorem tbl_nil {K : PySem.W.Frag} {d : Addr} : TblOk K d [] := fun z f h => by cases h
theorem tbl_cons {K : PySem.W.Frag} {d : Addr} {z f : Str} {a : Addr} {tbl : List (Str × Str)} (h1 : PySem.W.nsIn K d z = some (some (.ref a))) (h2 : PySem.W.nsIn K mainGlobals f = some (some (.ref a))) (r : TblOk K d tbl) : TblOk K d ((z, f) :: tbl) := fun y g h => by
  rw [List.lookup_cons] at h
  by_cases e : y = z
  · subst e
    simp at h
    subst h
    exact ⟨a, h1, h2⟩
  · have e2 : (y == z) = false := by simpa using e
    rw [e2] at h
    exact r y g h
/-! a call by keywords alone -/
section
variable {X : Cx} {cm : CMap} {W : WX} {pos : Pos}
def tCallG0 (m : Nat) (is : List Nat) (sp : Sp) (E : L2.St → XK) (tk : TA) : TE := fun σ H Q => tk σ H fun zs H2 => zs.length = m ∧ sp (pickG is [] zs) H2 Q (E σ)
theorem pe_callG0 {CX : CXT} {k : Nat} {f : Addr} {fd : FuncData} {ps ks : List Str} {sp : Sp} {E : L2.St → XK} {x : Str} {p : Pos} {kws : List Keyword} {is : List Nat} {tk : TA} (F : FnG X.prog X.w X.K X.mg X.base CX k f fd ps sp) (hG : X.A.guards = some []) (hr : Room k X.A) (hg : Gl X x) (hm : X.mg x = some (.ref f))
    (hk : PySem.W.keepIn X.K (.ref f) = true) (hb : KwAt X.K fd ps 0 ks is) (hx : ∀ σ, PassesAt CX X σ (E σ)) (hkw : PK X kws tk) (hall : (backToKw pos (keywordEach kws X.env)).all (·.1.isSome) = true)
    (hks : (backToKw pos (keywordEach kws X.env)).filterMap (·.1) = ks) (hdb : (x == ("__debug__" : Str)) = false)
    (hpl : ((backTo pos (starEach [] X.env)).any (·.1) || (backToKw pos (keywordEach kws X.env)).any (·.1.isNone)) = false) : PE X (.Call (.Name x p) [] kws pos) (tCallG0 ks.length is sp E tk) := by
  constructor
  intro pins s σ H Q I h
  refine wpAny_Call_Name_kw (ld_glob I hg hm ?_ hdb)
  refine PySem.W.callWith_KW0 (h₀ := X.base) I.ok.mod.kin hk hall (thn (hkw.run pos pins s σ H _ I h) ?_) hpl
  rintro ws s2 ⟨zs, H2, I2, rz, l2, q2⟩
  refine ⟨I2.kIn, ?_⟩
  rw [hks]
  exact run_gN F hG hr hb (hx σ) I2 .nil rz rfl l2 q2
theorem ev_callK0 {x : Str} {p : Pos} {CX : CXT} {k mm : Nat} {f : Addr} {fd : FuncData} {ps ks : List Str} {m : Fn} {kws : List Keyword} {is : List Nat} {fk : BV.Env → Out (List Arg × BV.Env)} (F : FnG X.prog X.w X.K X.mg X.base CX k f fd ps (spB mm X.K cm m))
    (hm : X.mg x = some (.ref f)) (hk : PySem.W.keepIn X.K (.ref f) = true) (hb : KwAt X.K fd ps 0 ks is) (hG : X.A.guards = some []) (hr : Room k X.A) (hx : ∀ σ, PassesAt CX X σ (WE W σ)) (hkw : EK X cm W kws fk)
    (hl2 : RLen ks.length fk) (hpk : ∀ zs : List V, zs.length = ks.length → (pickG is [] zs).length = mm)
    (hg : Gl X x := by rfl) (hdb : (x == ("__debug__" : Str)) = false := by decide) (hall : (backToKw pos (keywordEach kws X.env)).all (·.1.isSome) = true := by rfl)
    (hks : (backToKw pos (keywordEach kws X.env)).filterMap (·.1) = ks := by rfl)
    (hpl : ((backTo pos (starEach [] X.env)).any (·.1) || (backToKw pos (keywordEach kws X.env)).any (·.1.isNone)) = false := by rfl) : EV X cm W (.Call (.Name x p) [] kws pos) (fCallK m is rNil fk) := by
  obtain ⟨tk, pk, ek⟩ := hkw
  refine ⟨_, pe_callG0 F hG hr hg hm hk hb hx pk hall hks hdb hpl, fun s Q z q => ?_⟩
  refine ek s _ z ?_
  revert q
  unfold fCallK
  show Post _ _ _ (((rNil s.e).bind _)) → _
  simp only [rNil, Out.bind_ok]
  cases hfk : fk s.e with
  | exc xx e2 => exact fun p => p
  | bad => exact fun p => p
  | ok w2 =>
    obtain ⟨bs, e2⟩ := w2
    rw [Out.bind_ok]
    intro q zs F2 H2 x2 y2 r2
    have a2 : zs.length = ks.length := by rw [r2.length, hl2 _ _ _ hfk]
    exact ⟨a2, callAs_post x2 y2 (argRep_pick .nil r2 is) (hpk zs a2) q⟩
end
end BV
/-! what is never run; sets of ints; dicts of one's own -/
namespace BV
open PySem PySem.Spec PyProof.Rows L2
/-! ### what is never run -/
def fBad : Env → Out (Val × Env) := fun _ => .bad
def sBad : Env → Out (Fl × Env) := fun _ => .bad
section
variable {X : Cx} {cm : CMap} {W : WX} {k : Nat}
theorem ev_bad (e : Expr) : EV X cm W e fBad := ⟨fun _ _ _ => False, ⟨fun _ _ _ _ _ _ h => h.elim⟩, fun _ _ _ p => p⟩
theorem sv_bad (st : Stmt) : SV X cm W k st sBad := ⟨fun _ _ _ => False, ⟨fun _ _ _ _ _ _ h => h.elim⟩, fun _ _ _ p => p⟩
end

/-! ### set(list of ints) -/
section
variable {P : Program} {w : World} {A : Around} {E : Value → Shared → Prop} {s : Shared}
/-- a set as it is made -/
abbrev nset (w : World) : Obj := { cls := .type "set", dict := none, data := .set #[] 0 (.fresh 0 0 (!w.params.followText "set-order")) }
/-- what set(..) of some ints leaves -/
def SetOfInts (w : World) (s : Shared) (ns : List Int) (Q : Value → Shared → Prop) : Prop := ∀ (h' : Heap) (tk c : Nat),
  SetR w h' s.heap.objs.size (fun j => decide (j ∈ ns)) c → c ≤ ns.length → (∀ b o, s.heap.get? b = some o → h'.get? b = some o) → Q (.ref s.heap.objs.size) { s with heap := h', toks := tk }
theorem set_of_ints {l : Addr} {its : Array Value} (ns : List Int) {Q : Value → Shared → Prop} (calm : A.handled = none) (il : s.heap.IsList l its) (ia : IntsAre its.toList ns) (room : ns.length + 1 < scanBound)
    (k : SetOfInts w s ns Q) : wpAny (model P w) A (call (.type "set") [.ref l]) Q E s := by
  have sz : its.size = ns.length := by rw [← Array.length_toList]; exact IntsAre.length ia
  obtain ⟨mc, mt, mm⟩ := F.called_set.mro
  have m1 := F.called_set.made
  have m2 := F.called_set.sub
  refine wpAny_call (codeAny_of_tree (show wpAny _ _ (callAny (.type "set") _) _ _ _ from ?_))
  refine wpAny_pure ⟨Code.quiet_builtin _ (by decide +kernel), codeAny_builtin F.entry_type_call ?_⟩
  rw [Around.under_plain (weight_type_call_type "set" [.ref l] []) rfl]
  have m3 := F.called_set.notType
  have m4 := F.called_set.canCreate
  have m5 := F.typeCall_set_1 (.ref l)
  repeat (any_goals (first | assumption | wp_step))
  refine codeAny_mono (code_set_led1 (.ref l) (E := E) (Q₁ := fun v s1 => v = .ref s.heap.objs.size ∧ s1 = { s with heap := s.heap.push (nset w) }) ⟨rfl, rfl⟩) fun r s1 hr => ?_
  cases r with
  | error e => exact hr
  | ok fl =>
    cases fl with
    | ret v =>
      obtain ⟨rfl, rfl⟩ := hr
      have at0 : (s.heap.push (nset w)).get? s.heap.objs.size = some (nset w) := Heap.get?_push_size _ rfl
      have ty0 : Shared.TypeIs { s with heap := s.heap.push (nset w) } (.ref s.heap.objs.size) "set" := ⟨_, at0, rfl⟩
      have i1 := F.called_set.init.lookup
      have i2 := F.called_set.init.bind (.ref s.heap.objs.size)
      repeat (any_goals (first | assumption | wp_step))
      refine codeAny_mono (codeAny_call_builtin (R := wants (fun v s2 => v = .none ∧ ∃ h' tk c, s2 = { s with heap := h', toks := tk } ∧ SetR w h' s.heap.objs.size (fun j => decide (j ∈ ns)) c ∧ c ≤ ns.length ∧
        (∀ b o, s.heap.get? b = some o → h'.get? b = some o)) E) F.called_set.init.plain F.entry_set_init (check_set_init_1 ty0 ?_)) fun r2 s2 hr2 => ?_
      · have il1 : (s.heap.push (nset w)).IsList l its := il.push _
        obtain ⟨⟨oc, od, odt, osl⟩, ol, oc1, nl, od1⟩ := il
        simp only at oc1 od1
        subst oc1 od1
        have ol1 : (s.heap.push (nset w)).get? l = some { cls := .type "list", dict := od, data := .seq its nl, slots := osl } := Heap.get?_push_of_some _ ol
        have n1 := F.sub_list_set
        have n2 := F.sub_list_frozenset
        have n3 : (Value.type "list" == Value.type "dict") = false := by decide
        unfold Builtin.«set.__init__» noKeywords Builtin.Frozenset.updateFrom
        generalize hp : pyIter = pp
        wp_walk
        subst hp
        refine wpAny_pyIter_list il1 (wpAny_bind (wpAny_runValue ?_))
        have lt : l < s.heap.objs.size := Heap.lt_size ol
        have calm3 : A.in1.in1.in1.handled = none := by simp [calm]
        have sz2 : (s.heap.push (nset w)).objs.size = s.heap.objs.size + 1 := Heap.size_push ..
        have ne1 : l ≠ (s.heap.push (nset w)).objs.size := fun e => Nat.ne_of_lt (Nat.lt_succ_of_lt lt) (e.trans sz2)
        have nin : s.heap.objs.size ∉ [(s.heap.push (nset w)).objs.size, l] := by
          rw [sz2, List.mem_cons, List.mem_singleton, not_or]
          exact ⟨fun e => Nat.ne_of_lt (Nat.lt_succ_self _) e, fun e => Nat.ne_of_gt lt e⟩
        refine set_update_ints ((Walks.list calm3 _ l ne1 its).toS) s.heap.objs.size nin ns sz room (fun i v hv => ?_) (its.size - 0) 0 _ (by omega) (Nat.zero_le _) ⟨⟨_, Heap.get?_push_size _ rfl, rfl, rfl⟩, il1.push _⟩ ?_ ?_
        · have li : i < ns.length := by rw [← sz]; exact (Array.getElem?_eq_some_iff.mp hv).1
          obtain ⟨t, e⟩ := PyProof.Rows.IntsAre.int_at ia i v (by rw [Array.getElem?_toList]; exact hv)
          exact ⟨ns[i], t, List.getElem?_eq_getElem li, by rw [e, List.getD_eq_getElem?_getD, List.getElem?_eq_getElem li] <;> rfl⟩
        · exact ⟨0, Nat.le_refl 0, setR_new_at (Heap.get?_push_of_some _ at0)⟩
        · rintro ⟨h', g2, d2, tk2, o2⟩ c mv hc hS
          have e1 : g2 = s.gens := mv.gens
          have e2 : d2 = s.drawn := mv.drawn
          have e3 : o2 = s.os := mv.os
          subst e1 e2 e3
          refine wpAny_pure (show wpAny _ _ (ret Value.none) _ _ _ from wpAny_pure ⟨rfl, h', tk2, c, rfl, hS, by omega, fun b o e => ?_⟩)
          have lb : b < s.heap.objs.size := Heap.lt_size e
          refine mv.heap b o ?_ (Heap.get?_push_of_some _ (Heap.get?_push_of_some _ e))
          rw [sz2, List.mem_cons, List.mem_singleton, not_or]
          exact ⟨fun e => Nat.ne_of_lt lb e, fun e => Nat.ne_of_lt (Nat.lt_succ_of_lt lb) e⟩
      · cases r2 with
        | error e => exact hr2
        | ok f2 =>
          cases f2 with
          | ret v =>
            obtain ⟨rfl, h', tk, c, rfl, hS, hc, hk⟩ := hr2
            repeat (any_goals (first | assumption | wp_step))
            exact k _ _ _ hS hc hk
          | _ => exact hr2.elim
    | _ => exact hr.elim
end
end BV
/-! sorted(set(..)), x *= e -/
namespace BV
open PySem PySem.Spec PyProof.Rows L2
/-- the distinct members, rising -/
def rising (ns : List Int) : List Int := (ns.eraseDups).mergeSort
theorem rising_mem {ns : List Int} {k : Int} : k ∈ rising ns ↔ k ∈ ns := by
  unfold rising
  rw [List.mem_mergeSort, List.mem_eraseDups]
theorem eraseDups_nodup : ∀ (n : Nat) (ns : List Int), ns.length ≤ n → ns.eraseDups.Nodup
  | _, [], _ => by simp
  | 0, _ :: _, h => by simp at h
  | n + 1, a :: as, h => by
    rw [List.eraseDups_cons, List.nodup_cons]
    have hl := List.length_filter_le (fun b => !b == a) as
    refine ⟨fun hm => ?_, eraseDups_nodup n _ (by simp only [List.length_cons] at h; omega)⟩
    rw [List.mem_eraseDups, List.mem_filter] at hm
    simp at hm
theorem rising_lt (ns : List Int) : (rising ns).Pairwise (· < ·) := by
  have h1 : (rising ns).Pairwise (fun a b => decide (a ≤ b) = true) := List.pairwise_mergeSort (fun a b c h1 h2 => by simp at *; omega) (fun a b => by simp; omega) _
  have h2 : (rising ns).Nodup := (List.mergeSort_perm _ _).nodup_iff.mpr (eraseDups_nodup _ ns (Nat.le_refl _))
  exact lt_of_le_nodup _ (h1.imp fun h => by simpa using h) h2
/-- rising lists of the same members are alike -/
theorem rising_uniq : ∀ {xs ys : List Int}, xs.Pairwise (· < ·) → ys.Pairwise (· < ·) → (∀ k, k ∈ xs ↔ k ∈ ys) → xs = ys
  | [], [], _, _, _ => rfl
  | [], y :: ys, _, _, h => absurd ((h y).mpr List.mem_cons_self) (by simp)
  | x :: xs, [], _, _, h => absurd ((h x).mp List.mem_cons_self) (by simp)
  | x :: xs, y :: ys, h1, h2, h => by
    obtain ⟨a1, a2⟩ := List.pairwise_cons.mp h1
    obtain ⟨b1, b2⟩ := List.pairwise_cons.mp h2
    have e : x = y := by
      rcases List.mem_cons.mp ((h x).mp List.mem_cons_self) with q | q
      · exact q
      · rcases List.mem_cons.mp ((h y).mpr List.mem_cons_self) with q2 | q2
        · exact q2.symm
        · have := b1 x q
          have := a1 y q2
          omega
    subst e
    rw [rising_uniq a2 b2 fun k => ?_]
    have hk := h k
    constructor
    · intro hm
      rcases List.mem_cons.mp (hk.mp (List.mem_cons_of_mem _ hm)) with q | q
      · subst q
        exact absurd (a1 k hm) (by omega)
      · exact q
    · intro hm
      rcases List.mem_cons.mp (hk.mpr (List.mem_cons_of_mem _ hm)) with q | q
      · subst q
        exact absurd (b1 k hm) (by omega)
      · exact q
theorem rising_self {ns : List Int} (h : ns.Pairwise (· < ·)) : rising ns = ns := rising_uniq (rising_lt ns) h fun _ => rising_mem
open PyProof.Rows in
/-- sorted(set) of any size -/
theorem sorted_setA {P : Program} {w : World} {A : Around} {E : Value → Shared → Prop} {s : Shared} {a : Addr} {S : Int → Bool} {n : Nat} {Q : Value → Shared → Prop}
    (R : SetR w s.heap a S n) (hh : A.handled = none) (hn4 : n ≤ 4000)
    (hQ : ∀ s' p (out : Array Value) (c : Nat) (ns : List Int), (∀ b o, s.heap.get? b = some o → s'.heap.get? b = some o) → s'.gens = s.gens → s'.os = s.os → s.heap.objs.size ≤ p →
      s'.heap.get? p = some (seqObj "list" out c) → IntsAre out.toList ns → ns.Pairwise (· < ·) → (∀ k, k ∈ ns ↔ S k = true) → ns.length = n → Q (.ref p) s') :
    wpAny (model P w) A (call (.builtin "sorted") [.ref a]) Q E s := by
  obtain ⟨o, es, ep, t, r0, r1, r2, r3, r4, r5, r6, r7, r8, r9, r10⟩ := R
  refine Calls.call_function_entry kind_sorted plain_sorted entry_sorted (args_sorted1 _) ?_
  unfold Builtin.«sorted»
  refine wpAny_bind (m := checkCount "sorted" 1 1 _) (wpAny_pure ?_)
  refine wpAny_bind (collect_set (A := A.in1) hh ⟨o, r0, r1.1, r2⟩ r7 r6 r9 r10 fun s1 vs q1 q2 q3 q4 q5 => ?_)
  have len : vs.length = n := by
    rw [q5.length_eq, List.length_map, Array.length_toList]
    exact r8
  have ii : IntsAre vs (vs.map Builtin.Re.reRawOf) := by
    refine ints_of vs fun v hv => ?_
    obtain ⟨e, he, q⟩ := List.mem_map.mp (q5.mem_iff.mp hv)
    obtain ⟨k, tk, h1, _⟩ := r3 e he
    refine ⟨k, tk, ?_⟩
    rw [← q]
    exact h1
  have pk : (vs.map Builtin.Re.reRawOf).Perm (es.toList.map keyOf) := by
    have q := q5.map Builtin.Re.reRawOf
    rw [List.map_map] at q
    exact q
  have hsl : vs.length ≤ sizeLine := by
    rw [len, sizeLine_eq]
    omega
  refine wpAny_bind (wpAny_newList ?_ hsl)
  have hoL : (s1.heap.push (seqObj "list" vs.toArray 0)).get? s1.heap.objs.size = some (seqObj "list" vs.toArray 0) :=
    Heap.get?_push_size _ rfl
  refine wpAny_bind (wpAny_holding (wpAny_call_entry slot_list_sort ⟨_, hoL, rfl⟩ entry_list_sort
    (list_sort_treeAny hoL ii hsl fun out ns' a1 a2 a3 => ⟨_, rfl, ?_⟩) (args_list_sort _)))
  obtain ⟨c, hc⟩ := sortedHeap_at (vs := vs) (out := out) hoL
  have pn : ns'.Perm (es.toList.map keyOf) := a2.trans pk
  have old : ∀ b u, s.heap.get? b = some u → (sortedHeap (s1.heap.push (seqObj "list" vs.toArray 0)) s1.heap.objs.size vs out).get? b = some u := by
    intro b u e
    have q := q1 b u e
    have hlt := Heap.lt_size q
    have hlt2 : b < (s1.heap.push (seqObj "list" vs.toArray 0)).objs.size := by
      rw [size_push']
      exact Nat.lt_succ_of_lt hlt
    exact (sortedHeap_old (Nat.ne_of_lt hlt) hlt2).trans (Heap.get?_push_of_some _ q)
  have mm : ∀ k, k ∈ ns' ↔ S k = true := fun k => by rw [pn.mem_iff, ← r5 k]
  have ll : ns'.length = n := by
    rw [pn.length_eq, List.length_map, Array.length_toList]
    exact r8
  exact wpAny_pure ⟨_, rfl, hQ _ s1.heap.objs.size out c ns' old q3 q4 q2 hc a1 (lt_of_le_nodup ns' a3 (pn.nodup_iff.mpr r4)) mm ll⟩
def gSortSet : D → Option Val
  | .list ds => match asInts ds with
    | some ns => if ns.length ≤ 4000 ∧ (rising ns).length < 4001 then some (.new (.lst ((rising ns).map .int))) else none
    | none => none
  | _ => none
section
variable {X : Cx} {cm : CMap} {W : WX} {a b : Expr} {fa fb : Env → Out (Val × Env)}
def tSortSet (K : PySem.W.Frag) (ta : TE) : TE := fun σ H Q => ta σ H fun x H1 => ∃ (l : Addr) (ns : List Int), x = .ref l ∧ SqL K H1 l (ns.map V.int) ∧ ns.length ≤ 4000 ∧ (rising ns).length < 4001 ∧
  ∀ p, H1 p = none → Q (.ref p) (upd H1 p (.lst ((rising ns).map V.int)))
theorem setR_count {w : World} {h : Heap} {a : Addr} {S : Int → Bool} {n : Nat} {ns : List Int} (R : SetR w h a S n) (hS : ∀ k, S k = true ↔ k ∈ ns) : n = (rising ns).length := by
  obtain ⟨o, es, ep, t, ho, hex, hd, g, nd, hm, hb, hf, hn, hr, hl⟩ := R
  have p : (es.toList.map keyOf).Perm (rising ns) := (List.perm_ext_iff_of_nodup nd ((rising_lt ns).imp fun h => by omega)).mpr fun k => by rw [← hm k, hS k, rising_mem]
  rw [← p.length_eq, List.length_map, Array.length_toList]
  exact hn.symm
theorem set_laid {pins : List (Addr × Obj)} {σ : L2.St} {H : Hp} {s2 s' : Shared} {p c : Nat} {out : Array Value} {ns : List Int} (I2 : L2.Inv X pins σ H s2) (kk : ∀ b o, s2.heap.get? b = some o → s'.heap.get? b = some o) (gg : s'.gens = s2.gens) (oo : s'.os = s2.os)
    (hp : s2.heap.objs.size ≤ p) (hgt : s'.heap.get? p = some (seqObj "list" out c)) (hi : IntsAre out.toList ns) (hlen : (ns.map V.int).length ≤ sizeLine) : L2.Inv X pins σ (upd H p (.lst (ns.map V.int))) s' := by
  have hn : H p = none := I2.hok.fresh hp
  obtain ⟨h1, g1, d1, t1, o1⟩ := s2
  obtain ⟨h2, g2, d2, t2, o2⟩ := s'
  cases oo
  cases gg
  exact I2.call (ch := []) (Un.laid kk hp hn) (I2.hok.laid kk hp ⟨hlen, out.toList, c, vals_of_ints hi, hgt⟩) I2.bare (fun _ z => nomatch z)
theorem pe_sortSet {ta : TE} {p p2 q pos : Pos} (hc : X.calm = true) (hm : X.mg "sorted" = none) (hm2 : X.mg "set" = none) (ha : PE X a ta) (hg : Gl X "sorted") (hg2 : Gl X "set")
    (na : starEach [a] X.env = (false, eval a X.env) :: starEach [] X.env) : PE X (.Call (.Name "sorted" p) [.Call (.Name "set" p2) [a] [] q] [] pos) (tSortSet X.K ta) := by
  refine ⟨fun pins s σ H Q I h => Call_ (ld_blt I hg hm PyProof.Rows.boot_sorted (PyProof.Rows.callWith_builtin1 (PyProof.Rows.args_cons ?_ rfl) rfl rfl))⟩
  refine Call_ (ld_blt I hg2 hm2 PyProof.Rows.boot_set (PyProof.Rows.callWith_type1 (PyProof.Rows.args_cons (thn (ha.run pins s σ H _ I h) fun v s1 hh => PyProof.Rows.args_nil ?_) na) na rfl))
  obtain ⟨x, H1, I1, r1, l, ns, rfl, hq, h1, h64, q1⟩ := hh
  cases r1
  obtain ⟨its, r, pl, hz⟩ := I1.list hq
  refine set_of_ints ns (I1.ok.hd hc) pl.isList (by simpa using r.ints) (by unfold scanBound; omega) fun h' tk c R hcl hk => ?_
  refine PyProof.Rows.args_nil ?_
  have I2 : L2.Inv X pins σ H1 { s1 with heap := h', toks := tk } := I1.kept fun b o e => hk b o e
  have hcn := setR_count R (ns := ns) fun k => by simp
  refine sorted_setA R (I2.ok.hd hc) (by omega) fun s' p out cc ns' kk gg oo hp hgt hi hs hmm hl => ?_
  have e0 : ns' = rising ns := rising_uniq hs (rising_lt ns) fun k => by rw [hmm k, rising_mem]; simp
  subst e0
  have hlen : ((rising ns).map V.int).length ≤ sizeLine := by rw [List.length_map, sizeLine_eq]; omega
  exact ⟨.ref p, _, set_laid I2 kk gg oo hp hgt hi hlen, rfl, q1 p (I2.hok.fresh hp)⟩
theorem ev_sortSet {p p2 q pos : Pos} (hc : X.calm = true) (hm : X.mg "sorted" = none) (hm2 : X.mg "set" = none) (ha : EV X cm W a fa) (hg : Gl X "sorted" := by rfl) (hg2 : Gl X "set" := by rfl)
    (na : starEach [a] X.env = (false, eval a X.env) :: starEach [] X.env := by rfl) : EV X cm W (.Call (.Name "sorted" p) [.Call (.Name "set" p2) [a] [] q] [] pos) (un gSortSet fa) := by
  obtain ⟨ta, pa, ea⟩ := ha
  refine ⟨_, pe_sortSet hc hm hm2 pa hg hg2 na, fun s Q z p => ?_⟩
  refine ea.fz.step z p fun v val e1 F1 H1 x y r p1 => ?_
  simp only at p1
  cases q : opd e1 val with
  | none =>
    rw [q] at p1
    exact p1.elim
  | some d =>
    rw [q] at p1
    obtain ⟨w, e, k⟩ := p1.gives
    have o := r.opn y q
    cases d with
    | list ds =>
      simp only [gSortSet] at e
      split at e
      · rename_i ns hns
        split at e
        · rename_i hl
          cases e
          obtain ⟨l, xs, rfl, s1, a1⟩ := o
          have := asInts_eq hns
          subst this
          have := a1.ints
          subst this
          exact ⟨l, ns, rfl, s1, hl.1, hl.2, fun p hp => k.list y (RpA.ofInts) hp⟩
        · cases e
      · cases e
    | _ => cases e
end
theorem gSortSet_b {ns : List Int} (h1 : ns.length ≤ 4000) (h2 : (rising ns).length < 4001) : gSortSet (.list (ns.map .int)) = some (.new (.lst ((rising ns).map .int))) := by
  simp only [gSortSet, asInts_map]
  rw [if_pos ⟨h1, h2⟩]
@[simp] theorem gSortSet_l {ns : List Int} (h1 : ns.length ≤ 4000) (h2 : (rising ns).length < 64) : gSortSet (.list (ns.map .int)) = some (.new (.lst ((rising ns).map .int))) := by
  simp only [gSortSet, asInts_map]
  rw [if_pos ⟨h1, by omega⟩]

/-! ### x *= e -/
def fitM (i j : Int) : Prop := (-2 ^ 64 < i ∧ i < 2 ^ 64) ∨ (-2 ^ 64 < j ∧ j < 2 ^ 64)
instance (i j : Int) : Decidable (fitM i j) := by unfold fitM; infer_instance
def tMul : TIp := fun x y H Q => ∃ i j, x = .int i ∧ y = .int j ∧ fitM i j ∧ Q (.int (i * j)) H
theorem ip_mulB {X : Cx} : PIp X .Mult tMul := by
  intro pins s σ H x y v u Q I r1 r2 h
  obtain ⟨i, j, rfl, rfl, hc, q⟩ := h
  obtain ⟨t, rfl⟩ := r1
  obtain ⟨t', rfl⟩ := r2
  exact imul_int ⟨.int _, H, I.tok _, ⟨_, rfl⟩, q⟩ (CMul.ok hc)
def sAugM (k i : Nat) (f : Env → Out (Val × Env)) : Env → Out (Fl × Env) := fun e => match e[i]? with
  | some (.frz (.int a)) => sE e (fz f e) fun v e1 => match v with
    | .frz (.int b) => if asgOk k e1 i = true ∧ fitM a b then .ok (.nx, e1.set i (.frz (.int (a * b)))) else .bad
    | _ => .bad
  | _ => .bad
section
variable {X : Cx} {cm : CMap} {W : WX} {k : Nat} {pos : Pos} {a : Expr} {fa : Env → Out (Val × Env)}
theorem sv_augM {x : Str} {xp : Pos} (i : Nat) (hN : X.N.Nodup) (ha : EV X cm W a fa) (hi : X.N[i]? = some x := by rfl) (hx : Loc X.env.scope x := by first | exact Or.inl rfl | exact Or.inr rfl)
    (hf : X.fn x = true ∨ X.env.scope.names.lookup x = some .local := by first | exact .inl rfl | exact .inr rfl | assumption) : SV X cm W k (.AugAssign (.Name x xp) .Mult a pos) (sAugM k i fa) := by
  obtain ⟨ta, pa, ea⟩ := ha
  refine ⟨_, ps_aug hN hi hx pa ip_mulB hf, fun s D z p => ?_⟩
  unfold sAugM at p
  split at p
  · rename_i n g0
    obtain ⟨v, v1, v2⟩ := z.frz i _ g0
    cases v2
    refine ⟨.int n, v1, ?_⟩
    refine ea.fz.stepS z p fun v2 val e1 F1 H1 _ x1 q1 y1 r1 p1 => ?_
    split at p1
    · rename_i m _
      cases (show Rp X.K F1 v2 (.int m) from r1)
      split at p1
      · rename_i ok
        exact ⟨n, m, rfl, rfl, ok.2, p1 F1 H1 _ (Stp.put x1) (q1.trans (Par.set ok.1)) (St.put y1 (.int _))⟩
      · exact False.elim p1
    · exact False.elim p1
  · exact False.elim p
end
end BV
/-! dicts by data: k in d, d[k], d[k] = v, sorted(d), {k: v} -/
namespace BV
open PySem PySem.Spec PyProof.Rows L2
/-- an int or a text as a key -/
def keyOf : D → Option Key
  | .int i => some (.inl i)
  | .str x => some (.inr x)
  | _ => none
def isKey : Key → D → Bool
  | .inl i, .int j => decide (i = j)
  | .inr x, .str y => decide (x = y)
  | _, _ => false
def getD' (kvs : List (D × D)) (k : Key) : Option D := (kvs.find? fun p => isKey k p.1).map (·.2)
def putD (kvs : List (D × D)) (k : Key) (d : D) : List (D × D) :=
  if (kvs.any fun p => isKey k p.1) = true then kvs.map (fun p => if isKey k p.1 = true then (p.1, d) else p) else kvs ++ [(keyD k, d)]
theorem isKey_keyD (k j : Key) : isKey k (keyD j) = decide (j = k) := by
  cases k <;> cases j <;> simp [isKey, keyD, eq_comm]
theorem keyOf_rp {K : PySem.W.Frag} {F H : Hp} {v : V} {d : D} {k : Key} (h : keyOf d = some k) (r : Opn K F H v d) : v = kV k ∧ d = keyD k := by
  cases d with
  | int i =>
    cases h
    cases opn_int r
    exact ⟨rfl, rfl⟩
  | str x =>
    cases h
    cases opn_str r
    exact ⟨rfl, rfl⟩
  | _ => cases h
section
variable {K : PySem.W.Frag} {F : Hp}
theorem RpE.any {k : Key} : ∀ {es : List (Key × V)} {kvs : List (D × D)}, RpE K F es kvs → (es.any fun p => decide (p.1 = k)) = kvs.any fun p => isKey k p.1
  | _, _, .nil => rfl
  | _, _, .cons (k := j) _ r => by simp only [List.any_cons, isKey_keyD, RpE.any r]
theorem RpE.get {k : Key} : ∀ {es : List (Key × V)} {kvs : List (D × D)}, RpE K F es kvs → (valV es k = none ∧ getD' kvs k = none) ∨ ∃ v d, valV es k = some v ∧ getD' kvs k = some d ∧ Rp K F v d
  | _, _, .nil => Or.inl ⟨rfl, rfl⟩
  | _, _, .cons (k := j) (v := v) (d := d) (kvs := kvs) h r => by
    by_cases e : j = k
    · exact Or.inr ⟨v, d, valV_pos e, by simp [getD', isKey_keyD, e], h⟩
    · rw [valV_neg e]
      have : getD' ((keyD j, d) :: kvs) k = getD' kvs k := by
        unfold getD'
        rw [List.find?_cons_of_neg]
        simp [isKey_keyD, e]
      rw [this]
      exact RpE.get r
theorem RpE.upd {k : Key} {v : V} {d : D} (h : Rp K F v d) : ∀ {es : List (Key × V)} {kvs : List (D × D)}, RpE K F es kvs → RpE K F (es.map fun p => if p.1 = k then (p.1, v) else p) (kvs.map fun p => if isKey k p.1 = true then (p.1, d) else p)
  | _, _, .nil => .nil
  | _, _, .cons (k := j) g r => by
    simp only [List.map_cons, isKey_keyD]
    by_cases e : j = k
    · simp only [e, if_pos, decide_true]
      exact .cons h (RpE.upd h r)
    · simp only [e, if_false, decide_false, Bool.false_eq_true]
      exact .cons g (RpE.upd h r)
theorem RpE.append : ∀ {es es2 : List (Key × V)} {kvs kvs2 : List (D × D)}, RpE K F es kvs → RpE K F es2 kvs2 → RpE K F (es ++ es2) (kvs ++ kvs2)
  | _, _, _, _, .nil, b => b
  | _, _, _, _, .cons h r, b => .cons h (RpE.append r b)
theorem RpE.put {k : Key} {v : V} {d : D} (h : Rp K F v d) {es : List (Key × V)} {kvs : List (D × D)} (r : RpE K F es kvs) : RpE K F (L2.putK es k v) (putD kvs k d) := by
  unfold L2.putK putD
  rw [r.any (k := k)]
  split
  · exact r.upd h
  · exact r.append (.cons h .nil)
theorem opn_dic {H : Hp} {v : V} {kvs : List (D × D)} (h : Opn K F H v (.dict kvs)) : ∃ a es, v = .ref a ∧ H a = some (.dK es) ∧ RpE K F es kvs := h
end
/-- k in d, k not in d -/
def gInD : D → D → Option Val
  | d, .dict kvs => (keyOf d).map fun k => .frz (.bool (getD' kvs k).isSome)
  | _, _ => none
def gNotInD : D → D → Option Val
  | d, .dict kvs => (keyOf d).map fun k => .frz (.bool (!(getD' kvs k).isSome))
  | _, _ => none
def gIxD : D → D → Option Val
  | .dict kvs, d => (keyOf d).bind fun k => (getD' kvs k).map .frz
  | _, _ => none
section
variable {X : Cx}
theorem dget_of {K : PySem.W.Frag} {F H : Hp} {a : Addr} {es : List (Key × V)} {kvs : List (D × D)} {k : Key} (ha : H a = some (.dK es)) (r : RpE K F es kvs) : ∃ o : Option V, DGet H a (kV k) o ∧ o.isSome = (getD' kvs k).isSome := by
  refine ⟨valV es k, DGet.k ha, ?_⟩
  rcases r.get (k := k) with ⟨e1, e2⟩ | ⟨v, d, e1, e2, _⟩
  · rw [e1, e2]
    rfl
  · rw [e1, e2]
    rfl
theorem os_inD (hu : X.A.units + 150 < cLine) : OpR X (compareOp .In) (rG X.K gInD) := by
  intro pins s σ H x y v u Q I rx ry h
  obtain ⟨S, dx, dy, val, rfl, z, ox, oy, g, k⟩ := h
  cases dy with
  | dict kvs =>
    simp only [gInD] at g
    cases hk : keyOf dx with
    | none =>
      rw [hk] at g
      cases g
    | some j =>
      rw [hk] at g
      cases g
      obtain ⟨rfl, _⟩ := keyOf_rp hk ox
      obtain ⟨a, es, rfl, ha, r⟩ := opn_dic oy
      cases ry
      obtain ⟨o, g1, g2⟩ := dget_of (k := j) ha r
      refine d_in (by omega) I g1 rx fun s' I' => ⟨.bl _, S.H, I', rfl, ?_⟩
      rw [g2]
      exact k.same z (.bl _)
  | _ => cases dx <;> cases g
theorem os_notInD (hu : X.A.units + 150 < cLine) : OpR X (compareOp .NotIn) (rG X.K gNotInD) := by
  intro pins s σ H x y v u Q I rx ry h
  obtain ⟨S, dx, dy, val, rfl, z, ox, oy, g, k⟩ := h
  cases dy with
  | dict kvs =>
    simp only [gNotInD] at g
    cases hk : keyOf dx with
    | none =>
      rw [hk] at g
      cases g
    | some j =>
      rw [hk] at g
      cases g
      obtain ⟨rfl, _⟩ := keyOf_rp hk ox
      obtain ⟨a, es, rfl, ha, r⟩ := opn_dic oy
      cases ry
      obtain ⟨o, g1, g2⟩ := dget_of (k := j) ha r
      refine d_notIn (by omega) I g1 rx fun s' I' => ⟨.bl _, S.H, I', rfl, ?_⟩
      rw [g2]
      exact k.same z (.bl _)
  | _ => cases dx <;> cases g
variable {cm : CMap} {W : WX} {pos : Pos} {a b : Expr} {fa fb : Env → Out (Val × Env)}
theorem ev_ixD (hu : X.A.units + 150 < cLine) (ha : EV X cm W a fa) (hb : EV X cm W b fb) (hs : NoSl b := by exact fun _ _ => rfl) : EV X cm W (.Subscript a b pos) (bin gIxD fa fb) := by
  obtain ⟨ta, pa, ea⟩ := ha
  obtain ⟨tb, pb, eb⟩ := hb
  refine ⟨_, pe_dget (by omega) pa pb hs, fun s Q z p => ?_⟩
  refine ea.fz.step' z p fun v val e1 F1 H1 q1 x y r p1 => ?_
  refine eb.fz.step' y p1 fun v2 val2 e2 F2 H2 q2 x2 y2 r2 p2 => ?_
  simp only at p2
  cases o1 : opd e2 val with
  | none =>
    rw [o1] at p2
    exact False.elim p2
  | some d1 =>
    cases o2 : opd e2 val2 with
    | none =>
      rw [o1, o2] at p2
      exact False.elim p2
    | some d2 =>
      rw [o1, o2] at p2
      obtain ⟨w, e, k⟩ := p2.gives
      have r1' := (r.later (s1 := s) x2 rfl (fz_noNew q1) o1).opn y2 o1
      have r2' := r2.opn y2 o2
      cases d1 with
      | dict kvs =>
        simp only [gIxD] at e
        cases hk : keyOf d2 with
        | none =>
          rw [hk] at e
          cases e
        | some j =>
          rw [hk] at e
          obtain ⟨rfl, _⟩ := keyOf_rp hk r2'
          obtain ⟨a, es, rfl, ha, rr⟩ := opn_dic r1'
          rcases rr.get (k := j) with ⟨_, e2⟩ | ⟨v', d', e1', e2', rd⟩
          · simp only [Option.bind_some, e2] at e
            cases e
          · simp only [Option.bind_some, e2'] at e
            cases e
            exact ⟨a, v', rfl, Or.inl ⟨es, j, Rd.of ha, rfl, e1'.symm⟩, k.same y2 rd⟩
      | _ => cases e
/-- sorted(d), the keys ints -/
def intKeys : List (D × D) → Option (List Int)
  | [] => some []
  | (.int i, _) :: r => (intKeys r).map (i :: ·)
  | _ :: _ => none
def gSortedD : D → Option Val
  | .dict kvs => (intKeys kvs).map fun ks => .new (.lst (ks.mergeSort.map .int))
  | _ => none
theorem intKeys_eq {K : PySem.W.Frag} {F : Hp} : ∀ {es : List (Key × V)} {kvs : List (D × D)} {ks : List Int}, RpE K F es kvs → intKeys kvs = some ks → es.map (·.1) = ks.map Sum.inl
  | _, _, ks, .nil, h => by
    cases h
    rfl
  | _, _, ks, .cons (k := j) h r, g => by
    cases j with
    | inr x => cases g
    | inl i =>
      simp only [intKeys, keyD] at g
      cases q : intKeys _ with
      | none =>
        rw [q] at g
        cases g
      | some ks' =>
        rw [q] at g
        cases g
        simp only [List.map_cons, intKeys_eq r q]
theorem le_uniq : ∀ {xs ys : List Int}, xs.Perm ys → xs.Pairwise (· ≤ ·) → ys.Pairwise (· ≤ ·) → xs = ys := fun p h1 h2 =>
  p.eq_of_pairwise (le := (· ≤ ·)) (fun a b _ _ h h' => by omega) h1 h2
theorem msort_le (ks : List Int) : ks.mergeSort.Pairwise (· ≤ ·) :=
  (List.pairwise_mergeSort (le := fun a b : Int => decide (a ≤ b)) (fun a b c h1 h2 => by simp at *; omega) (fun a b => by simp; omega) ks).imp fun h => by simpa using h
theorem cd_sortedD (hc : X.calm = true) : CallR X (.builtin "sorted") (rL1 X.K gSortedD) := by
  intro pins s σ H xs us Q I r q
  obtain ⟨x, rfl, S, dx, val, rfl, z, ox, g, k⟩ := q
  cases dx with
  | dict kvs0 =>
    simp only [gSortedD] at g
    cases hks : intKeys kvs0 with
    | none =>
      rw [hks] at g
      cases g
    | some ks =>
      rw [hks] at g
      cases g
      obtain ⟨a, es, rfl, ha, re⟩ := opn_dic ox
      obtain ⟨u, rfl, rx⟩ := vals1 r
      cases rx
      have hes := intKeys_eq re hks
      obtain ⟨zl, lo, vs, rel, dd⟩ := dk_rd I.hok (Rd.of ha)
      obtain ⟨ep, hat⟩ := dd.dictAt
      have hkeys : vs.map (·.1) = ks.map Sum.inl := rel.keys.symm.trans hes
      have hl : vs.length = ks.length := by simpa using congrArg List.length hkeys
      have hl2 : es.length = ks.length := by simpa using congrArg List.length hes
      have h16 : vs.length ≤ sizeLine := by omega
      refine Calls.call_function_entry PyProof.Rows.kind_sorted PyProof.Rows.plain_sorted PyProof.Rows.entry_sorted (PyProof.Rows.args_sorted1 _) ?_
      unfold Builtin.«sorted»
      refine wpAny_bind (m := checkCount "sorted" 1 1 _) (wpAny_pure ?_)
      refine wpAny_bind (PySem.W.kdu_collect (A := X.A.in1) (PySem.W.kdl_dict (knd := mixKind X.prog X.w) (kvs := vs) (ep := ep) lo) (I.ok.hd hc) hat h16 fun h' tk acc hk hacc => ?_)
      have hal : acc.toList.length = ks.length := by rw [Array.length_toList, hacc.1, hl]
      have hS : IntsAre acc.toList ks := ints_each hal fun j v e => by
        obtain ⟨kk, x, e1, e2⟩ := hacc.2 j v (by rw [← Array.getElem?_toList]; exact e)
        have e3 : (vs.map (·.1))[j]? = some kk := by rw [List.getElem?_map, e1]; rfl
        rw [hkeys, List.getElem?_map] at e3
        cases e4 : ks[j]? with
        | none =>
          rw [e4] at e3
          cases e3
        | some y =>
          rw [e4] at e3
          have e5 : Sum.inl y = kk := Option.some.inj e3
          subst e5
          rcases keyIs_shape (show keyIs (Sum.inl y) v = true from e2) with ⟨i, t, ek, ev⟩ | ⟨zz, t, ek, ev⟩
          · cases ek
            exact ⟨y, t, rfl, ev⟩
          · cases ek
      have I1 : L2.Inv X pins σ S.H { s with heap := h', toks := tk } := I.kept hk
      refine wpAny_bind (wpAny_newList ?_ (by rw [hal]; omega))
      have hoL : (h'.push (seqObj "list" acc.toList.toArray 0)).get? h'.objs.size = some (seqObj "list" acc.toList.toArray 0) := Heap.get?_push_size _ rfl
      show wpAny _ _ _ _ _ { s with heap := h'.push (seqObj "list" acc.toList.toArray 0), toks := tk }
      refine wpAny_bind (wpAny_holding (wpAny_call_entry PyProof.Rows.slot_list_sort ⟨_, hoL, rfl⟩ PyProof.Rows.entry_list_sort
        (PyProof.Rows.list_sort_treeAny (s := { s with heap := h'.push (seqObj "list" acc.toList.toArray 0), toks := tk }) hoL hS (by rw [hal]; omega) fun out ys g1 g2 g3 => ⟨_, rfl, ?_⟩) (PyProof.Rows.args_list_sort _)))
      obtain ⟨e', he'⟩ := PyProof.Rows.sortedHeap_at (vs := acc.toList) (out := out) hoL
      have ey : ys = ks.mergeSort := le_uniq (g2.trans (List.mergeSort_perm _ _).symm) g3 (msort_le ks)
      subst ey
      have hlen : (ks.mergeSort.map V.int).length ≤ sizeLine := by
        rw [List.length_map, List.length_mergeSort]
        omega
      refine wpAny_pure ⟨_, rfl, .ref h'.objs.size, upd S.H h'.objs.size (.lst (ks.mergeSort.map V.int)), I1.laid (t' := tk) (fun b u e => ?_) (Nat.le_refl _)
        (show ObjOk X.prog X.w _ _ _ (.lst (ks.mergeSort.map V.int)) from ⟨hlen, out.toList, e', vals_of_ints g1, by rw [Array.toArray_toList]; exact he'⟩), rfl, k.list z RpA.ofInts (I1.hok.fresh (Nat.le_refl _))⟩
      have hb : b < h'.objs.size := Heap.lt_size e
      rw [PyProof.Rows.sortedHeap_old (Nat.ne_of_lt hb) (by rw [size_push']; exact Nat.lt_succ_of_lt hb)]
      exact Heap.get?_push_of_some _ e
  | _ => cases g
/-- d[k] = v -/
def sSetK (i : Nat) (fv fi : Env → Out (Val × Env)) : Env → Out (Fl × Env) := fun e => sE e ((fz fv e).bind asD) fun d e1 => match e1[i]? with
  | some (.own (.dic _)) => sE e1 (fz fi e1) fun n e2 => match n, e2[i]? with
    | .frz y, some (.own (.dic kvs)) => match keyOf y with
      | some k => if kvs.length < sizeLine then .ok (.nx, e2.set i (.own (.dic (putD kvs k d)))) else .bad
      | none => .bad
    | _, _ => .bad
  | _ => .bad
theorem sv_setK {k : Nat} {x : Str} {np sp : Pos} (i : Nat) (hu : X.A.units + 150 < cLine) (hv : EV X cm W a fa) (hi : EV X cm W b fb) (hN : X.N[i]? = some x := by rfl) (hvs : Vis X.env.scope x := by first | exact Or.inl rfl | exact Or.inr (Or.inl rfl) | exact Or.inr (Or.inr rfl))
    (hd : (x == ("__debug__" : Str)) = false := by decide) (hcd : (x == ("__classdict__" : Str)) = false := by decide)
    (hs : swapsWithSole [.Subscript (.Name x np) b sp] a pos.line X.env = pure false := by rfl) (hw : swappedStores [.Subscript (.Name x np) b sp] a X.env = pure none := by rfl) (h1 : (assignEach [.Subscript (.Name x np) b sp] X.env).map (·.2) = [assign (.Subscript (.Name x np) b sp) X.env] := by rfl)
    (has : ∀ v, assign (.Subscript (.Name x np) b sp) X.env v = (do
      let ov ← holding [v] (eval (.Name x np) X.env)
      let iv ← holding [v, ov] (eval b X.env)
      standAt sp
      holding [v, ov, iv] (setItem ov iv v)
      release [v, ov, iv] []) := by intro _; rfl) : SV X cm W k (.Assign [.Subscript (.Name x np) b sp] a pos) (sSetK i fa fb) := by
  obtain ⟨ta, pa, ea⟩ := hv
  obtain ⟨tb, pb, eb⟩ := hi
  refine ⟨_, ps_asg pa (pg_sub (pe_var hN hvs hd hcd) pb (set_dict (by omega)) has) hs hw h1, fun s D z p => ?_⟩
  refine EVt.asD ea s _ z k D _ p fun v d e1 F1 H1 x1 q1 y1 r p1 => ?_
  split at p1
  · rename_i ds0 g0
    obtain ⟨q, k1, _⟩ := y1.own i _ g0
    refine ⟨.ref q, k1, ?_⟩
    refine eb.fz.stepS (s := ⟨F1, H1, s.σ, e1⟩) y1 (p1.later x1 q1) fun v2 n e2 F2 H2 _ x2 q2 y2 r2 p2 => ?_
    split at p2
    · rename_i n kvs g _
      cases hk : keyOf n with
      | none =>
        rw [hk] at p2
        exact False.elim p2
      | some j =>
        rw [hk] at p2
        simp only at p2
        split at p2
        · rename_i hsz
          obtain ⟨rfl, _⟩ := keyOf_rp hk (Opn.of y2.fh (show Rp X.K F2 v2 n from r2))
          obtain ⟨q', k1', ⟨k2, _, es, k3, k4⟩⟩ := y2.own i _ g
          have k1' : s.σ[i]? = some (some (V.ref q')) := k1'
          have k1 : s.σ[i]? = some (some (V.ref q)) := k1
          rw [k1] at k1'
          cases k1'
          have r4 : Rp X.K F2 v d := Rp.mono x2.ff r
          refine ⟨q, _, rfl, DPut.k k3 (by rw [k4.length]; exact hsz), ?_⟩
          exact p2 F2 (upd H2 q (.dK (L2.putK es j v))) s.σ (x2.trans (St.mutD y2 g k1 (k4.put r4)).2) (q2.trans fun l o hl go => ⟨rfl, by
            by_cases e : i = l
            · subst e
              exact ⟨_, List.getElem?_set_self (List.getElem?_eq_some_iff.mp g).1⟩
            · exact ⟨o, (List.getElem?_set_ne e).trans go⟩⟩) (St.mutD y2 g k1 (k4.put r4)).1
        · exact False.elim p2
    · exact False.elim p2
  · exact False.elim p1
/-- {c: e}, c written -/
def fDic1 (c : Key) (f : Env → Out (Val × Env)) : Env → Out (Val × Env) := fun e => ((fz f e).bind asD).bind fun a => .ok (.new (.dic [(keyD c, a.1)]), a.2)
end
end BV
/-! defs with defaults; defs that call themselves -/
namespace BV
open PySem PySem.Spec PyProof.Rows L2
/-- a def as it stands, its defaults whatever -/
def FunA (K : PySem.W.Frag) (x qual : Str) (st : Stmt) (f : Addr) (fd : FuncData) : Prop :=
  ∃ (oc : Value) (od : Option Addr) (dV kV doc pm : Value) (an : Option Addr) (cdv ct : Value) (osl : Array (Option Value)),
    fd = PySem.W.fnOf x qual (defArgs st) (defBody st) (defScope st) dV kV doc pm an cdv ct ∧ K.lookup f = some ⟨oc, od, .func fd, osl⟩ ∧ PySem.W.codeIn K cdv qual = true
abbrev FnD (K : PySem.W.Frag) (x : Str) (st : Stmt) (dvs : List V) (f : Addr) (fd : FuncData) : Prop := FunD K x x (defArgs st) (defBody st) (defScope st) dvs [] f fd
theorem FunA.of {K : PySem.W.Frag} {x qual : Str} {st : Stmt} {f : Addr} {fd : FuncData} (F : L2.Fun K x qual st f fd) : FunA K x qual st f fd := by
  obtain ⟨oc, od, kV, doc, pm, an, cdv, ct, osl, h1, h2, h3⟩ := F.ex
  exact ⟨oc, od, _, kV, doc, pm, an, cdv, ct, osl, h1, h2, h3⟩
theorem FunA.ofD {K : PySem.W.Frag} {x : Str} {st : Stmt} {dvs : List V} {f : Addr} {fd : FuncData} (F : FnD K x st dvs f fd) : FunA K x x st f fd := by
  obtain ⟨oc, od, dV, kV, doc, pm, an, cdv, ct, osl, h1, h2, h3, _⟩ := F.ex
  exact ⟨oc, od, dV, kV, doc, pm, an, cdv, ct, osl, h1, h2, h3⟩
def DefD (K : PySem.W.Frag) (mg : Str → Option Value) (x : Str) (st : Stmt) (dvs : List V) : Prop := ∃ (f : Addr) (fd : FuncData), FnD K x st dvs f fd ∧ mg x = some (.ref f) ∧ PySem.W.nsIn K mainGlobals x = some (some (.ref f))
section
variable {P : Program} {w : World} {K : PySem.W.Frag} {mg : Str → Option Value} {base : Heap} {CX : CXT}
/-- a def, by its body, its defaults whatever -/
theorem body_ofA {k : Nat} {x qual : Str} {st : Stmt} {f : Addr} {fd : FuncData} {N ps : List Str} {sp : Sp} (D : FunA K x qual st f fd) (S : FnScope N ps (defScope st))
    (len : ∀ vs H Q E, sp vs H Q E → vs.length = ps.length)
    (hb : ∀ (cdv : Value) (A : Around) (outer : List PySem.Env) (s : Shared) (H : Hp) (vs : List V) (Q : VK) (E : XK),
      A.guards = some [] → Room k (A.deeper (envOfC qual (defScope st) s.heap.objs.size f cdv)) → sp vs H Q E →
      ∃ t, PSs (cxOf CX P w K mg base N qual (defScope st) f cdv A outer s H E) (defBody st) t ∧ t { nx := fun _ H' => Q .non H', rt := Q } (start N vs) H) :
    FnG P w K mg base CX (k + 1) f fd ps sp := by
  obtain ⟨oc, od, dV, kV, doc, pm, an, cdv, ct, osl, rfl, lk, hcd⟩ := D
  refine ⟨len, fun A outer s H args us vs Q E hg hr e0 hbd r hsp => ?_⟩
  have KX : K.In s.heap := e0.mod.kin.keeps fun b o e => (e0.bs b o e).1
  have lim := e0.mod.nolimit.keeps (h' := s.heap) fun b o e => (e0.bs b o e).1
  have names : ∀ y ∈ ps.zip us, (defScope st).names.lookup y.1 = some .local ∨
      ((defScope st).names.lookup y.1 = some .cell ∧ ((cellsFrom (s.heap.objs.size + 1) (defScope st).names []).lookup y.1).isSome = true) := by
    rintro ⟨n, v⟩ hy
    rcases S.par n (List.of_mem_zip hy).1 with q | q
    · exact Or.inl q
    · exact Or.inr ⟨q, PySem.W.cellsFrom_some _ _ _ (Or.inl q)⟩
  refine codeAny_call_function hr.depth (KX _ _ lk) rfl S.co S.gen rfl (PySem.W.codeRec_of KX hcd) (hbd _ _ _ _ ?_)
  refine wpAny_newFunctionEnv_cells S.kind names fun env he s1 x => ?_
  subst he
  refine ⟨lim.keeps x.toInCall.keep, codeAny_func ?_⟩
  obtain ⟨t, ht, hq⟩ := hb cdv A outer s H vs Q E hg (hr.deeper _) hsp
  have I := inv_start (CX := CX) (E := E) S hr.hd e0 (len _ _ _ _ hsp) r x
  refine wpAny_mono (ht.run [] s1 (start N vs) H _ I hq) (fun fl s' hs => ?_) fun e s' hs => hs
  cases fl with
  | brk =>
    obtain ⟨_, _, _, q⟩ := hs
    exact q.elim
  | cont =>
    obtain ⟨_, _, _, q⟩ := hs
    exact q.elim
  | next =>
    obtain ⟨σ', H', J, q⟩ := hs
    exact ⟨V.non, H', J.os, J.bare, J.base, J.hok, rfl, q⟩
  | ret u =>
    obtain ⟨v, σ', H', J, rv, q⟩ := hs
    exact ⟨v, H', J.os, J.bare, J.base, J.hok, rv, q⟩
end
theorem fn_dataA {P : Program} {w : World} {K : PySem.W.Frag} {mg : Str → Option Value} {base : Heap} {k : Nat} {x qual : Str} {st : Stmt} {f : Addr} {fd : FuncData} {N ps : List Str} {cm : CMap} {fs : Env → Out (Fl × Env)}
    (Dd : FunA K x qual st f fd) (S : FnScope N ps (defScope st)) (hle : ps.length ≤ N.length)
    (hb : ∀ (cdv : Value) (A : Around) (outer : List PySem.Env) (s : Shared) (H : Hp) (E : XK), A.guards = some [] → Room k (A.deeper (envOfC qual (defScope st) s.heap.objs.size f cdv)) →
      SVs (cxOf (CX P w) P w K mg base N qual (defScope st) f cdv A outer s H E) cm (fun C oe _ H' => E C oe H') ps.length (defBody st) fs) :
    FnG P w K mg base (CX P w) (k + 1) f fd ps (spB ps.length K cm (runF ps.length N.length fs)) := by
  refine body_ofA Dd S (fun vs H Q E h => h.1) fun cdv A outer s H vs Q E hg hr h => ?_
  obtain ⟨hn, F, sl, z, p⟩ := h
  obtain ⟨t, pt, sv⟩ := hb cdv A outer s H E hg hr
  refine ⟨t, pt, ?_⟩
  have e : L2.start N vs = vs.map some ++ List.replicate (N.length - ps.length) none := by
    unfold L2.start
    rw [hn]
  rw [e]
  refine sv ⟨F, H, _, sl ++ List.replicate (N.length - ps.length) Slot.no⟩ _ (St.begin (K := K) (m := N.length - ps.length) z) ?_
  revert p
  unfold runF
  simp only
  cases hf : fs (sl ++ List.replicate (N.length - ps.length) .no) with
  | bad => exact fun p => p
  | exc xx e' =>
    dsimp only
    cases b : back sl e' with
    | none => exact fun p => False.elim p
    | some sl' =>
      intro p C oe F' H' σ' x y xr q
      obtain ⟨x', y'⟩ := St.ended hn z x q y b
      exact p C oe F' H' x' y' xr
  | ok a =>
    obtain ⟨fl, e'⟩ := a
    cases fl with
    | brk => exact fun p => False.elim p
    | cont => exact fun p => False.elim p
    | nx =>
      dsimp only
      cases b : back sl e' with
      | none => exact fun p => False.elim p
      | some sl' =>
        intro p F' H' σ' x q y
        obtain ⟨x', y'⟩ := St.ended hn z x q y b
        exact p .non F' H' x' y' .non
    | ret v =>
      dsimp only
      cases b : back sl e' with
      | none =>
        cases v <;> exact fun p => False.elim p
      | some sl' =>
        cases v with
        | bor i => exact fun p => False.elim p
        | frz d =>
          intro p v F' H' σ' x q y r
          obtain ⟨x', y'⟩ := St.ended hn z x q y b
          exact p v F' H' x' y' (VRep.ended hn z q b (fun _ h => by cases h) r)
        | new o =>
          intro p v F' H' σ' x q y r
          obtain ⟨x', y'⟩ := St.ended hn z x q y b
          exact p v F' H' x' y' (VRep.ended hn z q b (fun _ h => by cases h) r)

/-- a call by keywords of a def with defaults, all parameters told -/
theorem kw_mkD {K : PySem.W.Frag} {x : Str} {st : Stmt} {dvs : List V} {f : Addr} {fd : FuncData} {ps ks : List Str} {n : Nat} {is : List Nat} (F : FnD K x st dvs f fd) (hd : dvs ≠ [])
    (h : ∀ (T : Addr) (kV doc pm : Value) (an : Option Addr) (cdv ct : Value) (us its ws : List Value), us.length = n → its.length = dvs.length → ws.length = ks.length →
      ∃ k, bindArgs (PySem.W.fnOf x x (defArgs st) (defBody st) (defScope st) (.ref T) kV doc pm an cdv ct) ⟨us, ks.zip ws⟩ = seqItems? (.ref T) >>= k ∧ k (some its.toArray) = pure (ps.zip (pickG is us ws))) : KwAt K fd ps n ks is := by
  obtain ⟨oc, od, dV, kV, doc, pm, an, cdv, ct, osl, rfl, lk, hcd, hD, hK⟩ := F.ex
  rcases hD with ⟨e, _⟩ | ⟨_, T, o, its, m, rfl, lT, oT, rT⟩
  · exact absurd e hd
  · refine ⟨fun s us ws X l1 l2 => ?_, fun r rz => vals_pick r rz _⟩
    obtain ⟨k, e1, e2⟩ := h T kV doc pm an cdv ct us its ws l1 rT.length.symm l2
    refine BindsTo.of_looks fun M => ?_
    rw [e1]
    exact looks_items X lT oT (.of_pure e2)
theorem def_mkD {K : PySem.W.Frag} {h : Heap} {mg : Str → Option Value} {x : Str} {st : Stmt} {dvs : List V} {f T : Addr} {oc : Value} {od an : Option Addr} {osl : Array (Option Value)} {kV doc pm cdv ct : Value} {o : Obj} {its : List Value} {m : Nat} (X : K.In h) (G : h.Ns mainGlobals mg)
    (a : PySem.W.nsIn K mainGlobals x = some (some (.ref f))) (l : K.lookup f = some ⟨oc, od, .func (PySem.W.fnOf x x (defArgs st) (defBody st) (defScope st) (.ref T) kV doc pm an cdv ct), osl⟩) (c : PySem.W.codeIn K cdv x = true) (k : PySem.W.keepIn K (.ref f) = true)
    (lT : K.lookup T = some o) (oT : o.data = .seq its.toArray m) (r : Vals dvs its) (hd : dvs ≠ []) : DefD K mg x st dvs :=
  ⟨f, _, ⟨⟨oc, od, _, kV, doc, pm, an, cdv, ct, osl, rfl, l, c, Or.inr ⟨hd, T, o, its, m, rfl, lT, oT, r⟩, Or.inl rfl⟩, k⟩, PySem.W.mg_of X G a, a⟩
/-- what can't be run keeps every promise -/
theorem fng_bad {P : Program} {w : World} {K : PySem.W.Frag} {mg : Str → Option Value} {base : Heap} {CX : CXT} {k n : Nat} {f : Addr} {fd : FuncData} {ps : List Str} {cm : CMap} : FnG P w K mg base CX k f fd ps (spB n K cm fun _ => .bad) :=
  ⟨fun vs H Q E h => by
    obtain ⟨_, F, sl, z, p⟩ := h
    exact False.elim p, fun A outer s H args us vs Q E _ _ _ _ _ h => by
    obtain ⟨_, F, sl, z, p⟩ := h
    exact False.elim p⟩
end BV
/-! a call that only looks: own lists are handed in as data for its time -/
namespace BV
open PySem PySem.Spec PyProof.Rows L2
def viewOf (e : Env) : List Arg → Option (List D)
  | [] => some []
  | .dat d :: as => (viewOf e as).map (d :: ·)
  | .own i :: as => match e[i]? with
    | some (.own o) => match o.dq with
      | some d => (viewOf e as).map (d :: ·)
      | none => none
    | _ => none
def atmD : D → Bool
  | .none => true
  | .bool _ => true
  | .int _ => true
  | .str _ => true
  | _ => false
def xAtm (x : Exn) : Bool := match x.fld with
  | none => true
  | some _ => false
theorem Rp.atom {K : PySem.W.Frag} {F F' : Hp} {v : V} {d : D} (h : Rp K F v d) (a : atmD d = true) : Rp K F' v d := by
  cases h with
  | non => exact .non
  | bl b => exact .bl b
  | int i => exact .int i
  | str x => exact .str x
  | lst _ _ => cases a
  | tup _ _ => cases a
  | dic _ _ => cases a
theorem OwnS.rp {K : PySem.W.Frag} {F H : Hp} {p : Addr} {o : O} {d : D} (h : OwnS K F H p o) (f : Ex F H) (hq : o.dq = some d) : Rp K H (.ref p) d := (Rp.ofOwnO o h.own h.nf hq).mono (frzF_ex f)
theorem view_rp {K : PySem.W.Frag} {F H : Hp} {σ : L2.St} {e : Env} (z : St K ⟨F, H, σ, e⟩) : ∀ {as : List Arg} {vs : List V} {ds : List D}, ArgRep K F σ vs as → viewOf e as = some ds → RpA K H vs ds
  | [], _, _, .nil, h => by
    cases h
    exact .nil
  | .dat d :: as, _, _, .dat r t, h => by
    simp only [viewOf] at h
    cases q : viewOf e as with
    | none =>
      rw [q] at h
      cases h
    | some l =>
      rw [q] at h
      cases h
      exact .cons (r.mono z.fh) (view_rp z t q)
  | .own i :: as, _, _, .own r t, h => by
    simp only [viewOf] at h
    split at h
    · rename_i o ho
      cases hq : o.dq with
      | none =>
        rw [hq] at h
        cases h
      | some d =>
      rw [hq] at h
      cases q : viewOf e as with
      | none =>
        rw [q] at h
        cases h
      | some l =>
        rw [q] at h
        cases h
        obtain ⟨p, h1, h3⟩ := z.own i o ho
        have h1 : σ[i]? = some (some (V.ref p)) := h1
        rw [r] at h1
        cases h1
        exact .cons (h3.rp z.fh hq) (view_rp z t q)
    · cases h
theorem no_own {ds : List D} {i : Nat} {o : O} : (ds.map Slot.frz)[i]? ≠ some (.own o) := fun h => by
  rw [List.getElem?_map] at h
  cases q : ds[i]? with
  | none =>
    rw [q] at h
    cases h
  | some d =>
    rw [q] at h
    cases h
theorem view_st {K : PySem.W.Frag} {H : Hp} {vs : List V} {ds : List D} (r : RpA K H vs ds) : St K ⟨H, H, vs.map some, ds.map Slot.frz⟩ := by
  refine ⟨by simp [r.length], Ex.refl _, fun i d h => ?_, fun i o h => absurd h no_own, fun i j oi oj _ _ h => absurd h no_own, fun i x h => ?_⟩
  · have h : (ds.map Slot.frz)[i]? = some (.frz d) := h
    rw [List.getElem?_map] at h
    cases q : ds[i]? with
    | none =>
      rw [q] at h
      cases h
    | some d' =>
      rw [q] at h
      cases h
      obtain ⟨v, h1, h2⟩ := r.get i q
      exact ⟨v, by show (vs.map some)[i]? = _; rw [List.getElem?_map, h1]; rfl, h2⟩
  · have h : (ds.map Slot.frz)[i]? = some (.fn x) := h
    rw [List.getElem?_map] at h
    cases q : ds[i]? with
    | none =>
      rw [q] at h
      cases h
    | some d =>
      rw [q] at h
      cases h
/-- what such a call leaves: new things alone -/
theorem view_back {K : PySem.W.Frag} {F H F' H' : Hp} {σ σ' : L2.St} {e e' : Env} {ds : List D} (z : St K ⟨F, H, σ, e⟩) (x : Stp ⟨H, H, σ', ds.map Slot.frz⟩ ⟨F', H', σ', e'⟩) : Stp ⟨F, H, σ, e⟩ ⟨F, H', σ, e⟩ ∧ St K ⟨F, H', σ, e⟩ := by
  have kp : ∀ a o, H a = some o → H' a = some o := fun a o h => x.keep a o h fun ⟨i, o', p, h1, _⟩ => no_own h1
  have c := z.change (F' := F) (H' := H') (Ex.refl _) (fun a o h => kp a o (z.fh a o h)) (fun a ha => by
    obtain ⟨u, hu⟩ := (z.ownA ha).2
    have hu : H a = some u := hu
    rw [hu]
    exact kp a u hu) fun a ha => (z.ownA ha).1
  exact ⟨⟨Ex.refl _, fun _ _ h => .inl h, fun a o h _ => kp a o h, fun a h => .inl ((c.2 a).mp h), fun a o h => ⟨o, kp a o h⟩⟩, c.1⟩
def pOut (e : Env) : Out (Val × List Slot) → Out (Val × Env)
  | .ok (.frz d, _) => if atmD d = true then .ok (.frz d, e) else .bad
  | .exc x _ => if xAtm x = true then .exc x e else .bad
  | _ => .bad
def callP (m : Fn) (as : List Arg) (e : Env) : Out (Val × Env) := match viewOf e as with
  | some ds => pOut e (m (ds.map .frz))
  | none => .bad
def fCallP (m : Fn) (dds : List D) (fs : Env → Out (List Arg × Env)) : Env → Out (Val × Env) := fun e => (fs e).bind fun a => callP m (a.1 ++ dds.map Arg.dat) a.2
section
variable {X : Cx} {cm : CMap} {W : WX} {pos : Pos} {a : Expr} {es : List Expr} {fs : Env → Out (List Arg × Env)}
theorem ev_callP {x : Str} {p : Pos} {CX : CXT} {k n : Nat} {f : Addr} {fd : FuncData} {ps : List Str} {m : Fn} {dvs : List V} {dds : List D} {ds : List Value} (F : FnG X.prog X.w X.K X.mg X.base CX k f fd ps (spB n X.K cm m)) (hm : X.mg x = some (.ref f))
    (hk : PySem.W.keepIn X.K (.ref f) = true) (hb : Binds X.K fd ps ds) (hd : Vals dvs ds) (hdd : ∀ F, RpA X.K F dvs dds) (hG : X.A.guards = some []) (hr : Room k X.A) (hx : ∀ σ, PassesAt CX X σ (WE W σ)) (hn : (a :: es).length + dds.length = n) (ha : ER X cm W (a :: es) fs)
    (hlen : ∀ e as e', fs e = .ok (as, e') → as.length = (a :: es).length)
    (hg : Gl X x := by rfl) (hdb : (x == ("__debug__" : Str)) = false := by decide)
    (he : starEach (a :: es) X.env = (false, eval a X.env) :: starEach es X.env := by rfl) (hpl : (backTo pos (starEach es X.env)).any (·.1) = false := by rfl) : EV X cm W (.Call (.Name x p) (a :: es) [] pos) (fCallP m dds fs) := by
  obtain ⟨t, pa, er⟩ := ha
  refine ⟨_, pe_callG F hG hr hg hm hk hb hd hx pa hdb he hpl, fun s Q z q => ?_⟩
  refine er s _ z ?_
  revert q
  unfold fCallP
  cases hfs : fs s.e with
  | exc x e1 => exact fun p => p
  | bad => exact fun p => p
  | ok w =>
    obtain ⟨as0, e1⟩ := w
    rw [Out.bind_ok]
    intro q vs F1 H1 x y r0
    have y : St X.K ⟨F1, H1, s.σ, e1⟩ := y
    have r : ArgRep X.K F1 s.σ (vs ++ dvs) (as0 ++ dds.map Arg.dat) := r0.append (.ofData (hdd F1))
    have hl : (vs ++ dvs).length = n := by rw [r.length, List.length_append, List.length_map, hlen _ _ _ hfs]; exact hn
    simp only at q
    unfold callP at q
    cases hv : viewOf e1 (as0 ++ dds.map Arg.dat) with
    | none =>
      rw [hv] at q
      exact q.elim
    | some dl =>
      rw [hv] at q
      have rv := view_rp y r hv
      refine ⟨hl, H1, dl.map .frz, view_st rv, ?_⟩
      revert q
      simp only
      cases hm' : m (dl.map .frz) with
      | bad => exact fun q => q
      | exc xx sl' =>
        simp only [pOut]
        split
        · rename_i hat
          intro q C oe F' H' x2 y2 xr
          obtain ⟨x3, y3⟩ := view_back y x2
          refine q C oe F1 H' (x.trans x3) y3 ⟨xr.1, ?_⟩
          have x4 := xr.2
          revert x4
          unfold xAtm at hat
          cases hf : xx.fld with
          | none => exact fun q => q
          | some nd =>
            obtain ⟨nm, d⟩ := nd
            rw [hf] at hat
            cases hat
        · exact fun q => q.elim
      | ok w =>
        obtain ⟨rv, sl'⟩ := w
        cases rv with
        | new o => exact fun q => q.elim
        | bor i => exact fun q => q.elim
        | frz d =>
          simp only [pOut]
          split
          · rename_i hat
            intro q v F' H' x2 y2 vr
            obtain ⟨x3, y3⟩ := view_back y x2
            exact q v F1 H' (x.trans x3) y3 (Rp.atom (show Rp X.K F' v d from vr) hat)
          · exact fun q => q.elim
end
/-! equations -/
@[simp] theorem fBad_eq (e : Env) : fBad e = .bad := rfl
@[simp] theorem sBad_eq (e : Env) : sBad e = .bad := rfl
def cPK (m : Fn) (a : List Arg × Env) : Out (Val × Env) := callP m a.1 a.2
@[simp] theorem cPK_eq (m : Fn) (as : List Arg) (e : Env) : cPK m (as, e) = callP m as e := rfl
@[simp] theorem fCallP_eq (m : Fn) (fs : Env → Out (List Arg × Env)) (e : Env) : fCallP m [] fs e = (fs e).bind (cPK m) := by
  unfold fCallP
  simp only [List.map_nil, List.append_nil]
  rfl
theorem callP_ok {m : Fn} {as : List Arg} {e : Env} {ds : List D} {d : D} {sl : List Slot} (h1 : viewOf e as = some ds) (h2 : m (ds.map .frz) = .ok (.frz d, sl)) (h3 : atmD d = true) : callP m as e = .ok (.frz d, e) := by
  unfold callP
  rw [h1]
  simp only [h2, pOut, h3, if_true]
/-! stores into dicts -/
def setKB (i : Nat) (d : D) (y : Val) (e2 : Env) : Out (Fl × Env) := match y, e2[i]? with
  | .frz y, some (.own (.dic kvs)) => (match keyOf y with
    | some k => if kvs.length < sizeLine then .ok (.nx, e2.set i (.own (.dic (putD kvs k d)))) else .bad
    | none => .bad)
  | _, _ => .bad
def setKA (i : Nat) (fi : Env → Out (Val × Env)) (d : D) (e1 : Env) : Out (Fl × Env) := match e1[i]? with
  | some (.own (.dic _)) => sE e1 (fz fi e1) (setKB i d)
  | _ => .bad
@[simp] theorem setKB_eq (i : Nat) (d y : D) (e2 : Env) : setKB i d (.frz y) e2 = match e2[i]? with
  | some (.own (.dic kvs)) => (match keyOf y with
    | some k => if kvs.length < sizeLine then .ok (.nx, e2.set i (.own (.dic (putD kvs k d)))) else .bad
    | none => .bad)
  | _ => .bad := by
  unfold setKB
  cases e2[i]? with
  | none => rfl
  | some s => cases s with
    | own o => cases o <;> rfl
    | _ => rfl
@[simp] theorem setKA_eq (i : Nat) (fi : Env → Out (Val × Env)) (d : D) (e1 : Env) : setKA i fi d e1 = match e1[i]? with
  | some (.own (.dic _)) => sE e1 (fz fi e1) (setKB i d)
  | _ => .bad := rfl
@[simp] theorem sSetK_eq (i : Nat) (fv fi : Env → Out (Val × Env)) (e : Env) : sSetK i fv fi e = sE e ((fz fv e).bind asD) (setKA i fi) := rfl
@[simp] theorem keyOf_int (i : Int) : keyOf (.int i) = some (.inl i) := rfl
@[simp] theorem keyOf_str (i : Str) : keyOf (.str i) = some (.inr i) := rfl
def augMK (k i : Nat) (a : Int) (v : Val) (e1 : Env) : Out (Fl × Env) := match v with
  | .frz (.int b) => if asgOk k e1 i = true ∧ fitM a b then .ok (.nx, e1.set i (.frz (.int (a * b)))) else .bad
  | _ => .bad
@[simp] theorem augMK_eq (k i : Nat) (a b : Int) (e1 : Env) : augMK k i a (.frz (.int b)) e1 = if asgOk k e1 i = true ∧ fitM a b then .ok (.nx, e1.set i (.frz (.int (a * b)))) else .bad := rfl
@[simp] theorem sAugM_eq (k i : Nat) (f : Env → Out (Val × Env)) (e : Env) : sAugM k i f e = match e[i]? with
  | some (.frz (.int a)) => sE e (fz f e) (augMK k i a)
  | _ => .bad := rfl
end BV
/-! return x, x an own local: the caller's own from then on -/
namespace BV
open PySem PySem.Spec PyProof.Rows L2
def retBK (k : Nat) (v : Val) (e1 : Env) : Out (Fl × Env) := match v with
  | .bor i => if i < k then .bad else .ok (.ret (.bor i), e1)
  | v => .ok (.ret v, e1)
def sRetB (k : Nat) (f : Env → Out (Val × Env)) : Env → Out (Fl × Env) := fun e => sE e (f e) (retBK k)
@[simp] theorem retBK_frz (k : Nat) (d : D) (e : Env) : retBK k (.frz d) e = .ok (.ret (.frz d), e) := rfl
@[simp] theorem retBK_new (k : Nat) (d : O) (e : Env) : retBK k (.new d) e = .ok (.ret (.new d), e) := rfl
@[simp] theorem retBK_bor (k i : Nat) (e : Env) : retBK k (.bor i) e = if i < k then .bad else .ok (.ret (.bor i), e) := rfl
@[simp] theorem sRetB_eq (k : Nat) (f : Env → Out (Val × Env)) (e : Env) : sRetB k f e = sE e (f e) (retBK k) := rfl
theorem sv_retB {X : Cx} {cm : CMap} {W : WX} {k : Nat} {pos : Pos} {a : Expr} {fa : Env → Out (Val × Env)} (h : EV X cm W a fa) : SV X cm W k (.Return (some a) pos) (sRetB k fa) := by
  obtain ⟨t, p, ev⟩ := h
  refine ⟨_, ps_ret p, fun s D z q => ?_⟩
  refine ev.stepS z q fun v val e1 F1 H1 _ x y r vr p1 => ?_
  cases val with
  | frz d => exact p1 v F1 H1 s.σ x y r vr
  | new o => exact p1 v F1 H1 s.σ x y r vr
  | bor i =>
    rw [retBK_bor] at p1
    split at p1
    · exact p1.elim
    · exact p1 v F1 H1 s.σ x y r vr
def outB (n : Nat) (sl : List Slot) (v : Val) (e : Env) : Out (Val × List Slot) := match v with
  | .bor i => if i < n then .bad else (match e[i]? with
    | some (.own o) => (match back sl e with
      | some sl' => .ok (.new o, sl')
      | none => .bad)
    | _ => .bad)
  | v => (match back sl e with
    | some sl' => .ok (v, sl')
    | none => .bad)
def runFB (n N : Nat) (f : Env → Out (Fl × Env)) : Fn := fun sl => match f (sl ++ List.replicate (N - n) .no) with
  | .ok (.ret v, e) => outB n sl v e
  | .ok (.nx, e) => (match back sl e with
    | some sl' => .ok (.frz .none, sl')
    | none => .bad)
  | .exc x e => (match back sl e with
    | some sl' => .exc x sl'
    | none => .bad)
  | _ => .bad
theorem runFB_own {n N i : Nat} {f : Env → Out (Fl × Env)} {sl sl' : List Slot} {e' : Env} {o : O} (h : f (sl ++ List.replicate (N - n) .no) = .ok (.ret (.bor i), e')) (hi : n ≤ i) (ho : e'[i]? = some (.own o)) (hb : back sl e' = some sl') : runFB n N f sl = .ok (.new o, sl') := by
  unfold runFB
  rw [h]
  simp only [outB, ho, hb]
  rw [if_neg (by omega)]
theorem own_new {K : PySem.W.Frag} {F H F' H' : Hp} {vs : List V} {sl sl' : List Slot} {m n i : Nat} {σ' : L2.St} {e' : Env} {o : O} {v : V} (hn : vs.length = n) (z : St K ⟨F, H, vs.map some, sl⟩) (x : Stp ⟨F, H, vs.map some ++ List.replicate m none, sl ++ List.replicate m .no⟩ ⟨F', H', σ', e'⟩)
    (q : Par n ⟨F, H, vs.map some ++ List.replicate m none, sl ++ List.replicate m .no⟩ ⟨F', H', σ', e'⟩) (y : St K ⟨F', H', σ', e'⟩) (b : BV.back sl e' = some sl') (hi : n ≤ i) (ho : e'[i]? = some (.own o)) (hv : σ'[i]? = some (some v)) :
    VRep K ⟨F, H, vs.map some, sl⟩ ⟨F', H', vs.map some, sl'⟩ v (.new o) := by
  have zl : sl.length = vs.length := by
    have := z.len
    simpa using this
  obtain ⟨p, h1, h3⟩ := y.own i o ho
  have h1 : σ'[i]? = some (some (V.ref p)) := h1
  rw [hv] at h1
  cases h1
  have lt : ∀ {j : Nat} {x : Slot}, sl[j]? = some x → j < n := fun h => by
    have := (List.getElem?_eq_some_iff.mp h).1
    omega
  refine ⟨p, rfl, h3, fun a ha => ⟨?_, ?_⟩⟩
  · exact ((x.own a ⟨i, o, p, ho, hv, ha⟩).symm).imp id (OwnA.begin zl)
  · rintro ⟨j, oo, p', g1, g2, g3⟩
    have g2 : (vs.map some)[j]? = some (some (V.ref p')) := g2
    rcases back_get b g1 with ⟨d, _, g⟩ | ⟨o0, o1, k1, k2, k3⟩
    · cases g
    · cases k3
      have es := end_slot zl hn q k1
      have := lt k1
      exact y.apart i j o oo p p' ho k2 hv (es.trans g2) (by omega) a ha g3
theorem fn_dataB {P : Program} {w : World} {K : PySem.W.Frag} {mg : Str → Option Value} {base : Heap} {k : Nat} {x qual : Str} {st : Stmt} {f : Addr} {fd : FuncData} {N ps : List Str} {cm : CMap} {fs : Env → Out (Fl × Env)}
    (Dd : FunA K x qual st f fd) (S : FnScope N ps (defScope st)) (hle : ps.length ≤ N.length)
    (hb : ∀ (cdv : Value) (A : Around) (outer : List PySem.Env) (s : Shared) (H : Hp) (E : XK), A.guards = some [] → Room k (A.deeper (envOfC qual (defScope st) s.heap.objs.size f cdv)) →
      SVs (cxOf (CX P w) P w K mg base N qual (defScope st) f cdv A outer s H E) cm (fun C oe _ H' => E C oe H') ps.length (defBody st) fs) :
    FnG P w K mg base (CX P w) (k + 1) f fd ps (spB ps.length K cm (runFB ps.length N.length fs)) := by
  refine body_ofA Dd S (fun vs H Q E h => h.1) fun cdv A outer s H vs Q E hg hr h => ?_
  obtain ⟨hn, F, sl, z, p⟩ := h
  obtain ⟨t, pt, sv⟩ := hb cdv A outer s H E hg hr
  refine ⟨t, pt, ?_⟩
  have e : L2.start N vs = vs.map some ++ List.replicate (N.length - ps.length) none := by
    unfold L2.start
    rw [hn]
  rw [e]
  refine sv ⟨F, H, _, sl ++ List.replicate (N.length - ps.length) Slot.no⟩ _ (St.begin (K := K) (m := N.length - ps.length) z) ?_
  revert p
  unfold runFB
  simp only
  cases hf : fs (sl ++ List.replicate (N.length - ps.length) .no) with
  | bad => exact fun p => p
  | exc xx e' =>
    dsimp only
    cases b : back sl e' with
    | none => exact fun p => False.elim p
    | some sl' =>
      intro p C oe F' H' σ' x y xr q
      obtain ⟨x', y'⟩ := St.ended hn z x q y b
      exact p C oe F' H' x' y' xr
  | ok a =>
    obtain ⟨fl, e'⟩ := a
    cases fl with
    | brk => exact fun p => False.elim p
    | cont => exact fun p => False.elim p
    | nx =>
      dsimp only
      cases b : back sl e' with
      | none => exact fun p => False.elim p
      | some sl' =>
        intro p F' H' σ' x q y
        obtain ⟨x', y'⟩ := St.ended hn z x q y b
        exact p .non F' H' x' y' .non
    | ret v =>
      dsimp only [outB]
      cases v with
      | frz d =>
        dsimp only
        cases b : back sl e' with
        | none => exact fun p => False.elim p
        | some sl' =>
          intro p v F' H' σ' x q y r
          obtain ⟨x', y'⟩ := St.ended hn z x q y b
          exact p v F' H' x' y' (VRep.ended hn z q b (fun _ h => by cases h) r)
      | new o =>
        dsimp only
        cases b : back sl e' with
        | none => exact fun p => False.elim p
        | some sl' =>
          intro p v F' H' σ' x q y r
          obtain ⟨x', y'⟩ := St.ended hn z x q y b
          exact p v F' H' x' y' (VRep.ended hn z q b (fun _ h => by cases h) r)
      | bor i =>
        dsimp only
        split
        · exact fun p => False.elim p
        · rename_i hi
          cases ho : e'[i]? with
          | none => exact fun p => False.elim p
          | some so =>
            cases so with
            | own o =>
              dsimp only
              cases b : back sl e' with
              | none => exact fun p => False.elim p
              | some sl' =>
                intro p v F' H' σ' x q y r
                obtain ⟨x', y'⟩ := St.ended hn z x q y b
                obtain ⟨hv, _⟩ := r
                exact p v F' H' x' y' (own_new hn z x q y b (by omega) ho hv)
            | no => exact fun p => False.elim p
            | frz d => exact fun p => False.elim p
            | fn x => exact fun p => False.elim p
/-! a comprehension's name that is a local of the def, too: what that local holds is forgotten -/
def fForget (vs : List Nat) (f : Env → Out (Val × Env)) : Env → Out (Val × Env) := fun e => f (wipeE e vs)
theorem forget_st {K : PySem.W.Frag} {F H : Hp} {σ : L2.St} {e : Env} (vs : List Nat) (z : St K ⟨F, H, σ, e⟩) : St K ⟨F, H, σ, wipeE e vs⟩ := by
  have hl : ∀ vs : List Nat, (wipeE e vs).length = e.length := by
    intro vs
    induction vs with
    | nil => rfl
    | cons v vs ih =>
      unfold wipeE
      rw [List.length_set, ih]
  exact z.wipeE vs
theorem forget_stp {F H : Hp} {σ : L2.St} {e : Env} (vs : List Nat) : Stp ⟨F, H, σ, e⟩ ⟨F, H, σ, wipeE e vs⟩ :=
  ⟨Ex.refl _, fun _ _ h => .inl h, fun _ _ h _ => h, fun a h => .inl h.wipeE, fun _ o h => ⟨o, h⟩⟩
theorem EVt.forget {c : Cf} {t : TE} {f : Env → Out (Val × Env)} (vs : List Nat) (h : EVt c t f) : EVt c t (fForget vs f) := fun s Q z p =>
  h ⟨s.F, s.H, s.σ, wipeE s.e vs⟩ Q (forget_st vs z) (Post.later (forget_stp vs) rfl p)
theorem ev_forget {X : Cx} {cm : CMap} {W : WX} {a : Expr} {fa : Env → Out (Val × Env)} (vs : List Nat) (h : EV X cm W a fa) : EV X cm W a (fForget vs fa) := by
  obtain ⟨t, p, e⟩ := h
  exact ⟨t, p, e.forget vs⟩
@[simp] theorem fForget_eq (vs : List Nat) (f : Env → Out (Val × Env)) (e : Env) : fForget vs f e = f (wipeE e vs) := rfl
section
variable {X : Cx} {cm : CMap} {W : WX} {k : Nat} {pos : Pos} {tg iter elt : Expr} {ifs : List Expr} {scope : Scope} {own : List (Str × Nat)} {g : TG} {t : Tg} {fi : Env → Out (List D × Env)} {gc : Env → Out (Bool × Env)} {fe : Env → Out (Val × Env)}
/-- x = [..], data from the start -/
theorem sv_setLcF {w : Bool} {y : Str} {py : Pos} {spos : Pos} (i : Nat) (hc : X.calm = true) (hN : X.N.Nodup) (hi : PV w X cm W tg iter fi) (ok : BlkOk X.N X.env.scope scope own)
    (hg : ∀ (s : Shared) (H : Hp) (C : Addr) (cl : List (Str × Addr)) (fp : List Addr), PG (Cx.blk X s H scope (compEnvC scope cl C X.env) fp) tg g) (ht : PGt w (cf X cm W) 0 g t) (hv : ∀ i ∈ t.is, i ∈ own.map (·.2))
    (hts : ∀ (s : Shared) (H : Hp) (C : Addr) (cl : List (Str × Addr)) (fp : List Addr), ETs (Cx.blk X s H scope (compEnvC scope cl C X.env) fp) cm wNo ifs gc)
    (he : ∀ (s : Shared) (H : Hp) (C : Addr) (cl : List (Str × Addr)) (fp : List Addr), EV (Cx.blk X s H scope (compEnvC scope cl C X.env) fp) cm wNo elt fe)
    (hy : X.N[i]? = some y := by rfl) (hyl : X.env.scope.names.lookup y = some .local := by rfl)
    (hsw : swapsWith (.ListComp elt [⟨tg, iter, ifs, 0⟩] scope pos) (some (.Name y py)) spos.line X.env = pure true := by exact sw_true rfl rfl rfl (by decide +kernel))
    (hs : ∀ x, foldedSetIterable iter X.env x = pure x := by intro _; rfl) : SV X cm W k (.Assign [.Name y py] (.ListComp elt [⟨tg, iter, ifs, 0⟩] scope pos) spos) (sSet k i (fz (fLc fi t gc fe (own.map (·.2))))) := by
  obtain ⟨wi, pi, ei⟩ := hi
  have hez : ∀ (s : Shared) (H : Hp) (C : Addr) (cl : List (Str × Addr)) (fp : List Addr), EV (Cx.blk X s H scope (compEnvC scope cl C X.env) fp) cm wNo elt (fz fe) := fun s H C cl fp => by
    obtain ⟨t, p, e⟩ := he s H C cl fp
    exact ⟨t, p, e.fz⟩
  exact ⟨_, ps_setLc hc hN hy hyl hsw pi ok hg (fun s H C cl fp => (hts s H C cl fp).can) (fun s H C cl fp => (hez s H C cl fp).can) hs, SVt.set (EVt.fz (EVt.lc (c := cf X cm W) (cm := cm) ei ht hv))⟩
theorem sv_setLcW {w : Bool} (ws : List Nat) {y : Str} {py : Pos} {spos : Pos} (i : Nat) (hc : X.calm = true) (hN : X.N.Nodup) (hi : PV w X cm W tg iter fi) (ok : BlkOk X.N X.env.scope scope own)
    (hg : ∀ (s : Shared) (H : Hp) (C : Addr) (cl : List (Str × Addr)) (fp : List Addr), PG (Cx.blk X s H scope (compEnvC scope cl C X.env) fp) tg g) (ht : PGt w (cf X cm W) 0 g t) (hv : ∀ i ∈ t.is, i ∈ own.map (·.2))
    (hts : ∀ (s : Shared) (H : Hp) (C : Addr) (cl : List (Str × Addr)) (fp : List Addr), ETs (Cx.blk X s H scope (compEnvC scope cl C X.env) fp) cm wNo ifs gc)
    (he : ∀ (s : Shared) (H : Hp) (C : Addr) (cl : List (Str × Addr)) (fp : List Addr), EV (Cx.blk X s H scope (compEnvC scope cl C X.env) fp) cm wNo elt fe)
    (hy : X.N[i]? = some y := by rfl) (hyl : X.env.scope.names.lookup y = some .local := by rfl)
    (hsw : swapsWith (.ListComp elt [⟨tg, iter, ifs, 0⟩] scope pos) (some (.Name y py)) spos.line X.env = pure true := by exact sw_true rfl rfl rfl (by decide +kernel))
    (hs : ∀ x, foldedSetIterable iter X.env x = pure x := by intro _; rfl) : SV X cm W k (.Assign [.Name y py] (.ListComp elt [⟨tg, iter, ifs, 0⟩] scope pos) spos) (sSet k i (fForget ws (fLc fi t gc fe (own.map (·.2))))) := by
  obtain ⟨wi, pi, ei⟩ := hi
  have hez : ∀ (s : Shared) (H : Hp) (C : Addr) (cl : List (Str × Addr)) (fp : List Addr), EV (Cx.blk X s H scope (compEnvC scope cl C X.env) fp) cm wNo elt (fz fe) := fun s H C cl fp => by
    obtain ⟨t, p, e⟩ := he s H C cl fp
    exact ⟨t, p, e.fz⟩
  exact ⟨_, ps_setLc hc hN hy hyl hsw pi ok hg (fun s H C cl fp => (hts s H C cl fp).can) (fun s H C cl fp => (hez s H C cl fp).can) hs, SVt.set (EVt.forget ws (EVt.lc (c := cf X cm W) (cm := cm) ei ht hv))⟩
theorem sv_setLcFW {w : Bool} (ws : List Nat) {y : Str} {py : Pos} {spos : Pos} (i : Nat) (hc : X.calm = true) (hN : X.N.Nodup) (hi : PV w X cm W tg iter fi) (ok : BlkOk X.N X.env.scope scope own)
    (hg : ∀ (s : Shared) (H : Hp) (C : Addr) (cl : List (Str × Addr)) (fp : List Addr), PG (Cx.blk X s H scope (compEnvC scope cl C X.env) fp) tg g) (ht : PGt w (cf X cm W) 0 g t) (hv : ∀ i ∈ t.is, i ∈ own.map (·.2))
    (hts : ∀ (s : Shared) (H : Hp) (C : Addr) (cl : List (Str × Addr)) (fp : List Addr), ETs (Cx.blk X s H scope (compEnvC scope cl C X.env) fp) cm wNo ifs gc)
    (he : ∀ (s : Shared) (H : Hp) (C : Addr) (cl : List (Str × Addr)) (fp : List Addr), EV (Cx.blk X s H scope (compEnvC scope cl C X.env) fp) cm wNo elt fe)
    (hy : X.N[i]? = some y := by rfl) (hyl : X.env.scope.names.lookup y = some .local := by rfl)
    (hsw : swapsWith (.ListComp elt [⟨tg, iter, ifs, 0⟩] scope pos) (some (.Name y py)) spos.line X.env = pure true := by exact sw_true rfl rfl rfl (by decide +kernel))
    (hs : ∀ x, foldedSetIterable iter X.env x = pure x := by intro _; rfl) : SV X cm W k (.Assign [.Name y py] (.ListComp elt [⟨tg, iter, ifs, 0⟩] scope pos) spos) (sSet k i (fz (fForget ws (fLc fi t gc fe (own.map (·.2)))))) := by
  obtain ⟨wi, pi, ei⟩ := hi
  have hez : ∀ (s : Shared) (H : Hp) (C : Addr) (cl : List (Str × Addr)) (fp : List Addr), EV (Cx.blk X s H scope (compEnvC scope cl C X.env) fp) cm wNo elt (fz fe) := fun s H C cl fp => by
    obtain ⟨t, p, e⟩ := he s H C cl fp
    exact ⟨t, p, e.fz⟩
  exact ⟨_, ps_setLc hc hN hy hyl hsw pi ok hg (fun s H C cl fp => (hts s H C cl fp).can) (fun s H C cl fp => (hez s H C cl fp).can) hs, SVt.set (EVt.fz (EVt.forget ws (EVt.lc (c := cf X cm W) (cm := cm) ei ht hv)))⟩
end
end BV
/-! an own local put into a display: data from then on -/
namespace BV
open PySem PySem.Spec PyProof.Rows L2
def fMv (i : Nat) : Env → Out (Val × Env) := fun e => match e[i]? with
  | some (.own o) => match o.dq with
    | some d => .ok (.frz d, e.set i (.frz d))
    | none => .bad
  | _ => .bad
@[simp] theorem fMv_eq (i : Nat) (e : Env) : fMv i e = match e[i]? with
  | some (.own o) => match o.dq with
    | some d => .ok (.frz d, e.set i (.frz d))
    | none => .bad
  | _ => .bad := rfl
theorem ev_mv {X : Cx} {cm : CMap} {W : WX} {pos : Pos} {x : Str} (i : Nat) (hN : X.N[i]? = some x := by rfl) (hv : Vis X.env.scope x := by first | exact Or.inl rfl | exact Or.inr (Or.inl rfl) | exact Or.inr (Or.inr rfl))
    (hd : (x == ("__debug__" : Str)) = false := by decide) (hcd : (x == ("__classdict__" : Str)) = false := by decide) : EV X cm W (.Name x pos) (fMv i) := by
  refine ⟨_, pe_var hN hv hd hcd, fun s Q z p => ?_⟩
  unfold fMv at p
  split at p
  · rename_i o g
    obtain ⟨F, H, σ, e⟩ := s
    cases hq : o.dq with
    | none =>
      rw [hq] at p
      exact p.elim
    | some d =>
    rw [hq] at p
    obtain ⟨pp, h1, hf, y', ru⟩ := St.moves z g hq
    exact ⟨.ref pp, h1, p (.ref pp) _ H (Stp.moves (Stp.refl _) g h1 hf) y' ru⟩
  · exact p.elim
/-! statements in which an own local is put into a display -/
def sEK {α β : Type} (k : Nat) (e : Env) (o : Out (α × Env)) (h : α → Env → Out β) : Out β := match o with
  | .ok (a, e1) => if keepsK k e e1 = true then h a e1 else .bad
  | .exc x e1 => if keepsK k e e1 = true then .exc x e1 else .bad
  | .bad => .bad
@[simp] theorem sEK_ok {α β : Type} (k : Nat) (e e1 : Env) (a : α) (h : α → Env → Out β) : sEK k e (.ok (a, e1)) h = if keepsK k e e1 = true then h a e1 else .bad := rfl
theorem EVt.stepSK {c : Cf} {k : Nat} {t : TE} {f : Env → Out (Val × Env)} {g : Val → Env → Out (Fl × Env)} {s : Sta} {D : Ends} {R : V → Hp → Prop} (h : EVt c t f) (z : St c.K s) (p : SPost c k s D (sEK k s.e (f s.e) g))
    (hk : ∀ v val e1 F1 H1, f s.e = .ok (val, e1) → Stp s ⟨F1, H1, s.σ, e1⟩ → Par k s ⟨F1, H1, s.σ, e1⟩ → St c.K ⟨F1, H1, s.σ, e1⟩ → VRep c.K s ⟨F1, H1, s.σ, e1⟩ v val → SPost c k s D (g val e1) → R v H1) : t s.σ s.H R := by
  refine h s R z ?_
  revert p
  unfold sEK
  cases q : f s.e with
  | bad => exact fun p => p
  | exc xx e1 =>
    simp only
    split
    · rename_i kb
      intro p C oe F' H' x y xr
      exact p C oe F' H' s.σ x y xr (Par.ofK kb)
    · exact fun p => p.elim
  | ok a =>
    obtain ⟨val, e1⟩ := a
    simp only
    split
    · rename_i kb
      intro p v F1 H1 x y r
      exact hk v val e1 F1 H1 q x (Par.ofK kb) y r p
    · exact fun p => p.elim
def sRetM (k : Nat) (f : Env → Out (Val × Env)) : Env → Out (Fl × Env) := fun e => sEK k e (f e) (retK k)
@[simp] theorem sRetM_eq (k : Nat) (f : Env → Out (Val × Env)) (e : Env) : sRetM k f e = sEK k e (f e) (retK k) := rfl
theorem sv_retM {X : Cx} {cm : CMap} {W : WX} {k : Nat} {pos : Pos} {a : Expr} {fa : Env → Out (Val × Env)} (h : EV X cm W a fa) : SV X cm W k (.Return (some a) pos) (sRetM k fa) := by
  obtain ⟨t, p, ev⟩ := h
  refine ⟨_, ps_ret p, fun s D z q => ?_⟩
  refine ev.stepSK z q fun v val e1 F1 H1 _ x y r vr p1 => ?_
  cases val with
  | frz d => exact p1 v F1 H1 s.σ x y r vr
  | new o => exact p1 v F1 H1 s.σ x y r vr
  | bor i =>
    rw [retK_bor] at p1
    split at p1
    · exact p1.elim
    · rename_i hi
      split at p1
      · rename_i o g
        cases hq : o.dq with
        | none =>
          rw [hq] at p1
          exact p1.elim
        | some d =>
        rw [hq] at p1
        obtain ⟨pp, h1, hf, y', ru⟩ := St.moves r g hq
        obtain ⟨w1, _⟩ := vr
        have w1 : s.σ[i]? = some (some v) := w1
        rw [h1] at w1
        cases w1
        exact p1 (.ref pp) _ H1 s.σ (Stp.moves x g h1 hf) (y.trans (Par.move hi)) y' ru
      · exact p1.elim
end BV
/-! try: .. except X as e: .. , the caught exception kept as a slot's tag -/
namespace BV
open PySem PySem.Spec PyProof.Rows L2
/-- the state without the exception, and the exception's object beside it -/
theorem landedK {X : Cx} {pins : List (Addr × Obj)} {σ : L2.St} {H : Hp} {sI s' : Shared} {B : Heap} {a C : Addr} {d : Option Addr} (I : L2.Inv X pins σ H sI) (nb : ∀ b o, sI.heap.get? b = some o → b ∉ frs X.stack → B.get? b = some o) (st : B.StaysIn s'.heap) (up : sI.heap.UpToSlots s'.heap) (os : s'.os = sI.os) (ag : AllBare s'.gens)
    (hn : sI.heap.get? a = none) (na : H a = none) (ha : ∃ oe : Obj, s'.heap.get? a = some oe ∧ oe.cls = .ref C ∧ oe.dict = d ∧ ∃ vs, oe.data = .fields vs) : L2.Inv X pins σ (upd H a (excK a C d)) s' := by
  have nf : ∀ b ∈ frs X.stack, ∀ o, sI.heap.get? b = some o → ∃ sl, s'.heap.get? b = some { o with slots := sl } := fun b hb o e => by
    obtain ⟨_, o', e', hd⟩ := I.stack.mem hb
    rw [e] at e'
    cases e'
    exact up b o e hd
  have ne : ∀ {b : Addr} {o : Obj}, sI.heap.get? b = some o → b ≠ a := fun {b o} e z => by
    rw [z, hn] at e
    cases e
  have nh : ∀ {b : Addr} {u : HO}, H b = some u → b ≠ a := fun {b u} e z => by
    rw [z, na] at e
    cases e
  have hok : HOk X.prog X.w (upd H a (excK a C d)) s'.heap := fun b u q => by
    by_cases hb : b = a
    · subst hb
      rw [upd_same] at q
      cases q
      obtain ⟨oe, h1, h2, h3, h4⟩ := ha
      refine ⟨⟨oe, h1, h2, h3, h4⟩, ⟨oe, h1⟩, fun h1' h2' z k => ?_⟩
      obtain ⟨o2, k1, k2⟩ := z
      exact ⟨o2, k _ k1, k2⟩
    · rw [upd_ne hb] at q
      exact (((I.inGround nb).kept st) b u q).stay (fun c v _ z => z) (fun c hc => by rw [upd_ne (nh hc)]; exact hc) fun c xs hc => by rw [upd_ne (nh hc)]; exact hc
  have J := I.call (ch := []) (h' := s'.heap) (g' := s'.gens) (t' := s'.toks) (d' := s'.drawn) (H' := upd H a (excK a C d))
    ⟨fun b o e _ hb _ => st b o (nb b o e hb), fun b o e _ hb _ => nf b hb o e, fun b o e n _ => by rw [upd_ne (ne e)]; exact n, fun b o e _ => by
      by_cases hb : b ∈ frs X.stack
      · obtain ⟨sl, q⟩ := nf b hb o e
        exact ⟨_, q⟩
      · exact ⟨o, st b o (nb b o e hb)⟩, fun b xs e => by rw [upd_ne (nh e)]; exact e, fun b o v e => by rw [upd_ne (nh e)]; exact e, fun b ps e => ⟨#[], by rw [upd_ne (nh e), e]; simp⟩⟩
    hok ag (fun _ z => nomatch z)
  obtain ⟨a1, a2, a3, a4, a5⟩ := s'
  have e5 : a5 = sI.os := os
  subst e5
  exact J
/-- the slot of a clause's name -/
def putS (i : Option Nat) (a : Addr) (σ : L2.St) : L2.St := match i with
  | none => σ
  | some i => σ.set i (some (.ref a))
def clrS (i : Option Nat) (σ : L2.St) : L2.St := match i with
  | none => σ
  | some i => σ.set i none
def clrD (i : Option Nat) (D : Ends) : Ends := { nx := fun σ H => D.nx (clrS i σ) H, rt := D.rt, bk := fun σ H => D.bk (clrS i σ) H, ct := fun σ H => D.ct (clrS i σ) H }
/-- what the clauses wish of an exception of the body -/
def wK (K : PySem.W.Frag) (Wout : WX) (D : Ends) : List (Value × Option Nat × TS) → WX
  | [] => Wout
  | (c, i, ts) :: r => fun cls d σ H => ∃ b, PySem.W.exmOne K cls c = some b ∧ (b = true → ∃ C, cls = .ref C ∧ ∀ a, H a = none → ts (clrD i D) (putS i a σ) (upd H a (excK a C d))) ∧ (b = false → wK K Wout D r cls d σ H)
/-- a suite's context: the exception stands in the heap -/
abbrev suK (X : Cx) (a : Addr) (pn : List (Addr × Obj)) : Cx := X.suite a pn
inductive HdsK (X : Cx) : List ExceptHandler → List (Value × Option Nat × TS) → Prop
  | nil : HdsK X [] []
  | as {x n : Str} {i : Nat} {c : Value} {ts : TS} {b₀ : Stmt} {suite : List Stmt} {np pos' : Pos} {hds : List ExceptHandler} {l : List (Value × Option Nat × TS)} (hc : Names X x c) (hN : X.N.Nodup) (hi : X.N[i]? = some n) (hln : X.env.kindOf n = some .local)
      (hsu : ∀ (a : Addr) (pn : List (Addr × Obj)), PSs (suK X a pn) (b₀ :: suite) ts) (r : HdsK X hds l) : HdsK X (.ExceptHandler (some (.Name x np)) (some n) (b₀ :: suite) pos' :: hds) ((c, some i, ts) :: l)
  | only {x : Str} {c : Value} {ts : TS} {b₀ : Stmt} {suite : List Stmt} {np pos' : Pos} {hds : List ExceptHandler} {l : List (Value × Option Nat × TS)} (hc : Names X x c)
      (hsu : ∀ (a : Addr) (pn : List (Addr × Obj)), PSs (suK X a pn) (b₀ :: suite) ts) (r : HdsK X hds l) : HdsK X (.ExceptHandler (some (.Name x np)) none (b₀ :: suite) pos' :: hds) ((c, none, ts) :: l)
section
variable {X : Cx} {body : List Stmt} {h₀ : ExceptHandler} {hds : List ExceptHandler} {l : List (Value × Option Nat × TS)} {pos : Pos} {tb : WX → TS} {Wout : WX}
theorem invSuite {pins : List (Addr × Obj)} {σ : L2.St} {H : Hp} {s : Shared} (I : L2.Inv X pins σ H s) (a : Addr) : L2.Inv (suK X a (X.pn ++ pins)) [] σ H s :=
  ⟨I.ok.suite _ _, I.os, I.bare, I.base, I.loc, I.cell, I.free, I.freeC, fun p hp => I.pin p (by rw [List.append_nil] at hp; exact hp), I.hok, I.len⟩
theorem invUnsuite {pins pn' : List (Addr × Obj)} {σ : L2.St} {H : Hp} {s : Shared} {a : Addr} (I : L2.Inv (suK X a (X.pn ++ pins)) pn' σ H s) (ok : X.Ok) : L2.Inv X pins σ H s :=
  ⟨ok, I.os, I.bare, I.base, I.loc, I.cell, I.free, I.freeC, fun p hp => I.pin p (List.mem_append_left _ hp), I.hok, I.len⟩
theorem ps_tryK (hs : X.stack = X.env :: X.outer) (hf : X.env.frame = some X.env.locals) (tk : Takes X Wout)
    (hb : ∀ (W : WX) (pn : List (Addr × Obj)) (xe : Value → Shared → Prop), Takes (X.tr pn xe) W → PassesOwn (model X.prog X.w) X.A X.env xe → PSs (X.tr pn xe) body (tb W))
    (hh : HdsK X (h₀ :: hds) l) : PS X (.Try body (h₀ :: hds) [] [] pos) (fun D σ H => tb (wK X.K Wout D l) D σ H) := by
  refine ⟨fun pins s σ H D I h => ?_⟩
  have ok := I.ok
  have hfr : X.A.frames = some (X.env :: X.outer) := by rw [ok.frames, hs]
  refine wpAny_Try_except ?_
  refine wpAny_mono ((hb (wK X.K Wout D l) (X.pn ++ pins) (fun e s₁ => wpAny (model X.prog X.w) X.A (noteFrame e X.env) (fun _ s₂ => wpAny (model X.prog X.w) X.A (setFlight e none) (fun _ s₃ =>
    wpAny (model X.prog X.w) X.A (handleBy e X.env (h₀ :: hds)) (SP X pins D) X.xe s₃) X.xe s₂) X.xe s₁) (fun u s' xx => ?_) PassesOwn.looking).run [] s σ H D (I.toTry _) h) (fun f s1 hsp => ?_) (fun e s1 he => he)
  · obtain ⟨a, B, sI, pins', σ', H', cls, d, rfl, J', nb, up, sky, na, os, ag, w⟩ := xx
    have J : L2.Inv X pins σ' H' sI := J'.ofTry ok
    have sky' : Sky B (X.env :: X.outer) a (Zc cls d) X.env.locals s'.heap := by rw [← hs]; exact sky
    show wpAny (model X.prog X.w) X.A (noteFrame (.ref a) X.env) _ _ _
    refine Sky.land Zc.steady hfr hf sky' fun h3 fl3 up3 => ?_
    have J3 : L2.Inv X pins σ' H' { s' with heap := h3 } := J.landed nb fl3.1 (up.trans up3) os ag
    obtain ⟨oe3, vs3, he3, hz3, hd3⟩ := fl3.there
    have nfr : a ∉ frs (X.env :: X.outer) := fun hm => by
      obtain ⟨_, o', e', hnf⟩ := fl3.2.2.1.mem hm
      rw [he3] at e'
      cases e'
      exact hnf _ hd3
    have hsI : sI.heap.get? a = none := by
      cases q : sI.heap.get? a with
      | none => rfl
      | some o =>
        have z := nb a o q (by rw [hs]; exact nfr)
        rw [fl3.2.1] at z
        cases z
    have S3 := invSuite J3 a
    have go : ∀ {hds' : List ExceptHandler} {l' : List (Value × Option Nat × TS)}, HdsK X hds' l' → wK X.K Wout D l' cls d σ' H' →
        wpAny (model X.prog X.w) X.A (handleBy (.ref a) X.env hds') (SP X pins D) X.xe { s' with heap := h3 } := by
      have LT : PySem.W.Looks (model X.prog X.w) h3 (typeOf (.ref a)) cls := fun A Q E s k q => wpAny_typeOf_ref (k _ _ he3) (by rw [hz3.1]; exact q)
      have test : ∀ {x : Str} {c : Value} {np : Pos} {Q : Value → Shared → Prop} {E : Value → Shared → Prop}, Names X x c → Q c { s' with heap := h3 } → wpAny (model X.prog X.w) (X.A.mark (some (.ref a))) (eval (.Name x np) X.env) Q E { s' with heap := h3 } := fun {x c np Q E} hc q => by
        obtain ⟨hg, hdbg, hm | ⟨hm, hv, hnn⟩⟩ := hc
        · exact ld_glob (X := suK X a (X.pn ++ pins)) S3 hg hm q hdbg
        · exact ld_blt (X := suK X a (X.pn ++ pins)) S3 hg hm hv q hnn hdbg
      intro hds' l' hk
      induction hk with
      | nil =>
        intro w
        refine wpAny_handleBy_nil ?_
        obtain ⟨k1, k2, k3, oe, vs, T, oT, ts', he, hz, hd, h1, hr⟩ := id fl3
        unfold PySem.passOn
        refine wpAny_bind (wpAny_field he hd h1 ?_)
        rw [if_neg (show ¬ ((Value.ref T == Value.none) = true) from by simp)]
        have fin : wpAny (model X.prog X.w) X.A (setFlight (.ref a) X.env.frame) (fun _ s4 => wpAny (model X.prog X.w) X.A (throw (.ref a) : Sem Flow) (SP X pins D) X.xe s4) X.xe { s' with heap := h3 } := by
          rw [hf]
          refine HandSPX.setFlight_upZ fl3 fun h4 hh4 up4 => wpAny_throw (tk _ _ ?_)
          exact ⟨a, B, sI, pins, σ', H', cls, d, rfl, J, nb, (up.trans up3).trans up4, .inr (.inr (by rw [hs]; exact hh4)), na, os, ag, w⟩
        first
          | exact wpAny_bind (wpAny_pure (wpAny_bind fin))
          | exact wpAny_bind fin
      | @as x n i c ts b₀ suite np pos' hds2 l2 hc hN hi hln hsu r ih =>
        intro w
        obtain ⟨b, hb1, hyes, hno⟩ := w
        refine wpAny_handleBy_cons (codeAny_handlers_test ?_) (by intro q; cases q)
        have LM := PySem.W.exm_one (M := model X.prog X.w) (J3.kIn) LT hb1
        refine test hc (LM.here ?_)
        cases b with
        | true =>
          obtain ⟨C, rfl, hy⟩ := hyes rfl
          refine codeAny_handlers_suite_as ?_
          refine HandSPX.lands_againZ fl3 fun h4 fl4 up4 => ?_
          obtain ⟨oe4, vs4, he4, hz4, hd4⟩ := fl4.there
          have J4 : L2.Inv X pins σ' (upd H' a (excK a C d)) { s' with heap := h4 } := landedK (s' := { s' with heap := h4 }) J nb fl4.1 ((up.trans up3).trans up4) os ag hsI na ⟨oe4, he4, hz4.1, hz4.2, _, hd4⟩
          refine store_ok (X := suK X a (X.pn ++ pins)) (v := .ref a) (invSuite J4 a) hN hi (.inl hln) rfl (fun s5 S5 => ?_) (.inr hln)
          refine wpAny_mono ((hsu a (X.pn ++ pins)).run [] s5 _ _ _ S5 (hy a na)) (fun f s6 hsp => ?_) (fun _ _ z => False.elim z)
          have end_ : ∀ {σ6 : L2.St} {H6 : Hp} {Q : Shared → Prop}, L2.Inv (suK X a (X.pn ++ pins)) [] σ6 H6 s6 → (∀ s7, L2.Inv X pins (σ6.set i none) H6 s7 → Q s7) →
              wpAny (model X.prog X.w) X.A (do bindName X.env n .none; unbindBehindTheSuite X.env n pos') (fun _ s7 => Q s7) X.xe s6 := fun {σ6 H6 Q} S6 hq => gone_ok (invUnsuite S6 ok) hN hi hln hq
          cases f with
          | next =>
            obtain ⟨σ6, H6, S6, q6⟩ := hsp
            exact end_ S6 fun s7 J7 => ⟨_, _, J7, q6⟩
          | brk =>
            obtain ⟨σ6, H6, S6, q6⟩ := hsp
            exact end_ S6 fun s7 J7 => ⟨_, _, J7, q6⟩
          | cont =>
            obtain ⟨σ6, H6, S6, q6⟩ := hsp
            exact end_ S6 fun s7 J7 => ⟨_, _, J7, q6⟩
          | ret u =>
            obtain ⟨v6, σ6, H6, S6, r6, q6⟩ := hsp
            exact end_ S6 fun s7 J7 => ⟨_, _, _, J7, r6, q6⟩
        | false =>
          show wpAny _ X.A (handleBy (.ref a) X.env hds2) _ _ _
          exact ih (hno rfl)
      | @only x c ts b₀ suite np pos' hds2 l2 hc hsu r ih =>
        intro w
        obtain ⟨b, hb1, hyes, hno⟩ := w
        refine wpAny_handleBy_cons (codeAny_handlers_test ?_) (by intro q; cases q)
        have LM := PySem.W.exm_one (M := model X.prog X.w) (J3.kIn) LT hb1
        refine test hc (LM.here ?_)
        cases b with
        | true =>
          obtain ⟨C, rfl, hy⟩ := hyes rfl
          refine codeAny_handlers_suite ?_
          refine HandSPX.lands_againZ fl3 fun h4 fl4 up4 => ?_
          obtain ⟨oe4, vs4, he4, hz4, hd4⟩ := fl4.there
          have J4 : L2.Inv X pins σ' (upd H' a (excK a C d)) { s' with heap := h4 } := landedK (s' := { s' with heap := h4 }) J nb fl4.1 ((up.trans up3).trans up4) os ag hsI na ⟨oe4, he4, hz4.1, hz4.2, _, hd4⟩
          refine wpAny_mono ((hsu a (X.pn ++ pins)).run [] _ _ _ _ (invSuite J4 a) (hy a na)) (fun f s6 hsp => ?_) (fun _ _ z => False.elim z)
          cases f with
          | next =>
            obtain ⟨σ6, H6, S6, q6⟩ := hsp
            exact ⟨_, _, invUnsuite S6 ok, q6⟩
          | brk =>
            obtain ⟨σ6, H6, S6, q6⟩ := hsp
            exact ⟨_, _, invUnsuite S6 ok, q6⟩
          | cont =>
            obtain ⟨σ6, H6, S6, q6⟩ := hsp
            exact ⟨_, _, invUnsuite S6 ok, q6⟩
          | ret u =>
            obtain ⟨v6, σ6, H6, S6, r6, q6⟩ := hsp
            exact ⟨_, _, _, invUnsuite S6 ok, r6, q6⟩
        | false =>
          show wpAny _ X.A (handleBy (.ref a) X.env hds2) _ _ _
          exact ih (hno rfl)
    exact go hh w
  · cases f with
    | next =>
      obtain ⟨σ', H', J', q⟩ := hsp
      exact wpAny_execs_nil ⟨σ', H', J'.ofTry ok, q⟩
    | brk =>
      obtain ⟨σ', H', J', q⟩ := hsp
      exact ⟨σ', H', J'.ofTry ok, q⟩
    | cont =>
      obtain ⟨σ', H', J', q⟩ := hsp
      exact ⟨σ', H', J'.ofTry ok, q⟩
    | ret u =>
      obtain ⟨v, σ', H', J', r, q⟩ := hsp
      exact ⟨v, σ', H', J'.ofTry ok, r, q⟩
end
end BV
/-! try, raise by data -/
namespace BV
open PySem PySem.Spec PyProof.Rows L2
structure Hd where
  cl : String → Bool
  i : Option Nat
  f : Env → Out (Fl × Env)
def inE (k : Nat) (i : Option Nat) (x : Exn) (e : Env) : Option Env := match i with
  | none => some e
  | some i => if i < k then none else some (e.set i (.fn (.exn x)))
def outE (i : Option Nat) (e : Env) : Env := match i with
  | none => e
  | some i => e.set i .no
def outF (i : Option Nat) : Fl × Env → Out (Fl × Env)
  | (.ret (.bor _), _) => .bad
  | (fl, e) => .ok (fl, outE i e)
def sTryH (k : Nat) : List Hd → Exn → Env → Out (Fl × Env)
  | [], x, e => .exc x e
  | h :: r, x, e => if h.cl x.cls = true then (match inE k h.i x e with
    | some e1 => (match h.f e1 with
      | .ok a => outF h.i a
      | _ => .bad)
    | none => .bad) else sTryH k r x e
def sTry (k : Nat) (f : Env → Out (Fl × Env)) (l : List Hd) : Env → Out (Fl × Env) := fun e => match f e with
  | .exc x e1 => sTryH k l x e1
  | o => o
/-- the reading that a meaning by data has -/
def canonS (c : Cf) (k : Nat) (f : Env → Out (Fl × Env)) : TS := fun D σ H => ∃ F e, St c.K ⟨F, H, σ, e⟩ ∧ SPost c k ⟨F, H, σ, e⟩ D (f e)
theorem SVs.canon {X : Cx} {cm : CMap} {W : WX} {k : Nat} {st : List Stmt} {f : Env → Out (Fl × Env)} (h : SVs X cm W k st f) : PSs X st (canonS (cf X cm W) k f) := by
  obtain ⟨t, p, v⟩ := h.ex
  exact ⟨fun pins s σ H D I ⟨F, e, z, q⟩ => p.run pins s σ H D I (v ⟨F, H, σ, e⟩ D z q)⟩
inductive HdR (K : PySem.W.Frag) (cm : CMap) (k : Nat) : List Hd → List (Value × Option Nat × TS) → Prop
  | nil : HdR K cm k [] []
  | cons {cl : String → Bool} {i : Option Nat} {f : Env → Out (Fl × Env)} {c : Value} {l : List Hd} {l' : List (Value × Option Nat × TS)} (hk : ∀ j, i = some j → k ≤ j → True) (hcl : ∀ y C, cm y C → PySem.W.exmOne K C c = some (cl y)) (r : HdR K cm k l l') : HdR K cm k (⟨cl, i, f⟩ :: l) ((c, i, canonS ⟨K, cm, wNo⟩ k f) :: l')
inductive HdsV (X : Cx) (cm : CMap) (k : Nat) : List ExceptHandler → List Hd → Prop
  | nil : HdsV X cm k [] []
  | as {x n : Str} {i : Nat} {c : Value} {cl : String → Bool} {f : Env → Out (Fl × Env)} {b₀ : Stmt} {suite : List Stmt} {np pos' : Pos} {hds : List ExceptHandler} {l : List Hd} (hc : Names X x c) (hcl : ∀ y C, cm y C → PySem.W.exmOne X.K C c = some (cl y)) (hN : X.N.Nodup) (hi : X.N[i]? = some n) (hln : X.env.kindOf n = some .local)
      (hsu : ∀ (a : Addr) (pn : List (Addr × Obj)), SVs (suK X a pn) cm wNo k (b₀ :: suite) f) (r : HdsV X cm k hds l) : HdsV X cm k (.ExceptHandler (some (.Name x np)) (some n) (b₀ :: suite) pos' :: hds) (⟨cl, some i, f⟩ :: l)
  | only {x : Str} {c : Value} {cl : String → Bool} {f : Env → Out (Fl × Env)} {b₀ : Stmt} {suite : List Stmt} {np pos' : Pos} {hds : List ExceptHandler} {l : List Hd} (hc : Names X x c) (hcl : ∀ y C, cm y C → PySem.W.exmOne X.K C c = some (cl y))
      (hsu : ∀ (a : Addr) (pn : List (Addr × Obj)), SVs (suK X a pn) cm wNo k (b₀ :: suite) f) (r : HdsV X cm k hds l) : HdsV X cm k (.ExceptHandler (some (.Name x np)) none (b₀ :: suite) pos' :: hds) (⟨cl, none, f⟩ :: l)
theorem HdsV.k {X : Cx} {cm : CMap} {k : Nat} {hds : List ExceptHandler} {l : List Hd} (h : HdsV X cm k hds l) : ∃ l', HdsK X hds l' ∧ HdR X.K cm k l l' := by
  induction h with
  | nil => exact ⟨[], .nil, .nil⟩
  | as hc hcl hN hi hln hsu r ih =>
    obtain ⟨l', h1, h2⟩ := ih
    exact ⟨_, .as hc hN hi hln (fun a pn => (hsu a pn).canon) h1, .cons (fun _ _ _ => trivial) hcl h2⟩
  | only hc hcl hsu r ih =>
    obtain ⟨l', h1, h2⟩ := ih
    exact ⟨_, .only hc (fun a pn => (hsu a pn).canon) h1, .cons (fun _ _ _ => trivial) hcl h2⟩
section
variable {K : PySem.W.Frag} {F H : Hp} {σ : L2.St} {e : Env} {i : Option Nat} {s : Sta} {k : Nat}
theorem OwnA.clr {a : Addr} (h : OwnA ⟨F, H, clrS i σ, outE i e⟩ a) : OwnA ⟨F, H, σ, e⟩ a := by
  cases i with
  | none => exact h
  | some i =>
    obtain ⟨j, o, p, h1, h2, h3⟩ := h
    rcases set_get h1 with ⟨_, q⟩ | ⟨ne, q⟩
    · cases q
    · exact ⟨j, o, p, q, (List.getElem?_set_ne (Ne.symm ne)).symm.trans h2, h3⟩
theorem St.clr (z : St K ⟨F, H, σ, e⟩) : St K ⟨F, H, clrS i σ, outE i e⟩ := by
  cases i with
  | none => exact z
  | some i =>
    refine (z.drop (j := i)).slots (by simp [clrS]) fun j x g nx => ?_
    rcases set_get g with ⟨_, q⟩ | ⟨ne, q⟩
    · exact absurd q nx
    · exact List.getElem?_set_ne (Ne.symm ne)
theorem Stp.clr (x : Stp s ⟨F, H, σ, e⟩) : Stp s ⟨F, H, clrS i σ, outE i e⟩ := ⟨x.ff, x.fnew, x.keep, fun a h => x.own a h.clr, x.dom⟩
theorem Par.clr (hi : ∀ j, i = some j → k ≤ j) (q : Par k s ⟨F, H, σ, e⟩) : Par k s ⟨F, H, clrS i σ, outE i e⟩ := by
  cases i with
  | none => exact q
  | some i =>
    have hk := hi i rfl
    intro j o hj g
    obtain ⟨h1, o', h2⟩ := q j o hj g
    exact ⟨(List.getElem?_set_ne (by omega)).trans h1, o', (List.getElem?_set_ne (by omega)).trans h2⟩
theorem VRep.clr {s0 : Sta} {v : V} {val : Val} (nb : ∀ j, val ≠ .bor j) (r : VRep K s0 ⟨F, H, σ, e⟩ v val) : VRep K s0 ⟨F, H, clrS i σ, outE i e⟩ v val := by
  cases val with
  | frz d => exact r
  | bor j => exact absurd rfl (nb j)
  | new o =>
    obtain ⟨p, h1, h2, h3⟩ := r
    exact ⟨p, h1, h2, fun a ha => ⟨(h3 a ha).1, fun w => (h3 a ha).2 w.clr⟩⟩
end
theorem Stp.outer {s s1 s2 : Sta} (x : Stp s s1) (y : Stp s1 s2) : Stp s s2 := x.trans y
/-- what a clause's suite leaves -/
theorem outF_post {K : PySem.W.Frag} {cm : CMap} {W : WX} {k : Nat} {s s2 : Sta} {D : Ends} {i : Option Nat} (hi : ∀ j, i = some j → k ≤ j) (x : Stp s s2) (q : Par k s s2) : ∀ {a : Fl × Env}, SPost ⟨K, cm, W⟩ k s D (outF i a) → SPost ⟨K, cm, wNo⟩ k s2 (clrD i D) (.ok a)
  | (.nx, e'), p => fun F' H' σ' y r z => p F' H' (clrS i σ') (x.trans y).clr ((q.trans r).clr hi) z.clr
  | (.brk, e'), p => fun F' H' σ' y r z => p F' H' (clrS i σ') (x.trans y).clr ((q.trans r).clr hi) z.clr
  | (.cont, e'), p => fun F' H' σ' y r z => p F' H' (clrS i σ') (x.trans y).clr ((q.trans r).clr hi) z.clr
  | (.ret (.frz d), e'), p => fun v F' H' σ' y r z u => p v F' H' (clrS i σ') (x.trans y).clr ((q.trans r).clr hi) z.clr ((VRep.back (fun _ w => x.nw w) u).clr fun _ h => by cases h)
  | (.ret (.new o), e'), p => fun v F' H' σ' y r z u => p v F' H' (clrS i σ') (x.trans y).clr ((q.trans r).clr hi) z.clr ((VRep.back (fun _ w => x.nw w) u).clr fun _ h => by cases h)
  | (.ret (.bor j), e'), p => p.elim
theorem try_post {K : PySem.W.Frag} {cm : CMap} {W : WX} {k : Nat} (hcm : ∀ x C, cm x C → ∃ a, C = .ref a ∧ PySem.W.nsIn K mainGlobals x = some (some (.ref a))) {l : List Hd} {l' : List (Value × Option Nat × TS)} (r : HdR K cm k l l') {s : Sta} {D : Ends} {x : Exn} {e1 : Env}
    (p : SPost ⟨K, cm, W⟩ k s D (sTryH k l x e1)) : ∀ C oe F' H' σ', Stp s ⟨F', H', σ', e1⟩ → St K ⟨F', H', σ', e1⟩ → XR K cm x C oe ⟨F', H', σ', e1⟩ → Par k s ⟨F', H', σ', e1⟩ → wK K W D l' C oe σ' H' := by
  induction r with
  | nil => exact p
  | @cons cl i f c l l' _ hcl r ih =>
    intro C oe F' H' σ' sp z xr pr
    refine ⟨cl x.cls, hcl _ _ xr.1, fun hb => ?_, fun hb => ih (by
      have p := p
      unfold sTryH at p
      rw [if_neg (show ¬ cl x.cls = true by rw [hb]; decide)] at p
      exact p) C oe F' H' σ' sp z xr pr⟩
    obtain ⟨C0, rfl, hns⟩ := hcm _ _ xr.1
    refine ⟨C0, rfl, fun a na => ?_⟩
    unfold sTryH at p
    rw [if_pos hb] at p
    simp only at p
    have fa : F' a = none := z.fnone na
    have no : ¬ OwnA ⟨F', H', σ', e1⟩ a := z.notOwn na
    have z2 : St K ⟨upd F' a (excK a C0 oe), upd H' a (excK a C0 oe), σ', e1⟩ := (z.laid na _).freeze upd_same fa fun w => no (((z.laid2 na _).2 _).mp w)
    have x2 : Stp s ⟨upd F' a (excK a C0 oe), upd H' a (excK a C0 oe), σ', e1⟩ := Stp.freeze fa (sp.gone na) (sp.trans (Stp.laid z na _))
    have q2 : Par k s ⟨upd F' a (excK a C0 oe), upd H' a (excK a C0 oe), σ', e1⟩ := pr
    have tg : TagAt K (upd F' a (excK a C0 oe)) a (.exn x) := by
      refine ⟨C0, oe, hns, upd_same, ?_⟩
      have x3 := xr.2
      revert x3
      cases x.fld with
      | none => exact fun w => w
      | some nd =>
        obtain ⟨n, d⟩ := nd
        rintro ⟨dx, v, w1, w2, w3⟩
        exact ⟨dx, v, w1, Ex.new fa _ _ w2, w3.mono (Ex.new fa)⟩
    cases i with
    | none =>
      simp only [inE] at p
      cases hf : f e1 with
      | ok aa =>
        rw [hf] at p
        refine ⟨_, e1, z2, ?_⟩
        rw [hf]
        exact outF_post (i := none) (fun _ h => by cases h) x2 q2 p
      | exc _ _ =>
        rw [hf] at p
        exact p.elim
      | bad =>
        rw [hf] at p
        exact p.elim
    | some i =>
      simp only [inE] at p
      by_cases hk : i < k
      · rw [if_pos hk] at p
        exact p.elim
      · rw [if_neg hk] at p
        simp only at p
        cases hf : f (e1.set i (.fn (.exn x))) with
        | ok aa =>
          rw [hf] at p
          refine ⟨_, e1.set i (.fn (.exn x)), z2.putFn tg, ?_⟩
          rw [hf]
          refine outF_post (i := some i) (fun j h => by cases h; omega) (Stp.putFn x2) (fun j o hj g => ?_) p
          obtain ⟨h1, o', h2⟩ := q2 j o hj g
          exact ⟨(List.getElem?_set_ne (by omega)).trans h1, o', (List.getElem?_set_ne (by omega)).trans h2⟩
        | exc _ _ =>
          rw [hf] at p
          exact p.elim
        | bad =>
          rw [hf] at p
          exact p.elim
/-- the classes of errors that are raised -/
def errCM (K : PySem.W.Frag) (xs : List String) : CMap := fun x C => x ∈ xs ∧ ∃ a, C = .ref a ∧ PySem.W.nsIn K mainGlobals x = some (some (.ref a))
section
variable {X : Cx} {xs : List String} {W : WX} {k : Nat} {body : List Stmt} {h₀ : ExceptHandler} {hds : List ExceptHandler} {l : List Hd} {pos : Pos} {f : Env → Out (Fl × Env)}
theorem sv_try (hs : X.stack = X.env :: X.outer) (hf : X.env.frame = some X.env.locals) (tk : Takes X W)
    (hb : ∀ (W' : WX) (pn : List (Addr × Obj)) (xe : Value → Shared → Prop), Takes (X.tr pn xe) W' → PassesOwn (model X.prog X.w) X.A X.env xe → SVs (X.tr pn xe) (errCM X.K xs) W' k body f)
    (hh : HdsV X (errCM X.K xs) k (h₀ :: hds) l) : SV X (errCM X.K xs) W k (.Try body (h₀ :: hds) [] [] pos) (sTry k f l) := by
  obtain ⟨l', hk, hr⟩ := hh.k
  refine ⟨⟨_, ps_tryK (tb := fun W' => canonS ⟨X.K, errCM X.K xs, W'⟩ k f) hs hf tk (fun W' pn xe t1 t2 => (hb W' pn xe t1 t2).canon) hk, fun s D z p => ⟨s.F, s.e, z, ?_⟩⟩⟩
  unfold sTry at p
  revert p
  cases hfe : f s.e with
  | bad => exact fun p => p
  | exc x e1 =>
    intro p C oe F' H' σ' x1 z1 xr pr
    exact try_post (fun _ _ h => h.2) hr p C oe F' H' σ' x1 z1 xr pr
  | ok a =>
    obtain ⟨fl, e1⟩ := a
    cases fl with
    | nx => exact fun p => p
    | ret v => exact fun p => p
    | brk => exact fun p => p
    | cont => exact fun p => p
/-! ### raise -/
def sRaise0 (x : String) : Env → Out (Fl × Env) := fun e => .exc ⟨x, none⟩ e
def raiseK (x : String) (n : Str) (d : D) (e1 : Env) : Out (Fl × Env) := .exc ⟨x, some (n, d)⟩ e1
def sRaiseF (x : String) (n : Str) (f : Env → Out (Val × Env)) : Env → Out (Fl × Env) := fun e => sE e ((fz f e).bind asD) (raiseK x n)
/-- a class without own __init__ -/
def Mk0 (K : PySem.W.Frag) (mg : Str → Option Value) (x : Str) : Prop := ∃ C, PySem.W.nsIn K mainGlobals x = some (some (.ref C)) ∧ mg x = some (.ref C) ∧
  PySem.W.excIn K C [.type "ValueError", .type "Exception", .type "BaseException", .type "object"] "ValueError.__new__" = true ∧ PySem.W.keepIn K (.ref C) = true ∧ PySem.W.subIn K (.ref C) (.type "BaseException") = some true ∧ PySem.W.typeIn K (.ref C) = some (.type "type")
theorem sv_raise0 {y m : Str} {j : Nat} {p p2 pos' : Pos} (x : String) (hc : X.calm = true) (tk : Takes X W) (h : Mk0 X.K X.mg x) (hx : x ∈ xs) (hg : Gl X y := by rfl) (hy : y = (x : Str) := by rfl) (hdb : (y == ("__debug__" : Str)) = false := by decide) :
    SV X (errCM X.K xs) W k (.Raise (some (.Call (.Name y p) [.Constant (.str m) j p2] [] pos)) none pos') (sRaise0 x) := by
  obtain ⟨C, h1, h2, h3, h4, h5, h6⟩ := h
  subst hy
  refine ⟨⟨_, ps_raise hc tk (pmk_own PySem.F.excBase_ValueError h3 h2 h4 (raises_own h5 h6) hg hdb), fun s D z q => ?_⟩⟩
  exact q (.ref C) none s.F s.H s.σ (Stp.refl s) z ⟨⟨hx, C, rfl, h1⟩, rfl⟩ (Par.refl k s)
end
end BV
/-! raise of a class with a field; isinstance, is None, the field of a kept error -/
namespace BV
open PySem PySem.Spec PyProof.Rows L2
/-! ### the init of such a class -/
section
variable {X : Cx} {e : Expr} {es : List Expr} {ta : TA} {p1 p2 pos : Pos}
theorem pe_heinit {HN : Str} {HE : Addr} {pl : Sem Bool} (hg : Gl X HN) (hm : X.mg HN = some (.ref HE)) (r : ClX.CRead X.K HE (.type "type")) (vV : PySem.W.findCls X.K (.ref HE) (.type "type") "__init__" = some (.val (.builtin "ValueError.__init__"))) (ha : PA X (e :: es) ta)
    (hdb : (HN == ("__debug__" : Str)) = false := by decide) (hc : eval (.Call (.Attribute (.Name HN p1) "__init__" p2) (e :: es) [] pos) X.env = (do
      let ov ← eval (.Name HN p1) X.env
      standAt p2.atName
      let (f, first) ← holding [ov] (getMethod ov "__init__" pl)
      callWith pos f first (backTo pos (starEach (e :: es) X.env)) (backToKw pos (keywordEach [] X.env))) := by rfl)
    (he : starEach (e :: es) X.env = (false, eval e X.env) :: starEach es X.env := by rfl) (hpl : (backTo pos (starEach es X.env)).any (·.1) = false := by rfl) :
    PE X (.Call (.Attribute (.Name HN p1) "__init__" p2) (e :: es) [] pos) (tVeI X.K ta) := by
  refine ⟨fun pins s σ H Q I h => ?_⟩
  refine PySem.W.methodCall_KW (ld_glob I hg hm ?_ hdb) hc
  refine PySem.W.method_cls I.kIn r.ga (PySem.W.cls_value I.kIn r.rd vV (by decide +kernel) ?_)
  show wpAny _ _ (callWith pos (Value.builtin "ValueError.__init__") [] (backTo pos (starEach (e :: es) X.env)) []) _ _ _
  refine PyProof.Rows.callWith_method1 (thn (ha.run pos pins _ σ H _ (I.tok _) h) fun us s1 ⟨vs, H1, I1, r1, a, C, ws, ev, hl, T, ea, q⟩ => ?_) he hpl
  subst ev
  cases r1 with
  | @cons _ u0 _ ur ra rw' =>
    obtain rfl : u0 = Value.ref a := ra
    have hlen : ur.length ≤ sizeLine := by
      rw [← Paired.length rw', sizeLine_eq]
      omega
    exact oinit_ok T I1 ea hlen fun s' J => ⟨.non, H1, J, rfl, q⟩
end
def tInit (K : PySem.W.Frag) (n m : Str) : TS := tSeq (tDrop (tVeI K (tCons (tVar 0) (tCons (tC (.str m)) tNil)))) (tOst K n (tVar 0) (tVar 1))
def spInit (C : Addr) (n : Str) : Sp := fun vs H Q E => ∃ a y, vs = [.ref a, y] ∧ H a = some (exo a C none) ∧ ∀ dx, H dx = none → dx ≠ a → Q .non (upd (upd H dx (exd dx [(n, y)])) a (exo a C (some dx)))
theorem init_pure {K : PySem.W.Frag} {C : Addr} {n m s1 s2 : Str} {vs : List V} {H : Hp} {Q : VK} {E : XK} (T : OexC K C) (hno : PySem.W.findIn K (.ref C) n = some none) (h : spInit C n vs H Q E) : tInit K n m { nx := fun _ H' => Q .non H', rt := Q } (start [s1, s2] vs) H := by
  obtain ⟨a, y, rfl, ha, hq⟩ := h
  exact ⟨.ref a, rfl, a, C, [.str m], rfl, by simp, T, ha, y, rfl, .ref a, rfl, a, C, rfl, T, hno, Or.inl ⟨ha, hq⟩⟩
/-- a class whose __init__ puts its one field -/
def MkF (P : Program) (w : World) (K : PySem.W.Frag) (mg : Str → Option Value) (x n : Str) : Prop := ∃ (C fI : Addr) (fd : FuncData) (ps : List Str), PySem.W.nsIn K mainGlobals x = some (some (.ref C)) ∧ mg x = some (.ref C) ∧ OexC K C ∧ PySem.W.findIn K (.ref C) "__init__" = some (some (.ref fI)) ∧
  PySem.W.typeIn K (.ref fI) = some (.type "function") ∧ (∀ base : Heap, FnOk P w K mg base CX0 1 fI fd ps (spInit C n)) ∧ Binds K fd ps []
section
variable {X : Cx} {xs : List String} {W : WX} {k : Nat} {pos : Pos} {a : Expr} {fa : Env → Out (Val × Env)}
theorem sv_raiseF {y : Str} {p pos' : Pos} (x : String) (n : Str) (hc : X.calm = true) (tk : Takes X W) (h : MkF X.prog X.w X.K X.mg x n) (hr : Room 2 X.A) (hx : x ∈ xs) (ha : EV X (errCM X.K xs) W a fa) (hg : Gl X y := by rfl) (hy : y = (x : Str) := by rfl) (hdb : (y == ("__debug__" : Str)) = false := by decide)
    (he : starEach [a] X.env = (false, eval a X.env) :: starEach [] X.env := by rfl) (hpl : (backTo pos (starEach [] X.env)).any (·.1) = false := by rfl) :
    SV X (errCM X.K xs) W k (.Raise (some (.Call (.Name y p) [a] [] pos)) none pos') (sRaiseF x n fa) := by
  obtain ⟨C, fI, fd, ps, h1, h2, T, iC, tI, F1, hb⟩ := h
  subst hy
  obtain ⟨ta, pa, ea⟩ := ha
  refine ⟨⟨_, ps_raise hc tk (pmk_oex (dvs := []) (ds := []) T iC tI (F1 X.base) hr hb .nil pass0 hg h2 (pa_cons pa pa_nil he) hdb he hpl), fun s D z q => ?_⟩⟩
  refine EVt.asD ea s _ z k D (raiseK x n) q fun v d e1 F1 H1 x1 q1 y1 r p1 => ?_
  refine ⟨by simp, fun a na => ⟨a, v, rfl, upd_same, fun dx nd ne => ?_⟩⟩
  have nd1 : H1 dx = none := by
    rw [upd_ne ne] at nd
    exact nd
  refine ⟨rfl, dx, [(n, v)], upd_same, by rw [upd_ne ne, upd_same], nd1, ?_⟩
  have eq : upd (L2.del (upd (upd (upd H1 a (exo a C none)) dx (exd dx [(n, v)])) a (exo a C (some dx))) a) dx (.xd [(n, v)]) = upd H1 dx (.xd [(n, v)]) := by
    funext b
    by_cases hb : b = dx
    · rw [hb, upd_same, upd_same]
    · rw [upd_ne hb, upd_ne hb]
      by_cases hba : b = a
      · rw [hba, del_same, na]
      · rw [del_ne hba, upd_ne hba, upd_ne hb, upd_ne hba]
  show W (.ref C) (some dx) s.σ _
  rw [eq]
  have f1 := y1.fnone nd1
  exact p1 (.ref C) (some dx) (upd F1 dx (.xd [(n, v)])) (upd H1 dx (.xd [(n, v)])) s.σ (Stp.freeze f1 (x1.gone nd1) (x1.trans (Stp.laid y1 nd1 _))) ((y1.laid nd1 _).freeze upd_same f1 (fun w => y1.notOwn nd1 (((y1.laid2 nd1 _).2 _).mp w))) ⟨⟨hx, C, rfl, h1⟩, dx, v, rfl, upd_same, r.mono (Ex.new f1)⟩ q1
end
/-! ### isinstance of a kept error -/
structure ExK (K : PySem.W.Frag) (C : Addr) : Prop where
  hcl : PySem.W.isClsIn K C = true
  hga : PySem.W.findIn K (.ref C) "__getattribute__" = some (some (.builtin "BaseException.__getattribute__"))
  hgt : PySem.W.findIn K (.ref C) "__getattr__" = some none
  hsub : PySem.W.subIn K (.ref C) (.type "BaseException") = some true
  ha : PySem.W.findIn K (.ref C) "__class__" = some (some (.builtin "object.__class__"))
  hn : PySem.W.specialIn K (.builtin "object.__class__") "__get__" = some (some (.builtin "getset_descriptor.__get__"))
  htk : PySem.W.takesIn K (.builtin "object.__class__") = some true
  hm : PySem.W.mroIn K C (.type "object") = some true
  hd : PySem.W.hasDictIn K C = true
def DictOk (H : Hp) (d : Option Addr) : Prop := match d with
  | none => True
  | some dx => ∃ fs, H dx = some (.xd fs)
def rIsK (K : PySem.W.Frag) : List V → Hp → VK → Prop := fun xs H Q => ∃ (a C : Addr) (d : Option Addr) (c : V) (cv : Value) (b : Bool), xs = [.ref a, c] ∧ H a = some (excK a C d) ∧ DictOk H d ∧ ExK K C ∧ (∀ u, RelV c u → u = cv) ∧ PySem.W.kitOne K (.ref C) cv = some b ∧ Q (.bl b) H
section
variable {X : Cx}
theorem exc_inst {pins : List (Addr × Obj)} {σ : L2.St} {H : Hp} {s : Shared} {a C : Addr} {d : Option Addr} (I : L2.Inv X pins σ H s) (h : H a = some (excK a C d)) (hd : DictOk H d) : ∃ ox od, PySem.W.InstAt s.heap a ox C od ∧ ∀ dx fs, d = some dx → H dx = some (.xd fs) → ∃ o mA, od = some o ∧ s.heap.Ns1 dx mA ∧ (∀ f, RelO (fs.lookup f) (mA f)) ∧ s.heap.get? dx = some o := by
  have x : ObjOk X.prog X.w H s.heap a (.ext fun h => ∃ oe : Obj, h.get? a = some oe ∧ oe.cls = .ref C ∧ oe.dict = d ∧ ∃ vs, oe.data = .fields vs) := I.hok a _ h
  obtain ⟨⟨oe, h1, h2, h3, vs, h4⟩, _⟩ := x
  cases d with
  | none => exact ⟨oe, none, ⟨h1, h2, by unfold PySem.W.notCls; rw [h4] <;> rfl, by rw [h3] <;> trivial⟩, fun dx fs q => by cases q⟩
  | some dx =>
    obtain ⟨fs, hx⟩ := hd
    have y : ObjOk X.prog X.w H s.heap dx (.xd fs) := I.hok dx _ hx
    obtain ⟨mA, hns, hr⟩ := y
    obtain ⟨o, es, ep, ho, hr2⟩ := id hns
    refine ⟨oe, some o, ⟨h1, h2, by unfold PySem.W.notCls; rw [h4] <;> rfl, by rw [h3]; exact ho⟩, fun dx' fs' q q2 => ?_⟩
    cases q
    rw [hx] at q2
    cases q2
    exact ⟨o, mA, rfl, hns, hr, ho⟩
theorem call_isK : CallR X (.builtin "isinstance") (rIsK X.K) := by
  intro pins s σ H xs us Q I r h
  obtain ⟨a, C, d, c, cv, b, rfl, hH, hd, T, hcv, e, q⟩ := h
  cases r with
  | cons rx rr =>
    cases rr with
    | cons rt rr =>
      cases rr
      cases rx
      have ec := hcv _ rt
      subst ec
      obtain ⟨ox, od, J, _⟩ := exc_inst I hH hd
      exact PySem.W.kia_one (PySem.W.kitx_exc T.hcl T.hga T.hgt T.hsub T.ha T.hn T.htk T.hm) I.kIn J e (fun z => nomatch z) fun tk => ⟨.bl b, H, I.kept (t' := tk) fun _ _ z => z, rfl, q⟩
/-- isinstance(x, C), x a kept error of one of the classes xs -/
def fIsX (j : Nat) (xs : List String) (cl : String → Bool) : Env → Out (Val × Env) := fun e => match e[j]? with
  | some (.fn (.exn x)) => if xs.contains x.cls = true then .ok (.frz (.bool (cl x.cls)), e) else .bad
  | _ => .bad
/-- what the class cv says of the raised ones -/
def IsT (K : PySem.W.Frag) (xs : List String) (cv : Value) (cl : String → Bool) : Prop := ∀ x ∈ xs, ∃ C, PySem.W.nsIn K mainGlobals x = some (some (.ref C)) ∧ PySem.W.kitOne K (.ref C) cv = some (cl x)
def ErrT (K : PySem.W.Frag) (xs : List String) : Prop := ∀ x ∈ xs, ∃ C, PySem.W.nsIn K mainGlobals x = some (some (.ref C)) ∧ ExK K C
variable {cm : CMap} {W : WX} {pos : Pos}
theorem tag_exc {K : PySem.W.Frag} {F H : Hp} {a : Addr} {x : Exn} (fh : Ex F H) (t : TagAt K F a (.exn x)) : ∃ C d, PySem.W.nsIn K mainGlobals x.cls = some (some (.ref C)) ∧ H a = some (excK a C d) ∧ DictOk H d ∧ ∀ n dd, x.fld = some (n, dd) → ∃ dx v, d = some dx ∧ H dx = some (.xd [(n, v)]) ∧ Rp K F v dd := by
  obtain ⟨C, oe, h1, h2, h3⟩ := t
  refine ⟨C, oe, h1, fh _ _ h2, ?_, fun n dd q => ?_⟩
  · revert h3
    cases x.fld with
    | none =>
      rintro rfl
      trivial
    | some nd =>
      obtain ⟨n, d⟩ := nd
      rintro ⟨dx, v, rfl, w2, _⟩
      exact ⟨_, fh _ _ w2⟩
  · rw [q] at h3
    obtain ⟨dx, v, w1, w2, w3⟩ := h3
    exact ⟨dx, v, w1, fh _ _ w2, w3⟩
theorem ev_isG {v : Str} {pv p : Pos} {b : Expr} {c : V} {cv : Value} (j : Nat) (xs : List String) {cl : String → Bool} (hm : X.mg "isinstance" = none) (hE : ErrT X.K xs) (hT : IsT X.K xs cv cl) (hb : PE X b (tC c)) (hcv : ∀ u, RelV c u → u = cv)
    (hN : X.N[j]? = some v) (hv : Vis X.env.scope v) (hd : (v == ("__debug__" : Str)) = false) (hcd : (v == ("__classdict__" : Str)) = false) (hg : Gl X "isinstance")
    (hs2 : starEach [b] X.env = (false, eval b X.env) :: starEach [] X.env) (hs : starEach [.Name v pv, b] X.env = (false, eval (.Name v pv) X.env) :: starEach [b] X.env)
    (hpl : (backTo pos (starEach [b] X.env)).any (·.1) = false) : EV X cm W (.Call (.Name "isinstance" p) [.Name v pv, b] [] pos) (fIsX j xs cl) := by
  refine ⟨_, pe_callB call_isK hg hm (by decide +kernel) (pa_cons (pe_var hN hv hd hcd) (pa_cons hb pa_nil hs2) hs) (by decide) (by decide) hs hpl, fun s Q z q => ?_⟩
  unfold fIsX at q
  split at q
  · rename_i x g
    split at q
    · rename_i hx
      obtain ⟨a, t, h2⟩ := z.fn j _ g
      obtain ⟨C, d, n1, n2, n3, _⟩ := tag_exc z.fh t
      have hx : x.cls ∈ xs := by simpa using hx
      obtain ⟨C1, m1, m2⟩ := hE _ hx
      obtain ⟨C2, k1, k2⟩ := hT _ hx
      rw [n1] at m1 k1
      cases m1
      cases k1
      exact ⟨.ref a, h2, a, C, d, c, cv, cl x.cls, rfl, n2, n3, m2, hcv, k2, q (.bl _) s.F s.H (Stp.refl s) z (.bl _)⟩
    · exact q.elim
  · exact q.elim
theorem ev_isX {v y : Str} {pv py p : Pos} {Cy : Addr} (j : Nat) (xs : List String) {cl : String → Bool} (hm : X.mg "isinstance" = none) (hE : ErrT X.K xs) (hmy : X.mg y = some (.ref Cy)) (hT : IsT X.K xs (.ref Cy) cl) (hgy : Gl X y := by rfl) (hdy : (y == ("__debug__" : Str)) = false := by decide)
    (hN : X.N[j]? = some v := by rfl) (hv : Vis X.env.scope v := by first | exact Or.inl rfl | exact Or.inr (Or.inl rfl) | exact Or.inr (Or.inr rfl)) (hd : (v == ("__debug__" : Str)) = false := by decide) (hcd : (v == ("__classdict__" : Str)) = false := by decide) (hg : Gl X "isinstance" := by rfl)
    (hs2 : starEach [.Name y py] X.env = (false, eval (.Name y py) X.env) :: starEach [] X.env := by rfl) (hs : starEach [.Name v pv, .Name y py] X.env = (false, eval (.Name v pv) X.env) :: starEach [.Name y py] X.env := by rfl)
    (hpl : (backTo pos (starEach [.Name y py] X.env)).any (·.1) = false := by rfl) : EV X cm W (.Call (.Name "isinstance" p) [.Name v pv, .Name y py] [] pos) (fIsX j xs cl) :=
  ev_isG j xs hm hE hT (pe_glob (v := .ref Cy) hgy hmy rfl hdy) (fun u r => r) hN hv hd hcd hg hs2 hs hpl
theorem ev_isXT {v y : Str} {pv py p : Pos} {T : String} (j : Nat) (xs : List String) {cl : String → Bool} (hm : X.mg "isinstance" = none) (hE : ErrT X.K xs) (hmT : X.mg y = none) (hT : IsT X.K xs (.type T) cl) (hgy : Gl X y := by rfl) (hvT : bootBuiltins y = some (.type T) := by decide +kernel) (hn : y ≠ "__name__" := by decide) (hdy : (y == ("__debug__" : Str)) = false := by decide)
    (hN : X.N[j]? = some v := by rfl) (hv : Vis X.env.scope v := by first | exact Or.inl rfl | exact Or.inr (Or.inl rfl) | exact Or.inr (Or.inr rfl)) (hd : (v == ("__debug__" : Str)) = false := by decide) (hcd : (v == ("__classdict__" : Str)) = false := by decide) (hg : Gl X "isinstance" := by rfl)
    (hs2 : starEach [.Name y py] X.env = (false, eval (.Name y py) X.env) :: starEach [] X.env := by rfl) (hs : starEach [.Name v pv, .Name y py] X.env = (false, eval (.Name v pv) X.env) :: starEach [.Name y py] X.env := by rfl)
    (hpl : (backTo pos (starEach [.Name y py] X.env)).any (·.1) = false := by rfl) : EV X cm W (.Call (.Name "isinstance" p) [.Name v pv, .Name y py] [] pos) (fIsX j xs cl) :=
  ev_isG j xs hm hE hT (pe_bltn (v := .ty T) hgy hmT hvT rfl hn hdy) (fun u r => r) hN hv hd hcd hg hs2 hs hpl
/-- x is None, x a kept error or data -/
def fIsN (neg : Bool) (j : Nat) : Env → Out (Val × Env) := fun e => match e[j]? with
  | some (.fn (.exn _)) => .ok (.frz (.bool neg), e)
  | some (.frz d) => .ok (.frz (.bool (isN d != neg)), e)
  | _ => .bad
theorem ev_isN {v : Str} {pv pc : Pos} {jc : Nat} (j : Nat) (hN : X.N[j]? = some v := by rfl) (hv : Vis X.env.scope v := by first | exact Or.inl rfl | exact Or.inr (Or.inl rfl) | exact Or.inr (Or.inr rfl)) (hd : (v == ("__debug__" : Str)) = false := by decide) (hcd : (v == ("__classdict__" : Str)) = false := by decide) :
    EV X cm W (.Compare (.Name v pv) [.Is] [.Constant .none jc pc] pos) (fIsN false j) := by
  refine ⟨_, pe_cmpR op_isN (pe_var hN hv hd hcd) pe_non (nomark _), fun s Q z q => ?_⟩
  unfold fIsN at q
  split at q
  · rename_i x g
    obtain ⟨a, t, h2⟩ := z.fn j _ g
    exact ⟨.ref a, h2, rfl, q (.bl _) s.F s.H (Stp.refl s) z (.bl _)⟩
  · rename_i d g
    obtain ⟨u, h1, h2⟩ := z.frz j d g
    have q := q (.bl _) s.F s.H (Stp.refl s) z (.bl _)
    refine ⟨u, h1, rfl, ?_⟩
    rw [isN_of h2]
    simpa using q
  · exact q.elim
theorem ev_isNn {v : Str} {pv pc : Pos} {jc : Nat} (j : Nat) (hN : X.N[j]? = some v := by rfl) (hv : Vis X.env.scope v := by first | exact Or.inl rfl | exact Or.inr (Or.inl rfl) | exact Or.inr (Or.inr rfl)) (hd : (v == ("__debug__" : Str)) = false := by decide) (hcd : (v == ("__classdict__" : Str)) = false := by decide) :
    EV X cm W (.Compare (.Name v pv) [.IsNot] [.Constant .none jc pc] pos) (fIsN true j) := by
  refine ⟨_, pe_cmpR op_notN (pe_var hN hv hd hcd) pe_non (nomark _), fun s Q z q => ?_⟩
  unfold fIsN at q
  split at q
  · rename_i x g
    obtain ⟨a, t, h2⟩ := z.fn j _ g
    exact ⟨.ref a, h2, rfl, q (.bl _) s.F s.H (Stp.refl s) z (.bl _)⟩
  · rename_i d g
    obtain ⟨u, h1, h2⟩ := z.frz j d g
    have q := q (.bl _) s.F s.H (Stp.refl s) z (.bl _)
    refine ⟨u, h1, rfl, ?_⟩
    rw [isN_of h2]
    simpa using q
  · exact q.elim
/-! ### the field of a kept error -/
def fFld (j : Nat) (xs : List String) (n : Str) : Env → Out (Val × Env) := fun e => match e[j]? with
  | some (.fn (.exn x)) => (match x.fld with
    | some (n', d) => if xs.contains x.cls = true ∧ n' = n then .ok (.frz d, e) else .bad
    | none => .bad)
  | _ => .bad
/-- none of the classes has the attribute itself -/
def NoT (K : PySem.W.Frag) (xs : List String) (n : Str) : Prop := ∀ x ∈ xs, ∃ C, PySem.W.nsIn K mainGlobals x = some (some (.ref C)) ∧ PySem.W.findIn K (.ref C) n = some none
def tXk (K : PySem.W.Frag) (n : Str) (te : TE) : TE := fun σ H Q => te σ H fun x H1 => ∃ (a C dd : Addr) (fs : List (Str × V)) (v : V), x = .ref a ∧ ExK K C ∧ PySem.W.findIn K (.ref C) n = some none ∧ H1 a = some (excK a C (some dd)) ∧ H1 dd = some (.xd fs) ∧ fs.lookup n = some v ∧ Q v H1
theorem pe_xk {e : Expr} {te : TE} {n : Str} (he : PE X e te) (hb : attributeBase e n X.env (eval e X.env) = eval e X.env := by rfl) : PE X (.Attribute e n pos) (tXk X.K n te) := by
  refine ⟨fun pins s σ H Q I h => ?_⟩
  refine attr_of hb (thn (he.run pins s σ H _ I h) fun u s1 hh => ?_)
  obtain ⟨x, H1, I1, rx, a, C, dd, fs, v, ex, T, hno, ha, hx, l, q⟩ := hh
  subst ex
  obtain rfl : u = Value.ref a := rx
  obtain ⟨ox, od, J, more⟩ := exc_inst I1 ha ⟨fs, hx⟩
  obtain ⟨o, mA, rfl, hns, hr, ho⟩ := more dd fs rfl hx
  obtain ⟨o', ho', hl⟩ := lookIn_ns hns
  rw [ho] at ho'
  cases ho'
  obtain ⟨u, hu, ru⟩ := RelO.some_of (v := v) (o := mA n) (by rw [← l]; exact hr n)
  exact HandSPX.exc_get I1.kIn J T.hga T.hgt T.hsub (PySem.W.findObj_own T.hd hno rfl (by rw [hl, hu])) (handed_of ru) ⟨v, H1, I1.tok _, ru, q⟩
theorem ev_fld {v n : Str} {pv : Pos} (j : Nat) (xs : List String) (hE : ErrT X.K xs) (hno : NoT X.K xs n) (hN : X.N[j]? = some v := by rfl) (hv : Vis X.env.scope v := by first | exact Or.inl rfl | exact Or.inr (Or.inl rfl) | exact Or.inr (Or.inr rfl)) (hd : (v == ("__debug__" : Str)) = false := by decide) (hcd : (v == ("__classdict__" : Str)) = false := by decide)
    (hb : attributeBase (.Name v pv) n X.env (eval (.Name v pv) X.env) = eval (.Name v pv) X.env := by rfl) : EV X cm W (.Attribute (.Name v pv) n pos) (fFld j xs n) := by
  refine ⟨_, pe_xk (pe_var hN hv hd hcd) hb, fun s Q z q => ?_⟩
  unfold fFld at q
  split at q
  · rename_i x g
    split at q
    · rename_i n' d hf
      split at q
      · rename_i hx
        obtain ⟨hx, rfl⟩ := hx
        obtain ⟨a, t, h2⟩ := z.fn j _ g
        obtain ⟨C, dd, n1, n2, n3, n4⟩ := tag_exc z.fh t
        obtain ⟨dx, u, rfl, w2, w3⟩ := n4 _ _ hf
        have hx : x.cls ∈ xs := by simpa using hx
        obtain ⟨C1, m1, m2⟩ := hE _ hx
        obtain ⟨C2, k1, k2⟩ := hno _ hx
        rw [n1] at m1 k1
        cases m1
        cases k1
        exact ⟨.ref a, h2, a, C, dx, _, u, rfl, m2, k2, n2, w2, by simp [List.lookup], q u s.F s.H (Stp.refl s) z w3⟩
      · exact q.elim
    · exact q.elim
  · exact q.elim
/-- y = x, x a kept error -/
def sCpX (k i j : Nat) : Env → Out (Fl × Env) := fun e => match e[j]? with
  | some (.fn t) => if asgOk k e i = true then .ok (.nx, e.set i (.fn t)) else .bad
  | _ => .bad
theorem sv_cpX {k : Nat} {v x : Str} {pv p : Pos} (i j : Nat) (hN : X.N.Nodup) (hi : X.N[i]? = some x := by rfl) (hx : Loc X.env.scope x := by first | exact Or.inl rfl | exact Or.inr rfl) (hs : swapsWith (.Name v pv) (some (.Name x p)) pos.line X.env = pure false := by rfl)
    (hf : X.fn x = true ∨ X.env.scope.names.lookup x = some .local := by first | exact .inl rfl | exact .inr rfl | assumption)
    (hj : X.N[j]? = some v := by rfl) (hv : Vis X.env.scope v := by first | exact Or.inl rfl | exact Or.inr (Or.inl rfl) | exact Or.inr (Or.inr rfl)) (hd : (v == ("__debug__" : Str)) = false := by decide) (hcd : (v == ("__classdict__" : Str)) = false := by decide) :
    SV X cm W k (.Assign [.Name x p] (.Name v pv) pos) (sCpX k i j) := by
  refine ⟨⟨_, ps_set hN hi hx (pe_var hj hv hd hcd) hs hf, fun s D z q => ?_⟩⟩
  unfold sCpX at q
  split at q
  · rename_i t g
    split at q
    · rename_i ok
      obtain ⟨a, t1, h2⟩ := z.fn j _ g
      exact ⟨.ref a, h2, q s.F s.H (s.σ.set i (some (.ref a))) (Stp.refl s).putFn (Par.set ok) (z.putFn t1)⟩
    · exact q.elim
  · exact q.elim
end
/-! equations -/
@[simp] theorem sRaise0_eq (x : String) (e : Env) : sRaise0 x e = .exc ⟨x, none⟩ e := rfl
@[simp] theorem raiseK_eq (x : String) (n : Str) (d : D) (e : Env) : raiseK x n d e = .exc ⟨x, some (n, d)⟩ e := rfl
@[simp] theorem sRaiseF_eq (x : String) (n : Str) (f : Env → Out (Val × Env)) (e : Env) : sRaiseF x n f e = sE e ((fz f e).bind asD) (raiseK x n) := rfl
@[simp] theorem sTry_eq (k : Nat) (f : Env → Out (Fl × Env)) (l : List Hd) (e : Env) : sTry k f l e = match f e with
  | .exc x e1 => sTryH k l x e1
  | o => o := rfl
@[simp] theorem sTryH_nil (k : Nat) (x : Exn) (e : Env) : sTryH k [] x e = .exc x e := rfl
@[simp] theorem sTryH_cons (k : Nat) (h : Hd) (r : List Hd) (x : Exn) (e : Env) : sTryH k (h :: r) x e = if h.cl x.cls = true then (match inE k h.i x e with
  | some e1 => (match h.f e1 with
    | .ok a => outF h.i a
    | _ => .bad)
  | none => .bad) else sTryH k r x e := rfl
@[simp] theorem inE_none (k : Nat) (x : Exn) (e : Env) : inE k none x e = some e := rfl
@[simp] theorem inE_some (k i : Nat) (x : Exn) (e : Env) : inE k (some i) x e = if i < k then none else some (e.set i (.fn (.exn x))) := rfl
@[simp] theorem outE_none (e : Env) : outE none e = e := rfl
@[simp] theorem outE_some (i : Nat) (e : Env) : outE (some i) e = e.set i .no := rfl
@[simp] theorem outF_nx (i : Option Nat) (e : Env) : outF i (.nx, e) = .ok (.nx, outE i e) := rfl
@[simp] theorem outF_retF (i : Option Nat) (d : D) (e : Env) : outF i (.ret (.frz d), e) = .ok (.ret (.frz d), outE i e) := rfl
@[simp] theorem fIsX_eq (j : Nat) (xs : List String) (cl : String → Bool) (e : Env) : fIsX j xs cl e = match e[j]? with
  | some (.fn (.exn x)) => if xs.contains x.cls = true then .ok (.frz (.bool (cl x.cls)), e) else .bad
  | _ => .bad := rfl
@[simp] theorem fIsN_eq (neg : Bool) (j : Nat) (e : Env) : fIsN neg j e = match e[j]? with
  | some (.fn (.exn _)) => .ok (.frz (.bool neg), e)
  | some (.frz d) => .ok (.frz (.bool (isN d != neg)), e)
  | _ => .bad := rfl
@[simp] theorem fFld_eq (j : Nat) (xs : List String) (n : Str) (e : Env) : fFld j xs n e = match e[j]? with
  | some (.fn (.exn x)) => (match x.fld with
    | some (n', d) => if xs.contains x.cls = true ∧ n' = n then .ok (.frz d, e) else .bad
    | none => .bad)
  | _ => .bad := rfl
@[simp] theorem sCpX_eq (k i j : Nat) (e : Env) : sCpX k i j e = match e[j]? with
  | some (.fn t) => if asgOk k e i = true then .ok (.nx, e.set i (.fn t)) else .bad
  | _ => .bad := rfl
end BV
/-! what a text with errors asks of the top -/
namespace BV
open PySem PySem.Spec PyProof.Rows L2
def clsBody : Stmt → List Stmt
  | .ClassDef _ _ _ b _ _ _ _ _ _ _ => b
  | _ => []
def InitAt (K : PySem.W.Frag) (mg : Str → Option Value) (x n qual : Str) (st : Stmt) (ps : List Str) : Prop := ∃ (C fI : Addr) (fd : FuncData), PySem.W.nsIn K mainGlobals x = some (some (.ref C)) ∧ mg x = some (.ref C) ∧ OexC K C ∧
  PySem.W.findIn K (.ref C) "__init__" = some (some (.ref fI)) ∧ PySem.W.typeIn K (.ref fI) = some (.type "function") ∧ PySem.W.findIn K (.ref C) n = some none ∧ L2.Fun K "__init__" qual st fI fd ∧ Binds K fd ps []
theorem init_at {K : PySem.W.Frag} {h : Heap} {mg : Str → Option Value} {x n qual : Str} {st : Stmt} {ps : List Str} {C f1 : Addr} (X : K.In h) (G : h.Ns mainGlobals mg)
    {nm q : Str} {N : Addr} {bs bm : List Value} {sn : List Str} {sub : List Value} {ab : Bool} {col : Option Bool} {dd : Option Addr} {m0 m1 m2 m3 m5 : Option Value} {od1 an1 : Option Addr} {sl1 : Array (Option Value)} {oc1 kV1 dc1 pm1 cd1 ct1 : Value}
    (aC : PySem.W.nsIn K mainGlobals x = some (some (.ref C)))
    (xL : K.lookup C = some (excClassObj nm q C N bs bm true sn sub ab col dd m0 m1 m2 m3 m5 "ValueError.__new__")) (rv : PySem.HandSPX.refsVE bm = true)
    (sa : PySem.W.findIn K (.ref C) "__setattr__" = some (some (.builtin "object.__setattr__"))) (eC : PySem.W.subIn K (.ref C) (.type "BaseException") = some true) (tC : PySem.W.typeIn K (.ref C) = some (.type "type")) (kC : PySem.W.keepIn K (.ref C) = true)
    (a1 : PySem.W.findIn K (.ref C) "__init__" = some (some (.ref f1))) (t1 : PySem.W.typeIn K (.ref f1) = some (.type "function")) (nb : PySem.W.findIn K (.ref C) n = some none)
    (l1 : K.lookup f1 = some ⟨oc1, od1, .func (PySem.W.fnOf "__init__" qual (defArgs st) (defBody st) (defScope st) .none kV1 dc1 pm1 an1 cd1 ct1), sl1⟩) (c1 : PySem.W.codeIn K cd1 qual = true) (k1 : PySem.W.keepIn K (.ref f1) = true)
    (b : ∀ (kV doc pm : Value) (an : Option Addr) (cdv ct : Value) (us : List Value), us.length = ps.length → bindArgs (PySem.W.fnOf "__init__" qual (defArgs st) (defBody st) (defScope st) .none kV doc pm an cdv ct) ⟨us, []⟩ = pure (ps.zip us)) : InitAt K mg x n qual st ps :=
  ⟨C, f1, _, aC, PySem.W.mg_of X G aC, ⟨⟨nm, q, N, bs, bm, sn, sub, ab, col, dd, m0, m1, m2, m3, m5, xL, rv⟩, sa, eC, tC, kC⟩, a1, t1, nb, fun_mk l1 c1 k1, (fun_mk l1 c1 k1).binds b⟩
/-- the class whose __init__ the own ones call -/
def HeAt (K : PySem.W.Frag) (mg : Str → Option Value) (x : Str) : Prop := ∃ HE, mg x = some (.ref HE) ∧ ClX.CRead K HE (.type "type") ∧ PySem.W.findCls K (.ref HE) (.type "type") "__init__" = some (.val (.builtin "ValueError.__init__"))
theorem he_at {K : PySem.W.Frag} {h : Heap} {mg : Str → Option Value} {x : Str} {HE : Addr} (X : K.In h) (G : h.Ns mainGlobals mg) (aC : PySem.W.nsIn K mainGlobals x = some (some (.ref HE))) (rd : PySem.W.readsIn K HE (.type "type") = true)
    (ga : PySem.W.specialIn K (.ref HE) "__getattribute__" = some (some (.builtin "type.__getattribute__"))) (fc : PySem.W.findCls K (.ref HE) (.type "type") "__init__" = some (.val (.builtin "ValueError.__init__"))) : HeAt K mg x :=
  ⟨HE, PySem.W.mg_of X G aC, ⟨rd, ga⟩, fc⟩
theorem mk0_at {K : PySem.W.Frag} {h : Heap} {mg : Str → Option Value} {x : Str} {C : Addr} (X : K.In h) (G : h.Ns mainGlobals mg) (aC : PySem.W.nsIn K mainGlobals x = some (some (.ref C)))
    (xC : PySem.W.excIn K C [.type "ValueError", .type "Exception", .type "BaseException", .type "object"] "ValueError.__new__" = true) (kC : PySem.W.keepIn K (.ref C) = true) (eC : PySem.W.subIn K (.ref C) (.type "BaseException") = some true) (tC : PySem.W.typeIn K (.ref C) = some (.type "type")) : Mk0 K mg x :=
  ⟨C, aC, PySem.W.mg_of X G aC, xC, kC, eC, tC⟩
/-- a raised class, as isinstance and fields ask -/
def ErrAt (K : PySem.W.Frag) (x : Str) : Prop := ∃ C, PySem.W.nsIn K mainGlobals x = some (some (.ref C)) ∧ ExK K C ∧ PySem.W.subIn K (.ref C) (.ref C) = some true
theorem err_at {K : PySem.W.Frag} {x : Str} {C : Addr} (aC : PySem.W.nsIn K mainGlobals x = some (some (.ref C))) (h1 : PySem.W.isClsIn K C = true) (h2 : PySem.W.findIn K (.ref C) "__getattribute__" = some (some (.builtin "BaseException.__getattribute__"))) (h3 : PySem.W.findIn K (.ref C) "__getattr__" = some none)
    (h4 : PySem.W.subIn K (.ref C) (.type "BaseException") = some true) (h5 : PySem.W.findIn K (.ref C) "__class__" = some (some (.builtin "object.__class__"))) (h6 : PySem.W.specialIn K (.builtin "object.__class__") "__get__" = some (some (.builtin "getset_descriptor.__get__")))
    (h7 : PySem.W.takesIn K (.builtin "object.__class__") = some true) (h8 : PySem.W.mroIn K C (.type "object") = some true) (h9 : PySem.W.hasDictIn K C = true) (hs : PySem.W.subIn K (.ref C) (.ref C) = some true) : ErrAt K x := ⟨C, aC, ⟨h1, h2, h3, h4, h5, h6, h7, h8, h9⟩, hs⟩
def ErrsAt (K : PySem.W.Frag) (xs : List String) : Prop := ∀ x ∈ xs, ErrAt K x
theorem errs_nil {K : PySem.W.Frag} : ErrsAt K [] := fun _ h => by cases h
theorem errs_cons {K : PySem.W.Frag} {x : String} {xs : List String} (h : ErrAt K x) (r : ErrsAt K xs) : ErrsAt K (x :: xs) := fun y hy => by
  rcases List.mem_cons.mp hy with rfl | hy
  · exact h
  · exact r y hy
theorem ErrsAt.t {K : PySem.W.Frag} {xs : List String} (h : ErrsAt K xs) : ErrT K xs := fun x hx => by
  obtain ⟨C, h1, h2, _⟩ := h x hx
  exact ⟨C, h1, h2⟩
/-- what the raised ones are to one class -/
def SubsAt (K : PySem.W.Frag) (xs : List String) (cv : Value) (cl : String → Bool) : Prop := ∀ x ∈ xs, ∃ C, PySem.W.nsIn K mainGlobals x = some (some (.ref C)) ∧ PySem.W.subIn K (.ref C) cv = some (cl x)
theorem subs_nil {K : PySem.W.Frag} {cv : Value} {cl : String → Bool} : SubsAt K [] cv cl := fun _ h => by cases h
theorem subs_cons {K : PySem.W.Frag} {cv : Value} {cl : String → Bool} {x : String} {xs : List String} {C : Addr} {b : Bool} (h : PySem.W.nsIn K mainGlobals x = some (some (.ref C))) (g : PySem.W.subIn K (.ref C) cv = some b) (e : b = cl x) (r : SubsAt K xs cv cl) : SubsAt K (x :: xs) cv cl := fun y hy => by
  rcases List.mem_cons.mp hy with rfl | hy
  · exact ⟨C, h, by rw [g, e]⟩
  · exact r y hy
def TstAt (K : PySem.W.Frag) (mg : Str → Option Value) (xs : List String) (y : Str) (cl : String → Bool) : Prop := ∃ Cy, mg y = some (.ref Cy) ∧ PySem.W.isClsIn K Cy = true ∧ PySem.W.hasDictIn K Cy = true ∧ PySem.W.typeIn K (.ref Cy) = some (.type "type") ∧ PySem.W.subIn K (.ref Cy) (.type "BaseException") = some true ∧ SubsAt K xs (.ref Cy) cl
theorem tst_at {K : PySem.W.Frag} {h : Heap} {mg : Str → Option Value} {xs : List String} {y : Str} {cl : String → Bool} {C : Addr} (X : K.In h) (G : h.Ns mainGlobals mg) (aC : PySem.W.nsIn K mainGlobals y = some (some (.ref C))) (h1 : PySem.W.isClsIn K C = true) (h2 : PySem.W.hasDictIn K C = true)
    (h3 : PySem.W.typeIn K (.ref C) = some (.type "type")) (h4 : PySem.W.subIn K (.ref C) (.type "BaseException") = some true) (s : SubsAt K xs (.ref C) cl) : TstAt K mg xs y cl := ⟨C, PySem.W.mg_of X G aC, h1, h2, h3, h4, s⟩
theorem kit_ref {K : PySem.W.Frag} {C Cy : Addr} {b : Bool} (h1 : PySem.W.isClsIn K Cy = true) (h3 : PySem.W.typeIn K (.ref Cy) = some (.type "type")) (h4 : PySem.W.subIn K (.ref C) (.ref Cy) = some b) (hs : PySem.W.subIn K (.ref C) (.ref C) = some true) : PySem.W.kitOne K (.ref C) (.ref Cy) = some b := by
  unfold PySem.W.kitOne
  by_cases e : ((Value.ref C : Value) == .ref Cy) = true
  · rw [if_pos e]
    have e2 : C = Cy := by
      have := beq_iff_eq.mp e
      exact Value.ref.inj this
    subst e2
    rw [hs] at h4
    exact h4
  · rw [if_neg e]
    unfold PySem.W.kitCls
    simp only
    have h1' : (PySem.W.clsIn K Cy).isSome = true := h1
    rw [h1', h3]
    exact h4
theorem tst_all {K : PySem.W.Frag} {mg : Str → Option Value} {xs : List String} {y : Str} {cl : String → Bool} (E : ErrsAt K xs) (h : TstAt K mg xs y cl) : ∃ Cy, mg y = some (.ref Cy) ∧ (∀ x C, errCM K xs x C → PySem.W.exmOne K C (.ref Cy) = some (cl x)) ∧ IsT K xs (.ref Cy) cl := by
  obtain ⟨Cy, h0, h1, h2, h3, h4, s⟩ := h
  refine ⟨Cy, h0, fun x C ⟨hx, a, e, n⟩ => ?_, fun x hx => ?_⟩
  · subst e
    obtain ⟨C', n', q⟩ := s x hx
    rw [n] at n'
    cases n'
    exact PySem.W.exm_ref h4 h2 h3 q
  · obtain ⟨C', n', q⟩ := s x hx
    obtain ⟨C2, n2, _, hs⟩ := E x hx
    rw [n'] at n2
    cases n2
    exact ⟨C', n', kit_ref h1 h3 q hs⟩
theorem tst_ty {K : PySem.W.Frag} {xs : List String} {T : String} {cl : String → Bool} (m : PySem.W.kitMeta T = true) (s : SubsAt K xs (.type T) cl) : IsT K xs (.type T) cl := fun x hx => by
  obtain ⟨C', n', q⟩ := s x hx
  refine ⟨C', n', ?_⟩
  unfold PySem.W.kitOne
  rw [if_neg (by intro e; have := beq_iff_eq.mp e; cases this)]
  unfold PySem.W.kitCls
  simp only
  rw [if_pos m]
  exact q
theorem no_cons {K : PySem.W.Frag} {n : Str} {x : String} {xs : List String} {C : Addr} (h : PySem.W.nsIn K mainGlobals x = some (some (.ref C))) (g : PySem.W.findIn K (.ref C) n = some none) (r : NoT K xs n) : NoT K (x :: xs) n := fun y hy => by
  rcases List.mem_cons.mp hy with rfl | hy
  · exact ⟨C, h, g⟩
  · exact r y hy
theorem no_nil {K : PySem.W.Frag} {n : Str} : NoT K [] n := fun _ h => by cases h
theorem init_ok {P : Program} {w : World} {K : PySem.W.Frag} {mg : Str → Option Value} {x n m qual : Str} {st : Stmt} {s1 s2 : Str} (h : InitAt K mg x n qual st [s1, s2]) (S : FnScope [s1, s2] [s1, s2] (defScope st))
    (body : ∀ (f : Addr) (cdv : Value) (base : Heap) (A : Around) (outer : List PySem.Env) (s : Shared) (H : Hp) (E : XK), PSs (cxOf CX0 P w K mg base [s1, s2] qual (defScope st) f cdv A outer s H E).nox (defBody st) (tInit K n m)) : MkF P w K mg x n := by
  obtain ⟨C, fI, fd, h1, h2, T, iC, tI, hno, F, b⟩ := h
  refine ⟨C, fI, fd, [s1, s2], h1, h2, T, iC, tI, fun base => ?_, b⟩
  exact F.ok S (fun vs H Q E h => by
    obtain ⟨a, y, rfl, _⟩ := h
    rfl) fun cdv A outer s H vs Q E _ h => ⟨_, body fI cdv base A outer s H E, init_pure T hno h⟩
/-- the end of a law with errors -/
theorem walk_bvE {l : PySem.W.OpenLaw} {n k : Nat} {q : Program} {loose : List Str} {XP : (Str → Option Value) → Heap → Prop} {YP : World → Heap → Prop} {d : DefRec} {K : Params → PySem.W.Frag} {xs : List String} {x : Str} {m : Fn}
    (hn : l.most = some n) (hn2 : n ≤ sizeLine) (hdf : d.params.defaults = []) (hr : Room k callerA) (hY : ∀ (w : World) (h : Heap), YP w h → (K w.params).In h)
    (F : ∀ (w : World) (mg : Str → Option Value) (fa : Addr) (h : Heap), (K w.params).In h → h.Ns mainGlobals mg → mg d.name = some (.ref fa) →
      ∃ fd : FuncData, (∀ (s : Shared) (u : Value), BindsTo s fd ⟨[u], []⟩ [(x, u)]) ∧
        ∀ base : Heap, (K w.params).In base → base.Ns mainGlobals mg → FnG l.prog w (K w.params) mg base (L2.CX l.prog w) k fa fd [x] (spB 1 (K w.params) (errCM (K w.params) xs) m))
    (fin : ∀ ns : List Int, ns.length ≤ n → ∃ sl, m [.frz (.list (ns.map .int))] = .ok (.frz (.bool true), sl)) :
    PySem.W.WalkO q loose XP YP l.row.toRowW d [] (fun f vs => PySem.call f vs) := by
  refine walk_g (n := n) (k := k) (x := x) (K := K) (CX := fun w => L2.CX l.prog w) (sp := fun w => spB 1 (K w.params) (errCM (K w.params) xs) m) hn hn2 hdf hr hY F (fun w H a ns hl hO hS => ?_) fun w H s e s' z => ?_
  · obtain ⟨sl, e⟩ := fin ns hl
    refine ⟨rfl, H, _, only_ex hS, ?_⟩
    show Post _ _ _ (m [.frz (.list (ns.map .int))])
    rw [e]
    intro v F' H' _ _ r
    exact Rp.blV r
  · obtain ⟨a, B, H', cls, dd, _, _, _, _, _, _, _, h⟩ := z
    exact h
section
variable {X : Cx} {cm : CMap} {W : WX} {pos : Pos}
theorem et_isN {v : Str} {pv pc : Pos} {jc : Nat} (j : Nat) (hN : X.N[j]? = some v := by rfl) (hv : Vis X.env.scope v := by first | exact Or.inl rfl | exact Or.inr (Or.inl rfl) | exact Or.inr (Or.inr rfl)) (hd : (v == ("__debug__" : Str)) = false := by decide) (hcd : (v == ("__classdict__" : Str)) = false := by decide) :
    ET X cm W (.Compare (.Name v pv) [.Is] [.Constant .none jc pc] pos) (tOf (fIsN false j)) := by
  have e : EVt (cf X cm W) (tOp (fun x y H Q => y = .non ∧ Q (.bl (decide (x = .non))) H) (tVar j) (tC .non)) (fIsN false j) := fun s Q z q => by
    unfold fIsN at q
    split at q
    · rename_i x g
      obtain ⟨a, t, h2⟩ := z.fn j _ g
      exact ⟨.ref a, h2, rfl, q (.bl _) s.F s.H (Stp.refl s) z (.bl _)⟩
    · rename_i d g
      obtain ⟨u, h1, h2⟩ := z.frz j d g
      have q := q (.bl _) s.F s.H (Stp.refl s) z (.bl _)
      refine ⟨u, h1, rfl, ?_⟩
      rw [isN_of h2]
      simpa using q
    · exact q.elim
  exact ⟨_, pt_cmpR op_isN (pe_var hN hv hd hcd) pe_non (nomark _), e.tOf⟩
theorem et_isNn {v : Str} {pv pc : Pos} {jc : Nat} (j : Nat) (hN : X.N[j]? = some v := by rfl) (hv : Vis X.env.scope v := by first | exact Or.inl rfl | exact Or.inr (Or.inl rfl) | exact Or.inr (Or.inr rfl)) (hd : (v == ("__debug__" : Str)) = false := by decide) (hcd : (v == ("__classdict__" : Str)) = false := by decide) :
    ET X cm W (.Compare (.Name v pv) [.IsNot] [.Constant .none jc pc] pos) (tOf (fIsN true j)) := by
  have e : EVt (cf X cm W) (tOp (fun x y H Q => y = .non ∧ Q (.bl (!decide (x = .non))) H) (tVar j) (tC .non)) (fIsN true j) := fun s Q z q => by
    unfold fIsN at q
    split at q
    · rename_i x g
      obtain ⟨a, t, h2⟩ := z.fn j _ g
      exact ⟨.ref a, h2, rfl, q (.bl _) s.F s.H (Stp.refl s) z (.bl _)⟩
    · rename_i d g
      obtain ⟨u, h1, h2⟩ := z.frz j d g
      have q := q (.bl _) s.F s.H (Stp.refl s) z (.bl _)
      refine ⟨u, h1, rfl, ?_⟩
      rw [isN_of h2]
      simpa using q
    · exact q.elim
  exact ⟨_, pt_cmpR op_notN (pe_var hN hv hd hcd) pe_non (nomark _), e.tOf⟩
end
end BV
/-! x or y by truth; exceptions through the words (equations) -/
namespace BV
open PySem PySem.Spec PyProof.Rows L2
/-- the truth of a list, a tuple, a whole number -/
def truL : D → Option Bool
  | .list ds => some (!ds.isEmpty)
  | .tuple ds => some (!ds.isEmpty)
  | .int i => some (i != 0)
  | .bool b => some b
  | .none => some false
  | _ => none
def orTK (g : Env → Out (Val × Env)) (a : Val × Env) : Out (Val × Env) := match a with
  | (.frz d, e1) => (match truL d with
    | some true => .ok (.frz d, e1)
    | some false => g e1
    | none => .bad)
  | _ => .bad
def fOrT (f g : Env → Out (Val × Env)) : Env → Out (Val × Env) := fun e => (fz f e).bind (orTK g)
theorem RpA.emp {K : PySem.W.Frag} {F : Hp} {vs : List V} {ds : List D} (h : RpA K F vs ds) : vs.isEmpty = ds.isEmpty := by
  cases h <;> rfl
theorem truL_ok {K : PySem.W.Frag} {F H : Hp} (fh : Ex F H) {v : V} {d : D} {b : Bool} (r : Rp K F v d) (h : truL d = some b) : TruV K v H b := by
  cases r with
  | non =>
    cases h
    rfl
  | bl b =>
    cases h
    rfl
  | int i =>
    cases h
    rfl
  | str x => cases h
  | lst s r =>
    cases h
    exact Or.inl ⟨_, ex_l fh s, by rw [r.emp]⟩
  | tup s r =>
    cases h
    exact Or.inr (Or.inl ⟨_, ex_t fh s.sq, by rw [r.emp]⟩)
  | dic _ _ => cases h
section
variable {X : Cx} {cm : CMap} {W : WX} {pos : Pos} {a b : Expr} {rest : List Expr} {fa fb : Env → Out (Val × Env)}
theorem ev_orT (ha : EV X cm W a fa) (hb : EV X cm W (.BoolOp .Or (b :: rest) pos) fb) : EV X cm W (.BoolOp .Or (a :: b :: rest) pos) (fOrT fa fb) := by
  obtain ⟨ta, pa, ea⟩ := ha
  obtain ⟨tb, pb, eb⟩ := hb
  refine ⟨_, pe_orT pa pb, fun s Q z p => ?_⟩
  refine ea.fz.step z p fun v val e1 F1 H1 x y r p1 => ?_
  unfold orTK at p1
  split at p1
  · rename_i d e2 heq
    cases heq
    have rr : Rp X.K F1 v d := r
    split at p1
    · rename_i ht
      exact ⟨true, truL_ok y.fh rr ht, by rw [if_pos rfl]; exact p1 v F1 H1 (Stp.refl _) y rr⟩
    · rename_i ht
      exact ⟨false, truL_ok y.fh rr ht, by rw [if_neg (by decide)]; exact eb ⟨F1, H1, s.σ, e1⟩ Q y p1⟩
    · exact p1.elim
  · exact p1.elim
end
@[simp] theorem fOrT_eq (f g : Env → Out (Val × Env)) (e : Env) : fOrT f g e = (fz f e).bind (orTK g) := rfl
@[simp] theorem orTK_eq (g : Env → Out (Val × Env)) (d : D) (e1 : Env) : orTK g (.frz d, e1) = match truL d with
  | some true => .ok (.frz d, e1)
  | some false => g e1
  | none => .bad := rfl
@[simp] theorem truL_l (ds : List D) : truL (.list ds) = some (!ds.isEmpty) := rfl
@[simp] theorem truL_t (ds : List D) : truL (.tuple ds) = some (!ds.isEmpty) := rfl
/-! exceptions through the words -/
theorem seq_exc {s t : BV.Env → Out (Fl × BV.Env)} {e e1 : BV.Env} {x : Exn} (h : s e = .exc x e1) : sSeq s t e = .exc x e1 := by
  rw [sSeq_eq, h]
  rfl
theorem runF_exc {n N : Nat} {s : BV.Env → Out (Fl × BV.Env)} {sl : List Slot} {x : Exn} {e' : BV.Env} {sl' : List Slot} (h : s (sl ++ List.replicate (N - n) .no) = .exc x e') (hb : back sl e' = some sl') : runF n N s sl = .exc x sl' := by
  unfold runF
  rw [h]
  simp only [hb]
theorem runFB_exc {n N : Nat} {s : BV.Env → Out (Fl × BV.Env)} {sl : List Slot} {x : Exn} {e' : BV.Env} {sl' : List Slot} (h : s (sl ++ List.replicate (N - n) .no) = .exc x e') (hb : back sl e' = some sl') : runFB n N s sl = .exc x sl' := by
  unfold runFB
  rw [h]
  simp only [hb]
theorem callAs_exc {m : Fn} {as : List Arg} {sl sl' : List Slot} {x : Exn} {e e' : BV.Env} (hn : (ownIx as).Nodup) (h1 : slotsOf e as = some sl) (h2 : m sl = .exc x sl') (h3 : wb as sl' e = some e') : callAs m as e = .exc x e' := by
  unfold callAs
  rw [if_pos hn, h1]
  simp only [h2, h3]
theorem callP_exc {m : Fn} {as : List Arg} {e : Env} {ds : List D} {x : Exn} {sl : List Slot} (h1 : viewOf e as = some ds) (h2 : m (ds.map .frz) = .exc x sl) (h3 : xAtm x = true) : callP m as e = .exc x e := by
  unfold callP
  rw [h1]
  simp only [h2, pOut, h3, if_true]
end BV
/-! {c: b}; isinstance(e, (A, B, ..)); tuple(range(n)) -/
namespace BV
open PySem PySem.Spec PyProof.Rows L2
def fDicC (c : Int) (b : Bool) : Env → Out (Val × Env) := fun e => .ok (.new (.dic [(.int c, .bool b)]), e)
@[simp] theorem fDicC_eq (c : Int) (b : Bool) (e : Env) : fDicC c b e = .ok (.new (.dic [(.int c, .bool b)]), e) := rfl
section
variable {X : Cx} {cm : CMap} {W : WX} {pos pc pv : Pos} {j j2 : Nat}
theorem upd_upd {H : Hp} {p : Addr} {o o' : HO} : upd (upd H p o) p o' = upd H p o' := by
  funext b
  by_cases h : b = p
  · rw [h, upd_same, upd_same]
  · rw [upd_ne h, upd_ne h, upd_ne h]
theorem ev_dicC {c : Int} {b : Bool} : EV X cm W (.Dict [some (.Constant (.int c) j pc)] [.Constant (.bool b) j2 pv] pos) (fDicC c b) := by
  refine ⟨_, pe_disp (pps_cons pe_int pe_bl pps_nil) rfl rfl (by simp) (by simp), fun s Q z q p hp => ?_⟩
  obtain ⟨F, H, σ, e⟩ := s
  refine ⟨upd_same, [(.inl c, .bl b)], rfl, by simp, ?_⟩
  rw [upd_upd]
  exact q (.ref p) F (upd H p (.dK [(.inl c, .bl b)])) (Stp.laid z hp _) (z.laid hp _) (VRep.laid z hp (.dic (z.fnone hp) upd_same (.cons (.bl b) .nil)) rfl)
/-! isinstance of a kept error, a tuple of classes -/
def rIsKs (K : PySem.W.Frag) : List V → Hp → VK → Prop := fun xs H Q => ∃ (a C t : Addr) (d : Option Addr) (cs : List V) (cvs : List Value) (b : Bool), xs = [.ref a, .ref t] ∧ H a = some (excK a C d) ∧ DictOk H d ∧ ExK K C ∧ H t = some (.tup cs) ∧ (∀ us, Vals cs us → us = cvs) ∧ PySem.W.kitAny K (.ref C) cvs = some b ∧ Q (.bl b) H
theorem call_isKs : CallR X (.builtin "isinstance") (rIsKs X.K) := by
  intro pins s σ H xs us Q I r h
  obtain ⟨a, C, t, d, cs, cvs, b, rfl, hH, hd, T, ht, hcv, e, q⟩ := h
  cases r with
  | cons rx rr =>
    cases rr with
    | cons rt rr =>
      cases rr
      cases rx
      cases rt
      obtain ⟨ox, od, J, _⟩ := exc_inst I hH hd
      have y : ObjOk X.prog X.w H s.heap t (.tup cs) := I.hok t _ ht
      obtain ⟨_, its, rel, ob, e1, e2, e3⟩ := y
      have ec := hcv _ rel
      subst ec
      obtain ⟨oc, odd, oda, osl⟩ := ob
      dsimp only at e2 e3
      first
        | (obtain ⟨n, e3⟩ := e3
           subst e2 e3
           exact PySem.W.kia_tup (PySem.W.kitx_exc T.hcl T.hga T.hgt T.hsub T.ha T.hn T.htk T.hm) I.kIn J e1 e (fun z => nomatch z) fun tk => ⟨.bl b, H, I.kept (t' := tk) fun _ _ z => z, rfl, q⟩)
def IsTs (K : PySem.W.Frag) (xs : List String) (cvs : List Value) (cl : String → Bool) : Prop := ∀ x ∈ xs, ∃ C, PySem.W.nsIn K mainGlobals x = some (some (.ref C)) ∧ PySem.W.kitAny K (.ref C) cvs = some (cl x)
theorem ists_nil {K : PySem.W.Frag} {xs : List String} (E : ErrsAt K xs) : IsTs K xs [] (fun _ => false) := fun x hx => by
  obtain ⟨C, h1, _⟩ := E x hx
  exact ⟨C, h1, rfl⟩
theorem ists_cons {K : PySem.W.Frag} {xs : List String} {cv : Value} {cvs : List Value} {c1 c2 : String → Bool} (h : IsT K xs cv c1) (r : IsTs K xs cvs c2) : IsTs K xs (cv :: cvs) (fun x => c1 x || c2 x) := fun x hx => by
  obtain ⟨C, h1, h2⟩ := h x hx
  obtain ⟨C', k1, k2⟩ := r x hx
  rw [h1] at k1
  cases k1
  refine ⟨C, h1, ?_⟩
  unfold PySem.W.kitAny
  rw [h2]
  cases hb : c1 x with
  | true => simp [hb]
  | false => simp [hb, k2]
/-- names of classes -/
def tCs : List V → TA
  | [] => tNil
  | c :: cs => tCons (tC c) (tCs cs)
theorem tCs_eq : ∀ (cs : List V) {σ : L2.St} {H : Hp} {Q : List V → Hp → Prop}, Q cs H → tCs cs σ H Q
  | [], _, _, _, h => h
  | c :: cs, σ, H, Q, h => tCs_eq cs (Q := fun xs H2 => Q (c :: xs) H2) h
structure ClsV (X : Cx) (es : List Expr) (cs : List V) (cvs : List Value) : Prop where
  pa : PA X es (tCs cs)
  rel : ∀ us, Vals cs us → us = cvs
theorem clsv_nil : ClsV X [] [] [] := ⟨pa_nil, fun us r => by cases r; rfl⟩
theorem clsv_cons {y : Str} {py : Pos} {es : List Expr} {C : Addr} {cs : List V} {cvs : List Value} (hmy : X.mg y = some (.ref C)) (r : ClsV X es cs cvs) (hgy : Gl X y := by rfl) (hdy : (y == ("__debug__" : Str)) = false := by decide)
    (hs : starEach (.Name y py :: es) X.env = (false, eval (.Name y py) X.env) :: starEach es X.env := by rfl) : ClsV X (.Name y py :: es) (.ref C :: cs) (.ref C :: cvs) :=
  ⟨pa_cons (pe_glob (v := .ref C) hgy hmy rfl hdy) r.pa hs, fun us h => by
    cases h with
    | cons h1 h2 =>
      rw [r.rel _ h2]
      exact congrArg (· :: cvs) h1⟩
theorem clsv_consT {y : Str} {T : String} {py : Pos} {es : List Expr} {cs : List V} {cvs : List Value} (hmT : X.mg y = none) (r : ClsV X es cs cvs) (hgy : Gl X y := by rfl) (hvT : bootBuiltins y = some (.type T) := by decide +kernel) (hn : y ≠ "__name__" := by decide) (hdy : (y == ("__debug__" : Str)) = false := by decide)
    (hs : starEach (.Name y py :: es) X.env = (false, eval (.Name y py) X.env) :: starEach es X.env := by rfl) : ClsV X (.Name y py :: es) (.ty T :: cs) (.type T :: cvs) :=
  ⟨pa_cons (pe_bltn (v := .ty T) hgy hmT hvT rfl hn hdy) r.pa hs, fun us h => by
    cases h with
    | cons h1 h2 =>
      rw [r.rel _ h2]
      exact congrArg (· :: cvs) h1⟩
theorem ev_isXs {v : Str} {pv p pt : Pos} {es : List Expr} {cs : List V} {cvs : List Value} {jt : Nat} (j : Nat) (xs : List String) {cl : String → Bool} (hm : X.mg "isinstance" = none) (hE : ErrT X.K xs) (hC : ClsV X es cs cvs) (hT : IsTs X.K xs cvs cl) (hz : cs.length ≤ 10)
    (hN : X.N[j]? = some v := by rfl) (hv : Vis X.env.scope v := by first | exact Or.inl rfl | exact Or.inr (Or.inl rfl) | exact Or.inr (Or.inr rfl)) (hd : (v == ("__debug__" : Str)) = false := by decide) (hcd : (v == ("__classdict__" : Str)) = false := by decide) (hg : Gl X "isinstance" := by rfl)
    (hs2 : starEach [.Tuple es jt pt] X.env = (false, eval (.Tuple es jt pt) X.env) :: starEach [] X.env := by rfl) (hs : starEach [.Name v pv, .Tuple es jt pt] X.env = (false, eval (.Name v pv) X.env) :: starEach [.Tuple es jt pt] X.env := by rfl)
    (hpl : (backTo pos (starEach [.Tuple es jt pt] X.env)).any (·.1) = false := by rfl) : EV X cm W (.Call (.Name "isinstance" p) [.Name v pv, .Tuple es jt pt] [] pos) (fIsX j xs cl) := by
  refine ⟨_, pe_callB call_isKs hg hm (by decide +kernel) (pa_cons (pe_var hN hv hd hcd) (pa_cons (pe_tup hC.pa) pa_nil hs2) hs) (by decide) (by decide) hs hpl, fun s Q z q => ?_⟩
  unfold fIsX at q
  split at q
  · rename_i x g
    split at q
    · rename_i hx
      obtain ⟨a, t, h2⟩ := z.fn j _ g
      obtain ⟨C, d, n1, n2, n3, _⟩ := tag_exc z.fh t
      have hx : x.cls ∈ xs := by simpa using hx
      obtain ⟨C1, m1, m2⟩ := hE _ hx
      obtain ⟨C2, k1, k2⟩ := hT _ hx
      rw [n1] at m1 k1
      cases m1
      cases k1
      refine ⟨.ref a, h2, tCs_eq cs ⟨Nat.le_trans hz (Nat.le_trans (by decide : 10 ≤ 4000) (small_len (Nat.le_refl _))), fun p hp => ?_⟩⟩
      have hpa : a ≠ p := fun e => by rw [e, hp] at n2; cases n2
      refine ⟨a, C, p, d, cs, cvs, cl x.cls, rfl, by rw [upd_ne hpa]; exact n2, ?_, m2, upd_same, hC.rel, k2, ?_⟩
      · cases d with
        | none => trivial
        | some dx =>
          obtain ⟨fs, hx⟩ := n3
          exact ⟨fs, by rw [upd_ne fun e => by rw [e, hp] at hx; cases hx]; exact hx⟩
      · exact q (.bl _) s.F _ (Stp.laid z hp _) (z.laid hp _) (.bl _)
    · exact q.elim
  · exact q.elim
end
end BV
/-! tuple(range(n)), list(range(a, b)) -/
namespace BV
open PySem PySem.Spec PyProof.Rows L2
section
variable {X : Cx} {cm : CMap} {W : WX} {pos p p2 pos2 : Pos} {a b e : Expr} {te : L2.St → Hp → (Int → Int → Hp → Prop) → Prop} {fa fb : Env → Out (Val × Env)}
def tTupRgF (te : L2.St → Hp → (Int → Int → Hp → Prop) → Prop) : TE := fun σ H Q => te σ H fun a b H1 => RgOk a b ∧ NewT H1 (rgV a b) Q
theorem pe_tupRgF (hc : X.calm = true) (hg : Gl X "tuple") (hm : X.mg "tuple" = none) (he : PRg X e te) (na : starEach [e] X.env = (false, eval e X.env) :: starEach [] X.env := by rfl) : PE X (.Call (.Name "tuple" p) [e] [] pos) (tTupRgF te) := by
  refine ⟨fun pins s σ H Q I h => ?_⟩
  refine Call_ (ld_blt I hg hm boot_tuple (PyProof.Rows.callWith_type1 (args_cons (thn (he pins s σ H _ I h) fun x s1 ⟨r, a, b, t, u, v, H1, ex, hr, I1, ok, q⟩ => args_nil ?_) na) na))
  subst ex
  obtain ⟨b1, b2, b3, b4, b5⟩ := ok
  refine call_tuple_range (n := (b - a).toNat) (I1.ok.hd hc) hr (small_one b1 b2 b3 b4) (rangeSize_nat a b) b5 fun h' tk acc hk hi => ?_
  have I2 : L2.Inv X pins σ H1 { s1 with heap := h', toks := tk } := I1.kept hk
  have := lay_tup I2 (vals_rg hi) (by rw [rgV_length, sizeLine_eq]; omega) q
  rw [Array.toArray_toList] at this
  exact this
theorem ev_tupRg1 (hc : X.calm = true) (hm : X.mg "tuple" = none) (hm2 : X.mg "range" = none) (ha : EV X cm W a fa) (hg : Gl X "tuple" := by rfl) (hg2 : Gl X "range" := by rfl)
    (na : starEach [a] X.env = (false, eval a X.env) :: starEach [] X.env := by rfl)
    (nb : starEach [.Call (.Name "range" p2) [a] [] pos2] X.env = (false, eval (.Call (.Name "range" p2) [a] [] pos2) X.env) :: starEach [] X.env := by rfl) :
    EV X cm W (.Call (.Name "tuple" p) [.Call (.Name "range" p2) [a] [] pos2] [] pos) (fLRg1 (fun ds => .frz (.tuple ds)) fa) := by
  obtain ⟨ta, pa, ea⟩ := ha
  refine ⟨_, pe_tupRgF hc hg hm (prg_1 hg2 hm2 pa na) nb, fun s Q z p => ?_⟩
  refine ea.fz.step z p fun v val e1 F1 H1 x y r p1 => ?_
  simp only at p1
  split at p1
  · rename_i n
    split at p1
    · rename_i hn
      cases (show Rp X.K F1 v (.int n) from r)
      refine ⟨n, rfl, ⟨by omega, by omega, hn.1, by omega, by omega⟩, ?_⟩
      have e : (n - 0).toNat = n.toNat := by rw [Int.sub_zero]
      exact Gives.tuple (K := X.K) (s := ⟨F1, H1, s.σ, e1⟩) (ds := rints 0 n.toNat) (Q := Q) p1 y (by rw [← e]; exact rgV_eq 0 n)
    · exact p1.elim
  · exact p1.elim
def lrK3 (i : Val) (b : Val × Env) : Out (Val × Env) := match i, b.1 with
  | .frz (.int i), .frz (.int j) => if -(2 ^ 62) ≤ i ∧ i < 2 ^ 62 ∧ -(2 ^ 62) ≤ j ∧ j < 2 ^ 62 ∧ (j - i).toNat ≤ 2 ^ 24 then .ok (.new (.lst (rints i (j - i).toNat)), b.2) else .bad
  | _, _ => .bad
def lrK2 (g : Env → Out (Val × Env)) (a : Val × Env) : Out (Val × Env) := (fz g a.2).bind (lrK3 a.1)
def fLRg2 (f g : Env → Out (Val × Env)) : Env → Out (Val × Env) := fun e => (fz f e).bind (lrK2 g)
theorem ev_listRg2 (hc : X.calm = true) (hm : X.mg "list" = none) (hm2 : X.mg "range" = none) (ha : EV X cm W a fa) (hb : EV X cm W b fb) (hg : Gl X "list" := by rfl) (hg2 : Gl X "range" := by rfl)
    (na : starEach [a, b] X.env = (false, eval a X.env) :: starEach [b] X.env := by rfl) (nb1 : starEach [b] X.env = (false, eval b X.env) :: starEach [] X.env := by rfl) (hp : (backTo pos2 (starEach [b] X.env)).any (·.1) = false := by rfl)
    (nb : starEach [.Call (.Name "range" p2) [a, b] [] pos2] X.env = (false, eval (.Call (.Name "range" p2) [a, b] [] pos2) X.env) :: starEach [] X.env := by rfl) :
    EV X cm W (.Call (.Name "list" p) [.Call (.Name "range" p2) [a, b] [] pos2] [] pos) (fLRg2 fa fb) := by
  obtain ⟨ta, pa, ea⟩ := ha
  obtain ⟨tb, pb, eb⟩ := hb
  refine ⟨_, pe_listRg hc hg hm (prg_2 hg2 hm2 pa pb na nb1 hp) nb, fun s Q z p => ?_⟩
  refine ea.fz.step z p fun v val e1 F1 H1 x y r p1 => ?_
  refine eb.fz.step (s := ⟨F1, H1, s.σ, e1⟩) y p1 fun v2 val2 e2 F2 H2 x2 y2 r2 p2 => ?_
  unfold lrK3 at p2
  split at p2
  · rename_i i j hi hj
    split at p2
    · rename_i hn
      have r' : Rp X.K F1 v (.int i) := by
        have hi : val = .frz (.int i) := by first | exact hi | assumption | rfl
        rw [hi] at r
        exact r
      cases r'
      have r2' : Rp X.K F2 v2 (.int j) := by
        have hj : val2 = .frz (.int j) := by first | exact hj | assumption | rfl
        rw [hj] at r2
        exact r2
      cases r2'
      exact ⟨i, j, rfl, rfl, ⟨hn.1, hn.2.1, hn.2.2.1, hn.2.2.2.1, hn.2.2.2.2⟩, fun q hq => Gives.list (K := X.K) (s := ⟨F2, H2, s.σ, e2⟩) (ds := rints i (j - i).toNat) (Q := Q) p2 y2 (rgV_eq i j) hq⟩
    · exact p2.elim
  · exact p2.elim
end
@[simp] theorem fLRg2_eq (f g : Env → Out (Val × Env)) (e : Env) : fLRg2 f g e = (fz f e).bind (lrK2 g) := rfl
@[simp] theorem lrK2_eq (g : Env → Out (Val × Env)) (v : Val) (e : Env) : lrK2 g (v, e) = (fz g e).bind (lrK3 v) := rfl
@[simp] theorem lrK3_eq (i j : Int) (e : Env) : lrK3 (.frz (.int i)) (.frz (.int j), e) = if -(2 ^ 62) ≤ i ∧ i < 2 ^ 62 ∧ -(2 ^ 62) ≤ j ∧ j < 2 ^ 62 ∧ (j - i).toNat ≤ 2 ^ 24 then .ok (.new (.lst (rints i (j - i).toNat)), e) else .bad := rfl
end BV
/-! set(tuple of ints) -/
namespace BV
open PySem PySem.Spec PyProof.Rows L2
section
variable {P : Program} {w : World} {A : Around} {E : Value → Shared → Prop} {s : Shared}
theorem sub_tuple_set : isSubtype (.type "tuple") (.type "set") = pure false := by rw [isSubtype_type]; kernel_rfl
theorem sub_tuple_frozenset : isSubtype (.type "tuple") (.type "frozenset") = pure false := by rw [isSubtype_type]; kernel_rfl
theorem set_of_tup {l : Addr} {its : Array Value} (ns : List Int) {Q : Value → Shared → Prop} (calm : A.handled = none) (il : s.heap.IsTuple l its) (ia : IntsAre its.toList ns) (room : ns.length + 1 < scanBound)
    (k : SetOfInts w s ns Q) : wpAny (model P w) A (call (.type "set") [.ref l]) Q E s := by
  have sz : its.size = ns.length := by rw [← Array.length_toList]; exact IntsAre.length ia
  obtain ⟨mc, mt, mm⟩ := F.called_set.mro
  have m1 := F.called_set.made
  have m2 := F.called_set.sub
  refine wpAny_call (codeAny_of_tree (show wpAny _ _ (callAny (.type "set") _) _ _ _ from ?_))
  refine wpAny_pure ⟨Code.quiet_builtin _ (by decide +kernel), codeAny_builtin F.entry_type_call ?_⟩
  rw [Around.under_plain (weight_type_call_type "set" [.ref l] []) rfl]
  have m3 := F.called_set.notType
  have m4 := F.called_set.canCreate
  have m5 := F.typeCall_set_1 (.ref l)
  repeat (any_goals (first | assumption | wp_step))
  refine codeAny_mono (code_set_led1 (.ref l) (E := E) (Q₁ := fun v s1 => v = .ref s.heap.objs.size ∧ s1 = { s with heap := s.heap.push (nset w) }) ⟨rfl, rfl⟩) fun r s1 hr => ?_
  cases r with
  | error e => exact hr
  | ok fl =>
    cases fl with
    | ret v =>
      obtain ⟨rfl, rfl⟩ := hr
      have at0 : (s.heap.push (nset w)).get? s.heap.objs.size = some (nset w) := Heap.get?_push_size _ rfl
      have ty0 : Shared.TypeIs { s with heap := s.heap.push (nset w) } (.ref s.heap.objs.size) "set" := ⟨_, at0, rfl⟩
      have i1 := F.called_set.init.lookup
      have i2 := F.called_set.init.bind (.ref s.heap.objs.size)
      repeat (any_goals (first | assumption | wp_step))
      refine codeAny_mono (codeAny_call_builtin (R := wants (fun v s2 => v = .none ∧ ∃ h' tk c, s2 = { s with heap := h', toks := tk } ∧ SetR w h' s.heap.objs.size (fun j => decide (j ∈ ns)) c ∧ c ≤ ns.length ∧
        (∀ b o, s.heap.get? b = some o → h'.get? b = some o)) E) F.called_set.init.plain F.entry_set_init (check_set_init_1 ty0 ?_)) fun r2 s2 hr2 => ?_
      · have il1 : (s.heap.push (nset w)).IsTuple l its := il.push _
        obtain ⟨⟨oc, od, odt, osl⟩, ol, oc1, nl, od1⟩ := il
        simp only at oc1 od1
        subst oc1 od1
        have ol1 : (s.heap.push (nset w)).get? l = some { cls := .type "tuple", dict := od, data := .seq its nl, slots := osl } := Heap.get?_push_of_some _ ol
        have n1 := sub_tuple_set
        have n2 := sub_tuple_frozenset
        have n3 : (Value.type "tuple" == Value.type "dict") = false := by decide
        unfold Builtin.«set.__init__» noKeywords Builtin.Frozenset.updateFrom
        generalize hp : pyIter = pp
        wp_walk
        subst hp
        refine wpAny_pyIter_tuple il1 (wpAny_bind (wpAny_runValue ?_))
        have lt : l < s.heap.objs.size := Heap.lt_size ol
        have calm3 : A.in1.in1.in1.handled = none := by simp [calm]
        have sz2 : (s.heap.push (nset w)).objs.size = s.heap.objs.size + 1 := Heap.size_push ..
        have ne1 : l ≠ (s.heap.push (nset w)).objs.size := fun e => Nat.ne_of_lt (Nat.lt_succ_of_lt lt) (e.trans sz2)
        have nin : s.heap.objs.size ∉ [(s.heap.push (nset w)).objs.size, l] := by
          rw [sz2, List.mem_cons, List.mem_singleton, not_or]
          exact ⟨fun e => Nat.ne_of_lt (Nat.lt_succ_self _) e, fun e => Nat.ne_of_gt lt e⟩
        refine set_update_ints ((Walks.tuple calm3 _ l ne1 its).toS) s.heap.objs.size nin ns sz room (fun i v hv => ?_) (its.size - 0) 0 _ (by omega) (Nat.zero_le _) ⟨⟨_, Heap.get?_push_size _ rfl, rfl, rfl⟩, il1.push _⟩ ?_ ?_
        · have li : i < ns.length := by rw [← sz]; exact (Array.getElem?_eq_some_iff.mp hv).1
          obtain ⟨t, e⟩ := PyProof.Rows.IntsAre.int_at ia i v (by rw [Array.getElem?_toList]; exact hv)
          exact ⟨ns[i], t, List.getElem?_eq_getElem li, by rw [e, List.getD_eq_getElem?_getD, List.getElem?_eq_getElem li] <;> rfl⟩
        · exact ⟨0, Nat.le_refl 0, setR_new_at (Heap.get?_push_of_some _ at0)⟩
        · rintro ⟨h', g2, d2, tk2, o2⟩ c mv hc hS
          have e1 : g2 = s.gens := mv.gens
          have e2 : d2 = s.drawn := mv.drawn
          have e3 : o2 = s.os := mv.os
          subst e1 e2 e3
          refine wpAny_pure (show wpAny _ _ (ret Value.none) _ _ _ from wpAny_pure ⟨rfl, h', tk2, c, rfl, hS, by omega, fun b o e => ?_⟩)
          have lb : b < s.heap.objs.size := Heap.lt_size e
          refine mv.heap b o ?_ (Heap.get?_push_of_some _ (Heap.get?_push_of_some _ e))
          rw [sz2, List.mem_cons, List.mem_singleton, not_or]
          exact ⟨fun e => Nat.ne_of_lt lb e, fun e => Nat.ne_of_lt (Nat.lt_succ_of_lt lb) e⟩
      · cases r2 with
        | error e => exact hr2
        | ok f2 =>
          cases f2 with
          | ret v =>
            obtain ⟨rfl, h', tk, c, rfl, hS, hc, hk⟩ := hr2
            repeat (any_goals (first | assumption | wp_step))
            exact k _ _ _ hS hc hk
          | _ => exact hr2.elim
    | _ => exact hr.elim
end
/-- sorted(set(x)) of a list or a tuple of ints -/
def gSortSetB : D → Option Val
  | .list ds => match asInts ds with
    | some ns => if ns.length ≤ 4000 ∧ (rising ns).length < 4001 then some (.new (.lst ((rising ns).map .int))) else none
    | none => none
  | .tuple ds => match asInts ds with
    | some ns => if ns.length ≤ 4000 ∧ (rising ns).length < 4001 then some (.new (.lst ((rising ns).map .int))) else none
    | none => none
  | _ => none
section
variable {X : Cx} {cm : CMap} {W : WX} {a b : Expr} {fa fb : Env → Out (Val × Env)}
def tSortSetB (K : PySem.W.Frag) (ta : TE) : TE := fun σ H Q => ta σ H fun x H1 => ∃ (l : Addr) (ns : List Int), x = .ref l ∧ (SqL K H1 l (ns.map V.int) ∨ SqT K H1 l (ns.map V.int)) ∧ ns.length ≤ 4000 ∧ (rising ns).length < 4001 ∧
  ∀ p, H1 p = none → Q (.ref p) (upd H1 p (.lst ((rising ns).map V.int)))
theorem pe_sortSetB {ta : TE} {p p2 q pos : Pos} (hc : X.calm = true) (hm : X.mg "sorted" = none) (hm2 : X.mg "set" = none) (ha : PE X a ta) (hg : Gl X "sorted") (hg2 : Gl X "set")
    (na : starEach [a] X.env = (false, eval a X.env) :: starEach [] X.env) : PE X (.Call (.Name "sorted" p) [.Call (.Name "set" p2) [a] [] q] [] pos) (tSortSetB X.K ta) := by
  refine ⟨fun pins s σ H Q I h => Call_ (ld_blt I hg hm PyProof.Rows.boot_sorted (PyProof.Rows.callWith_builtin1 (PyProof.Rows.args_cons ?_ rfl) rfl rfl))⟩
  refine Call_ (ld_blt I hg2 hm2 PyProof.Rows.boot_set (PyProof.Rows.callWith_type1 (PyProof.Rows.args_cons (thn (ha.run pins s σ H _ I h) fun v s1 hh => PyProof.Rows.args_nil ?_) na) na rfl))
  obtain ⟨x, H1, I1, r1, l, ns, rfl, hq, h1, h64, q1⟩ := hh
  cases r1
  rcases hq with hq | hq
  · obtain ⟨its, r, pl, hz⟩ := I1.list hq
    refine set_of_ints ns (I1.ok.hd hc) pl.isList (by simpa using r.ints) (by unfold scanBound; omega) fun h' tk c R hcl hk => ?_
    refine PyProof.Rows.args_nil ?_
    have I2 : L2.Inv X pins σ H1 { s1 with heap := h', toks := tk } := I1.kept fun b o e => hk b o e
    have hcn := setR_count R (ns := ns) fun k => by simp
    refine sorted_setA R (I2.ok.hd hc) (by omega) fun s' p out cc ns' kk gg oo hp hgt hi hs hmm hl => ?_
    have e0 : ns' = rising ns := rising_uniq hs (rising_lt ns) fun k => by rw [hmm k, rising_mem]; simp
    subst e0
    have hlen : ((rising ns).map V.int).length ≤ sizeLine := by rw [List.length_map, sizeLine_eq]; omega
    exact ⟨.ref p, _, set_laid I2 kk gg oo hp hgt hi hlen, rfl, q1 p (I2.hok.fresh hp)⟩
  · obtain ⟨its, r, pl, hz⟩ := I1.tuple hq
    refine set_of_tup ns (I1.ok.hd hc) (show s1.heap.IsTuple l its.toArray from pl) (by simpa using r.ints) (by unfold scanBound; omega) fun h' tk c R hcl hk => ?_
    refine PyProof.Rows.args_nil ?_
    have I2 : L2.Inv X pins σ H1 { s1 with heap := h', toks := tk } := I1.kept fun b o e => hk b o e
    have hcn := setR_count R (ns := ns) fun k => by simp
    refine sorted_setA R (I2.ok.hd hc) (by omega) fun s' p out cc ns' kk gg oo hp hgt hi hs hmm hl => ?_
    have e0 : ns' = rising ns := rising_uniq hs (rising_lt ns) fun k => by rw [hmm k, rising_mem]; simp
    subst e0
    have hlen : ((rising ns).map V.int).length ≤ sizeLine := by rw [List.length_map, sizeLine_eq]; omega
    exact ⟨.ref p, _, set_laid I2 kk gg oo hp hgt hi hlen, rfl, q1 p (I2.hok.fresh hp)⟩
theorem ev_sortSetB {p p2 q pos : Pos} (hc : X.calm = true) (hm : X.mg "sorted" = none) (hm2 : X.mg "set" = none) (ha : EV X cm W a fa) (hg : Gl X "sorted" := by rfl) (hg2 : Gl X "set" := by rfl)
    (na : starEach [a] X.env = (false, eval a X.env) :: starEach [] X.env := by rfl) : EV X cm W (.Call (.Name "sorted" p) [.Call (.Name "set" p2) [a] [] q] [] pos) (un gSortSetB fa) := by
  obtain ⟨ta, pa, ea⟩ := ha
  refine ⟨_, pe_sortSetB hc hm hm2 pa hg hg2 na, fun s Q z p => ?_⟩
  refine ea.fz.step z p fun v val e1 F1 H1 x y r p1 => ?_
  simp only at p1
  cases q : opd e1 val with
  | none =>
    rw [q] at p1
    exact p1.elim
  | some d =>
    rw [q] at p1
    obtain ⟨w, e, k⟩ := p1.gives
    have o := r.opn y q
    cases d with
    | list ds =>
      simp only [gSortSetB] at e
      split at e
      · rename_i ns hns
        split at e
        · rename_i hl
          cases e
          obtain ⟨l, xs, rfl, s1, a1⟩ := o
          have := asInts_eq hns
          subst this
          have := a1.ints
          subst this
          exact ⟨l, ns, rfl, Or.inl s1, hl.1, hl.2, fun p hp => k.list y (RpA.ofInts) hp⟩
        · cases e
      · cases e
    | tuple ds =>
      simp only [gSortSetB] at e
      split at e
      · rename_i ns hns
        split at e
        · rename_i hl
          cases e
          obtain ⟨l, xs, rfl, s1, a1, _⟩ := opn_tup y.fh o
          have := asInts_eq hns
          subst this
          have := a1.ints
          subst this
          exact ⟨l, ns, rfl, Or.inr s1, hl.1, hl.2, fun p hp => k.list y (RpA.ofInts) hp⟩
        · cases e
      · cases e
    | _ => cases e
end
@[simp] theorem gSortSetB_l {ns : List Int} (h1 : ns.length ≤ 4000) (h2 : (rising ns).length < 64) : gSortSetB (.list (ns.map .int)) = some (.new (.lst ((rising ns).map .int))) := by
  simp only [gSortSetB, asInts_map]
  rw [if_pos ⟨h1, by omega⟩]
@[simp] theorem gSortSetB_t {ns : List Int} (h1 : ns.length ≤ 4000) (h2 : (rising ns).length < 64) : gSortSetB (.tuple (ns.map .int)) = some (.new (.lst ((rising ns).map .int))) := by
  simp only [gSortSetB, asInts_map]
  rw [if_pos ⟨h1, by omega⟩]
end BV
/-! repr of data that holds empty dicts -/
namespace BV
open PySem PySem.Spec PyProof.Rows L2
mutual
def nodicE : D → Bool
  | .list ds => nodicEA ds
  | .tuple ds => nodicEA ds
  | .dict kvs => kvs.isEmpty
  | .none => true
  | .bool _ => true
  | .int _ => true
  | .str _ => true
def nodicEA : List D → Bool
  | [] => true
  | d :: ds => nodicE d && nodicEA ds
end
section
variable {X : Cx} {pins : List (Addr × Obj)} {σ : L2.St} {H : Hp} {s : Shared}
mutual
theorem rKd (I : Inv X pins σ H s) : ∀ (d : D) (v : V) (u : Value), Rp X.K H v d → RelV v u → nodicE d = true → d.showable = true → d.shown.length ≤ sizeLine →
    ∃ bs, ReadAtMost s.heap d.depth bs ∧ ReprK X.prog X.w bs s.heap d.depth u d.shown
  | .none, _, _, h, r, _, hs, hz => by
    cases h
    cases r
    exact ReprK.of_reads .none hs (fun q => by simp [PyData.hasDict] at q) hz
  | .bool b, _, _, h, r, _, hs, hz => by
    cases h
    cases r
    exact ReprK.of_reads (.bool b) hs (fun q => by simp [PyData.hasDict] at q) hz
  | .int i, _, _, h, r, _, hs, hz => by
    cases h
    obtain ⟨t, rfl⟩ := r
    exact ReprK.of_reads (.int i t) hs (fun q => by simp [PyData.hasDict] at q) hz
  | .str x, _, _, h, r, _, hs, hz => by
    cases h
    obtain ⟨t, rfl⟩ := r
    exact ReprK.of_reads (.str x t) hs (fun q => by simp [PyData.hasDict] at q) hz
  | .list ds, _, _, h, r, hn, hs, hz => by
    cases h with
    | lst hq ha =>
      cases r
      obtain ⟨its, rv, ⟨o, n, ho, hc, _, hd⟩, _⟩ := I.list hq
      obtain ⟨as, hr⟩ := RpA.reads I ds _ its ha rv
      have hz' : (listText (PyData.shownAll ds)).length ≤ sizeLine := by simpa only [PyData.shown] using hz
      have r := Reads.list ho hc hd hr
      obtain ⟨bs, hb, hk⟩ := rKdA I ds _ its ha rv (by simpa [nodicE] using hn) (by simpa [PyData.showable] using hs) (fun t ht => Nat.le_trans (listText_mem_le ht) hz')
      have hna := not_mem_of_deeper r (by simp only [PyData.depth]; omega) hb
      refine ⟨_ :: bs, ReadAtMost.cons r (by simp only [PyData.depth]; omega) hb, ?_⟩
      simp only [PyData.depth, PyData.shown]
      cases its with
      | nil =>
        cases hr
        simp only [PyData.shownAll, listText_nil]
        exact ReprK.listEmpty ho hc hd
      | cons x l => exact ReprK.list ho hc hd hna (by simpa using hk.length_eq) (fun i y e => hk.item i y (by simpa using e))
  | .tuple ds, _, _, h, r, hn, hs, hz => by
    cases h with
    | tup hq ha =>
      cases r
      obtain ⟨its, rv, ⟨o, ho, hc, n, hd⟩, _⟩ := I.tuple (hq.sq (K := X.K))
      obtain ⟨as, hr⟩ := RpA.reads I ds _ its ha rv
      have hz' : (tupleText (PyData.shownAll ds)).length ≤ sizeLine := by simpa only [PyData.shown] using hz
      have r := Reads.tuple ho hc hd hr
      obtain ⟨bs, hb, hk⟩ := rKdA I ds _ its ha rv (by simpa [nodicE] using hn) (by simpa [PyData.showable] using hs) (fun t ht => Nat.le_trans (tupleText_mem_le ht) hz')
      have hna := not_mem_of_deeper r (by simp only [PyData.depth]; omega) hb
      refine ⟨_ :: bs, ReadAtMost.cons r (by simp only [PyData.depth]; omega) hb, ?_⟩
      simp only [PyData.depth, PyData.shown]
      exact ReprK.tuple ho hc hd hna hk
  | .dict kvs, _, _, h, r, hn, hs, hz => by
    have e0 : kvs = [] := by simpa [nodicE] using hn
    subst e0
    have rd := Rp.reads I (.dict []) _ _ h r
    cases h with
    | dic hq ha =>
      cases ha
      cases r
      obtain ⟨_, hlow, ys, kv, o, es, ep, ho, hx, hd, _, hp, _⟩ := I.hok _ _ hq
      cases kv
      have he : es.toList = [] := by
        have := Pairs.vals hp
        simpa using this
      have r : Reads s.heap (.ref _) (.dict []) _ := .dict (as := []) (bs := []) ho hx.1 hd (by rw [he]; exact .nil) (by rw [he]; exact .nil)
      have hb : ReadAtMost s.heap (PyData.depthKv []) [] := fun _ h => nomatch h
      refine ⟨[_], ReadAtMost.cons r (by simp only [PyData.depth]; omega) hb, ?_⟩
      simp only [PyData.depth, PyData.shown, PyData.shownKv_eq]
      exact ReprK.dict ho hx.1 hd hlow (by simp) (ReprEntriesK.of_two es.toList [] [] (by rw [he]; exact .nil) (by rw [he]; exact .nil))
theorem rKdA (I : Inv X pins σ H s) : ∀ (ds : List D) (vs : List V) (us : List Value), RpA X.K H vs ds → Vals vs us → nodicEA ds = true → PyData.showableAll ds = true → (∀ t ∈ PyData.shownAll ds, t.length ≤ sizeLine) →
    ∃ bs, ReadAtMost s.heap (PyData.depthAll ds) bs ∧ ReprAllK X.prog X.w bs s.heap (PyData.depthAll ds) us (PyData.shownAll ds)
  | [], _, _, h, r, _, _, _ => by
    cases h
    cases r
    exact ⟨[], (fun _ h => nomatch h), by simp only [PyData.shownAll]; exact .nil⟩
  | d :: ds, _, _, h, r, hn, hs, hz => by
    cases h with
    | cons h1 h2 =>
      cases r with
      | cons r1 r2 =>
        have hs' : d.showable = true ∧ PyData.showableAll ds = true := by simpa [PyData.showableAll] using hs
        have hn' : nodicE d = true ∧ nodicEA ds = true := by simpa [nodicEA] using hn
        obtain ⟨b1, hb1, k1⟩ := rKd I d _ _ h1 r1 hn'.1 hs'.1 (hz _ (by simp only [PyData.shownAll]; exact List.mem_cons_self ..))
        obtain ⟨b2, hb2, k2⟩ := rKdA I ds _ _ h2 r2 hn'.2 hs'.2 (fun t ht => hz t (by simp only [PyData.shownAll]; exact List.mem_cons_of_mem _ ht))
        refine ⟨b1 ++ b2, ?_, ?_⟩
        · intro b hm
          simp only [PyData.depthAll]
          rcases List.mem_append.mp hm with hm | hm
          · obtain ⟨d', as', r', hd'⟩ := hb1 b hm
            exact ⟨d', as', r', Nat.le_trans hd' (Nat.le_max_left _ _)⟩
          · obtain ⟨d', as', r', hd'⟩ := hb2 b hm
            exact ⟨d', as', r', Nat.le_trans hd' (Nat.le_max_right _ _)⟩
        · simp only [PyData.depthAll, PyData.shownAll]
          exact .cons ((k1.more fun b hb => List.mem_append_left _ hb).level_le (Nat.le_max_left _ _)) (k2.more_le (fun b hb => List.mem_append_right _ hb) (Nat.le_max_right _ _))
end
theorem shE (I : Inv X pins σ H s) : ∀ (d : D) (v : V) (a : Addr), Rp X.K H v d → RelV v (.ref a) → nodicE d = true → d.showable = true → d.shown.length ≤ sizeLine → ∃ T idr, ShowsBy X.prog X.w s.heap a d T idr
  | .none, _, _, h, r, _, _, _ => by
    cases h
    cases r
  | .bool b, _, _, h, r, _, _, _ => by
    cases h
    cases r
  | .int i, _, _, h, r, _, _, _ => by
    cases h
    obtain ⟨t, e⟩ := r
    cases e
  | .str x, _, _, h, r, _, _, _ => by
    cases h
    obtain ⟨t, e⟩ := r
    cases e
  | .list ds, _, a, h, r, hn, hs, hz => by
    cases h with
    | lst hq ha =>
      cases r
      obtain ⟨its, rv, ⟨o, n, ho, hc, _, hd⟩, _⟩ := I.list hq
      obtain ⟨as, hr⟩ := RpA.reads I ds _ its ha rv
      have hz' : (listText (PyData.shownAll ds)).length ≤ sizeLine := by simpa only [PyData.shown] using hz
      have r := Reads.list ho hc hd hr
      obtain ⟨bs, hb, hk⟩ := rKdA I ds _ its ha rv (by simpa [nodicE] using hn) (by simpa [PyData.showable] using hs) (fun t ht => Nat.le_trans (listText_mem_le ht) hz')
      have hna := not_mem_of_deeper r (by simp only [PyData.depth]; omega) hb
      refine ⟨"list", "list.__repr__", F.slot_list_repr.toG, F.slot_list_str, F.slot_list_format, fun s hk0 => ⟨o, hk0 _ _ ho, hc⟩, fun A E s Q hg hu hk0 hQ => ?_⟩
      simp only [PyData.depth] at hu
      simp only [PyData.shown] at hQ
      cases its with
      | nil =>
        cases hr
        simp only [PyData.shownAll, listText_nil] at hQ
        exact call_list_repr_empty ⟨o, hk0 _ _ ho, hc⟩ (hk0 _ _ ho) hd (hQ s.heap _ _ fun _ _ e => e)
      | cons x l =>
        exact call_list_reprK ho hc hd hna (by simpa using hk.length_eq) (fun i y e => hk.item i y (by simpa using e)) hg (fun b _ => Clear.nil b) hu hk0 hQ hz'
  | .tuple ds, _, a, h, r, hn, hs, hz => by
    cases h with
    | tup hq ha =>
      cases r
      obtain ⟨its, rv, ⟨o, ho, hc, n, hd⟩, _⟩ := I.tuple (hq.sq (K := X.K))
      obtain ⟨as, hr⟩ := RpA.reads I ds _ its ha rv
      have hz' : (tupleText (PyData.shownAll ds)).length ≤ sizeLine := by simpa only [PyData.shown] using hz
      have r := Reads.tuple ho hc hd hr
      obtain ⟨bs, hb, hk⟩ := rKdA I ds _ its ha rv (by simpa [nodicE] using hn) (by simpa [PyData.showable] using hs) (fun t ht => Nat.le_trans (tupleText_mem_le ht) hz')
      have hna := not_mem_of_deeper r (by simp only [PyData.depth]; omega) hb
      refine ⟨"tuple", "tuple.__repr__", F.slot_tuple_repr, F.slot_tuple_str, F.slot_tuple_format, fun s hk0 => ⟨o, hk0 _ _ ho, hc⟩, fun A E s Q hg hu hk0 hQ => ?_⟩
      simp only [PyData.depth] at hu
      simp only [PyData.shown] at hQ
      exact call_tuple_reprK ho hc hd hna hk hg (fun b _ => Clear.nil b) hu hk0 hQ hz'
  | .dict kvs, _, a, h, r, hn, hs, hz => by
    have e0 : kvs = [] := by simpa [nodicE] using hn
    subst e0
    cases h with
    | dic hq ha =>
      cases ha
      cases r
      obtain ⟨_, hlow, ys, kv, o, es, ep, ho, hx, hd, _, hp, _⟩ := I.hok _ _ hq
      cases kv
      have he : es.toList = [] := by
        have := Pairs.vals hp
        simpa using this
      have hz' : (dictText (PyData.shownKv [])).length ≤ sizeLine := by simpa only [PyData.shown] using hz
      refine ⟨"dict", "dict.__repr__", F.slot_dict_repr, F.slot_dict_str, F.slot_dict_format, fun s hk0 => ⟨o, hk0 _ _ ho, hx.1⟩, fun A E s Q hg hu hk0 hQ => ?_⟩
      simp only [PyData.depth] at hu
      simp only [PyData.shown, PyData.shownKv_eq] at hQ
      exact call_dict_reprK (as := []) ho hx.1 hd hlow (by simp) (ReprEntriesK.of_two es.toList [] [] (by rw [he]; exact .nil) (by rw [he]; exact .nil)) hg (fun b _ => Clear.nil b) hu hk0 hQ (by
        have q := hz'
        rw [PyData.shownKv_eq] at q
        simpa [PyData.shownAll] using q)
end
def gReprE (d : D) : Option Val := if nodicE d = true ∧ d.showable = true ∧ d.depth ≤ 100 ∧ d.shown.length ≤ sizeLine then some (.frz (.str d.shown)) else none
section
variable {X : Cx}
theorem cd_reprE (hg : X.A.guards = some []) (hu : X.A.units + 150 < cLine) : CallR X (.builtin "repr") (rL1 X.K gReprE) := by
  intro pins s σ H xs us Q I r hq
  obtain ⟨x, rfl, S, dx, val, rfl, z, ox, g, k⟩ := hq
  obtain ⟨u, rfl, rx⟩ := Vals.one r
  unfold gReprE at g
  split at g
  · rename_i c
    obtain ⟨c1, c2, c3, c4⟩ := c
    cases g
    have rp := ox.rp z.fh
    have done : ∀ (h' : Heap) (t tk : Nat), (∀ b o, s.heap.get? b = some o → h'.get? b = some o) → EP X pins σ Q (.str dx.shown t) { s with heap := h', toks := tk } :=
      fun h' t tk kk => ⟨.str dx.shown, S.H, I.kept kk, ⟨_, rfl⟩, k.same z (.str _)⟩
    have viaRef : ∀ a, u = .ref a → wpAny (model X.prog X.w) X.A (call (.builtin "repr") [u]) (EP X pins σ Q) X.xe s := fun a e => by
      subst e
      obtain ⟨T, idr, Sh⟩ := shE I dx x a rp rx c1 c2 c4
      exact call_repr_slot (by omega) (Sh.typeIs s (fun _ _ e => e)) Sh.slotRepr (Sh.call X.A.in1 X.xe s _ hg (by show X.A.units + 1 + dx.depth < cLine; omega) (fun _ _ e => e) fun h' u tk hk => ⟨_, _, rfl, done h' u tk hk⟩)
    cases rp with
    | non =>
      cases rx
      exact P.repr_of_none (done _ _ _ fun _ _ e => e)
    | bl b =>
      cases rx
      exact P.repr_of_bool (done _ _ _ fun _ _ e => e)
    | int i =>
      obtain ⟨t, rfl⟩ := rx
      exact P.repr_of_int (by simpa [PyData.showable] using c2) (done _ _ _ fun _ _ e => e)
    | str y =>
      obtain ⟨t, rfl⟩ := rx
      exact P.repr_of_str (done _ _ _ fun _ _ e => e) c4
    | lst _ _ =>
      cases rx
      exact viaRef _ rfl
    | tup _ _ =>
      cases rx
      exact viaRef _ rfl
    | dic _ _ =>
      cases rx
      exact viaRef _ rfl
  · cases g
end
end BV
/-! what is told of data, with bounds -/
namespace BV
open PySem PySem.Spec PyProof.Rows L2
structure TellE (n b : Nat) (d : D) : Prop where
  nodic : nodicE d = true
  depth : d.depth ≤ n
  showable : d.showable = true
  shown : d.shown.length ≤ b
theorem TellE.mono {n b m c : Nat} {d : D} (h : TellE n b d) (h1 : n ≤ m) (h2 : b ≤ c) : TellE m c d := ⟨h.nodic, Nat.le_trans h.depth h1, h.showable, Nat.le_trans h.shown h2⟩
theorem TellE.none : TellE 1 30 .none := ⟨rfl, by simp [PyData.depth], rfl, by decide⟩
theorem TellE.bool (b : Bool) : TellE 1 30 (.bool b) := ⟨rfl, by simp [PyData.depth], rfl, by cases b <;> decide⟩
theorem TellE.int {i : Int} (h : i.natAbs < 10 ^ 21) : TellE 1 30 (.int i) := by
  refine ⟨rfl, by simp [PyData.depth], ?_, ?_⟩
  · simp only [PyData.showable, decide_eq_true_eq]
    have : i.natAbs.log2 < 70 := by
      by_cases h0 : i.natAbs = 0
      · rw [h0]
        decide
      · exact (Nat.log2_lt h0).mpr (Nat.lt_trans h (by decide))
    omega
  · show (Str.ofString (toString i)).length ≤ 30
    have e := int_text_length_le10 (a := i) (k := 21) (by decide) h
    rw [PySem.ofString_length]
    omega
theorem TellE.str {x : Str} (h : (reprText x).length ≤ 30) : TellE 1 30 (.str x) := ⟨rfl, by simp [PyData.depth], rfl, h⟩
theorem TellE.dict0 : TellE 1 30 (.dict []) := ⟨rfl, by simp [PyData.depth, PyData.depthKv], by simp [PyData.showable, PyData.showableKv], by decide⟩
theorem allE {n b : Nat} : ∀ {ds : List D}, (∀ x ∈ ds, TellE n b x) → nodicEA ds = true ∧ PyData.depthAll ds ≤ n ∧ PyData.showableAll ds = true ∧ ((PyData.shownAll ds).map (·.length)).sum ≤ ds.length * b ∧ (PyData.shownAll ds).length = ds.length
  | [], _ => ⟨rfl, by simp [PyData.depthAll], by simp [PyData.showableAll], by simp [PyData.shownAll], by simp [PyData.shownAll]⟩
  | d :: ds, h => by
    have t := h d List.mem_cons_self
    obtain ⟨h1, h3, h4, h5, h6⟩ := allE (ds := ds) fun x hx => h x (List.mem_cons_of_mem _ hx)
    refine ⟨by simp [nodicEA, t.nodic, h1], ?_, by simp [PyData.showableAll, t.showable, h4], ?_, by simp [PyData.shownAll, h6]⟩
    · have := t.depth
      simp only [PyData.depthAll]
      omega
    · have := t.shown
      simp only [PyData.shownAll, List.map_cons, List.sum_cons, List.length_cons, Nat.add_mul, Nat.one_mul]
      omega
theorem TellE.list {n b m : Nat} {ds : List D} (h : ∀ x ∈ ds, TellE n b x) (hl : ds.length ≤ m) : TellE (n + 1) (m * (b + 2) + 3) (.list ds) := by
  obtain ⟨q1, q3, q4, q5, q6⟩ := allE h
  have hb : ds.length * (b + 2) ≤ m * (b + 2) := Nat.mul_le_mul_right _ hl
  rw [Nat.mul_add] at hb
  refine ⟨by simpa [nodicE] using q1, by simp only [PyData.depth]; omega, by simpa [PyData.showable] using q4, ?_⟩
  have := listText_len_le (PyData.shownAll ds)
  show (listText (PyData.shownAll ds)).length ≤ m * (b + 2) + 3
  omega
theorem TellE.tuple {n b m : Nat} {ds : List D} (h : ∀ x ∈ ds, TellE n b x) (hl : ds.length ≤ m) : TellE (n + 1) (m * (b + 2) + 3) (.tuple ds) := by
  obtain ⟨q1, q3, q4, q5, q6⟩ := allE h
  have hb : ds.length * (b + 2) ≤ m * (b + 2) := Nat.mul_le_mul_right _ hl
  rw [Nat.mul_add] at hb
  refine ⟨by simpa [nodicE] using q1, by simp only [PyData.depth]; omega, by simpa [PyData.showable] using q4, ?_⟩
  have := tupleText_len_le (PyData.shownAll ds)
  show (tupleText (PyData.shownAll ds)).length ≤ m * (b + 2) + 3
  omega
theorem TellE.repr {n b : Nat} {d : D} (h : TellE n b d) (hn : n ≤ 100) (hb : b ≤ 16777216) : gReprE d = some (.frz (.str d.shown)) := by
  unfold gReprE
  rw [if_pos ⟨h.nodic, h.showable, Nat.le_trans h.depth hn, Nat.le_trans h.shown (by rw [sizeLine_eq]; exact hb)⟩]
mutual
theorem nodicE_of : ∀ d : D, BV.nodic d = true → nodicE d = true
  | .none, _ => rfl
  | .bool _, _ => rfl
  | .int _, _ => rfl
  | .str _, _ => rfl
  | .list ds, h => by
    simp only [BV.nodic] at h
    simpa [nodicE] using nodicEA_of ds h
  | .tuple ds, h => by
    simp only [BV.nodic] at h
    simpa [nodicE] using nodicEA_of ds h
  | .dict _, h => by simp [BV.nodic] at h
theorem nodicEA_of : ∀ ds : List D, nodicA ds = true → nodicEA ds = true
  | [], _ => rfl
  | d :: ds, h => by
    simp only [nodicA, Bool.and_eq_true] at h
    simp [nodicEA, nodicE_of d h.1, nodicEA_of ds h.2]
end
theorem gReprE_of {d : D} {v : Val} (h : gRepr d = some v) : gReprE d = some v := by
  unfold gRepr at h
  split at h
  · rename_i c
    unfold gReprE
    rw [if_pos ⟨nodicE_of d c.1, c.2.1, c.2.2.1, c.2.2.2⟩]
    exact h
  · cases h
theorem Lv.reprE {d : D} (h : Lv 3 d) : gReprE d = some (.frz (.str d.shown)) := gReprE_of h.repr
end BV
/-! parts of owned things -/
namespace BV
open PySem PySem.Spec PyProof.Rows L2
def O.kids : O → List O
  | .row os => os
  | .ins _ _ os => os
  | _ => []
def O.kset (os : List O) : O → O
  | .row _ => .row os
  | .ins c ns _ => .ins c ns os
  | o => o
def O.at : List Nat → O → Option O
  | [], o => some o
  | k :: ks, o => match o.kids[k]? with
    | some x => O.at ks x
    | none => none
def O.put (u : O) : List Nat → O → O
  | [], _ => u
  | k :: ks, o => match o.kids[k]? with
    | some x => o.kset (o.kids.set k (O.put u ks x))
    | none => o
def vAt (H : Hp) : List Nat → V → Option V
  | [], v => some v
  | k :: ks, v => match (parts H v)[k]? with
    | some w => vAt H ks w
    | none => none
def PartV (K : PySem.W.Frag) (F H : Hp) (o : O) (v : V) : Prop := (∃ d, o = .leaf d ∧ Rp K F v d) ∨ ∃ p, v = .ref p ∧ OwnAtO K F H o p
theorem PartV.mono {K : PySem.W.Frag} {F F' H H' : Hp} (f : Ex F F') {o : O} {v : V} (h : ∀ a ∈ fp H o v, H' a = H a) : PartV K F H o v → PartV K F' H' o v
  | .inl ⟨d, e, r⟩ => .inl ⟨d, e, r.mono f⟩
  | .inr ⟨p, e, r⟩ => by
    subst e
    exact .inr ⟨p, rfl, OwnAtO.mono f o h r⟩
/-- the list of parts, split at one of them -/
theorem kset_ok {K : PySem.W.Frag} {F H : Hp} : ∀ (os : List O) (vs : List V) (k : Nat) (x : O), OwnLO K F H os vs → os[k]? = some x → ∃ v l r, vs[k]? = some v ∧ PartV K F H x v ∧ fpA H os vs = l ++ (fp H x v ++ r) ∧
    ∀ F' H' x', Ex F F' → (∀ a ∈ l ++ r, H' a = H a) → PartV K F' H' x' v → OwnLO K F' H' (os.set k x') vs ∧ fpA H' (os.set k x') vs = l ++ (fp H' x' v ++ r)
  | [], _, k, x, _, e => by simp at e
  | o :: os, [], k, x, h, e => h.elim
  | o :: os, v :: vs, 0, x, ⟨h1, h2⟩, e => by
    simp at e
    subst e
    refine ⟨v, [], fpA H os vs, rfl, h1, rfl, fun F' H' x' f hh px => ⟨⟨px, OwnLO.mono f os hh h2⟩, ?_⟩⟩
    show fp H' x' v ++ fpA H' os vs = [] ++ (fp H' x' v ++ fpA H os vs)
    rw [fpA_congr os hh]
    rfl
  | o :: os, v :: vs, k + 1, x, ⟨h1, h2⟩, e => by
    obtain ⟨w, l, r, e1, e2, e3, e4⟩ := kset_ok os vs k x h2 (by simpa using e)
    refine ⟨w, fp H o v ++ l, r, by simpa using e1, e2, ?_, fun F' H' x' f hh px => ?_⟩
    · show fp H o v ++ fpA H os vs = _
      rw [e3, List.append_assoc]
    · obtain ⟨g1, g2⟩ := e4 F' H' x' f (fun a ha => hh a (by rw [List.append_assoc]; exact List.mem_append_right _ ha)) px
      have q : ∀ a ∈ fp H o v, H' a = H a := fun a ha => hh a (by rw [List.append_assoc]; exact List.mem_append_left _ ha)
      refine ⟨⟨PartV.mono f q h1, g1⟩, ?_⟩
      show fp H' o v ++ fpA H' (os.set k x') vs = _
      rw [g2, fp_congr o q, List.append_assoc]
theorem kids_own {K : PySem.W.Frag} {F H : Hp} {o : O} {p : Addr} {k : Nat} {x : O} (h : OwnAtO K F H o p) (e : o.kids[k]? = some x) : OwnLO K F H o.kids (parts H (.ref p)) ∧ (∀ os H', H' p = H p → fp H' (o.kset os) (.ref p) = p :: fpA H' os (parts H (.ref p))) ∧ o.kset o.kids = o ∧
    ∀ F' H' os, Ex F F' → H' p = H p → OwnLO K F' H' os (parts H (.ref p)) → OwnAtO K F' H' (o.kset os) p := by
  cases o with
  | lst ds => simp [O.kids] at e
  | dic ds => simp [O.kids] at e
  | leaf d => simp [O.kids] at e
  | row os0 =>
    obtain ⟨vs, h1, h2⟩ := h
    have pe : parts H (.ref p) = vs := by
      show partsO (H p) = _
      rw [h1]
      rfl
    rw [pe]
    refine ⟨h2, fun os H' q => ?_, rfl, fun F' H' os f q r => ⟨vs, q.trans h1, r⟩⟩
    show adr (.ref p) ++ fpA H' os (partsO (H' p)) = _
    rw [q, h1]
    rfl
  | ins c ns os0 =>
    obtain ⟨C, dx, fs, h0, h1, h3, h4, h2⟩ := h
    have pe : parts H (.ref p) = fs.map (·.2) := by
      show partsO (H p) = _
      rw [h1]
      rfl
    rw [pe]
    refine ⟨h2, fun os H' q => ?_, rfl, fun F' H' os f q r => ⟨C, dx, fs, h0, q.trans h1, f _ _ h3, h4, r⟩⟩
    show adr (.ref p) ++ fpA H' os (partsO (H' p)) = _
    rw [q, h1]
    rfl
theorem path_ok {K : PySem.W.Frag} {F H : Hp} : ∀ (ks : List Nat) (o : O) (v : V) (u : O), PartV K F H o v → O.at ks o = some u → ∃ w l r, vAt H ks v = some w ∧ PartV K F H u w ∧ fp H o v = l ++ (fp H u w ++ r) ∧
    ∀ F' H' u', Ex F F' → (∀ a ∈ l ++ r, H' a = H a) → PartV K F' H' u' w → PartV K F' H' (O.put u' ks o) v ∧ fp H' (O.put u' ks o) v = l ++ (fp H' u' w ++ r)
  | [], o, v, u, h, e => by
    cases e
    exact ⟨v, [], [], rfl, h, by simp, fun F' H' u' f hh px => ⟨px, by simp [O.put]⟩⟩
  | k :: ks, o, v, u, h, e => by
    simp only [O.at] at e
    split at e
    · rename_i x ex
      rcases h with ⟨d, rfl, _⟩ | ⟨p, rfl, h⟩
      · simp [O.kids] at ex
      · obtain ⟨a1, a2, a3, a4⟩ := kids_own h ex
        obtain ⟨v1, l, r, b1, b2, b3, b4⟩ := kset_ok _ _ k x a1 ex
        obtain ⟨w, l1, r1, c1, c2, c3, c4⟩ := path_ok ks x v1 u b2 e
        have fe : fp H o (.ref p) = p :: fpA H o.kids (parts H (.ref p)) := by
          have := a2 o.kids H rfl
          rwa [a3] at this
        refine ⟨w, p :: (l ++ l1), r1 ++ r, ?_, c2, ?_, fun F' H' u' f hh px => ?_⟩
        · simp only [vAt]
          rw [b1]
          exact c1
        · rw [fe, b3, c3]
          simp [List.append_assoc]
        · have hp : H' p = H p := hh p (by simp)
          obtain ⟨d1, d2⟩ := c4 F' H' u' f (fun a ha => hh a (by
            rcases List.mem_append.mp ha with q | q
            · simp [q]
            · simp [q])) px
          obtain ⟨g1, g2⟩ := b4 F' H' _ f (fun a ha => hh a (by
            rcases List.mem_append.mp ha with q | q
            · simp [q]
            · simp [q])) d1
          have pu : O.put u' (k :: ks) o = o.kset (o.kids.set k (O.put u' ks x)) := by
            show (match o.kids[k]? with
              | some x => o.kset (o.kids.set k (O.put u' ks x))
              | none => o) = _
            rw [ex]
          rw [pu]
          refine ⟨.inr ⟨p, rfl, a4 F' H' _ f hp g1⟩, ?_⟩
          rw [a2 _ H' hp, g2, d2]
          simp [List.append_assoc]
    · cases e
def O.isLeaf : O → Bool
  | .leaf _ => true
  | _ => false
section
variable {K : PySem.W.Frag} {F H F' H' : Hp} {σ : L2.St} {e e1 : Env} {i : Nat} {o o' u u' : O} {p q : Addr} {ks : List Nat}
theorem Stp.unv {s v v' s' : Sta} (x : Stp v v') (hF : v.F = s.F) (hH : v.H = s.H) (h1 : ∀ a, OwnA v a → OwnA s a) (hF' : s'.F = v'.F) (hH' : s'.H = v'.H) (h2 : ∀ a, OwnA s' a → OwnA v' a ∨ OwnA s a) : Stp s s' := by
  refine ⟨by rw [hF', ← hF]; exact x.ff, fun a o h => ?_, fun a o h n => ?_, fun a h => ?_, fun a o h => ?_⟩
  · rw [hF'] at h
    rw [← hF, ← hH]
    rcases x.fnew a o h with w | w | w
    · exact .inl w
    · exact .inr (.inl w)
    · exact .inr (.inr (h1 a w))
  · rw [← hH] at h
    rw [hH']
    exact x.keep a o h fun w => n (h1 a w)
  · rcases h2 a h with w | w
    · rw [← hH]
      rcases x.own a w with w | w
      · exact .inl (h1 a w)
      · exact .inr w
    · exact .inl w
  · rw [← hH] at h
    rw [hH']
    exact x.dom a o h
/-- a slot is hidden -/
theorem ownA_no {a : Addr} (h : OwnA ⟨F, H, σ, e.set i .no⟩ a) : ∃ j oo pp, j ≠ i ∧ e[j]? = some (Slot.own oo) ∧ σ[j]? = some (some (V.ref pp)) ∧ a ∈ fp H oo (.ref pp) := by
  obtain ⟨j, oo, pp, h1, h2, h3⟩ := h
  rcases set_get h1 with ⟨_, w⟩ | ⟨ne, w⟩
  · cases w
  · exact ⟨j, oo, pp, ne, w, h2, h3⟩
theorem St.hide (z : St K ⟨F, H, σ, e⟩) : St K ⟨F, H, σ, e.set i .no⟩ := by
  refine ⟨(List.length_set ..).trans z.len, z.fh, fun j d h => ?_, fun j oo h => ?_, fun j l oj ol p1 p2 h1 h2 h3 h4 ne => ?_, fun j x h => ?_⟩
  · rcases set_get h with ⟨_, w⟩ | ⟨ne, w⟩
    · cases w
    · exact z.frz j d w
  · rcases set_get h with ⟨_, w⟩ | ⟨ne, w⟩
    · cases w
    · exact z.own j oo w
  · rcases set_get h1 with ⟨_, w⟩ | ⟨n1, w1⟩
    · cases w
    · rcases set_get h2 with ⟨_, w⟩ | ⟨n2, w2⟩
      · cases w
      · exact z.apart j l oj ol p1 p2 w1 w2 h3 h4 ne
  · rcases set_get h with ⟨_, w⟩ | ⟨ne, w⟩
    · cases w
    · exact z.fn j x w
/-- an owned thing is put into a slot -/
theorem St.putOwn (z : St K ⟨F, H, σ, e⟩) (hi : i < σ.length) (os : OwnS K F H p o) (ap : ∀ j oo pp, j ≠ i → e[j]? = some (Slot.own oo) → σ[j]? = some (some (V.ref pp)) → ∀ a ∈ fp H oo (.ref pp), a ∉ fp H o (.ref p)) : St K ⟨F, H, σ.set i (some (.ref p)), e.set i (.own o)⟩ := by
  refine ⟨by simp [z.len], z.fh, fun j d h => ?_, fun j oo h => ?_, fun j l oj ol p1 p2 h1 h2 h3 h4 ne => ?_, fun j x h => ?_⟩
  · rcases set_get h with ⟨_, w⟩ | ⟨ne, w⟩
    · cases w
    · obtain ⟨v, v1, v2⟩ := z.frz j d w
      exact ⟨v, (List.getElem?_set_ne (Ne.symm ne)).trans v1, v2⟩
  · rcases set_get h with ⟨rfl, w⟩ | ⟨ne, w⟩
    · cases w
      exact ⟨p, List.getElem?_set_self hi, os⟩
    · obtain ⟨v, v1, v2⟩ := z.own j oo w
      exact ⟨v, (List.getElem?_set_ne (Ne.symm ne)).trans v1, v2⟩
  · have h3 : (σ.set i (some (.ref p)))[j]? = some (some (V.ref p1)) := h3
    have h4 : (σ.set i (some (.ref p)))[l]? = some (some (V.ref p2)) := h4
    intro a ha hb
    rcases set_get h1 with ⟨e1, q1⟩ | ⟨n1, q1⟩
    · rcases set_get h2 with ⟨e2, q2⟩ | ⟨n2, q2⟩
      · exact ne (e1.trans e2.symm)
      · cases q1
        subst e1
        rw [List.getElem?_set_self hi] at h3
        cases h3
        rw [List.getElem?_set_ne (Ne.symm n2)] at h4
        exact ap l ol p2 n2 q2 h4 a hb ha
    · rcases set_get h2 with ⟨e2, q2⟩ | ⟨n2, q2⟩
      · cases q2
        subst e2
        rw [List.getElem?_set_self hi] at h4
        cases h4
        rw [List.getElem?_set_ne (Ne.symm n1)] at h3
        exact ap j oj p1 n1 q1 h3 a ha hb
      · rw [List.getElem?_set_ne (Ne.symm n1)] at h3
        rw [List.getElem?_set_ne (Ne.symm n2)] at h4
        exact z.apart j l oj ol p1 p2 q1 q2 h3 h4 ne a ha hb
  · rcases set_get h with ⟨_, w⟩ | ⟨ne, w⟩
    · cases w
    · obtain ⟨a, a1, a2⟩ := z.fn j x w
      exact ⟨a, a1, (List.getElem?_set_ne (Ne.symm ne)).trans a2⟩
theorem set_self2 {α : Type} {l : List α} {i : Nat} {a : α} (h : l[i]? = some a) : l.set i a = l := by
  apply List.ext_getElem?
  intro j
  by_cases q : i = j
  · subst q
    rw [List.getElem?_set_self (List.getElem?_eq_some_iff.mp h).1, h]
  · rw [List.getElem?_set_ne q]
/-- what was done while slot i was hidden -/
theorem St.unhide (z : St K ⟨F, H, σ, e⟩) (g : e[i]? = some (Slot.own o)) (g2 : σ[i]? = some (some (V.ref p))) (x : Stp ⟨F, H, σ, e.set i .no⟩ ⟨F', H', σ, e1⟩) (y : St K ⟨F', H', σ, e1⟩) (gn : e1[i]? = some .no) :
    St K ⟨F', H', σ, e1.set i (.own o)⟩ ∧ Stp ⟨F, H, σ, e⟩ ⟨F', H', σ, e1.set i (.own o)⟩ ∧ (∀ a ∈ fp H o (.ref p), H' a = H a) := by
  obtain ⟨p', k1, k2⟩ := z.own i o g
  have k1 : σ[i]? = some (some (V.ref p')) := k1
  rw [g2] at k1
  cases k1
  have k2 : OwnS K F H p o := k2
  have hi : i < σ.length := (List.getElem?_eq_some_iff.mp g2).1
  have nv : ∀ a ∈ fp H o (.ref p), ¬ OwnA ⟨F, H, σ, e.set i .no⟩ a := fun a ha w => by
    obtain ⟨j, oo, pp, ne, w1, w2, w3⟩ := ownA_no w
    exact z.apart j i oo o pp p w1 g w2 g2 ne a w3 ha
  have kp : ∀ a ∈ fp H o (.ref p), H' a = H a := fun a ha => by
    obtain ⟨w, hw⟩ := OwnAt.all o k2.own a ha
    have hw : H a = some w := hw
    rw [hw]
    exact x.keep a w hw (nv a ha)
  have kf : ∀ a ∈ fp H o (.ref p), F' a = none := fun a ha => by
    cases w : F' a with
    | none => rfl
    | some oo =>
      exfalso
      obtain ⟨w2, hw⟩ := OwnAt.all o k2.own a ha
      have hw : H a = some w2 := hw
      rcases x.fnew a oo w with q | q | q
      · have q : F a = some oo := q
        rw [k2.nf a ha] at q
        cases q
      · have q : H a = none := q
        rw [hw] at q
        cases q
      · exact nv a ha q
  have fe := fp_congr o kp
  have nv' : ∀ a ∈ fp H o (.ref p), ¬ OwnA ⟨F', H', σ, e1⟩ a := fun a ha w => by
    rcases x.own a w with w | w
    · exact nv a ha w
    · obtain ⟨w2, hw⟩ := OwnAt.all o k2.own a ha
      have w : H a = none := w
      rw [hw] at w
      cases w
  have y' : St K ⟨F', H', σ, e1.set i (.own o)⟩ := by
    have := y.putOwn hi (k2.later x.ff kp kf) fun j oo pp ne w1 w2 a ha hb => nv' a (by rw [fe] at hb; exact hb) ⟨j, oo, pp, w1, w2, ha⟩
    rwa [set_self2 g2] at this
  refine ⟨y', x.unv (s := ⟨F, H, σ, e⟩) (s' := ⟨F', H', σ, e1.set i (.own o)⟩) rfl rfl (fun a w => ?_) rfl rfl (fun a w => ?_), kp⟩
  · obtain ⟨j, oo, pp, ne, w1, w2, w3⟩ := ownA_no w
    exact ⟨j, oo, pp, w1, w2, w3⟩
  · obtain ⟨j, oo, pp, w1, w2, w3⟩ := w
    rcases set_get w1 with ⟨rfl, w⟩ | ⟨ne, w⟩
    · cases w
      have w2 : σ[j]? = some (some (V.ref pp)) := w2
      rw [g2] at w2
      cases w2
      have w3 : a ∈ fp H' o (.ref p) := w3
      rw [fe] at w3
      exact .inr ⟨j, o, p, g, g2, w3⟩
    · exact .inl ⟨j, oo, pp, w, w2, w3⟩
/-- slot i holds a part for a time -/
theorem St.focus (z : St K ⟨F, H, σ, e⟩) (g : e[i]? = some (Slot.own o)) (g2 : σ[i]? = some (some (V.ref p))) (ha : O.at ks o = some u) (hv : vAt H ks (.ref p) = some (.ref q)) (hl : u.isLeaf = false) : St K ⟨F, H, σ.set i (some (.ref q)), e.set i (.own u)⟩ ∧ OwnS K F H q u ∧
    (∀ F' H' e' u', St K ⟨F', H', σ.set i (some (.ref q)), e'⟩ → Stp ⟨F, H, σ.set i (some (.ref q)), e.set i (.own u)⟩ ⟨F', H', σ.set i (some (.ref q)), e'⟩ → e'[i]? = some (.own u') →
      St K ⟨F', H', σ, e'.set i (.own (O.put u' ks o))⟩ ∧ Stp ⟨F, H, σ, e⟩ ⟨F', H', σ, e'.set i (.own (O.put u' ks o))⟩) := by
  obtain ⟨p', k1, k2⟩ := z.own i o g
  have k1 : σ[i]? = some (some (V.ref p')) := k1
  rw [g2] at k1
  cases k1
  have k2 : OwnS K F H p o := k2
  have hi : i < σ.length := (List.getElem?_eq_some_iff.mp g2).1
  obtain ⟨w, l, r, b1, b2, b3, b4⟩ := path_ok ks o (.ref p) u (.inr ⟨p, rfl, k2.own⟩) ha
  rw [hv] at b1
  cases b1
  have bo : OwnAtO K F H u q := by
    rcases b2 with ⟨d, rfl, _⟩ | ⟨q', e1, h⟩
    · cases hl
    · cases e1
      exact h
  have nd := k2.nd
  rw [b3] at nd
  have nf := k2.nf
  have nf : ∀ a ∈ fp H o (.ref p), F a = none := nf
  have mu : ∀ a ∈ fp H u (.ref q), a ∈ fp H o (.ref p) := fun a ha => by rw [b3]; simp [ha]
  have ml : ∀ a ∈ l ++ r, a ∈ fp H o (.ref p) := fun a ha => by
    rw [b3]
    rcases List.mem_append.mp ha with q | q
    · simp [q]
    · simp [q]
  have nlu : ∀ a ∈ l ++ r, a ∉ fp H u (.ref q) := fun a ha hb => by
    rcases List.mem_append.mp ha with w | w
    · exact (List.nodup_append.mp nd).2.2 a w a (List.mem_append_left _ hb) rfl
    · exact (List.nodup_append.mp (List.nodup_append.mp nd).2.1).2.2 a hb a w rfl
  have os : OwnS K F H q u := ⟨fun a ha => nf a (mu a ha), (List.nodup_append.mp (List.nodup_append.mp nd).2.1).1, bo⟩
  have z1 : St K ⟨F, H, σ.set i (some (.ref q)), e.set i (.own u)⟩ := z.putOwn hi os fun j oo pp ne w1 w2 a ha hb => z.apart j i oo o pp p w1 g w2 g2 ne a ha (mu a hb)
  refine ⟨z1, os, fun F' H' e' u' y x gu => ?_⟩
  have hel := (List.getElem?_eq_some_iff.mp g).1
  have vo : ∀ a, OwnA ⟨F, H, σ.set i (some (.ref q)), e.set i (.own u)⟩ a → (∃ j oo pp, j ≠ i ∧ e[j]? = some (Slot.own oo) ∧ σ[j]? = some (some (V.ref pp)) ∧ a ∈ fp H oo (.ref pp)) ∨ a ∈ fp H u (.ref q) := fun a w => by
    obtain ⟨j, oo, pp, w1, w2, w3⟩ := w
    have w2 : (σ.set i (some (.ref q)))[j]? = some (some (V.ref pp)) := w2
    rcases set_get w1 with ⟨rfl, w⟩ | ⟨ne, w⟩
    · cases w
      rw [List.getElem?_set_self hi] at w2
      cases w2
      exact .inr w3
    · rw [List.getElem?_set_ne (Ne.symm ne)] at w2
      exact .inl ⟨j, oo, pp, ne, w, w2, w3⟩
  have nv : ∀ a ∈ l ++ r, ¬ OwnA ⟨F, H, σ.set i (some (.ref q)), e.set i (.own u)⟩ a := fun a ha w => by
    rcases vo a w with ⟨j, oo, pp, ne, w1, w2, w3⟩ | w
    · exact z.apart j i oo o pp p w1 g w2 g2 ne a w3 (ml a ha)
    · exact nlu a ha w
  have al : ∀ a ∈ l ++ r, ∃ w, H a = some w := fun a ha => OwnAt.all o k2.own a (ml a ha)
  have kp : ∀ a ∈ l ++ r, H' a = H a := fun a ha => by
    obtain ⟨w, hw⟩ := al a ha
    rw [hw]
    exact x.keep a w hw (nv a ha)
  have kf : ∀ a ∈ l ++ r, F' a = none := fun a ha => by
    cases w : F' a with
    | none => rfl
    | some oo =>
      exfalso
      obtain ⟨w2, hw⟩ := al a ha
      rcases x.fnew a oo w with q | q | q
      · have q : F a = some oo := q
        rw [nf a (ml a ha)] at q
        cases q
      · have q : H a = none := q
        rw [hw] at q
        cases q
      · exact nv a ha q
  have nv' : ∀ a ∈ l ++ r, ¬ OwnA ⟨F', H', σ.set i (some (.ref q)), e'⟩ a := fun a ha w => by
    rcases x.own a w with w | w
    · exact nv a ha w
    · obtain ⟨w2, hw⟩ := al a ha
      have w : H a = none := w
      rw [hw] at w
      cases w
  obtain ⟨q', y1, y2⟩ := y.own i u' gu
  have y1 : (σ.set i (some (.ref q)))[i]? = some (some (V.ref q')) := y1
  rw [List.getElem?_set_self hi] at y1
  cases y1
  obtain ⟨c1, c2⟩ := b4 F' H' u' x.ff kp (.inr ⟨q, rfl, y2.own⟩)
  have c1 : OwnAtO K F' H' (O.put u' ks o) p := by
    rcases c1 with ⟨d, e1, _⟩ | ⟨p', e1, h⟩
    · exfalso
      cases ks with
      | nil =>
        have e1 : u' = .leaf d := e1
        subst e1
        exact y2.own
      | cons k ks =>
        simp only [O.put] at e1
        simp only [O.at] at ha
        revert ha e1
        cases hk : o.kids[k]? with
        | none =>
          intro h1 h2
          first
            | cases h1
            | cases h2
        | some xx =>
          cases o with
          | row _ =>
            intro h1 h2
            first
              | cases h2
              | cases h1
          | ins _ _ _ =>
            intro h1 h2
            first
              | cases h2
              | cases h1
          | _ => simp [O.kids] at hk
    · cases e1
      exact h
  have ou : ∀ a ∈ fp H' u' (.ref q), OwnA ⟨F', H', σ.set i (some (.ref q)), e'⟩ a := fun a ha => ⟨i, u', q, gu, List.getElem?_set_self hi, ha⟩
  have mp : ∀ a, a ∈ fp H' (O.put u' ks o) (.ref p) ↔ a ∈ l ++ r ∨ a ∈ fp H' u' (.ref q) := fun a => by
    rw [c2]
    simp only [List.mem_append]
    constructor
    · rintro (h | h | h)
      · exact .inl (.inl h)
      · exact .inr h
      · exact .inl (.inr h)
    · rintro ((h | h) | h)
      · exact .inl h
      · exact .inr (.inr h)
      · exact .inr (.inl h)
  have osp : OwnS K F' H' p (O.put u' ks o) := by
    refine ⟨fun a ha => ?_, ?_, c1⟩
    · rcases (mp a).mp ha with h | h
      · exact kf a h
      · exact y2.nf a h
    · rw [c2]
      have n2 := y2.nd
      have n2 : (fp H' u' (.ref q)).Nodup := n2
      have dl : ∀ a ∈ fp H' u' (.ref q), a ∉ l ++ r := fun a ha hb => nv' a hb (ou a ha)
      obtain ⟨m1, m2, m3⟩ := List.nodup_append.mp nd
      obtain ⟨m4, m5, m6⟩ := List.nodup_append.mp m2
      refine List.nodup_append.mpr ⟨m1, List.nodup_append.mpr ⟨n2, m5, fun a ha b hb hab => ?_⟩, fun a ha b hb hab => ?_⟩
      · subst hab
        exact dl a ha (List.mem_append_right _ hb)
      · subst hab
        rcases List.mem_append.mp hb with h | h
        · exact dl a h (List.mem_append_left _ ha)
        · exact m3 a ha a (List.mem_append_right _ h) rfl
  have y' : St K ⟨F', H', σ, e'.set i (.own (O.put u' ks o))⟩ := by
    have := y.putOwn (i := i) (by simpa using hi) osp fun j oo pp ne w1 w2 a ha hb => by
      rcases (mp a).mp hb with h | h
      · exact nv' a h ⟨j, oo, pp, w1, w2, ha⟩
      · exact y.apart j i oo u' pp q w1 gu w2 (List.getElem?_set_self hi) ne a ha h
    rw [List.set_set, set_self2 g2] at this
    exact this
  refine ⟨y', x.unv (s := ⟨F, H, σ, e⟩) (s' := ⟨F', H', σ, e'.set i (.own (O.put u' ks o))⟩) rfl rfl (fun a w => ?_) rfl rfl (fun a w => ?_)⟩
  · rcases vo a w with ⟨j, oo, pp, ne, w1, w2, w3⟩ | w
    · exact ⟨j, oo, pp, w1, w2, w3⟩
    · exact ⟨i, o, p, g, g2, mu a w⟩
  · obtain ⟨j, oo, pp, w1, w2, w3⟩ := w
    have w2 : σ[j]? = some (some (V.ref pp)) := w2
    rcases set_get w1 with ⟨rfl, w⟩ | ⟨ne, w⟩
    · cases w
      rw [g2] at w2
      cases w2
      rcases (mp a).mp w3 with h | h
      · exact .inr ⟨j, o, p, g, g2, ml a h⟩
      · exact .inl (ou a h)
    · exact .inl ⟨j, oo, pp, w, (List.getElem?_set_ne (Ne.symm ne)).trans w2, w3⟩
end
end BV
/-! paths to parts; looks at all as data; displays of own things -/
namespace BV
open PySem PySem.Spec PyProof.Rows L2
theorem OwnLO.length {K : PySem.W.Frag} {F H : Hp} : ∀ {os : List O} {vs : List V}, OwnLO K F H os vs → vs.length = os.length
  | [], _, h => by
    cases h
    rfl
  | _ :: _, [], h => h.elim
  | _ :: _, _ :: _, ⟨_, h⟩ => congrArg (· + 1) (OwnLO.length h)
theorem at_snoc {k : Nat} : ∀ {ks : List Nat} {o u x : O}, O.at ks o = some u → u.kids[k]? = some x → O.at (ks ++ [k]) o = some x
  | [], o, u, x, h, e => by
    cases h
    simp only [List.nil_append, O.at, e]
  | j :: ks, o, u, x, h, e => by
    simp only [List.cons_append, O.at] at h ⊢
    cases q : o.kids[j]? with
    | none =>
      rw [q] at h
      cases h
    | some y =>
      rw [q] at h
      exact at_snoc h e
theorem vAt_snoc {H : Hp} {k : Nat} : ∀ {ks : List Nat} {v w x : V}, vAt H ks v = some w → (parts H w)[k]? = some x → vAt H (ks ++ [k]) v = some x
  | [], v, w, x, h, e => by
    cases h
    simp only [List.nil_append, vAt, e]
  | j :: ks, v, w, x, h, e => by
    simp only [List.cons_append, vAt] at h ⊢
    cases q : (parts H v)[j]? with
    | none =>
      rw [q] at h
      cases h
    | some y =>
      rw [q] at h
      exact vAt_snoc h e
theorem path_at {K : PySem.W.Frag} {F H : Hp} {p : Addr} {o u : O} {ks : List Nat} (h : OwnS K F H p o) (ha : O.at ks o = some u) : ∃ w, vAt H ks (.ref p) = some w ∧ PartV K F H u w ∧ ∀ a ∈ fp H u w, a ∈ fp H o (.ref p) := by
  obtain ⟨w, l, r, b1, b2, b3, _⟩ := path_ok ks o (.ref p) u (.inr ⟨p, rfl, h.own⟩) ha
  exact ⟨w, b1, b2, fun a ha => by rw [b3]; simp [ha]⟩

/-! ### an expression evaluated while slot i is hidden -/
def hidD (i : Nat) (f : Env → Out (Val × Env)) : Env → Out (D × Env) := fun e => match e[i]? with
  | some (.own o) => match fz f (e.set i .no) with
    | .ok (.frz d, e1) => match e1[i]? with
      | some .no => .ok (d, e1.set i (.own o))
      | _ => .bad
    | .exc x e1 => match e1[i]? with
      | some .no => .exc x (e1.set i (.own o))
      | _ => .bad
    | _ => .bad
  | _ => .bad
abbrev Pth := Nat × List Nat
/-- v stands at the path -/
def PtR (s : Sta) (i : Nat) (ks : List Nat) (v : V) : Prop := ∃ o p u, s.e[i]? = some (Slot.own o) ∧ s.σ[i]? = some (some (V.ref p)) ∧ O.at ks o = some u ∧ vAt s.H ks (.ref p) = some v
def PostP (c : Cf) (s : Sta) (Q : V → Pth → Sta → Prop) : Out (Pth × Env) → Prop
  | .ok (val, e') => ∀ v F' H', Stp s ⟨F', H', s.σ, e'⟩ → St c.K ⟨F', H', s.σ, e'⟩ → PtR ⟨F', H', s.σ, e'⟩ val.1 val.2 v → Q v val ⟨F', H', s.σ, e'⟩
  | .exc x e' => ∀ C oe F' H', Stp s ⟨F', H', s.σ, e'⟩ → St c.K ⟨F', H', s.σ, e'⟩ → XR c.K c.cm x C oe ⟨F', H', s.σ, e'⟩ → c.W C oe s.σ H'
  | .bad => False
def EPt (c : Cf) (t : TE) (f : Env → Out (Pth × Env)) : Prop := ∀ (s : Sta) (Q : V → Hp → Prop), St c.K s → PostP c s (fun v _ s' => Q v s'.H) (f s.e) → t s.σ s.H Q
structure EP' (X : Cx) (cm : CMap) (W : WX) (e : Expr) (f : Env → Out (Pth × Env)) : Prop where
  ex : ∃ t, PE X e t ∧ EPt (cf X cm W) t f
theorem PostP.later {c : Cf} {s s1 : Sta} {Q : V → Pth → Sta → Prop} (x : Stp s s1) (hσ : s1.σ = s.σ) : ∀ {o : Out (Pth × Env)}, PostP c s Q o → PostP c s1 Q o
  | .ok (val, e'), h => fun v F' H' y z r => by
    rw [hσ] at y z r ⊢
    exact h v F' H' (x.trans y) z r
  | .exc xx e', h => fun C oe F' H' y z r => by
    rw [hσ] at y z r ⊢
    exact h C oe F' H' (x.trans y) z r
theorem EPt.step {c : Cf} {t : TE} {f : Env → Out (Pth × Env)} {g : Pth × Env → Out (Val × Env)} {s : Sta} {Q : V → Val → Sta → Prop} {R : V → Hp → Prop} (h : EPt c t f) (z : St c.K s) (p : Post c s Q ((f s.e).bind g))
    (k : ∀ v val e1 F1 H1, Stp s ⟨F1, H1, s.σ, e1⟩ → St c.K ⟨F1, H1, s.σ, e1⟩ → PtR ⟨F1, H1, s.σ, e1⟩ val.1 val.2 v → Post c ⟨F1, H1, s.σ, e1⟩ Q (g (val, e1)) → R v H1) : t s.σ s.H R := by
  refine h s R z ?_
  revert p
  cases f s.e with
  | ok a =>
    obtain ⟨val, e1⟩ := a
    intro p v F1 H1 x y r
    exact k v val e1 F1 H1 x y r (Post.later x rfl p)
  | exc x e1 => exact fun p => p
  | bad => exact fun p => p
theorem EPt.stepP {c : Cf} {t : TE} {f : Env → Out (Pth × Env)} {g : Pth × Env → Out (Pth × Env)} {s : Sta} {Q : V → Pth → Sta → Prop} {R : V → Hp → Prop} (h : EPt c t f) (z : St c.K s) (p : PostP c s Q ((f s.e).bind g))
    (k : ∀ v val e1 F1 H1, Stp s ⟨F1, H1, s.σ, e1⟩ → St c.K ⟨F1, H1, s.σ, e1⟩ → PtR ⟨F1, H1, s.σ, e1⟩ val.1 val.2 v → PostP c ⟨F1, H1, s.σ, e1⟩ Q (g (val, e1)) → R v H1) : t s.σ s.H R := by
  refine h s R z ?_
  revert p
  cases f s.e with
  | ok a =>
    obtain ⟨val, e1⟩ := a
    intro p v F1 H1 x y r
    exact k v val e1 F1 H1 x y r (PostP.later x rfl p)
  | exc x e1 => exact fun p => p
  | bad => exact fun p => p
/-- what a hidden expression does -/
theorem EVt.hid {c : Cf} {t : TE} {f : Env → Out (Val × Env)} {s : Sta} {i : Nat} {o : O} {p : Addr} {R : V → Hp → Prop} (h : EVt c t f) (z : St c.K s) (gi : s.e[i]? = some (Slot.own o)) (g2 : s.σ[i]? = some (some (V.ref p)))
    (k : match hidD i f s.e with
      | .ok (d, e1) => ∀ v F1 H1, Stp s ⟨F1, H1, s.σ, e1⟩ → St c.K ⟨F1, H1, s.σ, e1⟩ → e1[i]? = some (Slot.own o) → (∀ a ∈ fp s.H o (.ref p), H1 a = s.H a) → Rp c.K F1 v d → R v H1
      | .exc x e1 => ∀ C oe F' H', Stp s ⟨F', H', s.σ, e1⟩ → St c.K ⟨F', H', s.σ, e1⟩ → XR c.K c.cm x C oe ⟨F', H', s.σ, e1⟩ → c.W C oe s.σ H'
      | .bad => False) : t s.σ s.H R := by
  obtain ⟨F, H, σ, e⟩ := s
  have gi : e[i]? = some (Slot.own o) := gi
  have z1 : St c.K ⟨F, H, σ, e.set i .no⟩ := z.hide
  refine h.fz ⟨F, H, σ, e.set i .no⟩ R z1 ?_
  revert k
  unfold hidD
  simp only [gi]
  cases BV.fz f (e.set i .no) with
  | bad => exact fun k => k
  | exc x e1 =>
    simp only
    intro k
    split at k
    · rename_i xx ee w
      split at w
      · cases w
      · cases w
    · rename_i xx ee w
      split at w
      · rename_i gn
        cases w
        intro C oe F' H' x1 y1 xr
        obtain ⟨y2, x2, _⟩ := St.unhide z gi g2 x1 y1 gn
        exact k C oe F' H' x2 y2 xr
      · cases w
    · exact k.elim
  | ok a =>
    obtain ⟨val, e1⟩ := a
    cases val with
    | new o => exact fun k => k.elim
    | bor o => exact fun k => k.elim
    | frz d =>
      simp only
      intro k
      split at k
      · rename_i dd ee w
        split at w
        · rename_i gn
          cases w
          intro v F1 H1 x1 y1 r
          obtain ⟨y2, x2, kp⟩ := St.unhide z gi g2 x1 y1 gn
          exact k v F1 H1 x2 y2 (List.getElem?_set_self (List.getElem?_eq_some_iff.mp gn).1) kp r
        · cases w
      · rename_i xx ee w
        split at w
        · cases w
        · cases w
      · exact k.elim
def pVar (i : Nat) : Env → Out (Pth × Env) := fun e => match e[i]? with
  | some (.own _) => .ok ((i, []), e)
  | _ => .bad
def oAt (e : Env) (pt : Pth) : Option O := match e[pt.1]? with
  | some (.own o) => O.at pt.2 o
  | _ => none
def pIxK (pt : Pth) (a : D × Env) : Out (Pth × Env) := match a.1, oAt a.2 pt with
  | .int n, some (.row os) => match ixN os.length n with
    | some k => .ok ((pt.1, pt.2 ++ [k]), a.2)
    | none => .bad
  | _, _ => .bad
def pIxB (fi : Env → Out (Val × Env)) (a : Pth × Env) : Out (Pth × Env) := (hidD a.1.1 fi a.2).bind (pIxK a.1)
def pIx (fp : Env → Out (Pth × Env)) (fi : Env → Out (Val × Env)) : Env → Out (Pth × Env) := fun e => (fp e).bind (pIxB fi)
section
variable {X : Cx} {cm : CMap} {W : WX} {pos : Pos} {a b : Expr} {fa fb : Env → Out (Val × Env)} {fp' : Env → Out (Pth × Env)}
theorem ep_var {x : Str} (i : Nat) (hN : X.N[i]? = some x := by rfl) (hv : Vis X.env.scope x := by first | exact Or.inl rfl | exact Or.inr (Or.inl rfl) | exact Or.inr (Or.inr rfl))
    (hd : (x == ("__debug__" : Str)) = false := by decide) (hcd : (x == ("__classdict__" : Str)) = false := by decide) : EP' X cm W (.Name x pos) (pVar i) := by
  refine ⟨_, pe_var hN hv hd hcd, fun s Q z p => ?_⟩
  unfold pVar at p
  split at p
  · rename_i o e
    obtain ⟨q, h1, h2, h3⟩ := z.own i o e
    exact ⟨.ref q, h1, p (.ref q) s.F s.H (Stp.refl s) z ⟨o, q, o, e, h1, rfl, rfl⟩⟩
  · exact p.elim
theorem PtR.own {K : PySem.W.Frag} {s : Sta} {i : Nat} {ks : List Nat} {v : V} (z : St K s) (h : PtR s i ks v) : ∃ o p u, s.e[i]? = some (Slot.own o) ∧ s.σ[i]? = some (some (V.ref p)) ∧ O.at ks o = some u ∧ vAt s.H ks (.ref p) = some v ∧ OwnS K s.F s.H p o ∧ PartV K s.F s.H u v ∧ ∀ a ∈ fp s.H u v, a ∈ fp s.H o (.ref p) := by
  obtain ⟨o, p, u, h1, h2, h3, h4⟩ := h
  obtain ⟨q, q1, q2⟩ := z.own i o h1
  rw [h2] at q1
  cases q1
  obtain ⟨w, b1, b2, b3⟩ := path_at q2 h3
  rw [h4] at b1
  cases b1
  exact ⟨o, p, u, h1, h2, h3, h4, q2, b2, b3⟩
theorem vAt_congr {K : PySem.W.Frag} {F H H' : Hp} : ∀ {ks : List Nat} {o u : O} {v w : V}, PartV K F H o v → O.at ks o = some u → vAt H ks v = some w → (∀ a ∈ fp H o v, H' a = H a) → vAt H' ks v = some w
  | [], o, u, v, w, _, _, h, _ => h
  | k :: ks, o, u, v, w, pv, ha, h, hh => by
    simp only [O.at] at ha
    split at ha
    · rename_i x ex
      rcases pv with ⟨d, rfl, _⟩ | ⟨p, rfl, pv⟩
      · simp [O.kids] at ex
      · obtain ⟨a1, a2, a3, a4⟩ := kids_own pv ex
        obtain ⟨v1, l, r, b1, b2, b3, b4⟩ := kset_ok _ _ k x a1 ex
        have fe : fp H o (.ref p) = p :: fpA H o.kids (parts H (.ref p)) := by
          have := a2 o.kids H rfl
          rwa [a3] at this
        simp only [vAt] at h ⊢
        rw [b1] at h
        have pe : parts H' (.ref p) = parts H (.ref p) := by
          show partsO (H' p) = partsO (H p)
          rw [hh p (by rw [fe]; simp)]
        rw [pe, b1]
        exact vAt_congr b2 ha h fun a ha => hh a (by rw [fe, b3]; simp [ha])
    · cases ha
theorem ep_ix (ha : EP' X cm W a fp') (hb : EV X cm W b fb) (hs : PlainIx b := by exact fun _ _ => rfl) : EP' X cm W (.Subscript a b pos) (pIx fp' fb) := by
  obtain ⟨ta, pa, ea⟩ := ha
  obtain ⟨tb, pb, eb⟩ := hb
  refine ⟨_, pe_ix ix_list pa pb hs, fun s Q z p => ?_⟩
  refine ea.stepP z p fun v pt e1 F1 H1 x y r p1 => ?_
  obtain ⟨i, ks⟩ := pt
  obtain ⟨o, pp, u, h1, h2, h3, h4, h5, h6, h7⟩ := r.own y
  have h1 : e1[i]? = some (Slot.own o) := h1
  refine eb.hid (s := ⟨F1, H1, s.σ, e1⟩) y h1 h2 ?_
  unfold pIxB at p1
  revert p1
  simp only
  cases hidD i fb e1 with
  | bad => exact fun p => p
  | exc xx e2 => exact fun p => p
  | ok w =>
    obtain ⟨d, e2⟩ := w
    simp only [Out.bind_ok]
    intro p1 v2 F2 H2 x2 y2 g2 kp r2
    unfold pIxK at p1
    have oa : oAt e2 (i, ks) = some u := by
      unfold oAt
      rw [g2]
      exact h3
    rw [oa] at p1
    cases d with
    | int n =>
      cases u with
      | row os =>
        simp only at p1
        cases hk : ixN os.length n with
        | none =>
          rw [hk] at p1
          exact p1.elim
        | some k =>
          rw [hk] at p1
          cases r2
          rcases h6 with ⟨d, e, _⟩ | ⟨q, rfl, h6⟩
          · cases e
          · obtain ⟨vs, k1, k2⟩ := h6
            have kq : H2 q = some (.lst vs) := (kp q (h7 q List.mem_cons_self)).trans k1
            have pe : ∀ {H : Hp}, H q = some (.lst vs) → parts H (.ref q) = vs := fun h => by
              show partsO _ = _
              rw [h]
              rfl
            have lk : k < os.length := by
              unfold ixN at hk
              split at hk <;> simp at hk <;> omega
            obtain ⟨v1, l, r, b1, b2, b3, b4⟩ := kset_ok os vs k os[k] k2 (List.getElem?_eq_getElem lk)
            have hl : vs.length = os.length := OwnLO.length k2
            refine ⟨q, vs, n, v1, rfl, rfl, SqL.of kq, ?_, ?_⟩
            · unfold atI
              rw [hl, hk]
              exact b1
            · refine p1 v1 F2 H2 x2 y2 ⟨o, pp, os[k], g2, h2, ?_, ?_⟩
              · exact at_snoc h3 (show os[k]? = some os[k] from List.getElem?_eq_getElem lk)
              · refine vAt_snoc (w := .ref q) (vAt_congr (.inr ⟨pp, rfl, h5.own⟩) h3 h4 kp) ?_
                rw [pe kq]
                exact b1
      | _ => exact p1.elim
    | _ => exact p1.elim
end
/-- xs[..].m(e), a part that is a list -/
def gOwnPK (h : List D → D → Option (Val × List D)) (pt : Pth) (a : D × Env) : Out (Val × Env) := match a.2[pt.1]? with
  | some (.own o) => match O.at pt.2 o with
    | some (.lst ds) => match h ds a.1 with
      | some (v, ds') => .ok (v, a.2.set pt.1 (.own (O.put (.lst ds') pt.2 o)))
      | none => .bad
    | _ => .bad
  | _ => .bad
def gOwnPB (h : List D → D → Option (Val × List D)) (fb : Env → Out (Val × Env)) (a : Pth × Env) : Out (Val × Env) := match oAt a.2 a.1 with
  | some (.lst _) => (hidD a.1.1 fb a.2).bind (gOwnPK h a.1)
  | _ => .bad
def gOwnP (h : List D → D → Option (Val × List D)) (fp : Env → Out (Pth × Env)) (fb : Env → Out (Val × Env)) : Env → Out (Val × Env) := fun e => (fp e).bind (gOwnPB h fb)
def gOwnP0K (h : List D → Option (Val × List D)) (a : Pth × Env) : Out (Val × Env) := match a.2[a.1.1]? with
  | some (.own o) => match O.at a.1.2 o with
    | some (.lst ds) => match h ds with
      | some (v, ds') => .ok (v, a.2.set a.1.1 (.own (O.put (.lst ds') a.1.2 o)))
      | none => .bad
    | _ => .bad
  | _ => .bad
def gOwnP0 (h : List D → Option (Val × List D)) (fp : Env → Out (Pth × Env)) : Env → Out (Val × Env) := fun e => (fp e).bind (gOwnP0K h)
theorem St.mutPart {K : PySem.W.Frag} {F H : Hp} {σ : L2.St} {e : Env} {i : Nat} {o : O} {p q : Addr} {ks : List Nat} {ds ds' : List D} {vs : List V} (z : St K ⟨F, H, σ, e⟩) (g : e[i]? = some (Slot.own o)) (g2 : σ[i]? = some (some (V.ref p))) (ha : O.at ks o = some (.lst ds)) (hv : vAt H ks (.ref p) = some (.ref q)) (r : RpA K F vs ds') :
    St K ⟨F, upd H q (.lst vs), σ, e.set i (.own (O.put (.lst ds') ks o))⟩ ∧ Stp ⟨F, H, σ, e⟩ ⟨F, upd H q (.lst vs), σ, e.set i (.own (O.put (.lst ds') ks o))⟩ := by
  obtain ⟨z1, os, bk⟩ := z.focus g g2 ha hv rfl
  have hi : i < σ.length := (List.getElem?_eq_some_iff.mp g2).1
  have hi2 : i < e.length := (List.getElem?_eq_some_iff.mp g).1
  obtain ⟨y, x⟩ := St.mutL z1 (i := i) (p := q) (ds := ds) (ds' := ds') (vs := vs) (List.getElem?_set_self hi2) (List.getElem?_set_self hi) r
  have := bk F _ _ (.lst ds') y x (List.getElem?_set_self (by simpa using hi2))
  simpa [List.set_set] using this
section
variable {X : Cx} {cm : CMap} {W : WX} {k : Nat} {apos cpos : Pos} {a b : Expr} {fb : Env → Out (Val × Env)} {fp' : Env → Out (Pth × Env)} {name : Str} {id : String}
theorem ev_ownP {h : List D → D → Option (Val × List D)} (m : MutOk X id h) (hP : PlainAttrs "list") (hS : PySem.Slot "list" name id) (hT : typeOf (.builtin id) = pure (.type "method_descriptor")) (hb : EP' X cm W b fp') (ha : EV X cm W a fb)
    (h1 : attributeBase b name X.env (eval b X.env) = eval b X.env := by rfl)
    (h2 : (((backTo cpos (starEach (a :: []) X.env)).all fun y => !y.1) && ((backToKw cpos (keywordEach [] X.env)).all fun y => y.1.isSome) && decide (((a :: ([] : List Expr)).length + ([] : List Keyword).length + if ([] : List Keyword).isEmpty = true then 0 else 1) < 30)) = true := by rfl)
    (h3 : (apos.endLine == cpos.line) = true := by rfl) (hs : starEach [a] X.env = (false, eval a X.env) :: starEach [] X.env := by rfl) (hpl : (backTo cpos (starEach [] X.env)).any (·.1) = false := by rfl) :
    EV X cm W (.Call (.Attribute b name apos) [a] [] cpos) (gOwnP h fp' fb) := by
  obtain ⟨ta, pa, ea⟩ := ha
  obtain ⟨tb, pb, eb⟩ := hb
  refine ⟨_, pe_bm hP hS hT m.mt pb (pa_cons pa pa_nil hs) h1 h2 h3 hs hpl, fun s Q z p => ?_⟩
  refine eb.step z p fun v pt e1 F1 H1 x y r p1 => ?_
  obtain ⟨i, ks⟩ := pt
  obtain ⟨o, pp, u, g1, g2, g3, g4, g5, g6, g7⟩ := r.own y
  have g1 : e1[i]? = some (Slot.own o) := g1
  unfold gOwnPB at p1
  have oa : oAt e1 (i, ks) = some u := by
    unfold oAt
    rw [g1]
    exact g3
  simp only [oa] at p1
  cases u with
  | lst ds =>
    simp only at p1
    rcases g6 with ⟨d, e, _⟩ | ⟨q, rfl, vs, k1, k2⟩
    · cases e
    · refine ⟨Or.inl ⟨rfl, vs, SqL.of k1⟩, ?_⟩
      refine ea.hid (s := ⟨F1, H1, s.σ, e1⟩) y g1 g2 ?_
      revert p1
      cases hidD i fb e1 with
      | bad => exact fun p => p
      | exc xx e2 => exact fun p => p
      | ok w =>
        obtain ⟨d, e2⟩ := w
        simp only [Out.bind_ok]
        intro p1 v2 F2 H2 x2 y2 gg kp r2
        unfold gOwnPK at p1
        simp only [gg, g3] at p1
        cases hh : h ds d with
        | none =>
          rw [hh] at p1
          exact p1.elim
        | some w =>
          obtain ⟨val, ds'⟩ := w
          rw [hh] at p1
          have kq : H2 q = some (.lst vs) := (kp q (g7 q (List.mem_singleton.mpr rfl))).trans k1
          have k2' : RpA X.K F2 vs ds := k2.mono x2.ff
          obtain ⟨⟨d', rfl⟩, _⟩ := m F2 H2 q vs ds v2 d val ds' y2.fh kq k2' r2 hh
          refine ⟨F2, q, vs, ds, v2, d, _, ds', rfl, rfl, y2.fh, kq, k2', r2, hh, fun w vs' r' hw => ?_⟩
          have mm := St.mutPart (vs := vs') y2 gg g2 g3 (vAt_congr (.inr ⟨pp, rfl, g5.own⟩) g3 g4 kp) r'
          exact p1 w F2 (upd H2 q (.lst vs')) (x2.trans mm.2) mm.1 (hw d' rfl)
  | _ => exact p1.elim
theorem ev_ownP0 {h : List D → Option (Val × List D)} (m : MutOk0 X id h) (hP : PlainAttrs "list") (hS : PySem.Slot "list" name id) (hT : typeOf (.builtin id) = pure (.type "method_descriptor")) (hb : EP' X cm W b fp')
    (h1 : attributeBase b name X.env (eval b X.env) = eval b X.env := by rfl) (h3 : (apos.endLine == cpos.line) = true := by rfl) :
    EV X cm W (.Call (.Attribute b name apos) [] [] cpos) (gOwnP0 h fp') := by
  obtain ⟨tb, pb, eb⟩ := hb
  refine ⟨_, pe_bm0 hP hS hT m.mt pb h1 h3, fun s Q z p => ?_⟩
  refine eb.step z p fun v pt e1 F1 H1 x y r p1 => ?_
  obtain ⟨i, ks⟩ := pt
  obtain ⟨o, pp, u, g1, g2, g3, g4, g5, g6, g7⟩ := r.own y
  have g1 : e1[i]? = some (Slot.own o) := g1
  unfold gOwnP0K at p1
  simp only [g1] at p1
  have g3' : O.at ks o = some u := g3
  simp only [g3'] at p1
  cases u with
  | lst ds =>
    simp only at p1
    rcases g6 with ⟨d, e, _⟩ | ⟨q, rfl, vs, k1, k2⟩
    · cases e
    · cases hh : h ds with
      | none =>
        rw [hh] at p1
        exact p1.elim
      | some w =>
        obtain ⟨val, ds'⟩ := w
        rw [hh] at p1
        obtain ⟨⟨d', rfl⟩, _⟩ := m F1 H1 q vs ds val ds' y.fh k1 k2 hh
        refine ⟨Or.inl ⟨rfl, vs, SqL.of k1⟩, F1, q, vs, ds, _, ds', rfl, rfl, y.fh, k1, k2, hh, fun w vs' r' hw => ?_⟩
        have mm := St.mutPart (vs := vs') y g1 g2 g3 g4 r'
        exact p1 w F1 (upd H1 q (.lst vs')) mm.2 mm.1 (hw d' rfl)
  | _ => exact p1.elim
end
/-! ### a look: all own things seen as data -/
def viewSl : Slot → Slot
  | .own o => match o.dq with
    | some d => .frz d
    | none => .no
  | s => s
def viewS (e : Env) : Env := e.map viewSl
def lookK (e : Env) : Out (Val × Env) → Out (Val × Env)
  | .ok (.frz d, _) => if atmD d = true then .ok (.frz d, e) else .bad
  | .exc x _ => if xAtm x = true then .exc x e else .bad
  | _ => .bad
def fLook (f : Env → Out (Val × Env)) : Env → Out (Val × Env) := fun e => lookK e (f (viewS e))
theorem viewS_get {e : Env} {i : Nat} {sl : Slot} (h : (viewS e)[i]? = some sl) : ∃ s0, e[i]? = some s0 ∧ viewSl s0 = sl := by
  unfold viewS at h
  rw [List.getElem?_map] at h
  cases q : e[i]? with
  | none =>
    rw [q] at h
    cases h
  | some s0 =>
    rw [q] at h
    cases h
    exact ⟨s0, rfl, rfl⟩
theorem viewS_own {e : Env} {i : Nat} {o : O} : (viewS e)[i]? ≠ some (.own o) := fun h => by
  obtain ⟨s0, _, h2⟩ := viewS_get h
  cases s0 with
  | own o =>
    simp only [viewSl] at h2
    split at h2 <;> cases h2
  | _ => cases h2
theorem St.view {K : PySem.W.Frag} {F H : Hp} {σ : L2.St} {e : Env} (z : St K ⟨F, H, σ, e⟩) : St K ⟨H, H, σ, viewS e⟩ := by
  refine ⟨by simp [viewS, z.len], Ex.refl _, fun i d h => ?_, fun i o h => absurd h viewS_own, fun i j oi oj _ _ h => absurd h viewS_own, fun i x h => ?_⟩
  · obtain ⟨s0, h1, h2⟩ := viewS_get h
    cases s0 with
    | no => cases h2
    | fn t => cases h2
    | frz d' =>
      cases h2
      obtain ⟨v, v1, v2⟩ := z.frz i d h1
      exact ⟨v, v1, v2.mono z.fh⟩
    | own o =>
      simp only [viewSl] at h2
      split at h2
      · rename_i d' hq
        cases h2
        obtain ⟨p, p1, p2⟩ := z.own i o h1
        exact ⟨.ref p, p1, p2.rp z.fh hq⟩
      · cases h2
  · obtain ⟨s0, h1, h2⟩ := viewS_get h
    cases s0 with
    | no => cases h2
    | fn t =>
      cases h2
      exact (z.fn i x h1).mono z.fh
    | frz d' => cases h2
    | own o =>
      simp only [viewSl] at h2
      split at h2 <;> cases h2
theorem look_back {K : PySem.W.Frag} {F H F' H' : Hp} {σ : L2.St} {e e' : Env} (z : St K ⟨F, H, σ, e⟩) (x : Stp ⟨H, H, σ, viewS e⟩ ⟨F', H', σ, e'⟩) : Stp ⟨F, H, σ, e⟩ ⟨F, H', σ, e⟩ ∧ St K ⟨F, H', σ, e⟩ := by
  have kp : ∀ a o, H a = some o → H' a = some o := fun a o h => x.keep a o h fun ⟨i, o', p, h1, _⟩ => viewS_own h1
  have c := z.change (F' := F) (H' := H') (Ex.refl _) (fun a o h => kp a o (z.fh a o h)) (fun a ha => by
    obtain ⟨u, hu⟩ := (z.ownA ha).2
    have hu : H a = some u := hu
    rw [hu]
    exact kp a u hu) fun a ha => (z.ownA ha).1
  exact ⟨⟨Ex.refl _, fun _ _ h => .inl h, fun a o h _ => kp a o h, fun a h => .inl ((c.2 a).mp h), fun a o h => ⟨o, kp a o h⟩⟩, c.1⟩
theorem EVt.look {c : Cf} {t : TE} {f : Env → Out (Val × Env)} (h : EVt c t f) : EVt c t (fLook f) := fun s Q z p => by
  obtain ⟨F, H, σ, e⟩ := s
  refine h ⟨H, H, σ, viewS e⟩ Q z.view ?_
  revert p
  unfold fLook
  simp only
  cases f (viewS e) with
  | bad => exact fun p => p
  | exc xx e1 =>
    simp only [lookK]
    split
    · rename_i hat
      intro p C oe F' H' x y xr
      obtain ⟨x3, y3⟩ := look_back z x
      refine p C oe F H' x3 y3 ⟨xr.1, ?_⟩
      have x4 := xr.2
      revert x4
      unfold xAtm at hat
      cases hf : xx.fld with
      | none => exact fun q => q
      | some nd =>
        obtain ⟨nm, d⟩ := nd
        rw [hf] at hat
        cases hat
    · exact fun p => p.elim
  | ok a =>
    obtain ⟨val, e1⟩ := a
    cases val with
    | new o => exact fun p => p.elim
    | bor o => exact fun p => p.elim
    | frz d =>
      simp only [lookK]
      split
      · rename_i hat
        intro p v F' H' x y r
        obtain ⟨x3, y3⟩ := look_back z x
        exact p v F H' x3 y3 (Rp.atom (show Rp c.K F' v d from r) hat)
      · exact fun p => p.elim
theorem ev_look {X : Cx} {cm : CMap} {W : WX} {e : Expr} {f : Env → Out (Val × Env)} (h : EV X cm W e f) : EV X cm W e (fLook f) := by
  obtain ⟨t, p, ev⟩ := h
  exact ⟨t, p, ev.look⟩
/-! equations -/
@[simp] theorem viewS_nil : viewS [] = [] := rfl
@[simp] theorem viewS_cons (s : Slot) (e : Env) : viewS (s :: e) = viewSl s :: viewS e := rfl
@[simp] theorem viewSl_frz (d : D) : viewSl (.frz d) = .frz d := rfl
@[simp] theorem viewSl_no : viewSl .no = .no := rfl
@[simp] theorem viewSl_fn (t : Tag) : viewSl (.fn t) = .fn t := rfl
@[simp] theorem viewSl_own (o : O) : viewSl (.own o) = match o.dq with
    | some d => .frz d
    | none => .no := rfl
@[simp] theorem fLook_eq (f : Env → Out (Val × Env)) (e : Env) : fLook f e = lookK e (f (viewS e)) := rfl
@[simp] theorem lookK_frz (e e1 : Env) (d : D) : lookK e (.ok (.frz d, e1)) = if atmD d = true then .ok (.frz d, e) else .bad := rfl
@[simp] theorem pVar_eq (i : Nat) (e : Env) : pVar i e = match e[i]? with
  | some (.own _) => .ok ((i, []), e)
  | _ => .bad := rfl
@[simp] theorem pIx_eq (fp : Env → Out (Pth × Env)) (fi : Env → Out (Val × Env)) (e : Env) : pIx fp fi e = (fp e).bind (pIxB fi) := rfl
@[simp] theorem pIxB_eq (fi : Env → Out (Val × Env)) (pt : Pth) (e : Env) : pIxB fi (pt, e) = (hidD pt.1 fi e).bind (pIxK pt) := rfl
@[simp] theorem gOwnP_eq (h : List D → D → Option (Val × List D)) (fp : Env → Out (Pth × Env)) (fb : Env → Out (Val × Env)) (e : Env) : gOwnP h fp fb e = (fp e).bind (gOwnPB h fb) := rfl
@[simp] theorem gOwnPB_eq (h : List D → D → Option (Val × List D)) (fb : Env → Out (Val × Env)) (pt : Pth) (e : Env) : gOwnPB h fb (pt, e) = match oAt e pt with
  | some (.lst _) => (hidD pt.1 fb e).bind (gOwnPK h pt)
  | _ => .bad := rfl
@[simp] theorem gOwnP0_eq (h : List D → Option (Val × List D)) (fp : Env → Out (Pth × Env)) (e : Env) : gOwnP0 h fp e = (fp e).bind (gOwnP0K h) := rfl
@[simp] theorem gOwnP0K_eq (h : List D → Option (Val × List D)) (pt : Pth) (e : Env) : gOwnP0K h (pt, e) = match e[pt.1]? with
  | some (.own o) => match O.at pt.2 o with
    | some (.lst ds) => match h ds with
      | some (v, ds') => .ok (v, e.set pt.1 (.own (O.put (.lst ds') pt.2 o)))
      | none => .bad
    | _ => .bad
  | _ => .bad := rfl
end BV
/-! a list display of own things -/
namespace BV
open PySem PySem.Spec PyProof.Rows L2
/-- a part that no one has yet -/
structure FloP (K : PySem.W.Frag) (s0 s : Sta) (o : O) (v : V) : Prop where
  pt : PartV K s.F s.H o v
  nd : (fp s.H o v).Nodup
  fr : ∀ a ∈ fp s.H o v, s.F a = none ∧ Nw s0 a ∧ ¬ OwnA s a
structure FloL (K : PySem.W.Frag) (s0 s : Sta) (os : List O) (vs : List V) : Prop where
  pt : OwnLO K s.F s.H os vs
  nd : (fpA s.H os vs).Nodup
  fr : ∀ a ∈ fpA s.H os vs, s.F a = none ∧ Nw s0 a ∧ ¬ OwnA s a
theorem PartV.all {K : PySem.W.Frag} {F H : Hp} {o : O} {v : V} (h : PartV K F H o v) {a : Addr} (ha : a ∈ fp H o v) : ∃ u, H a = some u := by
  rcases h with ⟨d, rfl, _⟩ | ⟨p, rfl, h⟩
  · cases ha
  · exact OwnAt.all o h a ha
theorem FloP.later {K : PySem.W.Frag} {s0 s s' : Sta} {o : O} {v : V} (x : Stp s s') (h : FloP K s0 s o v) : FloP K s0 s' o v ∧ fp s'.H o v = fp s.H o v := by
  have kp : ∀ a ∈ fp s.H o v, s'.H a = s.H a := fun a ha => by
    obtain ⟨u, hu⟩ := h.pt.all ha
    rw [hu]
    exact x.keep a u hu (h.fr a ha).2.2
  have e := fp_congr o kp
  refine ⟨⟨h.pt.mono x.ff kp, by rw [e]; exact h.nd, fun a ha => ?_⟩, e⟩
  rw [e] at ha
  obtain ⟨h1, h2, h3⟩ := h.fr a ha
  obtain ⟨u, hu⟩ := h.pt.all ha
  refine ⟨?_, h2, fun w => ?_⟩
  · cases w : s'.F a with
    | none => rfl
    | some oo =>
      exfalso
      rcases x.fnew a oo w with q | q | q
      · rw [h1] at q
        cases q
      · rw [hu] at q
        cases q
      · exact h3 q
  · rcases x.own a w with q | q
    · exact h3 q
    · rw [hu] at q
      cases q
theorem FloL.cons {K : PySem.W.Frag} {s0 s1 s2 : Sta} {o : O} {v : V} {os : List O} {vs : List V} (x0 : Stp s0 s1) (x : Stp s1 s2) (h : FloP K s0 s1 o v) (t : FloL K s1 s2 os vs) : FloL K s0 s2 (o :: os) (v :: vs) := by
  obtain ⟨h', e⟩ := h.later x
  refine ⟨⟨h'.pt, t.pt⟩, List.nodup_append.mpr ⟨h'.nd, t.nd, fun a ha b hb ab => ?_⟩, fun a ha => ?_⟩
  · subst ab
    rw [e] at ha
    obtain ⟨u, hu⟩ := h.pt.all ha
    rcases (t.fr a hb).2.1 with w | w
    · rw [hu] at w
      cases w
    · exact (h.fr a ha).2.2 w
  · rcases List.mem_append.mp ha with w | w
    · exact h'.fr a w
    · obtain ⟨h1, h2, h3⟩ := t.fr a w
      exact ⟨h1, x0.nw h2, h3⟩
def PostB5 (c : Cf) (s : Sta) (Q : List V → List O → Sta → Prop) : Out (List O × Env) → Prop
  | .ok (os, e') => ∀ vs F' H', Stp s ⟨F', H', s.σ, e'⟩ → St c.K ⟨F', H', s.σ, e'⟩ → FloL c.K s ⟨F', H', s.σ, e'⟩ os vs → Q vs os ⟨F', H', s.σ, e'⟩
  | .exc x e' => ∀ C oe F' H', Stp s ⟨F', H', s.σ, e'⟩ → St c.K ⟨F', H', s.σ, e'⟩ → XR c.K c.cm x C oe ⟨F', H', s.σ, e'⟩ → c.W C oe s.σ H'
  | .bad => False
def EBt (c : Cf) (t : TA) (f : Env → Out (List O × Env)) : Prop := ∀ (s : Sta) (Q : List V → Hp → Prop), St c.K s → PostB5 c s (fun vs _ s' => Q vs s'.H) (f s.e) → t s.σ s.H Q
structure EB (X : Cx) (cm : CMap) (W : WX) (es : List Expr) (f : Env → Out (List O × Env)) : Prop where
  ex : ∃ t, PA X es t ∧ EBt (cf X cm W) t f
def asO : Val × Env → Out (O × Env)
  | (.new o, e) => .ok (o, e)
  | (.frz d, e) => .ok (.leaf d, e)
  | _ => .bad
def oConsK (o : O) (a : List O × Env) : Out (List O × Env) := .ok (o :: a.1, a.2)
def oConsB (g : Env → Out (List O × Env)) (a : O × Env) : Out (List O × Env) := (g a.2).bind (oConsK a.1)
def oNil : Env → Out (List O × Env) := fun e => .ok ([], e)
def oCons (f : Env → Out (Val × Env)) (g : Env → Out (List O × Env)) : Env → Out (List O × Env) := fun e => ((f e).bind asO).bind (oConsB g)
theorem PostB5.later {c : Cf} {s s1 : Sta} {Q : List V → List O → Sta → Prop} (x : Stp s s1) (hσ : s1.σ = s.σ) (n : ∀ vs os s', FloL c.K s1 s' os vs → FloL c.K s s' os vs) : ∀ {o : Out (List O × Env)}, PostB5 c s Q o → PostB5 c s1 Q o
  | .ok (val, e'), h => fun v F' H' y z r => by
    have r' := n _ _ _ r
    rw [hσ] at y z r' ⊢
    exact h v F' H' (x.trans y) z r'
  | .exc xx e', h => fun C oe F' H' y z r => by
    rw [hσ] at y z r ⊢
    exact h C oe F' H' (x.trans y) z r
theorem VRep.flo {K : PySem.W.Frag} {s0 s : Sta} {v : V} {val : Val} {e e1 : Env} {o : O} (z : St K s) (r : VRep K s0 s v val) (h : asO (val, e) = .ok (o, e1)) : FloP K s0 s o v ∧ e1 = e := by
  cases val with
  | bor i => cases h
  | frz d =>
    cases h
    exact ⟨⟨.inl ⟨d, rfl, r⟩, List.nodup_nil, fun a ha => by cases ha⟩, rfl⟩
  | new o =>
    cases h
    obtain ⟨p, rfl, os, n⟩ := r
    exact ⟨⟨.inr ⟨p, rfl, os.own⟩, os.nd, fun a ha => ⟨os.nf a ha, n a ha⟩⟩, rfl⟩
def fRowK (a : List O × Env) : Out (Val × Env) := if a.1.length ≤ sizeLine then .ok (.new (.row a.1), a.2) else .bad
def fRow (f : Env → Out (List O × Env)) : Env → Out (Val × Env) := fun e => (f e).bind fRowK
theorem FloL.laid {K : PySem.W.Frag} {F H : Hp} {σ : L2.St} {e : Env} {s0 : Sta} {p : Addr} {os : List O} {vs : List V} (z : St K ⟨F, H, σ, e⟩) (hp : H p = none) (x : Stp s0 ⟨F, H, σ, e⟩) (h : FloL K s0 ⟨F, H, σ, e⟩ os vs) :
    VRep K s0 ⟨F, upd H p (.lst vs), σ, e⟩ (.ref p) (.new (.row os)) := by
  have al : ∀ (os : List O) (vs : List V), OwnLO K F H os vs → ∀ a ∈ fpA H os vs, a ≠ p := fun os vs ol a ha w => by
    obtain ⟨u, hu⟩ := OwnLO.all os ol a ha
    rw [w, hp] at hu
    cases hu
  have kp : ∀ a ∈ fpA H os vs, upd H p (.lst vs) a = H a := fun a ha => upd_ne (al os vs h.pt a ha)
  have fe : fp (upd H p (.lst vs)) (.row os) (.ref p) = p :: fpA H os vs := by
    show adr (.ref p) ++ fpA (upd H p (.lst vs)) os (partsO (upd H p (.lst vs) p)) = _
    rw [upd_same]
    show p :: fpA (upd H p (.lst vs)) os vs = _
    rw [fpA_congr os kp]
  have oo := (z.laid2 hp (.lst vs)).2
  refine ⟨p, rfl, ⟨?_, ?_, vs, upd_same, OwnLO.mono (Ex.refl _) os kp h.pt⟩, ?_⟩
  · rw [fe]
    intro a ha
    rcases List.mem_cons.mp ha with w | w
    · rw [w]
      exact z.fnone hp
    · exact (h.fr a w).1
  · rw [fe]
    exact List.nodup_cons.mpr ⟨fun w => al os vs h.pt p w rfl, h.nd⟩
  · show ∀ a ∈ fp (upd H p (.lst vs)) (.row os) (.ref p), _
    rw [fe]
    intro a ha
    rcases List.mem_cons.mp ha with w | w
    · subst w
      exact ⟨x.nw (.inl hp), fun q => z.notOwn hp ((oo a).mp q)⟩
    · obtain ⟨_, h2, h3⟩ := h.fr a w
      exact ⟨h2, fun q => h3 ((oo a).mp q)⟩
section
variable {X : Cx} {cm : CMap} {W : WX} {pos : Pos} {a : Expr} {es : List Expr} {fa : Env → Out (Val × Env)} {fs : Env → Out (List O × Env)}
theorem eb_nil : EB X cm W [] oNil := ⟨_, pa_nil, fun s Q z p => p [] s.F s.H (Stp.refl s) z ⟨rfl, List.nodup_nil, fun a ha => by cases ha⟩⟩
theorem eb_cons (ha : EV X cm W a fa) (hr : EB X cm W es fs) (hs : starEach (a :: es) X.env = (false, eval a X.env) :: starEach es X.env := by rfl) : EB X cm W (a :: es) (oCons fa fs) := by
  obtain ⟨ta, pa, ea⟩ := ha
  obtain ⟨tr, pr, er⟩ := hr
  refine ⟨_, pa_cons pa pr hs, fun s Q z p => ?_⟩
  unfold oCons at p
  refine ea s _ z ?_
  revert p
  cases fa s.e with
  | bad => exact fun p => p
  | exc xx e1 => exact fun p => p
  | ok w =>
    obtain ⟨val, e1⟩ := w
    simp only [Out.bind_ok]
    intro p v F1 H1 x y r
    cases ho : asO (val, e1) with
    | bad =>
      rw [ho] at p
      exact p.elim
    | exc xx e2 => cases val <;> cases ho
    | ok w =>
      obtain ⟨o, e2⟩ := w
      rw [ho] at p
      obtain ⟨fl, rfl⟩ := VRep.flo y r ho
      simp only [Out.bind_ok, oConsB] at p
      refine er ⟨F1, H1, s.σ, e2⟩ _ y ?_
      revert p
      show PostB5 _ s _ ((fs e2).bind (oConsK o)) → PostB5 _ ⟨F1, H1, s.σ, e2⟩ _ (fs e2)
      cases fs e2 with
      | bad => exact fun p => p
      | exc xx e3 =>
        intro p C oe F2 H2 x2 y2 xr
        exact p C oe F2 H2 (x.trans x2) y2 xr
      | ok w =>
        obtain ⟨os, e3⟩ := w
        intro p vs F2 H2 x2 y2 r2
        exact p (v :: vs) F2 H2 (x.trans x2) y2 (FloL.cons x x2 fl r2)
theorem ev_row (h : EB X cm W es fs) : EV X cm W (.List es pos) (fRow fs) := by
  obtain ⟨t, p, ev⟩ := h
  refine ⟨_, pe_lst p, fun s Q z q => ?_⟩
  refine ev s _ z ?_
  revert q
  unfold fRow
  cases fs s.e with
  | bad => exact fun p => p
  | exc xx e1 => exact fun p => p
  | ok w =>
    obtain ⟨os, e1⟩ := w
    simp only [Out.bind_ok, fRowK]
    split
    · rename_i hz
      intro q vs F1 H1 x y r
      refine ⟨by rw [OwnLO.length r.pt]; exact hz, fun a ha => ?_⟩
      exact q (.ref a) F1 (upd H1 a (.lst vs)) (x.trans (Stp.laid y ha _)) (y.laid ha _) (FloL.laid y ha x r)
    · exact fun p => p.elim
end
@[simp] theorem fRow_eq (f : Env → Out (List O × Env)) (e : Env) : fRow f e = (f e).bind fRowK := rfl
@[simp] theorem fRowK_eq (os : List O) (e : Env) : fRowK (os, e) = if os.length ≤ sizeLine then .ok (.new (.row os), e) else .bad := rfl
@[simp] theorem oNil_eq (e : Env) : oNil e = .ok ([], e) := rfl
@[simp] theorem oCons_eq (f : Env → Out (Val × Env)) (g : Env → Out (List O × Env)) (e : Env) : oCons f g e = ((f e).bind asO).bind (oConsB g) := rfl
@[simp] theorem oConsB_eq (g : Env → Out (List O × Env)) (o : O) (e : Env) : oConsB g (o, e) = (g e).bind (oConsK o) := rfl
@[simp] theorem oConsK_eq (o : O) (os : List O) (e : Env) : oConsK o (os, e) = .ok (o :: os, e) := rfl
@[simp] theorem asO_new (o : O) (e : Env) : asO (.new o, e) = .ok (o, e) := rfl
@[simp] theorem asO_frz (d : D) (e : Env) : asO (.frz d, e) = .ok (.leaf d, e) := rfl
end BV
/-! calls without written arguments -/
namespace BV
open PySem PySem.Spec PyProof.Rows L2
section
variable {X : Cx} {CX : CXT} {k : Nat} {f : Addr} {fd : FuncData} {ps : List Str} {sp : Sp} {dvs : List V} {ds : List Value} {E : L2.St → XK}
theorem pe_callG00 {x : Str} {p pos : Pos} (F : FnG X.prog X.w X.K X.mg X.base CX k f fd ps sp) (hG : X.A.guards = some []) (hr : Room k X.A) (hg : Gl X x) (hm : X.mg x = some (.ref f))
    (hk : PySem.W.keepIn X.K (.ref f) = true) (hb : Binds X.K fd ps ds) (hd : Vals dvs ds) (hx : ∀ σ, PassesAt CX X σ (E σ)) (hdb : (x == ("__debug__" : Str)) = false := by decide) :
    PE X (.Call (.Name x p) [] [] pos) (tCallG sp dvs E tNil) := by
  constructor
  intro pins s σ H Q I h
  refine wpAny_Call_Name_kw (ld_glob I hg hm ?_ hdb)
  exact PySem.W.callWith_K0 I.kIn hk (run_g (us := []) F hG hr hb hd (hx σ) I .nil h)
variable {cm : CMap} {W : WX} {pos : Pos}
theorem ev_call0 {x : Str} {p : Pos} {n : Nat} {m : Fn} {dds : List D} (F : FnG X.prog X.w X.K X.mg X.base CX k f fd ps (spB n X.K cm m)) (hm : X.mg x = some (.ref f))
    (hk : PySem.W.keepIn X.K (.ref f) = true) (hb : Binds X.K fd ps ds) (hd : Vals dvs ds) (hdd : ∀ F, RpA X.K F dvs dds) (hG : X.A.guards = some []) (hr : Room k X.A) (hx : ∀ σ, PassesAt CX X σ (WE W σ)) (hn : dds.length = n)
    (hg : Gl X x := by rfl) (hdb : (x == ("__debug__" : Str)) = false := by decide) : EV X cm W (.Call (.Name x p) [] [] pos) (fCall m dds rNil) := by
  refine ⟨_, pe_callG00 F hG hr hg hm hk hb hd hx hdb, fun s Q z q => ?_⟩
  show spB n X.K cm m ([] ++ dvs) s.H Q _
  revert q
  unfold fCall
  have hr0 : rNil s.e = .ok ([], s.e) := rfl
  rw [hr0, Out.bind_ok]
  intro q
  have r : ArgRep X.K s.F s.σ ([] ++ dvs) ([] ++ dds.map Arg.dat) := ArgRep.append .nil (.ofData (hdd s.F))
  generalize has : [] ++ dds.map Arg.dat = as at r q
  simp only at q
  split at q
  · rename_i nd
    cases hsl : slotsOf s.e as with
    | none =>
      rw [hsl] at q
      exact q.elim
    | some sl =>
      rw [hsl] at q
      simp only at q
      have y' : St X.K ⟨s.F, s.H, s.σ, s.e⟩ := z
      refine ⟨?_, s.F, sl, call_in y' r nd hsl, ?_⟩
      · rw [r.length, ← has, List.nil_append, List.length_map]
        exact hn
      · revert q
        cases hm' : m sl with
        | bad => exact fun q => q
        | exc xx sl' =>
          cases hw : wb as sl' s.e with
          | none =>
            simp only [hw]
            exact fun q => q.elim
          | some e' =>
            simp only [hw]
            intro q C oe F' H' x2 y2 xr
            obtain ⟨x3, y3⟩ := call_out y' r nd hsl hw x2 y2
            exact q C oe F' H' x3 y3 xr
        | ok w =>
          obtain ⟨rv, sl'⟩ := w
          cases hw : wb as sl' s.e with
          | none =>
            simp only [hw]
            cases rv <;> exact fun q => q.elim
          | some e' =>
            simp only [hw]
            intro q v F' H' x2 y2 vr
            obtain ⟨x3, y3⟩ := call_out y' r nd hsl hw x2 y2
            cases rv with
            | bor i => exact q.elim
            | frz d => exact q v F' H' x3 y3 (call_val y' r nd hsl hw x2 (fun _ h => by cases h) vr)
            | new o => exact q v F' H' x3 y3 (call_val y' r nd hsl hw x2 (fun _ h => by cases h) vr)
  · exact q.elim
end
/-! a test evaluated with all own things seen as data -/
def lookB (e : Env) : Out (Bool × Env) → Out (Bool × Env)
  | .ok (b, _) => .ok (b, e)
  | .exc x _ => if xAtm x = true then .exc x e else .bad
  | .bad => .bad
def tLook (f : Env → Out (Bool × Env)) : Env → Out (Bool × Env) := fun e => lookB e (f (viewS e))
theorem ETt.look {c : Cf} {t : TT} {f : Env → Out (Bool × Env)} (h : ETt c t f) : ETt c t (tLook f) := fun s Q z p => by
  obtain ⟨F, H, σ, e⟩ := s
  refine h ⟨H, H, σ, viewS e⟩ Q z.view ?_
  revert p
  unfold tLook
  simp only
  cases f (viewS e) with
  | bad => exact fun p => p
  | exc xx e1 =>
    simp only [lookB]
    split
    · rename_i hat
      intro p C oe F' H' x y xr
      obtain ⟨x3, y3⟩ := look_back z x
      refine p C oe F H' x3 y3 ⟨xr.1, ?_⟩
      have x4 := xr.2
      revert x4
      unfold xAtm at hat
      cases hf : xx.fld with
      | none => exact fun q => q
      | some nd =>
        obtain ⟨nm, d⟩ := nd
        rw [hf] at hat
        cases hat
    · exact fun p => p.elim
  | ok a =>
    obtain ⟨b, e1⟩ := a
    simp only [lookB]
    intro p F' H' x y
    obtain ⟨x3, y3⟩ := look_back z x
    exact p F H' x3 y3
theorem et_look {X : Cx} {cm : CMap} {W : WX} {e : Expr} {f : Env → Out (Bool × Env)} (h : ET X cm W e f) : ET X cm W e (tLook f) := by
  obtain ⟨t, p, ev⟩ := h
  exact ⟨t, p, ev.look⟩
@[simp] theorem tLook_eq (f : Env → Out (Bool × Env)) (e : Env) : tLook f e = lookB e (f (viewS e)) := rfl
@[simp] theorem lookB_ok (e e1 : Env) (b : Bool) : lookB e (.ok (b, e1)) = .ok (b, e) := rfl
end BV
/-! instances of own classes: made, asked, changed -/
namespace BV
open PySem PySem.Spec PyProof.Rows L2
/-! ### a thing put behind the slots for a time -/
section
variable {K : PySem.W.Frag} {F H F' H' : Hp} {σ : L2.St} {e e2 : Env} {o o' : O} {p : Addr} {s0 : Sta}
theorem push_get {α : Type} {l : List α} {a x : α} {i : Nat} (h : (l ++ [a])[i]? = some x) : (i = l.length ∧ x = a) ∨ (i < l.length ∧ l[i]? = some x) := by
  by_cases q : i < l.length
  · rw [List.getElem?_append_left q] at h
    exact Or.inr ⟨q, h⟩
  · rw [List.getElem?_append_right (by omega)] at h
    have : i - l.length = 0 := by
      have := (List.getElem?_eq_some_iff.mp h).1
      simp at this
      omega
    rw [this] at h
    cases h
    exact Or.inl ⟨by omega, rfl⟩
theorem push_last {α : Type} {l : List α} {a : α} : (l ++ [a])[l.length]? = some a := by simp
theorem push_old {α : Type} {l : List α} {a x : α} {i : Nat} (h : l[i]? = some x) : (l ++ [a])[i]? = some x := by
  rw [List.getElem?_append_left (List.getElem?_eq_some_iff.mp h).1]
  exact h
theorem ownA_push (zl : e.length = σ.length) {a : Addr} (h : OwnA ⟨F, H, σ ++ [some (.ref p)], e ++ [.own o]⟩ a) : OwnA ⟨F, H, σ, e⟩ a ∨ a ∈ fp H o (.ref p) := by
  obtain ⟨i, oo, q, h1, h2, h3⟩ := h
  rcases push_get h1 with ⟨w1, w2⟩ | ⟨w1, w2⟩
  · cases w2
    rw [w1, zl] at h2
    have h2 : (σ ++ [some (V.ref p)])[σ.length]? = some (some (V.ref q)) := h2
    rw [push_last] at h2
    cases h2
    exact Or.inr h3
  · have h2 : (σ ++ [some (V.ref p)])[i]? = some (some (V.ref q)) := h2
    rw [List.getElem?_append_left (by omega)] at h2
    exact Or.inl ⟨i, oo, q, w2, h2, h3⟩
theorem St.push (z : St K ⟨F, H, σ, e⟩) (os : OwnS K F H p o) (n : ∀ a ∈ fp H o (.ref p), ¬ OwnA ⟨F, H, σ, e⟩ a) : St K ⟨F, H, σ ++ [some (.ref p)], e ++ [.own o]⟩ := by
  have zl : e.length = σ.length := z.len
  have gl : ∀ {i : Nat} {q : Addr}, i < e.length → (σ ++ [some (V.ref p)])[i]? = some (some (V.ref q)) → σ[i]? = some (some (V.ref q)) := fun w h => by
    rwa [List.getElem?_append_left (by omega)] at h
  refine ⟨by simp [zl], z.fh, fun i d h => ?_, fun i oo h => ?_, fun i j oi oj p1 p2 h1 h2 h3 h4 ne => ?_, fun i x h => ?_⟩
  · rcases push_get h with ⟨_, w⟩ | ⟨w1, w⟩
    · cases w
    · obtain ⟨v, v1, v2⟩ := z.frz i d w
      exact ⟨v, push_old v1, v2⟩
  · rcases push_get h with ⟨w1, w⟩ | ⟨w1, w⟩
    · cases w
      refine ⟨p, ?_, os⟩
      show (σ ++ [some (V.ref p)])[i]? = _
      rw [w1, zl]
      exact push_last
    · obtain ⟨v, v1, v2⟩ := z.own i oo w
      exact ⟨v, push_old v1, v2⟩
  · intro a ha hb
    rcases push_get h1 with ⟨w1, w⟩ | ⟨w1, w⟩
    · cases w
      have h3 : (σ ++ [some (V.ref p)])[i]? = some (some (V.ref p1)) := h3
      rw [w1, zl, push_last] at h3
      cases h3
      rcases push_get h2 with ⟨w2, w⟩ | ⟨w2, w⟩
      · exact ne (w1.trans w2.symm)
      · exact n a ha ⟨j, oj, p2, w, gl w2 h4, hb⟩
    · rcases push_get h2 with ⟨w2, w'⟩ | ⟨w2, w'⟩
      · cases w'
        have h4 : (σ ++ [some (V.ref p)])[j]? = some (some (V.ref p2)) := h4
        rw [w2, zl, push_last] at h4
        cases h4
        exact n a hb ⟨i, oi, p1, w, gl w1 h3, ha⟩
      · exact z.apart i j oi oj p1 p2 w w' (gl w1 h3) (gl w2 h4) ne a ha hb
  · rcases push_get h with ⟨_, w⟩ | ⟨w1, w⟩
    · cases w
    · obtain ⟨a, a1, a2⟩ := z.fn i x w
      exact ⟨a, a1, push_old a2⟩
theorem St.pop (zl : e.length = σ.length) (x0 : Stp s0 ⟨F, H, σ, e⟩) (nw : ∀ a ∈ fp H o (.ref p), Nw s0 a) (x : Stp ⟨F, H, σ ++ [some (.ref p)], e ++ [.own o]⟩ ⟨F', H', σ ++ [some (.ref p)], e2⟩) (y : St K ⟨F', H', σ ++ [some (.ref p)], e2⟩) :
    St K ⟨F', H', σ, e2.take e.length⟩ ∧ Stp s0 ⟨F', H', σ, e2.take e.length⟩ ∧ ∀ o', e2[e.length]? = some (.own o') → VRep K s0 ⟨F', H', σ, e2.take e.length⟩ (.ref p) (.new o') := by
  have yl : e2.length = σ.length + 1 := by
    have : e2.length = (σ ++ [some (V.ref p)]).length := y.len
    simpa using this
  have tk : ∀ {i : Nat} {u : Slot}, (e2.take e.length)[i]? = some u → i < σ.length ∧ e2[i]? = some u := fun h => by
    rw [List.getElem?_take] at h
    split at h
    · exact ⟨by omega, h⟩
    · cases h
  have up : ∀ {i : Nat}, i < σ.length → (σ ++ [some (V.ref p)])[i]? = σ[i]? := fun h => List.getElem?_append_left h
  have old : ∀ {a : Addr}, OwnA ⟨F, H, σ ++ [some (.ref p)], e ++ [.own o]⟩ a → Nw s0 a := fun h => by
    rcases ownA_push zl h with h | h
    · rcases x0.own _ h with h | h
      · exact Or.inr h
      · exact Or.inl h
    · exact nw _ h
  have back : ∀ {a : Addr}, OwnA ⟨F', H', σ ++ [some (.ref p)], e2⟩ a → Nw s0 a := fun h => by
    rcases x.own _ h with h | h
    · exact old h
    · exact Or.inl (x0.gone h)
  have inc : ∀ {a : Addr}, OwnA ⟨F', H', σ, e2.take e.length⟩ a → OwnA ⟨F', H', σ ++ [some (.ref p)], e2⟩ a := fun ⟨i, oo, q, h1, h2, h3⟩ => by
    obtain ⟨w1, w2⟩ := tk h1
    exact ⟨i, oo, q, w2, (up w1).trans h2, h3⟩
  refine ⟨⟨?_, y.fh, fun i d h => ?_, fun i oo h => ?_, fun i j oi oj p1 p2 h1 h2 h3 h4 ne => ?_, fun i t h => ?_⟩, ⟨x0.ff.trans x.ff, fun a u h => ?_, fun a u h m => ?_, fun a h => ?_, fun a u h => ?_⟩, fun o' h => ?_⟩
  · show (e2.take e.length).length = σ.length
    rw [List.length_take]
    omega
  · obtain ⟨w1, w2⟩ := tk h
    obtain ⟨v, v1, v2⟩ := y.frz i d w2
    exact ⟨v, (up w1).symm.trans v1, v2⟩
  · obtain ⟨w1, w2⟩ := tk h
    obtain ⟨v, v1, v2⟩ := y.own i oo w2
    exact ⟨v, (up w1).symm.trans v1, v2⟩
  · obtain ⟨w1, w2⟩ := tk h1
    obtain ⟨u1, u2⟩ := tk h2
    exact y.apart i j oi oj p1 p2 w2 u2 ((up w1).trans h3) ((up u1).trans h4) ne
  · obtain ⟨w1, w2⟩ := tk h
    obtain ⟨a, a1, a2⟩ := y.fn i t w2
    exact ⟨a, a1, (up w1).symm.trans a2⟩
  · rcases x.fnew a u h with q | q | q
    · exact x0.fnew a u q
    · exact Or.inr (Or.inl (x0.gone q))
    · exact Or.inr (old q)
  · refine x.keep a u (x0.keep a u h m) fun q => ?_
    rcases old q with q | q
    · rw [h] at q
      cases q
    · exact m q
  · exact (back (inc h)).symm
  · obtain ⟨u1, h1⟩ := x0.dom a u h
    exact x.dom a u1 h1
  · obtain ⟨q, q1, q2⟩ := y.own _ _ h
    have q1 : (σ ++ [some (V.ref p)])[e.length]? = some (some (V.ref q)) := q1
    rw [zl, push_last] at q1
    cases q1
    refine ⟨p, rfl, q2, fun a ha => ⟨back ⟨_, o', p, h, (by rw [zl]; exact push_last), ha⟩, fun w => ?_⟩⟩
    obtain ⟨i, oo, q, h1, h2, h3⟩ := w
    obtain ⟨w1, w2⟩ := tk h1
    exact y.apart i e.length oo o' q p w2 h ((up w1).trans h2) (by rw [zl]; exact push_last) (by omega) a h3 ha
theorem ArgRep.push {u : Option V} : ∀ {vs : List V} {as : List Arg}, ArgRep K F σ vs as → ArgRep K F (σ ++ [u]) vs as
  | _, _, .nil => .nil
  | _, _, .dat h r => .dat h r.push
  | _, _, .own h r => .own (push_old h) r.push
end
/-! ### a call with a thing that no slot holds ahead -/
/-- m(o, ..), o new: the value, and what o is then -/
def callT (m : Fn) (o : O) (is : List Nat) (us ws : List Arg) (e : Env) : Out (Val × Env) := callAs m (pickG is (.own e.length :: us) ws) (e ++ [.own o])
/-- the instance is told, not what the call tells -/
def newK (n : Nat) : Out (Val × Env) → Out (Val × Env)
  | .ok (.frz .none, e2) => match e2[n]? with
    | some (.own o) => .ok (.new o, e2.take n)
    | _ => .bad
  | .exc x e2 => .exc x (e2.take n)
  | _ => .bad
/-- the instance is let go -/
def letK (n : Nat) : Out (Val × Env) → Out (Val × Env)
  | .ok (.frz d, e2) => .ok (.frz d, e2.take n)
  | .ok (.new o, e2) => .ok (.new o, e2.take n)
  | .exc x e2 => .exc x (e2.take n)
  | _ => .bad
section
variable {X : Cx} {cm : CMap} {W : WX} {pos : Pos}
theorem xr_pop {x : Exn} {C : Value} {oe : Option Addr} {F H : Hp} {σ σ' : L2.St} {e e' : Env} : XR X.K cm x C oe ⟨F, H, σ, e⟩ → XR X.K cm x C oe ⟨F, H, σ', e'⟩ := fun h => ⟨h.1, h.2⟩
theorem temp_post {n : Nat} {m : Fn} {is : List Nat} {us ws : List Arg} {vs zs : List V} {s0 : Sta} {F H : Hp} {e : Env} {o : O} {p : Addr} {Q : V → Hp → Prop} (x0 : Stp s0 ⟨F, H, s0.σ, e⟩) (z : St X.K ⟨F, H, s0.σ, e⟩) (os : OwnS X.K F H p o)
    (nw : ∀ a ∈ fp H o (.ref p), Nw s0 a ∧ ¬ OwnA ⟨F, H, s0.σ, e⟩ a) (r : ArgRep X.K F s0.σ vs us) (rz : ArgRep X.K F s0.σ zs ws) (hn : (pickG is (.ref p :: vs) zs).length = n)
    (q : Post (cf X cm W) ⟨F, H, s0.σ ++ [some (.ref p)], e ++ [.own o]⟩ (fun v _ s' => Q v s'.H) (callT m o is us ws e)) : spB n X.K cm m (pickG is (.ref p :: vs) zs) H Q (WE W (s0.σ ++ [some (.ref p)])) := by
  have zl : e.length = s0.σ.length := z.len
  have z1 := z.push os fun a ha => (nw a ha).2
  have r1 : ArgRep X.K F (s0.σ ++ [some (.ref p)]) (.ref p :: vs) (.own e.length :: us) := .own (by rw [zl]; exact push_last) r.push
  exact callAs_post (s := ⟨F, H, s0.σ ++ [some (.ref p)], e ++ [.own o]⟩) (Stp.refl _) z1 (argRep_pick r1 rz.push is) hn q
theorem drop_post {n : Nat} {m : Fn} {is : List Nat} {us ws : List Arg} {vs zs : List V} {s0 : Sta} {F H : Hp} {e : Env} {o : O} {p : Addr} {Q : V → Hp → Prop} (x0 : Stp s0 ⟨F, H, s0.σ, e⟩) (z : St X.K ⟨F, H, s0.σ, e⟩) (os : OwnS X.K F H p o)
    (nw : ∀ a ∈ fp H o (.ref p), Nw s0 a ∧ ¬ OwnA ⟨F, H, s0.σ, e⟩ a) (r : ArgRep X.K F s0.σ vs us) (rz : ArgRep X.K F s0.σ zs ws) (hn : (pickG is (.ref p :: vs) zs).length = n)
    (q : Post (cf X cm W) s0 (fun v _ s' => Q v s'.H) (letK e.length (callT m o is us ws e))) : spB n X.K cm m (pickG is (.ref p :: vs) zs) H Q (WE W s0.σ) := by
  refine temp_post (cm := cm) (W := fun C oe _ H' => W C oe s0.σ H') x0 z os nw r rz hn ?_
  have zl : e.length = s0.σ.length := z.len
  revert q
  cases callT m o is us ws e with
  | bad => exact fun q => q
  | exc xx e2 =>
    simp only [letK]
    intro q C oe F' H' x y xr
    obtain ⟨y1, x1, _⟩ := St.pop zl x0 (fun a ha => (nw a ha).1) x y
    exact q C oe F' H' x1 y1 (xr_pop xr)
  | ok w =>
    obtain ⟨val, e2⟩ := w
    cases val with
    | bor i => exact fun q => False.elim q
    | frz d =>
      simp only [letK]
      intro q v F' H' x y vr
      obtain ⟨y1, x1, _⟩ := St.pop zl x0 (fun a ha => (nw a ha).1) x y
      exact q v F' H' x1 y1 vr
    | new o2 =>
      simp only [letK]
      intro q v F' H' x y vr
      obtain ⟨y1, x1, _⟩ := St.pop zl x0 (fun a ha => (nw a ha).1) x y
      obtain ⟨p2, rfl, os2, n2⟩ := vr
      refine q _ F' H' x1 y1 ⟨p2, rfl, os2, fun a ha => ⟨?_, fun w => ?_⟩⟩
      · rcases (n2 a ha).1 with w | w
        · exact Or.inl (x0.gone w)
        · rcases ownA_push zl w with w | w
          · exact (x0.own a w).symm
          · exact (nw a w).1
      · obtain ⟨i, oo, q, h1, h2, h3⟩ := w
        rw [List.getElem?_take] at h1
        split at h1
        · rename_i hi
          exact (n2 a ha).2 ⟨i, oo, q, h1, (List.getElem?_append_left (by omega)).trans h2, h3⟩
        · cases h1
theorem new_post {n : Nat} {m : Fn} {c : Str} {C : Addr} {is : List Nat} {us ws : List Arg} {vs zs : List V} {s0 : Sta} {F H : Hp} {e : Env} {Q : V → Hp → Prop} (hC : PySem.W.nsIn X.K mainGlobals c = some (some (.ref C))) (x0 : Stp s0 ⟨F, H, s0.σ, e⟩) (z : St X.K ⟨F, H, s0.σ, e⟩)
    (r : ArgRep X.K F s0.σ vs us) (rz : ArgRep X.K F s0.σ zs ws) (hn : ∀ v, (pickG is (v :: vs) zs).length = n)
    (q : Post (cf X cm W) s0 (fun v _ s' => Q v s'.H) (newK e.length (callT m (.ins c [] []) is us ws e))) : ∀ (x dx : Addr), H x = none → H dx = none → dx ≠ x →
      spB n X.K cm m (pickG is (.ref x :: vs) zs) (upd (upd H dx (.own x)) x (.ins C dx [])) (fun v H2 => v = .non ∧ Q (.ref x) H2) (WE W s0.σ) := by
  intro x dx hx hdx ne
  have zl : e.length = s0.σ.length := z.len
  have hx2 : upd H dx (.own x) x = none := (upd_ne (Ne.symm ne)).trans hx
  have fdx : F dx = none := z.fnone hdx
  have z1 : St X.K ⟨F, upd H dx (.own x), s0.σ, e⟩ := z.laid hdx _
  have x1 : Stp s0 ⟨F, upd H dx (.own x), s0.σ, e⟩ := x0.trans (Stp.laid z hdx _)
  have z2 : St X.K ⟨upd F dx (.own x), upd H dx (.own x), s0.σ, e⟩ := z1.freeze upd_same fdx fun w => z.notOwn hdx (((z.laid2 hdx _).2 dx).mp w)
  have x2 : Stp s0 ⟨upd F dx (.own x), upd H dx (.own x), s0.σ, e⟩ := Stp.freeze fdx (x0.gone hdx) x1
  have z3 : St X.K ⟨upd F dx (.own x), upd (upd H dx (.own x)) x (.ins C dx []), s0.σ, e⟩ := z2.laid hx2 _
  have x3 : Stp s0 ⟨upd F dx (.own x), upd (upd H dx (.own x)) x (.ins C dx []), s0.σ, e⟩ := x2.trans (Stp.laid z2 hx2 _)
  have fe : fp (upd (upd H dx (.own x)) x (.ins C dx [])) (.ins c [] []) (.ref x) = [x] := rfl
  have fx : upd F dx (.own x) x = none := z2.fnone hx2
  have os : OwnS X.K (upd F dx (.own x)) (upd (upd H dx (.own x)) x (.ins C dx [])) x (.ins c [] []) := by
    refine ⟨?_, ?_, C, dx, [], hC, upd_same, upd_same, rfl, rfl⟩
    · rw [fe]
      intro a ha
      rw [List.mem_singleton.mp ha]
      exact fx
    · rw [fe]
      simp
  have nw : ∀ a ∈ fp (upd (upd H dx (.own x)) x (.ins C dx [])) (.ins c [] []) (.ref x), Nw s0 a ∧ ¬ OwnA ⟨upd F dx (.own x), upd (upd H dx (.own x)) x (.ins C dx []), s0.σ, e⟩ a := by
    rw [fe]
    intro a ha
    rw [List.mem_singleton.mp ha]
    exact ⟨Or.inl (x0.gone hx), fun w => z2.notOwn hx2 (((z2.laid2 hx2 _).2 x).mp w)⟩
  have ff : Ex F (upd F dx (.own x)) := Ex.new fdx
  refine temp_post (cm := cm) (W := fun C oe _ H' => W C oe s0.σ H') x3 z3 os nw (r.mono ff) (rz.mono ff) (hn _) ?_
  revert q
  cases callT m (.ins c [] []) is us ws e with
  | bad => exact fun q => q
  | exc xx e2 =>
    simp only [newK]
    intro q C oe F' H' x y xr
    obtain ⟨y1, x1, _⟩ := St.pop zl x3 (fun a ha => (nw a ha).1) x y
    exact q C oe F' H' x1 y1 (xr_pop xr)
  | ok w =>
    obtain ⟨val, e2⟩ := w
    cases val with
    | bor i => exact fun q => False.elim q
    | new o2 => exact fun q => False.elim q
    | frz d =>
      cases d with
      | none =>
        simp only [newK]
        cases g : e2[e.length]? with
        | none => exact fun q => False.elim q
        | some sl =>
          cases sl with
          | own o2 =>
            simp only
            intro q v F' H' x y vr
            cases vr
            obtain ⟨y1, x1, vv⟩ := St.pop zl x3 (fun a ha => (nw a ha).1) x y
            exact ⟨rfl, q _ F' H' x1 y1 (vv o2 g)⟩
          | _ => exact fun q => False.elim q
      | _ => exact fun q => False.elim q
/-! ### C(..) -/
structure MkAt (K : PySem.W.Frag) (mg : Str → Option Value) (c qual : Str) (st : Stmt) (dvs : List V) (C f : Addr) (fd : FuncData) : Prop where
  ns : PySem.W.nsIn K mainGlobals c = some (some (.ref C))
  gl : mg c = some (.ref C)
  made : Mk K C f
  fn : FunD K "__init__" qual (defArgs st) (defBody st) (defScope st) dvs [] f fd
section
variable {CX : CXT} {k n : Nat} {f C : Addr} {fd : FuncData} {ps ks : List Str} {sp : Sp} {E : L2.St → XK} {g : List Value → List Value → List Value} {gV : List V → List V → List V}
theorem guards_make {A : Around} {C : Addr} {us : List Value} {kw : List (Str × Value)} (h : A.guards = some []) : (A.under (.builtin "type.__call__" ⟨.ref C :: us, kw⟩)).guards = some [] := by
  unfold Around.under
  simp only [h]
  rfl
theorem run_makeG {pins : List (Addr × Obj)} {σ : L2.St} {H : Hp} {s : Shared} {Q : VK} {us ws : List Value} {vs zs : List V} (M : Mk X.K C f) (F : FnG X.prog X.w X.K X.mg X.base CX k f fd ps sp) (hG : X.A.guards = some []) (hr : Room (k + 1) X.A) (hb : KBn X.K fd ps (n + 1) ks g gV)
    (hx : PassesAt CX X σ (E σ)) (I : L2.Inv X pins σ H s) (r : Vals vs us) (rz : Vals zs ws) (l1 : vs.length = n) (l2 : zs.length = ks.length)
    (h : ∀ x dx, H x = none → H dx = none → dx ≠ x → sp (gV (.ref x :: vs) zs) (upd (upd H dx (.own x)) x (.ins C dx [])) (fun v H2 => v = .non ∧ Q (.ref x) H2) (E σ)) :
    wpAny (model X.prog X.w) X.A (call (.ref C) us (ks.zip ws)) (EP X pins σ Q) X.xe s := by
  have q0 := h (s.heap.objs.size + 1) s.heap.objs.size (I.hok.fresh (Nat.le_succ _)) (I.hok.fresh (Nat.le_refl _)) (Nat.ne_of_lt (Nat.lt_succ_self _))
  have J := Inv.made (C := C) I
  have m1 : Vals (V.ref (s.heap.objs.size + 1) :: vs) (Value.ref (s.heap.objs.size + 1) :: us) := .cons rfl r
  have m2 : (Value.ref (s.heap.objs.size + 1) :: us).length = n + 1 := by
    rw [← m1.length, List.length_cons, l1]
  have rn := F.run _ X.stack _ _ ⟨Value.ref (s.heap.objs.size + 1) :: us, ks.zip ws⟩ (g (Value.ref (s.heap.objs.size + 1) :: us) ws) _ _ (E σ) (guards_make (C := C) (us := us) (kw := ks.zip ws) hG)
    (hr.make C us (ks.zip ws)) (J.env0.make C us (ks.zip ws)) (hb.to _ (Value.ref (s.heap.objs.size + 1) :: us) ws J.kIn m2 (rz.length.symm.trans l2)) (hb.rel m1 rz) q0
  refine wpAny_call (make_map (f := f) I.kIn M.makes M.init (beq_iff_eq.mp M.fn) (codeAny_mono rn fun res s' hq => ?_))
  cases res with
  | error er => exact hx pins _ _ er s' J hq
  | ok fl =>
    cases fl with
    | next => exact hq.elim
    | brk => exact hq.elim
    | cont => exact hq.elim
    | ret u =>
      obtain ⟨v, H', I3, rv, ev, q3⟩ := J.after hq
      subst ev
      exact ⟨rv, V.ref (s.heap.objs.size + 1), H', I3, rfl, q3⟩
def tMakeG (C : Addr) (n m : Nat) (sp : Sp) (gV : List V → List V → List V) (E : L2.St → XK) (t tk : TA) : TE := fun σ H Q => t σ H fun vs H1 => tk σ H1 fun zs H2 => vs.length = n ∧ zs.length = m ∧ ∀ x dx, H2 x = none → H2 dx = none → dx ≠ x →
  sp (gV (.ref x :: vs) zs) (upd (upd H2 dx (.own x)) x (.ins C dx [])) (fun v H3 => v = .non ∧ Q (.ref x) H3) (E σ)
variable {x : Str} {p : Pos} {e : Expr} {es : List Expr} {kws : List Keyword} {t tk : TA}
theorem pe_makeG (M : Mk X.K C f) (F : FnG X.prog X.w X.K X.mg X.base CX k f fd ps sp) (hG : X.A.guards = some []) (hr : Room (k + 1) X.A) (hg : Gl X x) (hm : X.mg x = some (.ref C)) (hb : KBn X.K fd ps (n + 1) ks g gV) (hx : ∀ σ, PassesAt CX X σ (E σ)) (ha : PA X (e :: es) t) (hkw : PK X kws tk)
    (hall : (backToKw pos (keywordEach kws X.env)).all (·.1.isSome) = true) (hks : (backToKw pos (keywordEach kws X.env)).filterMap (·.1) = ks) (hdb : (x == ("__debug__" : Str)) = false)
    (he : starEach (e :: es) X.env = (false, eval e X.env) :: starEach es X.env) (hpl : ((backTo pos (starEach (e :: es) X.env)).any (·.1) || (backToKw pos (keywordEach kws X.env)).any (·.1.isNone)) = false) :
    PE X (.Call (.Name x p) (e :: es) kws pos) (tMakeG C n ks.length sp gV E t tk) := by
  constructor
  intro pins s σ H Q I h
  refine wpAny_Call_Name_kw (ld_glob I hg hm ?_ hdb)
  refine PySem.W.callWith_KW (h₀ := X.base) I.ok.mod.kin M.kp hall (thn (ha.run pos pins s σ H _ I h) ?_) hpl he
  rintro us s1 ⟨vs, H1, I1, r, q⟩
  refine thn (hkw.run pos pins s1 σ H1 _ I1 q) ?_
  rintro ws s2 ⟨zs, H2, I2, rz, l1, l2, q2⟩
  refine ⟨I2.kIn, ?_⟩
  rw [hks]
  exact run_makeG M F hG hr hb (hx σ) I2 r rz l1 l2 q2
theorem pe_makeG0 (M : Mk X.K C f) (F : FnG X.prog X.w X.K X.mg X.base CX k f fd ps sp) (hG : X.A.guards = some []) (hr : Room (k + 1) X.A) (hg : Gl X x) (hm : X.mg x = some (.ref C)) (hb : KBn X.K fd ps 1 ks g gV) (hx : ∀ σ, PassesAt CX X σ (E σ)) (hkw : PK X kws tk)
    (hall : (backToKw pos (keywordEach kws X.env)).all (·.1.isSome) = true) (hks : (backToKw pos (keywordEach kws X.env)).filterMap (·.1) = ks) (hdb : (x == ("__debug__" : Str)) = false)
    (hpl : ((backTo pos (starEach [] X.env)).any (·.1) || (backToKw pos (keywordEach kws X.env)).any (·.1.isNone)) = false) :
    PE X (.Call (.Name x p) [] kws pos) (tMakeG C 0 ks.length sp gV E tNil tk) := by
  constructor
  intro pins s σ H Q I h
  refine wpAny_Call_Name_kw (ld_glob I hg hm ?_ hdb)
  refine PySem.W.callWith_KW0 (h₀ := X.base) I.ok.mod.kin M.kp hall ?_ hpl
  refine thn (hkw.run pos pins s σ H _ I h) ?_
  rintro ws s2 ⟨zs, H2, I2, rz, l1, l2, q2⟩
  refine ⟨I2.kIn, ?_⟩
  rw [hks]
  exact run_makeG (us := []) (vs := []) M F hG hr hb (hx σ) I2 .nil rz rfl l2 q2
end
/-- C(a, .., k = b, ..), the defaults behind -/
def fMake (m : Fn) (c : Str) (is : List Nat) (dds : List D) (fs fk : Env → Out (List Arg × Env)) : Env → Out (Val × Env) := fun e => (fs e).bind fun a => (fk a.2).bind fun b => newK b.2.length (callT m (.ins c [] []) is a.1 (b.1 ++ dds.map Arg.dat) b.2)
/-- how C(..) binds -/
def BindK (K : PySem.W.Frag) (fd : FuncData) (ps : List Str) (n : Nat) (ks : List Str) (is : List Nat) (dvs : List V) : Prop := ∃ its : List Value, Vals dvs its ∧ ∀ (s : Shared) (us ws : List Value), K.In s.heap → us.length = n → ws.length = ks.length → BindsTo s fd ⟨us, ks.zip ws⟩ (ps.zip (pickG is us (ws ++ its)))
theorem BindK.kbn {K : PySem.W.Frag} {fd : FuncData} {ps ks : List Str} {n : Nat} {is : List Nat} {dvs : List V} (h : BindK K fd ps n ks is dvs) : ∃ g, KBn K fd ps n ks g (fun vs zs => pickG is vs (zs ++ dvs)) := by
  obtain ⟨its, r, h⟩ := h
  exact ⟨fun us ws => pickG is us (ws ++ its), h, fun r1 r2 => vals_pick r1 (r2.append r) is⟩
theorem bindK_mk {K : PySem.W.Frag} {x qual : Str} {st : Stmt} {dvs : List V} {f : Addr} {fd : FuncData} {ps ks : List Str} {n : Nat} {is : List Nat} (F : FunD K x qual (defArgs st) (defBody st) (defScope st) dvs [] f fd) (hd : dvs ≠ [])
    (h : ∀ (T : Addr) (kV doc pm : Value) (an : Option Addr) (cdv ct : Value) (us its ws : List Value), us.length = n → its.length = dvs.length → ws.length = ks.length →
      ∃ k, bindArgs (PySem.W.fnOf x qual (defArgs st) (defBody st) (defScope st) (.ref T) kV doc pm an cdv ct) ⟨us, ks.zip ws⟩ = seqItems? (.ref T) >>= k ∧ k (some its.toArray) = pure (ps.zip (pickG is us (ws ++ its)))) : BindK K fd ps n ks is dvs := by
  obtain ⟨oc, od, dV, kV, doc, pm, an, cdv, ct, osl, rfl, lk, hcd, hD, hK⟩ := F.ex
  rcases hD with ⟨e, _⟩ | ⟨_, T, o, its, m, rfl, lT, oT, rT⟩
  · exact absurd e hd
  · refine ⟨its, rT, fun s us ws X l1 l2 => ?_⟩
    obtain ⟨k, e1, e2⟩ := h T kV doc pm an cdv ct us its ws l1 rT.length.symm l2
    refine BindsTo.of_looks fun M => ?_
    rw [e1]
    exact looks_items X lT oT (.of_pure e2)
section
variable {CX : CXT} {k n mm : Nat} {f C : Addr} {fd : FuncData} {ps ks : List Str} {m : Fn} {c : Str} {p : Pos} {a : Expr} {es : List Expr} {kws : List Keyword} {is : List Nat} {fs fk : Env → Out (List Arg × Env)} {dvs : List V} {dds : List D}
theorem ev_make (hC : PySem.W.nsIn X.K mainGlobals c = some (some (.ref C))) (M : Mk X.K C f) (F : FnG X.prog X.w X.K X.mg X.base CX k f fd ps (spB mm X.K cm m)) (hm : X.mg c = some (.ref C)) (hb : BindK X.K fd ps (n + 1) ks is dvs) (hdd : ∀ F, RpA X.K F dvs dds)
    (hG : X.A.guards = some []) (hr : Room (k + 1) X.A) (hx : ∀ σ, PassesAt CX X σ (WE W σ)) (ha : ER X cm W (a :: es) fs) (hkw : EK X cm W kws fk) (hl1 : RLen n fs) (hl2 : RLen ks.length fk) (hpk : ∀ vs zs : List V, vs.length = n + 1 → zs.length = ks.length → (pickG is vs (zs ++ dvs)).length = mm)
    (hg : Gl X c := by rfl) (hdb : (c == ("__debug__" : Str)) = false := by decide) (hall : (backToKw pos (keywordEach kws X.env)).all (·.1.isSome) = true := by rfl)
    (hks : (backToKw pos (keywordEach kws X.env)).filterMap (·.1) = ks := by rfl) (he : starEach (a :: es) X.env = (false, eval a X.env) :: starEach es X.env := by rfl)
    (hpl : ((backTo pos (starEach (a :: es) X.env)).any (·.1) || (backToKw pos (keywordEach kws X.env)).any (·.1.isNone)) = false := by rfl) : EV X cm W (.Call (.Name c p) (a :: es) kws pos) (fMake m c is dds fs fk) := by
  obtain ⟨t, pa, er⟩ := ha
  obtain ⟨tk, pk, ek⟩ := hkw
  obtain ⟨g, hb⟩ := hb.kbn
  refine ⟨_, pe_makeG M F hG hr hg hm hb hx pa pk hall hks hdb he hpl, fun s Q z q => ?_⟩
  refine er s _ z ?_
  revert q
  unfold fMake
  cases hfs : fs s.e with
  | exc x e1 => exact fun p => p
  | bad => exact fun p => p
  | ok w =>
    obtain ⟨as, e1⟩ := w
    rw [Out.bind_ok]
    intro q vs F1 H1 x1 y1 r1
    refine ek ⟨F1, H1, s.σ, e1⟩ _ y1 ?_
    revert q
    simp only
    cases hfk : fk e1 with
    | exc xx e2 =>
      intro q C oe F' H' x2 y2 xr
      exact q C oe F' H' (x1.trans x2) y2 xr
    | bad => exact fun p => p
    | ok w2 =>
      obtain ⟨bs, e2⟩ := w2
      rw [Out.bind_ok]
      intro q zs F2 H2 x2 y2 r2
      have a1 : vs.length = n := by rw [r1.length, hl1 _ _ _ hfs]
      have a2 : zs.length = ks.length := by rw [r2.length, hl2 _ _ _ hfk]
      exact ⟨a1, a2, new_post hC (x1.trans x2) y2 (r1.mono x2.ff) (r2.append (.ofData (hdd F2))) (fun v => hpk (v :: vs) zs (by simp [a1]) a2) q⟩
theorem ev_make0 (hC : PySem.W.nsIn X.K mainGlobals c = some (some (.ref C))) (M : Mk X.K C f) (F : FnG X.prog X.w X.K X.mg X.base CX k f fd ps (spB mm X.K cm m)) (hm : X.mg c = some (.ref C)) (hb : BindK X.K fd ps 1 ks is dvs) (hdd : ∀ F, RpA X.K F dvs dds)
    (hG : X.A.guards = some []) (hr : Room (k + 1) X.A) (hx : ∀ σ, PassesAt CX X σ (WE W σ)) (hkw : EK X cm W kws fk) (hl2 : RLen ks.length fk) (hpk : ∀ vs zs : List V, vs.length = 1 → zs.length = ks.length → (pickG is vs (zs ++ dvs)).length = mm)
    (hg : Gl X c := by rfl) (hdb : (c == ("__debug__" : Str)) = false := by decide) (hall : (backToKw pos (keywordEach kws X.env)).all (·.1.isSome) = true := by rfl)
    (hks : (backToKw pos (keywordEach kws X.env)).filterMap (·.1) = ks := by rfl)
    (hpl : ((backTo pos (starEach [] X.env)).any (·.1) || (backToKw pos (keywordEach kws X.env)).any (·.1.isNone)) = false := by rfl) : EV X cm W (.Call (.Name c p) [] kws pos) (fMake m c is dds rNil fk) := by
  obtain ⟨tk, pk, ek⟩ := hkw
  obtain ⟨g, hb⟩ := hb.kbn
  refine ⟨_, pe_makeG0 M F hG hr hg hm hb hx pk hall hks hdb hpl, fun s Q z q => ?_⟩
  refine ek ⟨s.F, s.H, s.σ, s.e⟩ _ z ?_
  revert q
  unfold fMake
  have hr0 : rNil s.e = .ok ([], s.e) := rfl
  rw [hr0, Out.bind_ok]
  simp only
  cases hfk : fk s.e with
  | exc xx e2 => exact fun p => p
  | bad => exact fun p => p
  | ok w2 =>
    obtain ⟨bs, e2⟩ := w2
    rw [Out.bind_ok]
    intro q zs F2 H2 x2 y2 r2
    have a2 : zs.length = ks.length := by rw [r2.length, hl2 _ _ _ hfk]
    exact ⟨rfl, a2, new_post hC x2 y2 .nil (r2.append (.ofData (hdd F2))) (fun v => hpk [v] zs rfl a2) q⟩
end
end
end BV
/-! attributes and methods of instances -/
namespace BV
open PySem PySem.Spec PyProof.Rows L2
/-! ### fields as two lists -/
def getF (f : Str) : List Str → List O → Option O
  | n :: ns, o :: os => if n = f then some o else getF f ns os
  | _, _ => none
def putN (f : Str) : List Str → List Str
  | n :: ns => if n = f then n :: ns else n :: putN f ns
  | [] => [f]
def putO (f : Str) (x : O) : List Str → List O → List O
  | n :: ns, o :: os => if n = f then x :: os else o :: putO f x ns os
  | _, _ => [x]
section
variable {K : PySem.W.Frag} {F H : Hp}
theorem getF_ok {f : Str} : ∀ {fs : List (Str × V)} {os : List O} {d : D}, OwnLO K F H os (fs.map (·.2)) → getF f (fs.map (·.1)) os = some (.leaf d) → ∃ v, fs.lookup f = some v ∧ Rp K F v d
  | [], os, d, _, g => by
    cases os <;> cases g
  | (n, v) :: fs, [], d, h, g => by cases g
  | (n, v) :: fs, o :: os, d, ⟨h1, h2⟩, g => by
    have g : (if n = f then some o else getF f (fs.map (·.1)) os) = some (.leaf d) := g
    by_cases c : n = f
    · rw [if_pos c] at g
      cases g
      subst c
      rcases h1 with ⟨d', e, r⟩ | ⟨p, _, h⟩
      · cases e
        exact ⟨v, by simp [List.lookup], r⟩
      · exact h.elim
    · rw [if_neg c] at g
      obtain ⟨w, w1, w2⟩ := getF_ok h2 g
      refine ⟨w, ?_, w2⟩
      have c2 : (f == n) = false := by
        rw [beq_eq_false_iff_ne]
        exact fun q => c q.symm
      simp only [List.lookup, c2]
      exact w1
theorem putN_ok (f : Str) (v : V) : ∀ fs : List (Str × V), (putF f v fs).map (·.1) = putN f (fs.map (·.1))
  | [] => rfl
  | (n, u) :: fs => by
    show ((if n = f then (n, v) :: fs else (n, u) :: putF f v fs).map (·.1)) = (if n = f then n :: fs.map (·.1) else n :: putN f (fs.map (·.1)))
    by_cases c : n = f
    · rw [if_pos c, if_pos c]
      rfl
    · rw [if_neg c, if_neg c, List.map_cons, putN_ok f v fs]
theorem putO_ok {f : Str} {v : V} {d : D} (r : Rp K F v d) : ∀ {fs : List (Str × V)} {os : List O}, OwnLO K F H os (fs.map (·.2)) → OwnLO K F H (putO f (.leaf d) (fs.map (·.1)) os) ((putF f v fs).map (·.2)) ∧
    (∀ a ∈ fpA H (putO f (.leaf d) (fs.map (·.1)) os) ((putF f v fs).map (·.2)), a ∈ fpA H os (fs.map (·.2))) ∧ ((fpA H os (fs.map (·.2))).Nodup → (fpA H (putO f (.leaf d) (fs.map (·.1)) os) ((putF f v fs).map (·.2))).Nodup)
  | [], [], _ => ⟨⟨Or.inl ⟨d, rfl, r⟩, rfl⟩, (fun a ha => by cases ha), fun _ => List.nodup_nil⟩
  | [], o :: os, h => h.elim
  | (n, u) :: fs, [], h => by cases h
  | (n, u) :: fs, o :: os, ⟨h1, h2⟩ => by
    by_cases c : n = f
    · have e1 : putF f v ((n, u) :: fs) = (n, v) :: fs := if_pos c
      have e2 : putO f (.leaf d) (((n, u) :: fs).map (·.1)) (o :: os) = .leaf d :: os := if_pos c
      rw [e1, e2]
      refine ⟨⟨Or.inl ⟨d, rfl, r⟩, h2⟩, fun a ha => List.mem_append_right _ ha, fun nd => (List.nodup_append.mp nd).2.1⟩
    · have e1 : putF f v ((n, u) :: fs) = (n, u) :: putF f v fs := if_neg c
      have e2 : putO f (.leaf d) (((n, u) :: fs).map (·.1)) (o :: os) = o :: putO f (.leaf d) (fs.map (·.1)) os := if_neg c
      obtain ⟨i1, i2, i3⟩ := putO_ok r (f := f) h2
      rw [e1, e2]
      refine ⟨⟨h1, i1⟩, fun a ha => ?_, fun nd => ?_⟩
      · rcases List.mem_append.mp ha with q | q
        · exact List.mem_append_left _ q
        · exact List.mem_append_right _ (i2 a q)
      · obtain ⟨n1, n2, n3⟩ := List.nodup_append.mp nd
        exact List.nodup_append.mpr ⟨n1, i3 n2, fun a ha b hb => n3 a ha b (i2 b hb)⟩
theorem len_putF (f : Str) (v : V) : ∀ fs : List (Str × V), (putF f v fs).length ≤ fs.length + 1
  | [] => Nat.le_refl _
  | (n, u) :: fs => by
    show (if n = f then (n, v) :: fs else (n, u) :: putF f v fs).length ≤ _
    split
    · simp
    · simp only [List.length_cons]
      have := len_putF f v fs
      omega
/-- the field f of the instance in slot i is put -/
theorem St.putFld {σ : L2.St} {e : Env} {i : Nat} {p C dx : Addr} {c : Str} {ns : List Str} {os : List O} {fs : List (Str × V)} {v : V} {d : D} {f : Str} (z : St K ⟨F, H, σ, e⟩) (g : e[i]? = some (Slot.own (.ins c ns os))) (g2 : σ[i]? = some (some (V.ref p)))
    (hp : H p = some (.ins C dx fs)) (r : Rp K F v d) : St K ⟨F, upd H p (.ins C dx (putF f v fs)), σ, e.set i (.own (.ins c (putN f ns) (putO f (.leaf d) ns os)))⟩ ∧ Stp ⟨F, H, σ, e⟩ ⟨F, upd H p (.ins C dx (putF f v fs)), σ, e.set i (.own (.ins c (putN f ns) (putO f (.leaf d) ns os)))⟩ := by
  obtain ⟨p', k1, k2⟩ := z.own i _ g
  have k1 : σ[i]? = some (some (V.ref p')) := k1
  rw [g2] at k1
  cases k1
  have fpn : F p = none := k2.fnone
  have nd := k2.nd
  have nf := k2.nf
  obtain ⟨C', dx', fs', a1, a2, a3, a4, a5⟩ := k2.own
  have a2 : H p = some (.ins C' dx' fs') := a2
  rw [hp] at a2
  cases a2
  subst a4
  obtain ⟨b1, b2, b3⟩ := putO_ok (f := f) r a5
  have pe : parts H (.ref p) = fs.map (·.2) := by
    show partsO (H p) = _
    rw [hp]
    rfl
  have fe : fp H (.ins c (fs.map (·.1)) os) (.ref p) = p :: fpA H os (fs.map (·.2)) := by
    show adr (.ref p) ++ fpA H os (parts H (.ref p)) = _
    rw [pe]
    rfl
  rw [fe] at nd
  obtain ⟨n1, n2⟩ := List.nodup_cons.mp nd
  have np : ∀ a ∈ fpA H (putO f (.leaf d) (fs.map (·.1)) os) ((putF f v fs).map (·.2)), upd H p (.ins C dx (putF f v fs)) a = H a := fun a ha => upd_ne fun q => n1 (q ▸ b2 a ha)
  have fe' : fp (upd H p (.ins C dx (putF f v fs))) (.ins c (putN f (fs.map (·.1))) (putO f (.leaf d) (fs.map (·.1)) os)) (.ref p) = p :: fpA H (putO f (.leaf d) (fs.map (·.1)) os) ((putF f v fs).map (·.2)) := by
    show adr (.ref p) ++ fpA _ _ (partsO (upd H p _ p)) = _
    rw [upd_same]
    show p :: fpA _ _ ((putF f v fs).map (·.2)) = _
    rw [fpA_congr _ np]
  have sub : ∀ a ∈ fp (upd H p (.ins C dx (putF f v fs))) (.ins c (putN f (fs.map (·.1))) (putO f (.leaf d) (fs.map (·.1)) os)) (.ref p), a ∈ fp H (.ins c (fs.map (·.1)) os) (.ref p) := fun a ha => by
    rw [fe'] at ha
    rw [fe]
    rcases List.mem_cons.mp ha with q | q
    · rw [q]
      exact List.mem_cons_self
    · exact List.mem_cons_of_mem _ (b2 a q)
  refine z.mutO g g2 (Ex.refl _) (fun a w q => ?_) (fun a na w q => ?_) (fun a => Or.inr (Or.inl rfl)) ⟨fun a ha => nf a (sub a ha), ?_, C, dx, putF f v fs, a1, upd_same, a3, putN_ok f v fs, OwnLO.mono (Ex.refl _) _ np b1⟩ (fun a ha => Or.inl (sub a ha)) (fun a ha => ?_)
  · rw [upd_ne (ne_of_none q fpn)]
    exact z.fh a w q
  · rw [upd_ne (fun w => na (by rw [w, fe]; exact List.mem_cons_self))]
    exact q
  · rw [fe']
    exact List.nodup_cons.mpr ⟨fun q => n1 (b2 _ q), b3 n2⟩
  · by_cases q : a = p
    · rw [q]
      exact ⟨_, upd_same⟩
    · rw [upd_ne q]
      exact OwnAt.all _ k2.own a ha
end
/-! ### facts of classes -/
def ClsAt (K : PySem.W.Frag) (c : Str) : Prop := ∃ C, PySem.W.nsIn K mainGlobals c = some (some (.ref C)) ∧ Cls K C
def NoAt (K : PySem.W.Frag) (c f : Str) : Prop := ∃ C, PySem.W.nsIn K mainGlobals c = some (some (.ref C)) ∧ NoAttr K C f
theorem cls_is {K : PySem.W.Frag} {c : Str} {C : Addr} (h : ClsAt K c) (n : PySem.W.nsIn K mainGlobals c = some (some (.ref C))) : Cls K C := by
  obtain ⟨C', h1, h2⟩ := h
  rw [n] at h1
  cases h1
  exact h2
theorem no_is {K : PySem.W.Frag} {c f : Str} {C : Addr} (h : NoAt K c f) (n : PySem.W.nsIn K mainGlobals c = some (some (.ref C))) : NoAttr K C f := by
  obtain ⟨C', h1, h2⟩ := h
  rw [n] at h1
  cases h1
  exact h2
/-! ### x.f, x an instance -/
def fFldO (c f : Str) (i : Nat) : Env → Out (Val × Env) := fun e => match e[i]? with
  | some (.own (.ins c' ns os)) => if c' = c then match getF f ns os with
    | some (.leaf d) => .ok (.frz d, e)
    | _ => .bad else .bad
  | _ => .bad
def sFldO (c f : Str) (i : Nat) (fv : Env → Out (Val × Env)) : Env → Out (Fl × Env) := fun e => sE e ((fz fv e).bind asD) fun d e1 => match e1[i]? with
  | some (.own (.ins c' ns os)) => if c' = c ∧ ns.length < 1000 then .ok (.nx, e1.set i (.own (.ins c' (putN f ns) (putO f (.leaf d) ns os)))) else .bad
  | _ => .bad
/-- x.f op= e, of ints -/
def sFldA (c f : Str) (i : Nat) (g : Int → Int → Int) (fv : Env → Out (Val × Env)) : Env → Out (Fl × Env) := fun e => match e[i]? with
  | some (.own (.ins c' ns os)) => if c' = c then match getF f ns os with
    | some (.leaf (.int a)) => sE e (fz fv e) fun v e1 => match v, e1[i]? with
      | .frz (.int b), some (.own (.ins c2 ns2 os2)) => if c2 = c ∧ ns2.length < 900 then .ok (.nx, e1.set i (.own (.ins c2 (putN f ns2) (putO f (.leaf (.int (g a b))) ns2 os2)))) else .bad
      | _, _ => .bad
    | _ => .bad else .bad
  | _ => .bad
def rOpI (g : Int → Int → Int) : V → V → Hp → VK → Prop := fun x y H Q => ∃ i j, x = .int i ∧ y = .int j ∧ Q (.int (g i j)) H
section
variable {X : Cx} {cm : CMap} {W : WX} {k : Nat} {pos : Pos} {a : Expr} {fa : Env → Out (Val × Env)}
theorem ev_fldO {c f x : Str} {px : Pos} (i : Nat) (hc : ClsAt X.K c) (hn : NoAt X.K c f) (hN : X.N[i]? = some x := by rfl) (hv : Vis X.env.scope x := by first | exact Or.inl rfl | exact Or.inr (Or.inl rfl) | exact Or.inr (Or.inr rfl)) (hd : (x == ("__debug__" : Str)) = false := by decide) (hcd : (x == ("__classdict__" : Str)) = false := by decide)
    (hb : attributeBase (.Name x px) f X.env (eval (.Name x px) X.env) = eval (.Name x px) X.env := by rfl) : EV X cm W (.Attribute (.Name x px) f pos) (fFldO c f i) := by
  refine ⟨_, pe_fld (pe_var hN hv hd hcd) hb, fun s Q z q => ?_⟩
  unfold fFldO at q
  split at q
  · rename_i c' ns os g
    split at q
    · rename_i hc'
      subst hc'
      split at q
      · rename_i d hg
        obtain ⟨p, p1, os1⟩ := z.own i _ g
        obtain ⟨C, dx, fs, a1, a2, a3, a4, a5⟩ := os1.own
        subst a4
        obtain ⟨v, l, r⟩ := getF_ok a5 hg
        exact ⟨.ref p, p1, p, C, dx, fs, v, rfl, a2, cls_is hc a1, no_is hn a1, l, q v s.F s.H (Stp.refl s) z r⟩
      · exact q.elim
    · exact q.elim
  · exact q.elim
theorem sv_fldO {c f x : Str} {px pf : Pos} (i : Nat) (hc : ClsAt X.K c) (hn : NoAt X.K c f) (ha : EV X cm W a fa) (hN : X.N[i]? = some x := by rfl) (hv : Vis X.env.scope x := by first | exact Or.inl rfl | exact Or.inr (Or.inl rfl) | exact Or.inr (Or.inr rfl)) (hd : (x == ("__debug__" : Str)) = false := by decide) (hcd : (x == ("__classdict__" : Str)) = false := by decide)
    (hs : swapsWith a (some (.Attribute (.Name x px) f pf)) pos.line X.env = pure false := by rfl) : SV X cm W k (.Assign [.Attribute (.Name x px) f pf] a pos) (sFldO c f i fa) := by
  obtain ⟨ta, pa, ea⟩ := ha
  refine ⟨_, ps_fld (pe_var hN hv hd hcd) pa hs, fun s D z p => ?_⟩
  refine EVt.asD ea s _ z k D _ p fun v d e1 F1 H1 x1 q1 y1 r p1 => ?_
  split at p1
  · rename_i c' ns os g
    split at p1
    · rename_i hc'
      obtain ⟨rfl, hl⟩ := hc'
      obtain ⟨q, k1, os1⟩ := y1.own i _ g
      have k1 : s.σ[i]? = some (some (V.ref q)) := k1
      obtain ⟨C, dx, fs, a1, a2, a3, a4, a5⟩ := os1.own
      have b := St.putFld (f := f) y1 g k1 a2 r
      have hl2 : fs.length < 1000 := by
        rw [← a4, List.length_map] at hl
        exact hl
      refine ⟨.ref q, k1, q, C, dx, fs, rfl, a2, cls_is hc a1, no_is hn a1, hl2, ?_⟩
      exact p1 F1 _ s.σ (x1.trans b.2) (q1.trans fun l o hl go => ⟨rfl, by
        by_cases e : i = l
        · subst e
          exact ⟨_, List.getElem?_set_self (List.getElem?_eq_some_iff.mp g).1⟩
        · exact ⟨o, (List.getElem?_set_ne e).trans go⟩⟩) b.1
    · exact False.elim p1
  · exact False.elim p1
theorem sv_fldA {c f x : Str} {px tpos : Pos} {op : Operator} {g : Int → Int → Int} (i : Nat) (ho : InOp X op (rOpI g)) (hc : ClsAt X.K c) (hn : NoAt X.K c f) (ha : EV X cm W a fa) (hN : X.N[i]? = some x := by rfl) (hv : Vis X.env.scope x := by first | exact Or.inl rfl | exact Or.inr (Or.inl rfl) | exact Or.inr (Or.inr rfl))
    (hd : (x == ("__debug__" : Str)) = false := by decide) (hcd : (x == ("__classdict__" : Str)) = false := by decide) : SV X cm W k (.AugAssign (.Attribute (.Name x px) f tpos) op a pos) (sFldA c f i g fa) := by
  obtain ⟨ta, pa, ea⟩ := ha
  refine ⟨_, ps_fldaug (pe_var hN hv hd hcd) pa ho, fun s D z p => ?_⟩
  unfold sFldA at p
  split at p
  · rename_i c' ns os gg
    split at p
    · rename_i hc'
      subst hc'
      split at p
      · rename_i ia hg
        obtain ⟨q, k1, os1⟩ := z.own i _ gg
        have k1 : s.σ[i]? = some (some (V.ref q)) := k1
        obtain ⟨C, dx, fs, a1, a2, a3, a4, a5⟩ := os1.own
        have hg2 : getF f (fs.map (·.1)) os = some (.leaf (.int ia)) := by
          rw [a4]
          exact hg
        obtain ⟨v, l, r⟩ := getF_ok a5 hg2
        cases r
        refine ⟨.ref q, k1, q, C, dx, fs, .int ia, rfl, a2, cls_is hc a1, no_is hn a1, l, ?_⟩
        refine ea.fz.stepS (s := ⟨s.F, s.H, s.σ, s.e⟩) z p fun v2 val e1 F1 H1 _ x1 q1 y1 r2 p2 => ?_
        split at p2
        · rename_i b c2 ns2 os2 g2 _
          split at p2
          · rename_i hc2
            obtain ⟨rfl, hl⟩ := hc2
            cases (show Rp X.K F1 v2 (.int b) from r2)
            obtain ⟨q', k1', os2'⟩ := y1.own i _ g2
            have k1' : s.σ[i]? = some (some (V.ref q')) := k1'
            rw [k1] at k1'
            cases k1'
            obtain ⟨C2, dx2, fs2, b1, b2, b3, b4, b5⟩ := os2'.own
            rw [a1] at b1
            cases b1
            have bb := St.putFld (f := f) (d := .int (g ia b)) y1 g2 k1 b2 (.int _)
            have hl2 : fs2.length < 1000 := by
              rw [← b4, List.length_map] at hl
              omega
            refine ⟨ia, b, rfl, rfl, dx2, fs2, b2, hl2, ?_⟩
            exact p2 F1 _ s.σ (x1.trans bb.2) (q1.trans fun l o hl go => ⟨rfl, by
              by_cases e : i = l
              · subst e
                exact ⟨_, List.getElem?_set_self (List.getElem?_eq_some_iff.mp g2).1⟩
              · exact ⟨o, (List.getElem?_set_ne e).trans go⟩⟩) bb.1
          · exact False.elim p2
        · exact False.elim p2
      · exact False.elim p
    · exact False.elim p
  · exact False.elim p
end
/-! ### x.m(..) -/
section
variable {X : Cx} {cm : CMap} {W : WX} {pos apos : Pos} {CX : CXT} {k n : Nat} {f C : Addr} {fd : FuncData} {ps : List Str} {sp : Sp} {E : L2.St → XK} {dvs : List V} {ds : List Value} {m : Str} {o e : Expr} {es : List Expr} {ta : TE} {t : TA}
def tMethG (C : Addr) (m : Str) (sp : Sp) (dvs : List V) (E : L2.St → XK) (ta : TE) (t : TA) : TE := fun σ H Q => ta σ H fun x H1 => ∃ a dx fs, x = .ref a ∧ H1 a = some (.ins C dx fs) ∧ fs.lookup m = none ∧
  t σ H1 fun vs H2 => sp (x :: (vs ++ dvs)) H2 Q (E σ)
theorem pe_methG {pl : Sem Bool} (he : PE X o ta) (c : Cls X.K C) (hm : Meth X.K C m f) (F : FnG X.prog X.w X.K X.mg X.base CX k f fd ps sp) (hG : X.A.guards = some []) (hr : Room k X.A) (hb : Binds X.K fd ps ds) (hd : Vals dvs ds) (hx : ∀ σ, PassesAt CX X σ (E σ)) (ha : PA X (e :: es) t)
    (hst : starEach (e :: es) X.env = (false, eval e X.env) :: starEach es X.env) (hpl : (backTo pos (starEach es X.env)).any (·.1) = false)
    (ht : eval (.Call (.Attribute o m apos) (e :: es) [] pos) X.env = (do
      let ov ← eval o X.env
      standAt apos.atName
      let (f, first) ← holding [ov] (getMethod ov m pl)
      callWith pos f first (backTo pos (starEach (e :: es) X.env)) (backToKw pos (keywordEach [] X.env)))) :
    PE X (.Call (.Attribute o m apos) (e :: es) [] pos) (tMethG C m sp dvs E ta t) := by
  constructor
  intro pins s σ H Q I h
  refine PySem.W.methodCall_KW (pl := pl) (thn (he.run pins s σ H _ I h) ?_) ht
  rintro u s1 ⟨x, H1, I1, rx, a, dx, fs, ex, ea, l, q⟩
  subst ex
  obtain rfl : u = Value.ref a := rx
  refine getmeth_ok I1 ea c hm l ?_
  refine PySem.W.callWith_K (first := [.ref a]) (h₀ := X.base) I.ok.mod.kin hm.kp (thn (ha.run pos pins s1 σ H1 _ I1 q) ?_) hst hpl
  rintro us s2 ⟨vs, H2, I2, r, q2⟩
  exact ⟨I2.kIn, run_g (us := .ref a :: us) (vs := .ref a :: vs) F hG hr hb hd (hx σ) I2 (.cons rfl r) q2⟩
theorem pe_methG0 {pl : Sem Bool} (he : PE X o ta) (c : Cls X.K C) (hm : Meth X.K C m f) (F : FnG X.prog X.w X.K X.mg X.base CX k f fd ps sp) (hG : X.A.guards = some []) (hr : Room k X.A) (hb : Binds X.K fd ps ds) (hd : Vals dvs ds) (hx : ∀ σ, PassesAt CX X σ (E σ))
    (ht : eval (.Call (.Attribute o m apos) [] [] pos) X.env = (do
      let ov ← eval o X.env
      standAt apos.atName
      let (f, first) ← holding [ov] (getMethod ov m pl)
      callWith pos f first (backTo pos (starEach [] X.env)) (backToKw pos (keywordEach [] X.env)))) :
    PE X (.Call (.Attribute o m apos) [] [] pos) (tMethG C m sp dvs E ta tNil) := by
  constructor
  intro pins s σ H Q I h
  refine PySem.W.methodCall_KW (pl := pl) (thn (he.run pins s σ H _ I h) ?_) ht
  rintro u s1 ⟨x, H1, I1, rx, a, dx, fs, ex, ea, l, q⟩
  subst ex
  obtain rfl : u = Value.ref a := rx
  refine getmeth_ok I1 ea c hm l ?_
  exact PySem.W.callWith_K0 (first := [.ref a]) I1.kIn hm.kp (run_g (us := [.ref a]) (vs := [.ref a]) F hG hr hb hd (hx σ) I1 (.cons rfl .nil) q)
/-- a method: its class, its def -/
def MethAt (K : PySem.W.Frag) (c m qual : Str) (st : Stmt) (ps : List Str) : Prop := ∃ (C f : Addr) (fd : FuncData), PySem.W.nsIn K mainGlobals c = some (some (.ref C)) ∧ Meth K C m f ∧ L2.Fun K m qual st f fd ∧ Binds K fd ps []
/-- x.m(..), x a local instance -/
def fMeth (c mn : Str) (m : Fn) (i : Nat) (fs : Env → Out (List Arg × Env)) : Env → Out (Val × Env) := fun e => match e[i]? with
  | some (.own (.ins c' ns _)) => if c' = c ∧ ¬ mn ∈ ns then (fs e).bind fun a => callAs m (.own i :: a.1) a.2 else .bad
  | _ => .bad
/-- e.m(), e a new instance -/
def fMethN (c mn : Str) (m : Fn) (f : Env → Out (Val × Env)) : Env → Out (Val × Env) := fun e => (f e).bind fun a => match a.1 with
  | .new (.ins c' ns os) => if c' = c ∧ ¬ mn ∈ ns then letK a.2.length (callT m (.ins c' ns os) [0] [] [] a.2) else .bad
  | _ => .bad
theorem lookup_no {f : Str} : ∀ {fs : List (Str × V)}, ¬ f ∈ fs.map (·.1) → fs.lookup f = none
  | [], _ => rfl
  | (n, v) :: fs, h => by
    have c : (f == n) = false := by
      rw [beq_eq_false_iff_ne]
      rintro rfl
      exact h List.mem_cons_self
    simp only [List.lookup, c]
    exact lookup_no fun q => h (List.mem_cons_of_mem _ q)
theorem ev_methI1 {c x : Str} {px : Pos} {mf : Fn} {fs : Env → Out (List Arg × Env)} {pl : Sem Bool} (i : Nat) (hc : ClsAt X.K c) (hC : PySem.W.nsIn X.K mainGlobals c = some (some (.ref C))) (hm : Meth X.K C m f) (F : FnG X.prog X.w X.K X.mg X.base CX k f fd ps (spB n X.K cm mf)) (hb : Binds X.K fd ps [])
    (hG : X.A.guards = some []) (hr : Room k X.A) (hx : ∀ σ, PassesAt CX X σ (WE W σ)) (hn : (e :: es).length + 1 = n) (ha : ER X cm W (e :: es) fs) (hlen : ∀ e' as e2, fs e' = .ok (as, e2) → as.length = (e :: es).length)
    (hN : X.N[i]? = some x := by rfl) (hv : Vis X.env.scope x := by first | exact Or.inl rfl | exact Or.inr (Or.inl rfl) | exact Or.inr (Or.inr rfl)) (hd : (x == ("__debug__" : Str)) = false := by decide) (hcd : (x == ("__classdict__" : Str)) = false := by decide)
    (hst : starEach (e :: es) X.env = (false, eval e X.env) :: starEach es X.env := by rfl) (hpl : (backTo pos (starEach es X.env)).any (·.1) = false := by rfl)
    (ht : eval (.Call (.Attribute (.Name x px) m apos) (e :: es) [] pos) X.env = (do
      let ov ← eval (.Name x px) X.env
      standAt apos.atName
      let (f, first) ← holding [ov] (getMethod ov m pl)
      callWith pos f first (backTo pos (starEach (e :: es) X.env)) (backToKw pos (keywordEach [] X.env))) := by rfl) : EV X cm W (.Call (.Attribute (.Name x px) m apos) (e :: es) [] pos) (fMeth c m mf i fs) := by
  obtain ⟨t, pa, er⟩ := ha
  refine ⟨_, pe_methG (pe_var hN hv hd hcd) (cls_is hc hC) hm F hG hr hb .nil hx pa hst hpl ht, fun s Q z q => ?_⟩
  unfold fMeth at q
  split at q
  · rename_i c' ns os g
    split at q
    · rename_i hcc
      obtain ⟨rfl, hnn⟩ := hcc
      obtain ⟨p, p1, os1⟩ := z.own i _ g
      obtain ⟨C', dx, fl, a1, a2, a3, a4, a5⟩ := os1.own
      rw [hC] at a1
      cases a1
      subst a4
      refine ⟨.ref p, p1, p, dx, fl, rfl, a2, lookup_no hnn, ?_⟩
      refine er s _ z ?_
      revert q
      cases hfs : fs s.e with
      | exc x e1 => exact fun p => p
      | bad => exact fun p => p
      | ok w =>
        obtain ⟨as, e1⟩ := w
        rw [Out.bind_ok]
        intro q vs F1 H1 x1 y1 r1
        have hl : vs.length = (e :: es).length := by rw [r1.length, hlen _ _ _ hfs]
        have := callAs_post (n := n) (vs := .ref p :: vs) x1 y1 (.own p1 r1) (by rw [List.length_cons, hl]; exact hn) q
        rwa [List.append_nil]
    · exact q.elim
  · exact q.elim
theorem ev_methI0 {c x : Str} {px : Pos} {mf : Fn} {pl : Sem Bool} (i : Nat) (hc : ClsAt X.K c) (hC : PySem.W.nsIn X.K mainGlobals c = some (some (.ref C))) (hm : Meth X.K C m f) (F : FnG X.prog X.w X.K X.mg X.base CX k f fd ps (spB 1 X.K cm mf)) (hb : Binds X.K fd ps [])
    (hG : X.A.guards = some []) (hr : Room k X.A) (hx : ∀ σ, PassesAt CX X σ (WE W σ))
    (hN : X.N[i]? = some x := by rfl) (hv : Vis X.env.scope x := by first | exact Or.inl rfl | exact Or.inr (Or.inl rfl) | exact Or.inr (Or.inr rfl)) (hd : (x == ("__debug__" : Str)) = false := by decide) (hcd : (x == ("__classdict__" : Str)) = false := by decide)
    (ht : eval (.Call (.Attribute (.Name x px) m apos) [] [] pos) X.env = (do
      let ov ← eval (.Name x px) X.env
      standAt apos.atName
      let (f, first) ← holding [ov] (getMethod ov m pl)
      callWith pos f first (backTo pos (starEach [] X.env)) (backToKw pos (keywordEach [] X.env))) := by rfl) : EV X cm W (.Call (.Attribute (.Name x px) m apos) [] [] pos) (fMeth c m mf i rNil) := by
  refine ⟨_, pe_methG0 (pe_var hN hv hd hcd) (cls_is hc hC) hm F hG hr hb .nil hx ht, fun s Q z q => ?_⟩
  unfold fMeth at q
  split at q
  · rename_i c' ns os g
    split at q
    · rename_i hcc
      obtain ⟨rfl, hnn⟩ := hcc
      obtain ⟨p, p1, os1⟩ := z.own i _ g
      obtain ⟨C', dx, fl, a1, a2, a3, a4, a5⟩ := os1.own
      rw [hC] at a1
      cases a1
      subst a4
      refine ⟨.ref p, p1, p, dx, fl, rfl, a2, lookup_no hnn, ?_⟩
      exact callAs_post (s := s) (n := 1) (vs := [.ref p]) (Stp.refl s) z (.own p1 .nil) rfl q
    · exact q.elim
  · exact q.elim
theorem ev_methN {c : Str} {mf : Fn} {fo : Env → Out (Val × Env)} {pl : Sem Bool} (ho : EV X cm W o fo) (hc : ClsAt X.K c) (hC : PySem.W.nsIn X.K mainGlobals c = some (some (.ref C))) (hm : Meth X.K C m f) (F : FnG X.prog X.w X.K X.mg X.base CX k f fd ps (spB 1 X.K cm mf)) (hb : Binds X.K fd ps [])
    (hG : X.A.guards = some []) (hr : Room k X.A) (hx : ∀ σ, PassesAt CX X σ (WE W σ))
    (ht : eval (.Call (.Attribute o m apos) [] [] pos) X.env = (do
      let ov ← eval o X.env
      standAt apos.atName
      let (f, first) ← holding [ov] (getMethod ov m pl)
      callWith pos f first (backTo pos (starEach [] X.env)) (backToKw pos (keywordEach [] X.env))) := by rfl) : EV X cm W (.Call (.Attribute o m apos) [] [] pos) (fMethN c m mf fo) := by
  obtain ⟨to, po, eo⟩ := ho
  refine ⟨_, pe_methG0 po (cls_is hc hC) hm F hG hr hb .nil hx ht, fun s Q z q => ?_⟩
  unfold fMethN at q
  refine eo s _ z ?_
  revert q
  cases fo s.e with
  | exc x e1 => exact fun p => p
  | bad => exact fun p => p
  | ok w =>
    obtain ⟨val, e1⟩ := w
    simp only [Out.bind_ok]
    intro q v F1 H1 x1 y1 vr
    split at q
    · rename_i c' ns os
      split at q
      · rename_i hcc
        obtain ⟨rfl, hnn⟩ := hcc
        obtain ⟨p, rfl, os1, nw⟩ := vr
        obtain ⟨C', dx, fl, a1, a2, a3, a4, a5⟩ := os1.own
        rw [hC] at a1
        cases a1
        subst a4
        refine ⟨p, dx, fl, rfl, a2, lookup_no hnn, ?_⟩
        exact drop_post (s0 := s) (n := 1) (is := [0]) (us := []) (ws := []) (vs := []) (zs := []) x1 y1 os1 nw .nil .nil rfl q
      · exact q.elim
    · exact q.elim
end
end BV
/-! classes: their facts; equations -/
namespace BV
open PySem PySem.Spec PyProof.Rows L2
/-- a class that is made, its __init__ -/
def MakeAt (K : PySem.W.Frag) (mg : Str → Option Value) (c qual : Str) (st : Stmt) (dvs : List V) : Prop := ∃ (C f : Addr) (fd : FuncData), PySem.W.nsIn K mainGlobals c = some (some (.ref C)) ∧ mg c = some (.ref C) ∧ Mk K C f ∧ FunD K "__init__" qual (defArgs st) (defBody st) (defScope st) dvs [] f fd
theorem make_at {K : PySem.W.Frag} {h : Heap} {mg : Str → Option Value} {c qual : Str} {st : Stmt} {dvs : List V} {C f T : Addr} {oc : Value} {od an : Option Addr} {osl : Array (Option Value)} {kV doc pm cdv ct : Value} {o : Obj} {its : List Value} {m : Nat} (X : K.In h) (G : h.Ns mainGlobals mg)
    (aC : PySem.W.nsIn K mainGlobals c = some (some (.ref C))) (mk : PySem.W.makesIn K C = true) (ini : PySem.W.findIn K (.ref C) "__init__" = some (some (.ref f))) (fn : PySem.W.isFn K (.ref f) = true) (kp : PySem.W.keepIn K (.ref C) = true)
    (l : K.lookup f = some ⟨oc, od, .func (PySem.W.fnOf "__init__" qual (defArgs st) (defBody st) (defScope st) (.ref T) kV doc pm an cdv ct), osl⟩) (cd : PySem.W.codeIn K cdv qual = true) (k : PySem.W.keepIn K (.ref f) = true)
    (lT : K.lookup T = some o) (oT : o.data = .seq its.toArray m) (r : Vals dvs its) (hd : dvs ≠ []) : MakeAt K mg c qual st dvs :=
  ⟨C, f, _, aC, PySem.W.mg_of X G aC, ⟨mk, ini, fn, kp⟩, ⟨⟨oc, od, _, kV, doc, pm, an, cdv, ct, osl, rfl, l, cd, Or.inr ⟨hd, T, o, its, m, rfl, lT, oT, r⟩, Or.inl rfl⟩, k⟩⟩
theorem make_at0 {K : PySem.W.Frag} {h : Heap} {mg : Str → Option Value} {c qual : Str} {st : Stmt} {C f : Addr} {oc : Value} {od an : Option Addr} {osl : Array (Option Value)} {kV doc pm cdv ct : Value} (X : K.In h) (G : h.Ns mainGlobals mg)
    (aC : PySem.W.nsIn K mainGlobals c = some (some (.ref C))) (mk : PySem.W.makesIn K C = true) (ini : PySem.W.findIn K (.ref C) "__init__" = some (some (.ref f))) (fn : PySem.W.isFn K (.ref f) = true) (kp : PySem.W.keepIn K (.ref C) = true)
    (l : K.lookup f = some ⟨oc, od, .func (PySem.W.fnOf "__init__" qual (defArgs st) (defBody st) (defScope st) .none kV doc pm an cdv ct), osl⟩) (cd : PySem.W.codeIn K cdv qual = true) (k : PySem.W.keepIn K (.ref f) = true) : MakeAt K mg c qual st [] :=
  ⟨C, f, _, aC, PySem.W.mg_of X G aC, ⟨mk, ini, fn, kp⟩, ⟨⟨oc, od, _, kV, doc, pm, an, cdv, ct, osl, rfl, l, cd, Or.inl ⟨rfl, rfl⟩, Or.inl rfl⟩, k⟩⟩
theorem cls_at {K : PySem.W.Frag} {c : Str} {C : Addr} (aC : PySem.W.nsIn K mainGlobals c = some (some (.ref C))) (h1 : PySem.W.plainGet K C Str.empty = true) (h2 : PySem.W.hasDictIn K C = true) (h3 : PySem.W.plainOver K C = true)
    (h4 : PySem.W.findIn K (.ref C) "__setattr__" = some (some (.builtin "object.__setattr__"))) : ClsAt K c := ⟨C, aC, h1, h2, h3, h4⟩
theorem noA_at {K : PySem.W.Frag} {c f : Str} {C : Addr} (aC : PySem.W.nsIn K mainGlobals c = some (some (.ref C))) (h : PySem.W.findIn K (.ref C) f = some none) : NoAt K c f := ⟨C, aC, h⟩
theorem meth_at {K : PySem.W.Frag} {c m qual : Str} {st : Stmt} {ps : List Str} {C f : Addr} {oc : Value} {od an : Option Addr} {osl : Array (Option Value)} {kV doc pm cdv ct : Value}
    (aC : PySem.W.nsIn K mainGlobals c = some (some (.ref C))) (h1 : PySem.W.findIn K (.ref C) m = some (some (.ref f))) (h2 : PySem.W.isFn K (.ref f) = true) (h3 : PySem.W.keepIn K (.ref f) = true)
    (l : K.lookup f = some ⟨oc, od, .func (PySem.W.fnOf m qual (defArgs st) (defBody st) (defScope st) .none kV doc pm an cdv ct), osl⟩) (cd : PySem.W.codeIn K cdv qual = true)
    (b : ∀ (kV doc pm : Value) (an : Option Addr) (cdv ct : Value) (us : List Value), us.length = ps.length → bindArgs (PySem.W.fnOf m qual (defArgs st) (defBody st) (defScope st) .none kV doc pm an cdv ct) ⟨us, []⟩ = pure (ps.zip us)) : MethAt K c m qual st ps :=
  ⟨C, f, _, aC, ⟨h1, h2, h3⟩, fun_mk l cd h3, (fun_mk l cd h3).binds b⟩
theorem FunA.ofQ {K : PySem.W.Frag} {x qual : Str} {st : Stmt} {dvs : List V} {f : Addr} {fd : FuncData} (F : FunD K x qual (defArgs st) (defBody st) (defScope st) dvs [] f fd) : FunA K x qual st f fd := by
  obtain ⟨oc, od, dV, kV, doc, pm, an, cdv, ct, osl, h1, h2, h3, _⟩ := F.ex
  exact ⟨oc, od, dV, kV, doc, pm, an, cdv, ct, osl, h1, h2, h3⟩
/-- the def of a class' body -/
def clsStmt (st : Stmt) (j : Nat) : Stmt := (clsBody st).getD j (.Pass ⟨0, 0, 0, 0⟩)
/-! ### equations -/
section
variable {e : Env}
@[simp] theorem fFldO_eq (c f : Str) (i : Nat) : fFldO c f i e = match e[i]? with
  | some (.own (.ins c' ns os)) => if c' = c then match getF f ns os with
    | some (.leaf d) => .ok (.frz d, e)
    | _ => .bad else .bad
  | _ => .bad := rfl
def fldOK (c f : Str) (i : Nat) (d : D) (e1 : Env) : Out (Fl × Env) := match e1[i]? with
  | some (.own (.ins c' ns os)) => if c' = c ∧ ns.length < 1000 then .ok (.nx, e1.set i (.own (.ins c' (putN f ns) (putO f (.leaf d) ns os)))) else .bad
  | _ => .bad
@[simp] theorem sFldO_eq (c f : Str) (i : Nat) (fv : Env → Out (Val × Env)) : sFldO c f i fv e = sE e ((fz fv e).bind asD) (fldOK c f i) := rfl
@[simp] theorem fldOK_eq (c f : Str) (i : Nat) (d : D) (e1 : Env) : fldOK c f i d e1 = match e1[i]? with
  | some (.own (.ins c' ns os)) => if c' = c ∧ ns.length < 1000 then .ok (.nx, e1.set i (.own (.ins c' (putN f ns) (putO f (.leaf d) ns os)))) else .bad
  | _ => .bad := rfl
def fldAK (c f : Str) (i : Nat) (g : Int → Int → Int) (a : Int) (v : Val) (e1 : Env) : Out (Fl × Env) := match v, e1[i]? with
      | .frz (.int b), some (.own (.ins c2 ns2 os2)) => if c2 = c ∧ ns2.length < 900 then .ok (.nx, e1.set i (.own (.ins c2 (putN f ns2) (putO f (.leaf (.int (g a b))) ns2 os2)))) else .bad
      | _, _ => .bad
@[simp] theorem sFldA_eq (c f : Str) (i : Nat) (g : Int → Int → Int) (fv : Env → Out (Val × Env)) : sFldA c f i g fv e = match e[i]? with
  | some (.own (.ins c' ns os)) => if c' = c then match getF f ns os with
    | some (.leaf (.int a)) => sE e (fz fv e) (fldAK c f i g a)
    | _ => .bad else .bad
  | _ => .bad := rfl
@[simp] theorem fldAK_eq (c f : Str) (i : Nat) (g : Int → Int → Int) (a : Int) (v : Val) (e1 : Env) : fldAK c f i g a v e1 = match v, e1[i]? with
      | .frz (.int b), some (.own (.ins c2 ns2 os2)) => if c2 = c ∧ ns2.length < 900 then .ok (.nx, e1.set i (.own (.ins c2 (putN f ns2) (putO f (.leaf (.int (g a b))) ns2 os2)))) else .bad
      | _, _ => .bad := rfl
def methOK (m : Fn) (i : Nat) (a : List Arg × Env) : Out (Val × Env) := callAs m (.own i :: a.1) a.2
@[simp] theorem fMeth_eq (c mn : Str) (m : Fn) (i : Nat) (fs : Env → Out (List Arg × Env)) : fMeth c mn m i fs e = match e[i]? with
  | some (.own (.ins c' ns _)) => if c' = c ∧ ¬ mn ∈ ns then (fs e).bind (methOK m i) else .bad
  | _ => .bad := rfl
@[simp] theorem methOK_eq (m : Fn) (i : Nat) (as : List Arg) : methOK m i (as, e) = callAs m (.own i :: as) e := rfl
def methNK (c mn : Str) (m : Fn) (a : Val × Env) : Out (Val × Env) := match a.1 with
  | .new (.ins c' ns os) => if c' = c ∧ ¬ mn ∈ ns then letK a.2.length (callT m (.ins c' ns os) [0] [] [] a.2) else .bad
  | _ => .bad
@[simp] theorem fMethN_eq (c mn : Str) (m : Fn) (f : Env → Out (Val × Env)) : fMethN c mn m f e = (f e).bind (methNK c mn m) := rfl
@[simp] theorem methNK_new (c mn c' : Str) (m : Fn) (ns : List Str) (os : List O) : methNK c mn m (.new (.ins c' ns os), e) = if c' = c ∧ ¬ mn ∈ ns then letK e.length (callT m (.ins c' ns os) [0] [] [] e) else .bad := rfl
def mkK2 (m : Fn) (c : Str) (is : List Nat) (dds : List D) (as : List Arg) (b : List Arg × Env) : Out (Val × Env) := newK b.2.length (callT m (.ins c [] []) is as (b.1 ++ dds.map Arg.dat) b.2)
def mkK (m : Fn) (c : Str) (is : List Nat) (dds : List D) (fk : Env → Out (List Arg × Env)) (a : List Arg × Env) : Out (Val × Env) := (fk a.2).bind (mkK2 m c is dds a.1)
@[simp] theorem fMake_eq (m : Fn) (c : Str) (is : List Nat) (dds : List D) (fs fk : Env → Out (List Arg × Env)) : fMake m c is dds fs fk e = (fs e).bind (mkK m c is dds fk) := rfl
@[simp] theorem mkK_eq (m : Fn) (c : Str) (is : List Nat) (dds : List D) (fk : Env → Out (List Arg × Env)) (as : List Arg) : mkK m c is dds fk (as, e) = (fk e).bind (mkK2 m c is dds as) := rfl
@[simp] theorem mkK2_eq (m : Fn) (c : Str) (is : List Nat) (dds : List D) (as bs : List Arg) : mkK2 m c is dds as (bs, e) = newK e.length (callT m (.ins c [] []) is as (bs ++ dds.map Arg.dat) e) := rfl
end
/-- a constructor's call, by what __init__ does -/
theorem new_ok {m : Fn} {c : Str} {is : List Nat} {us ws : List Arg} {e : Env} {ds : List D} {o : O} {sl' : List Slot} (hp : pickG is (.own e.length :: us) ws = .own e.length :: ds.map .dat) (h : m (.own (.ins c [] []) :: ds.map .frz) = .ok (.frz .none, .own o :: sl')) (hl : sl'.length = ds.length) :
    newK e.length (callT m (.ins c [] []) is us ws e) = .ok (.new o, e) := by
  have own0 : ∀ ds : List D, ownIx (ds.map .dat) = [] := fun ds => by
    induction ds with
    | nil => rfl
    | cons d ds ih => exact ih
  have slo : ∀ (ds : List D) (e : Env), slotsOf e (ds.map .dat) = some (ds.map .frz) := fun ds e => by
    induction ds with
    | nil => rfl
    | cons d ds ih =>
      show (slotsOf e (ds.map .dat)).map _ = _
      rw [ih]
      rfl
  have wbs : ∀ (ds : List D) (sl : List Slot) (e : Env), sl.length = ds.length → wb (ds.map .dat) sl e = some e := fun ds => by
    induction ds with
    | nil => intro sl e _; rfl
    | cons d ds ih =>
      intro sl e hl
      cases sl with
      | nil => simp at hl
      | cons s sl => exact ih sl e (by simpa using hl)
  have e1 : (e ++ [Slot.own (.ins c [] [])])[e.length]? = some (.own (.ins c [] [])) := push_last
  have hs : slotsOf (e ++ [Slot.own (.ins c [] [])]) (.own e.length :: ds.map .dat) = some (.own (.ins c [] []) :: ds.map .frz) := by
    simp only [slotsOf, e1, slo, Option.map_some]
  have hw : wb (.own e.length :: ds.map .dat) (.own o :: sl') (e ++ [Slot.own (.ins c [] [])]) = some ((e ++ [Slot.own (.ins c [] [])]).set e.length (.own o)) := by
    simp only [wb, wbs _ _ _ hl, Option.map_some]
  have hn : (ownIx (.own e.length :: ds.map Arg.dat)).Nodup := by simp [ownIx, own0]
  have ee : (e ++ [Slot.own (.ins c [] [])]).set e.length (.own o) = e ++ [.own o] := by simp
  unfold callT
  rw [hp]
  unfold callAs
  rw [if_pos hn, hs]
  simp only [h, hw, ee, newK]
  simp
theorem new_exc {m : Fn} {c : Str} {is : List Nat} {us ws : List Arg} {e : Env} {ds : List D} {x : Exn} {o : O} {sl' : List Slot} (hp : pickG is (.own e.length :: us) ws = .own e.length :: ds.map .dat) (h : m (.own (.ins c [] []) :: ds.map .frz) = .exc x (.own o :: sl')) (hl : sl'.length = ds.length) :
    newK e.length (callT m (.ins c [] []) is us ws e) = .exc x e := by
  have own0 : ∀ ds : List D, ownIx (ds.map .dat) = [] := fun ds => by
    induction ds with
    | nil => rfl
    | cons d ds ih => exact ih
  have slo : ∀ (ds : List D) (e : Env), slotsOf e (ds.map .dat) = some (ds.map .frz) := fun ds e => by
    induction ds with
    | nil => rfl
    | cons d ds ih =>
      show (slotsOf e (ds.map .dat)).map _ = _
      rw [ih]
      rfl
  have wbs : ∀ (ds : List D) (sl : List Slot) (e : Env), sl.length = ds.length → wb (ds.map .dat) sl e = some e := fun ds => by
    induction ds with
    | nil => intro sl e _; rfl
    | cons d ds ih =>
      intro sl e hl
      cases sl with
      | nil => simp at hl
      | cons s sl => exact ih sl e (by simpa using hl)
  have e1 : (e ++ [Slot.own (.ins c [] [])])[e.length]? = some (.own (.ins c [] [])) := push_last
  have hs : slotsOf (e ++ [Slot.own (.ins c [] [])]) (.own e.length :: ds.map .dat) = some (.own (.ins c [] []) :: ds.map .frz) := by
    simp only [slotsOf, e1, slo, Option.map_some]
  have hw : wb (.own e.length :: ds.map .dat) (.own o :: sl') (e ++ [Slot.own (.ins c [] [])]) = some ((e ++ [Slot.own (.ins c [] [])]).set e.length (.own o)) := by
    simp only [wb, wbs _ _ _ hl, Option.map_some]
  have hn : (ownIx (.own e.length :: ds.map Arg.dat)).Nodup := by simp [ownIx, own0]
  have ee : (e ++ [Slot.own (.ins c [] [])]).set e.length (.own o) = e ++ [.own o] := by simp
  unfold callT
  rw [hp]
  unfold callAs
  rw [if_pos hn, hs]
  simp only [h, hw, ee, newK]
  simp
/-- a method of a new instance -/
theorem temp_ok {m : Fn} {o o' : O} {e : Env} {d : D} (h : m [.own o] = .ok (.frz d, [.own o'])) : letK e.length (callT m o [0] [] [] e) = .ok (.frz d, e) := by
  have e1 : (e ++ [Slot.own o])[e.length]? = some (.own o) := push_last
  have hs : slotsOf (e ++ [Slot.own o]) [.own e.length] = some [.own o] := by simp only [slotsOf, e1, Option.map_some]
  have hw : wb [.own e.length] [.own o'] (e ++ [Slot.own o]) = some ((e ++ [Slot.own o]).set e.length (.own o')) := rfl
  have hp : pickG [0] [Arg.own e.length] [] = [.own e.length] := rfl
  have ee : (e ++ [Slot.own o]).set e.length (.own o') = e ++ [.own o'] := by simp
  unfold callT
  rw [hp]
  unfold callAs
  rw [if_pos (by simp [ownIx]), hs]
  simp only [h, hw, ee, letK]
  simp
end BV
/-! several targets, some of which are fields of an own instance -/
namespace BV
open PySem PySem.Spec PyProof.Rows L2
inductive Tgt where
  | name (i : Nat)
  | fld (c f : Str) (i : Nat)
def putT (k : Nat) : List Tgt → List D → Env → Option Env
  | [], [], e => some e
  | .name i :: ts, d :: ds, e => if asgOk k e i = true then putT k ts ds (e.set i (.frz d)) else none
  | .fld c f i :: ts, d :: ds, e => match e[i]? with
    | some (.own (.ins c' ns os)) => if c' = c ∧ ns.length < 1000 then putT k ts ds (e.set i (.own (.ins c' (putN f ns) (putO f (.leaf d) ns os)))) else none
    | _ => none
  | _, _, _ => none
/-- e.f = v -/
def gFld (K : PySem.W.Frag) (ta : TE) (f : Str) : TG := fun v σ H Q => ta σ H fun x H2 => ∃ a C dx fs, x = .ref a ∧ H2 a = some (.ins C dx fs) ∧ Cls K C ∧ NoAttr K C f ∧ fs.length < 1000 ∧ Q σ (upd H2 a (.ins C dx (putF f v fs)))
theorem pg_fld {X : Cx} {o : Expr} {f : Str} {pos : Pos} {ta : TE} (ha : PE X o ta) : PG X (.Attribute o f pos) (gFld X.K ta f) := by
  refine ⟨fun pins s σ H v u Q I r h => ?_⟩
  refine PySem.W.kas_attr (thn (ha.run pins s σ H _ I h) fun ov s2 ⟨x, H2, I2, rx, a, C, dx, fs, ex, ea, c, n, l, q2⟩ => ?_)
  subst ex
  obtain rfl : ov = Value.ref a := rx
  exact setattr_ok I2 ea c n l r fun s3 I3 => ⟨σ, _, I3, q2⟩
def gTgt (K : PySem.W.Frag) : Tgt → TG
  | .name i => gName i
  | .fld _ f i => gFld K (tVar i) f
def gTgts (K : PySem.W.Frag) : List Tgt → TGs
  | [] => gNil
  | t :: ts => gCons (gTgt K t) (gTgts K ts)
def OkT (K : PySem.W.Frag) : List Tgt → Prop
  | [] => True
  | .name _ :: ts => OkT K ts
  | .fld c f _ :: ts => ClsAt K c ∧ NoAt K c f ∧ OkT K ts
theorem pgsT_n {c : Cf} {k : Nat} : ∀ (ts : List Tgt) (s : Sta) (vs : List V) (ds : List D) (e' : Env) (Q : L2.St → Hp → Prop), OkT c.K ts → St c.K s → RpA c.K s.F vs ds → putT k ts ds s.e = some e' →
    (∀ σ' H', Stp s ⟨s.F, H', σ', e'⟩ → Par k s ⟨s.F, H', σ', e'⟩ → St c.K ⟨s.F, H', σ', e'⟩ → Q σ' H') → gTgts c.K ts vs s.σ s.H Q
  | [], s, vs, ds, e', Q, ok, z, r, h, q => by
    cases r with
    | cons _ _ => cases h
    | nil =>
      cases h
      exact ⟨rfl, q s.σ s.H (Stp.refl s) (Par.refl k s) z⟩
  | .name i :: ts, s, vs, ds, e', Q, ok, z, r, h, q => by
    cases r with
    | nil => cases h
    | cons r1 r2 =>
      rename_i v vs d ds
      simp only [putT] at h
      split at h
      · rename_i ok1
        refine ⟨v, vs, rfl, ?_⟩
        have s1 : Stp s ⟨s.F, s.H, s.σ.set i (some v), s.e.set i (.frz d)⟩ := Stp.put (Stp.refl s)
        have q1 : Par k s ⟨s.F, s.H, s.σ.set i (some v), s.e.set i (.frz d)⟩ := Par.set ok1
        exact pgsT_n ts ⟨s.F, s.H, s.σ.set i (some v), s.e.set i (.frz d)⟩ vs ds e' Q ok (z.put r1) r2 h fun σ' H' x y w => q σ' H' (s1.trans x) (q1.trans y) w
      · cases h
  | .fld cc f i :: ts, s, vs, ds, e', Q, ok, z, r, h, q => by
    obtain ⟨hc, hn, ok⟩ := ok
    cases r with
    | nil => cases h
    | cons r1 r2 =>
      rename_i v vs d ds
      simp only [putT] at h
      split at h
      · rename_i c' ns os g
        split at h
        · rename_i hc'
          obtain ⟨rfl, hl⟩ := hc'
          refine ⟨v, vs, rfl, ?_⟩
          obtain ⟨qq, k1, os1⟩ := z.own i _ g
          have k1 : s.σ[i]? = some (some (V.ref qq)) := k1
          obtain ⟨C, dx, fs, a1, a2, a3, a4, a5⟩ := os1.own
          have b := St.putFld (f := f) z g k1 a2 r1
          have hl2 : fs.length < 1000 := by
            rw [← a4, List.length_map] at hl
            exact hl
          refine ⟨.ref qq, k1, qq, C, dx, fs, rfl, a2, cls_is hc a1, no_is hn a1, hl2, ?_⟩
          have q1 : Par k s ⟨s.F, upd s.H qq (.ins C dx (putF f v fs)), s.σ, s.e.set i (.own (.ins c' (putN f ns) (putO f (.leaf d) ns os)))⟩ := fun l o hl go => ⟨rfl, by
            by_cases e : i = l
            · subst e
              exact ⟨_, List.getElem?_set_self (List.getElem?_eq_some_iff.mp g).1⟩
            · exact ⟨o, (List.getElem?_set_ne e).trans go⟩⟩
          exact pgsT_n ts ⟨s.F, upd s.H qq (.ins C dx (putF f v fs)), s.σ, s.e.set i (.own (.ins c' (putN f ns) (putO f (.leaf d) ns os)))⟩ vs ds e' Q ok b.1 r2 h fun σ' H' x y w => q σ' H' (b.2.trans x) (q1.trans y) w
        · cases h
      · cases h
theorem putT_len {k : Nat} : ∀ (ts : List Tgt) (ds : List D) (e e' : Env), putT k ts ds e = some e' → ts.length = ds.length
  | [], [], _, _, _ => rfl
  | [], _ :: _, _, _, h => by cases h
  | .name _ :: _, [], _, _, h => by cases h
  | .fld _ _ _ :: _, [], _, _, h => by cases h
  | .name i :: ts, d :: ds, e, e', h => by
    simp only [putT] at h
    split at h
    · simp [putT_len ts ds _ _ h]
    · cases h
  | .fld c f i :: ts, d :: ds, e, e', h => by
    simp only [putT] at h
    split at h
    · split at h
      · simp [putT_len ts ds _ _ h]
      · cases h
    · cases h
def sUnpT (k : Nat) (ts : List Tgt) (f : Env → Out (Val × Env)) : Env → Out (Fl × Env) := fun e => sE e ((fz f e).bind asD) fun d e1 => match d with
  | .tuple ds => match putT k ts ds e1 with
    | some e2 => .ok (.nx, e2)
    | none => .bad
  | _ => .bad
theorem sv_unpT {X : Cx} {cm : CMap} {W : WX} {k : Nat} {pos : Pos} {a : Expr} {fa : Env → Out (Val × Env)} {es : List Expr} {kk n : Nat} {tp : Pos} (ts : List Tgt) (hok : OkT X.K ts) (hc : X.calm = true) (hg : PGs X es (gTgts X.K ts)) (hl : ts.length = n) (ha : EV X cm W a fa)
    (hn : (assignEach es X.env).length = n := by rfl) (hst : (assignEach es X.env).findIdx? (·.1) = none := by rfl)
    (hs : swapsWithSole [.Tuple es kk tp] a pos.line X.env = pure false := by rfl) (hw : swappedStores [.Tuple es kk tp] a X.env = pure none := by rfl) (h1 : (assignEach [.Tuple es kk tp] X.env).map (·.2) = [assign (.Tuple es kk tp) X.env] := by rfl) :
    SV X cm W k (.Assign [.Tuple es kk tp] a pos) (sUnpT k ts fa) := by
  obtain ⟨ta, pa, ea⟩ := ha
  refine ⟨_, ps_asg pa (pg_tup hc hg hn hst) hs hw h1, fun s D z p => ?_⟩
  refine EVt.asD ea s _ z k D _ p fun v d e1 F1 H1 x1 q1 y1 r p1 => ?_
  split at p1
  · rename_i ds
    cases hp : putT k ts ds e1 with
    | none =>
      rw [hp] at p1
      exact False.elim p1
    | some e2 =>
      rw [hp] at p1
      cases r with
      | tup s1 r1 =>
        have hl2 := putT_len ts ds _ _ hp
        refine ⟨_, _, rfl, ex_t y1.fh s1.sq, by rw [r1.length, ← hl2]; exact hl, ?_⟩
        exact pgsT_n (c := cf X cm W) (k := k) ts ⟨F1, H1, s.σ, e1⟩ _ ds e2 _ hok y1 r1 hp fun σ' H' x2 q2 y2 => p1 F1 H' σ' (x1.trans x2) (q1.trans q2) y2
  · exact False.elim p1
def unpTK (k : Nat) (ts : List Tgt) (d : D) (e1 : Env) : Out (Fl × Env) := match d with
  | .tuple ds => match putT k ts ds e1 with
    | some e2 => .ok (.nx, e2)
    | none => .bad
  | _ => .bad
@[simp] theorem sUnpT_eq (k : Nat) (ts : List Tgt) (f : Env → Out (Val × Env)) (e : Env) : sUnpT k ts f e = sE e ((fz f e).bind asD) (unpTK k ts) := rfl
@[simp] theorem unpTK_eq (k : Nat) (ts : List Tgt) (ds : List D) (e : Env) : unpTK k ts (.tuple ds) e = match putT k ts ds e with
    | some e2 => .ok (.nx, e2)
    | none => .bad := rfl
@[simp] theorem putT_nil (k : Nat) (e : Env) : putT k [] [] e = some e := rfl
@[simp] theorem putT_name (k i : Nat) (ts : List Tgt) (d : D) (ds : List D) (e : Env) : putT k (.name i :: ts) (d :: ds) e = if asgOk k e i = true then putT k ts ds (e.set i (.frz d)) else none := rfl
@[simp] theorem putT_fld (k i : Nat) (c f : Str) (ts : List Tgt) (d : D) (ds : List D) (e : Env) : putT k (.fld c f i :: ts) (d :: ds) e = match e[i]? with
    | some (.own (.ins c' ns os)) => if c' = c ∧ ns.length < 1000 then putT k ts ds (e.set i (.own (.ins c' (putN f ns) (putO f (.leaf d) ns os)))) else none
    | _ => none := rfl
theorem in_addB {X : Cx} : InOp X .Add (rOpI fun a b => a + b) := fun pins s σ H x y u v Q I rx ry h => by
  obtain ⟨i, j, rfl, rfl, q⟩ := h
  exact in_add pins s σ H _ _ u v Q I rx ry ⟨i, j, rfl, rfl, q⟩
theorem in_subB {X : Cx} : InOp X .Sub (rOpI fun a b => a - b) := fun pins s σ H x y u v Q I rx ry h => by
  obtain ⟨i, j, rfl, rfl, q⟩ := h
  exact in_sub pins s σ H _ _ u v Q I rx ry ⟨i, j, rfl, rfl, q⟩
end BV
/-! a statement ahead of which some locals are let go -/
namespace BV
open PySem PySem.Spec PyProof.Rows L2
def sForget (vs : List Nat) (f : Env → Out (Fl × Env)) : Env → Out (Fl × Env) := fun e => f (wipeE e vs)
theorem wipeE_ne {e : Env} {j : Nat} : ∀ {vs : List Nat}, j ∉ vs → (wipeE e vs)[j]? = e[j]?
  | [], _ => rfl
  | v :: vs, h => by
    unfold wipeE
    rw [List.getElem?_set_ne fun q => h (by rw [q]; exact List.mem_cons_self)]
    exact wipeE_ne fun q => h (List.mem_cons_of_mem _ q)
theorem SVt.forget {c : Cf} {k : Nat} {t : TS} {f : Env → Out (Fl × Env)} (vs : List Nat) (hk : ∀ v ∈ vs, k ≤ v) (h : SVt c k t f) : SVt c k t (sForget vs f) := fun s D z p =>
  h ⟨s.F, s.H, s.σ, wipeE s.e vs⟩ D (forget_st vs z) (p.later (forget_stp vs) fun j o hj g => ⟨rfl, o, by
    show (wipeE s.e vs)[j]? = _
    rw [wipeE_ne fun q => by have := hk j q; omega]
    exact g⟩)
theorem sv_forget {X : Cx} {cm : CMap} {W : WX} {k : Nat} {st : Stmt} {f : Env → Out (Fl × Env)} (vs : List Nat) (hk : ∀ v ∈ vs, k ≤ v) (h : SV X cm W k st f) : SV X cm W k st (sForget vs f) := by
  obtain ⟨t, p, e⟩ := h
  exact ⟨t, p, e.forget vs hk⟩
@[simp] theorem sForget_eq (vs : List Nat) (f : Env → Out (Fl × Env)) (e : Env) : sForget vs f e = f (wipeE e vs) := rfl
end BV
/-! f(a, b, a new thing); xs[::-1] -/
namespace BV
open PySem PySem.Spec PyProof.Rows L2
def fCallN2 (m : Fn) (fa fb fn : Env → Out (Val × Env)) : Env → Out (Val × Env) := fun e => ((fz fa e).bind asD).bind fun x => ((fz fb x.2).bind asD).bind fun y => (fn y.2).bind fun w => match w.1 with
  | .new o => letK w.2.length (callT m o [1, 2, 0] [.dat x.1, .dat y.1] [] w.2)
  | _ => .bad
section
variable {X : Cx} {cm : CMap} {W : WX} {pos : Pos} {a b c : Expr} {fa fb fc : Env → Out (Val × Env)}
theorem ev_callN2 {x : Str} {p : Pos} {CX : CXT} {k : Nat} {f : Addr} {fd : FuncData} {ps : List Str} {m : Fn} (F : FnG X.prog X.w X.K X.mg X.base CX k f fd ps (spB 3 X.K cm m)) (hm : X.mg x = some (.ref f))
    (hk : PySem.W.keepIn X.K (.ref f) = true) (hb : Binds X.K fd ps []) (hG : X.A.guards = some []) (hr : Room k X.A) (hx : ∀ σ, PassesAt CX X σ (WE W σ)) (ha : EV X cm W a fa) (hbb : EV X cm W b fb) (hc : EV X cm W c fc)
    (hg : Gl X x := by rfl) (hdb : (x == ("__debug__" : Str)) = false := by decide)
    (s1 : starEach [a, b, c] X.env = (false, eval a X.env) :: starEach [b, c] X.env := by rfl) (s2 : starEach [b, c] X.env = (false, eval b X.env) :: starEach [c] X.env := by rfl) (s3 : starEach [c] X.env = (false, eval c X.env) :: starEach [] X.env := by rfl)
    (hpl : (backTo pos (starEach [b, c] X.env)).any (·.1) = false := by rfl) : EV X cm W (.Call (.Name x p) [a, b, c] [] pos) (fCallN2 m fa fb fc) := by
  obtain ⟨ta, pa, ea⟩ := ha
  obtain ⟨tb, pb, eb⟩ := hbb
  obtain ⟨tc, pc, ec⟩ := hc
  refine ⟨_, pe_callG F hG hr hg hm hk hb .nil hx (pa_cons pa (pa_cons pb (pa_cons pc pa_nil s3) s2) s1) hdb s1 hpl, fun s Q z q => ?_⟩
  unfold fCallN2 at q
  rw [Out.bind_assoc] at q
  refine ea.fz.step z q fun v val e1 F1 H1 x1 y1 r1 q1 => ?_
  cases val with
  | new o => exact q1.elim
  | bor i => exact q1.elim
  | frz d1 =>
    simp only [asD_frz, Out.bind_ok] at q1
    rw [Out.bind_assoc] at q1
    refine eb.fz.step (s := ⟨F1, H1, s.σ, e1⟩) y1 q1 fun v2 val2 e2 F2 H2 x2 y2 r2 q2 => ?_
    cases val2 with
    | new o => exact q2.elim
    | bor i => exact q2.elim
    | frz d2 =>
      simp only [asD_frz, Out.bind_ok] at q2
      refine ec ⟨F2, H2, s.σ, e2⟩ _ y2 ?_
      revert q2
      show Post _ _ _ ((fc e2).bind _) → _
      cases hfc : fc e2 with
      | exc xx e3 => exact fun q => q
      | bad => exact fun q => q.elim
      | ok w =>
        obtain ⟨val3, e3⟩ := w
        rw [Out.bind_ok]
        intro q3
        intro v3 F3 H3 x3 y3 r3
        cases val3 with
        | frz d => exact q3.elim
        | bor i => exact q3.elim
        | new o =>
          obtain ⟨pp, rfl, os1, nw⟩ := r3
          have g1 : Rp X.K F1 v d1 := r1
          have g2 : Rp X.K F2 v2 d2 := r2
          have r : ArgRep X.K F3 s.σ [v, v2] [.dat d1, .dat d2] := .dat (g1.mono (x2.ff.trans x3.ff)) (.dat (g2.mono x3.ff) .nil)
          exact drop_post (s0 := ⟨F2, H2, s.σ, e2⟩) (n := 3) (is := [1, 2, 0]) (us := [.dat d1, .dat d2]) (ws := []) (vs := [v, v2]) (zs := []) x3 y3 os1 nw r .nil rfl q3
def gRev : D → Option Val
  | .list xs => some (.new (.lst xs.reverse))
  | _ => none
theorem RpA.rev {K : PySem.W.Frag} {F : Hp} : ∀ {vs : List V} {ds : List D}, RpA K F vs ds → RpA K F vs.reverse ds.reverse
  | _, _, .nil => .nil
  | _, _, .cons h a => by
    rw [List.reverse_cons, List.reverse_cons]
    exact RpA.append (RpA.rev a) (.cons h .nil)
theorem ev_rev {k : Nat} {p1 p2 p3 : Pos} (ha : EV X cm W a fa) : EV X cm W (.Subscript a (.Slice none none (some (.UnaryOp .USub (.Constant (.int 1) k p1) p2)) p3) pos) (un gRev fa) := by
  obtain ⟨ta, pa, ea⟩ := ha
  refine ⟨_, pe_revL pa, fun s Q z q => ?_⟩
  refine ea.fz.step z q fun v val e1 F1 H1 x1 y1 r1 q1 => ?_
  simp only at q1
  cases o : opd e1 val with
  | none =>
    rw [o] at q1
    exact q1.elim
  | some d =>
    rw [o] at q1
    simp only at q1
    obtain ⟨w, hw, k⟩ := q1.gives
    unfold gRev at hw
    split at hw
    · cases hw
      obtain ⟨ad, xs, rfl, h1, rr⟩ := opn_lst (r1.opn y1 o)
      exact ⟨ad, xs, rfl, h1, fun p hp => k.list y1 rr.rev hp⟩
    · cases hw
@[simp] theorem gRev_l (xs : List D) : gRev (.list xs) = some (.new (.lst xs.reverse)) := rfl
end
end BV
/-! sep.join(texts) -/
namespace BV
open PySem PySem.Spec PyProof.Rows L2
def asStrs : List D → Option (List Str)
  | [] => some []
  | .str x :: ds => (asStrs ds).map (x :: ·)
  | _ :: _ => none
theorem asStrs_vs {K : PySem.W.Frag} {F : Hp} : ∀ {vs : List V} {ds : List D} {ys : List Str}, RpA K F vs ds → asStrs ds = some ys → vs = ys.map V.str
  | _, _, _, .nil, h => by cases h; rfl
  | _, _, _, .cons (d := d) r a, h => by
    cases d with
    | str x =>
      simp only [asStrs, Option.map_eq_some_iff] at h
      obtain ⟨ys, h1, rfl⟩ := h
      cases r
      rw [asStrs_vs a h1]
      rfl
    | _ => cases h
def joinG (a : Str) (ds : List D) : Option Val := match asStrs ds with
  | some ys => if (ys.map (·.length)).sum + ys.length * a.length ≤ 16777216 then some (.frz (.str (Txt.join a ys))) else none
  | none => none
def gJoin : D → D → Option Val
  | .str a, .list ds => joinG a ds
  | .str a, .tuple ds => joinG a ds
  | _, _ => none
theorem mt_joinG {X : Cx} : MtR X "str.join" (rM1 X.K gJoin) := by
  intro pins s σ H x xs v us Q I rx rs h
  obtain ⟨y, rfl, S, dx, dy, val, rfl, z, ox, oy, g, k⟩ := h
  have fin : ∀ (a : Str) (ds : List D) (p : Addr) (vs : List V), dx = .str a → joinG a ds = some val → y = .ref p → (SqL X.K S.H p vs ∨ SqT X.K S.H p vs) → RpA X.K S.F vs ds → _ := fun a ds p vs ea hj ey hp hr => by
    subst ea ey
    cases opn_str ox
    unfold joinG at hj
    split at hj
    · rename_i ys hy
      split at hj
      · rename_i hz
        cases hj
        have ev := asStrs_vs hr hy
        subst ev
        exact mt_join pins s σ S.H _ _ v us Q I rx rs ⟨a, p, ys, rfl, rfl, hp, hz, k.same z (.str _)⟩
      · cases hj
    · cases hj
  unfold gJoin at g
  split at g
  · rename_i a ds
    obtain ⟨p, vs, e, h1, r1⟩ := opn_lst oy
    exact fin a ds p vs rfl g e (Or.inl h1) r1
  · rename_i a ds
    obtain ⟨p, vs, e, h1, r1, _⟩ := opn_tup z.fh oy
    exact fin a ds p vs rfl g e (Or.inr h1) r1
  · cases g
@[simp] theorem gJoin_l (a : Str) (ds : List D) : gJoin (.str a) (.list ds) = joinG a ds := rfl
@[simp] theorem gJoin_t (a : Str) (ds : List D) : gJoin (.str a) (.tuple ds) = joinG a ds := rfl
end BV
/-! webs as data; calls; comprehensions -/
namespace BV
open PySem PySem.Spec PyProof.Rows L2
theorem cd1 {m : Fn} {a : D} {v : Val} {e : BV.Env} (h : m [.frz a] = .ok (v, [.frz a])) (hv : ∀ i, v ≠ .bor i := by intro _ h; cases h) : callAs m [.dat a] e = .ok (v, e) :=
  callAs_ok (by simp [ownIx]) rfl h rfl hv
theorem cd2 {m : Fn} {a b : D} {v : Val} {e : BV.Env} (h : m [.frz a, .frz b] = .ok (v, [.frz a, .frz b])) (hv : ∀ i, v ≠ .bor i := by intro _ h; cases h) : callAs m [.dat a, .dat b] e = .ok (v, e) :=
  callAs_ok (by simp [ownIx]) rfl h rfl hv
theorem cd3 {m : Fn} {a b c : D} {v : Val} {e : BV.Env} (h : m [.frz a, .frz b, .frz c] = .ok (v, [.frz a, .frz b, .frz c])) (hv : ∀ i, v ≠ .bor i := by intro _ h; cases h) : callAs m [.dat a, .dat b, .dat c] e = .ok (v, e) :=
  callAs_ok (by simp [ownIx]) rfl h rfl hv
theorem co1 {m : Fn} {o o' : O} {v : Val} {e : BV.Env} {i : Nat} (he : e[i]? = some (.own o)) (h : m [.own o] = .ok (v, [.own o'])) (hv : ∀ i, v ≠ .bor i := by intro _ h; cases h) : callAs m [.own i] e = .ok (v, e.set i (.own o')) :=
  callAs_ok (by simp [ownIx]) (sl := [.own o]) (by simp [slotsOf, he]) h (by simp [wb]) hv
theorem co2 {m : Fn} {a : D} {o o' : O} {v : Val} {e : BV.Env} {i : Nat} (he : e[i]? = some (.own o)) (h : m [.own o, .frz a] = .ok (v, [.own o', .frz a])) (hv : ∀ i, v ≠ .bor i := by intro _ h; cases h) : callAs m [.own i, .dat a] e = .ok (v, e.set i (.own o')) :=
  callAs_ok (by simp [ownIx]) (sl := [.own o, .frz a]) (by simp [slotsOf, he]) h (by simp [wb]) hv
theorem co3 {m : Fn} {a b : D} {o o' : O} {v : Val} {e : BV.Env} {i : Nat} (he : e[i]? = some (.own o)) (h : m [.own o, .frz a, .frz b] = .ok (v, [.own o', .frz a, .frz b])) (hv : ∀ i, v ≠ .bor i := by intro _ h; cases h) : callAs m [.own i, .dat a, .dat b] e = .ok (v, e.set i (.own o')) :=
  callAs_ok (by simp [ownIx]) (sl := [.own o, .frz a, .frz b]) (by simp [slotsOf, he]) h (by simp [wb]) hv
theorem zl (n : Nat) (h : n ≤ 4000 := by decide) : n ≤ sizeLine := small_len h
theorem gAll_bs (bs : List Bool) : gAll (.list (bs.map .bool)) = some (.frz (.bool (bs.all id))) := by
  unfold gAll
  simp only [asBools_map, Option.map_some]
theorem gAll_t (ds : List D) (h : ∀ d ∈ ds, d = .bool true) : gAll (.list ds) = some (.frz (.bool true)) := by
  have e : ds = (ds.map fun _ => true).map .bool := by
    rw [List.map_map]
    exact (List.map_id ds).symm.trans (List.map_congr_left fun d hd => h d hd)
  rw [e, gAll_bs]
  congr 3
  rw [List.all_map, List.all_eq_true]
  intro _ _
  rfl
/-- a comprehension without an if -/
theorem lc_all {it : BV.Env → Out (List D × BV.Env)} {t : Tg} {c : BV.Env → Out (Bool × BV.Env)} {f : BV.Env → Out (Val × BV.Env)} {vs : List Nat} {ds : List D} {e e1 : BV.Env} (y : D → D) (h1 : it e = .ok (ds, e1)) (h2 : Bare e1 vs) (hl : ds.length ≤ sizeLine)
    (h : ∀ d ∈ ds, ∃ e2, t.put 0 d e1 = some e2 ∧ c e2 = .ok (true, e2) ∧ (fz f e2).bind asD = .ok (y d, e2) ∧ wipeE e2 vs = e1) : fLc it t c f vs e = .ok (.new (.lst (ds.map y)), e1) := by
  have := lcL_map (c := c) (f := f) (t := t) (vs := vs) (p := fun _ => true) (y := y) (e := e1) ds [] (by simpa using hl) fun d hd => by
    obtain ⟨e2, a1, a2, a3, a4⟩ := h d hd
    exact ⟨e2, a1, a2, fun _ => a3, a4⟩
  rw [List.nil_append, List.filter_eq_self.mpr (fun _ _ => rfl)] at this
  exact fLc_ok h1 h2 this
theorem lc_true {it : BV.Env → Out (List D × BV.Env)} {t : Tg} {c : BV.Env → Out (Bool × BV.Env)} {f : BV.Env → Out (Val × BV.Env)} {vs : List Nat} {ds : List D} {e e1 : BV.Env} (h1 : it e = .ok (ds, e1)) (h2 : Bare e1 vs) (hl : ds.length ≤ sizeLine)
    (h : ∀ d ∈ ds, ∃ e2, t.put 0 d e1 = some e2 ∧ c e2 = .ok (true, e2) ∧ (fz f e2).bind asD = .ok (.bool true, e2) ∧ wipeE e2 vs = e1) : ∃ out, fLc it t c f vs e = .ok (.new (.lst out), e1) ∧ gAll (.list out) = some (.frz (.bool true)) :=
  ⟨_, lc_all (fun _ => .bool true) h1 h2 hl h, gAll_t _ (by simp)⟩
theorem bare1 {e : BV.Env} {i : Nat} (h : e[i]? = some .no) : Bare e [i] := by
  intro j hj x hx
  rw [List.mem_singleton] at hj
  subst hj
  rw [h] at hx
  cases hx
  rfl
theorem bare2 {e : BV.Env} {i j : Nat} (h : e[i]? = some .no) (h2 : e[j]? = some .no) : Bare e [i, j] := by
  intro k hk x hx
  simp only [List.mem_cons, List.not_mem_nil, or_false] at hk
  rcases hk with rfl | rfl
  · rw [h] at hx
    cases hx
    rfl
  · rw [h2] at hx
    cases hx
    rfl
/-! ### ints, rows, webs -/
abbrev WRow := List Int × List Int
abbrev iT (ns : List Int) : D := .tuple (ns.map .int)
abbrev iL (ns : List Int) : D := .list (ns.map .int)
abbrev rowD (r : WRow) : D := .tuple [iT r.1, iT r.2]
abbrev webD (w : List WRow) : D := .list (w.map rowD)
def roomsOf (w : List WRow) : List Int := w.flatMap (·.1)
structure RowOk (n : Nat) (r : WRow) : Prop where
  rl : r.1.length ≤ 6
  rb : ∀ x ∈ r.1, 0 ≤ x ∧ x ≤ 99
  rs : r.1.Pairwise (· < ·)
  tb : ∀ x ∈ r.2, 0 ≤ x ∧ x < (n : Nat)
  ts : r.2.Pairwise (· < ·)
structure WebOk (w : List WRow) : Prop where
  l0 : 1 ≤ w.length
  l1 : w.length ≤ 80
  rows : ∀ r ∈ w, RowOk w.length r
  rooms : (rising (roomsOf w)).length ≤ 12
/-- rising numbers between bounds are few -/
theorem rise_len : ∀ (ns : List Int) (lo n : Int), ns.Pairwise (· < ·) → (∀ x ∈ ns, lo ≤ x ∧ x < n) → (ns.length : Int) ≤ max 0 (n - lo)
  | [], _, _, _, _ => by simp; omega
  | a :: as, lo, n, h, hb => by
    obtain ⟨h1, h2⟩ := List.pairwise_cons.mp h
    have ha := hb a List.mem_cons_self
    have ih := rise_len as (a + 1) n h2 fun x hx => ⟨by have := h1 x hx; omega, (hb x (List.mem_cons_of_mem _ hx)).2⟩
    simp only [List.length_cons]
    omega
theorem RowOk.tl {n : Nat} {r : WRow} (h : RowOk n r) : r.2.length ≤ n := by
  have := rise_len r.2 0 n h.ts fun x hx => h.tb x hx
  omega
theorem cut_from1 (ds : List D) : cutD ds (some 1) none = ds.tail := by
  unfold cutD
  cases ds with
  | nil => simp
  | cons d ds =>
    have e1 : HT.sIx (d :: ds).length 0 (some 1) = 1 := by
      show min 1 (d :: ds).length = 1
      simp
    have e2 : HT.sIx (d :: ds).length (d :: ds).length none = (d :: ds).length := rfl
    rw [e1, e2]
    simp
/-- each one below the next one -/
theorem chain_pairs : ∀ {ns : List Int}, ns.Pairwise (· < ·) → ∀ d ∈ pairs (ns.map .int) (ns.map PyData.int).tail, ∃ a b : Int, d = .tuple [.int a, .int b] ∧ a < b
  | [], _, d, hd => by simp [pairs] at hd
  | [a], _, d, hd => by simp [pairs] at hd
  | a :: b :: ns, h, d, hd => by
    obtain ⟨h1, h2⟩ := List.pairwise_cons.mp h
    simp only [pairs, List.map_cons, List.tail_cons, List.zip_cons_cons] at hd
    rcases List.mem_cons.mp hd with rfl | hd
    · exact ⟨a, b, rfl, h1 b List.mem_cons_self⟩
    · exact chain_pairs h2 d (by simpa [pairs] using hd)
theorem pairs_short (xs ys : List D) : (pairs xs ys).length ≤ xs.length := by
  rw [pairs_len]
  omega
theorem intsIn_map {lo hi : Int} {ns : List Int} (h : ∀ x ∈ ns, lo ≤ x ∧ x ≤ hi) : IntsIn lo hi (ns.map .int) := fun d hd => by
  obtain ⟨i, h1, rfl⟩ := List.mem_map.mp hd
  exact ⟨i, rfl, h i h1⟩
theorem intsIn_of {lo hi : Int} : ∀ {ds : List D}, IntsIn lo hi ds → ∃ ns : List Int, ds = ns.map .int ∧ ∀ x ∈ ns, lo ≤ x ∧ x ≤ hi
  | [], _ => ⟨[], rfl, fun x hx => by cases hx⟩
  | d :: ds, h => by
    obtain ⟨i, rfl, h1⟩ := h d List.mem_cons_self
    obtain ⟨ns, rfl, h2⟩ := intsIn_of fun d hd => h d (List.mem_cons_of_mem _ hd)
    refine ⟨i :: ns, rfl, fun x hx => ?_⟩
    rcases List.mem_cons.mp hx with rfl | hx
    · exact h1
    · exact h2 x hx
/-! the steps over zip, enumerate -/
def zipK2 (x : D) (b : Val × Env) : Out (List D × Env) := match b.1 with
  | .frz y => resI (zipD x y) b.2
  | _ => .bad
def zipK (g : Env → Out (Val × Env)) (a : Val × Env) : Out (List D × Env) := match a.1 with
  | .frz x => (fz g a.2).bind (zipK2 x)
  | _ => .bad
@[simp] theorem zipK2_eq (x y : D) (e : Env) : zipK2 x (.frz y, e) = resI (zipD x y) e := rfl
@[simp] theorem zipK_eq (g : Env → Out (Val × Env)) (x : D) (e : Env) : zipK g (.frz x, e) = (fz g e).bind (zipK2 x) := rfl
@[simp] theorem iZip2_eq (f g : Env → Out (Val × Env)) (e : Env) : iZip2 f g e = (fz f e).bind (zipK g) := rfl
@[simp] theorem zipD_t (xs ys : List D) : zipD (.tuple xs) (.tuple ys) = some (pairs xs ys) := rfl
@[simp] theorem zipD_l (xs ys : List D) : zipD (.list xs) (.list ys) = some (pairs xs ys) := rfl
def enumK (a : Val × Env) : Out (List D × Env) := match a.1 with
  | .frz (.list ds) => .ok (enumD ds, a.2)
  | _ => .bad
@[simp] theorem enumK_eq (ds : List D) (e : Env) : enumK (.frz (.list ds), e) = .ok (enumD ds, e) := rfl
@[simp] theorem iEnum1_eq (f : Env → Out (Val × Env)) (e : Env) : iEnum1 f e = (fz f e).bind enumK := rfl
@[simp] theorem resI_none (e : Env) : resI none e = .bad := rfl
theorem iEnum_list {f : Env → Out (Val × Env)} {e : Env} {ds : List D} (h : f e = .ok (.frz (.list ds), e)) : iEnum1 f e = .ok (enumD ds, e) := by
  rw [iEnum1_eq, fz_eq, h]
  rfl
theorem enumD_mem {ds : List D} {d : D} (h : d ∈ enumD ds) : ∃ (i : Nat) (x : D), d = .tuple [.int i, x] ∧ ds[i]? = some x := by
  unfold enumD at h
  obtain ⟨i, h1, h2⟩ := List.mem_iff_getElem.mp h
  obtain ⟨a, b, g1, g2, g3⟩ := pairs_get (List.getElem?_eq_getElem h1)
  have hl : i < ds.length := (List.getElem?_eq_some_iff.mp g2).1
  refine ⟨i, b, ?_, g2⟩
  rw [← h2, g3]
  have : a = .int i := by
    unfold rints at g1
    rw [List.getElem?_map, List.getElem?_range hl] at g1
    injection g1 with g1
    rw [← g1]
    show PyData.int (0 + (i : Nat)) = _
    rw [Int.zero_add]
  rw [this]
end BV
/-! ints drawn, sorted; keys gathered -/
namespace BV
open PySem PySem.Spec PyProof.Rows L2
theorem dLe_i (a b : Int) : dLe (.int a) (.int b) = decide (a ≤ b) := by
  show (!PySem.W.dataLt (.int b) (.int a)) = _
  have : PySem.W.dataLt (.int b) (.int a) = decide (b < a) := by
    simp only [PySem.W.dataLt, PySem.W.keyToks, PyProof.Rows.lexLt]
    show (decide (b < a) || (!decide (a < b) && false)) = _
    simp
  rw [this]
  by_cases h : a ≤ b
  · simp [h, Int.not_lt.mpr h]
  · simp [h, Int.not_le.mp h]
theorem sortD_ints (ns : List Int) : sortD (ns.map .int) = ns.mergeSort.map .int := by
  unfold sortD
  exact (List.map_mergeSort (r := fun a b => decide (a ≤ b)) (s := dLe) (f := PyData.int) (l := ns) fun a _ b _ => (dLe_i a b).symm).symm
theorem msort_lt {ns : List Int} (h : ns.Nodup) : ns.mergeSort.Pairwise (· < ·) := lt_of_le_nodup _ (msort_le ns) ((List.mergeSort_perm _ _).nodup_iff.mpr h)
theorem eraseI_perm : ∀ (ns : List Int) (i : Nat) (h : i < ns.length), (ns[i] :: ns.eraseIdx i).Perm ns
  | [], _, h => by simp at h
  | a :: as, 0, _ => List.Perm.refl _
  | a :: as, i + 1, h => by
    have ih := eraseI_perm as i (by simpa using h)
    simp only [List.getElem_cons_succ, List.eraseIdx_cons_succ]
    exact (List.Perm.swap a _ _).trans (ih.cons a)
theorem eraseIdx_ints (ns : List Int) (i : Nat) : (ns.map PyData.int).eraseIdx i = (ns.eraseIdx i).map .int := by
  induction ns generalizing i with
  | nil => simp
  | cons a as ih =>
    cases i with
    | zero => simp
    | succ i => simp [ih]
theorem mPop_int {ns : List Int} {i : Int} (h0 : 0 ≤ i) (h1 : i < ns.length) (h2 : ns.length ≤ 4000) : ∃ k, mPop (ns.map .int) (.int i) = some (.frz (.int k), (ns.eraseIdx i.toNat).map .int) ∧ (k :: ns.eraseIdx i.toNat).Perm ns := by
  have hl : i.toNat < ns.length := by omega
  refine ⟨ns[i.toNat], ?_, eraseI_perm ns _ hl⟩
  have e : seqIndex? i (ns.map PyData.int).length = some i.toNat := by
    unfold seqIndex?
    have n0 : ¬ i < 0 := by omega
    simp [n0, h0, h1]
  show (if _ then _ else _) = _
  rw [if_pos (by simp; omega), e]
  simp [hl, eraseIdx_ints]
theorem nodup_le : ∀ (xs ys : List Int), xs.Nodup → (∀ x ∈ xs, x ∈ ys) → xs.length ≤ ys.length
  | [], ys, _, _ => Nat.zero_le _
  | x :: xs, ys, h, hs => by
    obtain ⟨h1, h2⟩ := List.nodup_cons.mp h
    have hx := hs x List.mem_cons_self
    have ih := nodup_le xs (ys.erase x) h2 fun y hy => (List.mem_erase_of_ne (fun e => by subst e; exact h1 hy)).mpr (hs y (List.mem_cons_of_mem _ hy))
    have := List.length_erase_of_mem hx
    have := List.length_pos_of_mem hx
    simp only [List.length_cons]
    omega
theorem rising_len {xs ys : List Int} (h : ∀ x ∈ xs, x ∈ ys) : (rising xs).length ≤ ys.length :=
  nodup_le _ _ ((rising_lt xs).imp fun h => by omega) fun x hx => h x (rising_mem.mp hx)
/-! dicts from ints to True -/
def dT (ks : List Int) : List (D × D) := ks.map fun k => (PyData.int k, PyData.bool true)
def addK (ks : List Int) (k : Int) : List Int := if k ∈ ks then ks else ks ++ [k]
theorem has_dT (ks : List Int) (k : Int) : ((dT ks).any fun p => isKey (.inl k) p.1) = decide (k ∈ ks) := by
  induction ks with
  | nil => rfl
  | cons a as ih =>
    have e : dT (a :: as) = (.int a, .bool true) :: dT as := rfl
    rw [e, List.any_cons, ih]
    simp only [isKey, List.mem_cons, Bool.decide_or]
theorem putD_dT (ks : List Int) (k : Int) : putD (dT ks) (.inl k) (.bool true) = dT (addK ks k) := by
  unfold putD addK
  rw [has_dT]
  by_cases h : k ∈ ks
  · simp only [h, decide_true, if_true]
    unfold dT
    rw [List.map_map]
    apply List.map_congr_left
    intro a _
    simp only [Function.comp]
    split <;> rfl
  · simp only [h, decide_false, Bool.false_eq_true, if_false]
    simp [dT, keyD]
theorem dT_nil : ([] : List (D × D)) = dT [] := rfl
theorem intKeys_dT (ks : List Int) : intKeys (dT ks) = some ks := by
  induction ks with
  | nil => rfl
  | cons a as ih =>
    show (intKeys (dT as)).map (a :: ·) = _
    rw [ih]
    rfl
theorem sorted_dT (ks : List Int) : gSortedD (.dict (dT ks)) = some (.new (.lst (ks.mergeSort.map .int))) := by
  simp only [gSortedD, intKeys_dT, Option.map_some]
theorem dT_len (ks : List Int) : (dT ks).length = ks.length := by simp [dT]
theorem addK_nodup {ks : List Int} (k : Int) (h : ks.Nodup) : (addK ks k).Nodup := by
  unfold addK
  split
  · exact h
  · rename_i hk
    rw [List.nodup_append]
    exact ⟨h, by simp, fun a ha b hb => by
      simp at hb
      subst hb
      exact fun e => hk (e ▸ ha)⟩
theorem addK_mem {ks : List Int} {k x : Int} : x ∈ addK ks k ↔ x ∈ ks ∨ x = k := by
  unfold addK
  split
  · rename_i hk
    constructor
    · exact Or.inl
    · rintro (h | rfl)
      · exact h
      · exact hk
  · simp
theorem addK_len (ks : List Int) (k : Int) : (addK ks k).length ≤ ks.length + 1 := by
  unfold addK
  split <;> simp
/-! ranges as ints -/
def rI (lo : Int) (n : Nat) : List Int := (List.range n).map fun i => lo + (i : Nat)
theorem rints_rI (lo : Int) (n : Nat) : rints lo n = (rI lo n).map .int := by simp [rints, rI]
theorem rI_mem {lo : Int} {n : Nat} {x : Int} : x ∈ rI lo n ↔ lo ≤ x ∧ x < lo + n := by
  unfold rI
  rw [List.mem_map]
  constructor
  · rintro ⟨i, h, rfl⟩
    have := List.mem_range.mp h
    omega
  · intro h
    exact ⟨(x - lo).toNat, List.mem_range.mpr (by omega), by omega⟩
theorem rI_nodup (lo : Int) (n : Nat) : (rI lo n).Nodup := by
  unfold rI
  rw [List.nodup_iff_pairwise_ne, List.pairwise_map]
  refine List.Pairwise.imp ?_ (List.nodup_iff_pairwise_ne.mp List.nodup_range)
  intro a b hab e
  omega
theorem rI_len (lo : Int) (n : Nat) : (rI lo n).length = n := by simp [rI]
theorem ix_same {A B : BV.Env → Out (Val × BV.Env)} {E : BV.Env} {L : List D} {r : Int} {d : D} (hA : A E = .ok (.new (.lst L), E)) (hB : B E = .ok (.frz (.int r), E)) (h : atI L r = some d) : BV.bin gIx A B E = .ok (.frz d, E) := ix_pick hA hB h
theorem ix_draw {A B : BV.Env → Out (Val × BV.Env)} {E E2 : BV.Env} {L : List D} {r : Int} {d : D} (hA : A E = .ok (.new (.lst L), E)) (hB : B E = .ok (.frz (.int r), E2)) (h : atI L r = some d) : BV.bin gIx A B E = .ok (.frz d, E2) := ix_pick hA hB h
theorem rints_cons (lo : Int) (n : Nat) : rints lo (n + 1) = .int lo :: rints (lo + 1) n := by
  unfold rints
  rw [List.range_succ_eq_map, List.map_cons, List.map_map]
  congr 1
  · simp
  · apply List.map_congr_left
    intro i _
    simp only [Function.comp]
    congr 1
    omega
end BV
/-! alike data compared; slices at a place; loops that may return -/
namespace BV
open PySem PySem.Spec PyProof.Rows L2
mutual
theorem eqvP : ∀ d : D, d.plain = true → PyData.eqv d d = true
  | .none, _ => rfl
  | .bool b, _ => by simp [PyData.eqv]
  | .int i, _ => by simp [PyData.eqv]
  | .str x, _ => by simp [PyData.eqv]
  | .list xs, h => by rw [PyData.eqv]; exact eqvAllP xs h
  | .tuple xs, h => by rw [PyData.eqv]; exact eqvAllP xs h
  | .dict _, h => nomatch h
theorem eqvAllP : ∀ xs : List D, PyData.plainAll xs = true → PyData.eqvAll xs xs = true
  | [], _ => rfl
  | x :: xs, h => by
    have h' : x.plain = true ∧ PyData.plainAll xs = true := by simpa [PyData.plainAll] using h
    rw [PyData.eqvAll, eqvP x h'.1, eqvAllP xs h'.2]
    rfl
end
/-- plain, at most n deep -/
def Pl (n : Nat) (d : D) : Prop := d.plain = true ∧ d.depth ≤ n
theorem pl_all {n : Nat} : ∀ {ds : List D}, (∀ d ∈ ds, Pl n d) → PyData.plainAll ds = true ∧ PyData.depthAll ds ≤ n
  | [], _ => ⟨by simp [PyData.plainAll], by simp [PyData.depthAll]⟩
  | d :: ds, h => by
    obtain ⟨h1, h2⟩ := h d List.mem_cons_self
    obtain ⟨h3, h4⟩ := pl_all (ds := ds) fun d hd => h d (List.mem_cons_of_mem _ hd)
    refine ⟨by simp [PyData.plainAll, h1, h3], ?_⟩
    simp only [PyData.depthAll]
    omega
theorem Pl.list {n : Nat} {ds : List D} (h : ∀ d ∈ ds, Pl n d) : Pl (n + 1) (.list ds) := by
  obtain ⟨h1, h2⟩ := pl_all h
  refine ⟨by simpa [PyData.plain] using h1, ?_⟩
  simp only [PyData.depth]
  omega
theorem Pl.tuple {n : Nat} {ds : List D} (h : ∀ d ∈ ds, Pl n d) : Pl (n + 1) (.tuple ds) := by
  obtain ⟨h1, h2⟩ := pl_all h
  refine ⟨by simpa [PyData.plain] using h1, ?_⟩
  simp only [PyData.depth]
  omega
theorem Pl.int (i : Int) : Pl 1 (.int i) := ⟨rfl, by simp [PyData.depth]⟩
theorem Pl.bool (b : Bool) : Pl 1 (.bool b) := ⟨rfl, by simp [PyData.depth]⟩
theorem Pl.str (x : Str) : Pl 1 (.str x) := ⟨rfl, by simp [PyData.depth]⟩
theorem Pl.none : Pl 1 .none := ⟨rfl, by simp [PyData.depth]⟩
theorem Pl.up {n m : Nat} {d : D} (h : Pl n d) (hm : n ≤ m) : Pl m d := ⟨h.1, Nat.le_trans h.2 hm⟩
theorem pl_ints (ns : List Int) : ∀ d ∈ ns.map PyData.int, Pl 1 d := fun d hd => by
  obtain ⟨i, _, rfl⟩ := List.mem_map.mp hd
  exact .int i
theorem pl_iT (ns : List Int) : Pl 2 (iT ns) := .tuple (pl_ints ns)
theorem pl_iL (ns : List Int) : Pl 2 (iL ns) := .list (pl_ints ns)
theorem pl_row (r : WRow) : Pl 3 (rowD r) := .tuple fun d hd => by
  simp only [List.mem_cons, List.not_mem_nil, or_false] at hd
  rcases hd with rfl | rfl
  · exact pl_iT _
  · exact pl_iT _
theorem pl_web (w : List WRow) : Pl 4 (webD w) := .list fun d hd => by
  obtain ⟨r, _, rfl⟩ := List.mem_map.mp hd
  exact pl_row r
theorem gNe_same {n : Nat} {d : D} (h : Pl n d) (hn : n ≤ 100) : gNe d d = some (.frz (.bool false)) := by
  unfold gNe
  rw [if_pos ⟨h.1, h.1, by rw [Nat.min_self]; exact Nat.le_trans h.2 hn⟩, eqvP d h.1]
  rfl
theorem gEq_same {n : Nat} {d : D} (h : Pl n d) (hn : n ≤ 100) : gEq d d = some (.frz (.bool true)) := by
  unfold gEq
  rw [if_pos ⟨h.1, h.1, by rw [Nat.min_self]; exact Nat.le_trans h.2 hn⟩, eqvP d h.1]
theorem gNe_str (x y : Str) : gNe (.str x) (.str y) = some (.frz (.bool (!decide (x = y)))) := by
  unfold gNe
  simp [PyData.plain, PyData.depth, PyData.eqv]
  by_cases h : x = y <;> simp [h]
theorem gEq_str (x y : Str) : gEq (.str x) (.str y) = some (.frz (.bool (decide (x = y)))) := by
  unfold gEq
  simp [PyData.plain, PyData.depth, PyData.eqv]
  by_cases h : x = y <;> simp [h]
/-- == of a tuple and the empty one -/
theorem gEq_nilT {xs : List D} {n : Nat} (h : Pl n (.tuple xs)) : gEq (.tuple xs) (.tuple []) = some (.frz (.bool xs.isEmpty)) := by
  unfold gEq
  have e : PyData.eqv (.tuple xs) (.tuple []) = xs.isEmpty := by
    cases xs <;> simp [PyData.eqv, PyData.eqvAll]
  rw [if_pos ⟨h.1, by simp [PyData.plain, PyData.plainAll], by
    have : (PyData.tuple []).depth ≤ 1 := by simp [PyData.depth, PyData.depthAll]
    omega⟩, e]
theorem gEq_nilL {xs : List D} {n : Nat} (h : Pl n (.list xs)) : gEq (.list xs) (.list []) = some (.frz (.bool xs.isEmpty)) := by
  unfold gEq
  have e : PyData.eqv (.list xs) (.list []) = xs.isEmpty := by
    cases xs <;> simp [PyData.eqv, PyData.eqvAll]
  rw [if_pos ⟨h.1, by simp [PyData.plain, PyData.plainAll], by
    have : (PyData.list []).depth ≤ 1 := by simp [PyData.depth, PyData.depthAll]
    omega⟩, e]
theorem gNe_nilT {xs : List D} {n : Nat} (h : Pl n (.tuple xs)) : gNe (.tuple xs) (.tuple []) = some (.frz (.bool (!xs.isEmpty))) := by
  unfold gNe
  have e : PyData.eqv (.tuple xs) (.tuple []) = xs.isEmpty := by
    cases xs <;> simp [PyData.eqv, PyData.eqvAll]
  rw [if_pos ⟨h.1, by simp [PyData.plain, PyData.plainAll], by
    have : (PyData.tuple []).depth ≤ 1 := by simp [PyData.depth, PyData.depthAll]
    omega⟩, e]
/-! small webs: repr -/
theorem lv_iT {ns : List Int} (h : ns.length ≤ 20) (hb : ∀ x ∈ ns, 0 ≤ x ∧ x ≤ 1000) : Lv 1 (iT ns) := Lv.tuple (by simpa using h) (Lv.ints (intsIn_map hb) (by decide) (by decide) 0)
theorem lv_row {n : Nat} {r : WRow} (h : RowOk n r) (hn : n ≤ 20) : Lv 2 (rowD r) := Lv.tuple (by simp) fun d hd => by
  simp only [List.mem_cons, List.not_mem_nil, or_false] at hd
  rcases hd with rfl | rfl
  · exact lv_iT (by have := h.rl; omega) fun x hx => by have := h.rb x hx; omega
  · exact lv_iT (by have := h.tl; omega) fun x hx => by have := h.tb x hx; omega
theorem lv_web {w : List WRow} (h : WebOk w) (hl : w.length ≤ 20) : Lv 3 (webD w) := Lv.list (by simpa using hl) fun d hd => by
  obtain ⟨r, hr, rfl⟩ := List.mem_map.mp hd
  exact lv_row (h.rows r hr) hl
/-! slices at a place -/
theorem cutD_to {ds : List D} {i : Int} (h0 : 0 ≤ i) (h1 : i ≤ ds.length) : cutD ds none (some i) = ds.take i.toNat := by
  unfold cutD
  have e1 : HT.sIx ds.length 0 none = 0 := rfl
  have e2 : HT.sIx ds.length ds.length (some i) = i.toNat := by
    simp only [HT.sIx]
    rw [if_neg (by omega)]
    omega
  rw [e1, e2]
  simp
theorem cutD_on {ds : List D} {i : Int} (h0 : 0 ≤ i) (h1 : i ≤ ds.length) : cutD ds (some i) none = ds.drop i.toNat := by
  unfold cutD
  have e1 : HT.sIx ds.length 0 (some i) = i.toNat := by
    simp only [HT.sIx]
    rw [if_neg (by omega)]
    omega
  have e2 : HT.sIx ds.length ds.length none = ds.length := rfl
  rw [e1, e2, List.take_of_length_le (by simp)]
/-! a loop that may return -/
theorem forL_ret {k : Nat} {t : Tg} {body : BV.Env → Out (Fl × BV.Env)} {v : Val} (I : List D → BV.Env → Prop) (J : BV.Env → Prop) : ∀ (ds : List D) (e : BV.Env), I ds e →
    (∀ d ds e, I (d :: ds) e → ∃ e1 e2, t.put k d e = some e1 ∧ (((body e1 = .ok (.nx, e2) ∨ body e1 = .ok (.cont, e2)) ∧ I ds e2) ∨ (body e1 = .ok (.ret v, e2) ∧ J e2))) →
      ∃ e', (forL k t body ds e = .ok (.nx, e') ∧ I [] e') ∨ (forL k t body ds e = .ok (.ret v, e') ∧ J e')
  | [], e, hi, _ => ⟨e, Or.inl ⟨rfl, hi⟩⟩
  | d :: ds, e, hi, h => by
    obtain ⟨e1, e2, h1, h2⟩ := h d ds e hi
    unfold forL
    rw [h1]
    rcases h2 with ⟨h2 | h2, h3⟩ | ⟨h2, h3⟩
    · simp only [h2]
      exact forL_ret I J ds e2 h3 h
    · simp only [h2]
      exact forL_ret I J ds e2 h3 h
    · simp only [h2]
      exact ⟨e2, Or.inr ⟨rfl, h3⟩⟩
/-- an item of a list of rows -/
theorem atI_row {w : List WRow} {i : Int} (h0 : 0 ≤ i) (h1 : i < w.length) : ∃ r, w[i.toNat]? = some r ∧ atI (w.map rowD) i = some (rowD r) := by
  have hl : i.toNat < w.length := by omega
  obtain ⟨d, a, b⟩ := atI_nat (xs := w.map rowD) (i := i) h0 (by simpa using h1)
  refine ⟨w[i.toNat], List.getElem?_eq_getElem hl, ?_⟩
  rw [List.getElem?_map, List.getElem?_eq_getElem hl] at b
  rw [a]
  exact b.symm ▸ rfl
theorem atI_int {ns : List Int} {i : Int} (h0 : 0 ≤ i) (h1 : i < ns.length) : ∃ k, k ∈ ns ∧ atI (ns.map PyData.int) i = some (.int k) := by
  have hl : i.toNat < ns.length := by omega
  obtain ⟨d, a, b⟩ := atI_nat (xs := ns.map PyData.int) (i := i) h0 (by simpa using h1)
  refine ⟨ns[i.toNat], List.getElem_mem hl, ?_⟩
  rw [List.getElem?_map, List.getElem?_eq_getElem hl] at b
  rw [a]
  exact b.symm ▸ rfl
theorem map_int_inj : ∀ {as bs : List Int}, as.map PyData.int = bs.map PyData.int → as = bs
  | [], [], _ => rfl
  | [], _ :: _, h => by cases h
  | _ :: _, [], h => by cases h
  | a :: as, b :: bs, h => by
    rw [List.map_cons, List.map_cons] at h
    injection h with h1 h2
    injection h1 with h1
    rw [h1, map_int_inj h2]
theorem rowD_inj {r s : WRow} (h : rowD r = rowD s) : r = s := by
  injection h with h
  injection h with h1 h2
  injection h2 with h2 _
  injection h1 with h1
  injection h2 with h2
  exact Prod.ext (map_int_inj h1) (map_int_inj h2)
end BV
/-! while by a measure; rows to which a run comes -/
namespace BV
open PySem PySem.Spec PyProof.Rows L2
theorem whL_inv {c : BV.Env → Out (Bool × BV.Env)} {body : BV.Env → Out (Fl × BV.Env)} (I : Nat → BV.Env → Prop) (J : BV.Env → Prop)
    (h : ∀ m e, I m e → (c e = .ok (false, e) ∧ J e) ∨ (c e = .ok (true, e) ∧ ∃ e2 m', m' < m ∧ body e = .ok (.nx, e2) ∧ I m' e2)) : ∀ (b m : Nat), m ≤ b → ∀ e, I m e → ∃ n e', whL c body n e = .ok (.nx, e') ∧ J e' := by
  intro b
  induction b with
  | zero =>
    intro m hm e hi
    rcases h m e hi with ⟨h1, h2⟩ | ⟨_, _, m', hl, _⟩
    · exact ⟨1, e, by simp [whL, h1, keepsB_refl], h2⟩
    · omega
  | succ b ih =>
    intro m hm e hi
    rcases h m e hi with ⟨h1, h2⟩ | ⟨h1, e2, m', hl, hb, hi2⟩
    · exact ⟨1, e, by simp [whL, h1, keepsB_refl], h2⟩
    · obtain ⟨n, e', h3, h4⟩ := ih m' (by omega) e2 hi2
      refine ⟨n + 1, e', ?_, h4⟩
      unfold whL
      rw [h1]
      simp [keepsB_refl, hb, h3]
theorem while_inv {c : BV.Env → Out (Bool × BV.Env)} {body : BV.Env → Out (Fl × BV.Env)} (I : Nat → BV.Env → Prop) (J : BV.Env → Prop)
    (h : ∀ m e, I m e → (c e = .ok (false, e) ∧ J e) ∨ (c e = .ok (true, e) ∧ ∃ e2 m', m' < m ∧ body e = .ok (.nx, e2) ∧ I m' e2)) {m : Nat} {e : BV.Env} (hi : I m e) : ∃ e', sWhile c body e = .ok (.nx, e') ∧ J e' := by
  obtain ⟨n, e', h1, h2⟩ := whL_inv I J h m m (Nat.le_refl _) e hi
  exact ⟨e', sWhile_of h1 (by intro q; cases q), h2⟩
/-! steps of a web -/
def tosW (w : List WRow) (i : Int) : List Int := ((w[i.toNat]?).map (·.2)).getD []
inductive Rc (w : List WRow) : Int → Int → Prop
  | one {x y : Int} : y ∈ tosW w x → Rc w x y
  | more {x y z : Int} : Rc w x y → z ∈ tosW w y → Rc w x z
theorem Rc.trans {w : List WRow} {x y z : Int} (h : Rc w x y) (k : Rc w y z) : Rc w x z := by
  induction k with
  | one h2 => exact .more h h2
  | more _ h2 ih => exact .more ih h2
theorem Rc.head {w : List WRow} {x z : Int} (h : Rc w x z) : ∃ y, y ∈ tosW w x ∧ (z = y ∨ Rc w y z) := by
  induction h with
  | one h2 => exact ⟨_, h2, Or.inl rfl⟩
  | more _ h2 ih =>
    obtain ⟨y, h3, h4⟩ := ih
    refine ⟨y, h3, Or.inr ?_⟩
    rcases h4 with rfl | h4
    · exact .one h2
    · exact .more h4 h2
theorem tosW_at {w : List WRow} {i : Int} {r : WRow} (h : w[i.toNat]? = some r) : tosW w i = r.2 := by
  unfold tosW
  rw [h]
  rfl
theorem tosW_in {w : List WRow} (h : WebOk w) {x y : Int} (hy : y ∈ tosW w x) : 0 ≤ y ∧ y < w.length := by
  unfold tosW at hy
  cases q : w[x.toNat]? with
  | none =>
    rw [q] at hy
    cases hy
  | some r =>
    rw [q] at hy
    exact (h.rows r (List.mem_of_getElem? q)).tb y hy
theorem Rc.in {w : List WRow} (h : WebOk w) {x y : Int} (r : Rc w x y) : 0 ≤ y ∧ y < w.length := by
  cases r with
  | one h2 => exact tosW_in h h2
  | more _ h2 => exact tosW_in h h2
/-- at a row of the web -/
theorem row_at {w : List WRow} {i : Int} (h0 : 0 ≤ i) (h1 : i < w.length) : ∃ r, r ∈ w ∧ tosW w i = r.2 ∧ atI (w.map rowD) i = some (rowD r) := by
  obtain ⟨r, a, b⟩ := atI_row h0 h1
  exact ⟨r, List.mem_of_getElem? a, tosW_at a, b⟩
theorem get_dT (ks : List Int) (k : Int) : (getD' (dT ks) (.inl k)).isSome = decide (k ∈ ks) := by
  have h := has_dT ks k
  unfold getD'
  rw [Option.isSome_map, ← h]
  rw [Bool.eq_iff_iff, List.find?_isSome, List.any_eq_true]
theorem gNe_nilL {xs : List D} {n : Nat} (h : Pl n (.list xs)) : gNe (.list xs) (.list []) = some (.frz (.bool (!xs.isEmpty))) := by
  unfold gNe
  have e : PyData.eqv (.list xs) (.list []) = xs.isEmpty := by
    cases xs <;> simp [PyData.eqv, PyData.eqvAll]
  rw [if_pos ⟨h.1, by simp [PyData.plain, PyData.plainAll], by
    have : (PyData.list []).depth ≤ 1 := by simp [PyData.depth, PyData.depthAll]
    omega⟩, e]
theorem in_small {n : Nat} {ks : List Int} (h : ks.Nodup) (hb : ∀ x ∈ ks, 0 ≤ x ∧ x < (n : Nat)) : ks.length ≤ n := by
  have := nodup_le ks (rI 0 n) h fun x hx => rI_mem.mpr (by have := hb x hx; omega)
  rwa [rI_len] at this
theorem any_ints (ns : List Int) (y : Int) : ((ns.map PyData.int).any fun d => PyData.eqv d (.int y)) = decide (y ∈ ns) := by
  induction ns with
  | nil => rfl
  | cons n ns ih =>
    rw [List.map_cons, List.any_cons, ih]
    have e : PyData.eqv (.int n) (.int y) = decide (n = y) := by
      simp only [PyData.eqv]
      exact Bool.eq_iff_iff.mpr (by simp)
    rw [e]
    by_cases h : n = y
    · simp [h]
    · have h2 : ¬ y = n := fun q => h q.symm
      simp [h, h2]
theorem in_ints (ns : List Int) (y : Int) : gIn (.int y) (.list (ns.map .int)) = some (.frz (.bool (decide (y ∈ ns)))) := by
  have h := pl_all (pl_ints ns)
  unfold gIn
  simp only
  rw [if_pos ⟨h.1, rfl, Nat.le_trans (Nat.min_le_left _ _) (Nat.le_trans h.2 (by decide))⟩, any_ints]
theorem notIn_ints (ns : List Int) (y : Int) : gNotIn (.int y) (.list (ns.map .int)) = some (.frz (.bool (!decide (y ∈ ns)))) := by
  have h := pl_all (pl_ints ns)
  unfold gNotIn
  simp only
  rw [if_pos ⟨h.1, rfl, Nat.le_trans (Nat.min_le_left _ _) (Nat.le_trans h.2 (by decide))⟩, any_ints]
theorem lc_filter {it : BV.Env → Out (List D × BV.Env)} {t : Tg} {c : BV.Env → Out (Bool × BV.Env)} {f : BV.Env → Out (Val × BV.Env)} {vs : List Nat} {ds : List D} {e e1 : BV.Env} (p : D → Bool) (y : D → D) (h1 : it e = .ok (ds, e1)) (h2 : Bare e1 vs) (hl : ds.length ≤ sizeLine)
    (h : ∀ d ∈ ds, ∃ e2, t.put 0 d e1 = some e2 ∧ c e2 = .ok (p d, e2) ∧ (p d = true → (fz f e2).bind asD = .ok (y d, e2)) ∧ wipeE e2 vs = e1) : fLc it t c f vs e = .ok (.new (.lst ((ds.filter p).map y)), e1) := by
  have := lcL_map (c := c) (f := f) (t := t) (vs := vs) (p := p) (y := y) (e := e1) ds [] (by simpa using hl) h
  rw [List.nil_append] at this
  exact fLc_ok h1 h2 this
theorem filter_ints (ns : List Int) (p : Int → Bool) (q : D → Bool) (h : ∀ i ∈ ns, q (.int i) = p i) : (ns.map PyData.int).filter q = (ns.filter p).map .int := by
  induction ns with
  | nil => rfl
  | cons n ns ih =>
    rw [List.map_cons, List.filter_cons, List.filter_cons, h n List.mem_cons_self, ih fun i hi => h i (List.mem_cons_of_mem _ hi)]
    split <;> simp
end BV
/-! the law's own count of turns -/
namespace BV
open PySem PySem.Spec PyProof.Rows L2
theorem count_it {ns : List Int} {m : Int} (h0 : 0 ≤ m) (h1 : m ≤ 100) {e : BV.Env} (he : e[0]? = some (.frz (.list (ns.map .int)))) :
    ∃ n : Nat, n ≤ 100 ∧ iR1 (BV.bin gMax2 (fC (.int 1)) (BV.bin gMin2 (un gLen (fVar 0)) (fC (.int m)))) e = .ok (rints 0 n, e) := by
  obtain ⟨q, q0, q1, q2⟩ : ∃ q : Int, 0 ≤ q ∧ q ≤ 100 ∧ BV.bin gMax2 (fC (.int 1)) (BV.bin gMin2 (un gLen (fVar 0)) (fC (.int m))) e = .ok (.frz (.int q), e) := by
    refine ⟨if (if m < (ns.length : Int) then m else (ns.length : Int)) > 1 then (if m < (ns.length : Int) then m else (ns.length : Int)) else 1, ?_, ?_, ?_⟩
    · split <;> omega
    · split
      · split <;> omega
      · omega
    · rw [bin_eq, fz_eq, fC_eq, Out.bind_ok, fzv_frz, Out.bind_ok, binK_eq, fz_eq, bin_eq, fz_eq, un_eq, fz_eq]
      simp only [fVar_eq, he, Out.bind_ok, fzv_frz, unK_eq, opd_frz, gLen_l, res_some, List.length_map, binK_eq, fz_eq, fC_eq, binK2_eq, gMin2_i, gMax2_i]
  have a1 : (-4611686018427387904 : Int) ≤ q := by omega
  have a2 : q < (4611686018427387904 : Int) := by omega
  refine ⟨q.toNat, by omega, ?_⟩
  rw [iR1_eq, fz_eq, q2]
  simp [a1, a2]
theorem count_mem {n : Nat} (h : n ≤ 100) {d : D} (hd : d ∈ rints 0 n) : ∃ k : Nat, d = .int k ∧ k ≤ 4000 := by
  unfold rints at hd
  obtain ⟨i, i1, i2⟩ := List.mem_map.mp hd
  have := List.mem_range.mp i1
  exact ⟨i, by rw [← i2, Int.zero_add], by omega⟩
end BV
/-! runs of a web -/
namespace BV
open PySem PySem.Spec PyProof.Rows L2
theorem in_intsT (ns : List Int) (y : Int) : gIn (.int y) (.tuple (ns.map .int)) = some (.frz (.bool (decide (y ∈ ns)))) := by
  have h := in_ints ns y
  unfold gIn at h ⊢
  exact h
theorem notIn_intsT (ns : List Int) (y : Int) : gNotIn (.int y) (.tuple (ns.map .int)) = some (.frz (.bool (!decide (y ∈ ns)))) := by
  have h := notIn_ints ns y
  unfold gNotIn at h ⊢
  exact h
abbrev RStep := Int × Option Int
def optD : Option Int → D
  | none => .none
  | some x => .int x
def stepD (s : RStep) : D := .tuple [.int s.1, optD s.2]
abbrev runD (ss : List RStep) : D := .list (ss.map stepD)
def roomsW (w : List WRow) (i : Int) : List Int := ((w[i.toNat]?).map (·.1)).getD []
theorem roomsW_at {w : List WRow} {i : Int} {r : WRow} (h : w[i.toNat]? = some r) : roomsW w i = r.1 := by
  unfold roomsW
  rw [h]
  rfl
theorem row_at2 {w : List WRow} {i : Int} (h0 : 0 ≤ i) (h1 : i < w.length) : ∃ r, r ∈ w ∧ tosW w i = r.2 ∧ roomsW w i = r.1 ∧ atI (w.map rowD) i = some (rowD r) := by
  obtain ⟨r, a, b⟩ := atI_row h0 h1
  exact ⟨r, List.mem_of_getElem? a, tosW_at a, roomsW_at a, b⟩
def AskOk (w : List WRow) (r : Int) (o : Option Int) : Prop := (roomsW w r = [] ∧ o = none) ∨ ∃ x, o = some x ∧ x ∈ roomsW w r
def RunF (w : List WRow) : List Int → List RStep → Prop
  | _, [] => True
  | tos, s :: ss => s.1 ∈ tos ∧ AskOk w s.1 s.2 ∧ RunF w (tosW w s.1) ss
def endT (w : List WRow) : List Int → List RStep → List Int
  | tos, [] => tos
  | _, s :: ss => endT w (tosW w s.1) ss
theorem endT_snoc (w : List WRow) (s : RStep) : ∀ (tos : List Int) (ss : List RStep), endT w tos (ss ++ [s]) = tosW w s.1
  | _, [] => rfl
  | _, t :: ss => endT_snoc w s (tosW w t.1) ss
theorem RunF.snoc {w : List WRow} {s : RStep} : ∀ {tos : List Int} {ss : List RStep}, RunF w tos ss → s.1 ∈ endT w tos ss → AskOk w s.1 s.2 → RunF w tos (ss ++ [s])
  | _, [], _, h1, h2 => ⟨h1, h2, trivial⟩
  | _, t :: ss, ⟨a, b, c⟩, h1, h2 => ⟨a, b, RunF.snoc (ss := ss) c h1 h2⟩
theorem RunF.take {w : List WRow} : ∀ {tos : List Int} {ss : List RStep} (n : Nat), RunF w tos ss → RunF w tos (ss.take n)
  | _, _, 0, _ => trivial
  | _, [], _ + 1, _ => trivial
  | _, t :: ss, n + 1, ⟨a, b, c⟩ => ⟨a, b, RunF.take (ss := ss) n c⟩
theorem RunF.rows {w : List WRow} (h : WebOk w) : ∀ {tos : List Int} {ss : List RStep}, (∀ t ∈ tos, 0 ≤ t ∧ t < w.length) → RunF w tos ss → ∀ s ∈ ss, (0 ≤ s.1 ∧ s.1 < w.length) ∧ AskOk w s.1 s.2
  | _, [], _, _, s, hs => by cases hs
  | _, t :: ss, ht, ⟨a, b, c⟩, s, hs => by
    rcases List.mem_cons.mp hs with rfl | hs
    · exact ⟨ht _ a, b⟩
    · exact RunF.rows h (ss := ss) (fun y hy => tosW_in h hy) c s hs
theorem askOk_room {w : List WRow} (h : WebOk w) {r x : Int} (a : AskOk w r (some x)) : 0 ≤ x ∧ x ≤ 99 := by
  rcases a with ⟨_, q⟩ | ⟨y, q, hy⟩
  · cases q
  · cases q
    unfold roomsW at hy
    cases q : w[r.toNat]? with
    | none =>
      rw [q] at hy
      cases hy
    | some r =>
      rw [q] at hy
      exact (h.rows r (List.mem_of_getElem? q)).rb x hy
theorem start_in {w : List WRow} (h : WebOk w) : ∀ t ∈ [(0 : Int)], 0 ≤ t ∧ t < w.length := fun t ht => by
  rw [List.mem_singleton.mp ht]
  have := h.l0
  omega
theorem pl_opt (o : Option Int) : Pl 1 (optD o) := by
  cases o
  · exact .none
  · exact .int _
theorem pl_step (s : RStep) : Pl 2 (stepD s) := .tuple fun d hd => by
  simp only [List.mem_cons, List.not_mem_nil, or_false] at hd
  rcases hd with rfl | rfl
  · exact .int _
  · exact pl_opt _
theorem pl_run (ss : List RStep) : Pl 3 (runD ss) := .list fun d hd => by
  obtain ⟨s, _, rfl⟩ := List.mem_map.mp hd
  exact pl_step s
end BV
namespace K09
open PySem PySem.Spec PyProof.Rows L2 BV
def top (i : Nat) : Stmt := PySem.Challenge.pw_surehand_k09_reach_and_rooms.main.body.getD i (.Pass ⟨0, 0, 0, 0⟩)
abbrev st__law_pool : Stmt := top 8
abbrev N__law_pool : List Str := ["_law_script", "_law_k", "_law_cell", "_law_great", "_law_mixed"]
abbrev ps__law_pool : List Str := ["_law_script", "_law_k"]
abbrev st__law_take : Stmt := top 9
abbrev N__law_take : List Str := ["_law_pool_here", "_law_many", "_law_found"]
abbrev ps__law_take : List Str := ["_law_pool_here", "_law_many"]
abbrev st__law_picked : Stmt := top 10
abbrev N__law_picked : List Str := ["_law_pool_here", "_law_some", "_law_many", "_law_left", "_law_k"]
abbrev ps__law_picked : List Str := ["_law_pool_here", "_law_some", "_law_many"]
abbrev st__law_names : Stmt := top 11
abbrev N__law_names : List Str := ["_law_pool_here", "_law_many", "_law_letters", "_law_stem", "_law_first", "_law_k"]
abbrev ps__law_names : List Str := ["_law_pool_here", "_law_many"]
abbrev st__law_term : Stmt := top 12
abbrev N__law_term : List Str := ["_law_pool_here", "_law_deep_here", "_law_names_here", "_law_some", "_law_way", "_law_least", "_law_most", "_law_k"]
abbrev ps__law_term : List Str := ["_law_pool_here", "_law_deep_here", "_law_names_here", "_law_some"]
abbrev st__law_program : Stmt := top 13
abbrev N__law_program : List Str := ["_law_pool_here", "_law_most", "_law_deep_here", "_law_some", "_law_names_here", "_law_k", "_law_name"]
abbrev ps__law_program : List Str := ["_law_pool_here", "_law_most", "_law_deep_here", "_law_some"]
abbrev st__law_deep : Stmt := top 18
abbrev N__law_deep : List Str := ["_law_pool_here", "_law_names_here", "_law_found", "_law_k", "_law_name", "_law_inner"]
abbrev ps__law_deep : List Str := ["_law_pool_here"]
abbrev st_parts_of : Stmt := top 1
abbrev N_parts_of : List Str := ["term"]
abbrev ps_parts_of : List Str := ["term"]
abbrev st_term_reach : Stmt := top 3
abbrev N_term_reach : List Str := ["term", "called", "inner", "part"]
abbrev ps_term_reach : List Str := ["term", "called"]
abbrev st_reaches_of : Stmt := top 4
abbrev N_reaches_of : List Str := ["program", "found", "name", "term"]
abbrev ps_reaches_of : List Str := ["program"]
abbrev st_reach : Stmt := top 5
abbrev N_reach : List Str := ["program"]
abbrev ps_reach : List Str := ["program"]
abbrev st_rooms_in : Stmt := top 2
abbrev N_rooms_in : List Str := ["term", "found", "part"]
abbrev ps_rooms_in : List Str := ["term"]
abbrev st_rooms_of : Stmt := top 6
abbrev N_rooms_of : List Str := ["program", "found", "name", "term"]
abbrev ps_rooms_of : List Str := ["program"]
abbrev st__law_reach : Stmt := top 14
abbrev N__law_reach : List Str := ["_law_term_here", "_law_reaches_here", "_law_inner", "_law_part"]
abbrev ps__law_reach : List Str := ["_law_term_here", "_law_reaches_here"]
abbrev st__law_reaches : Stmt := top 15
abbrev N__law_reaches : List Str := ["_law_program_here", "_law_found", "_law_name", "_law_term_here"]
abbrev ps__law_reaches : List Str := ["_law_program_here"]
abbrev st__law_rooms_in : Stmt := top 16
abbrev N__law_rooms_in : List Str := ["_law_term_here", "_law_parts", "_law_found", "_law_part"]
abbrev ps__law_rooms_in : List Str := ["_law_term_here"]
abbrev st__law_all_rooms : Stmt := top 17
abbrev N__law_all_rooms : List Str := ["_law_program_here", "_law_found", "_law_name", "_law_term_here"]
abbrev ps__law_all_rooms : List Str := ["_law_program_here"]
abbrev st_law : Stmt := top 19
abbrev N_law : List Str := ["_law_script", "_law_k", "_law_pool_here", "_law_some", "_law_program_here", "_law_kept", "_law_found", "_law_turn", "_law_told"]
abbrev ps_law : List Str := ["_law_script"]
noncomputable def f__law_pool_s0 : BV.Env → Out (Fl × BV.Env) :=
 sSet 2 2 (bin gAdd (bin gMul (fC (.int 7)) (un gSum (fSl (fVar 0) (oNone) (oSome (fC (.int 63)))))) (fVar 1))
noncomputable def f__law_pool_s1 : BV.Env → Out (Fl × BV.Env) :=
 sIf (tOf (bin gLt (fVar 1) (un gLen (fVar 0)))) (sSet 2 2 (bin gIx (fVar 0) (fVar 1))) (sNil)
noncomputable def f__law_pool_s2 : BV.Env → Out (Fl × BV.Env) :=
 sSet 2 3 (un gAbs (fVar 2))
noncomputable def f__law_pool_s3 : BV.Env → Out (Fl × BV.Env) :=
 sSet 2 4 (bin gMod (bin gMul (bin gAdd (bin gAdd (bin gAdd (bin gMod (fVar 3) (fC (.int 2147483629))) (bin gMul (bin gMul (fC (.int 7919)) (fVar 1)) (fVar 1))) (bin gMul (fC (.int 31)) (fVar 1))) (fC (.int 17))) (fC (.int 48271))) (fC (.int 2147483647)))
noncomputable def f__law_pool_s4 : BV.Env → Out (Fl × BV.Env) :=
 sRet 2 (fLst (aCons (bin gMul (fVar 3) (un gInt (bin gGe (fVar 3) (bin gPow (fC (.int 10)) (fC (.int 18)))))) (aCons (bin gMod (bin gMul (fVar 4) (fVar 4)) (fC (.int 2147483629))) (aNil))))
noncomputable def f__law_pool_4 : BV.Env → Out (Fl × BV.Env) :=
 f__law_pool_s4
noncomputable def f__law_pool_3 : BV.Env → Out (Fl × BV.Env) :=
 sSeq f__law_pool_s3 f__law_pool_4
noncomputable def f__law_pool_2 : BV.Env → Out (Fl × BV.Env) :=
 sSeq f__law_pool_s2 f__law_pool_3
noncomputable def f__law_pool_1 : BV.Env → Out (Fl × BV.Env) :=
 sSeq f__law_pool_s1 f__law_pool_2
noncomputable def f__law_pool : BV.Env → Out (Fl × BV.Env) :=
 sSeq f__law_pool_s0 f__law_pool_1
noncomputable def m__law_pool : Fn := runF 2 5 f__law_pool
noncomputable def f__law_take_s0 : BV.Env → Out (Fl × BV.Env) :=
 sIf (tOf (bin gGt (bin gIx (fVar 0) (fC (.int 0))) (fC (.int 0)))) (sSeq (sSet 2 2 (bin gMod (bin gIx (fVar 0) (fC (.int 0))) (fVar 1))) (
 sSeq (sSetIx 0 (bin gFdiv (bin gIx (fVar 0) (fC (.int 0))) (fVar 1)) (fC (.int 0))) (
 sRet 2 (fVar 2)))) (sNil)
noncomputable def f__law_take_s1 : BV.Env → Out (Fl × BV.Env) :=
 sSetIx 0 (bin gMod (bin gAdd (bin gMul (bin gIx (fVar 0) (fC (.int 1))) (fC (.int 48271))) (fC (.int 11))) (fC (.int 2147483647))) (fC (.int 1))
noncomputable def f__law_take_s2 : BV.Env → Out (Fl × BV.Env) :=
 sRet 2 (bin gMod (bin gFdiv (bin gMod (bin gMul (bin gIx (fVar 0) (fC (.int 1))) (bin gIx (fVar 0) (fC (.int 1)))) (fC (.int 2147483629))) (fC (.int 16))) (fVar 1))
noncomputable def f__law_take_2 : BV.Env → Out (Fl × BV.Env) :=
 f__law_take_s2
noncomputable def f__law_take_1 : BV.Env → Out (Fl × BV.Env) :=
 sSeq f__law_take_s1 f__law_take_2
noncomputable def f__law_take : BV.Env → Out (Fl × BV.Env) :=
 sSeq f__law_take_s0 f__law_take_1
noncomputable def m__law_take : Fn := runF 2 3 f__law_take
noncomputable def f__law_picked_s0 : BV.Env → Out (Fl × BV.Env) :=
 sSet 3 3 (un gList (fVar 1))
noncomputable def lcc__law_picked_0 : BV.Env → Out (Bool × BV.Env) :=
 tYesF
noncomputable def lce__law_picked_0 : BV.Env → Out (Val × BV.Env) :=
 gOwn mPop 3 (fCall m__law_take [] (rOwn 0 (rDat (un gLen (fVar 3)) (rNil))))
noncomputable def lc__law_picked_0 : BV.Env → Out (Val × BV.Env) :=
 fLc (iR1 (bin gMin2 (fVar 2) (un gLen (fVar 3)))) (.name 4) lcc__law_picked_0 lce__law_picked_0 [4]
noncomputable def f__law_picked_s1 : BV.Env → Out (Fl × BV.Env) :=
 sRet 3 (un gSorted (lc__law_picked_0))
noncomputable def f__law_picked_1 : BV.Env → Out (Fl × BV.Env) :=
 f__law_picked_s1
noncomputable def f__law_picked : BV.Env → Out (Fl × BV.Env) :=
 sSeq f__law_picked_s0 f__law_picked_1
noncomputable def m__law_picked : Fn := runF 3 5 f__law_picked
noncomputable def f__law_names_s0 : BV.Env → Out (Fl × BV.Env) :=
 sSet 2 2 (fC (.str "abcdefghijklmnopqrstuvwxyz"))
noncomputable def lcc__law_names_0 : BV.Env → Out (Bool × BV.Env) :=
 tYesF
noncomputable def lce__law_names_0 : BV.Env → Out (Val × BV.Env) :=
 bin gIx (fVar 2) (fCall m__law_take [] (rOwn 0 (rDat (fC (.int 26)) (rNil))))
noncomputable def lc__law_names_0 : BV.Env → Out (Val × BV.Env) :=
 fLc (iR1 (fCall m__law_take [] (rOwn 0 (rDat (fC (.int 6)) (rNil))))) (.name 5) lcc__law_names_0 lce__law_names_0 [5]
noncomputable def f__law_names_s1 : BV.Env → Out (Fl × BV.Env) :=
 sSet 2 3 (meth "str" gJoin (fC (.str "")) (lc__law_names_0))
noncomputable def f__law_names_s2 : BV.Env → Out (Fl × BV.Env) :=
 sSet 2 4 (fz (fCall m__law_take [] (rOwn 0 (rDat (fC (.int 26)) (rNil)))))
noncomputable def lcc__law_names_1 : BV.Env → Out (Bool × BV.Env) :=
 tYesF
noncomputable def lce__law_names_1 : BV.Env → Out (Val × BV.Env) :=
 bin gAdd (fVar 3) (bin gIx (fVar 2) (bin gMod (bin gAdd (fVar 4) (fVar 5)) (fC (.int 26))))
noncomputable def lc__law_names_1 : BV.Env → Out (Val × BV.Env) :=
 fLc (iR1 (fVar 1)) (.name 5) lcc__law_names_1 lce__law_names_1 [5]
noncomputable def f__law_names_s3 : BV.Env → Out (Fl × BV.Env) :=
 sRet 2 (lc__law_names_1)
noncomputable def f__law_names_3 : BV.Env → Out (Fl × BV.Env) :=
 f__law_names_s3
noncomputable def f__law_names_2 : BV.Env → Out (Fl × BV.Env) :=
 sSeq f__law_names_s2 f__law_names_3
noncomputable def f__law_names_1 : BV.Env → Out (Fl × BV.Env) :=
 sSeq f__law_names_s1 f__law_names_2
noncomputable def f__law_names : BV.Env → Out (Fl × BV.Env) :=
 sSeq f__law_names_s0 f__law_names_1
noncomputable def m__law_names : Fn := runF 2 6 f__law_names
noncomputable def f__law_term_s0 (mr : Fn) : BV.Env → Out (Fl × BV.Env) :=
 sSet 4 4 (fz (fCall m__law_take [] (rOwn 0 (rDat (fC (.int 9)) (rNil)))))
noncomputable def f__law_term_s1 (mr : Fn) : BV.Env → Out (Fl × BV.Env) :=
 sIf (tOf (bin gEq (fVar 4) (fC (.int 3)))) (sRet 4 (fTup (aCons (fC (.str "rest")) (aNil)))) (sNil)
noncomputable def f__law_term_s2 (mr : Fn) : BV.Env → Out (Fl × BV.Env) :=
 sIf (tAnd (tOf (bin gEq (fVar 4) (fC (.int 4)))) (tOf (bin gNe (fVar 2) (fLst (aNil))))) (sRet 4 (fTup (aCons (fC (.str "call")) (aCons (bin gIx (fVar 2) (fCall m__law_take [] (rOwn 0 (rDat (un gLen (fVar 2)) (rNil))))) (aNil))))) (sNil)
noncomputable def lcc__law_term_0 (mr : Fn) : BV.Env → Out (Bool × BV.Env) :=
 tYesF
noncomputable def lce__law_term_0 (mr : Fn) : BV.Env → Out (Val × BV.Env) :=
 fCall mr [] (rOwn 0 (rDat (bin gSub (fVar 1) (fC (.int 1))) (rDat (fVar 2) (rDat (fVar 3) (rNil)))))
noncomputable def lc__law_term_0 (mr : Fn) : BV.Env → Out (Val × BV.Env) :=
 fLc (iR1 (bin gAdd (fC (.int 1)) (fCall m__law_take [] (rOwn 0 (rDat (fC (.int 3)) (rNil)))))) (.name 7) (lcc__law_term_0 mr) (lce__law_term_0 mr) [7]
noncomputable def f__law_term_s3 (mr : Fn) : BV.Env → Out (Fl × BV.Env) :=
 sIf (tAnd (tOf (bin gGt (fVar 1) (fC (.int 1)))) (tOf (bin gEq (fVar 4) (fC (.int 5))))) (sRet 4 (fTup (aCons (fC (.str "then")) (aCons (un gTuple ((lc__law_term_0 mr))) (aNil))))) (sNil)
noncomputable def lcc__law_term_1 (mr : Fn) : BV.Env → Out (Bool × BV.Env) :=
 tYesF
noncomputable def lce__law_term_1 (mr : Fn) : BV.Env → Out (Val × BV.Env) :=
 fCall mr [] (rOwn 0 (rDat (bin gSub (fVar 1) (fC (.int 1))) (rDat (fVar 2) (rDat (fVar 3) (rNil)))))
noncomputable def lc__law_term_1 (mr : Fn) : BV.Env → Out (Val × BV.Env) :=
 fLc (iR1 (bin gAdd (fC (.int 2)) (fCall m__law_take [] (rOwn 0 (rDat (fC (.int 2)) (rNil)))))) (.name 7) (lcc__law_term_1 mr) (lce__law_term_1 mr) [7]
noncomputable def f__law_term_s4 (mr : Fn) : BV.Env → Out (Fl × BV.Env) :=
 sIf (tAnd (tOf (bin gGt (fVar 1) (fC (.int 1)))) (tOf (bin gEq (fVar 4) (fC (.int 6))))) (sRet 4 (fTup (aCons (fC (.str "fork")) (aCons (un gTuple ((lc__law_term_1 mr))) (aNil))))) (sNil)
noncomputable def f__law_term_s5 (mr : Fn) : BV.Env → Out (Fl × BV.Env) :=
 sIf (tAnd (tOf (bin gGt (fVar 1) (fC (.int 1)))) (tOf (bin gGt (fVar 4) (fC (.int 6))))) (sSeq (sSet 4 5 (fz (fCall m__law_take [] (rOwn 0 (rDat (fC (.int 3)) (rNil)))))) (
 sSeq (sSet 4 6 (bin gIx (fLst (aCons (fC .none) (aCons (fVar 5) (aCons (bin gAdd (fVar 5) (fC (.int 1))) (aCons (bin gAdd (fVar 5) (fCall m__law_take [] (rOwn 0 (rDat (fC (.int 3)) (rNil))))) (aNil)))))) (fCall m__law_take [] (rOwn 0 (rDat (fC (.int 4)) (rNil)))))) (
 sRet 4 (fTup (aCons (fC (.str "round")) (aCons (fVar 5) (aCons (fVar 6) (aCons (fCall mr [] (rOwn 0 (rDat (bin gSub (fVar 1) (fC (.int 1))) (rDat (fVar 2) (rDat (fVar 3) (rNil)))))) (aNil))))))))) (sNil)
noncomputable def f__law_term_s6 (mr : Fn) : BV.Env → Out (Fl × BV.Env) :=
 sRet 4 (fTup (aCons (fC (.str "ask")) (aCons (un gTuple (fCall m__law_picked [] (rOwn 0 (rDat (fVar 3) (rDat (bin gIx (fLst (aCons (fC (.int 1)) (aCons (fC (.int 1)) (aCons (fC (.int 2)) (aCons (fC (.int 3)) (aNil)))))) (fCall m__law_take [] (rOwn 0 (rDat (fC (.int 4)) (rNil))))) (rNil)))))) (aNil))))
noncomputable def f__law_term_6 (mr : Fn) : BV.Env → Out (Fl × BV.Env) :=
 (f__law_term_s6 mr)
noncomputable def f__law_term_5 (mr : Fn) : BV.Env → Out (Fl × BV.Env) :=
 sSeq (f__law_term_s5 mr) (f__law_term_6 mr)
noncomputable def f__law_term_4 (mr : Fn) : BV.Env → Out (Fl × BV.Env) :=
 sSeq (f__law_term_s4 mr) (f__law_term_5 mr)
noncomputable def f__law_term_3 (mr : Fn) : BV.Env → Out (Fl × BV.Env) :=
 sSeq (f__law_term_s3 mr) (f__law_term_4 mr)
noncomputable def f__law_term_2 (mr : Fn) : BV.Env → Out (Fl × BV.Env) :=
 sSeq (f__law_term_s2 mr) (f__law_term_3 mr)
noncomputable def f__law_term_1 (mr : Fn) : BV.Env → Out (Fl × BV.Env) :=
 sSeq (f__law_term_s1 mr) (f__law_term_2 mr)
noncomputable def f__law_term (mr : Fn) : BV.Env → Out (Fl × BV.Env) :=
 sSeq (f__law_term_s0 mr) (f__law_term_1 mr)
noncomputable def mf__law_term : Nat → Fn
  | 0 => fun _ => .bad
  | n + 1 => runF 4 8 (f__law_term (mf__law_term n))
noncomputable def m__law_term : Fn := mf__law_term 8
noncomputable def f__law_program_s0 : BV.Env → Out (Fl × BV.Env) :=
 sSet 4 4 (fz (fCall m__law_names [] (rOwn 0 (rDat (bin gAdd (fC (.int 1)) (fCall m__law_take [] (rOwn 0 (rDat (fVar 1) (rNil))))) (rNil)))))
noncomputable def lcc__law_program_0 : BV.Env → Out (Bool × BV.Env) :=
 tYesF
noncomputable def lce__law_program_0 : BV.Env → Out (Val × BV.Env) :=
 fTup (aCons (fVar 6) (aCons (fCall m__law_term [] (rOwn 0 (rDat (fVar 2) (rDat (fSl (fVar 4) (oSome (bin gAdd (fVar 5) (fC (.int 1)))) (oNone)) (rDat (fVar 3) (rNil)))))) (aNil)))
noncomputable def lc__law_program_0 : BV.Env → Out (Val × BV.Env) :=
 fLc (iEnum1 (fVar 4)) (.tup [5, 6]) lcc__law_program_0 lce__law_program_0 [5, 6]
noncomputable def f__law_program_s1 : BV.Env → Out (Fl × BV.Env) :=
 sRet 4 (lc__law_program_0)
noncomputable def f__law_program_1 : BV.Env → Out (Fl × BV.Env) :=
 f__law_program_s1
noncomputable def f__law_program : BV.Env → Out (Fl × BV.Env) :=
 sSeq f__law_program_s0 f__law_program_1
noncomputable def m__law_program : Fn := runF 4 7 f__law_program
noncomputable def f__law_deep_s0 : BV.Env → Out (Fl × BV.Env) :=
 sSet 1 1 (fz (fCall m__law_names [] (rOwn 0 (rDat (fC (.int 8)) (rNil)))))
noncomputable def f__law_deep_s1 : BV.Env → Out (Fl × BV.Env) :=
 sSet 1 2 (fLst (aNil))
noncomputable def f__law_deep_2b_s0 : BV.Env → Out (Fl × BV.Env) :=
 sSet 1 5 (fTup (aCons (fC (.str "ask")) (aCons (fTup (aCons (fVar 3) (aNil))) (aNil))))
noncomputable def f__law_deep_2b_s1 : BV.Env → Out (Fl × BV.Env) :=
 sIf (tOf (bin gLt (fVar 3) (fC (.int 7)))) (sSet 1 5 (fTup (aCons (fC (.str "call")) (aCons (bin gIx (fVar 1) (bin gAdd (fVar 3) (fC (.int 1)))) (aNil))))) (sNil)
noncomputable def f__law_deep_2b_s2 : BV.Env → Out (Fl × BV.Env) :=
 sDrop (gOwn mApp 2 (fTup (aCons (fVar 4) (aCons (fTup (aCons (fC (.str "round")) (aCons (fCall m__law_take [] (rOwn 0 (rDat (fC (.int 13)) (rNil)))) (aCons (bin gIx (fLst (aCons (fC (.int 12)) (aCons (fC .none) (aNil)))) (fCall m__law_take [] (rOwn 0 (rDat (fC (.int 2)) (rNil))))) (aCons (fTup (aCons (fC (.str "then")) (aCons (fTup (aCons (fVar 5) (aCons (fVar 5) (aNil)))) (aNil)))) (aNil)))))) (aNil)))))
noncomputable def f__law_deep_2b_2 : BV.Env → Out (Fl × BV.Env) :=
 f__law_deep_2b_s2
noncomputable def f__law_deep_2b_1 : BV.Env → Out (Fl × BV.Env) :=
 sSeq f__law_deep_2b_s1 f__law_deep_2b_2
noncomputable def f__law_deep_2b : BV.Env → Out (Fl × BV.Env) :=
 sSeq f__law_deep_2b_s0 f__law_deep_2b_1
noncomputable def f__law_deep_s2 : BV.Env → Out (Fl × BV.Env) :=
 sFor 1 (iEnum1 (fVar 1)) (.tup [3, 4]) (f__law_deep_2b)
noncomputable def f__law_deep_s3 : BV.Env → Out (Fl × BV.Env) :=
 sRet 1 (fVar 2)
noncomputable def f__law_deep_3 : BV.Env → Out (Fl × BV.Env) :=
 f__law_deep_s3
noncomputable def f__law_deep_2 : BV.Env → Out (Fl × BV.Env) :=
 sSeq f__law_deep_s2 f__law_deep_3
noncomputable def f__law_deep_1 : BV.Env → Out (Fl × BV.Env) :=
 sSeq f__law_deep_s1 f__law_deep_2
noncomputable def f__law_deep : BV.Env → Out (Fl × BV.Env) :=
 sSeq f__law_deep_s0 f__law_deep_1
noncomputable def m__law_deep : Fn := runF 1 6 f__law_deep
noncomputable def f_parts_of_s0 : BV.Env → Out (Fl × BV.Env) :=
 sIf (tOf (bin gEq (bin gIx (fVar 0) (fC (.int 0))) (fC (.str "round")))) (sRet 1 (fTup (aCons (bin gIx (fVar 0) (fC (.int 3))) (aNil)))) (sNil)
noncomputable def f_parts_of_s1 : BV.Env → Out (Fl × BV.Env) :=
 sIf (tOf (bin gIn (bin gIx (fVar 0) (fC (.int 0))) (fTup (aCons (fC (.str "then")) (aCons (fC (.str "fork")) (aNil)))))) (sRet 1 (bin gIx (fVar 0) (fC (.int 1)))) (sNil)
noncomputable def f_parts_of_s2 : BV.Env → Out (Fl × BV.Env) :=
 sRet 1 (fTup (aNil))
noncomputable def f_parts_of_2 : BV.Env → Out (Fl × BV.Env) :=
 f_parts_of_s2
noncomputable def f_parts_of_1 : BV.Env → Out (Fl × BV.Env) :=
 sSeq f_parts_of_s1 f_parts_of_2
noncomputable def f_parts_of : BV.Env → Out (Fl × BV.Env) :=
 sSeq f_parts_of_s0 f_parts_of_1
noncomputable def m_parts_of : Fn := runF 1 1 f_parts_of
noncomputable def f_term_reach_s0 (mr : Fn) : BV.Env → Out (Fl × BV.Env) :=
 sIf (tOf (bin gEq (bin gIx (fVar 0) (fC (.int 0))) (fC (.str "call")))) (sRet 2 (bin gIxD (fVar 1) (bin gIx (fVar 0) (fC (.int 1))))) (sNil)
noncomputable def f_term_reach_s1 (mr : Fn) : BV.Env → Out (Fl × BV.Env) :=
 sIf (tOf (bin gIn (bin gIx (fVar 0) (fC (.int 0))) (fTup (aCons (fC (.str "ask")) (aCons (fC (.str "rest")) (aNil)))))) (sRet 2 (fC (.int 1))) (sNil)
noncomputable def lcc_term_reach_0 (mr : Fn) : BV.Env → Out (Bool × BV.Env) :=
 tYesF
noncomputable def lce_term_reach_0 (mr : Fn) : BV.Env → Out (Val × BV.Env) :=
 fCall mr [] (rDat (fVar 3) (rDat (fVar 1) (rNil)))
noncomputable def lc_term_reach_0 (mr : Fn) : BV.Env → Out (Val × BV.Env) :=
 fLc (iSeq 2 (fCall m_parts_of [] (rDat (fVar 0) (rNil)))) (.name 3) (lcc_term_reach_0 mr) (lce_term_reach_0 mr) [3]
noncomputable def f_term_reach_s2 (mr : Fn) : BV.Env → Out (Fl × BV.Env) :=
 sSet 2 2 (un gSum ((lc_term_reach_0 mr)))
noncomputable def f_term_reach_s3 (mr : Fn) : BV.Env → Out (Fl × BV.Env) :=
 sIf (tOf (bin gEq (bin gIx (fVar 0) (fC (.int 0))) (fC (.str "then")))) (sRet 2 (fVar 2)) (sNil)
noncomputable def f_term_reach_s4 (mr : Fn) : BV.Env → Out (Fl × BV.Env) :=
 sIf (tOf (bin gEq (bin gIx (fVar 0) (fC (.int 0))) (fC (.str "fork")))) (sRet 2 (bin gAdd (fC (.int 1)) (fVar 2))) (sNil)
noncomputable def f_term_reach_s5 (mr : Fn) : BV.Env → Out (Fl × BV.Env) :=
 sIf (tOf (bin gIs (bin gIx (fVar 0) (fC (.int 2))) (fC .none))) (sRet 2 (bin gAdd (bin gMul (bin gAdd (bin gIx (fVar 0) (fC (.int 1))) (fC (.int 1))) (fVar 2)) (fC (.int 1)))) (sNil)
noncomputable def f_term_reach_s6 (mr : Fn) : BV.Env → Out (Fl × BV.Env) :=
 sRet 2 (bin gSub (bin gAdd (bin gMul (bin gIx (fVar 0) (fC (.int 2))) (fVar 2)) (bin gIx (fVar 0) (fC (.int 2)))) (bin gIx (fVar 0) (fC (.int 1))))
noncomputable def f_term_reach_6 (mr : Fn) : BV.Env → Out (Fl × BV.Env) :=
 (f_term_reach_s6 mr)
noncomputable def f_term_reach_5 (mr : Fn) : BV.Env → Out (Fl × BV.Env) :=
 sSeq (f_term_reach_s5 mr) (f_term_reach_6 mr)
noncomputable def f_term_reach_4 (mr : Fn) : BV.Env → Out (Fl × BV.Env) :=
 sSeq (f_term_reach_s4 mr) (f_term_reach_5 mr)
noncomputable def f_term_reach_3 (mr : Fn) : BV.Env → Out (Fl × BV.Env) :=
 sSeq (f_term_reach_s3 mr) (f_term_reach_4 mr)
noncomputable def f_term_reach_2 (mr : Fn) : BV.Env → Out (Fl × BV.Env) :=
 sSeq (f_term_reach_s2 mr) (f_term_reach_3 mr)
noncomputable def f_term_reach_1 (mr : Fn) : BV.Env → Out (Fl × BV.Env) :=
 sSeq (f_term_reach_s1 mr) (f_term_reach_2 mr)
noncomputable def f_term_reach (mr : Fn) : BV.Env → Out (Fl × BV.Env) :=
 sSeq (f_term_reach_s0 mr) (f_term_reach_1 mr)
noncomputable def mf_term_reach : Nat → Fn
  | 0 => fun _ => .bad
  | n + 1 => runF 2 4 (f_term_reach (mf_term_reach n))
noncomputable def m_term_reach : Fn := mf_term_reach 8
noncomputable def f_reaches_of_s0 : BV.Env → Out (Fl × BV.Env) :=
 sSet 1 1 (fDic0)
noncomputable def f_reaches_of_1b_s0 : BV.Env → Out (Fl × BV.Env) :=
 sSetK 1 (fCallP m_term_reach [] (rDat (fVar 3) (rOwn 1 (rNil)))) (fVar 2)
noncomputable def f_reaches_of_1b : BV.Env → Out (Fl × BV.Env) :=
 f_reaches_of_1b_s0
noncomputable def f_reaches_of_s1 : BV.Env → Out (Fl × BV.Env) :=
 sFor 1 (iSeq 1 (un gRev (fVar 0))) (.tup [2, 3]) (f_reaches_of_1b)
noncomputable def f_reaches_of_s2 : BV.Env → Out (Fl × BV.Env) :=
 sRet 1 (fVar 1)
noncomputable def f_reaches_of_2 : BV.Env → Out (Fl × BV.Env) :=
 f_reaches_of_s2
noncomputable def f_reaches_of_1 : BV.Env → Out (Fl × BV.Env) :=
 sSeq f_reaches_of_s1 f_reaches_of_2
noncomputable def f_reaches_of : BV.Env → Out (Fl × BV.Env) :=
 sSeq f_reaches_of_s0 f_reaches_of_1
noncomputable def m_reaches_of : Fn := runF 1 4 f_reaches_of
noncomputable def f_reach_s0 : BV.Env → Out (Fl × BV.Env) :=
 sRet 1 (bin gIxD (fCall m_reaches_of [] (rDat (fVar 0) (rNil))) (bin gIx (bin gIx (fVar 0) (fC (.int 0))) (fC (.int 0))))
noncomputable def f_reach : BV.Env → Out (Fl × BV.Env) :=
 f_reach_s0
noncomputable def m_reach : Fn := runF 1 1 f_reach
noncomputable def f_rooms_in_s0 (mr : Fn) : BV.Env → Out (Fl × BV.Env) :=
 sIf (tOf (bin gEq (bin gIx (fVar 0) (fC (.int 0))) (fC (.str "ask")))) (sRet 1 (un gList (bin gIx (fVar 0) (fC (.int 1))))) (sNil)
noncomputable def f_rooms_in_s1 (mr : Fn) : BV.Env → Out (Fl × BV.Env) :=
 sSet 1 1 (fLst (aNil))
noncomputable def f_rooms_in_2b_s0 (mr : Fn) : BV.Env → Out (Fl × BV.Env) :=
 sDrop (gOwn mExt 1 (fCall mr [] (rDat (fVar 2) (rNil))))
noncomputable def f_rooms_in_2b (mr : Fn) : BV.Env → Out (Fl × BV.Env) :=
 (f_rooms_in_2b_s0 mr)
noncomputable def f_rooms_in_s2 (mr : Fn) : BV.Env → Out (Fl × BV.Env) :=
 sFor 1 (iSeq 1 (fCall m_parts_of [] (rDat (fVar 0) (rNil)))) (.name 2) ((f_rooms_in_2b mr))
noncomputable def f_rooms_in_s3 (mr : Fn) : BV.Env → Out (Fl × BV.Env) :=
 sRet 1 (fVar 1)
noncomputable def f_rooms_in_3 (mr : Fn) : BV.Env → Out (Fl × BV.Env) :=
 (f_rooms_in_s3 mr)
noncomputable def f_rooms_in_2 (mr : Fn) : BV.Env → Out (Fl × BV.Env) :=
 sSeq (f_rooms_in_s2 mr) (f_rooms_in_3 mr)
noncomputable def f_rooms_in_1 (mr : Fn) : BV.Env → Out (Fl × BV.Env) :=
 sSeq (f_rooms_in_s1 mr) (f_rooms_in_2 mr)
noncomputable def f_rooms_in (mr : Fn) : BV.Env → Out (Fl × BV.Env) :=
 sSeq (f_rooms_in_s0 mr) (f_rooms_in_1 mr)
noncomputable def mf_rooms_in : Nat → Fn
  | 0 => fun _ => .bad
  | n + 1 => runF 1 3 (f_rooms_in (mf_rooms_in n))
noncomputable def m_rooms_in : Fn := mf_rooms_in 8
noncomputable def f_rooms_of_s0 : BV.Env → Out (Fl × BV.Env) :=
 sSet 1 1 (fLst (aNil))
noncomputable def f_rooms_of_1b_s0 : BV.Env → Out (Fl × BV.Env) :=
 sDrop (gOwn mExt 1 (fCall m_rooms_in [] (rDat (fVar 3) (rNil))))
noncomputable def f_rooms_of_1b : BV.Env → Out (Fl × BV.Env) :=
 f_rooms_of_1b_s0
noncomputable def f_rooms_of_s1 : BV.Env → Out (Fl × BV.Env) :=
 sFor 1 (iSeq 1 (fVar 0)) (.tup [2, 3]) (f_rooms_of_1b)
noncomputable def f_rooms_of_s2 : BV.Env → Out (Fl × BV.Env) :=
 sRet 1 (un gSortSet (fVar 1))
noncomputable def f_rooms_of_2 : BV.Env → Out (Fl × BV.Env) :=
 f_rooms_of_s2
noncomputable def f_rooms_of_1 : BV.Env → Out (Fl × BV.Env) :=
 sSeq f_rooms_of_s1 f_rooms_of_2
noncomputable def f_rooms_of : BV.Env → Out (Fl × BV.Env) :=
 sSeq f_rooms_of_s0 f_rooms_of_1
noncomputable def m_rooms_of : Fn := runF 1 4 f_rooms_of
noncomputable def f__law_reach_s0 (mr : Fn) : BV.Env → Out (Fl × BV.Env) :=
 sIf (tOf (bin gEq (bin gIx (fVar 0) (fC (.int 0))) (fC (.str "call")))) (sRet 2 (bin gIxD (fVar 1) (bin gIx (fVar 0) (fC (.int 1))))) (sNil)
noncomputable def f__law_reach_s1 (mr : Fn) : BV.Env → Out (Fl × BV.Env) :=
 sIf (tOf (bin gIn (bin gIx (fVar 0) (fC (.int 0))) (fTup (aCons (fC (.str "ask")) (aCons (fC (.str "rest")) (aNil)))))) (sRet 2 (fC (.int 1))) (sNil)
noncomputable def f__law_reach_s2 (mr : Fn) : BV.Env → Out (Fl × BV.Env) :=
 sIf (tOf (bin gEq (bin gIx (fVar 0) (fC (.int 0))) (fC (.str "round")))) (sSeq (sSet 2 2 (fz (fCall mr [] (rDat (bin gIx (fVar 0) (fC (.int 3))) (rDat (fVar 1) (rNil)))))) (
 sSeq (sIf (tOf (bin gIs (bin gIx (fVar 0) (fC (.int 2))) (fC .none))) (sRet 2 (bin gAdd (bin gAdd (bin gMul (bin gIx (fVar 0) (fC (.int 1))) (fVar 2)) (fVar 2)) (fC (.int 1)))) (sNil)) (
 sRet 2 (bin gAdd (bin gMul (bin gIx (fVar 0) (fC (.int 2))) (fVar 2)) (bin gSub (bin gIx (fVar 0) (fC (.int 2))) (bin gIx (fVar 0) (fC (.int 1)))))))) (sNil)
noncomputable def lcc__law_reach_0 (mr : Fn) : BV.Env → Out (Bool × BV.Env) :=
 tYesF
noncomputable def lce__law_reach_0 (mr : Fn) : BV.Env → Out (Val × BV.Env) :=
 fCall mr [] (rDat (fVar 3) (rDat (fVar 1) (rNil)))
noncomputable def lc__law_reach_0 (mr : Fn) : BV.Env → Out (Val × BV.Env) :=
 fLc (iSeq 2 (bin gIx (fVar 0) (fC (.int 1)))) (.name 3) (lcc__law_reach_0 mr) (lce__law_reach_0 mr) [3]
noncomputable def f__law_reach_s3 (mr : Fn) : BV.Env → Out (Fl × BV.Env) :=
 sRet 2 (bin gAdd (un gInt (bin gEq (bin gIx (fVar 0) (fC (.int 0))) (fC (.str "fork")))) (un gSum ((lc__law_reach_0 mr))))
noncomputable def f__law_reach_3 (mr : Fn) : BV.Env → Out (Fl × BV.Env) :=
 (f__law_reach_s3 mr)
noncomputable def f__law_reach_2 (mr : Fn) : BV.Env → Out (Fl × BV.Env) :=
 sSeq (f__law_reach_s2 mr) (f__law_reach_3 mr)
noncomputable def f__law_reach_1 (mr : Fn) : BV.Env → Out (Fl × BV.Env) :=
 sSeq (f__law_reach_s1 mr) (f__law_reach_2 mr)
noncomputable def f__law_reach (mr : Fn) : BV.Env → Out (Fl × BV.Env) :=
 sSeq (f__law_reach_s0 mr) (f__law_reach_1 mr)
noncomputable def mf__law_reach : Nat → Fn
  | 0 => fun _ => .bad
  | n + 1 => runF 2 4 (f__law_reach (mf__law_reach n))
noncomputable def m__law_reach : Fn := mf__law_reach 8
noncomputable def f__law_reaches_s0 : BV.Env → Out (Fl × BV.Env) :=
 sSet 1 1 (fDic0)
noncomputable def f__law_reaches_1b_s0 : BV.Env → Out (Fl × BV.Env) :=
 sSetK 1 (fCallP m__law_reach [] (rDat (fVar 3) (rOwn 1 (rNil)))) (fVar 2)
noncomputable def f__law_reaches_1b : BV.Env → Out (Fl × BV.Env) :=
 f__law_reaches_1b_s0
noncomputable def f__law_reaches_s1 : BV.Env → Out (Fl × BV.Env) :=
 sFor 1 (iSeq 1 (un gRev (fVar 0))) (.tup [2, 3]) (f__law_reaches_1b)
noncomputable def f__law_reaches_s2 : BV.Env → Out (Fl × BV.Env) :=
 sRet 1 (fVar 1)
noncomputable def f__law_reaches_2 : BV.Env → Out (Fl × BV.Env) :=
 f__law_reaches_s2
noncomputable def f__law_reaches_1 : BV.Env → Out (Fl × BV.Env) :=
 sSeq f__law_reaches_s1 f__law_reaches_2
noncomputable def f__law_reaches : BV.Env → Out (Fl × BV.Env) :=
 sSeq f__law_reaches_s0 f__law_reaches_1
noncomputable def m__law_reaches : Fn := runF 1 4 f__law_reaches
noncomputable def f__law_rooms_in_s0 (mr : Fn) : BV.Env → Out (Fl × BV.Env) :=
 sIf (tOf (bin gEq (bin gIx (fVar 0) (fC (.int 0))) (fC (.str "ask")))) (sRet 1 (un gList (bin gIx (fVar 0) (fC (.int 1))))) (sNil)
noncomputable def f__law_rooms_in_s1 (mr : Fn) : BV.Env → Out (Fl × BV.Env) :=
 sSet 1 1 (bin gIx (fLst (aCons (fLst (aNil)) (aCons (un gList (fSl (fVar 0) (oSome (un gNeg (fC (.int 1)))) (oNone))) (aNil)))) (un gInt (bin gEq (bin gIx (fVar 0) (fC (.int 0))) (fC (.str "round")))))
noncomputable def f__law_rooms_in_s2 (mr : Fn) : BV.Env → Out (Fl × BV.Env) :=
 sIf (tOf (bin gIn (bin gIx (fVar 0) (fC (.int 0))) (fTup (aCons (fC (.str "then")) (aCons (fC (.str "fork")) (aNil)))))) (sSet 1 1 (un gList (bin gIx (fVar 0) (fC (.int 1))))) (sNil)
noncomputable def f__law_rooms_in_s3 (mr : Fn) : BV.Env → Out (Fl × BV.Env) :=
 sSet 1 2 (fLst (aNil))
noncomputable def f__law_rooms_in_4b_s0 (mr : Fn) : BV.Env → Out (Fl × BV.Env) :=
 sDrop (gOwn mExt 2 (fCall mr [] (rDat (fVar 3) (rNil))))
noncomputable def f__law_rooms_in_4b (mr : Fn) : BV.Env → Out (Fl × BV.Env) :=
 (f__law_rooms_in_4b_s0 mr)
noncomputable def f__law_rooms_in_s4 (mr : Fn) : BV.Env → Out (Fl × BV.Env) :=
 sFor 1 (iSeq 1 (fVar 1)) (.name 3) ((f__law_rooms_in_4b mr))
noncomputable def f__law_rooms_in_s5 (mr : Fn) : BV.Env → Out (Fl × BV.Env) :=
 sRet 1 (fVar 2)
noncomputable def f__law_rooms_in_5 (mr : Fn) : BV.Env → Out (Fl × BV.Env) :=
 (f__law_rooms_in_s5 mr)
noncomputable def f__law_rooms_in_4 (mr : Fn) : BV.Env → Out (Fl × BV.Env) :=
 sSeq (f__law_rooms_in_s4 mr) (f__law_rooms_in_5 mr)
noncomputable def f__law_rooms_in_3 (mr : Fn) : BV.Env → Out (Fl × BV.Env) :=
 sSeq (f__law_rooms_in_s3 mr) (f__law_rooms_in_4 mr)
noncomputable def f__law_rooms_in_2 (mr : Fn) : BV.Env → Out (Fl × BV.Env) :=
 sSeq (f__law_rooms_in_s2 mr) (f__law_rooms_in_3 mr)
noncomputable def f__law_rooms_in_1 (mr : Fn) : BV.Env → Out (Fl × BV.Env) :=
 sSeq (f__law_rooms_in_s1 mr) (f__law_rooms_in_2 mr)
noncomputable def f__law_rooms_in (mr : Fn) : BV.Env → Out (Fl × BV.Env) :=
 sSeq (f__law_rooms_in_s0 mr) (f__law_rooms_in_1 mr)
noncomputable def mf__law_rooms_in : Nat → Fn
  | 0 => fun _ => .bad
  | n + 1 => runF 1 4 (f__law_rooms_in (mf__law_rooms_in n))
noncomputable def m__law_rooms_in : Fn := mf__law_rooms_in 8
noncomputable def f__law_all_rooms_s0 : BV.Env → Out (Fl × BV.Env) :=
 sSet 1 1 (fLst (aNil))
noncomputable def f__law_all_rooms_1b_s0 : BV.Env → Out (Fl × BV.Env) :=
 sDrop (gOwn mExt 1 (fCall m__law_rooms_in [] (rDat (fVar 3) (rNil))))
noncomputable def f__law_all_rooms_1b : BV.Env → Out (Fl × BV.Env) :=
 f__law_all_rooms_1b_s0
noncomputable def f__law_all_rooms_s1 : BV.Env → Out (Fl × BV.Env) :=
 sFor 1 (iSeq 1 (fVar 0)) (.tup [2, 3]) (f__law_all_rooms_1b)
noncomputable def f__law_all_rooms_s2 : BV.Env → Out (Fl × BV.Env) :=
 sRet 1 (un gSortSet (fVar 1))
noncomputable def f__law_all_rooms_2 : BV.Env → Out (Fl × BV.Env) :=
 f__law_all_rooms_s2
noncomputable def f__law_all_rooms_1 : BV.Env → Out (Fl × BV.Env) :=
 sSeq f__law_all_rooms_s1 f__law_all_rooms_2
noncomputable def f__law_all_rooms : BV.Env → Out (Fl × BV.Env) :=
 sSeq f__law_all_rooms_s0 f__law_all_rooms_1
noncomputable def m__law_all_rooms : Fn := runF 1 4 f__law_all_rooms
noncomputable def f_law_0b_s0 : BV.Env → Out (Fl × BV.Env) :=
 sSet 1 2 (fCall m__law_pool [] (rDat (fVar 0) (rDat (fVar 1) (rNil))))
noncomputable def f_law_0b_s1 : BV.Env → Out (Fl × BV.Env) :=
 sSet 1 3 (fz (fCall m__law_picked [] (rOwn 2 (rDat (fLRg1 (fun ds => .new (.lst ds)) (fC (.int 100))) (rDat (bin gAdd (fC (.int 1)) (fCall m__law_take [] (rOwn 2 (rDat (fC (.int 9)) (rNil))))) (rNil))))))
noncomputable def f_law_0b_2b_s0 : BV.Env → Out (Fl × BV.Env) :=
 sSet 1 5 (un gReprE (fVar 4))
noncomputable def f_law_0b_2b_s1 : BV.Env → Out (Fl × BV.Env) :=
 sSet 1 6 (fz (fCall m_reach [] (rDat (fVar 4) (rNil))))
noncomputable def f_law_0b_2b_s2 : BV.Env → Out (Fl × BV.Env) :=
 sIf (tOr (tOf (un (gIsi PyData.isBool) (fVar 6))) (tOf (bin gNe (fVar 6) (bin gIxD (fCall m__law_reaches [] (rDat (fVar 4) (rNil))) (bin gIx (bin gIx (fVar 4) (fC (.int 0))) (fC (.int 0))))))) (sRet 1 (fC (.bool false))) (sNil)
noncomputable def f_law_0b_2b_3b_s0 : BV.Env → Out (Fl × BV.Env) :=
 sSet 1 8 (fCall m_rooms_of [] (rDat (fVar 4) (rNil)))
noncomputable def f_law_0b_2b_3b_s1 : BV.Env → Out (Fl × BV.Env) :=
 sIf (tOr (tNot (tOf (un (gIsi PyData.isList) (fVar 8)))) (tOr (tOf (bin gNe (fVar 8) (fCall m__law_all_rooms [] (rDat (fVar 4) (rNil))))) (tOf (bin gNe (un gReprE (fVar 4)) (fVar 5))))) (sRet 1 (fC (.bool false))) (sNil)
noncomputable def f_law_0b_2b_3b_s2 : BV.Env → Out (Fl × BV.Env) :=
 sDrop (gOwn mApp 8 (un gNeg (fC (.int 1))))
noncomputable def f_law_0b_2b_3b_2 : BV.Env → Out (Fl × BV.Env) :=
 f_law_0b_2b_3b_s2
noncomputable def f_law_0b_2b_3b_1 : BV.Env → Out (Fl × BV.Env) :=
 sSeq f_law_0b_2b_3b_s1 f_law_0b_2b_3b_2
noncomputable def f_law_0b_2b_3b : BV.Env → Out (Fl × BV.Env) :=
 sSeq f_law_0b_2b_3b_s0 f_law_0b_2b_3b_1
noncomputable def f_law_0b_2b_s3 : BV.Env → Out (Fl × BV.Env) :=
 sFor 1 (iR1 (fC (.int 2))) (.name 7) (f_law_0b_2b_3b)
noncomputable def f_law_0b_2b_s4 : BV.Env → Out (Fl × BV.Env) :=
 sIf (tOf (bin gNe (fCall m_reach [] (rDat (fLst (aCons (bin gIx (fVar 4) (un gNeg (fC (.int 1)))) (aNil))) (rNil))) (fCall m__law_reach [] (rDat (bin gIx (bin gIx (fVar 4) (un gNeg (fC (.int 1)))) (fC (.int 1))) (rDat (fDic0) (rNil)))))) (sRet 1 (fC (.bool false))) (sNil)
noncomputable def f_law_0b_2b_4 : BV.Env → Out (Fl × BV.Env) :=
 f_law_0b_2b_s4
noncomputable def f_law_0b_2b_3 : BV.Env → Out (Fl × BV.Env) :=
 sSeq f_law_0b_2b_s3 f_law_0b_2b_4
noncomputable def f_law_0b_2b_2 : BV.Env → Out (Fl × BV.Env) :=
 sSeq f_law_0b_2b_s2 f_law_0b_2b_3
noncomputable def f_law_0b_2b_1 : BV.Env → Out (Fl × BV.Env) :=
 sSeq f_law_0b_2b_s1 f_law_0b_2b_2
noncomputable def f_law_0b_2b : BV.Env → Out (Fl × BV.Env) :=
 sSeq f_law_0b_2b_s0 f_law_0b_2b_1
noncomputable def f_law_0b_s2 : BV.Env → Out (Fl × BV.Env) :=
 sFor 1 (iSeq 1 (fLst (aCons (fCall m__law_program [] (rOwn 2 (rDat (fC (.int 6)) (rDat (bin gAdd (fC (.int 1)) (fCall m__law_take [] (rOwn 2 (rDat (fC (.int 5)) (rNil))))) (rDat (fVar 3) (rNil)))))) (aCons (fCall m__law_deep [] (rOwn 2 (rNil))) (aNil))))) (.name 4) (f_law_0b_2b)
noncomputable def f_law_0b_2 : BV.Env → Out (Fl × BV.Env) :=
 f_law_0b_s2
noncomputable def f_law_0b_1 : BV.Env → Out (Fl × BV.Env) :=
 sSeq f_law_0b_s1 f_law_0b_2
noncomputable def f_law_0b : BV.Env → Out (Fl × BV.Env) :=
 sSeq f_law_0b_s0 f_law_0b_1
noncomputable def f_law_s0 : BV.Env → Out (Fl × BV.Env) :=
 sFor 1 (iR1 (bin gMax2 (fC (.int 1)) (bin gMin2 (un gLen (fVar 0)) (fC (.int 8))))) (.name 1) (f_law_0b)
noncomputable def f_law_s1 : BV.Env → Out (Fl × BV.Env) :=
 sRet 1 (fC (.bool true))
noncomputable def f_law_1 : BV.Env → Out (Fl × BV.Env) :=
 f_law_s1
noncomputable def f_law : BV.Env → Out (Fl × BV.Env) :=
 sSeq f_law_s0 f_law_1
noncomputable def m_law : Fn := runF 1 9 f_law
structure Facts (w : World) (K : PySem.W.Frag) (mg : Str → Option Value) : Prop where
  d__law_pool : DefAt K mg "_law_pool" st__law_pool ps__law_pool
  d__law_take : DefAt K mg "_law_take" st__law_take ps__law_take
  d__law_picked : DefAt K mg "_law_picked" st__law_picked ps__law_picked
  d__law_names : DefAt K mg "_law_names" st__law_names ps__law_names
  d__law_term : DefAt K mg "_law_term" st__law_term ps__law_term
  d__law_program : DefAt K mg "_law_program" st__law_program ps__law_program
  d__law_deep : DefAt K mg "_law_deep" st__law_deep ps__law_deep
  d_parts_of : DefAt K mg "parts_of" st_parts_of ps_parts_of
  d_term_reach : DefAt K mg "term_reach" st_term_reach ps_term_reach
  d_reaches_of : DefAt K mg "reaches_of" st_reaches_of ps_reaches_of
  d_reach : DefAt K mg "reach" st_reach ps_reach
  d_rooms_in : DefAt K mg "rooms_in" st_rooms_in ps_rooms_in
  d_rooms_of : DefAt K mg "rooms_of" st_rooms_of ps_rooms_of
  d__law_reach : DefAt K mg "_law_reach" st__law_reach ps__law_reach
  d__law_reaches : DefAt K mg "_law_reaches" st__law_reaches ps__law_reaches
  d__law_rooms_in : DefAt K mg "_law_rooms_in" st__law_rooms_in ps__law_rooms_in
  d__law_all_rooms : DefAt K mg "_law_all_rooms" st__law_all_rooms ps__law_all_rooms
  d_law : DefAt K mg "law" st_law ps_law
  fr_abs : mg "abs" = none
  fr_int : mg "int" = none
  fr_len : mg "len" = none
  fr_sum : mg "sum" = none
  fr_list : mg "list" = none
  fr_min : mg "min" = none
  fr_range : mg "range" = none
  fr_sorted : mg "sorted" = none
  fr_tuple : mg "tuple" = none
  fr_enumerate : mg "enumerate" = none
  fr_set : mg "set" = none
  fr_bool : mg "bool" = none
  fr_isinstance : mg "isinstance" = none
  fr_max : mg "max" = none
  fr_repr : mg "repr" = none
section
variable {P : Program} {w : World} {K : PySem.W.Frag} {mg : Str → Option Value} {base : Heap} {cm : CMap}
theorem sc__law_pool : FnScope N__law_pool ps__law_pool (defScope st__law_pool) := ⟨rfl, rfl, rfl, by decide +kernel, rfl, by decide +kernel, by decide +kernel⟩
theorem nd__law_pool : N__law_pool.Nodup := by decide +kernel
theorem ok__law_pool {f : Addr} {fd : FuncData} (c : Facts w K mg) (Fd : L2.Fun K "_law_pool" "_law_pool" st__law_pool f fd) : FnG P w K mg base (CX P w) 2 f fd ps__law_pool (spB 2 K cm m__law_pool) := by
  refine fn_data (fs := f__law_pool) (N := N__law_pool) (ps := ps__law_pool) Fd sc__law_pool (by decide) fun cdv A outer s H E hG hr => ?_
  have hu := hu150 hr
  have hp := passes_of (X := cxOf (CX P w) P w K mg base N__law_pool "_law_pool" (defScope st__law_pool) f cdv A outer s H E) rfl
  have hx := fun σ => passAt (X := cxOf (CX P w) P w K mg base N__law_pool "_law_pool" (defScope st__law_pool) f cdv A outer s H E) (takes_of rfl rfl rfl rfl) σ
  exact (svs_cons (sv_set 2 nd__law_pool (ev_bin os_add (ev_bin os_mul ev_int (ev_callB (cd_sum rfl) c.fr_sum (ev_sl (ev_var 0) eo_none (eo_some ev_int)))) (ev_var 1)))
 (svs_cons (sv_if (et_cmp (os_lt hu) (ev_var 1) (ev_callB cd_len c.fr_len (ev_var 0))) (svs_one (sv_set 2 nd__law_pool (ev_ix (ev_var 0) (ev_var 1)))) svs_nil)
 (svs_cons (sv_set 3 nd__law_pool (ev_callB cd_abs c.fr_abs (ev_var 2)))
 (svs_cons (sv_set 4 nd__law_pool (ev_bin os_mod (ev_bin os_mul (ev_bin os_add (ev_bin os_add (ev_bin os_add (ev_bin os_mod (ev_var 3) ev_int) (ev_bin os_mul (ev_bin os_mul ev_int (ev_var 1)) (ev_var 1))) (ev_bin os_mul ev_int (ev_var 1))) ev_int) ev_int) ev_int))
 (svs_one (sv_ret (ev_lst (ea_cons (ev_bin os_mul (ev_var 3) (ev_callT cd_int c.fr_int (ev_cmp (os_ge hu) (ev_var 3) (ev_bin os_pow ev_int ev_int)))) (ea_cons (ev_bin os_mod (ev_bin os_mul (ev_var 4) (ev_var 4)) ev_int) ea_nil)))))))))
theorem sc__law_take : FnScope N__law_take ps__law_take (defScope st__law_take) := ⟨rfl, rfl, rfl, by decide +kernel, rfl, by decide +kernel, by decide +kernel⟩
theorem nd__law_take : N__law_take.Nodup := by decide +kernel
theorem ok__law_take {f : Addr} {fd : FuncData} (c : Facts w K mg) (Fd : L2.Fun K "_law_take" "_law_take" st__law_take f fd) : FnG P w K mg base (CX P w) 2 f fd ps__law_take (spB 2 K cm m__law_take) := by
  refine fn_data (fs := f__law_take) (N := N__law_take) (ps := ps__law_take) Fd sc__law_take (by decide) fun cdv A outer s H E hG hr => ?_
  have hu := hu150 hr
  have hp := passes_of (X := cxOf (CX P w) P w K mg base N__law_take "_law_take" (defScope st__law_take) f cdv A outer s H E) rfl
  have hx := fun σ => passAt (X := cxOf (CX P w) P w K mg base N__law_take "_law_take" (defScope st__law_take) f cdv A outer s H E) (takes_of rfl rfl rfl rfl) σ
  exact (svs_cons (sv_if (et_cmp (os_gt hu) (ev_ix (ev_var 0) ev_int) ev_int) (svs_cons (sv_set 2 nd__law_take (ev_bin os_mod (ev_ix (ev_var 0) ev_int) (ev_var 1)))
 (svs_cons (sv_setIx 0 (ev_bin os_fdiv (ev_ix (ev_var 0) ev_int) (ev_var 1)) ev_int)
 (svs_one (sv_ret (ev_var 2))))) svs_nil)
 (svs_cons (sv_setIx 0 (ev_bin os_mod (ev_bin os_add (ev_bin os_mul (ev_ix (ev_var 0) ev_int) ev_int) ev_int) ev_int) ev_int)
 (svs_one (sv_ret (ev_bin os_mod (ev_bin os_fdiv (ev_bin os_mod (ev_bin os_mul (ev_ix (ev_var 0) ev_int) (ev_ix (ev_var 0) ev_int)) ev_int) ev_int) (ev_var 1))))))
theorem sc__law_picked : FnScope N__law_picked ps__law_picked (defScope st__law_picked) := ⟨rfl, rfl, rfl, by decide +kernel, rfl, by decide +kernel, by decide +kernel⟩
theorem nd__law_picked : N__law_picked.Nodup := by decide +kernel
theorem ok__law_picked {f : Addr} {fd : FuncData} (c : Facts w K mg) (Fd : L2.Fun K "_law_picked" "_law_picked" st__law_picked f fd) : FnG P w K mg base (CX P w) 3 f fd ps__law_picked (spB 3 K cm m__law_picked) := by
  obtain ⟨a__law_take, fd__law_take, F__law_take, g__law_take, b__law_take, n__law_take⟩ := c.d__law_take
  have G__law_take : FnG P w K mg base (CX P w) 2 a__law_take fd__law_take ps__law_take (spB 2 K cm m__law_take) := ok__law_take c F__law_take
  refine fn_data (fs := f__law_picked) (N := N__law_picked) (ps := ps__law_picked) Fd sc__law_picked (by decide) fun cdv A outer s H E hG hr => ?_
  have hu := hu150 hr
  have hp := passes_of (X := cxOf (CX P w) P w K mg base N__law_picked "_law_picked" (defScope st__law_picked) f cdv A outer s H E) rfl
  have hx := fun σ => passAt (X := cxOf (CX P w) P w K mg base N__law_picked "_law_picked" (defScope st__law_picked) f cdv A outer s H E) (takes_of rfl rfl rfl rfl) σ
  exact (svs_cons (sv_set 3 nd__law_picked (ev_callT cd_list c.fr_list (ev_var 1)))
 (svs_one (sv_ret (ev_callB (cd_sorted hu) c.fr_sorted (ev_lc (own := [("_law_k", 4)]) rfl nd__law_picked (pv_r1 c.fr_range (ev_callB2 (cd_min2 rfl) c.fr_min (ev_var 2) (ev_callB cd_len c.fr_len (ev_var 3)))) (blk_of N__law_picked (defScope st__law_picked).names (by decide +kernel)) (fun _ _ _ _ _ => (pg_name (i := 4) nd__law_picked rfl (by first | exact Or.inl rfl | exact Or.inr rfl))) pg_n (by decide) (fun _ _ _ _ _ => ets_nil) (fun _ _ _ _ _ => (ev_own 3 mk_pop F.plainAttrs_list F.slot_list_pop F.type_list_pop (ev_call G__law_take g__law_take F__law_take.kp b__law_take .nil (fun _ => .nil) hG (hr.mono (by decide)) (fun σ => hxN σ) rfl (er_own 0 (er_dat (ev_callB cd_len c.fr_len (ev_var 3)) er_nil)) (rlen_own (rlen_dat rlen_nil))))))))))
theorem sc__law_names : FnScope N__law_names ps__law_names (defScope st__law_names) := ⟨rfl, rfl, rfl, by decide +kernel, rfl, by decide +kernel, by decide +kernel⟩
theorem nd__law_names : N__law_names.Nodup := by decide +kernel
theorem ok__law_names {f : Addr} {fd : FuncData} (c : Facts w K mg) (Fd : L2.Fun K "_law_names" "_law_names" st__law_names f fd) : FnG P w K mg base (CX P w) 3 f fd ps__law_names (spB 2 K cm m__law_names) := by
  obtain ⟨a__law_take, fd__law_take, F__law_take, g__law_take, b__law_take, n__law_take⟩ := c.d__law_take
  have G__law_take : FnG P w K mg base (CX P w) 2 a__law_take fd__law_take ps__law_take (spB 2 K cm m__law_take) := ok__law_take c F__law_take
  refine fn_data (fs := f__law_names) (N := N__law_names) (ps := ps__law_names) Fd sc__law_names (by decide) fun cdv A outer s H E hG hr => ?_
  have hu := hu150 hr
  have hp := passes_of (X := cxOf (CX P w) P w K mg base N__law_names "_law_names" (defScope st__law_names) f cdv A outer s H E) rfl
  have hx := fun σ => passAt (X := cxOf (CX P w) P w K mg base N__law_names "_law_names" (defScope st__law_names) f cdv A outer s H E) (takes_of rfl rfl rfl rfl) σ
  exact (svs_cons (sv_set 2 nd__law_names ev_str)
 (svs_cons (sv_set 3 nd__law_names (ev_meth mt_joinG F.plainAttrs_str F.slot_str_join F.type_str_join ev_str (ev_lc (own := [("_law_k", 5)]) rfl nd__law_names (pv_r1 c.fr_range (ev_call G__law_take g__law_take F__law_take.kp b__law_take .nil (fun _ => .nil) hG (hr.mono (by decide)) hx rfl (er_own 0 (er_dat ev_int er_nil)) (rlen_own (rlen_dat rlen_nil)))) (blk_of N__law_names (defScope st__law_names).names (by decide +kernel)) (fun _ _ _ _ _ => (pg_name (i := 5) nd__law_names rfl (by first | exact Or.inl rfl | exact Or.inr rfl))) pg_n (by decide) (fun _ _ _ _ _ => ets_nil) (fun _ _ _ _ _ => (ev_ix (ev_var 2) (ev_call G__law_take g__law_take F__law_take.kp b__law_take .nil (fun _ => .nil) hG (hr.mono (by decide)) (fun σ => hxN σ) rfl (er_own 0 (er_dat ev_int er_nil)) (rlen_own (rlen_dat rlen_nil))))))))
 (svs_cons (sv_setF 4 nd__law_names (ev_call G__law_take g__law_take F__law_take.kp b__law_take .nil (fun _ => .nil) hG (hr.mono (by decide)) hx rfl (er_own 0 (er_dat ev_int er_nil)) (rlen_own (rlen_dat rlen_nil))))
 (svs_one (sv_ret (ev_lc (own := [("_law_k", 5)]) rfl nd__law_names (pv_r1 c.fr_range (ev_var 1)) (blk_of N__law_names (defScope st__law_names).names (by decide +kernel)) (fun _ _ _ _ _ => (pg_name (i := 5) nd__law_names rfl (by first | exact Or.inl rfl | exact Or.inr rfl))) pg_n (by decide) (fun _ _ _ _ _ => ets_nil) (fun _ _ _ _ _ => (ev_bin os_add (ev_var 3) (ev_ix (ev_var 2) (ev_bin os_mod (ev_bin os_add (ev_var 4) (ev_var 5)) ev_int))))))))))
theorem sc__law_term : FnScope N__law_term ps__law_term (defScope st__law_term) := ⟨rfl, rfl, rfl, by decide +kernel, rfl, by decide +kernel, by decide +kernel⟩
theorem nd__law_term : N__law_term.Nodup := by decide +kernel
theorem oks__law_term (c : Facts w K mg) (n : Nat) (ih : ∀ {f : Addr} {fd : FuncData} (Fd : L2.Fun K "_law_term" "_law_term" st__law_term f fd), FnG P w K mg base (CX P w) (4 + n) f fd ps__law_term (spB 4 K cm (mf__law_term n))) {f : Addr} {fd : FuncData} (Fd : L2.Fun K "_law_term" "_law_term" st__law_term f fd) : FnG P w K mg base (CX P w) (4 + (n + 1)) f fd ps__law_term (spB 4 K cm (mf__law_term (n + 1))) := by
  obtain ⟨a__law_term, fd__law_term, F__law_term, g__law_term, b__law_term, n__law_term⟩ := c.d__law_term
  have G__law_term : FnG P w K mg base (CX P w) (4 + n) a__law_term fd__law_term ps__law_term (spB 4 K cm (mf__law_term n)) := ih F__law_term
  obtain ⟨a__law_take, fd__law_take, F__law_take, g__law_take, b__law_take, n__law_take⟩ := c.d__law_take
  have G__law_take : FnG P w K mg base (CX P w) 2 a__law_take fd__law_take ps__law_take (spB 2 K cm m__law_take) := ok__law_take c F__law_take
  obtain ⟨a__law_picked, fd__law_picked, F__law_picked, g__law_picked, b__law_picked, n__law_picked⟩ := c.d__law_picked
  have G__law_picked : FnG P w K mg base (CX P w) 3 a__law_picked fd__law_picked ps__law_picked (spB 3 K cm m__law_picked) := ok__law_picked c F__law_picked
  refine fn_data (k := 4 + n) Fd sc__law_term (by decide) fun cdv A outer s H E hG hr => ?_
  have hu := hu150 hr
  have hp := passes_of (X := cxOf (CX P w) P w K mg base N__law_term "_law_term" (defScope st__law_term) f cdv A outer s H E) rfl
  have hx := fun σ => passAt (X := cxOf (CX P w) P w K mg base N__law_term "_law_term" (defScope st__law_term) f cdv A outer s H E) (takes_of rfl rfl rfl rfl) σ
  exact (svs_cons (sv_setF 4 nd__law_term (ev_call G__law_take g__law_take F__law_take.kp b__law_take .nil (fun _ => .nil) hG (hr.mono (by omega)) hx rfl (er_own 0 (er_dat ev_int er_nil)) (rlen_own (rlen_dat rlen_nil))))
 (svs_cons (sv_if (et_cmp (os_eq hu) (ev_var 4) ev_int) (svs_one (sv_ret (ev_tup (ea_cons ev_str ea_nil)))) svs_nil)
 (svs_cons (sv_if (et_w (ew_and (et_cmp (os_eq hu) (ev_var 4) ev_int) (ew_and1 (et_cmp (os_ne hu) (ev_var 2) (ev_lst ea_nil))))) (svs_one (sv_ret (ev_tup (ea_cons ev_str (ea_cons (ev_ix (ev_var 2) (ev_call G__law_take g__law_take F__law_take.kp b__law_take .nil (fun _ => .nil) hG (hr.mono (by omega)) hx rfl (er_own 0 (er_dat (ev_callB cd_len c.fr_len (ev_var 2)) er_nil)) (rlen_own (rlen_dat rlen_nil)))) ea_nil))))) svs_nil)
 (svs_cons (sv_if (et_w (ew_and (et_cmp (os_gt hu) (ev_var 1) ev_int) (ew_and1 (et_cmp (os_eq hu) (ev_var 4) ev_int)))) (svs_one (sv_ret (ev_tup (ea_cons ev_str (ea_cons (ev_callT cd_tuple c.fr_tuple (ev_lc (own := [("_law_k", 7)]) rfl nd__law_term (pv_r1 c.fr_range (ev_bin os_add ev_int (ev_call G__law_take g__law_take F__law_take.kp b__law_take .nil (fun _ => .nil) hG (hr.mono (by omega)) hx rfl (er_own 0 (er_dat ev_int er_nil)) (rlen_own (rlen_dat rlen_nil))))) (blk_of N__law_term (defScope st__law_term).names (by decide +kernel)) (fun _ _ _ _ _ => (pg_name (i := 7) nd__law_term rfl (by first | exact Or.inl rfl | exact Or.inr rfl))) pg_n (by decide) (fun _ _ _ _ _ => ets_nil) (fun _ _ _ _ _ => (ev_call G__law_term g__law_term F__law_term.kp b__law_term .nil (fun _ => .nil) hG (hr.mono (by omega)) (fun σ => hxN σ) rfl (er_own 0 (er_dat (ev_bin os_sub (ev_var 1) ev_int) (er_dat (ev_var 2) (er_dat (ev_var 3) er_nil)))) (rlen_own (rlen_dat (rlen_dat (rlen_dat rlen_nil)))))))) ea_nil))))) svs_nil)
 (svs_cons (sv_if (et_w (ew_and (et_cmp (os_gt hu) (ev_var 1) ev_int) (ew_and1 (et_cmp (os_eq hu) (ev_var 4) ev_int)))) (svs_one (sv_ret (ev_tup (ea_cons ev_str (ea_cons (ev_callT cd_tuple c.fr_tuple (ev_lc (own := [("_law_k", 7)]) rfl nd__law_term (pv_r1 c.fr_range (ev_bin os_add ev_int (ev_call G__law_take g__law_take F__law_take.kp b__law_take .nil (fun _ => .nil) hG (hr.mono (by omega)) hx rfl (er_own 0 (er_dat ev_int er_nil)) (rlen_own (rlen_dat rlen_nil))))) (blk_of N__law_term (defScope st__law_term).names (by decide +kernel)) (fun _ _ _ _ _ => (pg_name (i := 7) nd__law_term rfl (by first | exact Or.inl rfl | exact Or.inr rfl))) pg_n (by decide) (fun _ _ _ _ _ => ets_nil) (fun _ _ _ _ _ => (ev_call G__law_term g__law_term F__law_term.kp b__law_term .nil (fun _ => .nil) hG (hr.mono (by omega)) (fun σ => hxN σ) rfl (er_own 0 (er_dat (ev_bin os_sub (ev_var 1) ev_int) (er_dat (ev_var 2) (er_dat (ev_var 3) er_nil)))) (rlen_own (rlen_dat (rlen_dat (rlen_dat rlen_nil)))))))) ea_nil))))) svs_nil)
 (svs_cons (sv_if (et_w (ew_and (et_cmp (os_gt hu) (ev_var 1) ev_int) (ew_and1 (et_cmp (os_gt hu) (ev_var 4) ev_int)))) (svs_cons (sv_setF 5 nd__law_term (ev_call G__law_take g__law_take F__law_take.kp b__law_take .nil (fun _ => .nil) hG (hr.mono (by omega)) hx rfl (er_own 0 (er_dat ev_int er_nil)) (rlen_own (rlen_dat rlen_nil))))
 (svs_cons (sv_set 6 nd__law_term (ev_ix (ev_lst (ea_cons ev_none (ea_cons (ev_var 5) (ea_cons (ev_bin os_add (ev_var 5) ev_int) (ea_cons (ev_bin os_add (ev_var 5) (ev_call G__law_take g__law_take F__law_take.kp b__law_take .nil (fun _ => .nil) hG (hr.mono (by omega)) hx rfl (er_own 0 (er_dat ev_int er_nil)) (rlen_own (rlen_dat rlen_nil)))) ea_nil))))) (ev_call G__law_take g__law_take F__law_take.kp b__law_take .nil (fun _ => .nil) hG (hr.mono (by omega)) hx rfl (er_own 0 (er_dat ev_int er_nil)) (rlen_own (rlen_dat rlen_nil)))))
 (svs_one (sv_ret (ev_tup (ea_cons ev_str (ea_cons (ev_var 5) (ea_cons (ev_var 6) (ea_cons (ev_call G__law_term g__law_term F__law_term.kp b__law_term .nil (fun _ => .nil) hG (hr.mono (by omega)) hx rfl (er_own 0 (er_dat (ev_bin os_sub (ev_var 1) ev_int) (er_dat (ev_var 2) (er_dat (ev_var 3) er_nil)))) (rlen_own (rlen_dat (rlen_dat (rlen_dat rlen_nil))))) ea_nil))))))))) svs_nil)
 (svs_one (sv_ret (ev_tup (ea_cons ev_str (ea_cons (ev_callT cd_tuple c.fr_tuple (ev_call G__law_picked g__law_picked F__law_picked.kp b__law_picked .nil (fun _ => .nil) hG (hr.mono (by omega)) hx rfl (er_own 0 (er_dat (ev_var 3) (er_dat (ev_ix (ev_lst (ea_cons ev_int (ea_cons ev_int (ea_cons ev_int (ea_cons ev_int ea_nil))))) (ev_call G__law_take g__law_take F__law_take.kp b__law_take .nil (fun _ => .nil) hG (hr.mono (by omega)) hx rfl (er_own 0 (er_dat ev_int er_nil)) (rlen_own (rlen_dat rlen_nil)))) er_nil))) (rlen_own (rlen_dat (rlen_dat rlen_nil))))) ea_nil)))))))))))
theorem okf__law_term (c : Facts w K mg) : ∀ (n : Nat) {f : Addr} {fd : FuncData} (Fd : L2.Fun K "_law_term" "_law_term" st__law_term f fd), FnG P w K mg base (CX P w) (4 + n) f fd ps__law_term (spB 4 K cm (mf__law_term n))
  | 0, _, _, _ => fng_bad
  | n + 1, _, _, Fd => oks__law_term c n (fun {_ _} Fd => okf__law_term c n Fd) Fd
theorem ok__law_term {f : Addr} {fd : FuncData} (c : Facts w K mg) (Fd : L2.Fun K "_law_term" "_law_term" st__law_term f fd) : FnG P w K mg base (CX P w) 12 f fd ps__law_term (spB 4 K cm m__law_term) := okf__law_term c 8 Fd
theorem sc__law_program : FnScope N__law_program ps__law_program (defScope st__law_program) := ⟨rfl, rfl, rfl, by decide +kernel, rfl, by decide +kernel, by decide +kernel⟩
theorem nd__law_program : N__law_program.Nodup := by decide +kernel
theorem ok__law_program {f : Addr} {fd : FuncData} (c : Facts w K mg) (Fd : L2.Fun K "_law_program" "_law_program" st__law_program f fd) : FnG P w K mg base (CX P w) 13 f fd ps__law_program (spB 4 K cm m__law_program) := by
  obtain ⟨a__law_names, fd__law_names, F__law_names, g__law_names, b__law_names, n__law_names⟩ := c.d__law_names
  have G__law_names : FnG P w K mg base (CX P w) 3 a__law_names fd__law_names ps__law_names (spB 2 K cm m__law_names) := ok__law_names c F__law_names
  obtain ⟨a__law_take, fd__law_take, F__law_take, g__law_take, b__law_take, n__law_take⟩ := c.d__law_take
  have G__law_take : FnG P w K mg base (CX P w) 2 a__law_take fd__law_take ps__law_take (spB 2 K cm m__law_take) := ok__law_take c F__law_take
  obtain ⟨a__law_term, fd__law_term, F__law_term, g__law_term, b__law_term, n__law_term⟩ := c.d__law_term
  have G__law_term : FnG P w K mg base (CX P w) 12 a__law_term fd__law_term ps__law_term (spB 4 K cm m__law_term) := ok__law_term c F__law_term
  refine fn_data (fs := f__law_program) (N := N__law_program) (ps := ps__law_program) Fd sc__law_program (by decide) fun cdv A outer s H E hG hr => ?_
  have hu := hu150 hr
  have hp := passes_of (X := cxOf (CX P w) P w K mg base N__law_program "_law_program" (defScope st__law_program) f cdv A outer s H E) rfl
  have hx := fun σ => passAt (X := cxOf (CX P w) P w K mg base N__law_program "_law_program" (defScope st__law_program) f cdv A outer s H E) (takes_of rfl rfl rfl rfl) σ
  exact (svs_cons (sv_setF 4 nd__law_program (ev_call G__law_names g__law_names F__law_names.kp b__law_names .nil (fun _ => .nil) hG (hr.mono (by decide)) hx rfl (er_own 0 (er_dat (ev_bin os_add ev_int (ev_call G__law_take g__law_take F__law_take.kp b__law_take .nil (fun _ => .nil) hG (hr.mono (by decide)) hx rfl (er_own 0 (er_dat (ev_var 1) er_nil)) (rlen_own (rlen_dat rlen_nil)))) er_nil)) (rlen_own (rlen_dat rlen_nil))))
 (svs_one (sv_ret (ev_lc (own := [("_law_k", 5), ("_law_name", 6)]) rfl nd__law_program (pv_enum c.fr_enumerate (ev_var 4)) (blk_of N__law_program (defScope st__law_program).names (by decide +kernel)) (fun _ _ _ _ _ => (pg_tup rfl (pgs_cons (pg_name (i := 5) nd__law_program rfl (by first | exact Or.inl rfl | exact Or.inr rfl)) (pgs_cons (pg_name (i := 6) nd__law_program rfl (by first | exact Or.inl rfl | exact Or.inr rfl)) pgs_nil)))) (pg_t rfl) (by decide) (fun _ _ _ _ _ => ets_nil) (fun _ _ _ _ _ => (ev_tup (ea_cons (ev_var 6) (ea_cons (ev_call G__law_term g__law_term F__law_term.kp b__law_term .nil (fun _ => .nil) hG (hr.mono (by decide)) (fun σ => hxN σ) rfl (er_own 0 (er_dat (ev_var 2) (er_dat (ev_sl (ev_var 4) (eo_some (ev_bin os_add (ev_var 5) ev_int)) eo_none) (er_dat (ev_var 3) er_nil)))) (rlen_own (rlen_dat (rlen_dat (rlen_dat rlen_nil))))) ea_nil))))))))
theorem sc__law_deep : FnScope N__law_deep ps__law_deep (defScope st__law_deep) := ⟨rfl, rfl, rfl, by decide +kernel, rfl, by decide +kernel, by decide +kernel⟩
theorem nd__law_deep : N__law_deep.Nodup := by decide +kernel
theorem ok__law_deep {f : Addr} {fd : FuncData} (c : Facts w K mg) (Fd : L2.Fun K "_law_deep" "_law_deep" st__law_deep f fd) : FnG P w K mg base (CX P w) 4 f fd ps__law_deep (spB 1 K cm m__law_deep) := by
  obtain ⟨a__law_names, fd__law_names, F__law_names, g__law_names, b__law_names, n__law_names⟩ := c.d__law_names
  have G__law_names : FnG P w K mg base (CX P w) 3 a__law_names fd__law_names ps__law_names (spB 2 K cm m__law_names) := ok__law_names c F__law_names
  obtain ⟨a__law_take, fd__law_take, F__law_take, g__law_take, b__law_take, n__law_take⟩ := c.d__law_take
  have G__law_take : FnG P w K mg base (CX P w) 2 a__law_take fd__law_take ps__law_take (spB 2 K cm m__law_take) := ok__law_take c F__law_take
  refine fn_data (fs := f__law_deep) (N := N__law_deep) (ps := ps__law_deep) Fd sc__law_deep (by decide) fun cdv A outer s H E hG hr => ?_
  have hu := hu150 hr
  have hp := passes_of (X := cxOf (CX P w) P w K mg base N__law_deep "_law_deep" (defScope st__law_deep) f cdv A outer s H E) rfl
  have hx := fun σ => passAt (X := cxOf (CX P w) P w K mg base N__law_deep "_law_deep" (defScope st__law_deep) f cdv A outer s H E) (takes_of rfl rfl rfl rfl) σ
  exact (svs_cons (sv_setF 1 nd__law_deep (ev_call G__law_names g__law_names F__law_names.kp b__law_names .nil (fun _ => .nil) hG (hr.mono (by decide)) hx rfl (er_own 0 (er_dat ev_int er_nil)) (rlen_own (rlen_dat rlen_nil))))
 (svs_cons (sv_set 2 nd__law_deep (ev_lst ea_nil))
 (svs_cons (sv_for hp rfl (pv_enum c.fr_enumerate (ev_var 1)) (pg_tup rfl (pgs_cons (pg_name (i := 3) nd__law_deep rfl (by first | exact Or.inl rfl | exact Or.inr rfl)) (pgs_cons (pg_name (i := 4) nd__law_deep rfl (by first | exact Or.inl rfl | exact Or.inr rfl)) pgs_nil))) (pg_t rfl) (svs_cons (sv_set 5 nd__law_deep (ev_tup (ea_cons ev_str (ea_cons (ev_tup (ea_cons (ev_var 3) ea_nil)) ea_nil))))
 (svs_cons (sv_if (et_cmp (os_lt hu) (ev_var 3) ev_int) (svs_one (sv_set 5 nd__law_deep (ev_tup (ea_cons ev_str (ea_cons (ev_ix (ev_var 1) (ev_bin os_add (ev_var 3) ev_int)) ea_nil))))) svs_nil)
 (svs_one (sv_expr (ev_own 2 mk_append F.plainAttrs_list F.slot_list_append F.type_list_append (ev_tup (ea_cons (ev_var 4) (ea_cons (ev_tup (ea_cons ev_str (ea_cons (ev_call G__law_take g__law_take F__law_take.kp b__law_take .nil (fun _ => .nil) hG (hr.mono (by decide)) hx rfl (er_own 0 (er_dat ev_int er_nil)) (rlen_own (rlen_dat rlen_nil))) (ea_cons (ev_ix (ev_lst (ea_cons ev_int (ea_cons ev_none ea_nil))) (ev_call G__law_take g__law_take F__law_take.kp b__law_take .nil (fun _ => .nil) hG (hr.mono (by decide)) hx rfl (er_own 0 (er_dat ev_int er_nil)) (rlen_own (rlen_dat rlen_nil)))) (ea_cons (ev_tup (ea_cons ev_str (ea_cons (ev_tup (ea_cons (ev_var 5) (ea_cons (ev_var 5) ea_nil))) ea_nil))) ea_nil))))) ea_nil)))))))))
 (svs_one (sv_ret (ev_var 2))))))
theorem sc_parts_of : FnScope N_parts_of ps_parts_of (defScope st_parts_of) := ⟨rfl, rfl, rfl, by decide +kernel, rfl, by decide +kernel, by decide +kernel⟩
theorem nd_parts_of : N_parts_of.Nodup := by decide +kernel
theorem ok_parts_of {f : Addr} {fd : FuncData} (c : Facts w K mg) (Fd : L2.Fun K "parts_of" "parts_of" st_parts_of f fd) : FnG P w K mg base (CX P w) 2 f fd ps_parts_of (spB 1 K cm m_parts_of) := by
  refine fn_data (fs := f_parts_of) (N := N_parts_of) (ps := ps_parts_of) Fd sc_parts_of (by decide) fun cdv A outer s H E hG hr => ?_
  have hu := hu150 hr
  have hp := passes_of (X := cxOf (CX P w) P w K mg base N_parts_of "parts_of" (defScope st_parts_of) f cdv A outer s H E) rfl
  have hx := fun σ => passAt (X := cxOf (CX P w) P w K mg base N_parts_of "parts_of" (defScope st_parts_of) f cdv A outer s H E) (takes_of rfl rfl rfl rfl) σ
  exact (svs_cons (sv_if (et_cmp (os_eq hu) (ev_ix (ev_var 0) ev_int) ev_str) (svs_one (sv_ret (ev_tup (ea_cons (ev_ix (ev_var 0) ev_int) ea_nil)))) svs_nil)
 (svs_cons (sv_if (et_cmp (os_in hu) (ev_ix (ev_var 0) ev_int) (ev_tup (ea_cons ev_str (ea_cons ev_str ea_nil)))) (svs_one (sv_ret (ev_ix (ev_var 0) ev_int))) svs_nil)
 (svs_one (sv_ret (ev_tup ea_nil)))))
theorem sc_term_reach : FnScope N_term_reach ps_term_reach (defScope st_term_reach) := ⟨rfl, rfl, rfl, by decide +kernel, rfl, by decide +kernel, by decide +kernel⟩
theorem nd_term_reach : N_term_reach.Nodup := by decide +kernel
theorem oks_term_reach (c : Facts w K mg) (n : Nat) (ih : ∀ {f : Addr} {fd : FuncData} (Fd : L2.Fun K "term_reach" "term_reach" st_term_reach f fd), FnG P w K mg base (CX P w) (3 + n) f fd ps_term_reach (spB 2 K cm (mf_term_reach n))) {f : Addr} {fd : FuncData} (Fd : L2.Fun K "term_reach" "term_reach" st_term_reach f fd) : FnG P w K mg base (CX P w) (3 + (n + 1)) f fd ps_term_reach (spB 2 K cm (mf_term_reach (n + 1))) := by
  obtain ⟨a_term_reach, fd_term_reach, F_term_reach, g_term_reach, b_term_reach, n_term_reach⟩ := c.d_term_reach
  have G_term_reach : FnG P w K mg base (CX P w) (3 + n) a_term_reach fd_term_reach ps_term_reach (spB 2 K cm (mf_term_reach n)) := ih F_term_reach
  obtain ⟨a_parts_of, fd_parts_of, F_parts_of, g_parts_of, b_parts_of, n_parts_of⟩ := c.d_parts_of
  have G_parts_of : FnG P w K mg base (CX P w) 2 a_parts_of fd_parts_of ps_parts_of (spB 1 K cm m_parts_of) := ok_parts_of c F_parts_of
  refine fn_data (k := 3 + n) Fd sc_term_reach (by decide) fun cdv A outer s H E hG hr => ?_
  have hu := hu150 hr
  have hp := passes_of (X := cxOf (CX P w) P w K mg base N_term_reach "term_reach" (defScope st_term_reach) f cdv A outer s H E) rfl
  have hx := fun σ => passAt (X := cxOf (CX P w) P w K mg base N_term_reach "term_reach" (defScope st_term_reach) f cdv A outer s H E) (takes_of rfl rfl rfl rfl) σ
  exact (svs_cons (sv_if (et_cmp (os_eq hu) (ev_ix (ev_var 0) ev_int) ev_str) (svs_one (sv_ret (ev_ixD hu (ev_var 1) (ev_ix (ev_var 0) ev_int)))) svs_nil)
 (svs_cons (sv_if (et_cmp (os_in hu) (ev_ix (ev_var 0) ev_int) (ev_tup (ea_cons ev_str (ea_cons ev_str ea_nil)))) (svs_one (sv_ret ev_int)) svs_nil)
 (svs_cons (sv_set 2 nd_term_reach (ev_callB (cd_sum rfl) c.fr_sum (ev_lc (own := [("part", 3)]) rfl nd_term_reach (pv_seq (ev_call G_parts_of g_parts_of F_parts_of.kp b_parts_of .nil (fun _ => .nil) hG (hr.mono (by omega)) hx rfl (er_dat (ev_var 0) er_nil) (rlen_dat rlen_nil))) (blk_of N_term_reach (defScope st_term_reach).names (by decide +kernel)) (fun _ _ _ _ _ => (pg_name (i := 3) nd_term_reach rfl (by first | exact Or.inl rfl | exact Or.inr rfl))) pg_n (by decide) (fun _ _ _ _ _ => ets_nil) (fun _ _ _ _ _ => (ev_call G_term_reach g_term_reach F_term_reach.kp b_term_reach .nil (fun _ => .nil) hG (hr.mono (by omega)) (fun σ => hxN σ) rfl (er_dat (ev_var 3) (er_dat (ev_var 1) er_nil)) (rlen_dat (rlen_dat rlen_nil)))))))
 (svs_cons (sv_if (et_cmp (os_eq hu) (ev_ix (ev_var 0) ev_int) ev_str) (svs_one (sv_ret (ev_var 2))) svs_nil)
 (svs_cons (sv_if (et_cmp (os_eq hu) (ev_ix (ev_var 0) ev_int) ev_str) (svs_one (sv_ret (ev_bin os_add ev_int (ev_var 2)))) svs_nil)
 (svs_cons (sv_if (et_cmp os_is (ev_ix (ev_var 0) ev_int) ev_none) (svs_one (sv_ret (ev_bin os_add (ev_bin os_mul (ev_bin os_add (ev_ix (ev_var 0) ev_int) ev_int) (ev_var 2)) ev_int))) svs_nil)
 (svs_one (sv_ret (ev_bin os_sub (ev_bin os_add (ev_bin os_mul (ev_ix (ev_var 0) ev_int) (ev_var 2)) (ev_ix (ev_var 0) ev_int)) (ev_ix (ev_var 0) ev_int))))))))))
theorem okf_term_reach (c : Facts w K mg) : ∀ (n : Nat) {f : Addr} {fd : FuncData} (Fd : L2.Fun K "term_reach" "term_reach" st_term_reach f fd), FnG P w K mg base (CX P w) (3 + n) f fd ps_term_reach (spB 2 K cm (mf_term_reach n))
  | 0, _, _, _ => fng_bad
  | n + 1, _, _, Fd => oks_term_reach c n (fun {_ _} Fd => okf_term_reach c n Fd) Fd
theorem ok_term_reach {f : Addr} {fd : FuncData} (c : Facts w K mg) (Fd : L2.Fun K "term_reach" "term_reach" st_term_reach f fd) : FnG P w K mg base (CX P w) 11 f fd ps_term_reach (spB 2 K cm m_term_reach) := okf_term_reach c 8 Fd
theorem sc_reaches_of : FnScope N_reaches_of ps_reaches_of (defScope st_reaches_of) := ⟨rfl, rfl, rfl, by decide +kernel, rfl, by decide +kernel, by decide +kernel⟩
theorem nd_reaches_of : N_reaches_of.Nodup := by decide +kernel
theorem ok_reaches_of {f : Addr} {fd : FuncData} (c : Facts w K mg) (Fd : L2.Fun K "reaches_of" "reaches_of" st_reaches_of f fd) : FnG P w K mg base (CX P w) 12 f fd ps_reaches_of (spB 1 K cm m_reaches_of) := by
  obtain ⟨a_term_reach, fd_term_reach, F_term_reach, g_term_reach, b_term_reach, n_term_reach⟩ := c.d_term_reach
  have G_term_reach : FnG P w K mg base (CX P w) 11 a_term_reach fd_term_reach ps_term_reach (spB 2 K cm m_term_reach) := ok_term_reach c F_term_reach
  refine fn_data (fs := f_reaches_of) (N := N_reaches_of) (ps := ps_reaches_of) Fd sc_reaches_of (by decide) fun cdv A outer s H E hG hr => ?_
  have hu := hu150 hr
  have hp := passes_of (X := cxOf (CX P w) P w K mg base N_reaches_of "reaches_of" (defScope st_reaches_of) f cdv A outer s H E) rfl
  have hx := fun σ => passAt (X := cxOf (CX P w) P w K mg base N_reaches_of "reaches_of" (defScope st_reaches_of) f cdv A outer s H E) (takes_of rfl rfl rfl rfl) σ
  exact (svs_cons (sv_set 1 nd_reaches_of ev_dict0)
 (svs_cons (sv_for hp rfl (pv_seq (ev_rev (ev_var 0))) (pg_tup rfl (pgs_cons (pg_name (i := 2) nd_reaches_of rfl (by first | exact Or.inl rfl | exact Or.inr rfl)) (pgs_cons (pg_name (i := 3) nd_reaches_of rfl (by first | exact Or.inl rfl | exact Or.inr rfl)) pgs_nil))) (pg_t rfl) (svs_one (sv_setK 1 hu (ev_callP G_term_reach g_term_reach F_term_reach.kp b_term_reach .nil (fun _ => .nil) hG (hr.mono (by decide)) hx rfl (er_dat (ev_var 3) (er_own 1 er_nil)) (rlen_dat (rlen_own rlen_nil))) (ev_var 2))))
 (svs_one (sv_ret (ev_var 1)))))
theorem sc_reach : FnScope N_reach ps_reach (defScope st_reach) := ⟨rfl, rfl, rfl, by decide +kernel, rfl, by decide +kernel, by decide +kernel⟩
theorem nd_reach : N_reach.Nodup := by decide +kernel
theorem ok_reach {f : Addr} {fd : FuncData} (c : Facts w K mg) (Fd : L2.Fun K "reach" "reach" st_reach f fd) : FnG P w K mg base (CX P w) 13 f fd ps_reach (spB 1 K cm m_reach) := by
  obtain ⟨a_reaches_of, fd_reaches_of, F_reaches_of, g_reaches_of, b_reaches_of, n_reaches_of⟩ := c.d_reaches_of
  have G_reaches_of : FnG P w K mg base (CX P w) 12 a_reaches_of fd_reaches_of ps_reaches_of (spB 1 K cm m_reaches_of) := ok_reaches_of c F_reaches_of
  refine fn_data (fs := f_reach) (N := N_reach) (ps := ps_reach) Fd sc_reach (by decide) fun cdv A outer s H E hG hr => ?_
  have hu := hu150 hr
  have hp := passes_of (X := cxOf (CX P w) P w K mg base N_reach "reach" (defScope st_reach) f cdv A outer s H E) rfl
  have hx := fun σ => passAt (X := cxOf (CX P w) P w K mg base N_reach "reach" (defScope st_reach) f cdv A outer s H E) (takes_of rfl rfl rfl rfl) σ
  exact (svs_one (sv_ret (ev_ixD hu (ev_call G_reaches_of g_reaches_of F_reaches_of.kp b_reaches_of .nil (fun _ => .nil) hG (hr.mono (by decide)) hx rfl (er_dat (ev_var 0) er_nil) (rlen_dat rlen_nil)) (ev_ix (ev_ix (ev_var 0) ev_int) ev_int))))
theorem sc_rooms_in : FnScope N_rooms_in ps_rooms_in (defScope st_rooms_in) := ⟨rfl, rfl, rfl, by decide +kernel, rfl, by decide +kernel, by decide +kernel⟩
theorem nd_rooms_in : N_rooms_in.Nodup := by decide +kernel
theorem oks_rooms_in (c : Facts w K mg) (n : Nat) (ih : ∀ {f : Addr} {fd : FuncData} (Fd : L2.Fun K "rooms_in" "rooms_in" st_rooms_in f fd), FnG P w K mg base (CX P w) (3 + n) f fd ps_rooms_in (spB 1 K cm (mf_rooms_in n))) {f : Addr} {fd : FuncData} (Fd : L2.Fun K "rooms_in" "rooms_in" st_rooms_in f fd) : FnG P w K mg base (CX P w) (3 + (n + 1)) f fd ps_rooms_in (spB 1 K cm (mf_rooms_in (n + 1))) := by
  obtain ⟨a_rooms_in, fd_rooms_in, F_rooms_in, g_rooms_in, b_rooms_in, n_rooms_in⟩ := c.d_rooms_in
  have G_rooms_in : FnG P w K mg base (CX P w) (3 + n) a_rooms_in fd_rooms_in ps_rooms_in (spB 1 K cm (mf_rooms_in n)) := ih F_rooms_in
  obtain ⟨a_parts_of, fd_parts_of, F_parts_of, g_parts_of, b_parts_of, n_parts_of⟩ := c.d_parts_of
  have G_parts_of : FnG P w K mg base (CX P w) 2 a_parts_of fd_parts_of ps_parts_of (spB 1 K cm m_parts_of) := ok_parts_of c F_parts_of
  refine fn_data (k := 3 + n) Fd sc_rooms_in (by decide) fun cdv A outer s H E hG hr => ?_
  have hu := hu150 hr
  have hp := passes_of (X := cxOf (CX P w) P w K mg base N_rooms_in "rooms_in" (defScope st_rooms_in) f cdv A outer s H E) rfl
  have hx := fun σ => passAt (X := cxOf (CX P w) P w K mg base N_rooms_in "rooms_in" (defScope st_rooms_in) f cdv A outer s H E) (takes_of rfl rfl rfl rfl) σ
  exact (svs_cons (sv_if (et_cmp (os_eq hu) (ev_ix (ev_var 0) ev_int) ev_str) (svs_one (sv_ret (ev_callT cd_list c.fr_list (ev_ix (ev_var 0) ev_int)))) svs_nil)
 (svs_cons (sv_set 1 nd_rooms_in (ev_lst ea_nil))
 (svs_cons (sv_for hp rfl (pv_seq (ev_call G_parts_of g_parts_of F_parts_of.kp b_parts_of .nil (fun _ => .nil) hG (hr.mono (by omega)) hx rfl (er_dat (ev_var 0) er_nil) (rlen_dat rlen_nil))) (pg_name (i := 2) nd_rooms_in rfl (by first | exact Or.inl rfl | exact Or.inr rfl)) pg_n (svs_one (sv_expr (ev_own 1 mk_extend F.plainAttrs_list F.slot_list_extend F.type_list_extend (ev_call G_rooms_in g_rooms_in F_rooms_in.kp b_rooms_in .nil (fun _ => .nil) hG (hr.mono (by omega)) hx rfl (er_dat (ev_var 2) er_nil) (rlen_dat rlen_nil))))))
 (svs_one (sv_ret (ev_var 1))))))
theorem okf_rooms_in (c : Facts w K mg) : ∀ (n : Nat) {f : Addr} {fd : FuncData} (Fd : L2.Fun K "rooms_in" "rooms_in" st_rooms_in f fd), FnG P w K mg base (CX P w) (3 + n) f fd ps_rooms_in (spB 1 K cm (mf_rooms_in n))
  | 0, _, _, _ => fng_bad
  | n + 1, _, _, Fd => oks_rooms_in c n (fun {_ _} Fd => okf_rooms_in c n Fd) Fd
theorem ok_rooms_in {f : Addr} {fd : FuncData} (c : Facts w K mg) (Fd : L2.Fun K "rooms_in" "rooms_in" st_rooms_in f fd) : FnG P w K mg base (CX P w) 11 f fd ps_rooms_in (spB 1 K cm m_rooms_in) := okf_rooms_in c 8 Fd
theorem sc_rooms_of : FnScope N_rooms_of ps_rooms_of (defScope st_rooms_of) := ⟨rfl, rfl, rfl, by decide +kernel, rfl, by decide +kernel, by decide +kernel⟩
theorem nd_rooms_of : N_rooms_of.Nodup := by decide +kernel
theorem ok_rooms_of {f : Addr} {fd : FuncData} (c : Facts w K mg) (Fd : L2.Fun K "rooms_of" "rooms_of" st_rooms_of f fd) : FnG P w K mg base (CX P w) 12 f fd ps_rooms_of (spB 1 K cm m_rooms_of) := by
  obtain ⟨a_rooms_in, fd_rooms_in, F_rooms_in, g_rooms_in, b_rooms_in, n_rooms_in⟩ := c.d_rooms_in
  have G_rooms_in : FnG P w K mg base (CX P w) 11 a_rooms_in fd_rooms_in ps_rooms_in (spB 1 K cm m_rooms_in) := ok_rooms_in c F_rooms_in
  refine fn_data (fs := f_rooms_of) (N := N_rooms_of) (ps := ps_rooms_of) Fd sc_rooms_of (by decide) fun cdv A outer s H E hG hr => ?_
  have hu := hu150 hr
  have hp := passes_of (X := cxOf (CX P w) P w K mg base N_rooms_of "rooms_of" (defScope st_rooms_of) f cdv A outer s H E) rfl
  have hx := fun σ => passAt (X := cxOf (CX P w) P w K mg base N_rooms_of "rooms_of" (defScope st_rooms_of) f cdv A outer s H E) (takes_of rfl rfl rfl rfl) σ
  exact (svs_cons (sv_set 1 nd_rooms_of (ev_lst ea_nil))
 (svs_cons (sv_for hp rfl (pv_seq (ev_var 0)) (pg_tup rfl (pgs_cons (pg_name (i := 2) nd_rooms_of rfl (by first | exact Or.inl rfl | exact Or.inr rfl)) (pgs_cons (pg_name (i := 3) nd_rooms_of rfl (by first | exact Or.inl rfl | exact Or.inr rfl)) pgs_nil))) (pg_t rfl) (svs_one (sv_expr (ev_own 1 mk_extend F.plainAttrs_list F.slot_list_extend F.type_list_extend (ev_call G_rooms_in g_rooms_in F_rooms_in.kp b_rooms_in .nil (fun _ => .nil) hG (hr.mono (by decide)) hx rfl (er_dat (ev_var 3) er_nil) (rlen_dat rlen_nil))))))
 (svs_one (sv_ret (ev_sortSet rfl c.fr_sorted c.fr_set (ev_var 1))))))
theorem sc__law_reach : FnScope N__law_reach ps__law_reach (defScope st__law_reach) := ⟨rfl, rfl, rfl, by decide +kernel, rfl, by decide +kernel, by decide +kernel⟩
theorem nd__law_reach : N__law_reach.Nodup := by decide +kernel
theorem oks__law_reach (c : Facts w K mg) (n : Nat) (ih : ∀ {f : Addr} {fd : FuncData} (Fd : L2.Fun K "_law_reach" "_law_reach" st__law_reach f fd), FnG P w K mg base (CX P w) (2 + n) f fd ps__law_reach (spB 2 K cm (mf__law_reach n))) {f : Addr} {fd : FuncData} (Fd : L2.Fun K "_law_reach" "_law_reach" st__law_reach f fd) : FnG P w K mg base (CX P w) (2 + (n + 1)) f fd ps__law_reach (spB 2 K cm (mf__law_reach (n + 1))) := by
  obtain ⟨a__law_reach, fd__law_reach, F__law_reach, g__law_reach, b__law_reach, n__law_reach⟩ := c.d__law_reach
  have G__law_reach : FnG P w K mg base (CX P w) (2 + n) a__law_reach fd__law_reach ps__law_reach (spB 2 K cm (mf__law_reach n)) := ih F__law_reach
  refine fn_data (k := 2 + n) Fd sc__law_reach (by decide) fun cdv A outer s H E hG hr => ?_
  have hu := hu150 hr
  have hp := passes_of (X := cxOf (CX P w) P w K mg base N__law_reach "_law_reach" (defScope st__law_reach) f cdv A outer s H E) rfl
  have hx := fun σ => passAt (X := cxOf (CX P w) P w K mg base N__law_reach "_law_reach" (defScope st__law_reach) f cdv A outer s H E) (takes_of rfl rfl rfl rfl) σ
  exact (svs_cons (sv_if (et_cmp (os_eq hu) (ev_ix (ev_var 0) ev_int) ev_str) (svs_one (sv_ret (ev_ixD hu (ev_var 1) (ev_ix (ev_var 0) ev_int)))) svs_nil)
 (svs_cons (sv_if (et_cmp (os_in hu) (ev_ix (ev_var 0) ev_int) (ev_tup (ea_cons ev_str (ea_cons ev_str ea_nil)))) (svs_one (sv_ret ev_int)) svs_nil)
 (svs_cons (sv_if (et_cmp (os_eq hu) (ev_ix (ev_var 0) ev_int) ev_str) (svs_cons (sv_setF 2 nd__law_reach (ev_call G__law_reach g__law_reach F__law_reach.kp b__law_reach .nil (fun _ => .nil) hG (hr.mono (by omega)) hx rfl (er_dat (ev_ix (ev_var 0) ev_int) (er_dat (ev_var 1) er_nil)) (rlen_dat (rlen_dat rlen_nil))))
 (svs_cons (sv_if (et_cmp os_is (ev_ix (ev_var 0) ev_int) ev_none) (svs_one (sv_ret (ev_bin os_add (ev_bin os_add (ev_bin os_mul (ev_ix (ev_var 0) ev_int) (ev_var 2)) (ev_var 2)) ev_int))) svs_nil)
 (svs_one (sv_ret (ev_bin os_add (ev_bin os_mul (ev_ix (ev_var 0) ev_int) (ev_var 2)) (ev_bin os_sub (ev_ix (ev_var 0) ev_int) (ev_ix (ev_var 0) ev_int))))))) svs_nil)
 (svs_one (sv_ret (ev_bin os_add (ev_callT cd_int c.fr_int (ev_cmp (os_eq hu) (ev_ix (ev_var 0) ev_int) ev_str)) (ev_callB (cd_sum rfl) c.fr_sum (ev_lc (own := [("_law_part", 3)]) rfl nd__law_reach (pv_seq (ev_ix (ev_var 0) ev_int)) (blk_of N__law_reach (defScope st__law_reach).names (by decide +kernel)) (fun _ _ _ _ _ => (pg_name (i := 3) nd__law_reach rfl (by first | exact Or.inl rfl | exact Or.inr rfl))) pg_n (by decide) (fun _ _ _ _ _ => ets_nil) (fun _ _ _ _ _ => (ev_call G__law_reach g__law_reach F__law_reach.kp b__law_reach .nil (fun _ => .nil) hG (hr.mono (by omega)) (fun σ => hxN σ) rfl (er_dat (ev_var 3) (er_dat (ev_var 1) er_nil)) (rlen_dat (rlen_dat rlen_nil))))))))))))
theorem okf__law_reach (c : Facts w K mg) : ∀ (n : Nat) {f : Addr} {fd : FuncData} (Fd : L2.Fun K "_law_reach" "_law_reach" st__law_reach f fd), FnG P w K mg base (CX P w) (2 + n) f fd ps__law_reach (spB 2 K cm (mf__law_reach n))
  | 0, _, _, _ => fng_bad
  | n + 1, _, _, Fd => oks__law_reach c n (fun {_ _} Fd => okf__law_reach c n Fd) Fd
theorem ok__law_reach {f : Addr} {fd : FuncData} (c : Facts w K mg) (Fd : L2.Fun K "_law_reach" "_law_reach" st__law_reach f fd) : FnG P w K mg base (CX P w) 10 f fd ps__law_reach (spB 2 K cm m__law_reach) := okf__law_reach c 8 Fd
theorem sc__law_reaches : FnScope N__law_reaches ps__law_reaches (defScope st__law_reaches) := ⟨rfl, rfl, rfl, by decide +kernel, rfl, by decide +kernel, by decide +kernel⟩
theorem nd__law_reaches : N__law_reaches.Nodup := by decide +kernel
theorem ok__law_reaches {f : Addr} {fd : FuncData} (c : Facts w K mg) (Fd : L2.Fun K "_law_reaches" "_law_reaches" st__law_reaches f fd) : FnG P w K mg base (CX P w) 11 f fd ps__law_reaches (spB 1 K cm m__law_reaches) := by
  obtain ⟨a__law_reach, fd__law_reach, F__law_reach, g__law_reach, b__law_reach, n__law_reach⟩ := c.d__law_reach
  have G__law_reach : FnG P w K mg base (CX P w) 10 a__law_reach fd__law_reach ps__law_reach (spB 2 K cm m__law_reach) := ok__law_reach c F__law_reach
  refine fn_data (fs := f__law_reaches) (N := N__law_reaches) (ps := ps__law_reaches) Fd sc__law_reaches (by decide) fun cdv A outer s H E hG hr => ?_
  have hu := hu150 hr
  have hp := passes_of (X := cxOf (CX P w) P w K mg base N__law_reaches "_law_reaches" (defScope st__law_reaches) f cdv A outer s H E) rfl
  have hx := fun σ => passAt (X := cxOf (CX P w) P w K mg base N__law_reaches "_law_reaches" (defScope st__law_reaches) f cdv A outer s H E) (takes_of rfl rfl rfl rfl) σ
  exact (svs_cons (sv_set 1 nd__law_reaches ev_dict0)
 (svs_cons (sv_for hp rfl (pv_seq (ev_rev (ev_var 0))) (pg_tup rfl (pgs_cons (pg_name (i := 2) nd__law_reaches rfl (by first | exact Or.inl rfl | exact Or.inr rfl)) (pgs_cons (pg_name (i := 3) nd__law_reaches rfl (by first | exact Or.inl rfl | exact Or.inr rfl)) pgs_nil))) (pg_t rfl) (svs_one (sv_setK 1 hu (ev_callP G__law_reach g__law_reach F__law_reach.kp b__law_reach .nil (fun _ => .nil) hG (hr.mono (by decide)) hx rfl (er_dat (ev_var 3) (er_own 1 er_nil)) (rlen_dat (rlen_own rlen_nil))) (ev_var 2))))
 (svs_one (sv_ret (ev_var 1)))))
theorem sc__law_rooms_in : FnScope N__law_rooms_in ps__law_rooms_in (defScope st__law_rooms_in) := ⟨rfl, rfl, rfl, by decide +kernel, rfl, by decide +kernel, by decide +kernel⟩
theorem nd__law_rooms_in : N__law_rooms_in.Nodup := by decide +kernel
theorem oks__law_rooms_in (c : Facts w K mg) (n : Nat) (ih : ∀ {f : Addr} {fd : FuncData} (Fd : L2.Fun K "_law_rooms_in" "_law_rooms_in" st__law_rooms_in f fd), FnG P w K mg base (CX P w) (2 + n) f fd ps__law_rooms_in (spB 1 K cm (mf__law_rooms_in n))) {f : Addr} {fd : FuncData} (Fd : L2.Fun K "_law_rooms_in" "_law_rooms_in" st__law_rooms_in f fd) : FnG P w K mg base (CX P w) (2 + (n + 1)) f fd ps__law_rooms_in (spB 1 K cm (mf__law_rooms_in (n + 1))) := by
  obtain ⟨a__law_rooms_in, fd__law_rooms_in, F__law_rooms_in, g__law_rooms_in, b__law_rooms_in, n__law_rooms_in⟩ := c.d__law_rooms_in
  have G__law_rooms_in : FnG P w K mg base (CX P w) (2 + n) a__law_rooms_in fd__law_rooms_in ps__law_rooms_in (spB 1 K cm (mf__law_rooms_in n)) := ih F__law_rooms_in
  refine fn_data (k := 2 + n) Fd sc__law_rooms_in (by decide) fun cdv A outer s H E hG hr => ?_
  have hu := hu150 hr
  have hp := passes_of (X := cxOf (CX P w) P w K mg base N__law_rooms_in "_law_rooms_in" (defScope st__law_rooms_in) f cdv A outer s H E) rfl
  have hx := fun σ => passAt (X := cxOf (CX P w) P w K mg base N__law_rooms_in "_law_rooms_in" (defScope st__law_rooms_in) f cdv A outer s H E) (takes_of rfl rfl rfl rfl) σ
  exact (svs_cons (sv_if (et_cmp (os_eq hu) (ev_ix (ev_var 0) ev_int) ev_str) (svs_one (sv_ret (ev_callT cd_list c.fr_list (ev_ix (ev_var 0) ev_int)))) svs_nil)
 (svs_cons (sv_set 1 nd__law_rooms_in (ev_ix (ev_lst (ea_cons (ev_lst ea_nil) (ea_cons (ev_callT cd_list c.fr_list (ev_sl (ev_var 0) (eo_some (ev_un us_neg ev_int)) eo_none)) ea_nil))) (ev_callT cd_int c.fr_int (ev_cmp (os_eq hu) (ev_ix (ev_var 0) ev_int) ev_str))))
 (svs_cons (sv_if (et_cmp (os_in hu) (ev_ix (ev_var 0) ev_int) (ev_tup (ea_cons ev_str (ea_cons ev_str ea_nil)))) (svs_one (sv_set 1 nd__law_rooms_in (ev_callT cd_list c.fr_list (ev_ix (ev_var 0) ev_int)))) svs_nil)
 (svs_cons (sv_set 2 nd__law_rooms_in (ev_lst ea_nil))
 (svs_cons (sv_for hp rfl (pv_seq (ev_var 1)) (pg_name (i := 3) nd__law_rooms_in rfl (by first | exact Or.inl rfl | exact Or.inr rfl)) pg_n (svs_one (sv_expr (ev_own 2 mk_extend F.plainAttrs_list F.slot_list_extend F.type_list_extend (ev_call G__law_rooms_in g__law_rooms_in F__law_rooms_in.kp b__law_rooms_in .nil (fun _ => .nil) hG (hr.mono (by omega)) hx rfl (er_dat (ev_var 3) er_nil) (rlen_dat rlen_nil))))))
 (svs_one (sv_ret (ev_var 2))))))))
theorem okf__law_rooms_in (c : Facts w K mg) : ∀ (n : Nat) {f : Addr} {fd : FuncData} (Fd : L2.Fun K "_law_rooms_in" "_law_rooms_in" st__law_rooms_in f fd), FnG P w K mg base (CX P w) (2 + n) f fd ps__law_rooms_in (spB 1 K cm (mf__law_rooms_in n))
  | 0, _, _, _ => fng_bad
  | n + 1, _, _, Fd => oks__law_rooms_in c n (fun {_ _} Fd => okf__law_rooms_in c n Fd) Fd
theorem ok__law_rooms_in {f : Addr} {fd : FuncData} (c : Facts w K mg) (Fd : L2.Fun K "_law_rooms_in" "_law_rooms_in" st__law_rooms_in f fd) : FnG P w K mg base (CX P w) 10 f fd ps__law_rooms_in (spB 1 K cm m__law_rooms_in) := okf__law_rooms_in c 8 Fd
theorem sc__law_all_rooms : FnScope N__law_all_rooms ps__law_all_rooms (defScope st__law_all_rooms) := ⟨rfl, rfl, rfl, by decide +kernel, rfl, by decide +kernel, by decide +kernel⟩
theorem nd__law_all_rooms : N__law_all_rooms.Nodup := by decide +kernel
theorem ok__law_all_rooms {f : Addr} {fd : FuncData} (c : Facts w K mg) (Fd : L2.Fun K "_law_all_rooms" "_law_all_rooms" st__law_all_rooms f fd) : FnG P w K mg base (CX P w) 11 f fd ps__law_all_rooms (spB 1 K cm m__law_all_rooms) := by
  obtain ⟨a__law_rooms_in, fd__law_rooms_in, F__law_rooms_in, g__law_rooms_in, b__law_rooms_in, n__law_rooms_in⟩ := c.d__law_rooms_in
  have G__law_rooms_in : FnG P w K mg base (CX P w) 10 a__law_rooms_in fd__law_rooms_in ps__law_rooms_in (spB 1 K cm m__law_rooms_in) := ok__law_rooms_in c F__law_rooms_in
  refine fn_data (fs := f__law_all_rooms) (N := N__law_all_rooms) (ps := ps__law_all_rooms) Fd sc__law_all_rooms (by decide) fun cdv A outer s H E hG hr => ?_
  have hu := hu150 hr
  have hp := passes_of (X := cxOf (CX P w) P w K mg base N__law_all_rooms "_law_all_rooms" (defScope st__law_all_rooms) f cdv A outer s H E) rfl
  have hx := fun σ => passAt (X := cxOf (CX P w) P w K mg base N__law_all_rooms "_law_all_rooms" (defScope st__law_all_rooms) f cdv A outer s H E) (takes_of rfl rfl rfl rfl) σ
  exact (svs_cons (sv_set 1 nd__law_all_rooms (ev_lst ea_nil))
 (svs_cons (sv_for hp rfl (pv_seq (ev_var 0)) (pg_tup rfl (pgs_cons (pg_name (i := 2) nd__law_all_rooms rfl (by first | exact Or.inl rfl | exact Or.inr rfl)) (pgs_cons (pg_name (i := 3) nd__law_all_rooms rfl (by first | exact Or.inl rfl | exact Or.inr rfl)) pgs_nil))) (pg_t rfl) (svs_one (sv_expr (ev_own 1 mk_extend F.plainAttrs_list F.slot_list_extend F.type_list_extend (ev_call G__law_rooms_in g__law_rooms_in F__law_rooms_in.kp b__law_rooms_in .nil (fun _ => .nil) hG (hr.mono (by decide)) hx rfl (er_dat (ev_var 3) er_nil) (rlen_dat rlen_nil))))))
 (svs_one (sv_ret (ev_sortSet rfl c.fr_sorted c.fr_set (ev_var 1))))))
theorem sc_law : FnScope N_law ps_law (defScope st_law) := ⟨rfl, rfl, rfl, by decide +kernel, rfl, by decide +kernel, by decide +kernel⟩
theorem nd_law : N_law.Nodup := by decide +kernel
theorem ok_law {f : Addr} {fd : FuncData} (c : Facts w K mg) (Fd : L2.Fun K "law" "law" st_law f fd) : FnG P w K mg base (CX P w) 14 f fd ps_law (spB 1 K cm m_law) := by
  obtain ⟨a__law_pool, fd__law_pool, F__law_pool, g__law_pool, b__law_pool, n__law_pool⟩ := c.d__law_pool
  have G__law_pool : FnG P w K mg base (CX P w) 2 a__law_pool fd__law_pool ps__law_pool (spB 2 K cm m__law_pool) := ok__law_pool c F__law_pool
  obtain ⟨a__law_picked, fd__law_picked, F__law_picked, g__law_picked, b__law_picked, n__law_picked⟩ := c.d__law_picked
  have G__law_picked : FnG P w K mg base (CX P w) 3 a__law_picked fd__law_picked ps__law_picked (spB 3 K cm m__law_picked) := ok__law_picked c F__law_picked
  obtain ⟨a__law_take, fd__law_take, F__law_take, g__law_take, b__law_take, n__law_take⟩ := c.d__law_take
  have G__law_take : FnG P w K mg base (CX P w) 2 a__law_take fd__law_take ps__law_take (spB 2 K cm m__law_take) := ok__law_take c F__law_take
  obtain ⟨a__law_program, fd__law_program, F__law_program, g__law_program, b__law_program, n__law_program⟩ := c.d__law_program
  have G__law_program : FnG P w K mg base (CX P w) 13 a__law_program fd__law_program ps__law_program (spB 4 K cm m__law_program) := ok__law_program c F__law_program
  obtain ⟨a__law_deep, fd__law_deep, F__law_deep, g__law_deep, b__law_deep, n__law_deep⟩ := c.d__law_deep
  have G__law_deep : FnG P w K mg base (CX P w) 4 a__law_deep fd__law_deep ps__law_deep (spB 1 K cm m__law_deep) := ok__law_deep c F__law_deep
  obtain ⟨a_reach, fd_reach, F_reach, g_reach, b_reach, n_reach⟩ := c.d_reach
  have G_reach : FnG P w K mg base (CX P w) 13 a_reach fd_reach ps_reach (spB 1 K cm m_reach) := ok_reach c F_reach
  obtain ⟨a__law_reaches, fd__law_reaches, F__law_reaches, g__law_reaches, b__law_reaches, n__law_reaches⟩ := c.d__law_reaches
  have G__law_reaches : FnG P w K mg base (CX P w) 11 a__law_reaches fd__law_reaches ps__law_reaches (spB 1 K cm m__law_reaches) := ok__law_reaches c F__law_reaches
  obtain ⟨a_rooms_of, fd_rooms_of, F_rooms_of, g_rooms_of, b_rooms_of, n_rooms_of⟩ := c.d_rooms_of
  have G_rooms_of : FnG P w K mg base (CX P w) 12 a_rooms_of fd_rooms_of ps_rooms_of (spB 1 K cm m_rooms_of) := ok_rooms_of c F_rooms_of
  obtain ⟨a__law_all_rooms, fd__law_all_rooms, F__law_all_rooms, g__law_all_rooms, b__law_all_rooms, n__law_all_rooms⟩ := c.d__law_all_rooms
  have G__law_all_rooms : FnG P w K mg base (CX P w) 11 a__law_all_rooms fd__law_all_rooms ps__law_all_rooms (spB 1 K cm m__law_all_rooms) := ok__law_all_rooms c F__law_all_rooms
  obtain ⟨a__law_reach, fd__law_reach, F__law_reach, g__law_reach, b__law_reach, n__law_reach⟩ := c.d__law_reach
  have G__law_reach : FnG P w K mg base (CX P w) 10 a__law_reach fd__law_reach ps__law_reach (spB 2 K cm m__law_reach) := ok__law_reach c F__law_reach
  refine fn_data (fs := f_law) (N := N_law) (ps := ps_law) Fd sc_law (by decide) fun cdv A outer s H E hG hr => ?_
  have hu := hu150 hr
  have hp := passes_of (X := cxOf (CX P w) P w K mg base N_law "law" (defScope st_law) f cdv A outer s H E) rfl
  have hx := fun σ => passAt (X := cxOf (CX P w) P w K mg base N_law "law" (defScope st_law) f cdv A outer s H E) (takes_of rfl rfl rfl rfl) σ
  exact (svs_cons (sv_for hp rfl (pv_r1 c.fr_range (ev_callB2 (cd_max2 rfl) c.fr_max ev_int (ev_callB2 (cd_min2 rfl) c.fr_min (ev_callB cd_len c.fr_len (ev_var 0)) ev_int))) (pg_name (i := 1) nd_law rfl (by first | exact Or.inl rfl | exact Or.inr rfl)) pg_n (svs_cons (sv_set 2 nd_law (ev_call G__law_pool g__law_pool F__law_pool.kp b__law_pool .nil (fun _ => .nil) hG (hr.mono (by decide)) hx rfl (er_dat (ev_var 0) (er_dat (ev_var 1) er_nil)) (rlen_dat (rlen_dat rlen_nil))))
 (svs_cons (sv_setF 3 nd_law (ev_call G__law_picked g__law_picked F__law_picked.kp b__law_picked .nil (fun _ => .nil) hG (hr.mono (by decide)) hx rfl (er_own 2 (er_dat (ev_listRg1 rfl c.fr_list c.fr_range ev_int) (er_dat (ev_bin os_add ev_int (ev_call G__law_take g__law_take F__law_take.kp b__law_take .nil (fun _ => .nil) hG (hr.mono (by decide)) hx rfl (er_own 2 (er_dat ev_int er_nil)) (rlen_own (rlen_dat rlen_nil)))) er_nil))) (rlen_own (rlen_dat (rlen_dat rlen_nil)))))
 (svs_one (sv_for hp rfl (pv_seq (ev_lst (ea_cons (ev_call G__law_program g__law_program F__law_program.kp b__law_program .nil (fun _ => .nil) hG (hr.mono (by decide)) hx rfl (er_own 2 (er_dat ev_int (er_dat (ev_bin os_add ev_int (ev_call G__law_take g__law_take F__law_take.kp b__law_take .nil (fun _ => .nil) hG (hr.mono (by decide)) hx rfl (er_own 2 (er_dat ev_int er_nil)) (rlen_own (rlen_dat rlen_nil)))) (er_dat (ev_var 3) er_nil)))) (rlen_own (rlen_dat (rlen_dat (rlen_dat rlen_nil))))) (ea_cons (ev_call G__law_deep g__law_deep F__law_deep.kp b__law_deep .nil (fun _ => .nil) hG (hr.mono (by decide)) hx rfl (er_own 2 er_nil) (rlen_own rlen_nil)) ea_nil)))) (pg_name (i := 4) nd_law rfl (by first | exact Or.inl rfl | exact Or.inr rfl)) pg_n (svs_cons (sv_set 5 nd_law (ev_callB (cd_reprE hG hu) c.fr_repr (ev_var 4)))
 (svs_cons (sv_setF 6 nd_law (ev_call G_reach g_reach F_reach.kp b_reach .nil (fun _ => .nil) hG (hr.mono (by decide)) hx rfl (er_dat (ev_var 4) er_nil) (rlen_dat rlen_nil)))
 (svs_cons (sv_if (et_w (ew_or (et_val (ev_isi is_bool c.fr_isinstance c.fr_bool (ev_var 6))) (ew_or1 (et_cmp (os_ne hu) (ev_var 6) (ev_ixD hu (ev_call G__law_reaches g__law_reaches F__law_reaches.kp b__law_reaches .nil (fun _ => .nil) hG (hr.mono (by decide)) hx rfl (er_dat (ev_var 4) er_nil) (rlen_dat rlen_nil)) (ev_ix (ev_ix (ev_var 4) ev_int) ev_int)))))) (svs_one (sv_ret ev_bool)) svs_nil)
 (svs_cons (sv_for hp rfl (pv_r1 c.fr_range ev_int) (pg_name (i := 7) nd_law rfl (by first | exact Or.inl rfl | exact Or.inr rfl)) pg_n (svs_cons (sv_set 8 nd_law (ev_call G_rooms_of g_rooms_of F_rooms_of.kp b_rooms_of .nil (fun _ => .nil) hG (hr.mono (by decide)) hx rfl (er_dat (ev_var 4) er_nil) (rlen_dat rlen_nil)))
 (svs_cons (sv_if (et_w (ew_or (et_not (et_val (ev_isi is_list c.fr_isinstance c.fr_list (ev_var 8)))) (ew_or (et_cmp (os_ne hu) (ev_var 8) (ev_call G__law_all_rooms g__law_all_rooms F__law_all_rooms.kp b__law_all_rooms .nil (fun _ => .nil) hG (hr.mono (by decide)) hx rfl (er_dat (ev_var 4) er_nil) (rlen_dat rlen_nil))) (ew_or1 (et_cmp (os_ne hu) (ev_callB (cd_reprE hG hu) c.fr_repr (ev_var 4)) (ev_var 5)))))) (svs_one (sv_ret ev_bool)) svs_nil)
 (svs_one (sv_expr (ev_own 8 mk_append F.plainAttrs_list F.slot_list_append F.type_list_append (ev_un us_neg ev_int)))))))
 (svs_one (sv_if (et_cmp (os_ne hu) (ev_call G_reach g_reach F_reach.kp b_reach .nil (fun _ => .nil) hG (hr.mono (by decide)) hx rfl (er_dat (ev_lst (ea_cons (ev_ix (ev_var 4) (ev_un us_neg ev_int)) ea_nil)) er_nil) (rlen_dat rlen_nil)) (ev_call G__law_reach g__law_reach F__law_reach.kp b__law_reach .nil (fun _ => .nil) hG (hr.mono (by decide)) hx rfl (er_dat (ev_ix (ev_ix (ev_var 4) (ev_un us_neg ev_int)) ev_int) (er_dat ev_dict0 er_nil)) (rlen_dat (rlen_dat rlen_nil)))) (svs_one (sv_ret ev_bool)) svs_nil)))))))))))
 (svs_one (sv_ret ev_bool)))
end
end K09
namespace K09
open PySem PySem.Spec PyProof.Rows L2 BV
theorem takes : Takes2 m__law_take := by
  rintro ds n ⟨a, b, rfl, ha, hb, hb2⟩ hn hn2
  by_cases h : 0 < a
  · refine ⟨a % n, [.int (a / n), .int b], ?_, ⟨_, _, rfl, Int.ediv_nonneg ha (by omega), hb, hb2⟩, Int.emod_nonneg _ (by omega), Int.emod_lt_of_pos _ hn⟩
    refine runF_ret (e' := [.own (.lst [.int (a / n), .int b]), .frz (.int n), .frz (.int (a % n))]) ?_ rfl (fun _ h => by cases h)
    simp [f__law_take, f__law_take_s0, h, hn, hn2, ixN]
  · have b2 := Int.emod_nonneg (b * 48271 + 11) (show (2147483647 : Int) ≠ 0 by decide)
    have b3 := Int.emod_lt_of_pos (b * 48271 + 11) (show (0 : Int) < 2147483647 by decide)
    generalize hb' : (b * 48271 + 11) % 2147483647 = b' at *
    refine ⟨b' * b' % 2147483629 / 16 % n, [.int a, .int b'], ?_, ⟨_, _, rfl, ha, b2, b3⟩, Int.emod_nonneg _ (by omega), Int.emod_lt_of_pos _ hn⟩
    refine runF_ret (e' := [.own (.lst [.int a, .int b']), .frz (.int n), .no]) ?_ rfl (fun _ h => by cases h)
    have c1 : -18446744073709551616 < b ∧ b < 18446744073709551616 := by omega
    have c2 : -18446744073709551616 < b' ∧ b' < 18446744073709551616 := by omega
    simp [f__law_take, f__law_take_1, f__law_take_2, f__law_take_s0, f__law_take_s1, f__law_take_s2, h, hn, hn2, ixN, c1, c2, hb']
theorem cut63 (ns : List Int) : BV.cutD (ns.map .int) none (some 63) = (ns.take 63).map .int := by
  unfold BV.cutD
  have e1 : HT.sIx (ns.map PyData.int).length 0 none = 0 := rfl
  have e2 : HT.sIx (ns.map PyData.int).length (ns.map PyData.int).length (some 63) = min 63 (ns.map PyData.int).length := rfl
  rw [e1, e2, List.drop_zero, Nat.sub_zero, ← List.map_take]
  congr 1
  rw [List.length_map]
  rcases Nat.le_total 63 ns.length with h | h
  · rw [Nat.min_eq_left h]
  · rw [Nat.min_eq_right h, List.take_of_length_le h, List.take_of_length_le (Nat.le_refl _)]
theorem pool_s3 (x : Slot) (k cell great mixed : Int) (ck : -18446744073709551616 < k ∧ k < 18446744073709551616) (hmx : (great % 2147483629 + 7919 * k * k + 31 * k + 17) * 48271 % 2147483647 = mixed) :
    f__law_pool_s3 [x, .frz (.int k), .frz (.int cell), .frz (.int great), .no] = .ok (.nx, [x, .frz (.int k), .frz (.int cell), .frz (.int great), .frz (.int mixed)]) := by
  cases x <;> simp [f__law_pool_s3, ck, hmx]
theorem pool_eq (ns : List Int) (k : Nat) (hk : k ≤ 4000) : ∃ ds, m__law_pool [.frz (.list (ns.map .int)), .frz (.int k)] = .ok (.new (.lst ds), [.frz (.list (ns.map .int)), .frz (.int k)]) ∧ PoolL ds := by
  have hs : gSum (.list (List.take 63 (List.map PyData.int ns))) = some (.frz (.int (ns.take 63).sum)) := by
    rw [← List.map_take]
    exact gSum_l _
  have h0 : f__law_pool_s0 [.frz (.list (ns.map .int)), .frz (.int k), .no, .no, .no] = .ok (.nx, [.frz (.list (ns.map .int)), .frz (.int k), .frz (.int (7 * (ns.take 63).sum + k)), .no, .no]) := by
    simp [f__law_pool_s0, cut63, hs]
  generalize 7 * (ns.take 63).sum + (k : Int) = c0 at h0
  obtain ⟨cell, h1⟩ : ∃ cell : Int, f__law_pool_s1 [.frz (.list (ns.map .int)), .frz (.int k), .frz (.int c0), .no, .no] = .ok (.nx, [.frz (.list (ns.map .int)), .frz (.int k), .frz (.int cell), .no, .no]) := by
    by_cases h2 : k < ns.length
    · refine ⟨ns[k], ?_⟩
      obtain ⟨d, a1, a2⟩ := atI_nat (xs := ns.map PyData.int) (i := (k : Int)) (by omega) (by simpa using h2)
      simp [h2] at a2
      subst a2
      simp [f__law_pool_s1, h2, a1]
    · exact ⟨c0, by simp [f__law_pool_s1, h2]⟩
  have h2 : f__law_pool_s2 [.frz (.list (ns.map .int)), .frz (.int k), .frz (.int cell), .no, .no] = .ok (.nx, [.frz (.list (ns.map .int)), .frz (.int k), .frz (.int cell), .frz (.int (if cell < 0 then -cell else cell)), .no]) := by
    simp [f__law_pool_s2]
  have hg0 : 0 ≤ (if cell < 0 then -cell else cell) := by split <;> omega
  generalize (if cell < 0 then -cell else cell) = great at *
  have q1 := Int.emod_nonneg ((great % 2147483629 + 7919 * (k : Int) * k + 31 * k + 17) * 48271) (show (2147483647 : Int) ≠ 0 by decide)
  have q2 := Int.emod_lt_of_pos ((great % 2147483629 + 7919 * (k : Int) * k + 31 * k + 17) * 48271) (show (0 : Int) < 2147483647 by decide)
  generalize hmx : (great % 2147483629 + 7919 * (k : Int) * k + 31 * k + 17) * 48271 % 2147483647 = mixed at *
  have c2 : -18446744073709551616 < mixed ∧ mixed < 18446744073709551616 := by omega
  have ck : -18446744073709551616 < (k : Int) ∧ (k : Int) < 18446744073709551616 := by omega
  have h3 := pool_s3 (.frz (.list (ns.map .int))) k cell great mixed ck hmx
  have r1 := Int.emod_nonneg (mixed * mixed) (show (2147483629 : Int) ≠ 0 by decide)
  have r2 := Int.emod_lt_of_pos (mixed * mixed) (show (0 : Int) < 2147483629 by decide)
  have s2 : (2 : Nat) ≤ sizeLine := small_len (by decide)
  obtain ⟨g, g1, h4⟩ : ∃ g : Int, 0 ≤ g ∧ f__law_pool_s4 [.frz (.list (ns.map .int)), .frz (.int k), .frz (.int cell), .frz (.int great), .frz (.int mixed)] = .ok (.ret (.new (.lst [.int g, .int (mixed * mixed % 2147483629)])), [.frz (.list (ns.map .int)), .frz (.int k), .frz (.int cell), .frz (.int great), .frz (.int mixed)]) := by
    by_cases hb : (1000000000000000000 : Int) ≤ great
    · exact ⟨great, hg0, by simp [f__law_pool_s4, hb, c2, s2]⟩
    · exact ⟨0, Int.le_refl _, by simp [f__law_pool_s4, hb, c2, s2]⟩
  have hF := (seq_step (t := f__law_pool_1) h0).trans ((seq_step (t := f__law_pool_2) h1).trans ((seq_step (t := f__law_pool_3) h2).trans ((seq_step (t := f__law_pool_4) h3).trans h4)))
  exact ⟨[.int g, .int (mixed * mixed % 2147483629)], runF_ret hF rfl (fun _ h => by cases h), ⟨_, _, rfl, g1, r1, by omega⟩⟩
theorem picked_i {ds : List D} {ns : List Int} {n : Int} (hp : PoolL ds) (hn : 0 ≤ n) (hl : ns.length ≤ 4000) (nd : ns.Nodup) :
    ∃ (ds' : List D) (out : List Int), m__law_picked [.own (.lst ds), .frz (iL ns), .frz (.int n)] = .ok (.new (.lst (out.map .int)), [.own (.lst ds'), .frz (iL ns), .frz (.int n)]) ∧ PoolL ds' ∧ out.length = min n.toNat ns.length ∧ (∀ x ∈ out, x ∈ ns) ∧ out.Pairwise (· < ·) := by
  have h0 : f__law_picked_s0 [.own (.lst ds), .frz (iL ns), .frz (.int n), .no, .no] = .ok (.nx, [.own (.lst ds), .frz (iL ns), .frz (.int n), .own (.lst (ns.map .int)), .no]) := by
    simp [f__law_picked_s0]
  obtain ⟨Q, hq0, hq1, hq2, hq4⟩ : ∃ Q : Int, Q.toNat = min n.toNat ns.length ∧ 0 ≤ Q ∧ (if (ns.length : Int) < n then (ns.length : Int) else n) = Q ∧ Q ≤ 4000 := ⟨_, by split <;> omega, by split <;> omega, rfl, by split <;> omega⟩
  have hq3 : Q.toNat ≤ ns.length := by omega
  have hit : iR1 (BV.bin gMin2 (fVar 2) (un gLen (fVar 3))) [.own (.lst ds), .frz (iL ns), .frz (.int n), .own (.lst (ns.map .int)), .no] = .ok (rints 0 Q.toNat, [.own (.lst ds), .frz (iL ns), .frz (.int n), .own (.lst (ns.map .int)), .no]) := by
    have a1 : (-4611686018427387904 : Int) ≤ Q := by omega
    have a2 : Q < (4611686018427387904 : Int) := by omega
    simp [hq2, a1, a2]
  obtain ⟨out, e', h1, p', left, acc, rfl, i1, rfl, i3, i5⟩ := lcL_inv (c := lcc__law_picked_0) (f := lce__law_picked_0) (t := .name 4) (vs := [4])
    (fun rs out e => ∃ (p : List D) (left acc : List Int), e = [.own (.lst p), .frz (iL ns), .frz (.int n), .own (.lst (left.map .int)), .no] ∧ PoolL p ∧ out = acc.map .int ∧ (acc ++ left).Perm ns ∧ acc.length + rs.length = Q.toNat)
    (rints 0 Q.toNat) [] [.own (.lst ds), .frz (iL ns), .frz (.int n), .own (.lst (ns.map .int)), .no] (by rw [rints_len]; exact small_len (by simp only [List.length_nil]; omega)) ⟨ds, ns, [], rfl, hp, rfl, List.Perm.refl _, by simp [rints_len]⟩ (by
      rintro d rs out e ⟨p, left, acc, rfl, q1, rfl, q3, q5⟩
      rw [List.length_cons] at q5
      have ql := q3.length_eq
      rw [List.length_append] at ql
      obtain ⟨r, p', tc, pp, r0, r1⟩ := take_call takes (e := [.own (.lst p), .frz (iL ns), .frz (.int n), .own (.lst (left.map .int)), .frz d]) (i := 0) (n := (left.length : Nat)) rfl q1 (by omega) (by omega)
      obtain ⟨k, mp, mq⟩ := mPop_int (ns := left) r0 r1 (by omega)
      refine ⟨[.own (.lst p), .frz (iL ns), .frz (.int n), .own (.lst (left.map .int)), .frz d], [.own (.lst p), .frz (iL ns), .frz (.int n), .own (.lst (left.map .int)), .frz d], true, by simp [Tg.put], by simp [lcc__law_picked_0], Or.inl ⟨rfl, .int k, [.own (.lst p'), .frz (iL ns), .frz (.int n), .own (.lst ((left.eraseIdx r.toNat).map .int)), .frz d], ?_, p', left.eraseIdx r.toNat, acc ++ [k], by simp [wipeE], pp, by simp, ?_, ?_⟩⟩
      · simp at tc
        simp [lce__law_picked_0, tc, mp]
      · rw [List.append_assoc]
        exact (List.Perm.append_left acc mq).trans q3
      · rw [List.length_append]
        simp only [List.length_cons, List.length_nil]
        omega)
  have hlc : lc__law_picked_0 [.own (.lst ds), .frz (iL ns), .frz (.int n), .own (.lst (ns.map .int)), .no] = .ok (.new (.lst (acc.map .int)), [.own (.lst p'), .frz (iL ns), .frz (.int n), .own (.lst (left.map .int)), .no]) :=
    fLc_ok hit (bare1 rfl) h1
  have nd2 : acc.Nodup := (List.nodup_append.mp (i3.nodup_iff.mpr nd)).1
  have s1 : gSorted (.list (acc.map .int)) = some (.new (.lst (acc.mergeSort.map .int))) := by
    rw [← sortD_ints]
    unfold gSorted
    have hb : sortB (acc.map PyData.int) = true := by
      unfold sortB
      simp only [Bool.and_eq_true, Bool.or_eq_true, List.all_eq_true, decide_eq_true_eq]
      refine ⟨⟨fun d hd e he => ?_, Or.inr fun d hd => ?_⟩, fun d hd => ?_⟩
      · obtain ⟨i, _, rfl⟩ := List.mem_map.mp hd
        obtain ⟨j, _, rfl⟩ := List.mem_map.mp he
        simp [PySem.W.alike]
      · obtain ⟨i, _, rfl⟩ := List.mem_map.mp hd
        rfl
      · obtain ⟨i, _, rfl⟩ := List.mem_map.mp hd
        simp [PyData.depth]
    simp only [hb, if_true]
  have h2 : f__law_picked_1 [.own (.lst ds), .frz (iL ns), .frz (.int n), .own (.lst (ns.map .int)), .no] = .ok (.ret (.new (.lst (acc.mergeSort.map .int))), [.own (.lst p'), .frz (iL ns), .frz (.int n), .own (.lst (left.map .int)), .no]) := by
    simp [f__law_picked_1, f__law_picked_s1, hlc, s1]
  have hF := (seq_step (t := f__law_picked_1) h0).trans h2
  refine ⟨p', acc.mergeSort (fun a b => decide (a ≤ b)), runF_ret hF rfl (fun _ h => by cases h), i1, by rw [List.length_mergeSort]; simp at i5; omega, fun x hx => ?_, msort_lt nd2⟩
  exact i3.mem_iff.mp (List.mem_append_left _ (List.mem_mergeSort.mp hx))
theorem picked_call {e : BV.Env} {i : Nat} {ds : List D} {ns : List Int} {n : Int} (he : e[i]? = some (.own (.lst ds))) (hp : PoolL ds) (hn : 0 ≤ n) (hl : ns.length ≤ 4000) (nd : ns.Nodup) :
    ∃ (ds' : List D) (out : List Int), callAs m__law_picked [.own i, .dat (iL ns), .dat (.int n)] e = .ok (.new (.lst (out.map .int)), e.set i (.own (.lst ds'))) ∧ PoolL ds' ∧ out.length = min n.toNat ns.length ∧ (∀ x ∈ out, x ∈ ns) ∧ out.Pairwise (· < ·) := by
  obtain ⟨ds', out, h1, h2, h3, h4, h5⟩ := picked_i hp hn hl nd
  exact ⟨ds', out, co3 he h1, h2, h3, h4, h5⟩
end K09
namespace K09
open PySem PySem.Spec PyProof.Rows L2 BV
/-- a term of a depth below n -/
def Tr (names : List Str) (some : List Int) : Nat → D → Prop
  | 0, _ => False
  | n + 1, d => d = .tuple [.str "rest"]
    ∨ (∃ ns : List Int, d = .tuple [.str "ask", iT ns] ∧ ns.length ≤ 3 ∧ ∀ x ∈ ns, x ∈ some)
    ∨ (∃ nm, d = .tuple [.str "call", .str nm] ∧ nm ∈ names)
    ∨ (∃ ts : List D, d = .tuple [.str "then", .tuple ts] ∧ ts.length ≤ 3 ∧ ∀ t ∈ ts, Tr names some n t)
    ∨ (∃ ts : List D, d = .tuple [.str "fork", .tuple ts] ∧ ts.length ≤ 3 ∧ ∀ t ∈ ts, Tr names some n t)
    ∨ (∃ (l : Int) (m t : D), d = .tuple [.str "round", .int l, m, t] ∧ 0 ≤ l ∧ l ≤ 12 ∧ (m = .none ∨ ∃ k : Int, m = .int k ∧ 0 ≤ k ∧ k ≤ 12) ∧ Tr names some n t)
theorem Tr.up {names : List Str} {some : List Int} : ∀ {n : Nat} {d : D}, Tr names some n d → Tr names some (n + 1) d
  | 0, _, h => h.elim
  | n + 1, d, h => by
    rcases h with h | h | h | ⟨ts, h1, h2, h3⟩ | ⟨ts, h1, h2, h3⟩ | ⟨l, m, t, h1, h2, h3, h4, h5⟩
    · exact Or.inl h
    · exact Or.inr (Or.inl h)
    · exact Or.inr (Or.inr (Or.inl h))
    · exact Or.inr (Or.inr (Or.inr (Or.inl ⟨ts, h1, h2, fun t ht => (h3 t ht).up⟩)))
    · exact Or.inr (Or.inr (Or.inr (Or.inr (Or.inl ⟨ts, h1, h2, fun t ht => (h3 t ht).up⟩))))
    · exact Or.inr (Or.inr (Or.inr (Or.inr (Or.inr ⟨l, m, t, h1, h2, h3, h4, h5.up⟩))))
theorem Tr.le {names : List Str} {some : List Int} {n m : Nat} {d : D} (h : Tr names some n d) (l : n ≤ m) : Tr names some m d := by
  induction l with
  | refl => exact h
  | step _ ih => exact ih.up
theorem Tr.names {a b : List Str} {some : List Int} (s : ∀ x ∈ a, x ∈ b) : ∀ {n : Nat} {d : D}, Tr a some n d → Tr b some n d
  | 0, _, h => h.elim
  | n + 1, d, h => by
    rcases h with h | h | ⟨nm, h, h2⟩ | ⟨ts, h1, h2, h3⟩ | ⟨ts, h1, h2, h3⟩ | ⟨l, m, t, h1, h2, h3, h4, h5⟩
    · exact Or.inl h
    · exact Or.inr (Or.inl h)
    · exact Or.inr (Or.inr (Or.inl ⟨nm, h, s nm h2⟩))
    · exact Or.inr (Or.inr (Or.inr (Or.inl ⟨ts, h1, h2, fun t ht => (h3 t ht).names s⟩)))
    · exact Or.inr (Or.inr (Or.inr (Or.inr (Or.inl ⟨ts, h1, h2, fun t ht => (h3 t ht).names s⟩))))
    · exact Or.inr (Or.inr (Or.inr (Or.inr (Or.inr ⟨l, m, t, h1, h2, h3, h4, h5.names s⟩))))
@[simp] theorem q_rest_rest : gEq (.str "rest") (.str "rest") = some (.frz (.bool true)) := by
  rw [gEq_str]
  rfl
@[simp] theorem q_rest_ask : gEq (.str "rest") (.str "ask") = some (.frz (.bool false)) := by
  rw [gEq_str]
  rfl
@[simp] theorem q_rest_call : gEq (.str "rest") (.str "call") = some (.frz (.bool false)) := by
  rw [gEq_str]
  rfl
@[simp] theorem q_rest_then : gEq (.str "rest") (.str "then") = some (.frz (.bool false)) := by
  rw [gEq_str]
  rfl
@[simp] theorem q_rest_fork : gEq (.str "rest") (.str "fork") = some (.frz (.bool false)) := by
  rw [gEq_str]
  rfl
@[simp] theorem q_rest_round : gEq (.str "rest") (.str "round") = some (.frz (.bool false)) := by
  rw [gEq_str]
  rfl
@[simp] theorem q_ask_rest : gEq (.str "ask") (.str "rest") = some (.frz (.bool false)) := by
  rw [gEq_str]
  rfl
@[simp] theorem q_ask_ask : gEq (.str "ask") (.str "ask") = some (.frz (.bool true)) := by
  rw [gEq_str]
  rfl
@[simp] theorem q_ask_call : gEq (.str "ask") (.str "call") = some (.frz (.bool false)) := by
  rw [gEq_str]
  rfl
@[simp] theorem q_ask_then : gEq (.str "ask") (.str "then") = some (.frz (.bool false)) := by
  rw [gEq_str]
  rfl
@[simp] theorem q_ask_fork : gEq (.str "ask") (.str "fork") = some (.frz (.bool false)) := by
  rw [gEq_str]
  rfl
@[simp] theorem q_ask_round : gEq (.str "ask") (.str "round") = some (.frz (.bool false)) := by
  rw [gEq_str]
  rfl
@[simp] theorem q_call_rest : gEq (.str "call") (.str "rest") = some (.frz (.bool false)) := by
  rw [gEq_str]
  rfl
@[simp] theorem q_call_ask : gEq (.str "call") (.str "ask") = some (.frz (.bool false)) := by
  rw [gEq_str]
  rfl
@[simp] theorem q_call_call : gEq (.str "call") (.str "call") = some (.frz (.bool true)) := by
  rw [gEq_str]
  rfl
@[simp] theorem q_call_then : gEq (.str "call") (.str "then") = some (.frz (.bool false)) := by
  rw [gEq_str]
  rfl
@[simp] theorem q_call_fork : gEq (.str "call") (.str "fork") = some (.frz (.bool false)) := by
  rw [gEq_str]
  rfl
@[simp] theorem q_call_round : gEq (.str "call") (.str "round") = some (.frz (.bool false)) := by
  rw [gEq_str]
  rfl
@[simp] theorem q_then_rest : gEq (.str "then") (.str "rest") = some (.frz (.bool false)) := by
  rw [gEq_str]
  rfl
@[simp] theorem q_then_ask : gEq (.str "then") (.str "ask") = some (.frz (.bool false)) := by
  rw [gEq_str]
  rfl
@[simp] theorem q_then_call : gEq (.str "then") (.str "call") = some (.frz (.bool false)) := by
  rw [gEq_str]
  rfl
@[simp] theorem q_then_then : gEq (.str "then") (.str "then") = some (.frz (.bool true)) := by
  rw [gEq_str]
  rfl
@[simp] theorem q_then_fork : gEq (.str "then") (.str "fork") = some (.frz (.bool false)) := by
  rw [gEq_str]
  rfl
@[simp] theorem q_then_round : gEq (.str "then") (.str "round") = some (.frz (.bool false)) := by
  rw [gEq_str]
  rfl
@[simp] theorem q_fork_rest : gEq (.str "fork") (.str "rest") = some (.frz (.bool false)) := by
  rw [gEq_str]
  rfl
@[simp] theorem q_fork_ask : gEq (.str "fork") (.str "ask") = some (.frz (.bool false)) := by
  rw [gEq_str]
  rfl
@[simp] theorem q_fork_call : gEq (.str "fork") (.str "call") = some (.frz (.bool false)) := by
  rw [gEq_str]
  rfl
@[simp] theorem q_fork_then : gEq (.str "fork") (.str "then") = some (.frz (.bool false)) := by
  rw [gEq_str]
  rfl
@[simp] theorem q_fork_fork : gEq (.str "fork") (.str "fork") = some (.frz (.bool true)) := by
  rw [gEq_str]
  rfl
@[simp] theorem q_fork_round : gEq (.str "fork") (.str "round") = some (.frz (.bool false)) := by
  rw [gEq_str]
  rfl
@[simp] theorem q_round_rest : gEq (.str "round") (.str "rest") = some (.frz (.bool false)) := by
  rw [gEq_str]
  rfl
@[simp] theorem q_round_ask : gEq (.str "round") (.str "ask") = some (.frz (.bool false)) := by
  rw [gEq_str]
  rfl
@[simp] theorem q_round_call : gEq (.str "round") (.str "call") = some (.frz (.bool false)) := by
  rw [gEq_str]
  rfl
@[simp] theorem q_round_then : gEq (.str "round") (.str "then") = some (.frz (.bool false)) := by
  rw [gEq_str]
  rfl
@[simp] theorem q_round_fork : gEq (.str "round") (.str "fork") = some (.frz (.bool false)) := by
  rw [gEq_str]
  rfl
@[simp] theorem q_round_round : gEq (.str "round") (.str "round") = some (.frz (.bool true)) := by
  rw [gEq_str]
  rfl
@[simp] theorem i_rest_ask : gIn (.str "rest") (.tuple [.str "ask", .str "rest"]) = some (.frz (.bool true)) := by
  have h1 : (("ask" : Str) = "rest") = False := by exact eq_false (by decide)
  have h2 : (("rest" : Str) = "rest") = True := by exact eq_true rfl
  unfold gIn
  simp [PyData.plainAll, PyData.plain, PyData.depthAll, PyData.depth, PyData.eqv, h1, h2]
@[simp] theorem i_rest_then : gIn (.str "rest") (.tuple [.str "then", .str "fork"]) = some (.frz (.bool false)) := by
  have h1 : (("then" : Str) = "rest") = False := by exact eq_false (by decide)
  have h2 : (("fork" : Str) = "rest") = False := by exact eq_false (by decide)
  unfold gIn
  simp [PyData.plainAll, PyData.plain, PyData.depthAll, PyData.depth, PyData.eqv, h1, h2]
@[simp] theorem i_ask_ask : gIn (.str "ask") (.tuple [.str "ask", .str "rest"]) = some (.frz (.bool true)) := by
  have h1 : (("ask" : Str) = "ask") = True := by exact eq_true rfl
  have h2 : (("rest" : Str) = "ask") = False := by exact eq_false (by decide)
  unfold gIn
  simp [PyData.plainAll, PyData.plain, PyData.depthAll, PyData.depth, PyData.eqv, h1, h2]
@[simp] theorem i_ask_then : gIn (.str "ask") (.tuple [.str "then", .str "fork"]) = some (.frz (.bool false)) := by
  have h1 : (("then" : Str) = "ask") = False := by exact eq_false (by decide)
  have h2 : (("fork" : Str) = "ask") = False := by exact eq_false (by decide)
  unfold gIn
  simp [PyData.plainAll, PyData.plain, PyData.depthAll, PyData.depth, PyData.eqv, h1, h2]
@[simp] theorem i_call_ask : gIn (.str "call") (.tuple [.str "ask", .str "rest"]) = some (.frz (.bool false)) := by
  have h1 : (("ask" : Str) = "call") = False := by exact eq_false (by decide)
  have h2 : (("rest" : Str) = "call") = False := by exact eq_false (by decide)
  unfold gIn
  simp [PyData.plainAll, PyData.plain, PyData.depthAll, PyData.depth, PyData.eqv, h1, h2]
@[simp] theorem i_call_then : gIn (.str "call") (.tuple [.str "then", .str "fork"]) = some (.frz (.bool false)) := by
  have h1 : (("then" : Str) = "call") = False := by exact eq_false (by decide)
  have h2 : (("fork" : Str) = "call") = False := by exact eq_false (by decide)
  unfold gIn
  simp [PyData.plainAll, PyData.plain, PyData.depthAll, PyData.depth, PyData.eqv, h1, h2]
@[simp] theorem i_then_ask : gIn (.str "then") (.tuple [.str "ask", .str "rest"]) = some (.frz (.bool false)) := by
  have h1 : (("ask" : Str) = "then") = False := by exact eq_false (by decide)
  have h2 : (("rest" : Str) = "then") = False := by exact eq_false (by decide)
  unfold gIn
  simp [PyData.plainAll, PyData.plain, PyData.depthAll, PyData.depth, PyData.eqv, h1, h2]
@[simp] theorem i_then_then : gIn (.str "then") (.tuple [.str "then", .str "fork"]) = some (.frz (.bool true)) := by
  have h1 : (("then" : Str) = "then") = True := by exact eq_true rfl
  have h2 : (("fork" : Str) = "then") = False := by exact eq_false (by decide)
  unfold gIn
  simp [PyData.plainAll, PyData.plain, PyData.depthAll, PyData.depth, PyData.eqv, h1, h2]
@[simp] theorem i_fork_ask : gIn (.str "fork") (.tuple [.str "ask", .str "rest"]) = some (.frz (.bool false)) := by
  have h1 : (("ask" : Str) = "fork") = False := by exact eq_false (by decide)
  have h2 : (("rest" : Str) = "fork") = False := by exact eq_false (by decide)
  unfold gIn
  simp [PyData.plainAll, PyData.plain, PyData.depthAll, PyData.depth, PyData.eqv, h1, h2]
@[simp] theorem i_fork_then : gIn (.str "fork") (.tuple [.str "then", .str "fork"]) = some (.frz (.bool true)) := by
  have h1 : (("then" : Str) = "fork") = False := by exact eq_false (by decide)
  have h2 : (("fork" : Str) = "fork") = True := by exact eq_true rfl
  unfold gIn
  simp [PyData.plainAll, PyData.plain, PyData.depthAll, PyData.depth, PyData.eqv, h1, h2]
@[simp] theorem i_round_ask : gIn (.str "round") (.tuple [.str "ask", .str "rest"]) = some (.frz (.bool false)) := by
  have h1 : (("ask" : Str) = "round") = False := by exact eq_false (by decide)
  have h2 : (("rest" : Str) = "round") = False := by exact eq_false (by decide)
  unfold gIn
  simp [PyData.plainAll, PyData.plain, PyData.depthAll, PyData.depth, PyData.eqv, h1, h2]
@[simp] theorem i_round_then : gIn (.str "round") (.tuple [.str "then", .str "fork"]) = some (.frz (.bool false)) := by
  have h1 : (("then" : Str) = "round") = False := by exact eq_false (by decide)
  have h2 : (("fork" : Str) = "round") = False := by exact eq_false (by decide)
  unfold gIn
  simp [PyData.plainAll, PyData.plain, PyData.depthAll, PyData.depth, PyData.eqv, h1, h2]
end K09
namespace K09
open PySem PySem.Spec PyProof.Rows L2 BV
@[simp] theorem sz0 : 0 ≤ sizeLine := zl 0
@[simp] theorem sz1 : 1 ≤ sizeLine := zl 1
@[simp] theorem sz2 : 2 ≤ sizeLine := zl 2
@[simp] theorem sz3 : 3 ≤ sizeLine := zl 3
@[simp] theorem sz4 : 4 ≤ sizeLine := zl 4
@[simp] theorem sz5 : 5 ≤ sizeLine := zl 5
@[simp] theorem sz6 : 6 ≤ sizeLine := zl 6
@[simp] theorem sz7 : 7 ≤ sizeLine := zl 7
@[simp] theorem sz8 : 8 ≤ sizeLine := zl 8
@[simp] theorem ixD_str (kvs : List (D × D)) (x : Str) : gIxD (.dict kvs) (.str x) = (getD' kvs (.inr x)).map .frz := rfl
theorem parts_0 {w : Str} {ds : List D} (h : w = "rest" ∨ w = "ask" ∨ w = "call") (e : BV.Env) : callAs m_parts_of [.dat (.tuple (.str w :: ds))] e = .ok (.frz (.tuple []), e) := by
  refine cd1 (runF_ret (e' := [.frz (.tuple (.str w :: ds))]) ?_ rfl (fun _ h => by cases h))
  rcases h with rfl | rfl | rfl <;> simp [f_parts_of, f_parts_of_1, f_parts_of_2, f_parts_of_s0, f_parts_of_s1, f_parts_of_s2]
theorem parts_t {w : Str} {ts : List D} (h : w = "then" ∨ w = "fork") (e : BV.Env) : callAs m_parts_of [.dat (.tuple [.str w, .tuple ts])] e = .ok (.frz (.tuple ts), e) := by
  refine cd1 (runF_ret (e' := [.frz (.tuple [.str w, .tuple ts])]) ?_ rfl (fun _ h => by cases h))
  rcases h with rfl | rfl <;> simp [f_parts_of, f_parts_of_1, f_parts_of_2, f_parts_of_s0, f_parts_of_s1, f_parts_of_s2]
@[simp] theorem at3 (a b c d : D) : atI [a, b, c, d] 3 = some d := rfl
@[simp] theorem at2 (a b c d : D) : atI [a, b, c, d] 2 = some c := rfl
theorem parts_r (a b t : D) (e : BV.Env) : callAs m_parts_of [.dat (.tuple [.str "round", a, b, t])] e = .ok (.frz (.tuple [t]), e) := by
  refine cd1 (runF_ret (e' := [.frz (.tuple [.str "round", a, b, t])]) ?_ rfl (fun _ h => by cases h))
  simp [f_parts_of, f_parts_of_1, f_parts_of_2, f_parts_of_s0, f_parts_of_s1, f_parts_of_s2]
/-- both tell the same -/
def RT (kvs : List (D × D)) (n : Nat) (d : D) (r : Int) : Prop := (∀ f, n ≤ f → mf_term_reach f [.frz d, .frz (.dict kvs)] = .ok (.frz (.int r), [.frz d, .frz (.dict kvs)])) ∧ (∀ f, n ≤ f → mf__law_reach f [.frz d, .frz (.dict kvs)] = .ok (.frz (.int r), [.frz d, .frz (.dict kvs)]))
theorem sum_map (ts : List D) (y : D → Int) : gSum (.list (ts.map fun t => .int (y t))) = some (.frz (.int (ts.map y).sum)) := by
  rw [show (ts.map fun t => PyData.int (y t)) = (ts.map y).map .int from by rw [List.map_map]; rfl]
  exact gSum_l _
theorem lcA {kvs : List (D × D)} {mr : Fn} {d : D} {ts : List D} {y : D → Int} (hl : ts.length ≤ 3) (hp : ∀ e, callAs m_parts_of [.dat d] e = .ok (.frz (.tuple ts), e)) (h : ∀ t ∈ ts, mr [.frz t, .frz (.dict kvs)] = .ok (.frz (.int (y t)), [.frz t, .frz (.dict kvs)])) :
    lc_term_reach_0 mr [.frz d, .frz (.dict kvs), .no, .no] = .ok (.new (.lst (ts.map fun t => .int (y t))), [.frz d, .frz (.dict kvs), .no, .no]) :=
  lc_all (e1 := [.frz d, .frz (.dict kvs), .no, .no]) (ds := ts) (fun t => .int (y t)) (by simp [hp]) (bare1 rfl) (zl _ (by omega)) fun t ht => by
    have := cd2 (e := [.frz d, .frz (.dict kvs), .no, .frz t]) (h t ht)
    exact ⟨[.frz d, .frz (.dict kvs), .no, .frz t], by simp [Tg.put], by simp [lcc_term_reach_0], by simp [lce_term_reach_0, this], by simp [wipeE]⟩
theorem lcB {kvs : List (D × D)} {mr : Fn} {w : Str} {ts : List D} {y : D → Int} (hl : ts.length ≤ 3) (h : ∀ t ∈ ts, mr [.frz t, .frz (.dict kvs)] = .ok (.frz (.int (y t)), [.frz t, .frz (.dict kvs)])) :
    lc__law_reach_0 mr [.frz (.tuple [.str w, .tuple ts]), .frz (.dict kvs), .no, .no] = .ok (.new (.lst (ts.map fun t => .int (y t))), [.frz (.tuple [.str w, .tuple ts]), .frz (.dict kvs), .no, .no]) :=
  lc_all (e1 := [.frz (.tuple [.str w, .tuple ts]), .frz (.dict kvs), .no, .no]) (ds := ts) (fun t => .int (y t)) (by simp) (bare1 rfl) (zl _ (by omega)) fun t ht => by
    have := cd2 (e := [.frz (.tuple [.str w, .tuple ts]), .frz (.dict kvs), .no, .frz t]) (h t ht)
    exact ⟨[.frz (.tuple [.str w, .tuple ts]), .frz (.dict kvs), .no, .frz t], by simp [Tg.put], by simp [lcc__law_reach_0], by simp [lce__law_reach_0, this], by simp [wipeE]⟩
theorem rt_one {kvs : List (D × D)} {n : Nat} {w : Str} {ds : List D} (h : w = "rest" ∨ w = "ask") : RT kvs (n + 1) (.tuple (.str w :: ds)) 1 := by
  constructor
  · rintro (_ | f) hf
    · omega
    · refine runF_ret (e' := [.frz (.tuple (.str w :: ds)), .frz (.dict kvs), .no, .no]) ?_ rfl (fun _ h => by cases h)
      rcases h with rfl | rfl <;> simp [f_term_reach, f_term_reach_1, f_term_reach_s0, f_term_reach_s1]
  · rintro (_ | f) hf
    · omega
    · refine runF_ret (e' := [.frz (.tuple (.str w :: ds)), .frz (.dict kvs), .no, .no]) ?_ rfl (fun _ h => by cases h)
      rcases h with rfl | rfl <;> simp [f__law_reach, f__law_reach_1, f__law_reach_s0, f__law_reach_s1]
theorem rt_call {kvs : List (D × D)} {n : Nat} {nm : Str} {r : Int} (h : getD' kvs (.inr nm) = some (.int r)) : RT kvs (n + 1) (.tuple [.str "call", .str nm]) r := by
  constructor
  · rintro (_ | f) hf
    · omega
    · refine runF_ret (e' := [.frz (.tuple [.str "call", .str nm]), .frz (.dict kvs), .no, .no]) ?_ rfl (fun _ h => by cases h)
      simp [f_term_reach, f_term_reach_s0, h]
  · rintro (_ | f) hf
    · omega
    · refine runF_ret (e' := [.frz (.tuple [.str "call", .str nm]), .frz (.dict kvs), .no, .no]) ?_ rfl (fun _ h => by cases h)
      simp [f__law_reach, f__law_reach_s0, h]
theorem rt_then {kvs : List (D × D)} {n : Nat} {ts : List D} {y : D → Int} (hl : ts.length ≤ 3) (h : ∀ t ∈ ts, RT kvs n t (y t)) : RT kvs (n + 1) (.tuple [.str "then", .tuple ts]) (ts.map y).sum := by
  constructor
  · rintro (_ | f) hf
    · omega
    · have h1 := lcA (kvs := kvs) (mr := mf_term_reach f) hl (parts_t (Or.inl rfl)) fun t ht => (h t ht).1 f (by omega)
      refine runF_ret (e' := [.frz (.tuple [.str "then", .tuple ts]), .frz (.dict kvs), .frz (.int (ts.map y).sum), .no]) ?_ rfl (fun _ h => by cases h)
      simp [f_term_reach, f_term_reach_1, f_term_reach_2, f_term_reach_3, f_term_reach_s0, f_term_reach_s1, f_term_reach_s2, f_term_reach_s3, h1, sum_map]
  · rintro (_ | f) hf
    · omega
    · have h1 := lcB (kvs := kvs) (mr := mf__law_reach f) (w := "then") hl fun t ht => (h t ht).2 f (by omega)
      refine runF_ret (e' := [.frz (.tuple [.str "then", .tuple ts]), .frz (.dict kvs), .no, .no]) ?_ rfl (fun _ h => by cases h)
      simp [f__law_reach, f__law_reach_1, f__law_reach_2, f__law_reach_3, f__law_reach_s0, f__law_reach_s1, f__law_reach_s2, f__law_reach_s3, h1, sum_map]
theorem rt_fork {kvs : List (D × D)} {n : Nat} {ts : List D} {y : D → Int} (hl : ts.length ≤ 3) (h : ∀ t ∈ ts, RT kvs n t (y t)) : RT kvs (n + 1) (.tuple [.str "fork", .tuple ts]) (1 + (ts.map y).sum) := by
  constructor
  · rintro (_ | f) hf
    · omega
    · have h1 := lcA (kvs := kvs) (mr := mf_term_reach f) hl (parts_t (Or.inr rfl)) fun t ht => (h t ht).1 f (by omega)
      refine runF_ret (e' := [.frz (.tuple [.str "fork", .tuple ts]), .frz (.dict kvs), .frz (.int (ts.map y).sum), .no]) ?_ rfl (fun _ h => by cases h)
      simp [f_term_reach, f_term_reach_1, f_term_reach_2, f_term_reach_3, f_term_reach_4, f_term_reach_s0, f_term_reach_s1, f_term_reach_s2, f_term_reach_s3, f_term_reach_s4, h1, sum_map]
  · rintro (_ | f) hf
    · omega
    · have h1 := lcB (kvs := kvs) (mr := mf__law_reach f) (w := "fork") hl fun t ht => (h t ht).2 f (by omega)
      refine runF_ret (e' := [.frz (.tuple [.str "fork", .tuple ts]), .frz (.dict kvs), .no, .no]) ?_ rfl (fun _ h => by cases h)
      simp [f__law_reach, f__law_reach_1, f__law_reach_2, f__law_reach_3, f__law_reach_s0, f__law_reach_s1, f__law_reach_s2, f__law_reach_s3, h1, sum_map]
theorem rt_none {kvs : List (D × D)} {n : Nat} {t : D} {l y : Int} (l0 : 0 ≤ l) (l1 : l ≤ 12) (h : RT kvs n t y) : RT kvs (n + 1) (.tuple [.str "round", .int l, .none, t]) (l * y + y + 1) := by
  have c1 : -18446744073709551616 < l ∧ l < 18446744073709551616 := by omega
  have c2 : -18446744073709551616 < l + 1 ∧ l + 1 < 18446744073709551616 := by omega
  constructor
  · rintro (_ | f) hf
    · omega
    · have h1 := lcA (kvs := kvs) (mr := mf_term_reach f) (ts := [t]) (y := fun _ => y) (by simp) (parts_r (.int l) .none t) fun u hu => by
        rw [List.mem_singleton] at hu
        subst hu
        exact h.1 f (by omega)
      have s1 : gSum (.list [.int y]) = some (.frz (.int y)) := by
        have := gSum_l [y]
        simpa using this
      have e1 : (l + 1) * y + 1 = l * y + y + 1 := by rw [Int.add_mul, Int.one_mul]
      refine runF_ret (e' := [.frz (.tuple [.str "round", .int l, .none, t]), .frz (.dict kvs), .frz (.int y), .no]) ?_ rfl (fun _ h => by cases h)
      simp [f_term_reach, f_term_reach_1, f_term_reach_2, f_term_reach_3, f_term_reach_4, f_term_reach_5, f_term_reach_s0, f_term_reach_s1, f_term_reach_s2, f_term_reach_s3, f_term_reach_s4, f_term_reach_s5, h1, s1, c2, e1, gIs, isN]
  · rintro (_ | f) hf
    · omega
    · have h1 := cd2 (e := [.frz (.tuple [.str "round", .int l, .none, t]), .frz (.dict kvs), .no, .no]) (h.2 f (by omega))
      refine runF_ret (e' := [.frz (.tuple [.str "round", .int l, .none, t]), .frz (.dict kvs), .frz (.int y), .no]) ?_ rfl (fun _ h => by cases h)
      simp [f__law_reach, f__law_reach_1, f__law_reach_2, f__law_reach_s0, f__law_reach_s1, f__law_reach_s2, h1, c1, gIs, isN]
theorem rt_most {kvs : List (D × D)} {n : Nat} {t : D} {l m y : Int} (m0 : 0 ≤ m) (m1 : m ≤ 12) (h : RT kvs n t y) : RT kvs (n + 1) (.tuple [.str "round", .int l, .int m, t]) (m * y + (m - l)) := by
  have c1 : -18446744073709551616 < m ∧ m < 18446744073709551616 := by omega
  constructor
  · rintro (_ | f) hf
    · omega
    · have h1 := lcA (kvs := kvs) (mr := mf_term_reach f) (ts := [t]) (y := fun _ => y) (by simp) (parts_r (.int l) (.int m) t) fun u hu => by
        rw [List.mem_singleton] at hu
        subst hu
        exact h.1 f (by omega)
      have s1 : gSum (.list [.int y]) = some (.frz (.int y)) := by
        have := gSum_l [y]
        simpa using this
      have e1 : m * y + m - l = m * y + (m - l) := by omega
      refine runF_ret (e' := [.frz (.tuple [.str "round", .int l, .int m, t]), .frz (.dict kvs), .frz (.int y), .no]) ?_ rfl (fun _ h => by cases h)
      simp [f_term_reach, f_term_reach_1, f_term_reach_2, f_term_reach_3, f_term_reach_4, f_term_reach_5, f_term_reach_6, f_term_reach_s0, f_term_reach_s1, f_term_reach_s2, f_term_reach_s3, f_term_reach_s4, f_term_reach_s5, f_term_reach_s6, h1, s1, c1, e1, gIs, isN]
  · rintro (_ | f) hf
    · omega
    · have h1 := cd2 (e := [.frz (.tuple [.str "round", .int l, .int m, t]), .frz (.dict kvs), .no, .no]) (h.2 f (by omega))
      refine runF_ret (e' := [.frz (.tuple [.str "round", .int l, .int m, t]), .frz (.dict kvs), .frz (.int y), .no]) ?_ rfl (fun _ h => by cases h)
      simp [f__law_reach, f__law_reach_1, f__law_reach_2, f__law_reach_s0, f__law_reach_s1, f__law_reach_s2, h1, c1, gIs, isN]
theorem reach_ok {names : List Str} {some : List Int} {kvs : List (D × D)} (hk : ∀ nm ∈ names, ∃ r : Int, getD' kvs (.inr nm) = .some (.int r)) : ∀ {n : Nat} {d : D}, Tr names some n d → ∃ r, RT kvs n d r
  | 0, _, h => h.elim
  | n + 1, d, h => by
    rcases h with rfl | ⟨ns, rfl, -, -⟩ | ⟨nm, rfl, h2⟩ | ⟨ts, rfl, h2, h3⟩ | ⟨ts, rfl, h2, h3⟩ | ⟨l, m, t, rfl, h2, h3, h4, h5⟩
    · exact ⟨_, rt_one (Or.inl rfl)⟩
    · exact ⟨_, rt_one (Or.inr rfl)⟩
    · obtain ⟨r, hr⟩ := hk nm h2
      exact ⟨r, rt_call hr⟩
    · exact ⟨_, rt_then (y := fun t => Classical.epsilon (RT kvs n t)) h2 fun t ht => Classical.epsilon_spec (reach_ok hk (h3 t ht))⟩
    · exact ⟨_, rt_fork (y := fun t => Classical.epsilon (RT kvs n t)) h2 fun t ht => Classical.epsilon_spec (reach_ok hk (h3 t ht))⟩
    · obtain ⟨y, hy⟩ := reach_ok hk h5
      rcases h4 with rfl | ⟨k, rfl, k0, k1⟩
      · exact ⟨_, rt_none h2 h3 hy⟩
      · exact ⟨_, rt_most k0 k1 hy⟩
end K09
namespace K09
open PySem PySem.Spec PyProof.Rows L2 BV
theorem forL_n {k : Nat} {t : Tg} {body : BV.Env → Out (Fl × BV.Env)} {d : D} {ds : List D} {e e1 e2 : BV.Env} (h1 : t.put k d e = some e1) (h2 : body e1 = .ok (.nx, e2)) : forL k t body (d :: ds) e = forL k t body ds e2 := by
  conv => lhs; unfold forL
  simp only [h1, h2]
def Rm (m : Fn) (d : D) (ns : List Int) : Prop := m [.frz d] = .ok (.new (.lst (ns.map .int)), [.frz d]) ∨ m [.frz d] = .ok (.frz (iL ns), [.frz d])
def RI (some : List Int) (n : Nat) (d : D) (ns : List Int) : Prop := (∀ f, n ≤ f → Rm (mf_rooms_in f) d ns) ∧ (∀ f, n ≤ f → Rm (mf__law_rooms_in f) d ns) ∧ ns.length ≤ 3 ^ n ∧ ∀ x ∈ ns, x ∈ some
theorem loopA {m : Fn} {d : D} {y : D → List Int} : ∀ (ts : List D) (acc : List Int) (x : Slot), (∀ t ∈ ts, Rm m t (y t)) → (acc ++ ts.flatMap y).length ≤ sizeLine →
    ∃ x', forL 1 (.name 2) (f_rooms_in_2b m) ts [.frz d, .own (.lst (acc.map .int)), x] = .ok (.nx, [.frz d, .own (.lst ((acc ++ ts.flatMap y).map .int)), x'])
  | [], acc, x, _, _ => ⟨x, by simp [forL]⟩
  | t :: ts, acc, x, h, hl => by
    rw [List.flatMap_cons, ← List.append_assoc] at hl ⊢
    obtain ⟨x', hx⟩ := loopA ts (acc ++ y t) (.frz t) (fun u hu => h u (List.mem_cons_of_mem _ hu)) hl
    have hz : acc.length + (y t).length ≤ sizeLine := by
      simp only [List.length_append] at hl
      omega
    exact ⟨x', (forL_n (e1 := [.frz d, .own (.lst (acc.map .int)), .frz t]) (e2 := [.frz d, .own (.lst ((acc ++ y t).map .int)), .frz t]) (by simp [Tg.put]) (by
      rcases h t List.mem_cons_self with c | c
      · have c := cd1 (e := [.frz d, .own (.lst (acc.map .int)), .frz t]) c
        simp [f_rooms_in_2b, f_rooms_in_2b_s0, mExt, hz, c]
      · have c := cd1 (e := [.frz d, .own (.lst (acc.map .int)), .frz t]) c
        simp [f_rooms_in_2b, f_rooms_in_2b_s0, mExt, hz, c])).trans hx⟩
theorem loopB {m : Fn} {d q : D} {y : D → List Int} : ∀ (ts : List D) (acc : List Int) (x : Slot), (∀ t ∈ ts, Rm m t (y t)) → (acc ++ ts.flatMap y).length ≤ sizeLine →
    ∃ x', forL 1 (.name 3) (f__law_rooms_in_4b m) ts [.frz d, .frz q, .own (.lst (acc.map .int)), x] = .ok (.nx, [.frz d, .frz q, .own (.lst ((acc ++ ts.flatMap y).map .int)), x'])
  | [], acc, x, _, _ => ⟨x, by simp [forL]⟩
  | t :: ts, acc, x, h, hl => by
    rw [List.flatMap_cons, ← List.append_assoc] at hl ⊢
    obtain ⟨x', hx⟩ := loopB ts (acc ++ y t) (.frz t) (fun u hu => h u (List.mem_cons_of_mem _ hu)) hl
    have hz : acc.length + (y t).length ≤ sizeLine := by
      simp only [List.length_append] at hl
      omega
    exact ⟨x', (forL_n (e1 := [.frz d, .frz q, .own (.lst (acc.map .int)), .frz t]) (e2 := [.frz d, .frz q, .own (.lst ((acc ++ y t).map .int)), .frz t]) (by simp [Tg.put]) (by
      rcases h t List.mem_cons_self with c | c
      · have c := cd1 (e := [.frz d, .frz q, .own (.lst (acc.map .int)), .frz t]) c
        simp [f__law_rooms_in_4b, f__law_rooms_in_4b_s0, mExt, hz, c]
      · have c := cd1 (e := [.frz d, .frz q, .own (.lst (acc.map .int)), .frz t]) c
        simp [f__law_rooms_in_4b, f__law_rooms_in_4b_s0, mExt, hz, c])).trans hx⟩
theorem flat_len {ts : List D} {y : D → List Int} {b : Nat} (h : ∀ t ∈ ts, (y t).length ≤ b) : (ts.flatMap y).length ≤ ts.length * b := by
  induction ts with
  | nil => simp
  | cons t ts ih =>
    have h1 := h t List.mem_cons_self
    have h2 := ih fun u hu => h u (List.mem_cons_of_mem _ hu)
    simp only [List.flatMap_cons, List.length_append, List.length_cons, Nat.add_mul, Nat.one_mul]
    omega
/-- the first def, over the parts it is told -/
theorem rmA {m : Fn} {w : Str} {ds ts : List D} {y : D → List Int} (hw : gEq (.str w) (.str "ask") = some (.frz (.bool false))) (hp : ∀ e, callAs m_parts_of [.dat (.tuple (.str w :: ds))] e = .ok (.frz (.tuple ts), e)) (h : ∀ t ∈ ts, Rm m t (y t)) (hl : (ts.flatMap y).length ≤ sizeLine) :
    Rm (runF 1 3 (f_rooms_in m)) (.tuple (.str w :: ds)) (ts.flatMap y) := by
  have h0 : f_rooms_in_s0 m [.frz (.tuple (.str w :: ds)), .no, .no] = .ok (.nx, [.frz (.tuple (.str w :: ds)), .no, .no]) := by
    simp [f_rooms_in_s0, hw]
  have h1 : f_rooms_in_s1 m [.frz (.tuple (.str w :: ds)), .no, .no] = .ok (.nx, [.frz (.tuple (.str w :: ds)), .own (.lst []), .no]) := by
    simp [f_rooms_in_s1]
  obtain ⟨x', hf⟩ := loopA (m := m) (d := .tuple (.str w :: ds)) ts [] .no h (by simpa using hl)
  rw [List.nil_append] at hf
  have h2 : f_rooms_in_s2 m [.frz (.tuple (.str w :: ds)), .own (.lst []), .no] = _ := (sFor_eq (e1 := [.frz (.tuple (.str w :: ds)), .own (.lst []), .no]) (by simp [hp, itemsD]) (by simp [keepsK])).trans hf
  have h3 : f_rooms_in_3 m [.frz (.tuple (.str w :: ds)), .own (.lst ((ts.flatMap y).map .int)), x'] = .ok (.ret (.frz (iL (ts.flatMap y))), [.frz (.tuple (.str w :: ds)), .frz (iL (ts.flatMap y)), x']) := by
    simp [f_rooms_in_3, f_rooms_in_s3, keepsB_refl]
  have hF := (seq_step (t := f_rooms_in_1 m) h0).trans ((seq_step (t := f_rooms_in_2 m) h1).trans ((seq_step (t := f_rooms_in_3 m) h2).trans h3))
  exact Or.inr (runF_ret hF rfl (fun _ h => by cases h))
/-- the law's own, the parts as list -/
theorem rmB {m : Fn} {d q : D} {ts : List D} {y : D → List Int} {o : Slot} (ho : o = .frz (.list ts) ∨ o = .own (.lst ts)) (h0 : f__law_rooms_in_s0 m [.frz d, .no, .no, .no] = .ok (.nx, [.frz d, .no, .no, .no])) (h1 : f__law_rooms_in_s1 m [.frz d, .no, .no, .no] = .ok (.nx, [.frz d, .frz q, .no, .no]))
    (h2 : f__law_rooms_in_s2 m [.frz d, .frz q, .no, .no] = .ok (.nx, [.frz d, o, .no, .no])) (h : ∀ t ∈ ts, Rm m t (y t)) (hl : (ts.flatMap y).length ≤ sizeLine) :
    Rm (runF 1 4 (f__law_rooms_in m)) d (ts.flatMap y) := by
  have h3 : f__law_rooms_in_s3 m [.frz d, o, .no, .no] = .ok (.nx, [.frz d, o, .own (.lst []), .no]) := by
    simp [f__law_rooms_in_s3]
  obtain ⟨x', hf⟩ := loopB (m := m) (d := d) (q := .list ts) ts [] .no h (by simpa using hl)
  rw [List.nil_append] at hf
  have h4 : f__law_rooms_in_s4 m [.frz d, o, .own (.lst []), .no] = _ := (sFor_eq (e1 := [.frz d, .frz (.list ts), .own (.lst []), .no]) (by rcases ho with rfl | rfl <;> simp [itemsD, keepsB_refl]) (by rcases ho with rfl | rfl <;> simp [keepsK])).trans hf
  have h5 : f__law_rooms_in_5 m [.frz d, .frz (.list ts), .own (.lst ((ts.flatMap y).map .int)), x'] = .ok (.ret (.frz (iL (ts.flatMap y))), [.frz d, .frz (.list ts), .frz (iL (ts.flatMap y)), x']) := by
    simp [f__law_rooms_in_5, f__law_rooms_in_s5, keepsB_refl]
  have hF := (seq_step (t := f__law_rooms_in_1 m) h0).trans ((seq_step (t := f__law_rooms_in_2 m) h1).trans ((seq_step (t := f__law_rooms_in_3 m) h2).trans ((seq_step (t := f__law_rooms_in_4 m) h3).trans ((seq_step (t := f__law_rooms_in_5 m) h4).trans h5))))
  exact Or.inr (runF_ret hF rfl (fun _ h => by cases h))
theorem cutL1 (a : D) : cutD [a] (some (-1)) none = [a] := rfl
theorem cutL2 (a b : D) : cutD [a, b] (some (-1)) none = [b] := rfl
theorem cutL4 (a b c d : D) : cutD [a, b, c, d] (some (-1)) none = [d] := rfl
theorem at20 (a b : D) : atI [a, b] 0 = some a := rfl
theorem pow3 {n : Nat} (h : n ≤ 7) : 3 ^ n ≤ 2187 := Nat.le_trans (Nat.pow_le_pow_right (by omega) h) (by decide)
theorem ri_none {some : List Int} {n : Nat} {w : Str} {ds : List D} {q : D} (h : w = "rest" ∨ w = "call") (hq : cutD (.str w :: ds) (.some (-1)) none = [q]) : RI some (n + 1) (.tuple (.str w :: ds)) [] := by
  refine ⟨?_, ?_, by simp, by simp⟩
  · rintro (_ | f) hf
    · omega
    · exact rmA (ts := []) (y := fun _ => []) (by rcases h with rfl | rfl <;> simp) (parts_0 (by rcases h with rfl | rfl <;> simp)) (by simp) (by simp)
  · rintro (_ | f) hf
    · omega
    · refine rmB (m := mf__law_rooms_in f) (q := .list []) (ts := []) (y := fun _ => []) (o := .frz (.list [])) (Or.inl rfl) ?_ ?_ ?_ (by simp) (by simp)
      · rcases h with rfl | rfl <;> simp [f__law_rooms_in_s0]
      · rcases h with rfl | rfl <;> simp [f__law_rooms_in_s1, hq]
      · rcases h with rfl | rfl <;> simp [f__law_rooms_in_s2]
theorem ri_ask {some : List Int} {n : Nat} {ns : List Int} (hl : ns.length ≤ 3) (h : ∀ x ∈ ns, x ∈ some) : RI some (n + 1) (.tuple [.str "ask", iT ns]) ns := by
  refine ⟨?_, ?_, Nat.le_trans hl (by rw [Nat.pow_succ]; have := Nat.pow_pos (n := n) (show 0 < 3 by omega); omega), h⟩
  · rintro (_ | f) hf
    · omega
    · refine Or.inl (runF_ret (e' := [.frz (.tuple [.str "ask", iT ns]), .no, .no]) ?_ rfl (fun _ h => by cases h))
      simp [f_rooms_in, f_rooms_in_s0]
  · rintro (_ | f) hf
    · omega
    · refine Or.inl (runF_ret (e' := [.frz (.tuple [.str "ask", iT ns]), .no, .no, .no]) ?_ rfl (fun _ h => by cases h))
      simp [f__law_rooms_in, f__law_rooms_in_s0]
theorem ri_list {some : List Int} {n : Nat} {w : Str} {ts : List D} {y : D → List Int} (hw : w = "then" ∨ w = "fork") (hn : n + 1 ≤ 7) (hl : ts.length ≤ 3) (h : ∀ t ∈ ts, RI some n t (y t)) : RI some (n + 1) (.tuple [.str w, .tuple ts]) (ts.flatMap y) := by
  have hp := pow3 hn
  have l1 : (ts.flatMap y).length ≤ 3 ^ (n + 1) := by
    refine Nat.le_trans (flat_len fun t ht => (h t ht).2.2.1) ?_
    rw [Nat.pow_succ, Nat.mul_comm]
    exact Nat.mul_le_mul_left _ hl
  refine ⟨?_, ?_, l1, fun x hx => ?_⟩
  · rintro (_ | f) hf
    · omega
    · exact rmA (by rcases hw with rfl | rfl <;> simp) (parts_t hw) (fun t ht => (h t ht).1 f (by omega)) (zl _ (by omega))
  · rintro (_ | f) hf
    · omega
    · refine rmB (m := mf__law_rooms_in f) (q := .list []) (o := .own (.lst ts)) (Or.inr rfl) ?_ ?_ ?_ (fun t ht => (h t ht).2.1 f (by omega)) (zl _ (by omega))
      · rcases hw with rfl | rfl <;> simp [f__law_rooms_in_s0]
      · rcases hw with rfl | rfl <;> simp [f__law_rooms_in_s1, cutL2]
      · rcases hw with rfl | rfl <;> simp [f__law_rooms_in_s2]
  · obtain ⟨t, ht, hx⟩ := List.mem_flatMap.mp hx
    exact (h t ht).2.2.2 x hx
theorem ri_round {some : List Int} {n : Nat} {a b t : D} {ns : List Int} (hn : n + 1 ≤ 7) (h : RI some n t ns) : RI some (n + 1) (.tuple [.str "round", a, b, t]) ns := by
  have hp := pow3 hn
  have l1 := h.2.2.1
  have l2 : 3 ^ n ≤ 3 ^ (n + 1) := Nat.pow_le_pow_right (by omega) (by omega)
  have e : [t].flatMap (fun _ => ns) = ns := by simp
  refine ⟨?_, ?_, Nat.le_trans l1 l2, h.2.2.2⟩
  · rintro (_ | f) hf
    · omega
    · have := rmA (m := mf_rooms_in f) (ts := [t]) (y := fun _ => ns) (w := "round") (by simp) (parts_r a b t) (fun u hu => by
        rw [List.mem_singleton] at hu
        subst hu
        exact h.1 f (by omega)) (by rw [e]; exact zl _ (by omega))
      rw [e] at this
      exact this
  · rintro (_ | f) hf
    · omega
    · have := rmB (m := mf__law_rooms_in f) (d := .tuple [.str "round", a, b, t]) (q := .list [t]) (ts := [t]) (y := fun _ => ns) (o := .frz (.list [t])) (Or.inl rfl) (by simp [f__law_rooms_in_s0]) (by simp [f__law_rooms_in_s1, cutL4]) (by simp [f__law_rooms_in_s2]) (fun u hu => by
        rw [List.mem_singleton] at hu
        subst hu
        exact h.2.1 f (by omega)) (by rw [e]; exact zl _ (by omega))
      rw [e] at this
      exact this
theorem rooms_ok {names : List Str} {some : List Int} : ∀ {n : Nat} {d : D}, n ≤ 7 → Tr names some n d → ∃ ns, RI some n d ns
  | 0, _, _, h => h.elim
  | n + 1, d, hn, h => by
    rcases h with rfl | ⟨ns, rfl, h2, h3⟩ | ⟨nm, rfl, h2⟩ | ⟨ts, rfl, h2, h3⟩ | ⟨ts, rfl, h2, h3⟩ | ⟨l, m, t, rfl, h2, h3, h4, h5⟩
    · exact ⟨_, ri_none (Or.inl rfl) (cutL1 _)⟩
    · exact ⟨_, ri_ask h2 h3⟩
    · exact ⟨_, ri_none (Or.inr rfl) (cutL2 _ _)⟩
    · exact ⟨_, ri_list (y := fun t => Classical.epsilon (RI some n t)) (Or.inl rfl) hn h2 fun t ht => Classical.epsilon_spec (rooms_ok (by omega) (h3 t ht))⟩
    · exact ⟨_, ri_list (y := fun t => Classical.epsilon (RI some n t)) (Or.inr rfl) hn h2 fun t ht => Classical.epsilon_spec (rooms_ok (by omega) (h3 t ht))⟩
    · obtain ⟨ns, hns⟩ := rooms_ok (by omega) h5
      exact ⟨_, ri_round hn hns⟩
end K09
namespace K09
open PySem PySem.Spec PyProof.Rows L2 BV
def Steps (k : Nat) (t : Tg) (body : BV.Env → Out (Fl × BV.Env)) : List D → BV.Env → BV.Env → Prop
  | [], e, e1 => e = e1
  | d :: ds, e, e1 => ∃ e2 e3, t.put k d e = some e2 ∧ body e2 = .ok (.nx, e3) ∧ Steps k t body ds e3 e1
theorem Steps.app {k : Nat} {t : Tg} {body : BV.Env → Out (Fl × BV.Env)} : ∀ {ds es : List D} {e e1 e2 : BV.Env}, Steps k t body ds e e1 → Steps k t body es e1 e2 → Steps k t body (ds ++ es) e e2
  | [], _, _, _, _, h, g => by
    have : _ = _ := h
    subst this
    exact g
  | d :: ds, _, _, _, _, ⟨a, b, h1, h2, h3⟩, g => ⟨a, b, h1, h2, h3.app g⟩
theorem Steps.run {k : Nat} {t : Tg} {body : BV.Env → Out (Fl × BV.Env)} : ∀ {ds : List D} {e e1 : BV.Env}, Steps k t body ds e e1 → forL k t body ds e = .ok (.nx, e1)
  | [], _, _, h => by
    have : _ = _ := h
    subst this
    simp [forL]
  | d :: ds, _, _, ⟨a, b, h1, h2, h3⟩ => (forL_n h1 h2).trans h3.run
abbrev itD (p : Str × D) : D := .tuple [.str p.1, p.2]
abbrev prD (ps : List (Str × D)) : D := .list (ps.map itD)
def PrOk (some : List Int) (n : Nat) : List (Str × D) → Prop
  | [] => True
  | p :: ps => Tr (ps.map (·.1)) some n p.2 ∧ PrOk some n ps
theorem find_upd (kvs : List (D × D)) (k j : Key) (d : D) : (kvs.map fun p => if isKey k p.1 = true then (p.1, d) else p).find? (fun p => isKey j p.1) = (kvs.find? fun p => isKey j p.1).map fun p => if isKey k p.1 = true then (p.1, d) else p := by
  rw [List.find?_map]
  congr 2
  funext p
  simp only [Function.comp]
  split <;> rfl
theorem getD_put (kvs : List (D × D)) (x : Str) (d : D) : getD' (putD kvs (.inr x) d) (.inr x) = some d := by
  unfold getD' putD
  split
  · rename_i h
    rw [find_upd]
    obtain ⟨p, h1, h2⟩ := List.any_eq_true.mp h
    cases hf : kvs.find? fun p => isKey (.inr x) p.1 with
    | none =>
      have := List.find?_eq_none.mp hf p h1
      exact absurd h2 this
    | some q =>
      have := List.find?_some hf
      simp only [Option.map_some, this, if_true]
  · rename_i h
    have hn : (kvs.find? fun p => isKey (.inr x) p.1) = none := List.find?_eq_none.mpr fun p hp h2 => h (List.any_eq_true.mpr ⟨p, hp, h2⟩)
    have hk : isKey (.inr x) (keyD (.inr x)) = true := by rw [isKey_keyD]; simp
    rw [List.find?_append, hn]
    simp [hk]
theorem getD_put2 (kvs : List (D × D)) (x y : Str) (d d' : D) (h : getD' kvs (.inr y) = some d') : ∃ d'', getD' (putD kvs (.inr x) d) (.inr y) = some d'' ∧ (d'' = d ∨ d'' = d') := by
  unfold getD' at h
  cases hf : kvs.find? fun p => isKey (.inr y) p.1 with
  | none =>
    rw [hf] at h
    cases h
  | some q =>
    rw [hf] at h
    cases h
    unfold getD' putD
    split
    · rw [find_upd, hf]
      simp only [Option.map_some]
      split
      · exact ⟨_, rfl, Or.inl rfl⟩
      · exact ⟨_, rfl, Or.inr rfl⟩
    · rw [List.find?_append, hf]
      exact ⟨_, rfl, Or.inr rfl⟩
theorem putD_len (kvs : List (D × D)) (k : Key) (d : D) : (putD kvs k d).length ≤ kvs.length + 1 := by
  unfold putD
  split <;> simp
theorem stA {kvs : List (D × D)} {n : Nat} {nm : Str} {t P : D} {r : Int} {x2 x3 : Slot} (h : RT kvs n t r) (hn : n ≤ 8) (hl : kvs.length ≤ 100) : Steps 1 (.tup [2, 3]) f_reaches_of_1b [itD (nm, t)] [.frz P, .own (.dic kvs), x2, x3] [.frz P, .own (.dic (putD kvs (.inr nm) (.int r))), .frz (.str nm), .frz t] := by
  have c : callP m_term_reach [.dat t, .own 1] [.frz P, .own (.dic kvs), .frz (.str nm), .frz t] = .ok (.frz (.int r), [.frz P, .own (.dic kvs), .frz (.str nm), .frz t]) := callP_ok (ds := [t, .dict kvs]) rfl (h.1 8 hn) rfl
  have hz : kvs.length < sizeLine := Nat.lt_of_lt_of_le (Nat.lt_succ_self _) (zl _ (by omega))
  refine ⟨[.frz P, .own (.dic kvs), .frz (.str nm), .frz t], _, by simp [Tg.put, BV.putAll], ?_, rfl⟩
  simp [f_reaches_of_1b, f_reaches_of_1b_s0, c, hz]
theorem stB {kvs : List (D × D)} {n : Nat} {nm : Str} {t P : D} {r : Int} {x2 x3 : Slot} (h : RT kvs n t r) (hn : n ≤ 8) (hl : kvs.length ≤ 100) : Steps 1 (.tup [2, 3]) f__law_reaches_1b [itD (nm, t)] [.frz P, .own (.dic kvs), x2, x3] [.frz P, .own (.dic (putD kvs (.inr nm) (.int r))), .frz (.str nm), .frz t] := by
  have c : callP m__law_reach [.dat t, .own 1] [.frz P, .own (.dic kvs), .frz (.str nm), .frz t] = .ok (.frz (.int r), [.frz P, .own (.dic kvs), .frz (.str nm), .frz t]) := callP_ok (ds := [t, .dict kvs]) rfl (h.2 8 hn) rfl
  have hz : kvs.length < sizeLine := Nat.lt_of_lt_of_le (Nat.lt_succ_self _) (zl _ (by omega))
  refine ⟨[.frz P, .own (.dic kvs), .frz (.str nm), .frz t], _, by simp [Tg.put, BV.putAll], ?_, rfl⟩
  simp [f__law_reaches_1b, f__law_reaches_1b_s0, c, hz]
theorem steps_ok {some : List Int} {n : Nat} {P : D} (hn : n ≤ 8) : ∀ {ps : List (Str × D)}, PrOk some n ps → ps.length ≤ 50 → ∃ (kvs : List (D × D)) (x2 x3 : Slot),
    Steps 1 (.tup [2, 3]) f_reaches_of_1b (ps.map itD).reverse [.frz P, .own (.dic []), .no, .no] [.frz P, .own (.dic kvs), x2, x3] ∧
    Steps 1 (.tup [2, 3]) f__law_reaches_1b (ps.map itD).reverse [.frz P, .own (.dic []), .no, .no] [.frz P, .own (.dic kvs), x2, x3] ∧
    (∀ nm ∈ ps.map (·.1), ∃ r : Int, getD' kvs (.inr nm) = .some (.int r)) ∧ kvs.length ≤ ps.length
  | [], _, _ => ⟨[], .no, .no, rfl, rfl, by simp, by simp⟩
  | (nm, t) :: ps, ⟨h1, h2⟩, hl => by
    rw [List.length_cons] at hl
    obtain ⟨kvs, x2, x3, a1, a2, a3, a4⟩ := steps_ok (P := P) hn h2 (by omega)
    obtain ⟨r, hr⟩ := reach_ok a3 h1
    rw [List.map_cons, List.reverse_cons]
    refine ⟨_, _, _, a1.app (stA hr hn (by omega)), a2.app (stB hr hn (by omega)), ?_, ?_⟩
    · intro y hy
      rcases List.mem_cons.mp hy with rfl | hy
      · exact ⟨r, getD_put ..⟩
      · obtain ⟨r', hr'⟩ := a3 y hy
        obtain ⟨d'', g1, g2 | g2⟩ := getD_put2 kvs nm y (.int r) _ hr'
        · exact ⟨r, g2 ▸ g1⟩
        · exact ⟨r', g2 ▸ g1⟩
    · have := putD_len kvs (.inr nm) (.int r)
      rw [List.length_cons]
      omega
theorem reaches_a {ds : List D} {kvs : List (D × D)} {x2 x3 : Slot} (h : Steps 1 (.tup [2, 3]) f_reaches_of_1b ds.reverse [.frz (.list ds), .own (.dic []), .no, .no] [.frz (.list ds), .own (.dic kvs), x2, x3]) (e : BV.Env) : callAs m_reaches_of [.dat (.list ds)] e = .ok (.frz (.dict kvs), e) := by
  have h0 : f_reaches_of_s0 [.frz (.list ds), .no, .no, .no] = .ok (.nx, [.frz (.list ds), .own (.dic []), .no, .no]) := by
    simp [f_reaches_of_s0]
  have h1 : f_reaches_of_s1 [.frz (.list ds), .own (.dic []), .no, .no] = _ := (sFor_eq (e1 := [.frz (.list ds), .own (.dic []), .no, .no]) (by simp [itemsD, keepsB_refl]) (by simp [keepsK])).trans h.run
  have h2 : f_reaches_of_2 [.frz (.list ds), .own (.dic kvs), x2, x3] = .ok (.ret (.frz (.dict kvs)), [.frz (.list ds), .frz (.dict kvs), x2, x3]) := by
    simp [f_reaches_of_2, f_reaches_of_s2, keepsB_refl]
  exact cd1 (runF_ret ((seq_step (t := f_reaches_of_1) h0).trans ((seq_step (t := f_reaches_of_2) h1).trans h2)) rfl (fun _ h => by cases h))
theorem reaches_b {ds : List D} {kvs : List (D × D)} {x2 x3 : Slot} (h : Steps 1 (.tup [2, 3]) f__law_reaches_1b ds.reverse [.frz (.list ds), .own (.dic []), .no, .no] [.frz (.list ds), .own (.dic kvs), x2, x3]) (e : BV.Env) : callAs m__law_reaches [.dat (.list ds)] e = .ok (.frz (.dict kvs), e) := by
  have h0 : f__law_reaches_s0 [.frz (.list ds), .no, .no, .no] = .ok (.nx, [.frz (.list ds), .own (.dic []), .no, .no]) := by
    simp [f__law_reaches_s0]
  have h1 : f__law_reaches_s1 [.frz (.list ds), .own (.dic []), .no, .no] = _ := (sFor_eq (e1 := [.frz (.list ds), .own (.dic []), .no, .no]) (by simp [itemsD, keepsB_refl]) (by simp [keepsK])).trans h.run
  have h2 : f__law_reaches_2 [.frz (.list ds), .own (.dic kvs), x2, x3] = .ok (.ret (.frz (.dict kvs)), [.frz (.list ds), .frz (.dict kvs), x2, x3]) := by
    simp [f__law_reaches_2, f__law_reaches_s2, keepsB_refl]
  exact cd1 (runF_ret ((seq_step (t := f__law_reaches_1) h0).trans ((seq_step (t := f__law_reaches_2) h1).trans h2)) rfl (fun _ h => by cases h))
/-- the reach of a program -/
theorem reach_a {p : Str × D} {ps : List (Str × D)} {kvs : List (D × D)} {r : Int} (h : ∀ e, callAs m_reaches_of [.dat (prD (p :: ps))] e = .ok (.frz (.dict kvs), e)) (hr : getD' kvs (.inr p.1) = some (.int r)) (e : BV.Env) : callAs m_reach [.dat (prD (p :: ps))] e = .ok (.frz (.int r), e) := by
  refine cd1 (runF_ret (e' := [.frz (prD (p :: ps))]) ?_ rfl (fun _ h => by cases h))
  have := h [.frz (prD (p :: ps))]
  simp only [prD, List.map_cons] at this ⊢
  simp [f_reach, f_reach_s0, this, hr]
theorem reach_prog {some : List Int} {n : Nat} {p : Str × D} {ps : List (Str × D)} (hn : n ≤ 8) (h : PrOk some n (p :: ps)) (hl : (p :: ps).length ≤ 50) : ∃ (kvs : List (D × D)) (r : Int), (∀ e, callAs m_reach [.dat (prD (p :: ps))] e = .ok (.frz (.int r), e)) ∧ (∀ e, callAs m__law_reaches [.dat (prD (p :: ps))] e = .ok (.frz (.dict kvs), e)) ∧ getD' kvs (.inr p.1) = .some (.int r) := by
  obtain ⟨kvs, x2, x3, a1, a2, a3, _⟩ := steps_ok (P := prD (p :: ps)) hn h hl
  obtain ⟨r, hr⟩ := a3 p.1 (by simp)
  exact ⟨kvs, r, reach_a (reaches_a a1) hr, reaches_b a2, hr⟩
theorem reach_last {some : List Int} {n : Nat} {p : Str × D} (hn : n ≤ 8) (h : Tr [] some n p.2) : ∃ r : Int, (∀ e, callAs m_reach [.dat (prD [p])] e = .ok (.frz (.int r), e)) ∧ (∀ e, callAs m__law_reach [.dat p.2, .dat (.dict [])] e = .ok (.frz (.int r), e)) := by
  obtain ⟨r, hr⟩ := reach_ok (kvs := []) (fun nm h => by cases h) h
  exact ⟨r, reach_a (reaches_a (kvs := putD [] (.inr p.1) (.int r)) (x2 := .frz (.str p.1)) (x3 := .frz p.2) (stA (x2 := .no) (x3 := .no) hr hn (by simp))) (getD_put ..), fun e => cd2 (hr.2 8 hn)⟩
end K09
namespace K09
open PySem PySem.Spec PyProof.Rows L2 BV
theorem loopC {P : D} {y : Str × D → List Int} : ∀ (ps : List (Str × D)) (acc : List Int) (x2 x3 : Slot), (∀ p ∈ ps, Rm m_rooms_in p.2 (y p)) → (acc ++ ps.flatMap y).length ≤ sizeLine →
    ∃ x2' x3', forL 1 (.tup [2, 3]) f_rooms_of_1b (ps.map itD) [.frz P, .own (.lst (acc.map .int)), x2, x3] = .ok (.nx, [.frz P, .own (.lst ((acc ++ ps.flatMap y).map .int)), x2', x3'])
  | [], acc, x2, x3, _, _ => ⟨x2, x3, by simp [forL]⟩
  | p :: ps, acc, x2, x3, h, hl => by
    rw [List.flatMap_cons, ← List.append_assoc] at hl ⊢
    obtain ⟨x2', x3', hx⟩ := loopC ps (acc ++ y p) (.frz (.str p.1)) (.frz p.2) (fun u hu => h u (List.mem_cons_of_mem _ hu)) hl
    have hz : acc.length + (y p).length ≤ sizeLine := by
      simp only [List.length_append] at hl
      omega
    rw [List.map_cons]
    exact ⟨x2', x3', (forL_n (e1 := [.frz P, .own (.lst (acc.map .int)), .frz (.str p.1), .frz p.2]) (e2 := [.frz P, .own (.lst ((acc ++ y p).map .int)), .frz (.str p.1), .frz p.2]) (by simp [Tg.put, BV.putAll]) (by
      rcases h p List.mem_cons_self with c | c
      · have c := cd1 (e := [.frz P, .own (.lst (acc.map .int)), .frz (.str p.1), .frz p.2]) c
        simp [f_rooms_of_1b, f_rooms_of_1b_s0, mExt, hz, c]
      · have c := cd1 (e := [.frz P, .own (.lst (acc.map .int)), .frz (.str p.1), .frz p.2]) c
        simp [f_rooms_of_1b, f_rooms_of_1b_s0, mExt, hz, c])).trans hx⟩
theorem rooms_a {ps : List (Str × D)} {y : Str × D → List Int} (h : ∀ p ∈ ps, Rm m_rooms_in p.2 (y p)) (hl : (ps.flatMap y).length ≤ 4000) (h64 : (rising (ps.flatMap y)).length < 64) (e : BV.Env) : callAs m_rooms_of [.dat (prD ps)] e = .ok (.new (.lst ((rising (ps.flatMap y)).map .int)), e) := by
  have h0 : f_rooms_of_s0 [.frz (prD ps), .no, .no, .no] = .ok (.nx, [.frz (prD ps), .own (.lst []), .no, .no]) := by
    simp [f_rooms_of_s0]
  obtain ⟨x2, x3, hf⟩ := loopC (P := prD ps) ps [] .no .no h (zl _ (by simpa using hl))
  rw [List.nil_append] at hf
  have h1 : f_rooms_of_s1 [.frz (prD ps), .own (.lst []), .no, .no] = _ := (sFor_eq (e1 := [.frz (prD ps), .own (.lst []), .no, .no]) (by simp [itemsD]) (by simp [keepsK])).trans hf
  have h2 : f_rooms_of_2 [.frz (prD ps), .own (.lst ((ps.flatMap y).map .int)), x2, x3] = .ok (.ret (.new (.lst ((rising (ps.flatMap y)).map .int))), [.frz (prD ps), .own (.lst ((ps.flatMap y).map .int)), x2, x3]) := by
    simp [f_rooms_of_2, f_rooms_of_s2, gSortSet_l hl h64, keepsB_refl]
  exact cd1 (runF_ret ((seq_step (t := f_rooms_of_1) h0).trans ((seq_step (t := f_rooms_of_2) h1).trans h2)) rfl (fun _ h => by cases h))
theorem loopD {P : D} {y : Str × D → List Int} : ∀ (ps : List (Str × D)) (acc : List Int) (x2 x3 : Slot), (∀ p ∈ ps, Rm m__law_rooms_in p.2 (y p)) → (acc ++ ps.flatMap y).length ≤ sizeLine →
    ∃ x2' x3', forL 1 (.tup [2, 3]) f__law_all_rooms_1b (ps.map itD) [.frz P, .own (.lst (acc.map .int)), x2, x3] = .ok (.nx, [.frz P, .own (.lst ((acc ++ ps.flatMap y).map .int)), x2', x3'])
  | [], acc, x2, x3, _, _ => ⟨x2, x3, by simp [forL]⟩
  | p :: ps, acc, x2, x3, h, hl => by
    rw [List.flatMap_cons, ← List.append_assoc] at hl ⊢
    obtain ⟨x2', x3', hx⟩ := loopD ps (acc ++ y p) (.frz (.str p.1)) (.frz p.2) (fun u hu => h u (List.mem_cons_of_mem _ hu)) hl
    have hz : acc.length + (y p).length ≤ sizeLine := by
      simp only [List.length_append] at hl
      omega
    rw [List.map_cons]
    exact ⟨x2', x3', (forL_n (e1 := [.frz P, .own (.lst (acc.map .int)), .frz (.str p.1), .frz p.2]) (e2 := [.frz P, .own (.lst ((acc ++ y p).map .int)), .frz (.str p.1), .frz p.2]) (by simp [Tg.put, BV.putAll]) (by
      rcases h p List.mem_cons_self with c | c
      · have c := cd1 (e := [.frz P, .own (.lst (acc.map .int)), .frz (.str p.1), .frz p.2]) c
        simp [f__law_all_rooms_1b, f__law_all_rooms_1b_s0, mExt, hz, c]
      · have c := cd1 (e := [.frz P, .own (.lst (acc.map .int)), .frz (.str p.1), .frz p.2]) c
        simp [f__law_all_rooms_1b, f__law_all_rooms_1b_s0, mExt, hz, c])).trans hx⟩
theorem rooms_b {ps : List (Str × D)} {y : Str × D → List Int} (h : ∀ p ∈ ps, Rm m__law_rooms_in p.2 (y p)) (hl : (ps.flatMap y).length ≤ 4000) (h64 : (rising (ps.flatMap y)).length < 64) (e : BV.Env) : callAs m__law_all_rooms [.dat (prD ps)] e = .ok (.new (.lst ((rising (ps.flatMap y)).map .int)), e) := by
  have h0 : f__law_all_rooms_s0 [.frz (prD ps), .no, .no, .no] = .ok (.nx, [.frz (prD ps), .own (.lst []), .no, .no]) := by
    simp [f__law_all_rooms_s0]
  obtain ⟨x2, x3, hf⟩ := loopD (P := prD ps) ps [] .no .no h (zl _ (by simpa using hl))
  rw [List.nil_append] at hf
  have h1 : f__law_all_rooms_s1 [.frz (prD ps), .own (.lst []), .no, .no] = _ := (sFor_eq (e1 := [.frz (prD ps), .own (.lst []), .no, .no]) (by simp [itemsD]) (by simp [keepsK])).trans hf
  have h2 : f__law_all_rooms_2 [.frz (prD ps), .own (.lst ((ps.flatMap y).map .int)), x2, x3] = .ok (.ret (.new (.lst ((rising (ps.flatMap y)).map .int))), [.frz (prD ps), .own (.lst ((ps.flatMap y).map .int)), x2, x3]) := by
    simp [f__law_all_rooms_2, f__law_all_rooms_s2, gSortSet_l hl h64, keepsB_refl]
  exact cd1 (runF_ret ((seq_step (t := f__law_all_rooms_1) h0).trans ((seq_step (t := f__law_all_rooms_2) h1).trans h2)) rfl (fun _ h => by cases h))
theorem PrOk.tr {some : List Int} {n : Nat} : ∀ {ps : List (Str × D)}, PrOk some n ps → ∀ p ∈ ps, ∃ names, Tr names some n p.2
  | [], _, p, hp => by cases hp
  | q :: ps, ⟨h1, h2⟩, p, hp => by
    rcases List.mem_cons.mp hp with rfl | hp
    · exact ⟨_, h1⟩
    · exact h2.tr p hp
theorem rooms_prog {some : List Int} {n : Nat} {ps : List (Str × D)} (hn : n ≤ 7) (h : PrOk some n ps) (hl : ps.length * 3 ^ n ≤ 4000) (hs : some.length < 64) : ∃ ns : List Int, (∀ e, callAs m_rooms_of [.dat (prD ps)] e = .ok (.new (.lst (ns.map .int)), e)) ∧ (∀ e, callAs m__law_all_rooms [.dat (prD ps)] e = .ok (.new (.lst (ns.map .int)), e)) ∧ ns.length < 64 := by
  have hy : ∀ p ∈ ps, RI some n p.2 (Classical.epsilon (RI some n p.2)) := fun p hp => by
    obtain ⟨names, ht⟩ := h.tr p hp
    exact Classical.epsilon_spec (rooms_ok hn ht)
  have l1 : (ps.flatMap fun p => Classical.epsilon (RI some n p.2)).length ≤ 4000 := by
    refine Nat.le_trans ?_ hl
    clear hl h
    induction ps with
    | nil => simp
    | cons p ps ih =>
      have h1 := (hy p List.mem_cons_self).2.2.1
      have h2 := ih fun q hq => hy q (List.mem_cons_of_mem _ hq)
      simp only [List.flatMap_cons, List.length_append, List.length_cons, Nat.add_mul, Nat.one_mul]
      omega
  have l2 : (rising (ps.flatMap fun p => Classical.epsilon (RI some n p.2))).length < 64 := Nat.lt_of_le_of_lt (rising_len fun x hx => by
    obtain ⟨p, hp, hx⟩ := List.mem_flatMap.mp hx
    exact (hy p hp).2.2.2 x hx) hs
  exact ⟨_, rooms_a (fun p hp => (hy p hp).1 8 (by omega)) l1 l2, rooms_b (fun p hp => (hy p hp).2.1 8 (by omega)) l1 l2, l2⟩
/-! how a term is told -/
def Tb : Nat → Nat
  | 0 => 72
  | n + 1 => 6 * Tb n + 25
theorem Tb_ge : ∀ n, 72 ≤ Tb n
  | 0 => Nat.le_refl _
  | n + 1 => by
    have := Tb_ge n
    unfold Tb
    omega
theorem tell_w {w : Str} (h : (reprText w).length ≤ 30) : TellE 1 30 (.str w) := TellE.str h
def NmOk (x : Str) : Prop := (reprText x).length ≤ 72
theorem tell_nm {x : Str} (h : NmOk x) : TellE 1 72 (.str x) := ⟨rfl, by simp [PyData.depth], rfl, h⟩
theorem tr_tell {names : List Str} {some : List Int} (hs : ∀ x ∈ some, 0 ≤ x ∧ x ≤ 99) (hnm : ∀ x ∈ names, NmOk x) : ∀ {n : Nat} {d : D}, Tr names some n d → TellE (3 * n) (Tb n) d
  | 0, _, h => h.elim
  | n + 1, d, h => by
    have hb := Tb_ge n
    have hT : Tb (n + 1) = 6 * Tb n + 25 := rfl
    rcases h with rfl | ⟨ns, rfl, h2, h3⟩ | ⟨nm, rfl, h2⟩ | ⟨ts, rfl, h2, h3⟩ | ⟨ts, rfl, h2, h3⟩ | ⟨l, m, t, rfl, h2, h3, h4, h5⟩
    · exact (TellE.tuple (n := 1) (b := 30) (m := 1) (fun x hx => by
        rw [List.mem_singleton] at hx
        subst hx
        exact tell_w (by decide +kernel)) (by simp)).mono (by omega) (by omega)
    · exact (TellE.tuple (n := 2) (b := 99) (m := 2) (fun x hx => by
        simp only [List.mem_cons, List.not_mem_nil, or_false] at hx
        rcases hx with rfl | rfl
        · exact (tell_w (by decide +kernel)).mono (by omega) (by omega)
        · exact (TellE.tuple (n := 1) (b := 30) (m := 3) (fun x hx => by
            obtain ⟨i, hi, rfl⟩ := List.mem_map.mp hx
            have := hs i (h3 i hi)
            exact TellE.int (by omega)) (by simpa using h2)).mono (by omega) (by omega)) (by simp)).mono (by omega) (by omega)
    · exact (TellE.tuple (n := 1) (b := 72) (m := 2) (fun x hx => by
        simp only [List.mem_cons, List.not_mem_nil, or_false] at hx
        rcases hx with rfl | rfl
        · exact (tell_w (by decide +kernel)).mono (by omega) (by omega)
        · exact tell_nm (hnm nm h2)) (by simp)).mono (by omega) (by omega)
    · exact (TellE.tuple (n := 3 * n + 1) (b := 3 * (Tb n + 2) + 3) (m := 2) (fun x hx => by
        simp only [List.mem_cons, List.not_mem_nil, or_false] at hx
        rcases hx with rfl | rfl
        · exact (tell_w (by decide +kernel)).mono (by omega) (by omega)
        · exact TellE.tuple (fun t ht => tr_tell hs hnm (h3 t ht)) h2) (by simp)).mono (by omega) (by omega)
    · exact (TellE.tuple (n := 3 * n + 1) (b := 3 * (Tb n + 2) + 3) (m := 2) (fun x hx => by
        simp only [List.mem_cons, List.not_mem_nil, or_false] at hx
        rcases hx with rfl | rfl
        · exact (tell_w (by decide +kernel)).mono (by omega) (by omega)
        · exact TellE.tuple (fun t ht => tr_tell hs hnm (h3 t ht)) h2) (by simp)).mono (by omega) (by omega)
    · exact (TellE.tuple (n := 3 * n + 1) (b := Tb n) (m := 4) (fun x hx => by
        simp only [List.mem_cons, List.not_mem_nil, or_false] at hx
        rcases hx with rfl | rfl | rfl | rfl
        · exact (tell_w (by decide +kernel)).mono (by omega) (by omega)
        · exact (TellE.int (by omega)).mono (by omega) (by omega)
        · rcases h4 with rfl | ⟨k, rfl, k0, k1⟩
          · exact TellE.none.mono (by omega) (by omega)
          · exact (TellE.int (by omega)).mono (by omega) (by omega)
        · exact (tr_tell hs hnm h5).mono (by omega) (by omega)) (by simp)).mono (by omega) (by omega)
theorem prog_repr {some : List Int} (hs : ∀ x ∈ some, 0 ≤ x ∧ x ≤ 99) {n : Nat} {ps : List (Str × D)} (h : PrOk some n ps) (hnm : ∀ p ∈ ps, NmOk p.1) (hl : ps.length ≤ 8) (hn : n ≤ 5) (hb : ps.length * (2 * (Tb n + 2) + 3 + 2) + 3 ≤ 16777216) : gReprE (prD ps) = .some (.frz (.str (prD ps).shown)) := by
  have ht : ∀ (qs : List (Str × D)), PrOk some n qs → (∀ p ∈ qs, NmOk p.1) → ∀ p ∈ qs, TellE (3 * n + 1) (Tb n) p.2 := by
    intro qs
    induction qs with
    | nil => intro _ _ p hp; cases hp
    | cons q qs ih =>
      intro h hnm p hp
      rcases List.mem_cons.mp hp with rfl | hp
      · exact (tr_tell hs (fun x hx => by
          obtain ⟨r, hr, rfl⟩ := List.mem_map.mp hx
          exact hnm r (List.mem_cons_of_mem _ hr)) h.1).mono (by omega) (Nat.le_refl _)
      · exact ih h.2 (fun r hr => hnm r (List.mem_cons_of_mem _ hr)) p hp
  have hT := Tb_ge n
  refine (TellE.list (n := 3 * n + 2) (b := 2 * (Tb n + 2) + 3) (m := ps.length) (fun d hd => ?_) (by simp)).repr (by omega) hb
  obtain ⟨p, hp, rfl⟩ := List.mem_map.mp hd
  refine TellE.tuple (n := 3 * n + 1) (b := Tb n) (m := 2) (fun x hx => ?_) (by simp)
  simp only [List.mem_cons, List.not_mem_nil, or_false] at hx
  rcases hx with rfl | rfl
  · exact (tell_nm (hnm p hp)).mono (by omega) (by omega)
  · exact ht ps h hnm p hp
end K09
namespace K09
open PySem PySem.Spec PyProof.Rows L2 BV
def Sm (n : Nat) (x : Str) : Prop := x.length ≤ n ∧ ∀ c ∈ x.cps.toList, c < 1000
theorem Sm.nm {x : Str} (h : Sm 7 x) : NmOk x := by
  have := StrLaws.reprText_len x fun c hc => Nat.lt_trans (h.2 c hc) (by decide)
  have := h.1
  unfold NmOk
  omega
theorem Sm.app {a b : Str} {n m : Nat} (ha : Sm n a) (hb : Sm m b) : Sm (n + m) (a ++ b) := by
  refine ⟨?_, fun c hc => ?_⟩
  · have := ha.1
    have := hb.1
    rw [PySem.Str.length_append]
    omega
  · have hc : c ∈ (a.cps ++ b.cps).toList := hc
    rw [Array.toList_append] at hc
    rcases List.mem_append.mp hc with h | h
    · exact ha.2 c h
    · exact hb.2 c h
theorem atI_gen {α : Type} {xs : List α} {i : Int} (h0 : 0 ≤ i) (h1 : i < xs.length) : ∃ d, atI xs i = some d ∧ d ∈ xs := by
  unfold atI ixN
  have hl : i.toNat < xs.length := by omega
  rw [if_pos h0, if_pos h1]
  exact ⟨xs[i.toNat], by simp [hl], List.getElem_mem hl⟩
abbrev abc : Str := "abcdefghijklmnopqrstuvwxyz"
theorem abc_len : abc.cps.toList.length = 26 := by decide +kernel
theorem abc_len2 : abc.length ≤ sizeLine := zl _ (by decide +kernel)
theorem abc_sm : ∀ c ∈ abc.cps.toList, c < 1000 := by decide +kernel
theorem letter {i : Int} (h0 : 0 ≤ i) (h1 : i < 26) : ∃ x, gIx (.str abc) (.int i) = some (.frz (.str x)) ∧ Sm 1 x := by
  obtain ⟨c, hc, hm⟩ := atI_gen (xs := abc.cps.toList) h0 (by rw [abc_len]; exact h1)
  refine ⟨⟨#[c]⟩, ?_, Nat.le_refl _, fun d hd => ?_⟩
  · show (if abc.length ≤ sizeLine then (atI abc.cps.toList i).map (fun c => Val.frz (.str ⟨#[c]⟩)) else none) = _
    rw [if_pos abc_len2, hc]
    rfl
  · have hd : d ∈ [c] := hd
    rw [List.mem_singleton] at hd
    subst hd
    exact abc_sm d hm
theorem join_sm : ∀ (ys : List Str), (∀ y ∈ ys, Sm 1 y) → Sm ys.length (Str.join (Str.ofString "") ys)
  | [], _ => ⟨Nat.le_refl _, fun c hc => by cases hc⟩
  | [x], h => h x List.mem_cons_self
  | x :: y :: ys, h => by
    have h1 := h x List.mem_cons_self
    have h2 := join_sm (y :: ys) fun z hz => h z (List.mem_cons_of_mem _ hz)
    have e : Sm 0 (Str.ofString "") := ⟨by decide +kernel, by decide +kernel⟩
    have := (h1.app e).app h2
    rw [show 1 + 0 + (y :: ys).length = (x :: y :: ys).length by simp only [List.length_cons]; omega] at this
    exact this
theorem asStrs_map : ∀ ys : List Str, asStrs (ys.map .str) = some ys
  | [] => rfl
  | y :: ys => by
    rw [List.map_cons, asStrs, asStrs_map ys]
    rfl
theorem sum_le {ys : List Str} (h : ∀ y ∈ ys, Sm 1 y) : (ys.map (·.length)).sum ≤ ys.length := by
  induction ys with
  | nil => simp
  | cons y ys ih =>
    have h1 := (h y List.mem_cons_self).1
    have h2 := ih fun z hz => h z (List.mem_cons_of_mem _ hz)
    simp only [List.map_cons, List.sum_cons, List.length_cons]
    omega
theorem join_ok {ys : List Str} (h : ∀ y ∈ ys, Sm 1 y) (hl : ys.length ≤ 5) : ∃ x, gJoin (.str (Str.ofString "")) (.list (ys.map .str)) = some (.frz (.str x)) ∧ Sm 5 x := by
  have hj := join_sm ys h
  refine ⟨Str.join (Str.ofString "") ys, ?_, by have := hj.1; omega, hj.2⟩
  rw [gJoin_l]
  unfold joinG
  rw [asStrs_map]
  have := sum_le h
  have z : (Str.ofString "").length = 0 := by decide +kernel
  simp only [z, Nat.mul_zero, Nat.add_zero]
  rw [if_pos (by omega)]
  show some (Val.frz (.str (Builtin.Str.glued _ _))) = _
  rw [StrLaws.glued_eq_join]
theorem names_i {ds : List D} {n : Int} (hp : PoolL ds) (h0 : 0 ≤ n) (h1 : n ≤ 8) : ∃ (ds' : List D) (out : List Str), m__law_names [.own (.lst ds), .frz (.int n)] = .ok (.new (.lst (out.map .str)), [.own (.lst ds'), .frz (.int n)]) ∧ PoolL ds' ∧ out.length = n.toNat ∧ ∀ x ∈ out, NmOk x := by
  have s0 : f__law_names_s0 [.own (.lst ds), .frz (.int n), .no, .no, .no, .no] = .ok (.nx, [.own (.lst ds), .frz (.int n), .frz (.str abc), .no, .no, .no]) := by
    simp [f__law_names_s0]
  obtain ⟨r, p1, tc, pp1, r0, r1⟩ := take_call takes (e := [.own (.lst ds), .frz (.int n), .frz (.str abc), .no, .no, .no]) (i := 0) (n := 6) rfl hp (by omega) (by omega)
  simp at tc
  have hit : iR1 (fCall m__law_take [] (rOwn 0 (rDat (fC (.int 6)) rNil))) [.own (.lst ds), .frz (.int n), .frz (.str abc), .no, .no, .no] = .ok (rints 0 r.toNat, [.own (.lst p1), .frz (.int n), .frz (.str abc), .no, .no, .no]) := by
    have a1 : (-4611686018427387904 : Int) ≤ r := by omega
    have a2 : r < (4611686018427387904 : Int) := by omega
    simp [tc, a1, a2]
  obtain ⟨out, e', hl1, p2, ys, rfl, pp2, rfl, hy1, hy2⟩ := lcL_inv (c := lcc__law_names_0) (f := lce__law_names_0) (t := .name 5) (vs := [5])
    (fun rs out e => ∃ (p : List D) (ys : List Str), e = [.own (.lst p), .frz (.int n), .frz (.str abc), .no, .no, .no] ∧ PoolL p ∧ out = ys.map .str ∧ (∀ y ∈ ys, Sm 1 y) ∧ ys.length + rs.length = r.toNat)
    (rints 0 r.toNat) [] [.own (.lst p1), .frz (.int n), .frz (.str abc), .no, .no, .no] (by rw [rints_len]; exact small_len (by simp only [List.length_nil]; omega)) ⟨p1, [], rfl, pp1, rfl, by simp, by simp [rints_len]⟩ (by
      rintro d rs out e ⟨p, ys, rfl, q1, rfl, q2, q3⟩
      rw [List.length_cons] at q3
      obtain ⟨i, p', tc, pp, i0, i1⟩ := take_call takes (e := [.own (.lst p), .frz (.int n), .frz (.str abc), .no, .no, .frz d]) (i := 0) (n := 26) rfl q1 (by omega) (by omega)
      simp at tc
      obtain ⟨x, hx, sx⟩ := letter i0 i1
      refine ⟨[.own (.lst p), .frz (.int n), .frz (.str abc), .no, .no, .frz d], [.own (.lst p), .frz (.int n), .frz (.str abc), .no, .no, .frz d], true, by simp [Tg.put], by simp [lcc__law_names_0], Or.inl ⟨rfl, .str x, [.own (.lst p'), .frz (.int n), .frz (.str abc), .no, .no, .frz d], ?_, p', ys ++ [x], by simp [wipeE], pp, by simp, ?_, ?_⟩⟩
      · simp [lce__law_names_0, tc, hx]
      · intro y hy
        rcases List.mem_append.mp hy with hy | hy
        · exact q2 y hy
        · rw [List.mem_singleton] at hy
          subst hy
          exact sx
      · rw [List.length_append]
        simp only [List.length_cons, List.length_nil]
        omega)
  have hlc : lc__law_names_0 [.own (.lst ds), .frz (.int n), .frz (.str abc), .no, .no, .no] = .ok (.new (.lst (ys.map .str)), [.own (.lst p2), .frz (.int n), .frz (.str abc), .no, .no, .no]) := fLc_ok hit (bare1 rfl) hl1
  obtain ⟨stem, hst, sst⟩ := join_ok hy1 (by simp at hy2; omega)
  have s1 : f__law_names_s1 [.own (.lst ds), .frz (.int n), .frz (.str abc), .no, .no, .no] = .ok (.nx, [.own (.lst p2), .frz (.int n), .frz (.str abc), .frz (.str stem), .no, .no]) := by
    simp [f__law_names_s1, hlc, hst]
  obtain ⟨b, p3, tc3, pp3, b0, b1⟩ := take_call takes (e := [.own (.lst p2), .frz (.int n), .frz (.str abc), .frz (.str stem), .no, .no]) (i := 0) (n := 26) rfl pp2 (by omega) (by omega)
  simp at tc3
  have s2 : f__law_names_s2 [.own (.lst p2), .frz (.int n), .frz (.str abc), .frz (.str stem), .no, .no] = .ok (.nx, [.own (.lst p3), .frz (.int n), .frz (.str abc), .frz (.str stem), .frz (.int b), .no]) := by
    simp [f__law_names_s2, tc3]
  have hit2 : iR1 (fVar 1) [.own (.lst p3), .frz (.int n), .frz (.str abc), .frz (.str stem), .frz (.int b), .no] = .ok (rints 0 n.toNat, [.own (.lst p3), .frz (.int n), .frz (.str abc), .frz (.str stem), .frz (.int b), .no]) := by
    have a1 : (-4611686018427387904 : Int) ≤ n := by omega
    have a2 : n < (4611686018427387904 : Int) := by omega
    simp [a1, a2]
  obtain ⟨out2, e2, hl2, zs, rfl, rfl, hz1, hz2⟩ := lcL_inv (c := lcc__law_names_1) (f := lce__law_names_1) (t := .name 5) (vs := [5])
    (fun rs out e => ∃ (zs : List Str), e = [.own (.lst p3), .frz (.int n), .frz (.str abc), .frz (.str stem), .frz (.int b), .no] ∧ out = zs.map .str ∧ (∀ y ∈ zs, NmOk y) ∧ (zs.length + rs.length = n.toNat ∧ ∀ d ∈ rs, ∃ i : Int, d = .int i))
    (rints 0 n.toNat) [] [.own (.lst p3), .frz (.int n), .frz (.str abc), .frz (.str stem), .frz (.int b), .no] (by rw [rints_len]; exact small_len (by simp only [List.length_nil]; omega)) ⟨[], rfl, rfl, by simp, by simp [rints_len], fun d hd => by
      obtain ⟨i, hi, _⟩ := rints_in 0 n.toNat n.toNat (by omega) d hd
      exact ⟨i, hi⟩⟩ (by
      rintro d rs out e ⟨zs, rfl, rfl, q2, q3, q4⟩
      rw [List.length_cons] at q3
      obtain ⟨i, rfl⟩ := q4 d List.mem_cons_self
      obtain ⟨x, hx, sx⟩ := letter (Int.emod_nonneg (b + i) (show (26 : Int) ≠ 0 by decide)) (Int.emod_lt_of_pos (b + i) (show (0 : Int) < 26 by decide))
      have hz : stem.length + x.length ≤ sizeLine := zl _ (by have := sst.1; have := sx.1; omega)
      have hg : gAdd (.str stem) (.str x) = some (.frz (.str (stem ++ x))) := by
        show (if stem.length + x.length ≤ sizeLine then some (Val.frz (.str (stem ++ x))) else none) = _
        rw [if_pos hz]
      refine ⟨[.own (.lst p3), .frz (.int n), .frz (.str abc), .frz (.str stem), .frz (.int b), .frz (.int i)], [.own (.lst p3), .frz (.int n), .frz (.str abc), .frz (.str stem), .frz (.int b), .frz (.int i)], true, by simp [Tg.put], by simp [lcc__law_names_1], Or.inl ⟨rfl, .str (stem ++ x), [.own (.lst p3), .frz (.int n), .frz (.str abc), .frz (.str stem), .frz (.int b), .frz (.int i)], ?_, zs ++ [stem ++ x], by simp [wipeE], by simp, ?_, ?_, fun d hd => q4 d (List.mem_cons_of_mem _ hd)⟩⟩
      · simp [lce__law_names_1, hx, hg]
      · intro y hy
        rcases List.mem_append.mp hy with hy | hy
        · exact q2 y hy
        · rw [List.mem_singleton] at hy
          subst hy
          have := sst.app sx
          exact Sm.nm ⟨by have := this.1; omega, this.2⟩
      · rw [List.length_append]
        simp only [List.length_cons, List.length_nil]
        omega)
  have hlc2 : lc__law_names_1 [.own (.lst p3), .frz (.int n), .frz (.str abc), .frz (.str stem), .frz (.int b), .no] = .ok (.new (.lst (zs.map .str)), [.own (.lst p3), .frz (.int n), .frz (.str abc), .frz (.str stem), .frz (.int b), .no]) := fLc_ok hit2 (bare1 rfl) hl2
  have s3 : f__law_names_3 [.own (.lst p3), .frz (.int n), .frz (.str abc), .frz (.str stem), .frz (.int b), .no] = .ok (.ret (.new (.lst (zs.map .str))), [.own (.lst p3), .frz (.int n), .frz (.str abc), .frz (.str stem), .frz (.int b), .no]) := by
    simp [f__law_names_3, f__law_names_s3, hlc2, keepsB_refl]
  have hF := (seq_step (t := f__law_names_1) s0).trans ((seq_step (t := f__law_names_2) s1).trans ((seq_step (t := f__law_names_3) s2).trans s3))
  exact ⟨p3, zs, runF_ret hF rfl (fun _ h => by cases h), pp3, by simpa using hz2.1, hz1⟩
end K09
namespace K09
open PySem PySem.Spec PyProof.Rows L2 BV
theorem co4 {m : Fn} {a b c : D} {o o' : O} {v : Val} {e : BV.Env} {i : Nat} (he : e[i]? = some (.own o)) (h : m [.own o, .frz a, .frz b, .frz c] = .ok (v, [.own o', .frz a, .frz b, .frz c])) (hv : ∀ i, v ≠ .bor i := by intro _ h; cases h) : callAs m [.own i, .dat a, .dat b, .dat c] e = .ok (v, e.set i (.own o')) :=
  callAs_ok (by simp [ownIx]) (sl := [.own o, .frz a, .frz b, .frz c]) (by simp [slotsOf, he]) h (by simp [wb]) hv
abbrev nL (names : List Str) : D := .list (names.map .str)
def DT (mr : Fn) (names : List Str) (some : List Int) (n : Int) (m : Nat) : Prop := ∀ ds, PoolL ds → ∃ (ds' : List D) (d : D), mr [.own (.lst ds), .frz (.int n), .frz (nL names), .frz (iL some)] = .ok (.frz d, [.own (.lst ds'), .frz (.int n), .frz (nL names), .frz (iL some)]) ∧ PoolL ds' ∧ Tr names some m d
theorem ne_names (names : List Str) : gNe (nL names) (.list []) = .some (.frz (.bool (!names.isEmpty))) := by
  rw [gNe_nilL (n := 2) (Pl.list fun d hd => by
    obtain ⟨x, _, rfl⟩ := List.mem_map.mp hd
    exact Pl.str x)]
  cases names <;> rfl
theorem s1n {mr : Fn} {D : Int} {names : List Str} {some : List Int} {ds : List PyData} {w : Int} (h : w ≠ 3) : f__law_term_s1 mr [.own (.lst ds), .frz (.int D), .frz (nL names), .frz (iL some), .frz (.int w), .no, .no, .no] = .ok (.nx, [.own (.lst ds), .frz (.int D), .frz (nL names), .frz (iL some), .frz (.int w), .no, .no, .no]) := by
  simp [f__law_term_s1, h]
theorem s2n {mr : Fn} {D : Int} {names : List Str} {some : List Int} {ds : List PyData} {w : Int} (h : w ≠ 4 ∨ names = []) : f__law_term_s2 mr [.own (.lst ds), .frz (.int D), .frz (nL names), .frz (iL some), .frz (.int w), .no, .no, .no] = .ok (.nx, [.own (.lst ds), .frz (.int D), .frz (nL names), .frz (iL some), .frz (.int w), .no, .no, .no]) := by
  have hg := ne_names names
  by_cases h4 : w = 4
  · have hn : names = [] := by
      rcases h with h | h
      · exact absurd h4 h
      · exact h
    subst hn h4
    simp at hg
    simp [f__law_term_s2, hg]
  · simp [f__law_term_s2, h4]
theorem s3n {mr : Fn} {D : Int} {names : List Str} {some : List Int} {ds : List PyData} {w : Int} (h : w ≠ 5 ∨ D ≤ 1) : f__law_term_s3 mr [.own (.lst ds), .frz (.int D), .frz (nL names), .frz (iL some), .frz (.int w), .no, .no, .no] = .ok (.nx, [.own (.lst ds), .frz (.int D), .frz (nL names), .frz (iL some), .frz (.int w), .no, .no, .no]) := by
  by_cases hd : 1 < D
  · have : w ≠ 5 := by omega
    simp [f__law_term_s3, this, hd]
  · simp [f__law_term_s3, hd]
theorem s4n {mr : Fn} {D : Int} {names : List Str} {some : List Int} {ds : List PyData} {w : Int} (h : w ≠ 6 ∨ D ≤ 1) : f__law_term_s4 mr [.own (.lst ds), .frz (.int D), .frz (nL names), .frz (iL some), .frz (.int w), .no, .no, .no] = .ok (.nx, [.own (.lst ds), .frz (.int D), .frz (nL names), .frz (iL some), .frz (.int w), .no, .no, .no]) := by
  by_cases hd : 1 < D
  · have : w ≠ 6 := by omega
    simp [f__law_term_s4, this, hd]
  · simp [f__law_term_s4, hd]
theorem s5n {mr : Fn} {D : Int} {names : List Str} {some : List Int} {ds : List PyData} {w : Int} (h : w ≤ 6 ∨ D ≤ 1) : f__law_term_s5 mr [.own (.lst ds), .frz (.int D), .frz (nL names), .frz (iL some), .frz (.int w), .no, .no, .no] = .ok (.nx, [.own (.lst ds), .frz (.int D), .frz (nL names), .frz (iL some), .frz (.int w), .no, .no, .no]) := by
  by_cases hd : 1 < D
  · have : ¬ 6 < w := by omega
    simp [f__law_term_s5, this, hd]
  · simp [f__law_term_s5, hd]
theorem r_rest {mr : Fn} {D : Int} {names : List Str} {some : List Int} {ds : List PyData} {w : Int} {m : Nat} (hp : PoolL ds) (h : w = 3) : ∃ (p : List PyData) (d : PyData) (a b : Slot), f__law_term_1 mr [.own (.lst ds), .frz (.int D), .frz (nL names), .frz (iL some), .frz (.int w), .no, .no, .no] = .ok (.ret (.frz d), [.own (.lst p), .frz (.int D), .frz (nL names), .frz (iL some), .frz (.int w), a, b, .no]) ∧ PoolL p ∧ Tr names some (m + 1) d := by
  refine ⟨ds, .tuple [.str "rest"], .no, .no, ?_, hp, Or.inl rfl⟩
  simp [f__law_term_1, f__law_term_s1, h]
theorem r_call {mr : Fn} {D : Int} {names : List Str} {some : List Int} {ds : List PyData} {w : Int} {m : Nat} (hp : PoolL ds) (h : w = 4) (hn : names ≠ []) (hl : names.length ≤ 100) : ∃ (p : List PyData) (d : PyData) (a b : Slot), f__law_term_2 mr [.own (.lst ds), .frz (.int D), .frz (nL names), .frz (iL some), .frz (.int w), .no, .no, .no] = .ok (.ret (.frz d), [.own (.lst p), .frz (.int D), .frz (nL names), .frz (iL some), .frz (.int w), a, b, .no]) ∧ PoolL p ∧ Tr names some (m + 1) d := by
  have hg := ne_names names
  have hne : names.isEmpty = false := by cases names with
    | nil => exact absurd rfl hn
    | cons _ _ => rfl
  rw [hne] at hg
  simp at hg
  have hl0 : 0 < names.length := List.length_pos_iff.mpr hn
  obtain ⟨r, p, tc, pp, r0, r1⟩ := take_call takes (e := [.own (.lst ds), .frz (.int D), .frz (nL names), .frz (iL some), .frz (.int w), .no, .no, .no]) (i := 0) (n := (names.length : Nat)) rfl hp (by omega) (by omega)
  simp at tc
  obtain ⟨x, hx, hm⟩ := atI_gen (xs := names.map PyData.str) r0 (by simpa using r1)
  obtain ⟨y, hy, rfl⟩ := List.mem_map.mp hm
  refine ⟨p, .tuple [.str "call", .str y], .no, .no, ?_, pp, Or.inr (Or.inr (Or.inl ⟨y, rfl, hy⟩))⟩
  subst h
  simp [f__law_term_2, f__law_term_s2, hg, tc, hx]
theorem lc0 {mr : Fn} {D : Int} {names : List Str} {some : List Int} {ds : List PyData} {w : Int} {m : Nat} {p1 : List PyData} {it : BV.Env → Out (List PyData × BV.Env)} (hr : DT mr names some (D - 1) m) (hp : PoolL p1) {q : Int} (q1 : q ≤ 3) (hit : it [.own (.lst ds), .frz (.int D), .frz (nL names), .frz (iL some), .frz (.int w), .no, .no, .no] = .ok (rints 0 q.toNat, [.own (.lst p1), .frz (.int D), .frz (nL names), .frz (iL some), .frz (.int w), .no, .no, .no])) :
    ∃ (p : List PyData) (ts : List PyData), fLc it (.name 7) (lcc__law_term_0 mr) (lce__law_term_0 mr) [7] [.own (.lst ds), .frz (.int D), .frz (nL names), .frz (iL some), .frz (.int w), .no, .no, .no] = .ok (.new (.lst ts), [.own (.lst p), .frz (.int D), .frz (nL names), .frz (iL some), .frz (.int w), .no, .no, .no]) ∧ PoolL p ∧ ts.length ≤ 3 ∧ ∀ t ∈ ts, Tr names some m t := by
  obtain ⟨out, e', hl, p, rfl, pp, hl3, ht⟩ := lcL_inv (c := lcc__law_term_0 mr) (f := lce__law_term_0 mr) (t := .name 7) (vs := [7])
    (fun rs out e => ∃ (p : List PyData), e = [.own (.lst p), .frz (.int D), .frz (nL names), .frz (iL some), .frz (.int w), .no, .no, .no] ∧ PoolL p ∧ out.length + rs.length ≤ 3 ∧ ∀ t ∈ out, Tr names some m t)
    (rints 0 q.toNat) [] [.own (.lst p1), .frz (.int D), .frz (nL names), .frz (iL some), .frz (.int w), .no, .no, .no] (by rw [rints_len]; exact small_len (by simp only [List.length_nil]; omega)) ⟨p1, rfl, hp, by rw [rints_len]; simp only [List.length_nil]; omega, by simp⟩ (by
      rintro d rs out e ⟨p, rfl, q1, q2, q3⟩
      rw [List.length_cons] at q2
      obtain ⟨p', t, h1, h2, h3⟩ := hr p q1
      have c := co4 (e := [.own (.lst p), .frz (.int D), .frz (nL names), .frz (iL some), .frz (.int w), .no, .no, .frz d]) (i := 0) rfl h1
      simp at c
      refine ⟨[.own (.lst p), .frz (.int D), .frz (nL names), .frz (iL some), .frz (.int w), .no, .no, .frz d], [.own (.lst p), .frz (.int D), .frz (nL names), .frz (iL some), .frz (.int w), .no, .no, .frz d], true, by simp [Tg.put], by simp [lcc__law_term_0], Or.inl ⟨rfl, t, [.own (.lst p'), .frz (.int D), .frz (nL names), .frz (iL some), .frz (.int w), .no, .no, .frz d], ?_, p', by simp [wipeE], h2, ?_, ?_⟩⟩
      · simp [lce__law_term_0, c]
      · rw [List.length_append]
        simp only [List.length_cons, List.length_nil]
        omega
      · intro u hu
        rcases List.mem_append.mp hu with hu | hu
        · exact q3 u hu
        · rw [List.mem_singleton] at hu
          subst hu
          exact h3)
  exact ⟨p, out, fLc_ok hit (bare1 rfl) hl, pp, by simp only [List.length_nil] at hl3; omega, ht⟩
theorem lc1 {mr : Fn} {D : Int} {names : List Str} {some : List Int} {ds : List PyData} {w : Int} {m : Nat} {p1 : List PyData} {it : BV.Env → Out (List PyData × BV.Env)} (hr : DT mr names some (D - 1) m) (hp : PoolL p1) {q : Int} (q1 : q ≤ 3) (hit : it [.own (.lst ds), .frz (.int D), .frz (nL names), .frz (iL some), .frz (.int w), .no, .no, .no] = .ok (rints 0 q.toNat, [.own (.lst p1), .frz (.int D), .frz (nL names), .frz (iL some), .frz (.int w), .no, .no, .no])) :
    ∃ (p : List PyData) (ts : List PyData), fLc it (.name 7) (lcc__law_term_1 mr) (lce__law_term_1 mr) [7] [.own (.lst ds), .frz (.int D), .frz (nL names), .frz (iL some), .frz (.int w), .no, .no, .no] = .ok (.new (.lst ts), [.own (.lst p), .frz (.int D), .frz (nL names), .frz (iL some), .frz (.int w), .no, .no, .no]) ∧ PoolL p ∧ ts.length ≤ 3 ∧ ∀ t ∈ ts, Tr names some m t := by
  obtain ⟨out, e', hl, p, rfl, pp, hl3, ht⟩ := lcL_inv (c := lcc__law_term_1 mr) (f := lce__law_term_1 mr) (t := .name 7) (vs := [7])
    (fun rs out e => ∃ (p : List PyData), e = [.own (.lst p), .frz (.int D), .frz (nL names), .frz (iL some), .frz (.int w), .no, .no, .no] ∧ PoolL p ∧ out.length + rs.length ≤ 3 ∧ ∀ t ∈ out, Tr names some m t)
    (rints 0 q.toNat) [] [.own (.lst p1), .frz (.int D), .frz (nL names), .frz (iL some), .frz (.int w), .no, .no, .no] (by rw [rints_len]; exact small_len (by simp only [List.length_nil]; omega)) ⟨p1, rfl, hp, by rw [rints_len]; simp only [List.length_nil]; omega, by simp⟩ (by
      rintro d rs out e ⟨p, rfl, q1, q2, q3⟩
      rw [List.length_cons] at q2
      obtain ⟨p', t, h1, h2, h3⟩ := hr p q1
      have c := co4 (e := [.own (.lst p), .frz (.int D), .frz (nL names), .frz (iL some), .frz (.int w), .no, .no, .frz d]) (i := 0) rfl h1
      simp at c
      refine ⟨[.own (.lst p), .frz (.int D), .frz (nL names), .frz (iL some), .frz (.int w), .no, .no, .frz d], [.own (.lst p), .frz (.int D), .frz (nL names), .frz (iL some), .frz (.int w), .no, .no, .frz d], true, by simp [Tg.put], by simp [lcc__law_term_1], Or.inl ⟨rfl, t, [.own (.lst p'), .frz (.int D), .frz (nL names), .frz (iL some), .frz (.int w), .no, .no, .frz d], ?_, p', by simp [wipeE], h2, ?_, ?_⟩⟩
      · simp [lce__law_term_1, c]
      · rw [List.length_append]
        simp only [List.length_cons, List.length_nil]
        omega
      · intro u hu
        rcases List.mem_append.mp hu with hu | hu
        · exact q3 u hu
        · rw [List.mem_singleton] at hu
          subst hu
          exact h3)
  exact ⟨p, out, fLc_ok hit (bare1 rfl) hl, pp, by simp only [List.length_nil] at hl3; omega, ht⟩
theorem r_then {mr : Fn} {D : Int} {names : List Str} {some : List Int} {ds : List PyData} {w : Int} {m : Nat} (hr : DT mr names some (D - 1) m) (hp : PoolL ds) (h : w = 5) (hD : 1 < D) : ∃ (p : List PyData) (d : PyData) (a b : Slot), f__law_term_3 mr [.own (.lst ds), .frz (.int D), .frz (nL names), .frz (iL some), .frz (.int w), .no, .no, .no] = .ok (.ret (.frz d), [.own (.lst p), .frz (.int D), .frz (nL names), .frz (iL some), .frz (.int w), a, b, .no]) ∧ PoolL p ∧ Tr names some (m + 1) d := by
  obtain ⟨r, p1, tc, pp1, r0, r1⟩ := take_call takes (e := [.own (.lst ds), .frz (.int D), .frz (nL names), .frz (iL some), .frz (.int w), .no, .no, .no]) (i := 0) (n := 3) rfl hp (by omega) (by omega)
  simp at tc
  have hit : iR1 (BV.bin gAdd (fC (.int 1)) (fCall m__law_take [] (rOwn 0 (rDat (fC (.int 3)) rNil)))) [.own (.lst ds), .frz (.int D), .frz (nL names), .frz (iL some), .frz (.int w), .no, .no, .no] = .ok (rints 0 (1 + r).toNat, [.own (.lst p1), .frz (.int D), .frz (nL names), .frz (iL some), .frz (.int w), .no, .no, .no]) := by
    have a1 : (-4611686018427387904 : Int) ≤ 1 + r := by omega
    have a2 : 1 + r < (4611686018427387904 : Int) := by omega
    simp [tc, a1, a2]
  obtain ⟨p, ts, hlc, pp, hl, ht⟩ := lc0 hr pp1 (show 1 + r ≤ 3 by omega) hit
  have hlc : lc__law_term_0 mr [.own (.lst ds), .frz (.int D), .frz (nL names), .frz (iL some), .frz (.int w), .no, .no, .no] = .ok (.new (.lst ts), [.own (.lst p), .frz (.int D), .frz (nL names), .frz (iL some), .frz (.int w), .no, .no, .no]) := hlc
  refine ⟨p, .tuple [.str "then", .tuple ts], .no, .no, ?_, pp, Or.inr (Or.inr (Or.inr (Or.inl ⟨ts, rfl, hl, ht⟩)))⟩
  subst h
  simp [f__law_term_3, f__law_term_s3, hD, hlc]
theorem r_fork {mr : Fn} {D : Int} {names : List Str} {some : List Int} {ds : List PyData} {w : Int} {m : Nat} (hr : DT mr names some (D - 1) m) (hp : PoolL ds) (h : w = 6) (hD : 1 < D) : ∃ (p : List PyData) (d : PyData) (a b : Slot), f__law_term_4 mr [.own (.lst ds), .frz (.int D), .frz (nL names), .frz (iL some), .frz (.int w), .no, .no, .no] = .ok (.ret (.frz d), [.own (.lst p), .frz (.int D), .frz (nL names), .frz (iL some), .frz (.int w), a, b, .no]) ∧ PoolL p ∧ Tr names some (m + 1) d := by
  obtain ⟨r, p1, tc, pp1, r0, r1⟩ := take_call takes (e := [.own (.lst ds), .frz (.int D), .frz (nL names), .frz (iL some), .frz (.int w), .no, .no, .no]) (i := 0) (n := 2) rfl hp (by omega) (by omega)
  simp at tc
  have hit : iR1 (BV.bin gAdd (fC (.int 2)) (fCall m__law_take [] (rOwn 0 (rDat (fC (.int 2)) rNil)))) [.own (.lst ds), .frz (.int D), .frz (nL names), .frz (iL some), .frz (.int w), .no, .no, .no] = .ok (rints 0 (2 + r).toNat, [.own (.lst p1), .frz (.int D), .frz (nL names), .frz (iL some), .frz (.int w), .no, .no, .no]) := by
    have a1 : (-4611686018427387904 : Int) ≤ 2 + r := by omega
    have a2 : 2 + r < (4611686018427387904 : Int) := by omega
    simp [tc, a1, a2]
  obtain ⟨p, ts, hlc, pp, hl, ht⟩ := lc1 hr pp1 (show 2 + r ≤ 3 by omega) hit
  have hlc : lc__law_term_1 mr [.own (.lst ds), .frz (.int D), .frz (nL names), .frz (iL some), .frz (.int w), .no, .no, .no] = .ok (.new (.lst ts), [.own (.lst p), .frz (.int D), .frz (nL names), .frz (iL some), .frz (.int w), .no, .no, .no]) := hlc
  refine ⟨p, .tuple [.str "fork", .tuple ts], .no, .no, ?_, pp, Or.inr (Or.inr (Or.inr (Or.inr (Or.inl ⟨ts, rfl, hl, ht⟩))))⟩
  subst h
  simp [f__law_term_4, f__law_term_s4, hD, hlc]
theorem r_round {mr : Fn} {D : Int} {names : List Str} {some : List Int} {ds : List PyData} {w : Int} {m : Nat} (hr : DT mr names some (D - 1) m) (hp : PoolL ds) (h : 6 < w) (hD : 1 < D) : ∃ (p : List PyData) (d : PyData) (a b : Slot), f__law_term_5 mr [.own (.lst ds), .frz (.int D), .frz (nL names), .frz (iL some), .frz (.int w), .no, .no, .no] = .ok (.ret (.frz d), [.own (.lst p), .frz (.int D), .frz (nL names), .frz (iL some), .frz (.int w), a, b, .no]) ∧ PoolL p ∧ Tr names some (m + 1) d := by
  obtain ⟨l, p1, tc1, pp1, l0, l1⟩ := take_call takes (e := [.own (.lst ds), .frz (.int D), .frz (nL names), .frz (iL some), .frz (.int w), .no, .no, .no]) (i := 0) (n := 3) rfl hp (by omega) (by omega)
  simp at tc1
  obtain ⟨x, p2, tc2, pp2, x0, x1⟩ := take_call takes (e := [.own (.lst p1), .frz (.int D), .frz (nL names), .frz (iL some), .frz (.int w), .frz (.int l), .no, .no]) (i := 0) (n := 3) rfl pp1 (by omega) (by omega)
  simp at tc2
  obtain ⟨j, p3, tc3, pp3, j0, j1⟩ := take_call takes (e := [.own (.lst p2), .frz (.int D), .frz (nL names), .frz (iL some), .frz (.int w), .frz (.int l), .no, .no]) (i := 0) (n := 4) rfl pp2 (by omega) (by omega)
  simp at tc3
  obtain ⟨mo, hmo, hmk⟩ : ∃ mo, atI [PyData.none, .int l, .int (l + 1), .int (l + x)] j = .some mo ∧ (mo = .none ∨ ∃ k : Int, mo = .int k ∧ 0 ≤ k ∧ k ≤ 12) := by
    obtain ⟨mo, h1, h2⟩ := atI_gen (xs := [PyData.none, .int l, .int (l + 1), .int (l + x)]) j0 (by simpa using j1)
    refine ⟨mo, h1, ?_⟩
    simp only [List.mem_cons, List.not_mem_nil, or_false] at h2
    rcases h2 with rfl | rfl | rfl | rfl
    · exact Or.inl rfl
    · exact Or.inr ⟨_, rfl, by omega, by omega⟩
    · exact Or.inr ⟨_, rfl, by omega, by omega⟩
    · exact Or.inr ⟨_, rfl, by omega, by omega⟩
  obtain ⟨p4, t, h1, h2, h3⟩ := hr p3 pp3
  have c := co4 (e := [.own (.lst p3), .frz (.int D), .frz (nL names), .frz (iL some), .frz (.int w), .frz (.int l), .frz mo, .no]) (i := 0) rfl h1
  simp at c
  refine ⟨p4, .tuple [.str "round", .int l, mo, t], .frz (.int l), .frz mo, ?_, h2, Or.inr (Or.inr (Or.inr (Or.inr (Or.inr ⟨l, mo, t, rfl, l0, by omega, hmk, h3⟩))))⟩
  simp [f__law_term_5, f__law_term_s5, hD, h, tc1, tc2, tc3, hmo, c]
theorem r_ask {mr : Fn} {D : Int} {names : List Str} {some : List Int} {ds : List PyData} {w : Int} {m : Nat} (hp : PoolL ds) (hs : some.length ≤ 4000) (nd : some.Nodup) : ∃ (p : List PyData) (d : PyData) (a b : Slot), f__law_term_6 mr [.own (.lst ds), .frz (.int D), .frz (nL names), .frz (iL some), .frz (.int w), .no, .no, .no] = .ok (.ret (.frz d), [.own (.lst p), .frz (.int D), .frz (nL names), .frz (iL some), .frz (.int w), a, b, .no]) ∧ PoolL p ∧ Tr names some (m + 1) d := by
  obtain ⟨j, p1, tc1, pp1, j0, j1⟩ := take_call takes (e := [.own (.lst ds), .frz (.int D), .frz (nL names), .frz (iL some), .frz (.int w), .no, .no, .no]) (i := 0) (n := 4) rfl hp (by omega) (by omega)
  simp at tc1
  obtain ⟨k, hk, k0, k1⟩ : ∃ k : Int, atI [PyData.int 1, .int 1, .int 2, .int 3] j = .some (.int k) ∧ 0 ≤ k ∧ k ≤ 3 := by
    obtain ⟨mo, h1, h2⟩ := atI_gen (xs := [PyData.int 1, .int 1, .int 2, .int 3]) j0 (by simpa using j1)
    simp only [List.mem_cons, List.not_mem_nil, or_false] at h2
    rcases h2 with rfl | rfl | rfl | rfl
    · exact ⟨_, h1, by omega, by omega⟩
    · exact ⟨_, h1, by omega, by omega⟩
    · exact ⟨_, h1, by omega, by omega⟩
    · exact ⟨_, h1, by omega, by omega⟩
  obtain ⟨p2, out, pc, pp2, pl, pm, _⟩ := picked_call (e := [.own (.lst p1), .frz (.int D), .frz (nL names), .frz (iL some), .frz (.int w), .no, .no, .no]) (i := 0) (ns := some) (n := k) rfl pp1 k0 hs nd
  simp at pc
  refine ⟨p2, .tuple [.str "ask", iT out], .no, .no, ?_, pp2, Or.inr (Or.inl ⟨out, rfl, by omega, pm⟩)⟩
  simp [f__law_term_6, f__law_term_s6, tc1, hk, pc]
theorem term_ok {names : List Str} {some : List Int} (hn : names.length ≤ 100) (hs : some.length ≤ 4000) (nd : some.Nodup) : ∀ (m : Nat) (f : Nat) (D : Int), m + 1 ≤ f → D = (m : Nat) + 1 → DT (mf__law_term f) names some D (m + 1)
  | m, 0, D, hf, _ => by omega
  | m, f + 1, D, hf, hD => fun ds hp => by
    obtain ⟨w, p1, tc, pp1, w0, w1⟩ := take_call takes (e := [.own (.lst ds), .frz (.int D), .frz (nL names), .frz (iL some), .no, .no, .no, .no]) (i := 0) (n := 9) rfl hp (by omega) (by omega)
    simp at tc
    have h0 : f__law_term_s0 (mf__law_term f) [.own (.lst ds), .frz (.int D), .frz (nL names), .frz (iL some), .no, .no, .no, .no] = .ok (.nx, [.own (.lst p1), .frz (.int D), .frz (nL names), .frz (iL some), .frz (.int w), .no, .no, .no]) := by
      simp [f__law_term_s0, tc]
    have key : ∃ (p : List PyData) (d : PyData) (a b : Slot), f__law_term_1 (mf__law_term f) [.own (.lst p1), .frz (.int D), .frz (nL names), .frz (iL some), .frz (.int w), .no, .no, .no] = .ok (.ret (.frz d), [.own (.lst p), .frz (.int D), .frz (nL names), .frz (iL some), .frz (.int w), a, b, .no]) ∧ PoolL p ∧ Tr names some (m + 1) d := by
      have hr : 1 < D → ∃ m', m = m' + 1 ∧ DT (mf__law_term f) names some (D - 1) m := fun h => by
        obtain ⟨m', rfl⟩ : ∃ m', m = m' + 1 := ⟨m - 1, by omega⟩
        exact ⟨m', rfl, term_ok hn hs nd m' f (D - 1) (by omega) (by omega)⟩
      by_cases w3 : w = 3
      · exact r_rest pp1 w3
      have e1 := seq_step (t := f__law_term_2 (mf__law_term f)) (s1n (mr := mf__law_term f) (D := D) (names := names) (some := some) (ds := p1) w3)
      by_cases w4 : w = 4 ∧ names ≠ []
      · obtain ⟨p, d, a, b, h, pp, ht⟩ := r_call (mr := mf__law_term f) (D := D) (some := some) (m := m) pp1 w4.1 w4.2 hn
        exact ⟨p, d, a, b, e1.trans h, pp, ht⟩
      have e2 := e1.trans (seq_step (t := f__law_term_3 (mf__law_term f)) (s2n (by
        by_cases h : w = 4
        · exact Or.inr (Classical.byContradiction fun hh => w4 ⟨h, hh⟩)
        · exact Or.inl h)))
      by_cases w5 : w = 5 ∧ 1 < D
      · obtain ⟨m', _, hr⟩ := hr w5.2
        obtain ⟨p, d, a, b, h, pp, ht⟩ := r_then hr pp1 w5.1 w5.2
        exact ⟨p, d, a, b, e2.trans h, pp, ht⟩
      have e3 := e2.trans (seq_step (t := f__law_term_4 (mf__law_term f)) (s3n (by omega)))
      by_cases w6 : w = 6 ∧ 1 < D
      · obtain ⟨m', _, hr⟩ := hr w6.2
        obtain ⟨p, d, a, b, h, pp, ht⟩ := r_fork hr pp1 w6.1 w6.2
        exact ⟨p, d, a, b, e3.trans h, pp, ht⟩
      have e4 := e3.trans (seq_step (t := f__law_term_5 (mf__law_term f)) (s4n (by omega)))
      by_cases w7 : 6 < w ∧ 1 < D
      · obtain ⟨m', _, hr⟩ := hr w7.2
        obtain ⟨p, d, a, b, h, pp, ht⟩ := r_round hr pp1 w7.1 w7.2
        exact ⟨p, d, a, b, e4.trans h, pp, ht⟩
      have e5 := e4.trans (seq_step (t := f__law_term_6 (mf__law_term f)) (s5n (by omega)))
      obtain ⟨p, d, a, b, h, pp, ht⟩ := r_ask (mr := mf__law_term f) (D := D) (names := names) (w := w) (m := m) pp1 hs nd
      exact ⟨p, d, a, b, e5.trans h, pp, ht⟩
    obtain ⟨p, d, a, b, h, pp, ht⟩ := key
    exact ⟨p, d, runF_ret ((seq_step (t := f__law_term_1 (mf__law_term f)) h0).trans h) rfl (fun _ h => by cases h), pp, ht⟩
end K09
namespace K09
open PySem PySem.Spec PyProof.Rows L2 BV
def PX (some : List Int) (n : Nat) (rest : List Str) : List (Str × D) → Prop
  | [] => True
  | p :: ps => Tr (ps.map (·.1) ++ rest) some n p.2 ∧ PX some n rest ps
theorem PX.done {some : List Int} {n : Nat} : ∀ {ps : List (Str × D)}, PX some n [] ps → PrOk some n ps
  | [], _ => trivial
  | p :: ps, ⟨h1, h2⟩ => ⟨by rwa [List.append_nil] at h1, h2.done⟩
theorem PX.snoc {some : List Int} {n : Nat} {x : Str} {t : D} {rest : List Str} (ht : Tr rest some n t) : ∀ {ps : List (Str × D)}, PX some n (x :: rest) ps → PX some n rest (ps ++ [(x, t)])
  | [], _ => ⟨ht, trivial⟩
  | p :: ps, ⟨h1, h2⟩ => ⟨by
      show Tr ((ps ++ [(x, t)]).map (·.1) ++ rest) some n p.2
      rw [List.map_append, List.append_assoc]
      exact h1, PX.snoc ht h2⟩
/-- what is left of the names, with their places -/
abbrev leftN (k : Nat) (rest : List Str) : List D := pairs (rints k rest.length) (rest.map .str)
theorem leftN_cons (k : Nat) (x : Str) (rest : List Str) : leftN k (x :: rest) = .tuple [.int k, .str x] :: leftN (k + 1) rest := by
  unfold leftN
  rw [List.length_cons, rints_cons]
  rfl
theorem enum_left (names : List Str) : enumD (names.map .str) = leftN 0 names := by
  unfold enumD leftN
  rw [List.length_map]
  rfl
theorem leftN_len (k : Nat) (rest : List Str) : (leftN k rest).length = rest.length := by
  unfold leftN
  rw [BV.pairs_len, rints_len, List.length_map, Nat.min_self]
theorem names_call {e : BV.Env} {i : Nat} {ds : List D} {n : Int} (he : e[i]? = some (.own (.lst ds))) (hp : PoolL ds) (h0 : 0 ≤ n) (h1 : n ≤ 8) : ∃ (ds' : List D) (out : List Str), callAs m__law_names [.own i, .dat (.int n)] e = .ok (.new (.lst (out.map .str)), e.set i (.own (.lst ds'))) ∧ PoolL ds' ∧ out.length = n.toNat ∧ ∀ x ∈ out, NmOk x := by
  obtain ⟨ds', out, h, h2⟩ := names_i hp h0 h1
  exact ⟨ds', out, co2 he h, h2⟩
theorem program_i {ds : List D} {d : Int} {some : List Int} (hp : PoolL ds) (d0 : 1 ≤ d) (d1 : d ≤ 5) (hs : some.length ≤ 4000) (nd : some.Nodup) :
    ∃ (ds' : List D) (ps : List (Str × D)), m__law_program [.own (.lst ds), .frz (.int 6), .frz (.int d), .frz (iL some)] = .ok (.new (.lst (ps.map itD)), [.own (.lst ds'), .frz (.int 6), .frz (.int d), .frz (iL some)]) ∧ PoolL ds' ∧ PrOk some 5 ps ∧ (∀ p ∈ ps, NmOk p.1) ∧ 1 ≤ ps.length ∧ ps.length ≤ 6 := by
  obtain ⟨r, p1, tc, pp1, r0, r1⟩ := take_call takes (e := [.own (.lst ds), .frz (.int 6), .frz (.int d), .frz (iL some), .no, .no, .no]) (i := 0) (n := 6) rfl hp (by omega) (by omega)
  simp at tc
  obtain ⟨p2, names, nc, pp2, nl, no⟩ := names_call (e := [.own (.lst p1), .frz (.int 6), .frz (.int d), .frz (iL some), .no, .no, .no]) (i := 0) (n := 1 + r) rfl pp1 (by omega) (by omega)
  simp at nc
  have s0 : f__law_program_s0 [.own (.lst ds), .frz (.int 6), .frz (.int d), .frz (iL some), .no, .no, .no] = .ok (.nx, [.own (.lst p2), .frz (.int 6), .frz (.int d), .frz (iL some), .frz (nL names), .no, .no]) := by
    simp [f__law_program_s0, tc, nc]
  have hit : iEnum1 (fVar 4) [.own (.lst p2), .frz (.int 6), .frz (.int d), .frz (iL some), .frz (nL names), .no, .no] = .ok (leftN 0 names, [.own (.lst p2), .frz (.int 6), .frz (.int d), .frz (iL some), .frz (nL names), .no, .no]) := by
    rw [← enum_left]
    exact iEnum_list (by simp)
  obtain ⟨out, e', hl, p3, ps, rest, rfl, pp3, rfl, h1, h2, h3⟩ := lcL_inv (c := lcc__law_program_0) (f := lce__law_program_0) (t := .tup [5, 6]) (vs := [5, 6])
    (fun rs out e => ∃ (p : List D) (ps : List (Str × D)) (rest : List Str), e = [.own (.lst p), .frz (.int 6), .frz (.int d), .frz (iL some), .frz (nL names), .no, .no] ∧ PoolL p ∧ out = ps.map itD ∧ rs = leftN ps.length rest ∧ names = ps.map (·.1) ++ rest ∧ PX some 5 rest ps)
    (leftN 0 names) [] [.own (.lst p2), .frz (.int 6), .frz (.int d), .frz (iL some), .frz (nL names), .no, .no] (by rw [leftN_len]; exact small_len (by simp only [List.length_nil]; omega)) ⟨p2, [], names, rfl, pp2, rfl, rfl, rfl, trivial⟩ (by
      rintro q rs out e ⟨p, ps, rest, rfl, q1, rfl, q2, q3, q4⟩
      cases rest with
      | nil => cases q2
      | cons x rest =>
        rw [leftN_cons] at q2
        injection q2 with q2 q5
        subst q2 q5
        obtain ⟨m, hm⟩ : ∃ m : Nat, d = (m : Nat) + 1 := ⟨d.toNat - 1, by omega⟩
        have hlen : rest.length ≤ names.length := by rw [q3]; simp only [List.length_append, List.length_cons]; omega
        obtain ⟨p', t, t1, t2, t3⟩ := term_ok (names := rest) (by omega) hs nd m 8 d (by omega) hm p q1
        have c := co4 (e := [.own (.lst p), .frz (.int 6), .frz (.int d), .frz (iL some), .frz (nL names), .frz (.int ps.length), .frz (.str x)]) (i := 0) rfl t1
        simp at c
        have cut : cutD (names.map PyData.str) (.some ((ps.length : Int) + 1)) none = rest.map .str := by
          have hN : names.length = ps.length + 1 + rest.length := by rw [q3]; simp only [List.length_append, List.length_cons, List.length_map]; omega
          rw [cutD_on (by omega) (by rw [List.length_map]; omega), show ((ps.length : Int) + 1).toNat = ps.length + 1 by omega, ← List.map_drop, q3, show ps.map (·.1) ++ x :: rest = (ps.map (·.1) ++ [x]) ++ rest by simp, List.drop_left' (by simp)]
        refine ⟨[.own (.lst p), .frz (.int 6), .frz (.int d), .frz (iL some), .frz (nL names), .frz (.int ps.length), .frz (.str x)], [.own (.lst p), .frz (.int 6), .frz (.int d), .frz (iL some), .frz (nL names), .frz (.int ps.length), .frz (.str x)], true, by simp [Tg.put, BV.putAll], by simp [lcc__law_program_0], Or.inl ⟨rfl, itD (x, t), [.own (.lst p'), .frz (.int 6), .frz (.int d), .frz (iL some), .frz (nL names), .frz (.int ps.length), .frz (.str x)], ?_, p', ps ++ [(x, t)], rest, by simp [wipeE], t2, by simp, by simp, by simp [q3], PX.snoc (t3.le (by omega)) q4⟩⟩
        have c : callAs m__law_term [.own 0, .dat (.int d), .dat (.list (rest.map .str)), .dat (.list (some.map .int))] [.own (.lst p), .frz (.int 6), .frz (.int d), .frz (iL some), .frz (nL names), .frz (.int ps.length), .frz (.str x)] = _ := c
        simp [lce__law_program_0, cut, c])
  have hr : rest = [] := by
    cases rest with
    | nil => rfl
    | cons x rest =>
      rw [leftN_cons] at h1
      cases h1
  subst hr
  rw [List.append_nil] at h2
  have hlc : lc__law_program_0 [.own (.lst p2), .frz (.int 6), .frz (.int d), .frz (iL some), .frz (nL names), .no, .no] = .ok (.new (.lst (ps.map itD)), [.own (.lst p3), .frz (.int 6), .frz (.int d), .frz (iL some), .frz (nL names), .no, .no]) := fLc_ok hit (bare2 rfl rfl) hl
  have s1 : f__law_program_1 [.own (.lst p2), .frz (.int 6), .frz (.int d), .frz (iL some), .frz (nL names), .no, .no] = .ok (.ret (.new (.lst (ps.map itD))), [.own (.lst p3), .frz (.int 6), .frz (.int d), .frz (iL some), .frz (nL names), .no, .no]) := by
    simp [f__law_program_1, f__law_program_s1, hlc, keepsB_refl]
  have hpl : ps.length = names.length := by rw [h2, List.length_map]
  refine ⟨p3, ps, runF_ret ((seq_step (t := f__law_program_1) s0).trans s1) rfl (fun _ h => by cases h), pp3, h3.done, fun p hp => no p.1 (h2 ▸ List.mem_map_of_mem hp), by omega, by omega⟩
end K09
namespace K09
open PySem PySem.Spec PyProof.Rows L2 BV
theorem atI_at {α : Type} {xs : List α} {i : Nat} {d : α} (h : xs[i]? = some d) : atI xs (i : Int) = some d := by
  have hl : i < xs.length := (List.getElem?_eq_some_iff.mp h).1
  unfold atI ixN
  rw [if_pos (by omega), if_pos (by omega)]
  simpa using h
theorem deep_item {p : List D} {names : List Str} {fnd : List D} {k : Nat} {x : Str} {x5 : Slot} {inner mo : D} {l : Int} {p' p2 : List D} (e1 : f__law_deep_2b_s0 [.own (.lst p), .frz (nL names), .own (.lst fnd), .frz (.int k), .frz (.str x), x5] = .ok (.nx, [.own (.lst p), .frz (nL names), .own (.lst fnd), .frz (.int k), .frz (.str x), .frz (.tuple [.str "ask", .tuple [.int k]])]))
    (e2 : f__law_deep_2b_s1 [.own (.lst p), .frz (nL names), .own (.lst fnd), .frz (.int k), .frz (.str x), .frz (.tuple [.str "ask", .tuple [.int k]])] = .ok (.nx, [.own (.lst p), .frz (nL names), .own (.lst fnd), .frz (.int k), .frz (.str x), .frz inner]))
    (hz : fnd.length + 1 ≤ 4000)
    (t1 : callAs m__law_take [.own 0, .dat (.int 13)] [.own (.lst p), .frz (nL names), .own (.lst fnd), .frz (.int k), .frz (.str x), .frz inner] = .ok (.frz (.int l), [.own (.lst p'), .frz (nL names), .own (.lst fnd), .frz (.int k), .frz (.str x), .frz inner]))
    {j : Int} (t2 : callAs m__law_take [.own 0, .dat (.int 2)] [.own (.lst p'), .frz (nL names), .own (.lst fnd), .frz (.int k), .frz (.str x), .frz inner] = .ok (.frz (.int j), [.own (.lst p2), .frz (nL names), .own (.lst fnd), .frz (.int k), .frz (.str x), .frz inner]))
    (hj : atI [PyData.int 12, .none] j = some mo) :
    f__law_deep_2b [.own (.lst p), .frz (nL names), .own (.lst fnd), .frz (.int k), .frz (.str x), x5] = .ok (.nx, [.own (.lst p2), .frz (nL names), .own (.lst (fnd ++ [itD (x, .tuple [.str "round", .int l, mo, .tuple [.str "then", .tuple [inner, inner]]])])), .frz (.int k), .frz (.str x), .frz inner]) := by
  have z : fnd.length < sizeLine := Nat.lt_of_lt_of_le (Nat.lt_succ_self _) (zl _ hz)
  have z1 : fnd.length + 1 ≤ sizeLine := zl _ hz
  have e3 : f__law_deep_2b_2 [.own (.lst p), .frz (nL names), .own (.lst fnd), .frz (.int k), .frz (.str x), .frz inner] = .ok (.nx, [.own (.lst p2), .frz (nL names), .own (.lst (fnd ++ [itD (x, .tuple [.str "round", .int l, mo, .tuple [.str "then", .tuple [inner, inner]]])])), .frz (.int k), .frz (.str x), .frz inner]) := by
    simp [f__law_deep_2b_2, f__law_deep_2b_s2, t1, t2, hj, z, z1, mApp]
  exact (seq_step (t := f__law_deep_2b_1) e1).trans ((seq_step (t := f__law_deep_2b_2) e2).trans e3)
theorem deep_i {ds : List D} (hp : PoolL ds) : ∃ (ds' : List D) (ps : List (Str × D)), m__law_deep [.own (.lst ds)] = .ok (.frz (prD ps), [.own (.lst ds')]) ∧ PoolL ds' ∧ PrOk [7] 3 ps ∧ (∀ p ∈ ps, NmOk p.1) ∧ 1 ≤ ps.length ∧ ps.length ≤ 8 := by
  obtain ⟨p1, names, nc, pp1, nl, no⟩ := names_call (e := [.own (.lst ds), .no, .no, .no, .no, .no]) (i := 0) (n := 8) rfl hp (by omega) (by omega)
  simp at nc
  have nl : names.length = 8 := nl
  have s0 : f__law_deep_s0 [.own (.lst ds), .no, .no, .no, .no, .no] = .ok (.nx, [.own (.lst p1), .frz (nL names), .no, .no, .no, .no]) := by
    simp [f__law_deep_s0, nc]
  have s1 : f__law_deep_s1 [.own (.lst p1), .frz (nL names), .no, .no, .no, .no] = .ok (.nx, [.own (.lst p1), .frz (nL names), .own (.lst []), .no, .no, .no]) := by
    simp [f__law_deep_s1]
  have hit : iEnum1 (fVar 1) [.own (.lst p1), .frz (nL names), .own (.lst []), .no, .no, .no] = .ok (leftN 0 names, [.own (.lst p1), .frz (nL names), .own (.lst []), .no, .no, .no]) := by
    rw [← enum_left]
    exact iEnum_list (by simp)
  obtain ⟨e', hf, p3, ps, rest, x3, x4, x5, rfl, pp3, h1, h2, h3⟩ := forL_inv (k := 1) (t := .tup [3, 4]) (body := f__law_deep_2b)
    (fun rs e => ∃ (p : List D) (ps : List (Str × D)) (rest : List Str) (x3 x4 x5 : Slot), e = [.own (.lst p), .frz (nL names), .own (.lst (ps.map itD)), x3, x4, x5] ∧ PoolL p ∧ rs = leftN ps.length rest ∧ names = ps.map (·.1) ++ rest ∧ PX [7] 3 rest ps)
    (leftN 0 names) [.own (.lst p1), .frz (nL names), .own (.lst []), .no, .no, .no] ⟨p1, [], names, .no, .no, .no, rfl, pp1, rfl, rfl, trivial⟩ (by
      rintro q rs e ⟨p, ps, rest, x3, x4, x5, rfl, q1, q2, q3, q4⟩
      cases rest with
      | nil => cases q2
      | cons x rest =>
        rw [leftN_cons] at q2
        injection q2 with q2 q5
        subst q2 q5
        have hN : names.length = ps.length + 1 + rest.length := by rw [q3]; simp only [List.length_append, List.length_cons, List.length_map]; omega
        have hinner : ∃ inner, f__law_deep_2b_s1 [.own (.lst p), .frz (nL names), .own (.lst (ps.map itD)), .frz (.int ps.length), .frz (.str x), .frz (.tuple [.str "ask", .tuple [.int ps.length]])] = .ok (.nx, [.own (.lst p), .frz (nL names), .own (.lst (ps.map itD)), .frz (.int ps.length), .frz (.str x), .frz inner]) ∧ Tr rest [7] 1 inner := by
          cases rest with
          | nil =>
            have h7 : ps.length = 7 := by simp only [List.length_nil] at hN; omega
            refine ⟨_, ?_, Or.inr (Or.inl ⟨[(ps.length : Int)], rfl, by simp, by simp [h7]⟩)⟩
            simp [f__law_deep_2b_s1, h7]
          | cons y rest =>
            have h7 : (ps.length : Int) < 7 := by simp only [List.length_cons] at hN; omega
            have hy : (names.map PyData.str)[ps.length + 1]? = some (.str y) := by
              rw [q3, show ps.map (·.1) ++ x :: y :: rest = (ps.map (·.1) ++ [x]) ++ y :: rest by simp, List.map_append, List.getElem?_append_right (by simp)]
              simp
            have hy : atI (names.map PyData.str) ((ps.length : Int) + 1) = some (.str y) := atI_at hy
            refine ⟨.tuple [.str "call", .str y], ?_, Or.inr (Or.inr (Or.inl ⟨y, rfl, List.mem_cons_self⟩))⟩
            simp [f__law_deep_2b_s1, h7, hy]
        obtain ⟨inner, i1, i2⟩ := hinner
        obtain ⟨l, p2, t1, pp2, l0, l1⟩ := take_call takes (e := [.own (.lst p), .frz (nL names), .own (.lst (ps.map itD)), .frz (.int ps.length), .frz (.str x), .frz inner]) (i := 0) (n := 13) rfl q1 (by omega) (by omega)
        obtain ⟨j, p3, t2, pp3, j0, j1⟩ := take_call takes (e := [.own (.lst p2), .frz (nL names), .own (.lst (ps.map itD)), .frz (.int ps.length), .frz (.str x), .frz inner]) (i := 0) (n := 2) rfl pp2 (by omega) (by omega)
        obtain ⟨mo, hmo, hmm⟩ := atI_gen (xs := [PyData.int 12, .none]) j0 (by simpa using j1)
        have hmk : mo = .none ∨ ∃ k : Int, mo = .int k ∧ 0 ≤ k ∧ k ≤ 12 := by
          simp only [List.mem_cons, List.not_mem_nil, or_false] at hmm
          rcases hmm with rfl | rfl
          · exact Or.inr ⟨_, rfl, by omega, by omega⟩
          · exact Or.inl rfl
        have body := deep_item (p := p) (names := names) (fnd := ps.map itD) (k := ps.length) (x := x) (x5 := x5) (by simp [f__law_deep_2b_s0]) i1 (by rw [List.length_map]; omega) t1 t2 hmo
        refine ⟨[.own (.lst p), .frz (nL names), .own (.lst (ps.map itD)), .frz (.int ps.length), .frz (.str x), x5], _, by simp [Tg.put, BV.putAll], Or.inl body, p3, ps ++ [(x, .tuple [.str "round", .int l, mo, .tuple [.str "then", .tuple [inner, inner]]])], rest, .frz (.int ps.length), .frz (.str x), .frz inner, by simp, pp3, by simp, by simp [q3], PX.snoc ?_ q4⟩
        exact Or.inr (Or.inr (Or.inr (Or.inr (Or.inr ⟨l, mo, _, rfl, l0, by omega, hmk, Or.inr (Or.inr (Or.inr (Or.inl ⟨[inner, inner], rfl, by simp, fun t ht => by
          simp only [List.mem_cons, List.not_mem_nil, or_false, or_self] at ht
          subst ht
          exact i2⟩)))⟩)))))
  have hr : rest = [] := by
    cases rest with
    | nil => rfl
    | cons x rest =>
      rw [leftN_cons] at h1
      cases h1
  subst hr
  rw [List.append_nil] at h2
  have s2 : f__law_deep_s2 [.own (.lst p1), .frz (nL names), .own (.lst []), .no, .no, .no] = _ := (sFor_eq hit (by simp [keepsK])).trans hf
  have s3 : f__law_deep_3 [.own (.lst p3), .frz (nL names), .own (.lst (ps.map itD)), x3, x4, x5] = .ok (.ret (.frz (prD ps)), [.own (.lst p3), .frz (nL names), .frz (prD ps), x3, x4, x5]) := by
    simp [f__law_deep_3, f__law_deep_s3, keepsB_refl]
  have hpl : ps.length = names.length := by rw [h2, List.length_map]
  exact ⟨p3, ps, runF_ret ((seq_step (t := f__law_deep_1) s0).trans ((seq_step (t := f__law_deep_2) s1).trans ((seq_step (t := f__law_deep_3) s2).trans s3))) rfl (fun _ h => by cases h), pp3, h3.done, fun p hp => no p.1 (h2 ▸ List.mem_map_of_mem hp), by omega, by omega⟩
end K09
namespace K09
open PySem PySem.Spec PyProof.Rows L2 BV
theorem rI_bd {n : Nat} {x : Int} (h : x ∈ rI 0 n) : 0 ≤ x ∧ x < n := by
  have := rI_mem.mp h
  omega
abbrev E0 (s a b c d e f g h : Slot) : BV.Env := [s, a, b, c, d, e, f, g, h]
theorem atI_last (xs : List D) (d : D) : atI (xs ++ [d]) (-1) = some d := by
  unfold atI ixN
  rw [if_neg (by omega), if_pos (by rw [List.length_append]; simp only [List.length_cons, List.length_nil]; omega)]
  simp only [Option.bind_some]
  rw [show ((-1 : Int) + ((xs ++ [d]).length : Nat)).toNat = xs.length by rw [List.length_append]; simp only [List.length_cons, List.length_nil]; omega]
  simp
theorem PrOk.last {some : List Int} {n : Nat} : ∀ {ps : List (Str × D)} {p : Str × D}, PrOk some n (ps ++ [p]) → Tr [] some n p.2
  | [], _, h => h.1
  | q :: ps, p, h => PrOk.last (ps := ps) h.2
/-- what is asked of one program -/
theorem asked {S y1 y2 y3 y5 y6 y7 y8 : Slot} {some : List Int} {n : Nat} {ps : List (Str × D)} (hs : ∀ x ∈ some, 0 ≤ x ∧ x ≤ 99) (hs2 : some.length < 64) (h : PrOk some n ps) (hnm : ∀ p ∈ ps, NmOk p.1) (l0 : 1 ≤ ps.length) (l1 : ps.length ≤ 8) (hn : n ≤ 5) (hb : ps.length * (2 * (Tb n + 2) + 3 + 2) + 3 ≤ 16777216) (h3 : ps.length * 3 ^ n ≤ 4000) :
    ∃ y5' y6' y7' y8', f_law_0b_2b (E0 S y1 y2 y3 (.frz (prD ps)) y5 y6 y7 y8) = .ok (.nx, E0 S y1 y2 y3 (.frz (prD ps)) y5' y6' y7' y8') := by
  have hrep := prog_repr hs h hnm l1 hn hb
  obtain ⟨rs, m1, m2, m3⟩ := rooms_prog (by omega) h h3 hs2
  have hne : ps ≠ [] := fun e => by rw [e] at l0; simp at l0
  obtain ⟨kvs, r, r1, r2, r3, hd1⟩ : ∃ (kvs : List (D × D)) (r : Int), (∀ e, callAs m_reach [.dat (prD ps)] e = .ok (.frz (.int r), e)) ∧ (∀ e, callAs m__law_reaches [.dat (prD ps)] e = .ok (.frz (.dict kvs), e)) ∧ ∃ p, getD' kvs (.inr p.1) = .some (.int r) ∧ atI (ps.map itD) 0 = .some (itD p) := by
    cases ps with
    | nil => exact absurd rfl hne
    | cons p ps =>
      obtain ⟨kvs, r, a1, a2, a3⟩ := reach_prog (by omega) h (by omega)
      exact ⟨kvs, r, a1, a2, p, a3, by simp⟩
  obtain ⟨hd1, hd2⟩ := hd1
  obtain ⟨qs, q, rfl⟩ : ∃ qs q, ps = qs ++ [q] := ⟨ps.dropLast, ps.getLast hne, (List.dropLast_concat_getLast hne).symm⟩
  obtain ⟨rl, w1, w2⟩ := reach_last (by omega) h.last
  have w1 : ∀ e, callAs m_reach [.dat (.list [itD q])] e = .ok (.frz (.int rl), e) := w1
  have hat : atI ((qs ++ [q]).map itD) (-1) = .some (itD q) := by
    rw [List.map_append]
    exact atI_last _ _
  have hP : prD (qs ++ [q]) = .list ((qs ++ [q]).map itD) := rfl
  generalize hPP : prD (qs ++ [q]) = P at *
  generalize (qs ++ [q]).map itD = its at *
  have gx0 : gIx P (.int 0) = .some (.frz (itD ⟨r3.1, r3.2⟩)) := by
    rw [hP, gIx_l, hd2]
    rfl
  have gx1 : gIx P (.int (-1)) = .some (.frz (itD q)) := by
    rw [hP, gIx_l, hat]
    rfl
  clear hP hPP hat hd2 hne h3 hb l0 l1 h hnm
  have h0 : f_law_0b_2b_s0 (E0 S y1 y2 y3 (.frz P) y5 y6 y7 y8) = .ok (.nx, E0 S y1 y2 y3 (.frz P) (.frz (.str P.shown)) y6 y7 y8) := by
    simp [f_law_0b_2b_s0, hrep]
  have h1 : f_law_0b_2b_s1 (E0 S y1 y2 y3 (.frz P) (.frz (.str P.shown)) y6 y7 y8) = .ok (.nx, E0 S y1 y2 y3 (.frz P) (.frz (.str P.shown)) (.frz (.int r)) y7 y8) := by
    simp [f_law_0b_2b_s1, r1]
  have h2 : f_law_0b_2b_s2 (E0 S y1 y2 y3 (.frz P) (.frz (.str P.shown)) (.frz (.int r)) y7 y8) = .ok (.nx, E0 S y1 y2 y3 (.frz P) (.frz (.str P.shown)) (.frz (.int r)) y7 y8) := by
    simp [f_law_0b_2b_s2, PyData.isBool, r2, gx0, hd1]
  have gns : gNe (iL rs) (iL rs) = .some (.frz (.bool false)) := gNe_same (n := 2) (Pl.list fun d hd => by
    obtain ⟨i, _, rfl⟩ := List.mem_map.mp hd
    exact Pl.int i) (by decide)
  have gst : gNe (.str P.shown) (.str P.shown) = .some (.frz (.bool false)) := by
    rw [gNe_str]
    simp
  have z : rs.length < sizeLine := Nat.lt_of_lt_of_le (Nat.lt_succ_self _) (zl _ (by omega))
  have z1 : rs.length + 1 ≤ sizeLine := zl _ (by omega)
  obtain ⟨e', hf, v7, v8, rfl⟩ := forL_inv (k := 1) (t := .name 7) (body := f_law_0b_2b_3b)
    (fun _ e => ∃ v7 v8, e = E0 S y1 y2 y3 (.frz P) (.frz (.str P.shown)) (.frz (.int r)) v7 v8)
    (rints 0 2) _ ⟨y7, y8, rfl⟩ (by
      rintro d _ e ⟨v7, v8, rfl⟩
      have a0 : f_law_0b_2b_3b_s0 (E0 S y1 y2 y3 (.frz P) (.frz (.str P.shown)) (.frz (.int r)) (.frz d) v8) = .ok (.nx, E0 S y1 y2 y3 (.frz P) (.frz (.str P.shown)) (.frz (.int r)) (.frz d) (.own (.lst (rs.map .int)))) := by
        simp [f_law_0b_2b_3b_s0, m1]
      have a1 : f_law_0b_2b_3b_s1 (E0 S y1 y2 y3 (.frz P) (.frz (.str P.shown)) (.frz (.int r)) (.frz d) (.own (.lst (rs.map .int)))) = .ok (.nx, E0 S y1 y2 y3 (.frz P) (.frz (.str P.shown)) (.frz (.int r)) (.frz d) (.own (.lst (rs.map .int)))) := by
        simp [f_law_0b_2b_3b_s1, PyData.isList, m2, gns, hrep, gst]
      have a2 : f_law_0b_2b_3b_2 (E0 S y1 y2 y3 (.frz P) (.frz (.str P.shown)) (.frz (.int r)) (.frz d) (.own (.lst (rs.map .int)))) = .ok (.nx, E0 S y1 y2 y3 (.frz P) (.frz (.str P.shown)) (.frz (.int r)) (.frz d) (.own (.lst (rs.map .int ++ [.int (-1)])))) := by
        simp [f_law_0b_2b_3b_2, f_law_0b_2b_3b_s2, mApp, z, z1]
      exact ⟨E0 S y1 y2 y3 (.frz P) (.frz (.str P.shown)) (.frz (.int r)) (.frz d) v8, _, by simp [Tg.put], Or.inl ((seq_step (t := f_law_0b_2b_3b_1) a0).trans ((seq_step (t := f_law_0b_2b_3b_2) a1).trans a2)), _, _, rfl⟩)
  have h3 : f_law_0b_2b_s3 (E0 S y1 y2 y3 (.frz P) (.frz (.str P.shown)) (.frz (.int r)) y7 y8) = _ := (sFor_eq (e1 := E0 S y1 y2 y3 (.frz P) (.frz (.str P.shown)) (.frz (.int r)) y7 y8) (ds := rints 0 2) (by simp) (by simp [keepsK])).trans hf
  have h4 : f_law_0b_2b_4 (E0 S y1 y2 y3 (.frz P) (.frz (.str P.shown)) (.frz (.int r)) v7 v8) = .ok (.nx, E0 S y1 y2 y3 (.frz P) (.frz (.str P.shown)) (.frz (.int r)) v7 v8) := by
    simp [f_law_0b_2b_4, f_law_0b_2b_s4, gx1, w1, w2]
  exact ⟨_, _, _, _, (seq_step (t := f_law_0b_2b_1) h0).trans ((seq_step (t := f_law_0b_2b_2) h1).trans ((seq_step (t := f_law_0b_2b_3) h2).trans ((seq_step (t := f_law_0b_2b_4) h3).trans h4)))⟩
theorem outer (ns : List Int) (k : Nat) (hk : k ≤ 4000) (y2 y3 y4 y5 y6 y7 y8 : Slot) : ∃ z2 z3 z4 z5 z6 z7 z8, f_law_0b (E0 (.frz (.list (ns.map .int))) (.frz (.int k)) y2 y3 y4 y5 y6 y7 y8) = .ok (.nx, E0 (.frz (.list (ns.map .int))) (.frz (.int k)) z2 z3 z4 z5 z6 z7 z8) := by
  obtain ⟨ds, pe, pp⟩ := pool_eq ns k hk
  have pc := fun e => cd2 (e := e) pe
  generalize hS : (BV.Slot.frz (.list (ns.map PyData.int))) = S at *
  have h0 : f_law_0b_s0 (E0 S (.frz (.int k)) y2 y3 y4 y5 y6 y7 y8) = .ok (.nx, E0 S (.frz (.int k)) (.own (.lst ds)) y3 y4 y5 y6 y7 y8) := by
    subst hS
    simp [f_law_0b_s0, pc]
  obtain ⟨r, p1, t1, pp1, r0, r1⟩ := take_call takes (e := E0 S (.frz (.int k)) (.own (.lst ds)) y3 y4 y5 y6 y7 y8) (i := 2) (n := 9) rfl pp (by omega) (by omega)
  simp at t1
  obtain ⟨p2, some, t2, pp2, s1, s2, s3⟩ := picked_call (e := E0 S (.frz (.int k)) (.own (.lst p1)) y3 y4 y5 y6 y7 y8) (i := 2) (ns := rI 0 100) (n := 1 + r) rfl pp1 (by omega) (by rw [rI_len]; decide) (rI_nodup _ _)
  simp at t2
  rw [rI_len] at s1
  have e100 := rints_rI 0 100
  have h1 : f_law_0b_s1 (E0 S (.frz (.int k)) (.own (.lst ds)) y3 y4 y5 y6 y7 y8) = .ok (.nx, E0 S (.frz (.int k)) (.own (.lst p2)) (.frz (iL some)) y4 y5 y6 y7 y8) := by
    simp [f_law_0b_s1, t1, e100, t2]
  obtain ⟨d, p3, t3, pp3, d0, d1⟩ := take_call takes (e := E0 S (.frz (.int k)) (.own (.lst p2)) (.frz (iL some)) y4 y5 y6 y7 y8) (i := 2) (n := 5) rfl pp2 (by omega) (by omega)
  simp at t3
  obtain ⟨p4, ps, g1, pp4, g2, g3, g4, g5⟩ := program_i (d := 1 + d) (some := some) pp3 (by omega) (by omega) (by omega) (s3.imp fun h => Int.ne_of_lt h)
  have g1 := co4 (e := E0 S (.frz (.int k)) (.own (.lst p3)) (.frz (iL some)) y4 y5 y6 y7 y8) (i := 2) rfl g1
  simp at g1
  obtain ⟨p5, qs, f1, pp5, f2, f3, f4, f5⟩ := deep_i pp4
  have f1 := co1 (e := E0 S (.frz (.int k)) (.own (.lst p4)) (.frz (iL some)) y4 y5 y6 y7 y8) (i := 2) rfl f1
  simp at f1
  have hsb : ∀ x ∈ some, 0 ≤ x ∧ x ≤ 99 := fun x hx => by
    have := rI_bd (s2 x hx)
    omega
  have A := fun (y5 y6 y7 y8 : Slot) => asked (S := S) (y1 := .frz (.int k)) (y2 := .own (.lst p5)) (y3 := .frz (iL some)) (y5 := y5) (y6 := y6) (y7 := y7) (y8 := y8) hsb (by omega) g2 g3 g4 (by omega) (Nat.le_refl _) (by
    have : ps.length * (2 * (Tb 5 + 2) + 3 + 2) ≤ 6 * (2 * (Tb 5 + 2) + 3 + 2) := Nat.mul_le_mul_right _ g5
    have e : 6 * (2 * (Tb 5 + 2) + 3 + 2) + 3 ≤ 16777216 := by decide
    omega) (by omega)
  have B := fun (y5 y6 y7 y8 : Slot) => asked (S := S) (y1 := .frz (.int k)) (y2 := .own (.lst p5)) (y3 := .frz (iL some)) (y5 := y5) (y6 := y6) (y7 := y7) (y8 := y8) (some := [7]) (by simp) (by simp) f2 f3 f4 f5 (by omega) (by
    have : qs.length * (2 * (Tb 3 + 2) + 3 + 2) ≤ 8 * (2 * (Tb 3 + 2) + 3 + 2) := Nat.mul_le_mul_right _ f5
    have e : 8 * (2 * (Tb 3 + 2) + 3 + 2) + 3 ≤ 16777216 := by decide
    omega) (by omega)
  obtain ⟨a5, a6, a7, a8, hA⟩ := A y5 y6 y7 y8
  obtain ⟨b5, b6, b7, b8, hB⟩ := B a5 a6 a7 a8
  have hf : forL 1 (.name 4) f_law_0b_2b [prD ps, prD qs] (E0 S (.frz (.int k)) (.own (.lst p5)) (.frz (iL some)) y4 y5 y6 y7 y8) = .ok (.nx, E0 S (.frz (.int k)) (.own (.lst p5)) (.frz (iL some)) (.frz (prD qs)) b5 b6 b7 b8) := by
    refine (forL_n (e1 := E0 S (.frz (.int k)) (.own (.lst p5)) (.frz (iL some)) (.frz (prD ps)) y5 y6 y7 y8) (by simp [Tg.put]) hA).trans ((forL_n (e1 := E0 S (.frz (.int k)) (.own (.lst p5)) (.frz (iL some)) (.frz (prD qs)) a5 a6 a7 a8) (by simp [Tg.put]) hB).trans (by simp [forL]))
  have hit : iSeq 1 (fLst (aCons (fCall m__law_program [] (rOwn 2 (rDat (fC (.int 6)) (rDat (bin gAdd (fC (.int 1)) (fCall m__law_take [] (rOwn 2 (rDat (fC (.int 5)) (rNil))))) (rDat (fVar 3) (rNil)))))) (aCons (fCall m__law_deep [] (rOwn 2 (rNil))) (aNil)))) (E0 S (.frz (.int k)) (.own (.lst p2)) (.frz (iL some)) y4 y5 y6 y7 y8) = .ok ([prD ps, prD qs], E0 S (.frz (.int k)) (.own (.lst p5)) (.frz (iL some)) y4 y5 y6 y7 y8) := by
    simp [t3, g1, f1, itemsD]
  have h2 : f_law_0b_2 (E0 S (.frz (.int k)) (.own (.lst p2)) (.frz (iL some)) y4 y5 y6 y7 y8) = _ := (sFor_eq hit (by simp [keepsK])).trans hf
  exact ⟨_, _, _, _, _, _, _, (seq_step (t := f_law_0b_1) h0).trans ((seq_step (t := f_law_0b_2) h1).trans h2)⟩
theorem fin (ns : List Int) (h : ns.length ≤ 63) : ∃ sl, m_law [.frz (.list (ns.map .int))] = .ok (.frz (.bool true), sl) := by
  obtain ⟨n, n1, hit1⟩ := count_it (ns := ns) (m := 8) (by decide) (by decide) (e := E0 (.frz (.list (ns.map .int))) .no .no .no .no .no .no .no .no) rfl
  generalize hS : (BV.Slot.frz (.list (ns.map PyData.int))) = S at hit1 ⊢
  obtain ⟨e', hf1, w1, w2, w3, w4, w5, w6, w7, w8, rfl, _⟩ := forL_inv (k := 1) (t := .name 1) (body := f_law_0b)
    (fun rs e => ∃ y1 y2 y3 y4 y5 y6 y7 y8, e = E0 S y1 y2 y3 y4 y5 y6 y7 y8 ∧ ∀ d ∈ rs, d ∈ rints 0 n)
    (rints 0 n) (E0 S .no .no .no .no .no .no .no .no) ⟨_, _, _, _, _, _, _, _, rfl, fun d hd => hd⟩ (by
      rintro d rs e ⟨y1, y2, y3, y4, y5, y6, y7, y8, rfl, q⟩
      obtain ⟨k, rfl, hk⟩ := count_mem n1 (q d List.mem_cons_self)
      obtain ⟨z2, z3, z4, z5, z6, z7, z8, hz⟩ := outer ns k hk y2 y3 y4 y5 y6 y7 y8
      rw [hS] at hz
      exact ⟨_, _, by simp [Tg.put], Or.inl hz, _, z2, z3, z4, z5, z6, z7, z8, rfl, fun d hd => q d (List.mem_cons_of_mem _ hd)⟩)
  have s0 : f_law_s0 (E0 S .no .no .no .no .no .no .no .no) = _ := (sFor_eq hit1 (by simp [keepsK])).trans hf1
  have s1 : f_law_1 (E0 S w1 w2 w3 w4 w5 w6 w7 w8) = .ok (.ret (.frz (.bool true)), E0 S w1 w2 w3 w4 w5 w6 w7 w8) := by
    simp [f_law_1, f_law_s1, keepsB_refl]
  have hF := (seq_step (t := f_law_1) s0).trans s1
  refine ⟨[S], ?_⟩
  subst hS
  exact runF_ret hF rfl (fun _ h => by cases h)
end K09
namespace K09
open PySem PySem.Spec PyProof.Rows L2 BV
theorem all_mk {P : Program} {w : World} {K : PySem.W.Frag} {mg : Str → Option Value} {cm : CMap} {fa : Addr} (c : Facts w K mg) (hmg : mg "law" = some (.ref fa)) :
    ∃ fd : FuncData, (∀ (s : Shared) (u : Value), BindsTo s fd ⟨[u], []⟩ [("_law_script", u)]) ∧ ∀ base : Heap, K.In base → base.Ns mainGlobals mg → FnG P w K mg base (L2.CX P w) 14 fa fd ["_law_script"] (spB 1 K cm m_law) := by
  obtain ⟨f0, fd0, F0, g0, b0, _⟩ := c.d_law
  have e := hmg.symm.trans g0
  cases e
  exact ⟨fd0, bind_law F0 fun _ _ _ _ _ _ _ => rfl, fun base _ _ => ok_law c F0⟩
end K09
open PySem PySem.W PyProof.Rows
set_option maxRecDepth 100000 in
set_option maxHeartbeats 0 in
theorem PySem.Challenge.cw_surehand_k09_reach_and_rooms_holds : PySem.Challenge.rw_surehand_k09_reach_and_rooms.Holds := by
  w_on; o_law; k_head; (case hw => w_witness2)
  k_fill
  refine BV.walk_bv (l := PySem.Challenge.rw_surehand_k09_reach_and_rooms) (n := 63) (k := 14) (x := "_law_script") (m := K09.m_law) (cm := fun _ _ => False) rfl (by decide) rfl ⟨rfl, by decide, by decide⟩ (fun w h Y => PySem.W.kIn_of Y) ?F K09.fin
  case F =>
    intro w mg fa h KX G hmg
    refine K09.all_mk ?facts hmg
    constructor
    · refine' BV.def_mk KX G ?a0 ?b0 ?c0 ?d0 (fun _ _ _ _ _ _ us hl => match us, hl with | [_, _], _ => rfl)
      (case a0 => k_is); (case b0 => k_is); (case c0 => k_is); (case d0 => k_is)
    · refine' BV.def_mk KX G ?a1 ?b1 ?c1 ?d1 (fun _ _ _ _ _ _ us hl => match us, hl with | [_, _], _ => rfl)
      (case a1 => k_is); (case b1 => k_is); (case c1 => k_is); (case d1 => k_is)
    · refine' BV.def_mk KX G ?a2 ?b2 ?c2 ?d2 (fun _ _ _ _ _ _ us hl => match us, hl with | [_, _, _], _ => rfl)
      (case a2 => k_is); (case b2 => k_is); (case c2 => k_is); (case d2 => k_is)
    · refine' BV.def_mk KX G ?a3 ?b3 ?c3 ?d3 (fun _ _ _ _ _ _ us hl => match us, hl with | [_, _], _ => rfl)
      (case a3 => k_is); (case b3 => k_is); (case c3 => k_is); (case d3 => k_is)
    · refine' BV.def_mk KX G ?a4 ?b4 ?c4 ?d4 (fun _ _ _ _ _ _ us hl => match us, hl with | [_, _, _, _], _ => rfl)
      (case a4 => k_is); (case b4 => k_is); (case c4 => k_is); (case d4 => k_is)
    · refine' BV.def_mk KX G ?a5 ?b5 ?c5 ?d5 (fun _ _ _ _ _ _ us hl => match us, hl with | [_, _, _, _], _ => rfl)
      (case a5 => k_is); (case b5 => k_is); (case c5 => k_is); (case d5 => k_is)
    · refine' BV.def_mk KX G ?a6 ?b6 ?c6 ?d6 (fun _ _ _ _ _ _ us hl => match us, hl with | [_], _ => rfl)
      (case a6 => k_is); (case b6 => k_is); (case c6 => k_is); (case d6 => k_is)
    · refine' BV.def_mk KX G ?a7 ?b7 ?c7 ?d7 (fun _ _ _ _ _ _ us hl => match us, hl with | [_], _ => rfl)
      (case a7 => k_is); (case b7 => k_is); (case c7 => k_is); (case d7 => k_is)
    · refine' BV.def_mk KX G ?a8 ?b8 ?c8 ?d8 (fun _ _ _ _ _ _ us hl => match us, hl with | [_, _], _ => rfl)
      (case a8 => k_is); (case b8 => k_is); (case c8 => k_is); (case d8 => k_is)
    · refine' BV.def_mk KX G ?a9 ?b9 ?c9 ?d9 (fun _ _ _ _ _ _ us hl => match us, hl with | [_], _ => rfl)
      (case a9 => k_is); (case b9 => k_is); (case c9 => k_is); (case d9 => k_is)
    · refine' BV.def_mk KX G ?a10 ?b10 ?c10 ?d10 (fun _ _ _ _ _ _ us hl => match us, hl with | [_], _ => rfl)
      (case a10 => k_is); (case b10 => k_is); (case c10 => k_is); (case d10 => k_is)
    · refine' BV.def_mk KX G ?a11 ?b11 ?c11 ?d11 (fun _ _ _ _ _ _ us hl => match us, hl with | [_], _ => rfl)
      (case a11 => k_is); (case b11 => k_is); (case c11 => k_is); (case d11 => k_is)
    · refine' BV.def_mk KX G ?a12 ?b12 ?c12 ?d12 (fun _ _ _ _ _ _ us hl => match us, hl with | [_], _ => rfl)
      (case a12 => k_is); (case b12 => k_is); (case c12 => k_is); (case d12 => k_is)
    · refine' BV.def_mk KX G ?a13 ?b13 ?c13 ?d13 (fun _ _ _ _ _ _ us hl => match us, hl with | [_, _], _ => rfl)
      (case a13 => k_is); (case b13 => k_is); (case c13 => k_is); (case d13 => k_is)
    · refine' BV.def_mk KX G ?a14 ?b14 ?c14 ?d14 (fun _ _ _ _ _ _ us hl => match us, hl with | [_], _ => rfl)
      (case a14 => k_is); (case b14 => k_is); (case c14 => k_is); (case d14 => k_is)
    · refine' BV.def_mk KX G ?a15 ?b15 ?c15 ?d15 (fun _ _ _ _ _ _ us hl => match us, hl with | [_], _ => rfl)
      (case a15 => k_is); (case b15 => k_is); (case c15 => k_is); (case d15 => k_is)
    · refine' BV.def_mk KX G ?a16 ?b16 ?c16 ?d16 (fun _ _ _ _ _ _ us hl => match us, hl with | [_], _ => rfl)
      (case a16 => k_is); (case b16 => k_is); (case c16 => k_is); (case d16 => k_is)
    · refine' BV.def_mk KX G ?a17 ?b17 ?c17 ?d17 (fun _ _ _ _ _ _ us hl => match us, hl with | [_], _ => rfl)
      (case a17 => k_is); (case b17 => k_is); (case c17 => k_is); (case d17 => k_is)
    · exact PySem.W.mg_none_of KX G (by k_is)
    · exact PySem.W.mg_none_of KX G (by k_is)
    · exact PySem.W.mg_none_of KX G (by k_is)
    · exact PySem.W.mg_none_of KX G (by k_is)
    · exact PySem.W.mg_none_of KX G (by k_is)
    · exact PySem.W.mg_none_of KX G (by k_is)
    · exact PySem.W.mg_none_of KX G (by k_is)
    · exact PySem.W.mg_none_of KX G (by k_is)
    · exact PySem.W.mg_none_of KX G (by k_is)
    · exact PySem.W.mg_none_of KX G (by k_is)
    · exact PySem.W.mg_none_of KX G (by k_is)
    · exact PySem.W.mg_none_of KX G (by k_is)
    · exact PySem.W.mg_none_of KX G (by k_is)
    · exact PySem.W.mg_none_of KX G (by k_is)
    · exact PySem.W.mg_none_of KX G (by k_is)
