import PyProof.Rows.All
import Wide.All
import OpenK.AllK
import Wide.FinOn
import HandS.ForMost
import HandS.ForExc
import HandS.AnyAll
import KE.SortData
import KE.DataEq
import KE.DataCmp
import HandS.IsInst
import HandS.Style
import PyProof.Rows.SortWalk
import HandS.EndTab
import HandS.Defaults
import HandS.Head0
import HandS.Head1
import HandS.Head2
import HandS.HeadEnd
import HandS.HeadHook1
import HandS.HeadHook2
import HandS.HeadHook3
import HandS.HeadHook4
import HandS.HeadWalk
import KE.KNestM
import PySem.Challenge.RW_reticle_k32_trees_find_boxes
set_option Elab.async false
set_option linter.all false
set_option maxRecDepth 100000
set_option maxHeartbeats 4000000
/-! The D layer, 1: plain data, how they lie in the abstract heap, ownership. -/
namespace DL
open PySem PySem.Spec PyProof.Rows L2

/-- plain data -/
inductive D where
  | non | bl (b : Bool) | int (i : Int) | str (s : List Nat) | tup (xs : List D) | lst (xs : List D)
  | dct (kvs : List (D × D)) | obj (c : Nat) (fs : List D)
  /-- a list that is read alone (the script) -/
  | ro (xs : List D)
  /-- a tuple that may stand in the text (a constant of the module) -/
  | kt (xs : List D)
/-- a value that a def may own and change: z: plain and frozen; l: a list, k: a dict, o: an instance, t: a tuple of such -/
inductive OV where
  | z (d : D) | l (xs : List OV) | k (kvs : List (D × OV)) | o (c : Nat) (fs : List OV) | t (xs : List OV)

/-- the classes by number, their fields in order, the tables of code objects -/
structure Tb where
  ca : Nat → Addr
  fn : Nat → List Str
  tab : Addr → Prop

abbrev AS := Addr → Prop
def Dj (A B : AS) : Prop := ∀ a, A a → B a → False
def Sb (A B : AS) : Prop := ∀ a, A a → B a

inductive KeyD : Key → D → Prop
  | int (i : Int) : KeyD (.inl i) (.int i)
  | str (z : Str) : KeyD (.inr z) (.str z.cps.toList)
inductive KeysD : List Key → List D → Prop
  | nil : KeysD [] []
  | cons {k ks d ds} : KeyD k d → KeysD ks ds → KeysD (k :: ks) (d :: ds)

/-- a list that is read alone -/
def RoS (K : PySem.W.Frag) (F : AS) (H : Hp) (a : Addr) (vs : List V) : Prop := (F a ∧ H a = some (.lst vs)) ∨ (∃ o, H a = some (.frz o (.lst vs))) ∨ SqL K (fun _ => none) a vs
theorem RoS.sq {K : PySem.W.Frag} {F : AS} {H : Hp} {a : Addr} {vs : List V} (h : RoS K F H a vs) : SqL K H a vs := by
  rcases h with ⟨_, h⟩ | ⟨o, h⟩ | h
  · exact .of h
  · exact .inl (.inr ⟨o, h⟩)
  · rcases h with (h | ⟨_, h⟩) | h
    · cases h
    · cases h
    · exact .inr h
mutual
inductive Rep (K : PySem.W.Frag) (T : Tb) (F : AS) (H : Hp) : V → D → Prop
  | non : Rep K T F H .non .non
  | bl (b : Bool) : Rep K T F H (.bl b) (.bl b)
  | int (i : Int) : Rep K T F H (.int i) (.int i)
  | str (z : Str) : Rep K T F H (.str z) (.str z.cps.toList)
  | tup {a : Addr} {vs : List V} {ds : List D} : H a = some (.tup vs) → Reps K T F H vs ds → Rep K T F H (.ref a) (.tup ds)
  | kt {a : Addr} {vs : List V} {ds : List D} : SqT K H a vs → Reps K T F H vs ds → Rep K T F H (.ref a) (.kt ds)
  | lst {a : Addr} {vs : List V} {ds : List D} : F a → H a = some (.lst vs) → Reps K T F H vs ds → Rep K T F H (.ref a) (.lst ds)
  | ro {a : Addr} {vs : List V} {ds : List D} : RoS K F H a vs → Reps K T F H vs ds → Rep K T F H (.ref a) (.ro ds)
  | dctK {a : Addr} {kvs : List (Key × V)} {kds : List (D × D)} : F a → H a = some (.dK kvs) → RepK K T F H kvs kds → Rep K T F H (.ref a) (.dct kds)
  | dctT {a : Addr} {kvs : List (List Key × V)} {kds : List (D × D)} : F a → H a = some (.dT kvs) → RepT K T F H kvs kds → Rep K T F H (.ref a) (.dct kds)
  | obj {a dx : Addr} {c : Nat} {fvs : List (Str × V)} {ds : List D} : F a → H a = some (.ins (T.ca c) dx fvs) → fvs.map (·.1) = (T.fn c).take ds.length → Reps K T F H (fvs.map (·.2)) ds → Rep K T F H (.ref a) (.obj c ds)
inductive Reps (K : PySem.W.Frag) (T : Tb) (F : AS) (H : Hp) : List V → List D → Prop
  | nil : Reps K T F H [] []
  | cons {v : V} {vs : List V} {d : D} {ds : List D} : Rep K T F H v d → Reps K T F H vs ds → Reps K T F H (v :: vs) (d :: ds)
inductive RepK (K : PySem.W.Frag) (T : Tb) (F : AS) (H : Hp) : List (Key × V) → List (D × D) → Prop
  | nil : RepK K T F H [] []
  | cons {k : Key} {v : V} {r : List (Key × V)} {kd d : D} {rd : List (D × D)} : KeyD k kd → Rep K T F H v d → RepK K T F H r rd → RepK K T F H ((k, v) :: r) ((kd, d) :: rd)
inductive RepT (K : PySem.W.Frag) (T : Tb) (F : AS) (H : Hp) : List (List Key × V) → List (D × D) → Prop
  | nil : RepT K T F H [] []
  | cons {k : List Key} {v : V} {r : List (List Key × V)} {kd : List D} {d : D} {rd : List (D × D)} : KeysD k kd → Rep K T F H v d → RepT K T F H r rd → RepT K T F H ((k, v) :: r) ((.tup kd, d) :: rd)
end

mutual
/-- v bears o; the objects that o owns lie in A -/
inductive RO (K : PySem.W.Frag) (T : Tb) (F : AS) (H : Hp) : V → OV → AS → Prop
  | z {v : V} {d : D} {A : AS} : Rep K T F H v d → RO K T F H v (.z d) A
  | l {a : Addr} {vs : List V} {os : List OV} {A B : AS} : H a = some (.lst vs) → A a → ROs K T F H vs os B → Sb B A → ¬ B a → RO K T F H (.ref a) (.l os) A
  | kK {a : Addr} {kvs : List (Key × V)} {kos : List (D × OV)} {A B : AS} : H a = some (.dK kvs) → A a → ROk K T F H kvs kos B → Sb B A → ¬ B a → RO K T F H (.ref a) (.k kos) A
  | kT {a : Addr} {kvs : List (List Key × V)} {kos : List (D × OV)} {A B : AS} : H a = some (.dT kvs) → A a → ROt K T F H kvs kos B → Sb B A → ¬ B a → RO K T F H (.ref a) (.k kos) A
  | o {a dx : Addr} {c : Nat} {fvs : List (Str × V)} {os : List OV} {A B : AS} : H a = some (.ins (T.ca c) dx fvs) → A a → fvs.map (·.1) = (T.fn c).take os.length → ROs K T F H (fvs.map (·.2)) os B → Sb B A → ¬ B a → RO K T F H (.ref a) (.o c os) A
  | t {a : Addr} {vs : List V} {os : List OV} {A : AS} : H a = some (.tup vs) → ROs K T F H vs os A → RO K T F H (.ref a) (.t os) A
inductive ROs (K : PySem.W.Frag) (T : Tb) (F : AS) (H : Hp) : List V → List OV → AS → Prop
  | nil {A : AS} : ROs K T F H [] [] A
  | cons {v : V} {vs : List V} {o : OV} {os : List OV} {A B C : AS} : RO K T F H v o B → ROs K T F H vs os C → Dj B C → Sb B A → Sb C A → ROs K T F H (v :: vs) (o :: os) A
inductive ROk (K : PySem.W.Frag) (T : Tb) (F : AS) (H : Hp) : List (Key × V) → List (D × OV) → AS → Prop
  | nil {A : AS} : ROk K T F H [] [] A
  | cons {k : Key} {v : V} {r : List (Key × V)} {kd : D} {o : OV} {ro : List (D × OV)} {A B C : AS} : KeyD k kd → RO K T F H v o B → ROk K T F H r ro C → Dj B C → Sb B A → Sb C A → ROk K T F H ((k, v) :: r) ((kd, o) :: ro) A
inductive ROt (K : PySem.W.Frag) (T : Tb) (F : AS) (H : Hp) : List (List Key × V) → List (D × OV) → AS → Prop
  | nil {A : AS} : ROt K T F H [] [] A
  | cons {k : List Key} {v : V} {r : List (List Key × V)} {kd : List D} {o : OV} {ro : List (D × OV)} {A B C : AS} : KeysD k kd → RO K T F H v o B → ROt K T F H r ro C → Dj B C → Sb B A → Sb C A → ROt K T F H ((k, v) :: r) ((.tup kd, o) :: ro) A
end

/-- the slots -/
abbrev DS := List (Option OV)
inductive RelS (K : PySem.W.Frag) (T : Tb) (F : AS) (H : Hp) : L2.St → DS → AS → Prop
  | nil {A : AS} : RelS K T F H [] [] A
  | no {x : Option V} {σ : L2.St} {ds : DS} {A : AS} : RelS K T F H σ ds A → RelS K T F H (x :: σ) (Option.none :: ds) A
  | so {v : V} {o : OV} {σ : L2.St} {ds : DS} {A B C : AS} : RO K T F H v o B → RelS K T F H σ ds C → Dj B C → Sb B A → Sb C A → RelS K T F H (Option.some v :: σ) (Option.some o :: ds) A

/-! ### what never changes -/
def stab : HO → Prop
  | .tup _ => True
  | .frz _ _ => True
  | _ => False
/-- H' has what F's and the never changing ones of H say -/
def Kp (F : AS) (H H' : Hp) : Prop := ∀ a o, H a = some o → (F a ∨ stab o) → H' a = some o
theorem Kp.sqT {K : PySem.W.Frag} {F : AS} {H H' : Hp} (k : Kp F H H') {a : Addr} {vs : List V} (h : SqT K H a vs) : SqT K H' a vs := by
  rcases h with (h | ⟨o, h⟩) | h
  · exact .inl (.inl (k _ _ h (.inr trivial)))
  · exact .inl (.inr ⟨o, k _ _ h (.inr trivial)⟩)
  · exact .inr h
theorem RoS.mono {K : PySem.W.Frag} {F F' : AS} {H H' : Hp} (hf : Sb F F') (k : Kp F H H') {a : Addr} {vs : List V} (h : RoS K F H a vs) : RoS K F' H' a vs := by
  rcases h with ⟨f, h⟩ | ⟨o, h⟩ | h
  · exact .inl ⟨hf _ f, k _ _ h (.inl f)⟩
  · exact .inr (.inl ⟨o, k _ _ h (.inr trivial)⟩)
  · exact .inr (.inr h)
section
variable {K : PySem.W.Frag} {T : Tb} {F F' : AS} {H H' : Hp}
mutual
theorem Rep.mono (hf : Sb F F') (k : Kp F H H') : ∀ {v : V} {d : D}, Rep K T F H v d → Rep K T F' H' v d
  | _, _, .non => .non
  | _, _, .bl b => .bl b
  | _, _, .int i => .int i
  | _, _, .str z => .str z
  | _, _, .tup s r => .tup (k _ _ s (.inr trivial)) (Reps.mono hf k r)
  | _, _, .kt s r => .kt (k.sqT s) (Reps.mono hf k r)
  | _, _, .lst f s r => .lst (hf _ f) (k _ _ s (.inl f)) (Reps.mono hf k r)
  | _, _, .ro s r => .ro (s.mono hf k) (Reps.mono hf k r)
  | _, _, .dctK f s r => .dctK (hf _ f) (k _ _ s (.inl f)) (RepK.mono hf k r)
  | _, _, .dctT f s r => .dctT (hf _ f) (k _ _ s (.inl f)) (RepT.mono hf k r)
  | _, _, .obj f s n r => .obj (hf _ f) (k _ _ s (.inl f)) n (Reps.mono hf k r)
theorem Reps.mono (hf : Sb F F') (k : Kp F H H') : ∀ {vs : List V} {ds : List D}, Reps K T F H vs ds → Reps K T F' H' vs ds
  | _, _, .nil => .nil
  | _, _, .cons a b => .cons (Rep.mono hf k a) (Reps.mono hf k b)
theorem RepK.mono (hf : Sb F F') (k : Kp F H H') : ∀ {vs : List (Key × V)} {ds : List (D × D)}, RepK K T F H vs ds → RepK K T F' H' vs ds
  | _, _, .nil => .nil
  | _, _, .cons q a b => .cons q (Rep.mono hf k a) (RepK.mono hf k b)
theorem RepT.mono (hf : Sb F F') (k : Kp F H H') : ∀ {vs : List (List Key × V)} {ds : List (D × D)}, RepT K T F H vs ds → RepT K T F' H' vs ds
  | _, _, .nil => .nil
  | _, _, .cons q a b => .cons q (Rep.mono hf k a) (RepT.mono hf k b)
end
/-- .. and what is owned -/
def KpA (A F : AS) (H H' : Hp) : Prop := ∀ a o, H a = some o → (F a ∨ A a ∨ stab o) → H' a = some o
theorem KpA.kp {A : AS} (k : KpA A F H H') : Kp F H H' := fun a o h z => k a o h (z.elim .inl fun z => .inr (.inr z))
theorem KpA.sub {A B : AS} (k : KpA A F H H') (s : Sb B A) : KpA B F H H' := fun a o h z => k a o h (z.elim .inl fun z => z.elim (fun z => .inr (.inl (s a z))) fun z => .inr (.inr z))
mutual
theorem RO.mono (hf : Sb F F') : ∀ {v : V} {o : OV} {A : AS}, KpA A F H H' → RO K T F H v o A → RO K T F' H' v o A
  | _, _, _, k, .z r => .z (r.mono hf k.kp)
  | _, _, _, k, .l h m r s n => .l (k _ _ h (.inr (.inl m))) m (ROs.mono hf (k.sub s) r) s n
  | _, _, _, k, .kK h m r s n => .kK (k _ _ h (.inr (.inl m))) m (ROk.mono hf (k.sub s) r) s n
  | _, _, _, k, .kT h m r s n => .kT (k _ _ h (.inr (.inl m))) m (ROt.mono hf (k.sub s) r) s n
  | _, _, _, k, .o h m e r s n => .o (k _ _ h (.inr (.inl m))) m e (ROs.mono hf (k.sub s) r) s n
  | _, _, _, k, .t h r => .t (k _ _ h (.inr (.inr trivial))) (ROs.mono hf k r)
theorem ROs.mono (hf : Sb F F') : ∀ {v : List V} {o : List OV} {A : AS}, KpA A F H H' → ROs K T F H v o A → ROs K T F' H' v o A
  | _, _, _, _, .nil => .nil
  | _, _, _, k, .cons a b d s t => .cons (RO.mono hf (k.sub s) a) (ROs.mono hf (k.sub t) b) d s t
theorem ROk.mono (hf : Sb F F') : ∀ {v : List (Key × V)} {o : List (D × OV)} {A : AS}, KpA A F H H' → ROk K T F H v o A → ROk K T F' H' v o A
  | _, _, _, _, .nil => .nil
  | _, _, _, k, .cons q a b d s t => .cons q (RO.mono hf (k.sub s) a) (ROk.mono hf (k.sub t) b) d s t
theorem ROt.mono (hf : Sb F F') : ∀ {v : List (List Key × V)} {o : List (D × OV)} {A : AS}, KpA A F H H' → ROt K T F H v o A → ROt K T F' H' v o A
  | _, _, _, _, .nil => .nil
  | _, _, _, k, .cons q a b d s t => .cons q (RO.mono hf (k.sub s) a) (ROt.mono hf (k.sub t) b) d s t
end
theorem RO.up {v : V} {o : OV} {A B : AS} (s : Sb A B) (r : RO K T F H v o A) : RO K T F H v o B := by
  cases r with
  | z r => exact .z r
  | l h m r s2 n => exact .l h (s _ m) r (fun a q => s a (s2 a q)) n
  | kK h m r s2 n => exact .kK h (s _ m) r (fun a q => s a (s2 a q)) n
  | kT h m r s2 n => exact .kT h (s _ m) r (fun a q => s a (s2 a q)) n
  | o h m e r s2 n => exact .o h (s _ m) e r (fun a q => s a (s2 a q)) n
  | t h r =>
    refine .t h ?_
    cases r with
    | nil => exact .nil
    | cons a b d s1 s2 => exact .cons a b d (fun x q => s x (s1 x q)) fun x q => s x (s2 x q)
theorem ROs.up {v : List V} {o : List OV} {A B : AS} (s : Sb A B) (r : ROs K T F H v o A) : ROs K T F H v o B := by
  cases r with
  | nil => exact .nil
  | cons a b d s1 s2 => exact .cons a b d (fun x q => s x (s1 x q)) fun x q => s x (s2 x q)
theorem RelS.up {σ : L2.St} {ds : DS} {A B : AS} (s : Sb A B) (r : RelS K T F H σ ds A) : RelS K T F H σ ds B := by
  induction r generalizing B with
  | nil => exact .nil
  | no _ ih => exact .no (ih s)
  | so a b d s1 s2 _ => exact .so a b d (fun x q => s x (s1 x q)) fun x q => s x (s2 x q)
theorem RelS.mono (hf : Sb F F') {σ : L2.St} {ds : DS} {A : AS} (k : KpA A F H H') (r : RelS K T F H σ ds A) : RelS K T F' H' σ ds A := by
  induction r with
  | nil => exact .nil
  | no _ ih => exact .no (ih k)
  | so a b d s1 s2 ih => exact .so (a.mono hf (k.sub s1)) (ih (k.sub s2)) d s1 s2
theorem RelS.length {σ : L2.St} {ds : DS} {A : AS} (r : RelS K T F H σ ds A) : σ.length = ds.length := by
  induction r with
  | nil => rfl
  | no _ ih => simp [ih]
  | so _ _ _ _ _ ih => simp [ih]
theorem RelS.get {σ : L2.St} {ds : DS} {A : AS} (r : RelS K T F H σ ds A) : ∀ {i : Nat} {o : OV}, ds[i]? = some (some o) → ∃ v, σ[i]? = some (some v) ∧ RO K T F H v o A := by
  induction r with
  | nil => intro i o h; simp at h
  | no _ ih =>
    intro i o h
    cases i with
    | zero => simp at h
    | succ i => exact ih (by simpa using h)
  | so a b d s1 s2 ih =>
    intro i o h
    cases i with
    | zero => simp at h; subst h; exact ⟨_, rfl, a.up s1⟩
    | succ i =>
      obtain ⟨v, h1, h2⟩ := ih (i := i) (o := o) (by simpa using h)
      exact ⟨v, by simpa using h1, h2.up s2⟩
/-- a slot is set -/
theorem RelS.set {σ : L2.St} {ds : DS} {A B C : AS} {v : V} {o : OV} (r : RelS K T F H σ ds A) (q : RO K T F H v o B) (dj : Dj B A) (s1 : Sb A C) (s2 : Sb B C) (i : Nat) : RelS K T F H (σ.set i (some v)) (ds.set i (some o)) C := by
  induction r generalizing i C with
  | nil => exact .nil
  | no b ih =>
    cases i with
    | zero => exact .so q b dj s2 s1
    | succ i => exact .no (ih dj s1 s2 i)
  | @so v' o' σ ds A B' C' a b d t1 t2 ih =>
    cases i with
    | zero => exact .so q b (fun x h1 h2 => dj x h1 (t2 x h2)) s2 (fun x h => s1 x (t2 x h))
    | succ i =>
      refine .so a (ih (C := fun x => C' x ∨ B x) (fun x h1 h2 => dj x h1 (t2 x h2)) (fun x h => .inl h) (fun x h => .inr h) i) ?_ (fun x h => s1 x (t1 x h)) ?_
      · rintro x h (h' | h')
        · exact d x h h'
        · exact dj x h' (t1 x h)
      · rintro x (h | h)
        · exact s1 x (t2 x h)
        · exact s2 x h
/-- a slot is forgotten -/
theorem RelS.drop {σ : L2.St} {ds : DS} {A : AS} (r : RelS K T F H σ ds A) (i : Nat) : RelS K T F H σ (ds.set i none) A := by
  induction r generalizing i with
  | nil => exact .nil
  | no b ih =>
    cases i with
    | zero => exact .no b
    | succ i => exact .no (ih i)
  | so a b d t1 t2 ih =>
    cases i with
    | zero => exact .no (b.up t2)
    | succ i => exact .so a (ih i) d t1 t2
/-- .. and handed out -/
theorem RelS.take {σ : L2.St} {ds : DS} {A : AS} (r : RelS K T F H σ ds A) : ∀ {i : Nat} {o : OV}, ds[i]? = some (some o) → ∃ v B C, σ[i]? = some (some v) ∧ RO K T F H v o B ∧ RelS K T F H σ (ds.set i none) C ∧ Dj B C ∧ Sb B A ∧ Sb C A := by
  induction r with
  | nil => intro i o h; simp at h
  | no b ih =>
    intro i o h
    cases i with
    | zero => simp at h
    | succ i =>
      obtain ⟨v, B, C, h1, h2, h3, h4⟩ := ih (i := i) (o := o) (by simpa using h)
      exact ⟨v, B, C, by simpa using h1, h2, .no h3, h4⟩
  | @so v' o' σ ds A B' C' a b d t1 t2 ih =>
    intro i o h
    cases i with
    | zero =>
      simp at h; subst h
      exact ⟨v', B', C', rfl, a, .no b, d, t1, t2⟩
    | succ i =>
      obtain ⟨v, B, C, h1, h2, h3, h4, h5, h6⟩ := ih (i := i) (o := o) (by simpa using h)
      refine ⟨v, B, fun x => B' x ∨ C x, by simpa using h1, h2, .so a h3 (fun x p q => d x p (h6 x q)) (fun x p => .inl p) (fun x p => .inr p), ?_, fun x p => t2 x (h5 x p), ?_⟩
      · rintro x p (q | q)
        · exact d x q (h5 x p)
        · exact h4 x p q
      · rintro x (q | q)
        · exact t1 x q
        · exact t2 x (h6 x q)
end

/-! ### frozen: an owned thing becomes plain -/
mutual
def OV.pure : OV → D
  | .z d => d
  | .l xs => .lst (pures xs)
  | .k kvs => .dct (pureK kvs)
  | .o c fs => .obj c (pures fs)
  | .t xs => .tup (pures xs)
def pures : List OV → List D
  | [] => []
  | x :: xs => x.pure :: pures xs
def pureK : List (D × OV) → List (D × D)
  | [] => []
  | (k, x) :: xs => (k, x.pure) :: pureK xs
end
theorem pures_length : ∀ os : List OV, (pures os).length = os.length
  | [] => by simp [pures]
  | o :: os => by simp [pures, pures_length os]
theorem pures_map : ∀ os : List OV, pures os = os.map OV.pure
  | [] => by simp [pures]
  | o :: os => by simp [pures, pures_map os]
theorem pures_z : ∀ ds : List D, pures (ds.map OV.z) = ds
  | [] => by simp [pures]
  | d :: ds => by simp [pures, OV.pure, pures_z ds]
section
variable {K : PySem.W.Frag} {T : Tb} {F F' : AS} {H H' : Hp}
mutual
theorem RO.frz : ∀ {v : V} {o : OV} {A : AS}, Sb F F' → Sb A F' → RO K T F H v o A → Rep K T F' H v o.pure
  | _, _, _, s1, s2, .z r => r.mono s1 fun _ _ h _ => h
  | _, _, _, s1, s2, .l h m r s n => by rw [OV.pure]; exact .lst (s2 _ m) h (ROs.frz s1 (fun x q => s2 x (s x q)) r)
  | _, _, _, s1, s2, .kK h m r s n => by rw [OV.pure]; exact .dctK (s2 _ m) h (ROk.frz s1 (fun x q => s2 x (s x q)) r)
  | _, _, _, s1, s2, .kT h m r s n => by rw [OV.pure]; exact .dctT (s2 _ m) h (ROt.frz s1 (fun x q => s2 x (s x q)) r)
  | _, _, _, s1, s2, .o h m e r s n => by rw [OV.pure]; exact .obj (s2 _ m) h (by rw [pures_length]; exact e) (ROs.frz s1 (fun x q => s2 x (s x q)) r)
  | _, _, _, s1, s2, .t h r => by rw [OV.pure]; exact .tup h (ROs.frz s1 s2 r)
theorem ROs.frz : ∀ {v : List V} {o : List OV} {A : AS}, Sb F F' → Sb A F' → ROs K T F H v o A → Reps K T F' H v (pures o)
  | _, _, _, _, _, .nil => by rw [pures]; exact .nil
  | _, _, _, s1, s2, .cons a b d t1 t2 => by rw [pures]; exact .cons (RO.frz s1 (fun x q => s2 x (t1 x q)) a) (ROs.frz s1 (fun x q => s2 x (t2 x q)) b)
theorem ROk.frz : ∀ {v : List (Key × V)} {o : List (D × OV)} {A : AS}, Sb F F' → Sb A F' → ROk K T F H v o A → RepK K T F' H v (pureK o)
  | _, _, _, _, _, .nil => by rw [pureK]; exact .nil
  | _, _, _, s1, s2, .cons q a b d t1 t2 => by rw [pureK]; exact .cons q (RO.frz s1 (fun x q => s2 x (t1 x q)) a) (ROk.frz s1 (fun x q => s2 x (t2 x q)) b)
theorem ROt.frz : ∀ {v : List (List Key × V)} {o : List (D × OV)} {A : AS}, Sb F F' → Sb A F' → ROt K T F H v o A → RepT K T F' H v (pureK o)
  | _, _, _, _, _, .nil => by rw [pureK]; exact .nil
  | _, _, _, s1, s2, .cons q a b d t1 t2 => by rw [pureK]; exact .cons q (RO.frz s1 (fun x q => s2 x (t1 x q)) a) (ROt.frz s1 (fun x q => s2 x (t2 x q)) b)
end
end
end DL
set_option Elab.async false
set_option linter.all false
set_option maxRecDepth 100000
set_option maxHeartbeats 4000000
/-! The D layer, 2: worlds, how they go on, the readings over plain data. -/
namespace DL
open PySem PySem.Spec PyProof.Rows L2
abbrev HSt := L2.St

/-! ### worlds -/
structure Tabs (T : Tb) (F : AS) (H : Hp) : Prop where
  tb : ∀ P, T.tab P → GxR.TabG H P ∧ ¬ F P
  live : ∀ a, F a → H a ≠ none
structure Wk (K : PySem.W.Frag) (T : Tb) (F : AS) (H : Hp) (A : AS) (σ : HSt) (ds : DS) : Prop where
  tabs : Tabs T F H
  rel : RelS K T F H σ ds A
  dj : Dj A F
  at_ : Dj A T.tab
  tr : ∀ a, A a → H a ≠ none
/-- all is kept, but for the tables -/
structure Ext (T : Tb) (F : AS) (H : Hp) (F' : AS) (H' : Hp) : Prop where
  keep : ∀ a o, H a = some o → ¬ T.tab a → H' a = some o
  sub : Sb F F'
  new : ∀ a, F' a → F a ∨ H a = none
/-- all is kept, but for the tables and what is owned -/
structure Step (T : Tb) (F : AS) (H : Hp) (A : AS) (F' : AS) (H' : Hp) (A' : AS) : Prop where
  keep : ∀ a o, H a = some o → ¬ T.tab a → (A a → stab o) → H' a = some o
  sub : Sb F F'
  new : ∀ a, F' a → F a ∨ A a ∨ H a = none
  own : ∀ a, A' a → A a ∨ H a = none
section
variable {K : PySem.W.Frag} {T : Tb} {F F' F'' A A' A'' B : AS} {H H' H'' : Hp} {σ σ' : HSt} {ds ds' : DS}
theorem Tabs.tr (t : Tabs T F H) {a : Addr} (h : T.tab a) : H a ≠ none := by
  obtain ⟨⟨ps, e, _⟩, _⟩ := t.tb a h
  rw [e]; simp
theorem Tabs.nst (t : Tabs T F H) {a : Addr} {o : HO} (h : H a = some o) (s : stab o) : ¬ T.tab a := fun z => by
  obtain ⟨⟨ps, e, _⟩, _⟩ := t.tb a z
  rw [e] at h; cases h; exact s
theorem Ext.refl : Ext T F H F H := ⟨fun _ _ h _ => h, fun _ h => h, fun _ h => .inl h⟩
theorem Ext.trans (t : Tabs T F' H') (a : Ext T F H F' H') (b : Ext T F' H' F'' H'') : Ext T F H F'' H'' where
  keep := fun x o h n => b.keep x o (a.keep x o h n) n
  sub := fun x h => b.sub x (a.sub x h)
  new := fun x h => by
    rcases b.new x h with h | h
    · exact a.new x h
    · refine .inr ?_
      cases q : H x with
      | none => rfl
      | some o =>
        by_cases z : T.tab x
        · exact absurd h (t.tr z)
        · rw [a.keep x o q z] at h; cases h
theorem Ext.kp (t : Tabs T F H) (e : Ext T F H F' H') : Kp F H H' := fun a o h z => e.keep a o h fun y => by
  rcases z with z | z
  · exact (t.tb a y).2 z
  · exact t.nst h z y
theorem Ext.kpA (t : Tabs T F H) (e : Ext T F H F' H') (at_ : Dj A T.tab) : KpA A F H H' := fun a o h z => e.keep a o h fun y => by
  rcases z with z | z | z
  · exact (t.tb a y).2 z
  · exact at_ a z y
  · exact t.nst h z y
theorem Step.refl : Step T F H A F H A := ⟨fun _ _ h _ _ => h, fun _ h => h, fun _ h => .inl h, fun _ h => .inl h⟩
theorem Ext.step (e : Ext T F H F' H') : Step T F H A F' H' A := ⟨fun a o h n _ => e.keep a o h n, e.sub, fun a h => (e.new a h).elim .inl fun h => .inr (.inr h), fun _ h => .inl h⟩
theorem Step.gone (t : Tabs T F' H') (s : Step T F H A F' H' A') {x : Addr} (h : H' x = none) : A x ∨ H x = none := by
  cases q : H x with
  | none => exact .inr rfl
  | some o =>
    by_cases z : T.tab x
    · exact absurd h (t.tr z)
    · by_cases y : A x
      · exact .inl y
      · rw [s.keep x o q z fun u => absurd u y] at h; cases h
theorem Step.trans (t : Tabs T F' H') (a : Step T F H A F' H' A') (b : Step T F' H' A' F'' H'' A'') : Step T F H A F'' H'' A'' where
  keep := fun x o h n m => b.keep x o (a.keep x o h n m) n fun z => (a.own x z).elim m fun z => by rw [h] at z; cases z
  sub := fun x h => b.sub x (a.sub x h)
  new := fun x h => by
    rcases b.new x h with h | h | h
    · exact a.new x h
    · exact .inr (a.own x h)
    · exact .inr (a.gone t h)
  own := fun x h => by
    rcases b.own x h with h | h
    · exact a.own x h
    · exact a.gone t h
theorem Step.less (s : Step T F H A F' H' A') (l : Sb A'' A') : Step T F H A F' H' A'' := ⟨s.keep, s.sub, s.new, fun a h => s.own a (l a h)⟩
theorem Step.kp (t : Tabs T F H) (dj : Dj A F) (e : Step T F H A F' H' A') : Kp F H H' := fun a o h z => e.keep a o h (fun y => by
  rcases z with z | z
  · exact (t.tb a y).2 z
  · exact t.nst h z y) fun y => by
  rcases z with z | z
  · exact (dj a y z).elim
  · exact z
theorem Wk.ext (w : Wk K T F H A σ ds) (e : Ext T F H F' H') (t : Tabs T F' H') : Wk K T F' H' A σ ds where
  tabs := t
  rel := w.rel.mono e.sub (e.kpA w.tabs w.at_)
  dj := fun a h1 h2 => by
    rcases e.new a h2 with z | z
    · exact w.dj a h1 z
    · exact w.tr a h1 z
  at_ := w.at_
  tr := fun a h => by
    cases q : H a with
    | none => exact absurd q (w.tr a h)
    | some o => rw [e.keep a o q (w.at_ a h)]; simp
theorem Ext.ro (w : Tabs T F H) (at_ : Dj A T.tab) (e : Ext T F H F' H') {v : V} {o : OV} (r : RO K T F H v o A) : RO K T F' H' v o A := r.mono e.sub (e.kpA w at_)
/-- a thing is allocated -/
theorem alloc_ext (t : Tabs T F H) {p : Addr} {o : HO} (hp : H p = none) (hF : Sb F F') (hn : ∀ a, F' a → F a ∨ a = p) : Ext T F H F' (upd H p o) ∧ Tabs T F' (upd H p o) := by
  refine ⟨⟨fun a u h _ => by rw [upd_ne (ne_of_none h hp)]; exact h, hF, fun a h => ?_⟩, fun P hP => ?_, fun a h => ?_⟩
  · rcases hn a h with h | h
    · exact .inl h
    · exact .inr (by rw [h]; exact hp)
  · have ne : P ≠ p := fun z => t.tr hP (by rw [z]; exact hp)
    obtain ⟨⟨ps, e, q⟩, nf⟩ := t.tb P hP
    refine ⟨⟨ps, by rw [upd_ne ne]; exact e, q⟩, fun z => ?_⟩
    rcases hn P z with z | z
    · exact nf z
    · exact ne z
  · by_cases z : a = p
    · rw [z, upd_same]; simp
    · rw [upd_ne z]
      exact t.live a ((hn a h).resolve_right z)
end

/-- things seen: each lies in A, one may lie within another -/
inductive RVs (K : PySem.W.Frag) (T : Tb) (F : AS) (H : Hp) (A : AS) : List V → List OV → Prop
  | nil : RVs K T F H A [] []
  | cons {v : V} {vs : List V} {o : OV} {os : List OV} : RO K T F H v o A → RVs K T F H A vs os → RVs K T F H A (v :: vs) (o :: os)
theorem RVs.mono {K : PySem.W.Frag} {T : Tb} {F F' A : AS} {H H' : Hp} (hf : Sb F F') (k : KpA A F H H') {vs : List V} {os : List OV} (r : RVs K T F H A vs os) : RVs K T F' H' A vs os := by
  induction r with
  | nil => exact .nil
  | cons a _ ih => exact .cons (a.mono hf k) ih
/-! ### results -/
inductive R (α : Type) where
  | ok (a : α) | exc (c : Nat) (fs : List D) | bad
def R.bind {α β : Type} (r : R α) (f : α → R β) : R β := match r with
  | .ok a => f a
  | .exc c fs => .exc c fs
  | .bad => .bad
inductive Out where
  | nx (ds : DS) | rt (o : OV) (ds : DS) | bk (ds : DS) | ct (ds : DS) | exc (c : Nat) (fs : List D) (ds : DS) | bad
abbrev SE := DS → R OV
abbrev SO := DS → R (OV × DS)
abbrev ST := DS → R (Bool × DS)
abbrev SA := DS → R (List OV)
abbrev SS := DS → Out
def forget (ds : DS) : DS := ds.map fun _ => none
def RepX (K : PySem.W.Frag) (T : Tb) (F : AS) (H : Hp) (cls : Value) (d : Option Addr) (c : Nat) (fs : List D) : Prop :=
  cls = .ref (T.ca c) ∧ ((fs = [] ∧ d = none) ∨ ∃ x fvs, d = some x ∧ H x = some (.xd fvs) ∧ fvs.map (·.1) = (T.fn c).take fs.length ∧ Reps K T F H (fvs.map (·.2)) fs)
section
variable (K : PySem.W.Frag) (T : Tb) (W : WX)
def postE (F : AS) (A : AS) (σ : HSt) (H : Hp) (Q : VK) : R OV → Prop
  | .ok o => ∀ v F' H', Ext T F H F' H' → Tabs T F' H' → RO K T F' H' v o A → Q v H'
  | .exc c fs => ∀ cls d F' H', Ext T F H F' H' → Tabs T F' H' → RepX K T F' H' cls d c fs → W cls d σ H'
  | .bad => False
/-- an expression that changes nothing; what is handed back may be seen, where it is owned -/
def liftE (f : SE) : TE := fun σ H Q => ∃ F A ds, Wk K T F H A σ ds ∧ postE K T W F A σ H Q (f ds)
def postO (F : AS) (A : AS) (σ : HSt) (H : Hp) (Q : VK) (ds0 : DS) : R (OV × DS) → Prop
  | .ok (o, ds) => ∀ v F' H' A', Step T F H A F' H' A' → Wk K T F' H' A' (some v :: σ) (some o :: ds) → Q v H'
  | .exc c fs => ∀ cls d F' H' A', Step T F H A F' H' A' → Wk K T F' H' A' σ (forget ds0) → RepX K T F' H' cls d c fs → W cls d σ H'
  | .bad => False
/-- an expression whose value is new, or moved out -/
def liftO (f : SO) : TE := fun σ H Q => ∃ F A ds, Wk K T F H A σ ds ∧ postO K T W F A σ H Q ds (f ds)
def postT (F : AS) (A : AS) (σ : HSt) (H : Hp) (Q : Bool → Hp → Prop) (ds0 : DS) : R (Bool × DS) → Prop
  | .ok (b, ds) => ∀ F' H' A', Step T F H A F' H' A' → Wk K T F' H' A' σ ds → Q b H'
  | .exc c fs => ∀ cls d F' H' A', Step T F H A F' H' A' → Wk K T F' H' A' σ (forget ds0) → RepX K T F' H' cls d c fs → W cls d σ H'
  | .bad => False
def liftT (f : ST) : TT := fun σ H Q => ∃ F A ds, Wk K T F H A σ ds ∧ postT K T W F A σ H Q ds (f ds)
def postA (F : AS) (A : AS) (σ : HSt) (H : Hp) (Q : List V → Hp → Prop) : R (List OV) → Prop
  | .ok os => ∀ vs F' H', Ext T F H F' H' → Tabs T F' H' → RVs K T F' H' A vs os → Q vs H'
  | .exc c fs => ∀ cls d F' H', Ext T F H F' H' → Tabs T F' H' → RepX K T F' H' cls d c fs → W cls d σ H'
  | .bad => False
def liftA (f : SA) : TA := fun σ H Q => ∃ F A ds, Wk K T F H A σ ds ∧ postA K T W F A σ H Q (f ds)
def postS (F : AS) (A : AS) (H : Hp) (D : Ends) : Out → Prop
  | .nx ds => ∀ σ' F' H' A', Step T F H A F' H' A' → Wk K T F' H' A' σ' ds → D.nx σ' H'
  | .rt o ds => ∀ v σ' F' H' A', Step T F H A F' H' A' → Wk K T F' H' A' (some v :: σ') (some o :: ds) → D.rt v H'
  | .bk ds => ∀ σ' F' H' A', Step T F H A F' H' A' → Wk K T F' H' A' σ' ds → D.bk σ' H'
  | .ct ds => ∀ σ' F' H' A', Step T F H A F' H' A' → Wk K T F' H' A' σ' ds → D.ct σ' H'
  | .exc c fs ds => ∀ cls d σ' F' H' A', Step T F H A F' H' A' → Wk K T F' H' A' σ' ds → RepX K T F' H' cls d c fs → W cls d σ' H'
  | .bad => False
def liftS (f : SS) : TS := fun D σ H => ∃ F A ds, Wk K T F H A σ ds ∧ postS K T W F A H D (f ds)
end
/-! ### the judgements -/
def DE (X : Cx) (T : Tb) (W : WX) (e : PySem.Expr) (f : SE) : Prop := PE X e (liftE X.K T W f)
def DO (X : Cx) (T : Tb) (W : WX) (e : PySem.Expr) (f : SO) : Prop := PE X e (liftO X.K T W f)
def DT (X : Cx) (T : Tb) (W : WX) (e : PySem.Expr) (f : ST) : Prop := PT X e (liftT X.K T W f)
def DW (X : Cx) (T : Tb) (W : WX) (e : PySem.Expr) (f : ST) : Prop := PW X e (liftT X.K T W f)
def DA (X : Cx) (T : Tb) (W : WX) (es : List PySem.Expr) (f : SA) : Prop := PA X es (liftA X.K T W f)
def DSt (X : Cx) (T : Tb) (W : WX) (st : Stmt) (f : SS) : Prop := PS X st (liftS X.K T W f)
def DSs (X : Cx) (T : Tb) (W : WX) (st : List Stmt) (f : SS) : Prop := PSs X st (liftS X.K T W f)
theorem PE.imp {X : Cx} {e : PySem.Expr} {t t' : TE} (h : PE X e t) (i : ∀ σ H Q, t' σ H Q → t σ H Q) : PE X e t' := ⟨fun pins s σ H Q I q => h.run pins s σ H Q I (i σ H Q q)⟩
theorem PT.imp {X : Cx} {e : PySem.Expr} {t t' : TT} (h : PT X e t) (i : ∀ σ H Q, t' σ H Q → t σ H Q) : PT X e t' := ⟨fun pins s σ H Q I q => h.run pins s σ H Q I (i σ H Q q)⟩
theorem PW.imp {X : Cx} {e : PySem.Expr} {t t' : TT} (h : PW X e t) (i : ∀ σ H Q, t' σ H Q → t σ H Q) : PW X e t' := ⟨fun wh pins s σ H Q I q => h.run wh pins s σ H Q I (i σ H Q q)⟩
theorem PA.imp {X : Cx} {e : List PySem.Expr} {t t' : TA} (h : PA X e t) (i : ∀ σ H Q, t' σ H Q → t σ H Q) : PA X e t' := ⟨fun pos pins s σ H Q I q => h.run pos pins s σ H Q I (i σ H Q q)⟩
theorem PS.imp {X : Cx} {e : Stmt} {t t' : TS} (h : PS X e t) (i : ∀ D σ H, t' D σ H → t D σ H) : PS X e t' := ⟨fun pins s σ H D I q => h.run pins s σ H D I (i D σ H q)⟩
theorem PSs.imp {X : Cx} {e : List Stmt} {t t' : TS} (h : PSs X e t) (i : ∀ D σ H, t' D σ H → t D σ H) : PSs X e t' := ⟨fun pins s σ H D I q => h.run pins s σ H D I (i D σ H q)⟩
end DL
set_option Elab.async false
set_option linter.all false
set_option maxRecDepth 100000
set_option maxHeartbeats 4000000
/-! The D layer, 3: operators. -/
namespace DL
open PySem PySem.Spec PyProof.Rows L2

/-! ### data as the library's -/
mutual
def D.py : D → PyData
  | .non => .none
  | .bl b => .bool b
  | .int i => .int i
  | .str s => .str ⟨s.toArray⟩
  | .tup xs => .tuple (pys xs)
  | .lst xs => .list (pys xs)
  | .dct _ => .dict []
  | .obj _ _ => .dict []
  | .ro _ => .dict []
  | .kt _ => .dict []
def pys : List D → List PyData
  | [] => []
  | x :: xs => x.py :: pys xs
end
/-- None, truth values, ints, texts, tuples and lists of such, nested n deep at most -/
def okd : Nat → D → Bool
  | _, .non => true
  | _, .bl _ => true
  | _, .int _ => true
  | _, .str _ => true
  | n + 1, .tup xs => xs.all (okd n)
  | n + 1, .lst xs => xs.all (okd n)
  | _, _ => false
theorem pys_map : ∀ xs : List D, pys xs = xs.map D.py
  | [] => by simp [pys]
  | x :: xs => by simp [pys, pys_map xs]
theorem okd_tup {n : Nat} {xs : List D} (h : okd n (.tup xs) = true) : ∃ m, n = m + 1 ∧ xs.all (okd m) = true := by
  cases n with
  | zero => simp [okd] at h
  | succ m => exact ⟨m, rfl, by simpa [okd] using h⟩
theorem okd_lst {n : Nat} {xs : List D} (h : okd n (.lst xs) = true) : ∃ m, n = m + 1 ∧ xs.all (okd m) = true := by
  cases n with
  | zero => simp [okd] at h
  | succ m => exact ⟨m, rfl, by simpa [okd] using h⟩
theorem okd_no {n : Nat} : (∀ x, okd n (.dct x) = false) ∧ (∀ c x, okd n (.obj c x) = false) ∧ (∀ x, okd n (.ro x) = false) ∧ (∀ x, okd n (.kt x) = false) := by
  cases n <;> simp [okd]
mutual
theorem plain_okd : ∀ (d : D) {n : Nat}, okd n d = true → d.py.plain = true ∧ d.py.depth ≤ n
  | .non, _, _ => by simp [D.py, PyData.plain, PyData.depth]
  | .bl b, _, _ => by simp [D.py, PyData.plain, PyData.depth]
  | .int i, _, _ => by simp [D.py, PyData.plain, PyData.depth]
  | .str s, _, _ => by simp [D.py, PyData.plain, PyData.depth]
  | .tup xs, n, h => by
    obtain ⟨m, rfl, h'⟩ := okd_tup h
    have q := plain_okds xs h'
    simp only [D.py, PyData.plain, PyData.depth]
    exact ⟨q.1, by omega⟩
  | .lst xs, n, h => by
    obtain ⟨m, rfl, h'⟩ := okd_lst h
    have q := plain_okds xs h'
    simp only [D.py, PyData.plain, PyData.depth]
    exact ⟨q.1, by omega⟩
  | .dct x, n, h => by rw [okd_no.1] at h; cases h
  | .obj c x, n, h => by rw [okd_no.2.1] at h; cases h
  | .ro x, n, h => by rw [okd_no.2.2.1] at h; cases h
  | .kt x, n, h => by rw [okd_no.2.2.2] at h; cases h
theorem plain_okds : ∀ (xs : List D) {n : Nat}, xs.all (okd n) = true → PyData.plainAll (pys xs) = true ∧ PyData.depthAll (pys xs) ≤ n
  | [], _, _ => by simp [pys, PyData.plainAll, PyData.depthAll]
  | x :: xs, n, h => by
    simp only [List.all_cons, Bool.and_eq_true] at h
    have a := plain_okd x h.1
    have b := plain_okds xs h.2
    simp only [pys, PyData.plainAll, PyData.depthAll, Bool.and_eq_true]
    exact ⟨⟨a.1, b.1⟩, by omega⟩
end
section
variable {K : PySem.W.Frag} {T : Tb} {F : AS} {H : Hp}
theorem str_back (z : Str) : (⟨z.cps.toList.toArray⟩ : Str) = z := by cases z; simp
mutual
theorem Rep.dp : ∀ {v : V} {d : D} {n : Nat}, Rep K T F H v d → okd n d = true → Dp K H v d.py
  | _, _, _, .non, _ => by rw [D.py]; exact .non
  | _, _, _, .bl b, _ => by rw [D.py]; exact .bl b
  | _, _, _, .int i, _ => by rw [D.py]; exact .int i
  | _, _, _, .str z, _ => by rw [D.py, str_back]; exact .str z
  | _, _, n, .tup s r, h => by
    obtain ⟨m, rfl, h'⟩ := okd_tup h
    rw [D.py]; exact .tup (.of s) (Reps.dp r h')
  | _, _, n, .lst f s r, h => by
    obtain ⟨m, rfl, h'⟩ := okd_lst h
    rw [D.py]; exact .lst (.of s) (Reps.dp r h')
  | _, _, n, .dctK _ _ _, h => by rw [okd_no.1] at h; cases h
  | _, _, n, .dctT _ _ _, h => by rw [okd_no.1] at h; cases h
  | _, _, n, .obj _ _ _ _, h => by rw [okd_no.2.1] at h; cases h
  | _, _, n, .ro _ _, h => by rw [okd_no.2.2.1] at h; cases h
  | _, _, n, .kt _ _, h => by rw [okd_no.2.2.2] at h; cases h
theorem Reps.dp : ∀ {v : List V} {d : List D} {n : Nat}, Reps K T F H v d → d.all (okd n) = true → DpAll K H v (pys d)
  | _, _, _, .nil, _ => by rw [pys]; exact .nil
  | _, _, _, .cons a b, h => by
    simp only [List.all_cons, Bool.and_eq_true] at h
    rw [pys]; exact .cons (Rep.dp a h.1) (Reps.dp b h.2)
end
mutual
theorem RO.dp : ∀ {v : V} {o : OV} {A : AS} {n : Nat}, RO K T F H v o A → okd n o.pure = true → Dp K H v o.pure.py
  | _, _, _, _, .z r, h => by rw [OV.pure] at h ⊢; exact r.dp h
  | _, _, _, n, .l s m r t u, h => by
    rw [OV.pure] at h ⊢
    obtain ⟨m, rfl, h'⟩ := okd_lst h
    rw [D.py]; exact .lst (.of s) (ROs.dp r h')
  | _, _, _, n, .kK _ _ _ _ _, h => by rw [OV.pure, okd_no.1] at h; cases h
  | _, _, _, n, .kT _ _ _ _ _, h => by rw [OV.pure, okd_no.1] at h; cases h
  | _, _, _, n, .o _ _ _ _ _ _, h => by rw [OV.pure, okd_no.2.1] at h; cases h
  | _, _, _, n, .t s r, h => by
    rw [OV.pure] at h ⊢
    obtain ⟨m, rfl, h'⟩ := okd_tup h
    rw [D.py]; exact .tup (.of s) (ROs.dp r h')
theorem ROs.dp : ∀ {v : List V} {o : List OV} {A : AS} {n : Nat}, ROs K T F H v o A → (pures o).all (okd n) = true → DpAll K H v (pys (pures o))
  | _, _, _, _, .nil, _ => by rw [pures, pys]; exact .nil
  | _, _, _, _, .cons a b _ _ _, h => by
    rw [pures] at h ⊢
    simp only [List.all_cons, Bool.and_eq_true] at h
    rw [pys]; exact .cons (RO.dp a h.1) (ROs.dp b h.2)
end
end
/-! ### == as data -/
def D.eqv (a b : D) : Bool := PyData.eqv a.py b.py
def D.lt (a b : D) : Bool := PySem.W.dataLt a.py b.py
def D.alike (a b : D) : Bool := PySem.W.alike a.py b.py

/-! ### operators by values -/
/-- what a value-level rule hands back -/
def postV (K : PySem.W.Frag) (T : Tb) (F A : AS) (H : Hp) (Q : VK) : R OV → Prop
  | .ok o => ∀ v F' H', Ext T F H F' H' → Tabs T F' H' → RO K T F' H' v o A → Q v H'
  | _ => False
def Op2 (K : PySem.W.Frag) (T : Tb) (r : R2) (g : OV → OV → R OV) : Prop := ∀ (F A : AS) (H : Hp) (x y : V) (a b : OV) (Q : VK), Tabs T F H → Dj A T.tab → RO K T F H x a A → RO K T F H y b A → postV K T F A H Q (g a b) → r x y H Q
def s2 (g : OV → OV → R OV) (fa fb : SE) : SE := fun ds => (fa ds).bind fun a => (fb ds).bind fun b => g a b
section
variable {K : PySem.W.Frag} {T : Tb} {W : WX} {F A : AS} {H : Hp} {Q : VK}
/-- nothing new is made -/
theorem postV.here (t : Tabs T F H) {o : OV} {v : V} (p : postV K T F A H Q (.ok o)) (r : RO K T F H v o A) : Q v H := p v F H .refl t r
theorem postV.to {σ : HSt} {r : R OV} (p : postE K T W F A σ H Q r) (h : ∀ c fs, r ≠ .exc c fs) : postV K T F A H Q r := by
  cases r with
  | ok o => exact p
  | exc c fs => exact absurd rfl (h c fs)
  | bad => exact p.elim
theorem lift_op2 {r : R2} {g : OV → OV → R OV} (ho : Op2 K T r g) (hx : ∀ a b c fs, g a b ≠ .exc c fs) {fa fb : SE} {σ : HSt} (p : liftE K T W (s2 g fa fb) σ H Q) : tOp r (liftE K T W fa) (liftE K T W fb) σ H Q := by
  obtain ⟨F, A, ds, w, p⟩ := p
  unfold s2 at p
  refine ⟨F, A, ds, w, ?_⟩
  cases ea : fa ds with
  | bad => rw [ea] at p; exact p.elim
  | exc c fs => rw [ea] at p; exact p
  | ok a =>
    rw [ea] at p
    intro v F1 H1 e1 t1 r1
    refine ⟨F1, A, ds, w.ext e1 t1, ?_⟩
    cases eb : fb ds with
    | bad => simp only [R.bind, eb] at p; exact p.elim
    | exc c fs =>
      simp only [R.bind, eb] at p
      intro cls d F2 H2 e2 t2 rx
      exact p cls d F2 H2 (e1.trans t1 e2) t2 rx
    | ok b =>
      simp only [R.bind, eb] at p
      intro v2 F2 H2 e2 t2 r2
      refine ho F2 A H2 v v2 a b Q t2 w.at_ (e2.ro t1 w.at_ r1) r2 ?_
      have p' := postV.to p (hx a b)
      cases eg : g a b with
      | ok o =>
        rw [eg] at p'
        intro v F' H' e t r
        exact p' v F' H' (e1.trans t1 (e2.trans t2 e)) t r
      | exc c fs => exact absurd eg (hx a b c fs)
      | bad => rw [eg] at p'; exact p'.elim
end
/-- the operations, by what stands there -/
def zs : List OV → Option (List D)
  | [] => some []
  | .z d :: r => (zs r).map (d :: ·)
  | _ :: _ => none
def OV.lst? : OV → Option (List D)
  | .z (.lst ds) => some ds
  | .l os => zs os
  | _ => none
def OV.tup? : OV → Option (List D)
  | .z (.tup ds) => some ds
  | .t os => zs os
  | _ => none
theorem zs_some : ∀ {os : List OV} {ds : List D}, zs os = some ds → os = ds.map OV.z
  | [], ds, h => by simp [zs] at h; subst h; rfl
  | .z d :: r, ds, h => by
    simp only [zs, Option.map_eq_some_iff] at h
    obtain ⟨ds', h1, h2⟩ := h
    subst h2
    rw [List.map_cons, ← zs_some h1]
  | .l _ :: _, ds, h => by simp [zs] at h
  | .k _ :: _, ds, h => by simp [zs] at h
  | .o _ _ :: _, ds, h => by simp [zs] at h
  | .t _ :: _, ds, h => by simp [zs] at h
theorem zs_map : ∀ ds : List D, zs (ds.map OV.z) = some ds
  | [] => rfl
  | d :: ds => by simp [zs, zs_map ds]
section
variable {K : PySem.W.Frag} {T : Tb} {F A : AS} {H : Hp}
theorem ROs.zs {vs : List V} {ds : List D} (r : ROs K T F H vs (ds.map OV.z) A) : Reps K T F H vs ds := by
  induction ds generalizing vs A with
  | nil => cases r; exact .nil
  | cons d ds ih =>
    cases r with
    | cons a b _ _ _ =>
      cases a with
      | z r => exact .cons r (ih b)
theorem ROs.ofReps {vs : List V} {ds : List D} (r : Reps K T F H vs ds) : ROs K T F H vs (ds.map OV.z) A := by
  induction ds generalizing vs with
  | nil => cases r; exact .nil
  | cons d ds ih =>
    cases r with
    | cons a b => exact .cons (B := fun _ => False) (C := A) (.z a) (ih b) (fun _ z _ => z) (fun _ z => z.elim) fun _ z => z
theorem RO.lst? {v : V} {o : OV} {ds : List D} (r : RO K T F H v o A) (h : o.lst? = some ds) : ∃ a vs, v = .ref a ∧ H a = some (.lst vs) ∧ Reps K T F H vs ds := by
  cases r with
  | z r =>
    cases r <;> simp [OV.lst?] at h
    subst h
    exact ⟨_, _, rfl, by assumption, by assumption⟩
  | l s m r t u =>
    have e := zs_some (show zs _ = some ds from h)
    subst e
    exact ⟨_, _, rfl, s, r.zs⟩
  | _ => simp [OV.lst?] at h
theorem RO.tup? {v : V} {o : OV} {ds : List D} (r : RO K T F H v o A) (h : o.tup? = some ds) : ∃ a vs, v = .ref a ∧ H a = some (.tup vs) ∧ Reps K T F H vs ds := by
  cases r with
  | z r =>
    cases r <;> simp [OV.tup?] at h
    subst h
    exact ⟨_, _, rfl, by assumption, by assumption⟩
  | t s r =>
    have e := zs_some (show zs _ = some ds from h)
    subst e
    exact ⟨_, _, rfl, s, r.zs⟩
  | _ => simp [OV.tup?] at h
theorem Reps.append {vs ws : List V} {ds es : List D} (a : Reps K T F H vs ds) (b : Reps K T F H ws es) : Reps K T F H (vs ++ ws) (ds ++ es) := by
  induction ds generalizing vs with
  | nil => cases a; exact b
  | cons d ds ih => cases a with | cons x y => exact .cons x (ih y)
theorem Reps.length {vs : List V} {ds : List D} (a : Reps K T F H vs ds) : vs.length = ds.length := by
  induction ds generalizing vs with
  | nil => cases a; rfl
  | cons d ds ih => cases a with | cons x y => simp [ih y]
theorem Reps.nil_iff {vs : List V} {ds : List D} (a : Reps K T F H vs ds) : vs = [] ↔ ds = [] := by
  cases a <;> simp
end
end DL
set_option Elab.async false
set_option linter.all false
set_option maxRecDepth 100000
set_option maxHeartbeats 4000000
/-! The D layer, 4: expressions. -/
namespace DL
open PySem PySem.Spec PyProof.Rows L2
section
variable {X : Cx} {T : Tb} {W : WX}

/-! ### names, constants -/
def sVar (i : Nat) : SE := fun ds => match ds[i]? with
  | some (some o) => .ok o
  | _ => .bad
def sC (d : D) : SE := fun _ => .ok (.z d)
theorem de_var (i : Nat) {x : Str} {pos : Pos} (hN : X.N[i]? = some x := by rfl) (hv : Vis X.env.scope x := by first | exact Or.inl rfl | exact Or.inr (Or.inl rfl) | exact Or.inr (Or.inr rfl)) (hd : (x == ("__debug__" : Str)) = false := by decide)
    (hcd : (x == ("__classdict__" : Str)) = false := by decide) : DE X T W (.Name x pos) (sVar i) := PE.imp (pe_var hN hv hd hcd) fun σ H Q ⟨F, A, ds, w, p⟩ => by
  unfold sVar at p
  split at p
  · rename_i o e
    obtain ⟨v, h1, h2⟩ := w.rel.get e
    exact ⟨v, h1, p v F H .refl w.tabs h2⟩
  · exact p.elim
theorem de_c {e : PySem.Expr} {v : V} {d : D} (h : PE X e (tC v)) (r : ∀ F H, Rep X.K T F H v d) : DE X T W e (sC d) := PE.imp h fun σ H Q ⟨F, A, ds, w, p⟩ =>
  p v F H .refl w.tabs (.z (r F H))
theorem de_int {i j pos} : DE X T W (.Constant (.int i) j pos) (sC (.int i)) := de_c pe_int fun _ _ => .int i
theorem de_bl {b j pos} : DE X T W (.Constant (.bool b) j pos) (sC (.bl b)) := de_c pe_bl fun _ _ => .bl b
theorem de_non {j pos} : DE X T W (.Constant .none j pos) (sC .non) := de_c pe_non fun _ _ => .non
theorem de_str {x : Str} {l : List Nat} {j pos} (h : x.cps.toList = l := by decide +kernel) : DE X T W (.Constant (.str x) j pos) (sC (.str l)) := de_c pe_str fun _ _ => h ▸ .str x
theorem de_glob {x : Str} {v : V} {u : Value} {d : D} {pos : Pos} (hg : Gl X x) (hm : X.mg x = some u) (r : RelV v u) (h : ∀ F H, Rep X.K T F H v d) (hd : (x == ("__debug__" : Str)) = false := by decide) : DE X T W (.Name x pos) (sC d) := de_c (pe_glob hg hm r hd) h

/-! ### arguments -/
def aNil : SA := fun _ => .ok []
def aCons (f : SE) (g : SA) : SA := fun ds => (f ds).bind fun o => (g ds).bind fun os => .ok (o :: os)
theorem da_nil : DA X T W [] aNil := PA.imp pa_nil fun σ H Q ⟨F, A, ds, w, p⟩ => p [] F H .refl w.tabs .nil
theorem lift_cons {K : PySem.W.Frag} {f : SE} {g : SA} {σ : HSt} {H : Hp} {Q : List V → Hp → Prop} (p : liftA K T W (aCons f g) σ H Q) : tCons (liftE K T W f) (liftA K T W g) σ H Q := by
  obtain ⟨F, A, ds, w, p⟩ := p
  unfold aCons at p
  refine ⟨F, A, ds, w, ?_⟩
  cases ea : f ds with
  | bad => rw [ea] at p; exact p.elim
  | exc c fs => rw [ea] at p; exact p
  | ok a =>
    rw [ea] at p
    intro v F1 H1 e1 t1 r1
    refine ⟨F1, A, ds, w.ext e1 t1, ?_⟩
    cases eb : g ds with
    | bad => simp only [R.bind, eb] at p; exact p.elim
    | exc c fs =>
      simp only [R.bind, eb] at p
      intro cls d F2 H2 e2 t2 rx
      exact p cls d F2 H2 (e1.trans t1 e2) t2 rx
    | ok b =>
      simp only [R.bind, eb] at p
      intro vs F2 H2 e2 t2 r2
      exact p (v :: vs) F2 H2 (e1.trans t1 e2) t2 (.cons (e2.ro t1 w.at_ r1) r2)
theorem da_cons {e : PySem.Expr} {es : List PySem.Expr} {f : SE} {g : SA} (ha : DE X T W e f) (hr : DA X T W es g) (hs : starEach (e :: es) X.env = (false, eval e X.env) :: starEach es X.env := by rfl) : DA X T W (e :: es) (aCons f g) :=
  PA.imp (pa_cons ha hr hs) fun _ _ _ p => lift_cons p
/-- what is made of arguments by values -/
def CallD (K : PySem.W.Frag) (T : Tb) (r : List V → Hp → VK → Prop) (g : List OV → R OV) : Prop := ∀ (F A : AS) (H : Hp) (vs : List V) (os : List OV) (Q : VK), Tabs T F H → Dj A T.tab → RVs K T F H A vs os → postV K T F A H Q (g os) → r vs H Q
def sCall (g : List OV → R OV) (fa : SA) : SE := fun ds => (fa ds).bind g
theorem lift_call {K : PySem.W.Frag} {r : List V → Hp → VK → Prop} {g : List OV → R OV} (hc : CallD K T r g) (hx : ∀ os c fs, g os ≠ .exc c fs) {fa : SA} {σ : HSt} {H : Hp} {Q : VK} (p : liftE K T W (sCall g fa) σ H Q) :
    liftA K T W fa σ H fun vs H1 => r vs H1 Q := by
  obtain ⟨F, A, ds, w, p⟩ := p
  unfold sCall at p
  refine ⟨F, A, ds, w, ?_⟩
  cases ea : fa ds with
  | bad => rw [ea] at p; exact p.elim
  | exc c fs => rw [ea] at p; exact p
  | ok os =>
    rw [ea] at p
    intro vs F1 H1 e1 t1 r1
    refine hc F1 A H1 vs os Q t1 w.at_ r1 ?_
    have p' := postV.to (show postE K T W F A σ H Q (g os) from p) (hx os)
    cases eg : g os with
    | ok o =>
      rw [eg] at p'
      intro v F' H' e t r
      exact p' v F' H' (e1.trans t1 e) t r
    | exc c fs => exact absurd eg (hx os c fs)
    | bad => rw [eg] at p'; exact p'.elim

/-! ### binary operators -/
theorem de_op {op : Operator} {r : R2} {g : OV → OV → R OV} {a b : PySem.Expr} {fa fb : SE} {pos : Pos} (ho : OpR X (binaryOp op) r) (hr : Op2 X.K T r g) (hx : ∀ a b c fs, g a b ≠ .exc c fs) (ha : DE X T W a fa) (hb : DE X T W b fb) :
    DE X T W (.BinOp a op b pos) (s2 g fa fb) := PE.imp (pe_op ho ha hb) fun _ _ _ p => lift_op2 hr hx p
theorem de_cmp {op : CmpOp} {r : R2} {g : OV → OV → R OV} {a b : PySem.Expr} {fa fb : SE} {pos : Pos} (ho : OpR X (compareOp op) r) (hr : Op2 X.K T r g) (hx : ∀ a b c fs, g a b ≠ .exc c fs) (ha : DE X T W a fa) (hb : DE X T W b fb) (hm : behindInMarks op b = false) :
    DE X T W (.Compare a [op] [b] pos) (s2 g fa fb) := PE.imp (pe_cmpR ho ha hb hm) fun _ _ _ p => lift_op2 hr hx p

def ofO {α : Type} (f : α → OV) : Option α → R OV
  | some a => .ok (f a)
  | none => .bad
theorem ofO_nx {α : Type} {f : α → OV} {o : Option α} {c fs} : ofO f o ≠ .exc c fs := by cases o <;> simp [ofO]
def line (n : Nat) (r : OV) : R OV := if n ≤ sizeLine then .ok r else .bad
theorem line_nx {n : Nat} {r : OV} {c fs} : line n r ≠ .exc c fs := by unfold line; split <;> simp

/-- the sum -/
def gAdd : OV → OV → R OV
  | .z (.int i), .z (.int j) => .ok (.z (.int (i + j)))
  | .z (.str s), .z (.str t) => line (s.length + t.length) (.z (.str (s ++ t)))
  | a, b => match a.lst?, b.lst? with
    | some xs, some ys => line (xs.length + ys.length) (.z (.lst (xs ++ ys)))
    | _, _ => match a.tup?, b.tup? with
      | some xs, some ys => if xs = [] then .bad else line (xs.length + ys.length) (.z (.tup (xs ++ ys)))
      | _, _ => .bad
end
end DL
set_option Elab.async false
set_option linter.all false
set_option maxRecDepth 100000
set_option maxHeartbeats 4000000
/-! The D layer, 5: the operators' rules. -/
namespace DL
open PySem PySem.Spec PyProof.Rows L2
section
variable {K : PySem.W.Frag} {T : Tb} {F A : AS} {H : Hp} {Q : VK}
theorem new_lst (t : Tabs T F H) {p : Addr} (hp : H p = none) {vs : List V} {ds : List D} (r : Reps K T F H vs ds) (q : postV K T F A H Q (.ok (.z (.lst ds)))) : Q (.ref p) (upd H p (.lst vs)) := by
  obtain ⟨e, t'⟩ := alloc_ext (F' := fun a => F a ∨ a = p) (o := .lst vs) t hp (fun _ h => .inl h) (fun _ h => h)
  exact q _ _ _ e t' (.z (.lst (.inr rfl) upd_same (r.mono e.sub (e.kp t))))
theorem new_tup (t : Tabs T F H) {p : Addr} (hp : H p = none) {vs : List V} {ds : List D} (r : Reps K T F H vs ds) (q : postV K T F A H Q (.ok (.z (.tup ds)))) : Q (.ref p) (upd H p (.tup vs)) := by
  obtain ⟨e, t'⟩ := alloc_ext (F' := F) (o := .tup vs) t hp (fun _ h => h) (fun _ h => .inl h)
  exact q _ _ _ e t' (.z (.tup upd_same (r.mono e.sub (e.kp t))))
theorem RO.int {v : V} {i : Int} (r : RO K T F H v (.z (.int i)) A) : v = .int i := by cases r with | z r => cases r; rfl
theorem RO.bl {v : V} {i : Bool} (r : RO K T F H v (.z (.bl i)) A) : v = .bl i := by cases r with | z r => cases r; rfl
theorem RO.non {v : V} (r : RO K T F H v (.z .non) A) : v = .non := by cases r with | z r => cases r; rfl
theorem RO.str {v : V} {s : List Nat} (r : RO K T F H v (.z (.str s)) A) : ∃ z : Str, v = .str z ∧ z.cps.toList = s := by cases r with | z r => cases r; exact ⟨_, rfl, rfl⟩
theorem slen {z : Str} {s : List Nat} (h : z.cps.toList = s) : z.length = s.length := by subst h; simp [Str.length]
theorem Rep.ofStr {z : Str} {s : List Nat} (h : z.cps.toList = s) : Rep K T F H (.str z) (.str s) := h ▸ .str z
end
section
variable {X : Cx} {T : Tb}
abbrev rAddAll (K : PySem.W.Frag) : R2 := fun x y H Q => ((rI0 fun i j => .int (i + j)) x y H Q ∨ (∃ i j, x = .str i ∧ y = .str j ∧ i.length + j.length ≤ sizeLine ∧ Q (.str (i ++ j)) H)) ∨ (rCat x y H Q ∨ rCatT K x y H Q)
theorem op_addAll : OpR X (binaryOp .Add) (rAddAll X.K) := OpR.or (OpR.or op_add op_add_str) (OpR.or op_cat op_catT)
theorem lst_not_str {K : PySem.W.Frag} {F A : AS} {H : Hp} : True := trivial
theorem gAdd_nx : ∀ a b c fs, gAdd a b ≠ .exc c fs := by
  intro a b c fs
  unfold gAdd
  repeat' split
  all_goals first | exact line_nx | exact fun h => nomatch h
theorem line_ok {K : PySem.W.Frag} {T : Tb} {F A : AS} {H : Hp} {Q : VK} {n : Nat} {r : OV} (p : postV K T F A H Q (line n r)) : n ≤ sizeLine ∧ postV K T F A H Q (.ok r) := by
  unfold line at p
  split at p
  · rename_i h; exact ⟨h, p⟩
  · exact p.elim
theorem o2_add : Op2 X.K T (rAddAll X.K) gAdd := by
  intro F A H x y a b Q t at_ ra rb p
  unfold gAdd at p
  split at p
  · rename_i i j
    exact .inl (.inl ⟨i, j, ra.int, rb.int, p.here t (.z (.int _))⟩)
  · rename_i s u
    obtain ⟨z, rfl, hz⟩ := ra.str
    obtain ⟨w, rfl, hw⟩ := rb.str
    obtain ⟨hl, p⟩ := line_ok p
    refine .inl (.inr ⟨z, w, rfl, rfl, by rw [slen hz, slen hw]; exact hl, p.here t (.z ?_)⟩)
    refine .ofStr ?_
    rw [← hz, ← hw]
    show (z.cps ++ w.cps).toList = _
    simp
  · split at p
    · rename_i xs ys h1 h2
      obtain ⟨l, vs, rfl, e1, r1⟩ := ra.lst? h1
      obtain ⟨m, ws, rfl, e2, r2⟩ := rb.lst? h2
      obtain ⟨hl, p⟩ := line_ok p
      exact .inr (.inl ⟨l, m, vs, ws, rfl, rfl, e1, e2, by rw [r1.length, r2.length]; exact hl, fun q hq => new_lst t hq (r1.append r2) p⟩)
    · split at p
      · rename_i xs ys h1 h2
        split at p
        · exact p.elim
        · rename_i ne
          obtain ⟨l, vs, rfl, e1, r1⟩ := ra.tup? h1
          obtain ⟨m, ws, rfl, e2, r2⟩ := rb.tup? h2
          obtain ⟨hl, p⟩ := line_ok p
          refine .inr (.inr ⟨l, m, vs, ws, rfl, rfl, .of e1, .of e2, fun z => ne (r1.nil_iff.mp z), by rw [r1.length, r2.length]; exact hl, fun z => ?_, fun z q hq => new_tup t hq (r1.append r2) p⟩)
          have e : ys = [] := r2.nil_iff.mp z
          subst e
          rw [List.append_nil] at p
          exact p.here t (.z (.tup e1 r1))
      · exact p.elim
def gSub : OV → OV → R OV
  | .z (.int i), .z (.int j) => .ok (.z (.int (i - j)))
  | _, _ => .bad
theorem gSub_nx : ∀ a b c fs, gSub a b ≠ .exc c fs := by intro a b c fs; unfold gSub; split <;> exact fun h => nomatch h
theorem o2_sub : Op2 X.K T (rI0 fun i j => .int (i - j)) gSub := by
  intro F A H x y a b Q t at_ ra rb p
  unfold gSub at p
  split at p
  · rename_i i j
    exact ⟨i, j, ra.int, rb.int, p.here t (.z (.int _))⟩
  · exact p.elim
def small (i : Int) : Bool := decide (-18446744073709551616 < i) && decide (i < 18446744073709551616)
def gMul : OV → OV → R OV
  | .z (.int i), .z (.int j) => if small i || small j then .ok (.z (.int (i * j))) else .bad
  | .z (.lst xs), .z (.int k) => if decide (-9223372036854775808 ≤ k) && decide (k < 9223372036854775808) then line (xs.length * k.toNat) (.z (.lst (List.replicate k.toNat xs).flatten)) else .bad
  | _, _ => .bad
theorem gMul_nx : ∀ a b c fs, gMul a b ≠ .exc c fs := by
  intro a b c fs; unfold gMul
  repeat' split
  all_goals first | exact line_nx | exact fun h => nomatch h
theorem Reps.rep {K : PySem.W.Frag} {F : AS} {H : Hp} {vs : List V} {ds : List D} (r : Reps K T F H vs ds) : ∀ n : Nat, Reps K T F H (List.replicate n vs).flatten (List.replicate n ds).flatten
  | 0 => .nil
  | n + 1 => by rw [List.replicate_succ, List.replicate_succ, List.flatten_cons, List.flatten_cons]; exact r.append (Reps.rep r n)
theorem o2_mul : Op2 X.K T (fun x y H Q => rI CMul (fun i j => .int (i * j)) x y H Q ∨ rRep x y H Q) gMul := by
  intro F A H x y a b Q t at_ ra rb p
  unfold gMul at p
  split at p
  · rename_i i j
    split at p
    · rename_i h
      refine .inl ⟨i, j, ra.int, rb.int, ?_, p.here t (.z (.int _))⟩
      simp only [small, Bool.or_eq_true, Bool.and_eq_true, decide_eq_true_eq] at h
      exact h
    · exact p.elim
  · rename_i xs k
    split at p
    · rename_i h
      simp only [Bool.and_eq_true, decide_eq_true_eq] at h
      obtain ⟨hl, p⟩ := line_ok p
      obtain ⟨l, vs, rfl, e1, r1⟩ := ra.lst? (ds := xs) rfl
      exact .inr ⟨l, k, vs, rfl, rb.int, e1, h.1, h.2, by rw [r1.length]; exact hl, fun q hq => new_lst t hq (r1.rep _) p⟩
    · exact p.elim
  · exact p.elim
theorem op_mulAll : OpR X (binaryOp .Mult) (fun x y H Q => rI CMul (fun i j => .int (i * j)) x y H Q ∨ rRep x y H Q) := OpR.or op_mul op_rep
def gMod : OV → OV → R OV
  | .z (.int i), .z (.int j) => if 0 < j then .ok (.z (.int (i % j))) else .bad
  | _, _ => .bad
theorem gMod_nx : ∀ a b c fs, gMod a b ≠ .exc c fs := by
  intro a b c fs; unfold gMod
  repeat' split
  all_goals exact fun h => nomatch h
theorem o2_mod : Op2 X.K T (rI (fun _ j => 0 < j) fun i j => .int (i % j)) gMod := by
  intro F A H x y a b Q t at_ ra rb p
  unfold gMod at p
  split at p
  · rename_i i j
    split at p
    · rename_i h; exact ⟨i, j, ra.int, rb.int, h, p.here t (.z (.int _))⟩
    · exact p.elim
  · exact p.elim
def gDiv : OV → OV → R OV
  | .z (.int i), .z (.int j) => if 0 < j ∧ j < 1073741824 then .ok (.z (.int (i / j))) else .bad
  | _, _ => .bad
theorem gDiv_nx : ∀ a b c fs, gDiv a b ≠ .exc c fs := by
  intro a b c fs; unfold gDiv
  repeat' split
  all_goals exact fun h => nomatch h
theorem o2_div : Op2 X.K T (rI CDiv fun i j => .int (i / j)) gDiv := by
  intro F A H x y a b Q t at_ ra rb p
  unfold gDiv at p
  split at p
  · rename_i i j
    split at p
    · rename_i h; exact ⟨i, j, ra.int, rb.int, h, p.here t (.z (.int _))⟩
    · exact p.elim
  · exact p.elim
def gPow : OV → OV → R OV
  | .z (.int i), .z (.int j) => if 0 ≤ j ∧ j ≤ 1000000 ∧ i.natAbs < 18446744073709551616 then .ok (.z (.int (i ^ j.toNat))) else .bad
  | _, _ => .bad
theorem gPow_nx : ∀ a b c fs, gPow a b ≠ .exc c fs := by
  intro a b c fs; unfold gPow
  repeat' split
  all_goals exact fun h => nomatch h
theorem o2_pow : Op2 X.K T (rI CPow fun i j => .int (i ^ j.toNat)) gPow := by
  intro F A H x y a b Q t at_ ra rb p
  unfold gPow at p
  split at p
  · rename_i i j
    split at p
    · rename_i h; exact ⟨i, j, ra.int, rb.int, h, p.here t (.z (.int _))⟩
    · exact p.elim
  · exact p.elim

/-! ### comparisons -/
def rEqP (K : PySem.W.Frag) : R2 := fun x y H Q => ∃ d e, Dp K H x d ∧ Dp K H y e ∧ d.plain = true ∧ e.plain = true ∧ d.depth ≤ 60 ∧ e.depth ≤ 60 ∧ Q (.bl (PyData.eqv d e)) H
def rNeP (K : PySem.W.Frag) : R2 := fun x y H Q => ∃ d e, Dp K H x d ∧ Dp K H y e ∧ d.plain = true ∧ e.plain = true ∧ d.depth ≤ 60 ∧ e.depth ≤ 60 ∧ Q (.bl (!PyData.eqv d e)) H
theorem op_eqP (hu : X.A.units + 64 < cLine) : OpR X (compareOp .Eq) (rEqP X.K) := by
  intro pins s σ H x y v u Q I rx ry h
  obtain ⟨d, e, hd, he, sd, se, dd, de, q⟩ := h
  obtain ⟨as, r1⟩ := Dp.reads I d x v hd rx
  obtain ⟨bs, r2⟩ := Dp.reads I e y u he ry
  exact SeqAt.eq_plain r1 r2 sd se (by omega) ⟨.bl _, H, I, rfl, q⟩
theorem op_neP (hu : X.A.units + 64 < cLine) : OpR X (compareOp .NotEq) (rNeP X.K) := by
  intro pins s σ H x y v u Q I rx ry h
  obtain ⟨d, e, hd, he, sd, se, dd, de, q⟩ := h
  obtain ⟨as, r1⟩ := Dp.reads I d x v hd rx
  obtain ⟨bs, r2⟩ := Dp.reads I e y u he ry
  exact SeqAt.ne_plain r1 r2 sd se (by omega) ⟨.bl _, H, I, rfl, q⟩
def gEq (a b : OV) : R OV := if okd 60 a.pure && okd 60 b.pure then .ok (.z (.bl (a.pure.eqv b.pure))) else .bad
def gNe (a b : OV) : R OV := if okd 60 a.pure && okd 60 b.pure then .ok (.z (.bl (!a.pure.eqv b.pure))) else .bad
theorem gEq_nx : ∀ a b c fs, gEq a b ≠ .exc c fs := by intro a b c fs; unfold gEq; split <;> exact fun h => nomatch h
theorem gNe_nx : ∀ a b c fs, gNe a b ≠ .exc c fs := by intro a b c fs; unfold gNe; split <;> exact fun h => nomatch h
theorem o2_eq : Op2 X.K T (rEqP X.K) gEq := by
  intro F A H x y a b Q t at_ ra rb p
  unfold gEq at p
  split at p
  · rename_i h
    simp only [Bool.and_eq_true] at h
    have q1 := plain_okd _ h.1
    have q2 := plain_okd _ h.2
    exact ⟨_, _, ra.dp h.1, rb.dp h.2, q1.1, q2.1, q1.2, q2.2, p.here t (.z (.bl _))⟩
  · exact p.elim
theorem o2_ne : Op2 X.K T (rNeP X.K) gNe := by
  intro F A H x y a b Q t at_ ra rb p
  unfold gNe at p
  split at p
  · rename_i h
    simp only [Bool.and_eq_true] at h
    have q1 := plain_okd _ h.1
    have q2 := plain_okd _ h.2
    exact ⟨_, _, ra.dp h.1, rb.dp h.2, q1.1, q2.1, q1.2, q2.2, p.here t (.z (.bl _))⟩
  · exact p.elim
def isN : D → Bool
  | .non => true
  | _ => false
/-- an order's comparison: cmp of ints, of alike data by what lt says -/
def gOrd (fi : Int → Int → Bool) (fd : D → D → Bool) : OV → OV → R OV
  | .z (.int i), .z (.int j) => .ok (.z (.bl (fi i j)))
  | .z a, .z b => if okd 60 a && okd 60 b && a.alike b && !isN a then .ok (.z (.bl (fd a b))) else .bad
  | _, _ => .bad
def gLt := gOrd (fun i j => decide (i < j)) fun a b => a.lt b
def gLe := gOrd (fun i j => decide (i ≤ j)) fun a b => !b.lt a
def gGt := gOrd (fun i j => decide (j < i)) fun a b => b.lt a
def gGe := gOrd (fun i j => decide (j ≤ i)) fun a b => !a.lt b
theorem gOrd_nx {fi fd} : ∀ a b c fs, gOrd fi fd a b ≠ .exc c fs := by
  intro a b c fs; unfold gOrd
  repeat' split
  all_goals exact fun h => nomatch h
def rOrd (K : PySem.W.Frag) (fi : Int → Int → Bool) (fd : PyData → PyData → Bool) : R2 := fun x y H Q => (rI0 fun i j => .bl (fi i j)) x y H Q ∨
  ∃ d e, Dp K H x d ∧ Dp K H y e ∧ PySem.W.alike d e = true ∧ d ≠ .none ∧ d.depth ≤ 60 ∧ Q (.bl (fd d e)) H
theorem o2_ord {fi : Int → Int → Bool} {fd : PyData → PyData → Bool} : Op2 X.K T (rOrd X.K fi fd) (gOrd fi fun a b => fd a.py b.py) := by
  intro F A H x y a b Q t at_ ra rb p
  unfold gOrd at p
  split at p
  · rename_i i j
    exact .inl ⟨i, j, ra.int, rb.int, p.here t (.z (.bl _))⟩
  · rename_i a b _
    split at p
    · rename_i h
      simp only [Bool.and_eq_true, Bool.not_eq_true'] at h
      obtain ⟨⟨⟨h1, h2⟩, h3⟩, h4⟩ := h
      have q1 := plain_okd _ h1
      refine .inr ⟨_, _, ra.dp h1, rb.dp h2, h3, ?_, q1.2, p.here t (.z (.bl _))⟩
      cases a <;> simp_all [OV.pure, D.py, isN]
    · exact p.elim
  · exact p.elim
theorem op_ltP (hu : X.A.units + 64 < cLine) : OpR X (compareOp .Lt) (rOrd X.K (fun i j => decide (i < j)) fun a b => PySem.W.dataLt a b) := by
  refine OpR.or op_lt ?_
  intro pins s σ H x y v u Q I rx ry h
  obtain ⟨d, e, hd, he, al, nn, dd, q⟩ := h
  obtain ⟨as, r1⟩ := Dp.reads I d x v hd rx
  obtain ⟨bs, r2⟩ := Dp.reads I e y u he ry
  exact PySem.W.lt_data r1 r2 al nn (by omega) ⟨.bl _, H, I, rfl, q⟩
theorem op_leP (hu : X.A.units + 64 < cLine) : OpR X (compareOp .LtE) (rOrd X.K (fun i j => decide (i ≤ j)) fun a b => !PySem.W.dataLt b a) := by
  refine OpR.or op_le ?_
  intro pins s σ H x y v u Q I rx ry h
  obtain ⟨d, e, hd, he, al, nn, dd, q⟩ := h
  obtain ⟨as, r1⟩ := Dp.reads I d x v hd rx
  obtain ⟨bs, r2⟩ := Dp.reads I e y u he ry
  exact PySem.W.le_data r1 r2 al nn (by omega) ⟨.bl _, H, I, rfl, q⟩
theorem op_gtP (hu : X.A.units + 64 < cLine) : OpR X (compareOp .Gt) (rOrd X.K (fun i j => decide (j < i)) fun a b => PySem.W.dataLt b a) := by
  refine OpR.or op_gt ?_
  intro pins s σ H x y v u Q I rx ry h
  obtain ⟨d, e, hd, he, al, nn, dd, q⟩ := h
  obtain ⟨as, r1⟩ := Dp.reads I d x v hd rx
  obtain ⟨bs, r2⟩ := Dp.reads I e y u he ry
  exact PySem.W.gt_data r1 r2 al nn (by omega) ⟨.bl _, H, I, rfl, q⟩
theorem op_geP (hu : X.A.units + 64 < cLine) : OpR X (compareOp .GtE) (rOrd X.K (fun i j => decide (j ≤ i)) fun a b => !PySem.W.dataLt a b) := by
  refine OpR.or op_ge ?_
  intro pins s σ H x y v u Q I rx ry h
  obtain ⟨d, e, hd, he, al, nn, dd, q⟩ := h
  obtain ⟨as, r1⟩ := Dp.reads I d x v hd rx
  obtain ⟨bs, r2⟩ := Dp.reads I e y u he ry
  exact PySem.W.ge_data r1 r2 al nn (by omega) ⟨.bl _, H, I, rfl, q⟩
end
end DL
set_option Elab.async false
set_option linter.all false
set_option maxRecDepth 100000
set_option maxHeartbeats 4000000
/-! The D layer, 6: in, is, items, fields, displays, slices. -/
namespace DL
open PySem PySem.Spec PyProof.Rows L2

/-- the plain items of a list, a tuple -/
def OV.seq? : OV → Option (List D)
  | .z (.lst ds) => some ds
  | .z (.tup ds) => some ds
  | .z (.ro ds) => some ds
  | .z (.kt ds) => some ds
  | .l os => zs os
  | .t os => zs os
  | _ => none
section
variable {K : PySem.W.Frag} {T : Tb} {F A : AS} {H : Hp} {Q : VK}
theorem RO.seq? {v : V} {o : OV} {ds : List D} (r : RO K T F H v o A) (h : o.seq? = some ds) : ∃ a vs, v = .ref a ∧ (SqL K H a vs ∨ SqT K H a vs) ∧ Reps K T F H vs ds := by
  cases r with
  | z r =>
    cases r with
    | lst f e r => simp [OV.seq?] at h; subst h; exact ⟨_, _, rfl, .inl (.of e), r⟩
    | ro e r => simp [OV.seq?] at h; subst h; exact ⟨_, _, rfl, .inl e.sq, r⟩
    | tup e r => simp [OV.seq?] at h; subst h; exact ⟨_, _, rfl, .inr (.of e), r⟩
    | kt e r => simp [OV.seq?] at h; subst h; exact ⟨_, _, rfl, .inr e, r⟩
    | _ => simp [OV.seq?] at h
  | l s m r t u =>
    have e := zs_some (show zs _ = some ds from h)
    subst e
    exact ⟨_, _, rfl, .inl (.of s), r.zs⟩
  | t s r =>
    have e := zs_some (show zs _ = some ds from h)
    subst e
    exact ⟨_, _, rfl, .inr (.of s), r.zs⟩
  | _ => simp [OV.seq?] at h
theorem Reps.get {vs : List V} {ds : List D} (r : Reps K T F H vs ds) {i : Nat} {d : D} (h : ds[i]? = some d) : ∃ v, vs[i]? = some v ∧ Rep K T F H v d := by
  induction ds generalizing vs i with
  | nil => simp at h
  | cons e ds ih =>
    cases r with
    | cons a b =>
      cases i with
      | zero => simp at h; subst h; exact ⟨_, rfl, a⟩
      | succ i => obtain ⟨v, h1, h2⟩ := ih b (i := i) (by simpa using h); exact ⟨v, by simpa using h1, h2⟩
theorem Reps.at {vs : List V} {ds : List D} (r : Reps K T F H vs ds) {i : Int} {d : D} (h : atI ds i = some d) : ∃ v, atI vs i = some v ∧ Rep K T F H v d := by
  unfold atI at h ⊢
  rw [r.length]
  cases e : ixN ds.length i with
  | none => rw [e] at h; simp at h
  | some j =>
    rw [e] at h
    exact r.get (i := j) h
theorem ROs.get {vs : List V} {os : List OV} (r : ROs K T F H vs os A) {i : Nat} {d : OV} (h : os[i]? = some d) : ∃ v, vs[i]? = some v ∧ RO K T F H v d A := by
  induction os generalizing vs i A with
  | nil => simp at h
  | cons e os ih =>
    cases r with
    | cons a b d s1 s2 =>
      cases i with
      | zero => simp at h; subst h; exact ⟨_, rfl, a.up s1⟩
      | succ i => obtain ⟨v, h1, h2⟩ := ih b (i := i) (by simpa using h); exact ⟨v, by simpa using h1, h2.up s2⟩
theorem ROs.length {vs : List V} {os : List OV} (r : ROs K T F H vs os A) : vs.length = os.length := by
  induction os generalizing vs A with
  | nil => cases r; rfl
  | cons e os ih => cases r with | cons a b d s1 s2 => simp [ih b]
theorem ROs.at {vs : List V} {os : List OV} (r : ROs K T F H vs os A) {i : Int} {d : OV} (h : atI os i = some d) : ∃ v, atI vs i = some v ∧ RO K T F H v d A := by
  unfold atI at h ⊢
  rw [r.length]
  cases e : ixN os.length i with
  | none => rw [e] at h; simp at h
  | some j =>
    rw [e] at h
    exact r.get (i := j) h
end
section
variable {X : Cx} {T : Tb} {W : WX}

/-! ### in, not in -/
def rInP (K : PySem.W.Frag) (neg : Bool) : R2 := fun x y H Q => (∃ (c : Nat) (z : Str), x = .str ⟨#[c]⟩ ∧ y = .str z ∧ Q (.bl (neg != decide (c ∈ z.cps.toList))) H) ∨
  ∃ (d : PyData) (a : Addr) (vs : List V) (ds : List PyData), Dp K H x d ∧ y = .ref a ∧ (SqL K H a vs ∨ SqT K H a vs) ∧ DpAll K H vs ds ∧ d.plain = true ∧ PyData.plainAll ds = true ∧ d.depth ≤ 60 ∧ Q (.bl (neg != ds.any fun z => PyData.eqv z d)) H
theorem Dp.list_or {K : PySem.W.Frag} {H : Hp} {a : Addr} {vs : List V} {ds : List PyData} (s : SqL K H a vs ∨ SqT K H a vs) (r : DpAll K H vs ds) : Dp K H (.ref a) (.list ds) ∨ Dp K H (.ref a) (.tuple ds) := by
  rcases s with s | s
  · exact .inl (.lst s r)
  · exact .inr (.tup s r)
theorem op_inP (hu : X.A.units + 64 < cLine) : OpR X (compareOp .In) (rInP X.K false) := by
  refine OpR.or ?_ ?_
  · intro pins s σ H x y v u Q I rx ry ⟨c, z, e1, e2, q⟩
    exact op_in_sign pins s σ H x y v u Q I rx ry ⟨c, z, e1, e2, by simpa using q⟩
  · intro pins s σ H x y v u Q I rx ry ⟨d, a, vs, ds, hd, e, sq, da, pd, pds, dd, q⟩
    obtain ⟨as, r1⟩ := Dp.reads I d x v hd rx
    subst e
    rcases Dp.list_or sq da with h | h
    · obtain ⟨bs, r2⟩ := Dp.reads I _ _ u h ry
      exact SeqAt.in_list_data r2 r1 pds pd (by omega) ⟨.bl _, H, I, rfl, by simpa using q⟩
    · obtain ⟨bs, r2⟩ := Dp.reads I _ _ u h ry
      exact SeqAt.in_tuple_data r2 r1 pds pd (by omega) ⟨.bl _, H, I, rfl, by simpa using q⟩
theorem op_ninP (hu : X.A.units + 64 < cLine) : OpR X (compareOp .NotIn) (rInP X.K true) := by
  refine OpR.or ?_ ?_
  · intro pins s σ H x y v u Q I rx ry ⟨c, z, e1, e2, q⟩
    exact op_notIn_sign pins s σ H x y v u Q I rx ry ⟨c, z, e1, e2, by simpa using q⟩
  · intro pins s σ H x y v u Q I rx ry ⟨d, a, vs, ds, hd, e, sq, da, pd, pds, dd, q⟩
    obtain ⟨as, r1⟩ := Dp.reads I d x v hd rx
    subst e
    rcases Dp.list_or sq da with h | h
    · obtain ⟨bs, r2⟩ := Dp.reads I _ _ u h ry
      exact SeqAt.notIn_list_data r2 r1 pds pd (by omega) ⟨.bl _, H, I, rfl, by simpa using q⟩
    · obtain ⟨bs, r2⟩ := Dp.reads I _ _ u h ry
      exact SeqAt.notIn_tuple_data r2 r1 pds pd (by omega) ⟨.bl _, H, I, rfl, by simpa using q⟩
def gIn (neg : Bool) : OV → OV → R OV
  | .z (.str [c]), .z (.str t) => .ok (.z (.bl (neg != decide (c ∈ t))))
  | a, b => match b.seq? with
    | some ds => if okd 60 a.pure && ds.all (okd 60) then .ok (.z (.bl (neg != ds.any fun y => y.eqv a.pure))) else .bad
    | none => .bad
theorem gIn_nx {neg : Bool} : ∀ a b c fs, gIn neg a b ≠ .exc c fs := by
  intro a b c fs; unfold gIn
  repeat' split
  all_goals exact fun h => nomatch h
theorem pys_any (ds : List D) (d : D) : ((pys ds).any fun z => PyData.eqv z d.py) = ds.any fun y => y.eqv d := by
  rw [pys_map, List.any_map]; rfl
theorem o2_in {neg : Bool} : Op2 X.K T (rInP X.K neg) (gIn neg) := by
  intro F A H x y a b Q t at_ ra rb p
  unfold gIn at p
  split at p
  · rename_i c u
    obtain ⟨z, rfl, hz⟩ := ra.str
    obtain ⟨w, rfl, hw⟩ := rb.str
    refine .inl ⟨c, w, ?_, rfl, by rw [hw]; exact p.here t (.z (.bl _))⟩
    have e : z = ⟨#[c]⟩ := by
      cases z
      rename_i ar
      have : ar.toList = [c] := hz
      rw [show ar = #[c] from Array.toList_inj.mp (by rw [this])]
    rw [e]
  · split at p
    · rename_i ds h
      split at p
      · rename_i hk
        simp only [Bool.and_eq_true] at hk
        obtain ⟨l, vs, rfl, e1, r1⟩ := rb.seq? h
        have q1 := plain_okd _ hk.1
        have q2 := plain_okds _ hk.2
        exact .inr ⟨_, l, vs, _, ra.dp hk.1, rfl, e1, r1.dp hk.2, q1.1, q2.1, q1.2, by rw [pys_any]; exact p.here t (.z (.bl _))⟩
      · exact p.elim
    · exact p.elim

/-! ### is -/
def gIsN (neg : Bool) (f : SE) : SE := fun ds => (f ds).bind fun o => match o with
  | .z .non => .ok (.z (.bl (neg != true)))
  | _ => .ok (.z (.bl (neg != false)))
theorem RO.isN {K : PySem.W.Frag} {F A : AS} {H : Hp} {v : V} {o : OV} (r : RO K T F H v o A) : v = .non ↔ o = .z .non := by
  constructor
  · rintro rfl
    cases r with
    | z r => cases r; rfl
  · rintro rfl; exact r.non
theorem lift_isN {K : PySem.W.Frag} {f : SE} {σ : HSt} {H : Hp} {Q : VK} (p : liftE K T W (gIsN false f) σ H Q) : tIsN (liftE K T W f) σ H Q := by
  obtain ⟨F, A, ds, w, p⟩ := p
  unfold gIsN at p
  refine ⟨F, A, ds, w, ?_⟩
  cases ea : f ds with
  | bad => rw [ea] at p; exact p.elim
  | exc c fs => rw [ea] at p; exact p
  | ok o =>
    rw [ea] at p
    intro v F1 H1 e1 t1 r1
    have hh := r1.isN
    by_cases q : o = .z .non
    · subst q
      rw [decide_eq_true (hh.mpr rfl)]
      exact p _ F1 H1 e1 t1 (.z (.bl _))
    · rw [decide_eq_false (fun z => q (hh.mp z))]
      simp only [R.bind] at p
      exact p _ F1 H1 e1 t1 (.z (.bl _))
theorem lift_notN {K : PySem.W.Frag} {f : SE} {σ : HSt} {H : Hp} {Q : VK} (p : liftE K T W (gIsN true f) σ H Q) : tNotN (liftE K T W f) σ H Q := by
  obtain ⟨F, A, ds, w, p⟩ := p
  unfold gIsN at p
  refine ⟨F, A, ds, w, ?_⟩
  cases ea : f ds with
  | bad => rw [ea] at p; exact p.elim
  | exc c fs => rw [ea] at p; exact p
  | ok o =>
    rw [ea] at p
    intro v F1 H1 e1 t1 r1
    have hh := r1.isN
    by_cases q : o = .z .non
    · subst q
      rw [decide_eq_true (hh.mpr rfl)]
      exact p _ F1 H1 e1 t1 (.z (.bl _))
    · rw [decide_eq_false (fun z => q (hh.mp z))]
      simp only [R.bind] at p
      exact p _ F1 H1 e1 t1 (.z (.bl _))
theorem de_isN {a : PySem.Expr} {f : SE} {j pos pos'} (ha : DE X T W a f) : DE X T W (.Compare a [.Is] [.Constant .none j pos'] pos) (gIsN false f) := PE.imp (pe_cmp (pc_isN ha)) fun _ _ _ p => lift_isN p
theorem de_notN {a : PySem.Expr} {f : SE} {j pos pos'} (ha : DE X T W a f) : DE X T W (.Compare a [.IsNot] [.Constant .none j pos'] pos) (gIsN true f) := PE.imp (pe_cmp (pc_notN ha)) fun _ _ _ p => lift_notN p
def gIsB (neg : Bool) : OV → OV → R OV
  | .z (.bl a), .z (.bl b) => .ok (.z (.bl (neg != (a == b))))
  | _, _ => .bad
theorem gIsB_nx {neg : Bool} : ∀ a b c fs, gIsB neg a b ≠ .exc c fs := by intro a b c fs; unfold gIsB; split <;> exact fun h => nomatch h
theorem o2_isB : Op2 X.K T rIsB (gIsB false) := by
  intro F A H x y a b Q t at_ ra rb p
  unfold gIsB at p
  split at p
  · rename_i i j
    refine ⟨i, j, ra.bl, rb.bl, ?_⟩
    have := p.here t (.z (.bl _))
    cases i <;> cases j <;> simpa using this
  · exact p.elim
theorem o2_notB : Op2 X.K T rNotB (gIsB true) := by
  intro F A H x y a b Q t at_ ra rb p
  unfold gIsB at p
  split at p
  · rename_i i j
    refine ⟨i, j, ra.bl, rb.bl, ?_⟩
    have := p.here t (.z (.bl _))
    cases i <;> cases j <;> simpa using this
  · exact p.elim

/-! ### items -/
def gIx : OV → OV → R OV
  | .l os, .z (.int i) => ofO id (atI os i)
  | .t os, .z (.int i) => ofO id (atI os i)
  | .z (.str s), .z (.int i) => if s.length ≤ sizeLine then ofO (fun c => .z (.str [c])) (atI s i) else .bad
  | a, .z (.int i) => match a.seq? with
    | some ds => ofO .z (atI ds i)
    | none => .bad
  | _, _ => .bad
theorem gIx_nx : ∀ a b c fs, gIx a b ≠ .exc c fs := by
  intro a b c fs; unfold gIx
  repeat' split
  all_goals first | exact ofO_nx | exact fun h => nomatch h
theorem ofO_ok {α : Type} {K : PySem.W.Frag} {T : Tb} {F A : AS} {H : Hp} {Q : VK} {f : α → OV} {o : Option α} (p : postV K T F A H Q (ofO f o)) : ∃ a, o = some a ∧ postV K T F A H Q (.ok (f a)) := by
  cases o with
  | none => exact p.elim
  | some a => exact ⟨a, rfl, p⟩
theorem o2_ix : Op2 X.K T (rIx X.K) gIx := by
  intro F A H x y a b Q t at_ ra rb p
  unfold gIx at p
  split at p
  · rename_i os i
    obtain ⟨d, hd, p⟩ := ofO_ok p
    cases ra with
    | l s m r sb nb =>
      obtain ⟨v, h1, h2⟩ := r.at hd
      exact .inl ⟨_, _, i, v, rfl, rb.int, .of s, h1, p.here t (h2.up sb)⟩
  · rename_i os i
    obtain ⟨d, hd, p⟩ := ofO_ok p
    cases ra with
    | t s r =>
      obtain ⟨v, h1, h2⟩ := r.at hd
      exact .inr (.inl ⟨_, _, i, v, rfl, rb.int, .of s, h1, p.here t h2⟩)
  · rename_i s i
    split at p
    · rename_i hl
      obtain ⟨c, hd, p⟩ := ofO_ok p
      obtain ⟨z, rfl, hz⟩ := ra.str
      exact .inr (.inr ⟨z, i, c, rfl, rb.int, by rw [slen hz]; exact hl, by rw [hz]; exact hd, p.here t (.z (.ofStr (by simp)))⟩)
    · exact p.elim
  · rename_i a i _ _ _
    split at p
    · rename_i ds h
      obtain ⟨d, hd, p⟩ := ofO_ok p
      obtain ⟨l, vs, rfl, e1, r1⟩ := ra.seq? h
      obtain ⟨v, h1, h2⟩ := r1.at hd
      rcases e1 with e1 | e1
      · exact .inl ⟨l, vs, i, v, rfl, rb.int, e1, h1, p.here t (.z h2)⟩
      · exact .inr (.inl ⟨l, vs, i, v, rfl, rb.int, e1, h1, p.here t (.z h2)⟩)
    · exact p.elim
  · exact p.elim
theorem de_ix {a b : PySem.Expr} {fa fb : SE} {pos : Pos} (ha : DE X T W a fa) (hb : DE X T W b fb) (hs : PlainIx b := by exact fun _ _ => rfl) : DE X T W (.Subscript a b pos) (s2 gIx fa fb) :=
  PE.imp (pe_ix ix_seq ha hb hs) fun _ _ _ p => lift_op2 o2_ix gIx_nx p

/-! ### fields -/
def gFld (c p : Nat) : OV → R OV
  | .z (.obj c' ds) => if c' = c then ofO .z ds[p]? else .bad
  | .o c' os => if c' = c then ofO id os[p]? else .bad
  | _ => .bad
def s1 (g : OV → R OV) (f : SE) : SE := fun ds => (f ds).bind g
theorem lookup_at {f : Str} : ∀ {fvs : List (Str × V)} {names : List Str} {p : Nat} {v : V}, fvs.map (·.1) = names.take fvs.length → names.Nodup → names[p]? = some f → (fvs.map (·.2))[p]? = some v → fvs.lookup f = some v
  | [], _, _, _, _, _, _, h => by simp at h
  | (g, x) :: r, [], _, _, h, _, _, _ => by simp at h
  | (g, x) :: r, n :: ns, 0, v, h, nd, hp, hv => by
    simp at h hp hv
    obtain ⟨rfl, _⟩ := h
    subst hp; subst hv
    simp [List.lookup]
  | (g, x) :: r, n :: ns, p + 1, v, h, nd, hp, hv => by
    simp at h hp hv
    obtain ⟨rfl, h⟩ := h
    have ne : ¬ f = g := fun z => (List.nodup_cons.mp nd).1 (z ▸ List.mem_of_getElem? hp)
    have : (f == g) = false := by simpa using ne
    simp only [List.lookup, this]
    exact lookup_at h (List.nodup_cons.mp nd).2 hp (by simpa using hv)
theorem de_fld {e : PySem.Expr} {f : Str} {fe : SE} {pos : Pos} (c p : Nat) (he : DE X T W e fe) (cl : Cls X.K (T.ca c)) (na : NoAttr X.K (T.ca c) f) (nd : (T.fn c).Nodup) (hp : (T.fn c)[p]? = some f) (hb : attributeBase e f X.env (eval e X.env) = eval e X.env := by rfl) :
    DE X T W (.Attribute e f pos) (s1 (gFld c p) fe) := PE.imp (pe_fld he hb) fun σ H Q ⟨F, A, ds, w, q⟩ => by
  unfold s1 at q
  refine ⟨F, A, ds, w, ?_⟩
  cases ea : fe ds with
  | bad => rw [ea] at q; exact q.elim
  | exc c fs => rw [ea] at q; exact q
  | ok o =>
    rw [ea] at q
    intro v F1 H1 e1 t1 r1
    simp only [R.bind, gFld] at q
    split at q
    · rename_i c' ds'
      split at q
      · rename_i hc; subst hc
        cases r1 with
        | z r1 =>
          cases r1 with
          | obj f1 h1 hn hr =>
            rename_i a dx fvs
            cases eo : ds'[p]? with
            | none => rw [eo] at q; exact q.elim
            | some d =>
              rw [eo] at q
              obtain ⟨x, hx, rx⟩ := hr.get eo
              have hl : fvs.length = ds'.length := by have := hr.length; simpa using this
              exact ⟨_, _, _, _, x, rfl, h1, cl, na, lookup_at (by rw [hl]; exact hn) nd hp hx, q x F1 H1 e1 t1 (.z rx)⟩
      · exact q.elim
    · rename_i c' os
      split at q
      · rename_i hc; subst hc
        cases r1 with
        | o h1 m hn hr sb nb =>
          rename_i a dx fvs B
          cases eo : os[p]? with
          | none => rw [eo] at q; exact q.elim
          | some d =>
            rw [eo] at q
            obtain ⟨x, hx, rx⟩ := hr.get eo
            have hl : fvs.length = os.length := by have := hr.length; simpa using this
            exact ⟨_, _, _, _, x, rfl, h1, cl, na, lookup_at (by rw [hl]; exact hn) nd hp hx, q x F1 H1 e1 t1 (rx.up sb)⟩
      · exact q.elim
    · exact q.elim

/-! ### tuples and lists that are laid -/
theorem RVs.zs {K : PySem.W.Frag} {F A : AS} {H : Hp} {vs : List V} {os : List OV} {ds : List D} (r : RVs K T F H A vs os) (h : DL.zs os = some ds) : Reps K T F H vs ds := by
  have e := zs_some h
  subst e
  clear h
  induction ds generalizing vs with
  | nil => cases r; exact .nil
  | cons d ds ih => cases r with | cons a b => cases a with | z a => exact .cons a (ih b)
def gTup (os : List OV) : R OV := match zs os with
  | some ds => line ds.length (.z (.tup ds))
  | none => .bad
def gLst (os : List OV) : R OV := match zs os with
  | some ds => line ds.length (.z (.lst ds))
  | none => .bad
theorem gTup_nx : ∀ os c fs, gTup os ≠ .exc c fs := by intro os c fs; unfold gTup; split; exact line_nx; exact fun h => nomatch h
theorem gLst_nx : ∀ os c fs, gLst os ≠ .exc c fs := by intro os c fs; unfold gLst; split; exact line_nx; exact fun h => nomatch h
theorem cd_tup : CallD X.K T (fun xs H Q => xs.length ≤ sizeLine ∧ ∀ p, H p = none → Q (.ref p) (upd H p (.tup xs))) gTup := by
  intro F A H vs os Q t at_ r p
  unfold gTup at p
  split at p
  · rename_i ds h
    obtain ⟨hl, p⟩ := line_ok p
    have q := r.zs h
    exact ⟨by rw [q.length]; exact hl, fun x hx => new_tup t hx q p⟩
  · exact p.elim
theorem cd_lst : CallD X.K T (fun xs H Q => xs.length ≤ sizeLine ∧ ∀ p, H p = none → Q (.ref p) (upd H p (.lst xs))) gLst := by
  intro F A H vs os Q t at_ r p
  unfold gLst at p
  split at p
  · rename_i ds h
    obtain ⟨hl, p⟩ := line_ok p
    have q := r.zs h
    exact ⟨by rw [q.length]; exact hl, fun x hx => new_lst t hx q p⟩
  · exact p.elim
theorem de_tup {es : List PySem.Expr} {fa : SA} {k : Nat} {pos : Pos} (h : DA X T W es fa) : DE X T W (.Tuple es k pos) (sCall gTup fa) := PE.imp (pe_tup h) fun _ _ _ p => lift_call cd_tup gTup_nx p
theorem de_lst {es : List PySem.Expr} {fa : SA} {pos : Pos} (h : DA X T W es fa) : DE X T W (.List es pos) (sCall gLst fa) := PE.imp (pe_lst h) fun _ _ _ p => lift_call cd_lst gLst_nx p

/-! ### slices -/
abbrev SPt := DS → R (Option Int)
def postP (K : PySem.W.Frag) (T : Tb) (W : WX) (F A : AS) (σ : HSt) (H : Hp) (Q : Option Int → Hp → Prop) : R (Option Int) → Prop
  | .ok o => ∀ F' H', Ext T F H F' H' → Tabs T F' H' → Q o H'
  | .exc c fs => ∀ cls d F' H', Ext T F H F' H' → Tabs T F' H' → RepX K T F' H' cls d c fs → W cls d σ H'
  | .bad => False
def liftP (K : PySem.W.Frag) (T : Tb) (W : WX) (f : SPt) : TO := fun σ H Q => ∃ F A ds, Wk K T F H A σ ds ∧ postP K T W F A σ H Q (f ds)
def DP (X : Cx) (T : Tb) (W : WX) (e : Option PySem.Expr) (f : SPt) : Prop := PO X e (liftP X.K T W f)
theorem PO.imp {e : Option PySem.Expr} {t t' : TO} (h : PO X e t) (i : ∀ σ H Q, t' σ H Q → t σ H Q) : PO X e t' := ⟨fun pins s σ H Q I q => h.run pins s σ H Q I (i σ H Q q)⟩
def pNo : SPt := fun _ => .ok none
def pSo (f : SE) : SPt := fun ds => (f ds).bind fun o => match o with
  | .z (.int i) => .ok (some i)
  | _ => .bad
theorem dp_no : DP X T W none pNo := PO.imp po_none fun σ H Q ⟨F, A, ds, w, p⟩ => p F H .refl w.tabs
theorem dp_so {e : PySem.Expr} {f : SE} (he : DE X T W e f) : DP X T W (some e) (pSo f) := PO.imp (po_some he) fun σ H Q ⟨F, A, ds, w, p⟩ => by
  unfold pSo at p
  refine ⟨F, A, ds, w, ?_⟩
  cases ea : f ds with
  | bad => rw [ea] at p; exact p.elim
  | exc c fs => rw [ea] at p; exact p
  | ok o =>
    rw [ea] at p
    intro v F1 H1 e1 t1 r1
    simp only [R.bind] at p
    split at p
    · rename_i i
      exact ⟨i, r1.int, p F1 H1 e1 t1⟩
    · exact p.elim
def cutD {α : Type} (xs : List α) (lo hi : Option Int) : List α := (xs.drop (HT.sIx xs.length 0 lo)).take (HT.sIx xs.length xs.length hi - HT.sIx xs.length 0 lo)
theorem Reps.drop {K : PySem.W.Frag} {F : AS} {H : Hp} {vs : List V} {ds : List D} (r : Reps K T F H vs ds) (n : Nat) : Reps K T F H (vs.drop n) (ds.drop n) := by
  induction ds generalizing vs n with
  | nil => cases r; simpa using .nil
  | cons d ds ih =>
    cases r with
    | cons a b =>
      cases n with
      | zero => exact .cons a b
      | succ n => exact ih b n
theorem Reps.take {K : PySem.W.Frag} {F : AS} {H : Hp} {vs : List V} {ds : List D} (r : Reps K T F H vs ds) (n : Nat) : Reps K T F H (vs.take n) (ds.take n) := by
  induction ds generalizing vs n with
  | nil => cases r; simpa using .nil
  | cons d ds ih =>
    cases r with
    | cons a b =>
      cases n with
      | zero => exact .nil
      | succ n => exact .cons a (ih b n)
theorem Reps.cut {K : PySem.W.Frag} {F : AS} {H : Hp} {vs : List V} {ds : List D} (r : Reps K T F H vs ds) (lo hi : Option Int) : Reps K T F H (cutV vs lo hi) (cutD ds lo hi) := by
  unfold cutV cutD
  rw [r.length]
  exact (r.drop _).take _
abbrev rSlAll (K : PySem.W.Frag) : V → Option Int → Option Int → Hp → VK → Prop := fun x lo hi H Q => L2.rSlS x lo hi H Q ∨ (rSlL K x lo hi H Q ∨ rSlT K x lo hi H Q)
theorem sl_all : SlR X (rSlAll X.K) := SlR.or sl_str (SlR.or sl_list sl_tup)
def gSlt (a : OV) (lo hi : Option Int) : R OV := match a with
  | .z (.str s) => if s.length ≤ sizeLine then .ok (.z (.str (cutD s lo hi))) else .bad
  | a => match a.lst? with
    | some ds => .ok (.z (.lst (cutD ds lo hi)))
    | none => match a.tup? with
      | some ds => if HT.sIx ds.length 0 lo = 0 ∧ HT.sIx ds.length ds.length hi = ds.length then .bad else .ok (.z (.tup (cutD ds lo hi)))
      | none => .bad
theorem gSlt_nx : ∀ a lo hi c fs, gSlt a lo hi ≠ .exc c fs := by
  intro a lo hi c fs; unfold gSlt
  repeat' split
  all_goals exact fun h => nomatch h
theorem sl_val {F A : AS} {H : Hp} {x : V} {a : OV} {lo hi : Option Int} {Q : VK} (t : Tabs T F H) (ra : RO X.K T F H x a A) (p : postV X.K T F A H Q (gSlt a lo hi)) : rSlAll X.K x lo hi H Q := by
  unfold gSlt at p
  split at p
  · rename_i s
    split at p
    · rename_i hl
      obtain ⟨z, rfl, hz⟩ := ra.str
      refine .inl ⟨z, rfl, by rw [slen hz]; exact hl, p.here t (.z (.ofStr ?_))⟩
      unfold cutS cutD
      rw [hz, slen hz]
    · exact p.elim
  · split at p
    · rename_i ds h
      obtain ⟨l, vs, rfl, e1, r1⟩ := ra.lst? h
      exact .inr (.inl ⟨l, vs, rfl, .of e1, fun q hq => new_lst t hq (r1.cut lo hi) p⟩)
    · split at p
      · rename_i ds h
        split at p
        · exact p.elim
        · rename_i hn
          obtain ⟨l, vs, rfl, e1, r1⟩ := ra.tup? h
          exact .inr (.inr ⟨l, vs, rfl, .of e1, by rw [r1.length]; exact hn, fun q hq => new_tup t hq (r1.cut lo hi) p⟩)
      · exact p.elim
def sSl (f : SE) (l h : SPt) : SE := fun ds => (f ds).bind fun o => (l ds).bind fun lo => (h ds).bind fun hi => gSlt o lo hi
theorem de_slice {e : PySem.Expr} {lo hi : Option PySem.Expr} {f : SE} {l h : SPt} {pos p2 : Pos} (he : DE X T W e f) (hl : DP X T W lo l) (hh : DP X T W hi h) : DE X T W (.Subscript e (.Slice lo hi none p2) pos) (sSl f l h) :=
  PE.imp (pe_slice sl_all he hl hh) fun σ H Q ⟨F, A, ds, w, p⟩ => by
  unfold sSl at p
  refine ⟨F, A, ds, w, ?_⟩
  cases ea : f ds with
  | bad => rw [ea] at p; exact p.elim
  | exc c fs => rw [ea] at p; exact p
  | ok o =>
    rw [ea] at p
    intro v F1 H1 e1 t1 r1
    refine ⟨F1, A, ds, w.ext e1 t1, ?_⟩
    cases el : l ds with
    | bad => simp only [R.bind, el] at p; exact p.elim
    | exc c fs =>
      simp only [R.bind, el] at p
      exact fun cls d F2 H2 e2 t2 rx => p cls d F2 H2 (e1.trans t1 e2) t2 rx
    | ok lo =>
      simp only [R.bind, el] at p
      intro F2 H2 e2 t2
      refine ⟨F2, A, ds, (w.ext e1 t1).ext e2 t2, ?_⟩
      cases eh : h ds with
      | bad => simp only [eh] at p; exact p.elim
      | exc c fs =>
        simp only [eh] at p
        exact fun cls d F3 H3 e3 t3 rx => p cls d F3 H3 (e1.trans t1 (e2.trans t2 e3)) t3 rx
      | ok hi =>
        simp only [eh] at p
        intro F3 H3 e3 t3
        refine sl_val t3 (e3.ro t2 w.at_ (e2.ro t1 w.at_ r1)) ?_
        have p' := postV.to p (gSlt_nx o lo hi)
        cases eg : gSlt o lo hi with
        | ok o' =>
          rw [eg] at p'
          exact fun v F' H' e t r => p' v F' H' (e1.trans t1 (e2.trans t2 (e3.trans t3 e))) t r
        | exc c fs => exact absurd eg (gSlt_nx o lo hi c fs)
        | bad => rw [eg] at p'; exact p'.elim
end
end DL
set_option Elab.async false
set_option linter.all false
set_option maxRecDepth 100000
set_option maxHeartbeats 4000000
/-! The D layer, 7: built-ins. -/
namespace DL
open PySem PySem.Spec PyProof.Rows L2
section
variable {X : Cx} {T : Tb} {W : WX}
theorem de_callB {x : Str} {id : String} {r : List V → Hp → VK → Prop} {g : List OV → R OV} {e : PySem.Expr} {es : List PySem.Expr} {fa : SA} {p pos : Pos} (hc : CallR X (.builtin id) r) (hd : CallD X.K T r g) (hx : ∀ os c fs, g os ≠ .exc c fs)
    (hg : Gl X x) (hm : X.mg x = none) (hv : bootBuiltins x = some (.builtin id)) (ha : DA X T W (e :: es) fa) (hn : x ≠ "__name__" := by decide) (hdb : (x == ("__debug__" : Str)) = false := by decide)
    (he : starEach (e :: es) X.env = (false, eval e X.env) :: starEach es X.env := by rfl) (hpl : (backTo pos (starEach es X.env)).any (·.1) = false := by rfl) : DE X T W (.Call (.Name x p) (e :: es) [] pos) (sCall g fa) :=
  PE.imp (pe_callB hc hg hm hv ha hn hdb he hpl) fun _ _ _ p => lift_call hd hx p
theorem de_callT {x : Str} {id : String} {r : List V → Hp → VK → Prop} {g : List OV → R OV} {e : PySem.Expr} {es : List PySem.Expr} {fa : SA} {p pos : Pos} (hc : CallR X (.type id) r) (hd : CallD X.K T r g) (hx : ∀ os c fs, g os ≠ .exc c fs)
    (hg : Gl X x) (hm : X.mg x = none) (hv : bootBuiltins x = some (.type id)) (ha : DA X T W (e :: es) fa) (hn : x ≠ "__name__" := by decide) (hdb : (x == ("__debug__" : Str)) = false := by decide)
    (he : starEach (e :: es) X.env = (false, eval e X.env) :: starEach es X.env := by rfl) (hpl : (backTo pos (starEach es X.env)).any (·.1) = false := by rfl) : DE X T W (.Call (.Name x p) (e :: es) [] pos) (sCall g fa) :=
  PE.imp (pe_callTy hc hg hm hv ha hn hdb he hpl) fun _ _ _ p => lift_call hd hx p

/-! ### len -/
def OV.len? : OV → Option Nat
  | .z (.str s) => if s.length ≤ sizeLine then some s.length else none
  | .z (.lst ds) => some ds.length
  | .z (.tup ds) => some ds.length
  | .z (.ro ds) => some ds.length
  | .z (.kt ds) => some ds.length
  | .l os => some os.length
  | .t os => some os.length
  | _ => none
def gLen : List OV → R OV
  | [o] => ofO (fun n : Nat => .z (.int n)) o.len?
  | _ => .bad
theorem gLen_nx : ∀ os c fs, gLen os ≠ .exc c fs := by
  intro os c fs; unfold gLen; split
  · exact ofO_nx
  · exact fun h => nomatch h
abbrev rLen (K : PySem.W.Frag) : List V → Hp → VK → Prop := fun xs H Q => (∃ p ys, xs = [.ref p] ∧ (SqL K H p ys ∨ SqT K H p ys) ∧ Q (.int ys.length) H) ∨ ∃ z : Str, xs = [.str z] ∧ z.length ≤ sizeLine ∧ Q (.int z.length) H
theorem call_lenAll : CallR X (.builtin "len") (rLen X.K) := CallR.or call_len_seq call_len_str
theorem cd_len : CallD X.K T (rLen X.K) gLen := by
  intro F A H vs os Q t at_ r p
  unfold gLen at p
  split at p
  · rename_i o
    cases r with
    | cons ra rb =>
      cases rb
      obtain ⟨n, hn, p⟩ := ofO_ok p
      have fin := p.here t (.z (.int (n : Int)))
      cases ra with
      | z r =>
        cases r with
        | str z =>
          simp only [OV.len?] at hn
          split at hn
          · rename_i hl
            cases hn
            exact .inr ⟨z, rfl, by rw [slen (z := z) rfl]; exact hl, by rw [slen (z := z) rfl]; exact fin⟩
          · cases hn
        | lst f e r => simp only [OV.len?] at hn; cases hn; exact .inl ⟨_, _, rfl, .inl (.of e), by rw [r.length]; exact fin⟩
        | ro e r => simp only [OV.len?] at hn; cases hn; exact .inl ⟨_, _, rfl, .inl e.sq, by rw [r.length]; exact fin⟩
        | tup e r => simp only [OV.len?] at hn; cases hn; exact .inl ⟨_, _, rfl, .inr (.of e), by rw [r.length]; exact fin⟩
        | kt e r => simp only [OV.len?] at hn; cases hn; exact .inl ⟨_, _, rfl, .inr e, by rw [r.length]; exact fin⟩
        | _ => simp [OV.len?] at hn
      | l s m r _ _ => simp only [OV.len?] at hn; cases hn; exact .inl ⟨_, _, rfl, .inl (.of s), by rw [r.length]; exact fin⟩
      | t s r => simp only [OV.len?] at hn; cases hn; exact .inl ⟨_, _, rfl, .inr (.of s), by rw [r.length]; exact fin⟩
      | _ => simp [OV.len?] at hn
  · exact p.elim

/-! ### int, str of ints -/
def gInt : List OV → R OV
  | [.z (.int i)] => .ok (.z (.int i))
  | [.z (.bl b)] => .ok (.z (.int (if b then 1 else 0)))
  | _ => .bad
theorem gInt_nx : ∀ os c fs, gInt os ≠ .exc c fs := by
  intro os c fs; unfold gInt; split <;> exact fun h => nomatch h
theorem cd_int : CallD X.K T (fun xs H Q => (∃ i, xs = [.int i] ∧ Q (.int i) H) ∨ ∃ k, xs = [.bl k] ∧ Q (.int (if k then 1 else 0)) H) gInt := by
  intro F A H vs os Q t at_ r p
  unfold gInt at p
  split at p
  · rename_i i
    cases r with | cons ra rb => cases rb; exact .inl ⟨i, by rw [ra.int], p.here t (.z (.int _))⟩
  · rename_i i
    cases r with | cons ra rb => cases rb; exact .inr ⟨i, by rw [ra.bl], p.here t (.z (.int _))⟩
  · exact p.elim
/-- the signs of a whole number's text -/
def istr (i : Int) : List Nat := (Str.ofString (toString i)).cps.toList
def gStr : List OV → R OV
  | [.z (.int i)] => if i.natAbs.log2 < 1920 then .ok (.z (.str (istr i))) else .bad
  | [.z (.str s)] => .ok (.z (.str s))
  | _ => .bad
theorem gStr_nx : ∀ os c fs, gStr os ≠ .exc c fs := by
  intro os c fs; unfold gStr
  repeat' split
  all_goals exact fun h => nomatch h
abbrev rStr : List V → Hp → VK → Prop := fun xs H Q => (∃ i : Int, xs = [.int i] ∧ i.natAbs.log2 < 1920 ∧ Q (.str (Str.ofString (toString i))) H) ∨ ∃ a, xs = [.str a] ∧ Q (.str a) H
theorem cd_str : CallD X.K T rStr gStr := by
  intro F A H vs os Q t at_ r p
  unfold gStr at p
  split at p
  · rename_i i
    split at p
    · rename_i h
      cases r with | cons ra rb => cases rb; exact .inl ⟨i, by rw [ra.int], h, p.here t (.z (.ofStr rfl))⟩
    · exact p.elim
  · rename_i s
    cases r with
    | cons ra rb =>
      cases rb
      obtain ⟨z, rfl, hz⟩ := ra.str
      exact .inr ⟨z, rfl, p.here t (.z (.ofStr hz))⟩
  · exact p.elim

/-! ### list, tuple -/
def gListOf : List OV → R OV
  | [o] => ofO (fun ds => .z (.lst ds)) o.seq?
  | _ => .bad
theorem gListOf_nx : ∀ os c fs, gListOf os ≠ .exc c fs := by
  intro os c fs; unfold gListOf; split
  · exact ofO_nx
  · exact fun h => nomatch h
theorem cd_list : CallD X.K T (fun xs H Q => ∃ p ys, xs = [.ref p] ∧ (SqL X.K H p ys ∨ SqT X.K H p ys) ∧ ∀ l, H l = none → Q (.ref l) (upd H l (.lst ys))) gListOf := by
  intro F A H vs os Q t at_ r p
  unfold gListOf at p
  split at p
  · rename_i o
    cases r with
    | cons ra rb =>
      cases rb
      obtain ⟨ds, hd, p⟩ := ofO_ok p
      obtain ⟨a, vs, rfl, e, r⟩ := ra.seq? hd
      exact ⟨a, vs, rfl, e, fun l hl => new_lst t hl r p⟩
  · exact p.elim
def gTupOf : List OV → R OV
  | [.z (.tup ds)] => .ok (.z (.tup ds))
  | [o] => ofO (fun ds => .z (.tup ds)) o.lst?
  | _ => .bad
theorem gTupOf_nx : ∀ os c fs, gTupOf os ≠ .exc c fs := by
  intro os c fs; unfold gTupOf; split
  · exact fun h => nomatch h
  · exact ofO_nx
  · exact fun h => nomatch h
theorem cd_tuple : CallD X.K T (fun xs H Q => ∃ p ys, xs = [.ref p] ∧ ((SqL X.K H p ys ∧ ∀ l, H l = none → Q (.ref l) (upd H l (.tup ys))) ∨ (SqT X.K H p ys ∧ Q (.ref p) H))) gTupOf := by
  intro F A H vs os Q t at_ r p
  unfold gTupOf at p
  split at p
  · rename_i ds
    cases r with
    | cons ra rb =>
      cases rb
      obtain ⟨a, vs, rfl, e, r⟩ := ra.tup? (ds := ds) rfl
      exact ⟨a, vs, rfl, .inr ⟨.of e, p.here t (.z (.tup e r))⟩⟩
  · rename_i o _
    cases r with
    | cons ra rb =>
      cases rb
      obtain ⟨ds, hd, p⟩ := ofO_ok p
      obtain ⟨a, vs, rfl, e, r⟩ := ra.lst? hd
      exact ⟨a, vs, rfl, .inl ⟨.of e, fun l hl => new_tup t hl r p⟩⟩
  · exact p.elim

/-! ### isinstance by a built-in class -/
inductive Ty where
  | non | bl | int | str | lst | tup | dct
  deriving DecidableEq
def Ty.nm : Ty → String
  | .non => "NoneType" | .bl => "bool" | .int => "int" | .str => "str" | .lst => "list" | .tup => "tuple" | .dct => "dict"
def isT (a b : Ty) : Bool := a == b || (a == .bl && b == .int)
theorem isT_kit : ∀ a b : Ty, b ≠ .non → kitB a.nm b.nm = some (isT a b) := by
  intro a b h
  cases b with
  | non => exact absurd rfl h
  | _ => cases a <;> decide +kernel
def D.ty? : D → Option Ty
  | .non => some .non
  | .bl _ => some .bl
  | .int _ => some .int
  | .str _ => some .str
  | .lst _ => some .lst
  | .ro _ => none
  | .tup _ => some .tup
  | .kt _ => none
  | .dct _ => some .dct
  | .obj _ _ => none
def OV.ty? : OV → Option Ty
  | .z d => d.ty?
  | .l _ => some .lst
  | .k _ => some .dct
  | .t _ => some .tup
  | .o _ _ => none
theorem RO.tyX {K : PySem.W.Frag} {F A : AS} {H : Hp} {v : V} {o : OV} {a : Ty} (r : RO K T F H v o A) (h : o.ty? = some a) : TyX K H v (.type a.nm) := by
  cases r with
  | z r =>
    cases r <;> simp [OV.ty?, D.ty?] at h <;> subst h
    · exact .base .non
    · exact .base (.bl _)
    · exact .base (.int _)
    · exact .base (.str _)
    · exact .base (.tup (by assumption))
    · exact .base (.lst (by assumption))
    · exact .base (.dK (by assumption))
    · exact .base (.dT (by assumption))
  | l s => simp [OV.ty?] at h; subst h; exact .base (.lst s)
  | kK s => simp [OV.ty?] at h; subst h; exact .base (.dK s)
  | kT s => simp [OV.ty?] at h; subst h; exact .base (.dT s)
  | t s => simp [OV.ty?] at h; subst h; exact .base (.tup s)
  | o => simp [OV.ty?] at h
def gIsT (b : Ty) (o : OV) : R OV := ofO (fun a => .z (.bl (isT a b))) o.ty?
theorem de_isT (b : Ty) {e : PySem.Expr} {f : SE} {cn : Str} {p p2 pos : Pos} (he : DE X T W e f) (hb : b ≠ .non) (hg : Gl X "isinstance") (hm : X.mg "isinstance" = none) (hg2 : Gl X cn) (hm2 : X.mg cn = none) (hv2 : bootBuiltins cn = some (.type b.nm))
    (hn : cn ≠ "__name__" := by decide) (hd : (cn == ("__debug__" : Str)) = false := by decide) (hst : starEach [e, .Name cn p2] X.env = (false, eval e X.env) :: starEach [.Name cn p2] X.env := by rfl)
    (hst2 : starEach [.Name cn p2] X.env = (false, eval (.Name cn p2) X.env) :: starEach [] X.env := by rfl) (hpl : (backTo pos (starEach [.Name cn p2] X.env)).any (·.1) = false := by rfl) :
    DE X T W (.Call (.Name "isinstance" p) [e, .Name cn p2] [] pos) (s1 (gIsT b) f) :=
  PE.imp (pe_callB call_isi hg hm (by decide +kernel) (pa_cons he (pa_cons (pe_bltn (v := .ty b.nm) hg2 hm2 hv2 rfl hn hd) pa_nil hst2) hst) (he := hst) (hpl := hpl)) fun σ H Q ⟨F, A, ds, w, q⟩ => by
  unfold s1 at q
  refine ⟨F, A, ds, w, ?_⟩
  cases ea : f ds with
  | bad => rw [ea] at q; exact q.elim
  | exc c fs => rw [ea] at q; exact q
  | ok o =>
    rw [ea] at q
    intro v F1 H1 e1 t1 r1
    have q' : postE X.K T W F A σ H Q (gIsT b o) := q
    unfold gIsT at q'
    cases ho : o.ty? with
    | none => rw [ho] at q'; exact q'.elim
    | some a =>
      rw [ho] at q'
      exact ⟨v, .ty b.nm, _, _, isT a b, rfl, .ty _, r1.tyX ho, kit_ty (isT_kit a b hb), q' _ F1 H1 e1 t1 (.z (.bl _))⟩

/-! ### max, min of two ints -/
def gMax2 : List OV → R OV
  | [.z (.int i), .z (.int j)] => .ok (.z (.int (if j > i then j else i)))
  | _ => .bad
def gMin2 : List OV → R OV
  | [.z (.int i), .z (.int j)] => .ok (.z (.int (if j < i then j else i)))
  | _ => .bad
theorem gMax2_nx : ∀ os c fs, gMax2 os ≠ .exc c fs := by intro os c fs; unfold gMax2; split <;> exact fun h => nomatch h
theorem gMin2_nx : ∀ os c fs, gMin2 os ≠ .exc c fs := by intro os c fs; unfold gMin2; split <;> exact fun h => nomatch h
theorem cd_max2 : CallD X.K T (fun xs H Q => ∃ i j, xs = [.int i, .int j] ∧ Q (.int (if j > i then j else i)) H) gMax2 := by
  intro F A H vs os Q t at_ r p
  unfold gMax2 at p
  split at p
  · rename_i i j
    cases r with | cons ra rb => cases rb with | cons rb rc => cases rc; exact ⟨i, j, by rw [ra.int, rb.int], p.here t (.z (.int _))⟩
  · exact p.elim
theorem cd_min2 : CallD X.K T (fun xs H Q => ∃ i j, xs = [.int i, .int j] ∧ Q (.int (if j < i then j else i)) H) gMin2 := by
  intro F A H vs os Q t at_ r p
  unfold gMin2 at p
  split at p
  · rename_i i j
    cases r with | cons ra rb => cases rb with | cons rb rc => cases rc; exact ⟨i, j, by rw [ra.int, rb.int], p.here t (.z (.int _))⟩
  · exact p.elim

/-! ### sorted -/
def isTN : D → Bool
  | .tup (_ :: _) => true
  | _ => false
def noTN : D → Bool
  | .tup _ => false
  | .non => false
  | _ => true
def sortOk (ds : List D) : Bool := (ds.all fun a => ds.all fun b => a.alike b) && (ds.all isTN || ds.all noTN) && ds.all (okd 60)
def D.le (a b : D) : Bool := !b.lt a
def rSortedD (K : PySem.W.Frag) (T : Tb) : List V → Hp → VK → Prop := fun vs H Q => ∃ (F : AS) (a : Addr) (xs : List V) (ds : List D), vs = [V.ref a] ∧ SqL K H a xs ∧ Reps K T F H xs ds ∧ sortOk ds = true ∧
  ∀ ys p, Reps K T F H ys (ds.mergeSort D.le) → H p = none → Q (.ref p) (upd H p (.lst ys))
theorem each_reps {K : PySem.W.Frag} {F : AS} {H : Hp} {xs : List V} {us : List Value} {ds : List D} (r : Reps K T F H xs ds) (rv : Vals xs us) : PySem.W.EachIs (fun v d => ∃ x, RelV x v ∧ Rep K T F H x d) us ds := by
  induction ds generalizing xs us with
  | nil => cases r; cases rv; exact .nil
  | cons d ds ih => cases r with | cons a b => cases rv with | cons q s => exact .cons ⟨_, q, a⟩ (ih b s)
theorem reps_each {K : PySem.W.Frag} {F : AS} {H : Hp} {us : List Value} {ds : List D} (e : PySem.W.EachIs (fun v d => ∃ x, RelV x v ∧ Rep K T F H x d) us ds) : ∃ ys, Vals ys us ∧ Reps K T F H ys ds := by
  induction e with
  | nil => exact ⟨[], .nil, .nil⟩
  | cons a _ ih =>
    obtain ⟨x, r, q⟩ := a
    obtain ⟨ys, h1, h2⟩ := ih
    exact ⟨x :: ys, .cons r h1, .cons q h2⟩
theorem each_reads {pins : List (Addr × Obj)} {σ : HSt} {F : AS} {H : Hp} {s : Shared} (I : Inv X pins σ H s) {xs : List V} {us : List Value} {ds : List D} (r : Reps X.K T F H xs ds) (rv : Vals xs us) (h : ds.all (okd 60) = true) :
    PySem.W.EachIs (fun v (d : D) => ∃ as, Reads s.heap v d.py as) us ds := by
  induction ds generalizing xs us with
  | nil => cases r; cases rv; exact .nil
  | cons d ds ih =>
    simp only [List.all_cons, Bool.and_eq_true] at h
    cases r with
    | cons a b => cases rv with | cons q s => exact .cons (Dp.reads I _ _ _ (a.dp h.1) q) (ih b s h.2)
theorem le_dataLe : D.le = PySem.W.dataLe false D.py := by rw [PySem.W.dataLe_eq]; rfl
theorem cr_sortedD (hu : X.A.units + 64 < cLine) : CallR X (.builtin "sorted") (rSortedD X.K T) := by
  intro pins s σ H vs us Q I r h
  obtain ⟨F, a, xs, ds, rfl, hs, hr, ok, q⟩ := h
  simp only [sortOk, Bool.and_eq_true] at ok
  obtain ⟨⟨ok1, ok2⟩, ok3⟩ := ok
  obtain ⟨its, rv, hl, hz⟩ := I.list hs
  obtain ⟨u, rfl, ru⟩ := vals1 r
  obtain rfl : u = Value.ref a := ru
  refine PySem.W.sorted_data (enc := D.py) (R := fun v d => ∃ x, RelV x v ∧ Rep X.K T F H x d) hl.isList (each_reps hr rv) (each_reads I hr rv ok3) ?_ ?_ ?_ ?_ fun out ho eo => ?_
  · intro d hd d' hd'
    obtain ⟨b, hb, rfl⟩ := List.mem_map.mp hd
    obtain ⟨b', hb', rfl⟩ := List.mem_map.mp hd'
    have := List.all_eq_true.mp ok1 b hb
    exact List.all_eq_true.mp this b' hb'
  · rcases Bool.or_eq_true _ _ |>.mp ok2 with z | z
    · refine .inl fun d hd => ?_
      obtain ⟨b, hb, rfl⟩ := List.mem_map.mp hd
      have := List.all_eq_true.mp z b hb
      cases b with
      | tup l =>
        cases l with
        | nil => simp [isTN] at this
        | cons x r => exact ⟨_, _, by rw [D.py, pys]⟩
      | _ => simp [isTN] at this
    · refine .inr fun d hd => ?_
      obtain ⟨b, hb, rfl⟩ := List.mem_map.mp hd
      have := List.all_eq_true.mp z b hb
      cases b <;> simp [noTN] at this <;> simp [D.py]
  · rw [← hr.length]; exact hz
  · intro b hb
    have := (plain_okd b (List.all_eq_true.mp ok3 b hb)).2
    omega
  · rw [← le_dataLe] at eo
    obtain ⟨ys, h1, h2⟩ := reps_each eo
    obtain ⟨c, hc⟩ := sortedAll_at s.heap its out.toArray
    have kp : ∀ b o, s.heap.get? b = some o → (sortedAll s.heap its out.toArray).get? b = some o := fun _ _ => sortedAll_old
    have hp : s.heap.objs.size ≤ s.heap.objs.size + 1 := Nat.le_succ _
    refine ⟨.ref (s.heap.objs.size + 1), upd H (s.heap.objs.size + 1) (.lst ys), I.laid (t' := s.toks) kp hp ⟨?_, out, c, h1, hc⟩, rfl, q ys _ h2 (I.hok.fresh hp)⟩
    have e1 : ys.length = ds.length := by rw [h2.length, List.length_mergeSort]
    rw [e1, ← hr.length]; exact hz
def gSorted : List OV → R OV
  | [o] => match o.lst? with
    | some ds => if sortOk ds then .ok (.z (.lst (ds.mergeSort D.le))) else .bad
    | none => .bad
  | _ => .bad
theorem gSorted_nx : ∀ os c fs, gSorted os ≠ .exc c fs := by
  intro os c fs; unfold gSorted
  repeat' split
  all_goals exact fun h => nomatch h
theorem cd_sorted : CallD X.K T (rSortedD X.K T) gSorted := by
  intro F A H vs os Q t at_ r p
  unfold gSorted at p
  split at p
  · rename_i o
    split at p
    · rename_i ds h
      split at p
      · rename_i ok
        cases r with
        | cons ra rb =>
          cases rb
          obtain ⟨a, xs, rfl, e, hr⟩ := ra.lst? h
          exact ⟨F, a, xs, ds, rfl, .of e, hr, ok, fun ys q h1 h2 => new_lst t h2 h1 p⟩
      · exact p.elim
    · exact p.elim
  · exact p.elim
end
end DL
set_option Elab.async false
set_option linter.all false
set_option maxRecDepth 100000
set_option maxHeartbeats 4000000
/-! The D layer, 8: what is new and owned; tests. -/
namespace DL
open PySem PySem.Spec PyProof.Rows L2

/-! ### a new thing, all else kept -/
abbrev SF := DS → R OV
section
variable (K : PySem.W.Frag) (T : Tb) (W : WX)
def postF (F : AS) (A : AS) (σ : HSt) (H : Hp) (Q : VK) : R OV → Prop
  | .ok o => ∀ v F' H' B, Ext T F H F' H' → Tabs T F' H' → RO K T F' H' v o B → (∀ b, B b → H b = none ∧ H' b ≠ none) → Dj B F' → Q v H'
  | .exc c fs => ∀ cls d F' H', Ext T F H F' H' → Tabs T F' H' → RepX K T F' H' cls d c fs → W cls d σ H'
  | .bad => False
def liftF (f : SF) : TE := fun σ H Q => ∃ F A ds, Wk K T F H A σ ds ∧ postF K T W F A σ H Q (f ds)
end
def DF (X : Cx) (T : Tb) (W : WX) (e : PySem.Expr) (f : SF) : Prop := PE X e (liftF X.K T W f)
section
variable {K : PySem.W.Frag} {T : Tb} {W : WX} {F F' A A' B : AS} {H H' : Hp} {σ : HSt} {ds : DS} {Q : VK}
theorem Wk.push (w : Wk K T F H A σ ds) {v : V} {o : OV} (r : RO K T F H v o B) (d1 : Dj B A) (d2 : Dj B F) (d3 : Dj B T.tab) (tr : ∀ b, B b → H b ≠ none) : Wk K T F H (fun a => B a ∨ A a) (some v :: σ) (some o :: ds) where
  tabs := w.tabs
  rel := .so r w.rel d1 (fun _ h => .inl h) (fun _ h => .inr h)
  dj := fun a h z => h.elim (fun h => d2 a h z) fun h => w.dj a h z
  at_ := fun a h z => h.elim (fun h => d3 a h z) fun h => w.at_ a h z
  tr := fun a h => h.elim (tr a) (w.tr a)
theorem Wk.pushz (w : Wk K T F H A σ ds) {v : V} {d : D} (r : Rep K T F H v d) : Wk K T F H A (some v :: σ) (some (.z d) :: ds) where
  tabs := w.tabs
  rel := .so (B := fun _ => False) (.z r) w.rel (fun _ h => h.elim) (fun _ h => h.elim) (fun _ h => h)
  dj := w.dj
  at_ := w.at_
  tr := w.tr
theorem Wk.pop (w : Wk K T F H A (some v :: σ) (some o :: ds)) : Wk K T F H A σ ds := by
  have h := w.rel
  cases h with
  | so a b d s1 s2 => exact ⟨w.tabs, b.up s2, w.dj, w.at_, w.tr⟩
theorem Wk.popi (w : Wk K T F H A (some v :: σ) (some o :: ds)) (i : Nat) : Wk K T F H A (σ.set i (some v)) (ds.set i (some o)) := by
  have h := w.rel
  cases h with
  | so a b d s1 s2 => exact ⟨w.tabs, b.set a d s2 s1 i, w.dj, w.at_, w.tr⟩
theorem Wk.forget (w : Wk K T F H A σ ds) : Wk K T F H A σ (forget ds) := by
  refine ⟨w.tabs, ?_, w.dj, w.at_, w.tr⟩
  have h := w.rel
  have g : ∀ {σ : HSt} {ds : DS} {A : AS}, RelS K T F H σ ds A → RelS K T F H σ (DL.forget ds) A := by
    intro σ ds A h
    induction h with
    | nil => exact .nil
    | no _ ih => exact .no ih
    | so a b d s1 s2 ih => exact .no (ih.up s2)
  exact g h
theorem forget_eq {ds ds' : DS} (h : ds'.length = ds.length) : forget ds' = forget ds := by
  unfold forget
  rw [List.map_const', List.map_const', h]
theorem Wk.len (w : Wk K T F H A σ ds) : σ.length = ds.length := w.rel.length
/-- fresh things lie apart -/
theorem fresh_dj (w : Wk K T F H A σ ds) (e : Ext T F H F' H') (t : Tabs T F' H') (h : ∀ b, B b → H b = none ∧ H' b ≠ none) : Dj B A ∧ Dj B T.tab := by
  refine ⟨fun a h1 h2 => w.tr a h2 (h a h1).1, fun a h1 h2 => ?_⟩
  exact w.tabs.tr h2 (h a h1).1
theorem liftF_O {f : SF} (p : liftO K T W (fun ds => (f ds).bind fun o => .ok (o, ds)) σ H Q) : liftF K T W f σ H Q := by
  obtain ⟨F, A, ds, w, p⟩ := p
  refine ⟨F, A, ds, w, ?_⟩
  cases ea : f ds with
  | bad => simp only [R.bind, ea] at p; exact p.elim
  | exc c fs =>
    simp only [R.bind, ea] at p
    exact fun cls d F' H' e t r => p cls d F' H' A e.step (w.ext e t).forget r
  | ok o =>
    simp only [R.bind, ea] at p
    intro v F' H' B e t r fr dj
    obtain ⟨d1, d2⟩ := fresh_dj w e t fr
    refine p v F' H' (fun a => B a ∨ A a) ⟨fun a o h n _ => e.keep a o h n, e.sub, fun a h => (e.new a h).elim .inl fun h => .inr (.inr h), fun a h => h.elim (fun h => .inr (fr a h).1) .inl⟩ ((w.ext e t).push r d1 dj d2 fun b h => (fr b h).2)
theorem liftF_frz {f : SF} (p : liftE K T W (fun ds => (f ds).bind fun o => .ok (.z o.pure)) σ H Q) : liftF K T W f σ H Q := by
  obtain ⟨F, A, ds, w, p⟩ := p
  refine ⟨F, A, ds, w, ?_⟩
  cases ea : f ds with
  | bad => simp only [R.bind, ea] at p; exact p.elim
  | exc c fs => simp only [R.bind, ea] at p; exact p
  | ok o =>
    simp only [R.bind, ea] at p
    intro v F' H' B e t r fr dj
    refine p v (fun a => F' a ∨ B a) H' ⟨e.keep, fun a h => .inl (e.sub a h), fun a h => h.elim (e.new a) fun h => .inr (fr a h).1⟩ ⟨fun P hP => ⟨(t.tb P hP).1, fun z => z.elim (t.tb P hP).2 fun z => w.tabs.tr hP (fr P z).1⟩, fun a h => h.elim (t.live a) fun h => (fr a h).2⟩ (.z (r.frz (fun _ h => .inl h) fun _ h => .inr h))
def zOnly : OV → R OV
  | .z d => .ok (.z d)
  | _ => .bad
theorem liftE_F {f : SE} (p : liftF K T W (fun ds => (f ds).bind zOnly) σ H Q) : liftE K T W f σ H Q := by
  obtain ⟨F, A, ds, w, p⟩ := p
  refine ⟨F, A, ds, w, ?_⟩
  cases ea : f ds with
  | bad => simp only [R.bind, ea] at p; exact p.elim
  | exc c fs => simp only [R.bind, ea] at p; exact p
  | ok o =>
    simp only [R.bind, ea] at p
    intro v F' H' e t r
    cases r with
    | z r => exact p v F' H' (fun _ => False) e t (.z r) (fun _ h => h.elim) (fun _ h => h.elim)
    | _ => exact p.elim
end
section
variable {X : Cx} {T : Tb} {W : WX} {e : PySem.Expr}
def fO (f : SF) : SO := fun ds => (f ds).bind fun o => .ok (o, ds)
def fFrz (f : SF) : SE := fun ds => (f ds).bind fun o => .ok (.z o.pure)
def fZ (f : SE) : SF := fun ds => (f ds).bind zOnly
theorem df_o {f : SF} (h : DF X T W e f) : DO X T W e (fO f) := PE.imp h fun _ _ _ p => liftF_O p
theorem df_e {f : SF} (h : DF X T W e f) : DE X T W e (fFrz f) := PE.imp h fun _ _ _ p => liftF_frz p
theorem de_f {f : SE} (h : DE X T W e f) : DF X T W e (fZ f) := PE.imp h fun _ _ _ p => liftE_F p
def sP (f : SE) : SO := fO (fZ f)
theorem de_o {f : SE} (h : DE X T W e f) : DO X T W e (sP f) := df_o (de_f h)
end

/-! ### new lists by values -/
section
variable {X : Cx} {T : Tb} {W : WX}
def postL (K : PySem.W.Frag) (T : Tb) (F : AS) (H : Hp) (Q : VK) : R (List D) → Prop
  | .ok ds => ∀ xs p, Reps K T F H xs ds → H p = none → Q (.ref p) (upd H p (.lst xs))
  | _ => False
def CallF (K : PySem.W.Frag) (T : Tb) (r : List V → Hp → VK → Prop) (g : List OV → R (List D)) : Prop := ∀ (F A : AS) (H : Hp) (vs : List V) (os : List OV) (Q : VK), Tabs T F H → RVs K T F H A vs os → postL K T F H Q (g os) → r vs H Q
def sCallF (g : List OV → R (List D)) (fa : SA) : SF := fun ds => (fa ds).bind fun os => (g os).bind fun xs => .ok (.l (xs.map .z))
theorem new_own {K : PySem.W.Frag} {F A : AS} {H : Hp} (t : Tabs T F H) {p : Addr} (hp : H p = none) {vs : List V} {ds : List D} (r : Reps K T F H vs ds) :
    Ext T F H F (upd H p (.lst vs)) ∧ Tabs T F (upd H p (.lst vs)) ∧ RO K T F (upd H p (.lst vs)) (.ref p) (.l (ds.map .z)) (fun a => a = p) := by
  obtain ⟨e, t'⟩ := alloc_ext (F' := F) (o := .lst vs) t hp (fun _ h => h) (fun _ h => .inl h)
  exact ⟨e, t', .l (B := fun _ => False) upd_same rfl (.ofReps (r.mono e.sub (e.kp t))) (fun _ h => h.elim) (fun h => h)⟩
theorem lift_callF {K : PySem.W.Frag} {r : List V → Hp → VK → Prop} {g : List OV → R (List D)} (hc : CallF K T r g) (hx : ∀ os c fs, g os ≠ .exc c fs) {fa : SA} {σ : HSt} {H : Hp} {Q : VK} (p : liftF K T W (sCallF g fa) σ H Q) :
    liftA K T W fa σ H fun vs H1 => r vs H1 Q := by
  obtain ⟨F, A, ds, w, p⟩ := p
  unfold sCallF at p
  refine ⟨F, A, ds, w, ?_⟩
  cases ea : fa ds with
  | bad => rw [ea] at p; exact p.elim
  | exc c fs => rw [ea] at p; exact p
  | ok os =>
    rw [ea] at p
    intro vs F1 H1 e1 t1 r1
    refine hc F1 A H1 vs os Q t1 r1 ?_
    simp only [R.bind] at p
    cases eg : g os with
    | exc c fs => exact absurd eg (hx os c fs)
    | bad => rw [eg] at p; exact p.elim
    | ok xs =>
      rw [eg] at p
      intro ys q hr hq
      obtain ⟨e2, t2, ro⟩ := new_own (A := A) t1 hq hr
      have hq0 : H q = none := by
        cases z : H q with
        | none => rfl
        | some o =>
          by_cases y : T.tab q
          · exact absurd hq (t1.tr y)
          · rw [e1.keep q o z y] at hq; cases hq
      refine p (.ref q) F1 _ (fun a => a = q) (e1.trans t1 e2) t2 ro (fun b h => by rw [h]; exact ⟨hq0, by rw [upd_same]; simp⟩) (fun a h z => ?_)
      rw [h] at z
      exact t1.live q z hq
end
end DL
set_option Elab.async false
set_option linter.all false
set_option maxRecDepth 100000
set_option maxHeartbeats 4000000
/-! The D layer, 9: new lists, tests, statements. -/
namespace DL
open PySem PySem.Spec PyProof.Rows L2
section
variable {X : Cx} {T : Tb} {W : WX}
def hLst (os : List OV) : R (List D) := match zs os with
  | some ds => if ds.length ≤ sizeLine then .ok ds else .bad
  | none => .bad
theorem hLst_nx : ∀ os c fs, hLst os ≠ .exc c fs := by
  intro os c fs; unfold hLst
  repeat' split
  all_goals exact fun h => nomatch h
theorem cf_lst : CallF X.K T (fun xs H Q => xs.length ≤ sizeLine ∧ ∀ p, H p = none → Q (.ref p) (upd H p (.lst xs))) hLst := by
  intro F A H vs os Q t r p
  unfold hLst at p
  split at p
  · rename_i ds h
    split at p
    · rename_i hl
      have q := r.zs h
      exact ⟨by rw [q.length]; exact hl, fun x hx => p vs x q hx⟩
    · exact p.elim
  · exact p.elim
theorem df_lst {es : List PySem.Expr} {fa : SA} {pos : Pos} (h : DA X T W es fa) : DF X T W (.List es pos) (sCallF hLst fa) := PE.imp (pe_lst h) fun _ _ _ p => lift_callF cf_lst hLst_nx p
def hListOf : List OV → R (List D)
  | [o] => match o.seq? with
    | some ds => .ok ds
    | none => .bad
  | _ => .bad
theorem hListOf_nx : ∀ os c fs, hListOf os ≠ .exc c fs := by
  intro os c fs; unfold hListOf
  repeat' split
  all_goals exact fun h => nomatch h
theorem cf_list : CallF X.K T (fun xs H Q => ∃ p ys, xs = [.ref p] ∧ (SqL X.K H p ys ∨ SqT X.K H p ys) ∧ ∀ l, H l = none → Q (.ref l) (upd H l (.lst ys))) hListOf := by
  intro F A H vs os Q t r p
  unfold hListOf at p
  split at p
  · rename_i o
    cases r with
    | cons ra rb =>
      cases rb
      split at p
      · rename_i ds hd
        obtain ⟨a, vs, rfl, e, r⟩ := ra.seq? hd
        exact ⟨a, vs, rfl, e, fun l hl => p vs l r hl⟩
      · exact p.elim
  · exact p.elim
def hSorted : List OV → R (List D)
  | [o] => match o.lst? with
    | some ds => if sortOk ds then .ok (ds.mergeSort D.le) else .bad
    | none => .bad
  | _ => .bad
theorem hSorted_nx : ∀ os c fs, hSorted os ≠ .exc c fs := by
  intro os c fs; unfold hSorted
  repeat' split
  all_goals exact fun h => nomatch h
theorem cf_sorted : CallF X.K T (rSortedD X.K T) hSorted := by
  intro F A H vs os Q t r p
  unfold hSorted at p
  split at p
  · rename_i o
    cases r with
    | cons ra rb =>
      cases rb
      split at p
      · rename_i ds h
        split at p
        · rename_i ok
          obtain ⟨a, xs, rfl, e, hr⟩ := ra.lst? h
          exact ⟨F, a, xs, ds, rfl, .of e, hr, ok, fun ys q h1 h2 => p ys q h1 h2⟩
        · exact p.elim
      · exact p.elim
  · exact p.elim
theorem df_callB {x : Str} {id : String} {r : List V → Hp → VK → Prop} {g : List OV → R (List D)} {e : PySem.Expr} {es : List PySem.Expr} {fa : SA} {p pos : Pos} (hc : CallR X (.builtin id) r) (hd : CallF X.K T r g) (hx : ∀ os c fs, g os ≠ .exc c fs)
    (hg : Gl X x) (hm : X.mg x = none) (hv : bootBuiltins x = some (.builtin id)) (ha : DA X T W (e :: es) fa) (hn : x ≠ "__name__" := by decide) (hdb : (x == ("__debug__" : Str)) = false := by decide)
    (he : starEach (e :: es) X.env = (false, eval e X.env) :: starEach es X.env := by rfl) (hpl : (backTo pos (starEach es X.env)).any (·.1) = false := by rfl) : DF X T W (.Call (.Name x p) (e :: es) [] pos) (sCallF g fa) :=
  PE.imp (pe_callB hc hg hm hv ha hn hdb he hpl) fun _ _ _ p => lift_callF hd hx p
theorem df_callT {x : Str} {id : String} {r : List V → Hp → VK → Prop} {g : List OV → R (List D)} {e : PySem.Expr} {es : List PySem.Expr} {fa : SA} {p pos : Pos} (hc : CallR X (.type id) r) (hd : CallF X.K T r g) (hx : ∀ os c fs, g os ≠ .exc c fs)
    (hg : Gl X x) (hm : X.mg x = none) (hv : bootBuiltins x = some (.type id)) (ha : DA X T W (e :: es) fa) (hn : x ≠ "__name__" := by decide) (hdb : (x == ("__debug__" : Str)) = false := by decide)
    (he : starEach (e :: es) X.env = (false, eval e X.env) :: starEach es X.env := by rfl) (hpl : (backTo pos (starEach es X.env)).any (·.1) = false := by rfl) : DF X T W (.Call (.Name x p) (e :: es) [] pos) (sCallF g fa) :=
  PE.imp (pe_callTy hc hg hm hv ha hn hdb he hpl) fun _ _ _ p => lift_callF hd hx p
/-- xs[::-1], a list's -/
def sRev (f : SE) : SF := fun ds => (f ds).bind fun o => match o.lst? with
  | some xs => .ok (.l (xs.reverse.map .z))
  | none => .bad
theorem Reps.reverse {K : PySem.W.Frag} {F : AS} {H : Hp} {vs : List V} {ds : List D} (r : Reps K T F H vs ds) : Reps K T F H vs.reverse ds.reverse := by
  induction ds generalizing vs with
  | nil => cases r; exact .nil
  | cons d ds ih => cases r with | cons a b => rw [List.reverse_cons, List.reverse_cons]; exact (ih b).append (.cons a .nil)
theorem df_rev {e : PySem.Expr} {f : SE} {k : Nat} {p1 p2 p3 pos : Pos} (he : DE X T W e f) : DF X T W (.Subscript e (.Slice none none (some (.UnaryOp .USub (.Constant (.int 1) k p1) p2)) p3) pos) (sRev f) := PE.imp (pe_revL he) fun σ H Q ⟨F, A, ds, w, p⟩ => by
  unfold sRev at p
  refine ⟨F, A, ds, w, ?_⟩
  cases ea : f ds with
  | bad => rw [ea] at p; exact p.elim
  | exc c fs => rw [ea] at p; exact p
  | ok o =>
    rw [ea] at p
    intro v F1 H1 e1 t1 r1
    simp only [R.bind] at p
    split at p
    · rename_i xs h
      obtain ⟨a, vs, rfl, e, r⟩ := r1.lst? h
      refine ⟨a, vs, rfl, .of e, fun q hq => ?_⟩
      obtain ⟨e2, t2, ro⟩ := new_own (A := A) t1 hq r.reverse
      refine p (.ref q) F1 _ (fun a => a = q) (e1.trans t1 e2) t2 ro (fun b h => ?_) fun a h z => ?_
      · rw [h]
        refine ⟨?_, by rw [upd_same]; simp⟩
        cases z : H q with
        | none => rfl
        | some o =>
          by_cases y : T.tab q
          · exact absurd hq (t1.tr y)
          · rw [e1.keep q o z y] at hq; cases hq
      · rw [h] at z; exact t1.live q z hq
    · exact p.elim

/-! ### tests -/
def sT (f : SE) : ST := fun ds => (f ds).bind fun o => match o with
  | .z (.bl b) => .ok (b, ds)
  | _ => .bad
theorem lift_T {K : PySem.W.Frag} {f : SE} {σ : HSt} {H : Hp} {Q : Bool → Hp → Prop} (p : liftT K T W (sT f) σ H Q) : liftE K T W f σ H fun x H' => ∃ k, x = .bl k ∧ Q k H' := by
  obtain ⟨F, A, ds, w, p⟩ := p
  unfold sT at p
  refine ⟨F, A, ds, w, ?_⟩
  cases ea : f ds with
  | bad => rw [ea] at p; exact p.elim
  | exc c fs =>
    rw [ea] at p
    exact fun cls d F' H' e t r => p cls d F' H' A e.step (w.ext e t).forget r
  | ok o =>
    rw [ea] at p
    intro v F' H' e t r
    simp only [R.bind] at p
    split at p
    · rename_i b
      exact ⟨b, r.bl, p F' H' A e.step (w.ext e t)⟩
    · exact p.elim
theorem dt_val {e : PySem.Expr} {f : SE} (h : DE X T W e f) (he : ∀ whole, isTrue e X.env whole = (do let v ← whole; standAt e.pos; holding [v] (truthy v)) := by intro _; rfl) : DT X T W e (sT f) := PT.imp (pt_val h he) fun _ _ _ p => lift_T p
theorem dt_cmp {op : CmpOp} {r : R2} {g : OV → OV → R OV} {a b : PySem.Expr} {fa fb : SE} {pos : Pos} (ho : OpR X (compareOp op) r) (hr : Op2 X.K T r g) (hx : ∀ a b c fs, g a b ≠ .exc c fs) (ha : DE X T W a fa) (hb : DE X T W b fb) (hm : behindInMarks op b = false) :
    DT X T W (.Compare a [op] [b] pos) (sT (s2 g fa fb)) := PT.imp (pt_cmpR ho ha hb hm) fun _ _ _ p => lift_op2 hr hx (lift_T p)
theorem dt_isN {a : PySem.Expr} {f : SE} {j pos pos'} (ha : DE X T W a f) : DT X T W (.Compare a [.Is] [.Constant .none j pos'] pos) (sT (gIsN false f)) := PT.imp (pt_cmp (pc_isN ha)) fun _ _ _ p => lift_isN (lift_T p)
theorem dt_notN {a : PySem.Expr} {f : SE} {j pos pos'} (ha : DE X T W a f) : DT X T W (.Compare a [.IsNot] [.Constant .none j pos'] pos) (sT (gIsN true f)) := PT.imp (pt_cmp (pc_notN ha)) fun _ _ _ p => lift_notN (lift_T p)
/-! ### chains, and, or, not -/
def sChain (g g' : OV → OV → R OV) (fa fb fc : SE) : SE := fun ds => (fa ds).bind fun a => (fb ds).bind fun b => (g a b).bind fun r => match r with
  | .z (.bl true) => (fc ds).bind fun c => g' b c
  | .z (.bl false) => .ok (.z (.bl false))
  | _ => .bad
theorem lift_chain {K : PySem.W.Frag} {r r' : R2} {g g' : OV → OV → R OV} (ho : Op2 K T r g) (ho' : Op2 K T r' g') (hx : ∀ a b c fs, g a b ≠ .exc c fs) (hx' : ∀ a b c fs, g' a b ≠ .exc c fs) {fa fb fc : SE} {σ : HSt} {H : Hp} {Q : VK}
    (p : liftE K T W (sChain g g' fa fb fc) σ H Q) : tChain r r' (liftE K T W fa) (liftE K T W fb) (liftE K T W fc) σ H Q := by
  obtain ⟨F, A, ds, w, p⟩ := p
  unfold sChain at p
  refine ⟨F, A, ds, w, ?_⟩
  cases ea : fa ds with
  | bad => rw [ea] at p; exact p.elim
  | exc c fs => rw [ea] at p; exact p
  | ok a =>
    rw [ea] at p
    intro v F1 H1 e1 t1 r1
    refine ⟨F1, A, ds, w.ext e1 t1, ?_⟩
    cases eb : fb ds with
    | bad => simp only [R.bind, eb] at p; exact p.elim
    | exc c fs =>
      simp only [R.bind, eb] at p
      exact fun cls d F2 H2 e2 t2 rx => p cls d F2 H2 (e1.trans t1 e2) t2 rx
    | ok b =>
      simp only [R.bind, eb] at p
      intro v2 F2 H2 e2 t2 r2
      refine ho F2 A H2 v v2 a b _ t2 w.at_ (e2.ro t1 w.at_ r1) r2 ?_
      cases eg : g a b with
      | exc c fs => exact absurd eg (hx a b c fs)
      | bad => simp only [eg] at p; exact p.elim
      | ok o =>
        simp only [eg] at p
        intro v3 F3 H3 e3 t3 r3
        split at p
        · refine ⟨true, r3.bl, ?_⟩
          rw [if_pos rfl]
          refine ⟨F3, A, ds, ((w.ext e1 t1).ext e2 t2).ext e3 t3, ?_⟩
          cases ec : fc ds with
          | bad => simp only [ec] at p; exact p.elim
          | exc c fs =>
            simp only [ec] at p
            exact fun cls d F4 H4 e4 t4 rx => p cls d F4 H4 (e1.trans t1 (e2.trans t2 (e3.trans t3 e4))) t4 rx
          | ok c =>
            simp only [ec] at p
            intro v4 F4 H4 e4 t4 r4
            refine ho' F4 A H4 v2 v4 b c Q t4 w.at_ (e4.ro t3 w.at_ (e3.ro t2 w.at_ r2)) r4 ?_
            have p' := postV.to p (hx' b c)
            cases eg : g' b c with
            | ok o =>
              rw [eg] at p'
              exact fun v F' H' e t r => p' v F' H' (e1.trans t1 (e2.trans t2 (e3.trans t3 (e4.trans t4 e)))) t r
            | exc c' fs => exact absurd eg (hx' b c c' fs)
            | bad => rw [eg] at p'; exact p'.elim
        · refine ⟨false, r3.bl, ?_⟩
          rw [if_neg Bool.false_ne_true]
          exact p _ F3 H3 (e1.trans t1 (e2.trans t2 e3)) t3 (.z (.bl _))
        · exact p.elim
theorem de_chain {op op' : CmpOp} {r r' : R2} {g g' : OV → OV → R OV} {a b c : PySem.Expr} {fa fb fc : SE} {pos : Pos} (ho : OpR X (compareOp op) r) (ho' : OpR X (compareOp op') r') (hr : Op2 X.K T r g) (hr' : Op2 X.K T r' g') (hx : ∀ a b c fs, g a b ≠ .exc c fs) (hx' : ∀ a b c fs, g' a b ≠ .exc c fs)
    (ha : DE X T W a fa) (hb : DE X T W b fb) (hc : DE X T W c fc) (hm : lastMarks [op, op'] [b, c] = false := by with_unfolding_all rfl) : DE X T W (.Compare a [op, op'] [b, c] pos) (sChain g g' fa fb fc) :=
  PE.imp (pe_chain ho ho' ha hb hc hm) fun _ _ _ p => lift_chain hr hr' hx hx' p
theorem dt_chain {op op' : CmpOp} {r r' : R2} {g g' : OV → OV → R OV} {a b c : PySem.Expr} {fa fb fc : SE} {pos : Pos} (ho : OpR X (compareOp op) r) (ho' : OpR X (compareOp op') r') (hr : Op2 X.K T r g) (hr' : Op2 X.K T r' g') (hx : ∀ a b c fs, g a b ≠ .exc c fs) (hx' : ∀ a b c fs, g' a b ≠ .exc c fs)
    (ha : DE X T W a fa) (hb : DE X T W b fb) (hc : DE X T W c fc) (hm : lastMarks [op, op'] [b, c] = false := by with_unfolding_all rfl) : DT X T W (.Compare a [op, op'] [b, c] pos) (sT (sChain g g' fa fb fc)) :=
  PT.imp (pt_chain ho ho' ha hb hc hm) fun _ _ _ p => lift_chain hr hr' hx hx' (lift_T p)
def sNot (f : ST) : ST := fun ds => (f ds).bind fun p => .ok (!p.1, p.2)
def sAnd (f g : ST) : ST := fun ds => (f ds).bind fun p => if p.1 then g p.2 else .ok (false, p.2)
def sOr (f g : ST) : ST := fun ds => (f ds).bind fun p => if p.1 then .ok (true, p.2) else g p.2
theorem lift_not {K : PySem.W.Frag} {f : ST} {σ : HSt} {H : Hp} {Q : Bool → Hp → Prop} (p : liftT K T W (sNot f) σ H Q) : tNot (liftT K T W f) σ H Q := by
  obtain ⟨F, A, ds, w, p⟩ := p
  unfold sNot at p
  refine ⟨F, A, ds, w, ?_⟩
  cases ea : f ds with
  | bad => rw [ea] at p; exact p.elim
  | exc c fs => rw [ea] at p; exact p
  | ok b => rw [ea] at p; exact p
theorem postT.step {K : PySem.W.Frag} {F F1 A A1 : AS} {H H1 : Hp} {σ : HSt} {Q : Bool → Hp → Prop} {ds0 ds1 : DS} {r : R (Bool × DS)} (t1 : Tabs T F1 H1) (s : Step T F H A F1 H1 A1) (l : ds1.length = ds0.length) (p : postT K T W F A σ H Q ds0 r) : postT K T W F1 A1 σ H1 Q ds1 r := by
  cases r with
  | ok b => exact fun F' H' A' s' w => p F' H' A' (s.trans t1 s') w
  | exc c fs => exact fun cls d F' H' A' s' w rx => p cls d F' H' A' (s.trans t1 s') (by rw [← forget_eq l]; exact w) rx
  | bad => exact p
theorem lift_and {K : PySem.W.Frag} {f g : ST} {σ : HSt} {H : Hp} {Q : Bool → Hp → Prop} (p : liftT K T W (sAnd f g) σ H Q) : tAnd (liftT K T W f) (liftT K T W g) σ H Q := by
  obtain ⟨F, A, ds, w, p⟩ := p
  unfold sAnd at p
  refine ⟨F, A, ds, w, ?_⟩
  cases ea : f ds with
  | bad => rw [ea] at p; exact p.elim
  | exc c fs => rw [ea] at p; exact p
  | ok b =>
    rw [ea] at p
    intro F1 H1 A1 s1 w1
    simp only [R.bind] at p
    cases hb : b.1 with
    | true => rw [hb] at p; exact ⟨F1, A1, b.2, w1, postT.step w1.tabs s1 (by rw [← w1.len, ← w.len]) p⟩
    | false => rw [hb] at p; exact p F1 H1 A1 s1 w1
theorem lift_or {K : PySem.W.Frag} {f g : ST} {σ : HSt} {H : Hp} {Q : Bool → Hp → Prop} (p : liftT K T W (sOr f g) σ H Q) : tOr (liftT K T W f) (liftT K T W g) σ H Q := by
  obtain ⟨F, A, ds, w, p⟩ := p
  unfold sOr at p
  refine ⟨F, A, ds, w, ?_⟩
  cases ea : f ds with
  | bad => rw [ea] at p; exact p.elim
  | exc c fs => rw [ea] at p; exact p
  | ok b =>
    rw [ea] at p
    intro F1 H1 A1 s1 w1
    simp only [R.bind] at p
    cases hb : b.1 with
    | false => rw [hb] at p; exact ⟨F1, A1, b.2, w1, postT.step w1.tabs s1 (by rw [← w1.len, ← w.len]) p⟩
    | true => rw [hb] at p; exact p F1 H1 A1 s1 w1
variable {a b : PySem.Expr} {rest : List PySem.Expr} {f g : ST} {pos : Pos}
theorem dt_not (h : DT X T W a f) : DT X T W (.UnaryOp .Not a pos) (sNot f) := PT.imp (pt_not h) fun _ _ _ p => lift_not p
theorem dw_and1 (h : DT X T W a f) : DW X T W (.BoolOp .And [a] pos) f := pw_and1 h
theorem dw_or1 (h : DT X T W a f) : DW X T W (.BoolOp .Or [a] pos) f := pw_or1 h
theorem dw_and (h : DT X T W a f) (h2 : DW X T W (.BoolOp .And (b :: rest) pos) g) : DW X T W (.BoolOp .And (a :: b :: rest) pos) (sAnd f g) := PW.imp (pw_and h h2) fun _ _ _ p => lift_and p
theorem dw_or (h : DT X T W a f) (h2 : DW X T W (.BoolOp .Or (b :: rest) pos) g) : DW X T W (.BoolOp .Or (a :: b :: rest) pos) (sOr f g) := PW.imp (pw_or h h2) fun _ _ _ p => lift_or p
theorem dw_t (h : DW X T W a f) : DT X T W a f := PW.pt h
/-! as values -/
def vAnd (f g : SE) : SE := fun ds => (f ds).bind fun o => match o with
  | .z (.bl true) => g ds
  | .z (.bl false) => .ok (.z (.bl false))
  | _ => .bad
def vOr (f g : SE) : SE := fun ds => (f ds).bind fun o => match o with
  | .z (.bl false) => g ds
  | .z (.bl true) => .ok (.z (.bl true))
  | _ => .bad
def vNot : OV → R OV
  | .z (.bl b) => .ok (.z (.bl (!b)))
  | _ => .bad
theorem postE.ext {K : PySem.W.Frag} {F F1 A : AS} {H H1 : Hp} {σ : HSt} {Q : VK} {r : R OV} (t1 : Tabs T F1 H1) (e : Ext T F H F1 H1) (p : postE K T W F A σ H Q r) : postE K T W F1 A σ H1 Q r := by
  cases r with
  | ok o => exact fun v F' H' e' t r => p v F' H' (e.trans t1 e') t r
  | exc c fs => exact fun cls d F' H' e' t r => p cls d F' H' (e.trans t1 e') t r
  | bad => exact p
theorem de_and {fa fb : SE} (ha : DE X T W a fa) (hb : DE X T W (.BoolOp .And (b :: rest) pos) fb) : DE X T W (.BoolOp .And (a :: b :: rest) pos) (vAnd fa fb) := PE.imp (pe_and ha hb) fun σ H Q ⟨F, A, ds, w, p⟩ => by
  unfold vAnd at p
  refine ⟨F, A, ds, w, ?_⟩
  cases ea : fa ds with
  | bad => rw [ea] at p; exact p.elim
  | exc c fs => rw [ea] at p; exact p
  | ok o =>
    rw [ea] at p
    intro v F1 H1 e1 t1 r1
    simp only [R.bind] at p
    split at p
    · exact ⟨true, r1.bl, by rw [if_pos rfl]; exact ⟨F1, A, ds, w.ext e1 t1, p.ext t1 e1⟩⟩
    · exact ⟨false, r1.bl, by rw [if_neg Bool.false_ne_true]; exact p _ F1 H1 e1 t1 (.z (.bl _))⟩
    · exact p.elim
theorem de_or {fa fb : SE} (ha : DE X T W a fa) (hb : DE X T W (.BoolOp .Or (b :: rest) pos) fb) : DE X T W (.BoolOp .Or (a :: b :: rest) pos) (vOr fa fb) := PE.imp (pe_or ha hb) fun σ H Q ⟨F, A, ds, w, p⟩ => by
  unfold vOr at p
  refine ⟨F, A, ds, w, ?_⟩
  cases ea : fa ds with
  | bad => rw [ea] at p; exact p.elim
  | exc c fs => rw [ea] at p; exact p
  | ok o =>
    rw [ea] at p
    intro v F1 H1 e1 t1 r1
    simp only [R.bind] at p
    split at p
    · exact ⟨false, r1.bl, by rw [if_neg Bool.false_ne_true]; exact ⟨F1, A, ds, w.ext e1 t1, p.ext t1 e1⟩⟩
    · exact ⟨true, r1.bl, by rw [if_pos rfl]; exact p _ F1 H1 e1 t1 (.z (.bl _))⟩
    · exact p.elim
theorem de_one {op} {fa : SE} (h : DE X T W a fa) : DE X T W (.BoolOp op [a] pos) fa := pe_one h
theorem de_not {fa : SE} (h : DE X T W a fa) : DE X T W (.UnaryOp .Not a pos) (s1 vNot fa) := PE.imp (pe_not h) fun σ H Q ⟨F, A, ds, w, p⟩ => by
  unfold s1 at p
  refine ⟨F, A, ds, w, ?_⟩
  cases ea : fa ds with
  | bad => rw [ea] at p; exact p.elim
  | exc c fs => rw [ea] at p; exact p
  | ok o =>
    rw [ea] at p
    intro v F1 H1 e1 t1 r1
    simp only [R.bind, vNot] at p
    split at p
    · rename_i k
      exact ⟨k, r1.bl, p _ F1 H1 e1 t1 (.z (.bl _))⟩
    · exact p.elim
/-- a if t else b -/
def vIf (t : ST) (f g : SE) : SE := fun ds => (t ds).bind fun p => if p.1 then f ds else g ds
def vNeg : OV → R OV
  | .z (.int i) => .ok (.z (.int (-i)))
  | _ => .bad
theorem de_neg {fa : SE} (h : DE X T W a fa) : DE X T W (.UnaryOp .USub a pos) (s1 vNeg fa) := PE.imp (pe_un un_neg h) fun σ H Q ⟨F, A, ds, w, p⟩ => by
  unfold s1 at p
  refine ⟨F, A, ds, w, ?_⟩
  cases ea : fa ds with
  | bad => rw [ea] at p; exact p.elim
  | exc c fs => rw [ea] at p; exact p
  | ok o =>
    rw [ea] at p
    intro v F1 H1 e1 t1 r1
    simp only [R.bind, vNeg] at p
    split at p
    · rename_i k
      exact ⟨k, r1.int, p _ F1 H1 e1 t1 (.z (.int _))⟩
    · exact p.elim
end
end DL
set_option Elab.async false
set_option linter.all false
set_option maxRecDepth 100000
set_option maxHeartbeats 4000000
/-! The D layer, 10: tests that change nothing, statements. -/
namespace DL
open PySem PySem.Spec PyProof.Rows L2

/-! ### tests that change nothing -/
abbrev SB := DS → R Bool
section
variable (K : PySem.W.Frag) (T : Tb) (W : WX)
def postB (F : AS) (A : AS) (σ : HSt) (H : Hp) (Q : Bool → Hp → Prop) : R Bool → Prop
  | .ok b => ∀ F' H', Ext T F H F' H' → Tabs T F' H' → Q b H'
  | .exc c fs => ∀ cls d F' H', Ext T F H F' H' → Tabs T F' H' → RepX K T F' H' cls d c fs → W cls d σ H'
  | .bad => False
def liftB (f : SB) : TT := fun σ H Q => ∃ F A ds, Wk K T F H A σ ds ∧ postB K T W F A σ H Q (f ds)
end
def DB (X : Cx) (T : Tb) (W : WX) (e : PySem.Expr) (f : SB) : Prop := PT X e (liftB X.K T W f)
def DBw (X : Cx) (T : Tb) (W : WX) (e : PySem.Expr) (f : SB) : Prop := PW X e (liftB X.K T W f)
section
variable {K : PySem.W.Frag} {T : Tb} {W : WX} {F F1 A : AS} {H H1 : Hp} {σ : HSt} {Q : Bool → Hp → Prop}
theorem postB.ext {r : R Bool} (t1 : Tabs T F1 H1) (e : Ext T F H F1 H1) (p : postB K T W F A σ H Q r) : postB K T W F1 A σ H1 Q r := by
  cases r with
  | ok o => exact fun F' H' e' t => p F' H' (e.trans t1 e') t
  | exc c fs => exact fun cls d F' H' e' t r => p cls d F' H' (e.trans t1 e') t r
  | bad => exact p
def bOf : OV → R Bool
  | .z (.bl b) => .ok b
  | _ => .bad
def pV (f : SE) : SB := fun ds => (f ds).bind bOf
theorem lift_P {f : SE} (p : liftB K T W (pV f) σ H Q) : liftE K T W f σ H fun x H' => ∃ k, x = .bl k ∧ Q k H' := by
  obtain ⟨F, A, ds, w, p⟩ := p
  unfold pV at p
  refine ⟨F, A, ds, w, ?_⟩
  cases ea : f ds with
  | bad => rw [ea] at p; exact p.elim
  | exc c fs => rw [ea] at p; exact p
  | ok o =>
    rw [ea] at p
    intro v F' H' e t r
    simp only [R.bind, bOf] at p
    split at p
    · rename_i b
      exact ⟨b, r.bl, p F' H' e t⟩
    · exact p.elim
def tP (f : SB) : ST := fun ds => (f ds).bind fun b => .ok (b, ds)
theorem lift_TP {f : SB} (p : liftT K T W (tP f) σ H Q) : liftB K T W f σ H Q := by
  obtain ⟨F, A, ds, w, p⟩ := p
  unfold tP at p
  refine ⟨F, A, ds, w, ?_⟩
  cases ea : f ds with
  | bad => rw [ea] at p; exact p.elim
  | exc c fs =>
    rw [ea] at p
    exact fun cls d F' H' e t r => p cls d F' H' A e.step (w.ext e t).forget r
  | ok o =>
    rw [ea] at p
    exact fun F' H' e t => p F' H' A e.step (w.ext e t)
def pNot (f : SB) : SB := fun ds => (f ds).bind fun b => .ok (!b)
def pAnd (f g : SB) : SB := fun ds => (f ds).bind fun b => if b then g ds else .ok false
def pOr (f g : SB) : SB := fun ds => (f ds).bind fun b => if b then .ok true else g ds
theorem lift_pnot {f : SB} (p : liftB K T W (pNot f) σ H Q) : tNot (liftB K T W f) σ H Q := by
  obtain ⟨F, A, ds, w, p⟩ := p
  unfold pNot at p
  refine ⟨F, A, ds, w, ?_⟩
  cases ea : f ds with
  | bad => rw [ea] at p; exact p.elim
  | exc c fs => rw [ea] at p; exact p
  | ok b => rw [ea] at p; exact p
theorem lift_pand {f g : SB} (p : liftB K T W (pAnd f g) σ H Q) : tAnd (liftB K T W f) (liftB K T W g) σ H Q := by
  obtain ⟨F, A, ds, w, p⟩ := p
  unfold pAnd at p
  refine ⟨F, A, ds, w, ?_⟩
  cases ea : f ds with
  | bad => rw [ea] at p; exact p.elim
  | exc c fs => rw [ea] at p; exact p
  | ok b =>
    rw [ea] at p
    intro F1 H1 e1 t1
    simp only [R.bind] at p
    cases b with
    | true => exact ⟨F1, A, ds, w.ext e1 t1, p.ext t1 e1⟩
    | false => exact p F1 H1 e1 t1
theorem lift_por {f g : SB} (p : liftB K T W (pOr f g) σ H Q) : tOr (liftB K T W f) (liftB K T W g) σ H Q := by
  obtain ⟨F, A, ds, w, p⟩ := p
  unfold pOr at p
  refine ⟨F, A, ds, w, ?_⟩
  cases ea : f ds with
  | bad => rw [ea] at p; exact p.elim
  | exc c fs => rw [ea] at p; exact p
  | ok b =>
    rw [ea] at p
    intro F1 H1 e1 t1
    simp only [R.bind] at p
    cases b with
    | false => exact ⟨F1, A, ds, w.ext e1 t1, p.ext t1 e1⟩
    | true => exact p F1 H1 e1 t1
end
section
variable {X : Cx} {T : Tb} {W : WX} {a b : PySem.Expr} {rest : List PySem.Expr} {f g : SB} {pos : Pos}
theorem db_val {e : PySem.Expr} {f : SE} (h : DE X T W e f) (he : ∀ whole, isTrue e X.env whole = (do let v ← whole; standAt e.pos; holding [v] (truthy v)) := by intro _; rfl) : DB X T W e (pV f) := PT.imp (pt_val h he) fun _ _ _ p => lift_P p
theorem db_cmp {op : CmpOp} {r : R2} {g : OV → OV → R OV} {fa fb : SE} (ho : OpR X (compareOp op) r) (hr : Op2 X.K T r g) (hx : ∀ a b c fs, g a b ≠ .exc c fs) (ha : DE X T W a fa) (hb : DE X T W b fb) (hm : behindInMarks op b = false) :
    DB X T W (.Compare a [op] [b] pos) (pV (s2 g fa fb)) := PT.imp (pt_cmpR ho ha hb hm) fun _ _ _ p => lift_op2 hr hx (lift_P p)
theorem db_isN {f : SE} {j pos'} (ha : DE X T W a f) : DB X T W (.Compare a [.Is] [.Constant .none j pos'] pos) (pV (gIsN false f)) := PT.imp (pt_cmp (pc_isN ha)) fun _ _ _ p => lift_isN (lift_P p)
theorem db_notN {f : SE} {j pos'} (ha : DE X T W a f) : DB X T W (.Compare a [.IsNot] [.Constant .none j pos'] pos) (pV (gIsN true f)) := PT.imp (pt_cmp (pc_notN ha)) fun _ _ _ p => lift_notN (lift_P p)
theorem db_chain {op op' : CmpOp} {r r' : R2} {g g' : OV → OV → R OV} {c : PySem.Expr} {fa fb fc : SE} (ho : OpR X (compareOp op) r) (ho' : OpR X (compareOp op') r') (hr : Op2 X.K T r g) (hr' : Op2 X.K T r' g') (hx : ∀ a b c fs, g a b ≠ .exc c fs) (hx' : ∀ a b c fs, g' a b ≠ .exc c fs)
    (ha : DE X T W a fa) (hb : DE X T W b fb) (hc : DE X T W c fc) (hm : lastMarks [op, op'] [b, c] = false := by with_unfolding_all rfl) : DB X T W (.Compare a [op, op'] [b, c] pos) (pV (sChain g g' fa fb fc)) :=
  PT.imp (pt_chain ho ho' ha hb hc hm) fun _ _ _ p => lift_chain hr hr' hx hx' (lift_P p)
theorem db_not (h : DB X T W a f) : DB X T W (.UnaryOp .Not a pos) (pNot f) := PT.imp (pt_not h) fun _ _ _ p => lift_pnot p
theorem dbw_and1 (h : DB X T W a f) : DBw X T W (.BoolOp .And [a] pos) f := pw_and1 h
theorem dbw_or1 (h : DB X T W a f) : DBw X T W (.BoolOp .Or [a] pos) f := pw_or1 h
theorem dbw_and (h : DB X T W a f) (h2 : DBw X T W (.BoolOp .And (b :: rest) pos) g) : DBw X T W (.BoolOp .And (a :: b :: rest) pos) (pAnd f g) := PW.imp (pw_and h h2) fun _ _ _ p => lift_pand p
theorem dbw_or (h : DB X T W a f) (h2 : DBw X T W (.BoolOp .Or (b :: rest) pos) g) : DBw X T W (.BoolOp .Or (a :: b :: rest) pos) (pOr f g) := PW.imp (pw_or h h2) fun _ _ _ p => lift_por p
theorem dbw_t (h : DBw X T W a f) : DB X T W a f := PW.pt h
theorem db_t (h : DB X T W a f) : DT X T W a (tP f) := PT.imp h fun _ _ _ p => lift_TP p
/-- a if t else b -/
def sIf (t : SB) (f g : SE) : SE := fun ds => (t ds).bind fun b => if b then f ds else g ds
theorem de_if {t e1 e2 : PySem.Expr} {ft : SB} {f g : SE} (ht : DB X T W t ft) (h1 : DE X T W e1 f) (h2 : DE X T W e2 g) : DE X T W (.IfExp t e1 e2 pos) (sIf ft f g) := PE.imp (pe_ifExp ht h1 h2) fun σ H Q ⟨F, A, ds, w, p⟩ => by
  unfold sIf at p
  refine ⟨F, A, ds, w, ?_⟩
  cases ea : ft ds with
  | bad => rw [ea] at p; exact p.elim
  | exc c fs => rw [ea] at p; exact p
  | ok b =>
    rw [ea] at p
    intro F1 H1 e1 t1
    simp only [R.bind] at p
    cases b with
    | true => exact ⟨F1, A, ds, w.ext e1 t1, p.ext t1 e1⟩
    | false => exact ⟨F1, A, ds, w.ext e1 t1, p.ext t1 e1⟩
end

/-! ### statements: w the slots that are written -/
structure Kw (w : List Nat) (σ σ' : HSt) : Prop where
  len : σ'.length = σ.length
  at_ : ∀ i, i ∉ w → σ'[i]? = σ[i]?
theorem Kw.refl {w : List Nat} {σ : HSt} : Kw w σ σ := ⟨rfl, fun _ _ => rfl⟩
theorem Kw.trans {w w' : List Nat} {σ σ' σ'' : HSt} (a : Kw w σ σ') (b : Kw w' σ' σ'') : Kw (w ++ w') σ σ'' := ⟨b.len.trans a.len, fun i h => by
  rw [List.mem_append, not_or] at h
  rw [b.at_ i h.2, a.at_ i h.1]⟩
theorem Kw.sub {w w' : List Nat} {σ σ' : HSt} (a : Kw w σ σ') (s : ∀ i, i ∈ w → i ∈ w') : Kw w' σ σ' := ⟨a.len, fun i h => a.at_ i fun z => h (s i z)⟩
theorem Kw.tr1 {w : List Nat} {σ σ' σ'' : HSt} (a : Kw w σ σ') (b : Kw w σ' σ'') : Kw w σ σ'' := ⟨b.len.trans a.len, fun i h => by rw [b.at_ i h, a.at_ i h]⟩
theorem Kw.set {σ : HSt} {i : Nat} {v : Option V} : Kw [i] σ (σ.set i v) := ⟨List.length_set, fun j h => by
  rw [List.getElem?_set]
  split
  · rename_i z; subst z; simp at h
  · rfl⟩
section
variable (K : PySem.W.Frag) (T : Tb) (W : WX)
def postW (w : List Nat) (σ : HSt) (F : AS) (A : AS) (H : Hp) (D : Ends) : Out → Prop
  | .nx ds => ∀ σ' F' H' A', Kw w σ σ' → Step T F H A F' H' A' → Wk K T F' H' A' σ' ds → D.nx σ' H'
  | .rt o ds => ∀ v σ' F' H' A', Kw w σ σ' → Step T F H A F' H' A' → Wk K T F' H' A' (some v :: σ') (some o :: ds) → D.rt v H'
  | .bk ds => ∀ σ' F' H' A', Kw w σ σ' → Step T F H A F' H' A' → Wk K T F' H' A' σ' ds → D.bk σ' H'
  | .ct ds => ∀ σ' F' H' A', Kw w σ σ' → Step T F H A F' H' A' → Wk K T F' H' A' σ' ds → D.ct σ' H'
  | .exc c fs ds => ∀ cls d σ' F' H' A', Step T F H A F' H' A' → Wk K T F' H' A' σ' ds → RepX K T F' H' cls d c fs → W cls d σ' H'
  | .bad => False
def liftW (w : List Nat) (f : SS) : TS := fun D σ H => ∃ F A ds, Wk K T F H A σ ds ∧ postW K T W w σ F A H D (f ds)
end
def SSt (X : Cx) (T : Tb) (W : WX) (st : Stmt) (w : List Nat) (f : SS) : Prop := PS X st (liftW X.K T W w f)
def SSs (X : Cx) (T : Tb) (W : WX) (st : List Stmt) (w : List Nat) (f : SS) : Prop := PSs X st (liftW X.K T W w f)
section
variable {K : PySem.W.Frag} {T : Tb} {W : WX} {F F1 A A1 : AS} {H H1 : Hp} {σ σ1 : HSt} {w1 w2 wl : List Nat}
theorem postW.step {D : Ends} {r : Out} (k : Kw w1 σ σ1) (t1 : Tabs T F1 H1) (s : Step T F H A F1 H1 A1) (p : postW K T W (w1 ++ w2) σ F A H D r) : postW K T W w2 σ1 F1 A1 H1 D r := by
  cases r with
  | nx ds => exact fun σ' F' H' A' k' s' w => p σ' F' H' A' (k.trans k') (s.trans t1 s') w
  | rt o ds => exact fun v σ' F' H' A' k' s' w => p v σ' F' H' A' (k.trans k') (s.trans t1 s') w
  | bk ds => exact fun σ' F' H' A' k' s' w => p σ' F' H' A' (k.trans k') (s.trans t1 s') w
  | ct ds => exact fun σ' F' H' A' k' s' w => p σ' F' H' A' (k.trans k') (s.trans t1 s') w
  | exc c fs ds => exact fun cls d σ' F' H' A' s' w => p cls d σ' F' H' A' (s.trans t1 s') w
  | bad => exact p
theorem postW.wide {D : Ends} {r : Out} (q : ∀ i, i ∈ w1 → i ∈ w2) (p : postW K T W w2 σ F A H D r) : postW K T W w1 σ F A H D r := by
  cases r with
  | nx ds => exact fun σ' F' H' A' k' s' w => p σ' F' H' A' (k'.sub q) s' w
  | rt o ds => exact fun v σ' F' H' A' k' s' w => p v σ' F' H' A' (k'.sub q) s' w
  | bk ds => exact fun σ' F' H' A' k' s' w => p σ' F' H' A' (k'.sub q) s' w
  | ct ds => exact fun σ' F' H' A' k' s' w => p σ' F' H' A' (k'.sub q) s' w
  | exc c fs ds => exact p
  | bad => exact p
theorem liftW.wide {D : Ends} {f : SS} (q : ∀ i, i ∈ w1 → i ∈ w2) (p : liftW K T W w2 f D σ H) : liftW K T W w1 f D σ H := by
  obtain ⟨F, A, ds, w, p⟩ := p
  exact ⟨F, A, ds, w, p.wide q⟩
def sNext : SS := fun ds => .nx ds
def sSeq (f g : SS) : SS := fun ds => match f ds with
  | .nx ds => g ds
  | o => o
def sBreak : SS := fun ds => .bk ds
def sCont : SS := fun ds => .ct ds
/-- o handed to what follows -/
def bindS {α : Type} (ds : DS) (r : R α) (k : α → Out) : Out := match r with
  | .ok a => k a
  | .exc c fs => .exc c fs (forget ds)
  | .bad => .bad
def sSet (i : Nat) (f : SO) : SS := fun ds => bindS ds (f ds) fun p => .nx (p.2.set i (some p.1))
def sDrop (f : SO) : SS := fun ds => bindS ds (f ds) fun p => .nx p.2
def sRet (f : SO) : SS := fun ds => bindS ds (f ds) fun p => .rt p.1 p.2
def sRetN : SS := fun ds => .rt (.z .non) ds
def sIfS (t : ST) (f g : SS) : SS := fun ds => bindS ds (t ds) fun p => if p.1 then f p.2 else g p.2
theorem lift_next {D : Ends} (p : liftW K T W wl sNext D σ H) : tNext D σ H := by
  obtain ⟨F, A, ds, w, p⟩ := p
  exact p σ F H A .refl .refl w
theorem lift_seq {D : Ends} {f g : SS} (p : liftW K T W (w1 ++ w2) (sSeq f g) D σ H) : tSeq (liftW K T W w1 f) (liftW K T W w2 g) D σ H := by
  obtain ⟨F, A, ds, w, p⟩ := p
  unfold sSeq at p
  refine ⟨F, A, ds, w, ?_⟩
  cases ea : f ds with
  | nx ds' => rw [ea] at p; exact fun σ' F' H' A' k' s' w' => ⟨F', A', ds', w', p.step k' w'.tabs s'⟩
  | rt o ds' => rw [ea] at p; exact postW.wide (fun i h => List.mem_append_left _ h) p
  | bk ds' => rw [ea] at p; exact postW.wide (fun i h => List.mem_append_left _ h) p
  | ct ds' => rw [ea] at p; exact postW.wide (fun i h => List.mem_append_left _ h) p
  | exc c fs ds' => rw [ea] at p; exact p
  | bad => rw [ea] at p; exact p
theorem lift_set {D : Ends} {i : Nat} {f : SO} (p : liftW K T W [i] (sSet i f) D σ H) : liftO K T W f σ H fun x H1 => gName i x σ H1 D.nx := by
  obtain ⟨F, A, ds, w, p⟩ := p
  unfold sSet at p
  refine ⟨F, A, ds, w, ?_⟩
  cases ea : f ds with
  | ok o => rw [ea] at p; exact fun v F' H' A' s' w' => p _ F' H' A' .set s' (w'.popi i)
  | exc c fs => rw [ea] at p; exact fun cls d F' H' A' s w' rx => p cls d σ F' H' A' s w' rx
  | bad => rw [ea] at p; exact p.elim
theorem lift_drop {D : Ends} {f : SO} (p : liftW K T W wl (sDrop f) D σ H) : tDrop (liftO K T W f) D σ H := by
  obtain ⟨F, A, ds, w, p⟩ := p
  unfold sDrop at p
  refine ⟨F, A, ds, w, ?_⟩
  cases ea : f ds with
  | ok o => rw [ea] at p; exact fun v F' H' A' s' w' => p _ F' H' A' .refl s' w'.pop
  | exc c fs => rw [ea] at p; exact fun cls d F' H' A' s w' rx => p cls d σ F' H' A' s w' rx
  | bad => rw [ea] at p; exact p.elim
theorem lift_ret {D : Ends} {f : SO} (p : liftW K T W wl (sRet f) D σ H) : tRet (liftO K T W f) D σ H := by
  obtain ⟨F, A, ds, w, p⟩ := p
  unfold sRet at p
  refine ⟨F, A, ds, w, ?_⟩
  cases ea : f ds with
  | ok o => rw [ea] at p; exact fun v F' H' A' s' w' => p v σ F' H' A' .refl s' w'
  | exc c fs => rw [ea] at p; exact fun cls d F' H' A' s w' rx => p cls d σ F' H' A' s w' rx
  | bad => rw [ea] at p; exact p.elim
theorem lift_ifS {D : Ends} {t : ST} {f g : SS} (p : liftW K T W (w1 ++ w2) (sIfS t f g) D σ H) : tIfS (liftT K T W t) (liftW K T W w1 f) (liftW K T W w2 g) D σ H := by
  obtain ⟨F, A, ds, w, p⟩ := p
  unfold sIfS at p
  refine ⟨F, A, ds, w, ?_⟩
  cases ea : t ds with
  | exc c fs => rw [ea] at p; exact fun cls d F' H' A' s w' rx => p cls d σ F' H' A' s w' rx
  | bad => rw [ea] at p; exact p.elim
  | ok b =>
    rw [ea] at p
    intro F1 H1 A1 s1 w1
    simp only [bindS] at p
    cases hb : b.1 with
    | true =>
      rw [hb] at p
      exact ⟨F1, A1, b.2, w1, (postW.step (w1 := []) .refl w1.tabs s1 p).wide fun i h => List.mem_append_left _ h⟩
    | false =>
      rw [hb] at p
      exact ⟨F1, A1, b.2, w1, (postW.step (w1 := []) .refl w1.tabs s1 p).wide fun i h => List.mem_append_right _ h⟩
end
section
variable {X : Cx} {T : Tb} {W : WX} {st : Stmt} {rest sa sb : List Stmt} {f g : SS} {pos : Pos} {e : PySem.Expr} {w1 w2 : List Nat}
theorem ss_nil : SSs X T W [] [] sNext := PSs.imp pss_nil fun _ _ _ p => lift_next p
theorem ss_cons (h1 : SSt X T W st w1 f) (h2 : SSs X T W rest w2 g) : SSs X T W (st :: rest) (w1 ++ w2) (sSeq f g) := PSs.imp (pss_cons h1 h2) fun _ _ _ p => lift_seq p
theorem ss_one (h1 : SSt X T W st w1 f) : SSs X T W [st] w1 f := pss_one h1
theorem st_pass : SSt X T W (.Pass pos) [] sNext := PS.imp ps_pass fun _ _ _ p => lift_next p
theorem st_break : SSt X T W (.Break pos) [] sBreak := PS.imp ps_break fun _ σ H ⟨F, A, ds, w, p⟩ => p σ F H A .refl .refl w
theorem st_cont : SSt X T W (.Continue pos) [] sCont := PS.imp ps_continue fun _ σ H ⟨F, A, ds, w, p⟩ => p σ F H A .refl .refl w
theorem st_doc {x j pos'} : SSt X T W (.Expr (.Constant (.str x) j pos) pos') [] sNext := PS.imp ps_doc fun _ _ _ p => lift_next p
theorem st_set (i : Nat) {x : Str} {fo : SO} {pos' : Pos} (hN : X.N.Nodup) (he : DO X T W e fo) (hi : X.N[i]? = some x := by rfl) (hx : Loc X.env.scope x := by first | exact Or.inl rfl | exact Or.inr rfl) (hs : swapsWith e (some (.Name x pos')) pos.line X.env = pure false := by rfl)
    (hf : X.fn x = true ∨ X.env.scope.names.lookup x = some .local := by first | exact .inl rfl | exact .inr rfl | assumption) : SSt X T W (.Assign [.Name x pos'] e pos) [i] (sSet i fo) :=
  PS.imp (ps_set hN hi hx he hs hf) fun _ _ _ p => lift_set p
theorem st_expr {fo : SO} (he : DO X T W e fo) (hs : swapsWith e none pos.line X.env = pure false := by rfl) : SSt X T W (.Expr e pos) [] (sDrop fo) := PS.imp (ps_expr he hs) fun _ _ _ p => lift_drop p
theorem st_ret {fo : SO} (he : DO X T W e fo) : SSt X T W (.Return (some e) pos) [] (sRet fo) := PS.imp (ps_ret he) fun _ _ _ p => lift_ret p
theorem st_retN : SSt X T W (.Return none pos) [] sRetN := PS.imp ps_retN fun _ σ H ⟨F, A, ds, w, p⟩ => p .non σ F H A .refl .refl (w.pushz .non)
theorem st_if {t : ST} (ht : DT X T W e t) (ha : SSs X T W sa w1 f) (hb : SSs X T W sb w2 g) : SSt X T W (.If e sa sb pos) (w1 ++ w2) (sIfS t f g) := PS.imp (ps_if ht ha hb) fun _ _ _ p => lift_ifS p
def sBad : SS := fun _ => .bad
theorem ss_bad {sts : List Stmt} : SSs X T W sts [] sBad := PSs.imp pss_never fun _ _ _ ⟨_, _, _, _, p⟩ => p
theorem st_bad : SSt X T W st [] sBad := PS.imp ps_never fun _ _ _ ⟨_, _, _, _, p⟩ => p
/-- a slot's thing is changed no more -/
def frzAt (i : Nat) (ds : DS) : DS := match ds[i]? with
  | some (some o) => ds.set i (some (.z o.pure))
  | _ => ds
theorem Wk.frz {K : PySem.W.Frag} {F A : AS} {H : Hp} {σ : HSt} {ds : DS} (w : Wk K T F H A σ ds) (i : Nat) : ∃ F' A', Wk K T F' H A' σ (frzAt i ds) ∧ Step T F H A F' H A' := by
  unfold frzAt
  split
  · rename_i o e
    obtain ⟨v, B, C, h1, h2, h3, dj, s1, s2⟩ := w.rel.take e
    have hb : Tabs T (fun a => F a ∨ B a) H := ⟨fun P hP => ⟨(w.tabs.tb P hP).1, fun z => z.elim (w.tabs.tb P hP).2 fun z => w.at_ P (s1 P z) hP⟩, fun a h => h.elim (w.tabs.live a) fun h => w.tr a (s1 a h)⟩
    refine ⟨fun a => F a ∨ B a, C, ⟨hb, ?_, fun a h z => z.elim (w.dj a (s2 a h)) fun z => dj a z h, fun a h => w.at_ a (s2 a h), fun a h => w.tr a (s2 a h)⟩, ⟨fun a o h _ _ => h, fun a h => .inl h, fun a h => h.elim .inl fun h => .inr (.inl (s1 a h)), fun a h => .inl (s2 a h)⟩⟩
    have r : RelS K T (fun a => F a ∨ B a) H σ (ds.set i none) C := h3.mono (fun a h => .inl h) fun a o h _ => h
    have q : RO K T (fun a => F a ∨ B a) H v (.z o.pure) (fun _ => False) := .z (h2.frz (fun a h => .inl h) fun a h => .inr h)
    have := r.set (C := C) q (fun _ h => h.elim) (fun _ h => h) (fun _ h => h.elim) i
    rw [List.set_set] at this
    have e2 : σ.set i (some v) = σ := by
      apply List.ext_getElem?
      intro j
      rw [List.getElem?_set]
      split
      · rename_i z; subst z
        split
        · exact h1.symm
        · rename_i hl
          rw [List.getElem?_eq_none (by omega)]
      · rfl
    rw [e2] at this
    exact this
  · exact ⟨F, A, w, .refl⟩
theorem lift_frz {K : PySem.W.Frag} {D : Ends} {σ : HSt} {H : Hp} {wl : List Nat} {f : SS} {i : Nat} (p : liftW K T W wl (fun ds => f (frzAt i ds)) D σ H) : liftW K T W wl f D σ H := by
  obtain ⟨F, A, ds, w, p⟩ := p
  obtain ⟨F', A', w', s⟩ := w.frz i
  exact ⟨F', A', frzAt i ds, w', postW.step (w1 := []) .refl w'.tabs s p⟩
theorem st_frz (i : Nat) (h : SSt X T W st w1 f) : SSt X T W st w1 (fun ds => f (frzAt i ds)) := PS.imp h fun _ _ _ p => lift_frz p
theorem ss_frz (i : Nat) (h : SSs X T W rest w1 f) : SSs X T W rest w1 (fun ds => f (frzAt i ds)) := PSs.imp h fun _ _ _ p => lift_frz p
end
end DL
set_option Elab.async false
set_option linter.all false
set_option maxRecDepth 100000
set_option maxHeartbeats 4000000
/-! The D layer, 11: targets, for, while. -/
namespace DL
open PySem PySem.Spec PyProof.Rows L2

/-! ### targets -/
abbrev SG := OV → DS → Option DS
def liftG (K : PySem.W.Frag) (T : Tb) (w : List Nat) (f : SG) : TG := fun v σ H Q => ∃ F A o ds, Wk K T F H A (some v :: σ) (some o :: ds) ∧ match f o ds with
  | some ds' => ∀ σ' F' A', Kw w σ σ' → Step T F H A F' H A' → Wk K T F' H A' σ' ds' → Q σ' H
  | none => False
def DG (X : Cx) (T : Tb) (tg : PySem.Expr) (w : List Nat) (f : SG) : Prop := PG X tg (liftG X.K T w f)
theorem PG.imp {X : Cx} {e : PySem.Expr} {t t' : TG} (h : PG X e t) (i : ∀ v σ H Q, t' v σ H Q → t v σ H Q) : PG X e t' := ⟨fun pins s σ H v u Q I r q => h.run pins s σ H v u Q I r (i v σ H Q q)⟩
theorem PGs.imp {X : Cx} {e : List PySem.Expr} {t t' : TGs} (h : PGs X e t) (i : ∀ v σ H Q, t' v σ H Q → t v σ H Q) : PGs X e t' := ⟨fun pins s σ H v u Q I r q => h.run pins s σ H v u Q I r (i v σ H Q q)⟩
def tgN (i : Nat) : SG := fun o ds => some (ds.set i (some o))
theorem dg_name (i : Nat) {X : Cx} {T : Tb} {x : Str} {pos : Pos} (hN : X.N.Nodup) (hi : X.N[i]? = some x := by rfl) (hx : Loc X.env.scope x := by first | exact Or.inl rfl | exact Or.inr rfl) (hf : X.fn x = true ∨ X.env.scope.names.lookup x = some .local := by first | exact .inl rfl | exact .inr rfl | assumption) : DG X T (.Name x pos) [i] (tgN i) :=
  PG.imp (pg_name hN hi hx hf) fun v σ H Q ⟨F, A, o, ds, w, p⟩ => p _ F A .set .refl (w.popi i)
/-- plain things stored -/
abbrev SZ := D → DS → Option DS
abbrev SZs := List D → DS → Option DS
def liftZ (K : PySem.W.Frag) (T : Tb) (w : List Nat) (f : SZ) : TG := fun v σ H Q => ∃ F A d ds, Wk K T F H A σ ds ∧ Rep K T F H v d ∧ match f d ds with
  | some ds' => ∀ σ', Kw w σ σ' → Wk K T F H A σ' ds' → Q σ' H
  | none => False
def liftZs (K : PySem.W.Frag) (T : Tb) (w : List Nat) (f : SZs) : TGs := fun vs σ H Q => ∃ F A xs ds, Wk K T F H A σ ds ∧ Reps K T F H vs xs ∧ match f xs ds with
  | some ds' => ∀ σ', Kw w σ σ' → Wk K T F H A σ' ds' → Q σ' H
  | none => False
def DZ (X : Cx) (T : Tb) (tg : PySem.Expr) (w : List Nat) (f : SZ) : Prop := PG X tg (liftZ X.K T w f)
def DZs (X : Cx) (T : Tb) (tg : List PySem.Expr) (w : List Nat) (f : SZs) : Prop := PGs X tg (liftZs X.K T w f)
def tzN (i : Nat) : SZ := fun d ds => some (ds.set i (some (.z d)))
theorem dz_name (i : Nat) {X : Cx} {T : Tb} {x : Str} {pos : Pos} (hN : X.N.Nodup) (hi : X.N[i]? = some x := by rfl) (hx : Loc X.env.scope x := by first | exact Or.inl rfl | exact Or.inr rfl) (hf : X.fn x = true ∨ X.env.scope.names.lookup x = some .local := by first | exact .inl rfl | exact .inr rfl | assumption) : DZ X T (.Name x pos) [i] (tzN i) :=
  PG.imp (pg_name hN hi hx hf) fun v σ H Q ⟨F, A, d, ds, w, r, p⟩ => p _ .set ((w.pushz r).popi i)
def tzNil : SZs := fun xs ds => match xs with
  | [] => some ds
  | _ => none
def tzCons (f : SZ) (g : SZs) : SZs := fun xs ds => match xs with
  | x :: xs => (f x ds).bind fun ds' => g xs ds'
  | [] => none
theorem dzs_nil {X : Cx} {T : Tb} : DZs X T [] [] tzNil := PGs.imp pgs_nil fun vs σ H Q ⟨F, A, xs, ds, w, r, p⟩ => by
  unfold tzNil at p
  cases xs with
  | nil => cases r; exact ⟨rfl, p σ .refl w⟩
  | cons x xs => exact p.elim
theorem dzs_cons {X : Cx} {T : Tb} {e : PySem.Expr} {es : List PySem.Expr} {w1 w2 : List Nat} {f : SZ} {g : SZs} (h1 : DZ X T e w1 f) (h2 : DZs X T es w2 g) (hs : (assignEach (e :: es) X.env).map (·.2) = assign e X.env :: (assignEach es X.env).map (·.2) := by rfl) : DZs X T (e :: es) (w1 ++ w2) (tzCons f g) :=
  PGs.imp (pgs_cons h1 h2 hs) fun vs σ H Q ⟨F, A, xs, ds, w, r, p⟩ => by
    unfold tzCons at p
    cases xs with
    | nil => exact p.elim
    | cons x xs =>
      cases r with
      | cons a b =>
        simp only at p
        refine ⟨_, _, rfl, F, A, x, ds, w, a, ?_⟩
        cases ef : f x ds with
        | none => rw [ef] at p; exact p.elim
        | some ds' =>
          rw [ef] at p
          simp only [Option.bind_some] at p
          intro σ1 k1 w'
          refine ⟨F, A, xs, ds', w', b, ?_⟩
          cases eg : g xs ds' with
          | none => rw [eg] at p; exact p.elim
          | some ds'' =>
            rw [eg] at p
            exact fun σ2 k2 w2 => p σ2 (k1.trans k2) w2
def D.ptup? : D → Option (List D)
  | .tup xs => some xs
  | .kt xs => some xs
  | _ => none
def tzTup (n : Nat) (g : SZs) : SZ := fun d ds => match d.ptup? with
  | some xs => if xs.length = n then g xs ds else none
  | none => none
theorem reps_len {K : PySem.W.Frag} {T : Tb} {F : AS} {H : Hp} : ∀ {vs : List V} {ds : List D}, Reps K T F H vs ds → vs.length = ds.length
  | _, _, .nil => rfl
  | _, _, .cons _ b => by simp [reps_len b]
theorem dz_tup {X : Cx} {T : Tb} {es : List PySem.Expr} {k : Nat} {w : List Nat} {f : SZs} {pos : Pos} (n : Nat) (hc : X.calm = true) (h : DZs X T es w f) (hn : (assignEach es X.env).length = n := by rfl) (hst : (assignEach es X.env).findIdx? (·.1) = none := by rfl) : DZ X T (.Tuple es k pos) w (tzTup n f) :=
  PG.imp (pg_tup hc h hn hst) fun v σ H Q ⟨F, A, d, ds, w, r, p⟩ => by
    unfold tzTup at p
    have key : ∀ xs, d.ptup? = some xs → ∃ a vs, v = .ref a ∧ SqT X.K H a vs ∧ Reps X.K T F H vs xs := fun xs e => by
      cases d with
      | tup xs' => simp [D.ptup?] at e; subst e; cases r with | tup h r => exact ⟨_, _, rfl, .of h, r⟩
      | kt xs' => simp [D.ptup?] at e; subst e; cases r with | kt h r => exact ⟨_, _, rfl, h, r⟩
      | _ => simp [D.ptup?] at e
    split at p
    · rename_i ds' ef
      split at ef
      · rename_i xs ex
        split at ef
        · rename_i hl
          obtain ⟨a, vs, e1, e2, e3⟩ := key xs ex
          refine ⟨a, vs, e1, e2, by rw [reps_len e3, hl], F, A, xs, ds, w, e3, ?_⟩
          rw [ef]
          exact p
        · cases ef
      · cases ef
    · exact p.elim
/-- what a thing owns is changed no more -/
theorem Wk.frz0 {K : PySem.W.Frag} {T : Tb} {F A : AS} {H : Hp} {σ : HSt} {v : V} {o : OV} {ds : DS} (w : Wk K T F H A (some v :: σ) (some o :: ds)) : ∃ F' A', Wk K T F' H A' σ ds ∧ Step T F H A F' H A' ∧ Rep K T F' H v o.pure := by
  obtain ⟨F', A', w', s⟩ := w.frz 0
  have e : frzAt 0 (some o :: ds) = some (.z o.pure) :: ds := rfl
  rw [e] at w'
  refine ⟨F', A', w'.pop, s, ?_⟩
  have h := w'.rel
  cases h with
  | so a b d s1 s2 => cases a with | z r => exact r
/-- a plain target; what is stored is changed no more -/
def gOf (f : SZ) : SG := fun o ds => f o.pure ds
theorem dg_of {X : Cx} {T : Tb} {tg : PySem.Expr} {w : List Nat} {f : SZ} (h : DZ X T tg w f) : DG X T tg w (gOf f) := PG.imp h fun v σ H Q ⟨F, A, o, ds, w, p⟩ => by
  unfold gOf at p
  obtain ⟨F', A', w', s, r⟩ := w.frz0
  refine ⟨F', A', o.pure, ds, w', r, ?_⟩
  cases ef : f o.pure ds with
  | none => rw [ef] at p; exact p.elim
  | some ds' =>
    rw [ef] at p
    exact fun σ' k w2 => p σ' F' A' k s w2
/-- target = e -/
def sAsg (f : SO) (g : SG) : SS := fun ds => bindS ds (f ds) fun p => match g p.1 p.2 with
  | some ds' => .nx ds'
  | none => .bad
theorem st_asg {X : Cx} {T : Tb} {W : WX} {tg e : PySem.Expr} {w : List Nat} {fe : SO} {g : SG} {pos : Pos} (he : DO X T W e fe) (hg : DG X T tg w g) (hs : swapsWithSole [tg] e pos.line X.env = pure false := by rfl) (hw : swappedStores [tg] e X.env = pure none := by rfl)
    (h1 : (assignEach [tg] X.env).map (·.2) = [assign tg X.env] := by rfl) : SSt X T W (.Assign [tg] e pos) w (sAsg fe g) := PS.imp (ps_asg he hg hs hw h1) fun D σ H ⟨F, A, ds, w, p⟩ => by
  unfold sAsg at p
  refine ⟨F, A, ds, w, ?_⟩
  cases ee : fe ds with
  | bad => rw [ee] at p; exact p.elim
  | exc c fs => rw [ee] at p; exact fun cls d F' H' A' s w' rx => p cls d σ F' H' A' s w' rx
  | ok r =>
    rw [ee] at p
    intro v F1 H1 A1 s1 w1
    refine ⟨F1, A1, r.1, r.2, w1, ?_⟩
    simp only [bindS] at p
    cases eg : g r.1 r.2 with
    | none => rw [eg] at p; exact p.elim
    | some ds' =>
      rw [eg] at p
      exact fun σ' F' A' k s w' => p σ' F' H1 A' k (s1.trans w1.tabs s) w'

/-! ### what is walked -/
abbrev SI := DS → R (List D)
def ItD (K : PySem.W.Frag) (T : Tb) (F : AS) (H : Hp) (J : It) (xs : List D) : Prop := ∀ F' H', Sb F F' → Kp F H H' → Tabs T F' H' → ∀ i,
  (∀ d, xs[i]? = some d → J.go i H' ∧ ∀ x H3, J.yld i H' x H3 → Ext T F' H' F' H3 ∧ Tabs T F' H3 ∧ Rep K T F' H3 x d) ∧ (xs.length ≤ i → J.stop i H')
def postI (K : PySem.W.Frag) (T : Tb) (W : WX) (F : AS) (σ : HSt) (H : Hp) (Q : It → Hp → Prop) : R (List D) → Prop
  | .ok xs => ∀ J F' H', Ext T F H F' H' → Tabs T F' H' → ItD K T F' H' J xs → Q J H'
  | .exc c fs => ∀ cls d F' H', Ext T F H F' H' → Tabs T F' H' → RepX K T F' H' cls d c fs → W cls d σ H'
  | .bad => False
def liftI (K : PySem.W.Frag) (T : Tb) (W : WX) (f : SI) : TI := fun σ H Q => ∃ F A ds, Wk K T F H A σ ds ∧ postI K T W F σ H Q (f ds)
def DI (X : Cx) (T : Tb) (W : WX) (tg e : PySem.Expr) (f : SI) : Prop := PI X tg e (liftI X.K T W f)
theorem PI.imp {X : Cx} {tg e : PySem.Expr} {t t' : TI} (h : PI X tg e t) (i : ∀ σ H Q, t' σ H Q → t σ H Q) : PI X tg e t' := ⟨fun pins s σ H R I q => h.run pins s σ H R I (i σ H R q)⟩
def iAny (K : PySem.W.Frag) (tl : TE) : TI := fun σ H R => tl σ H fun x H1 => (∃ a, x = .ref a ∧ (∃ xs, SqL K H1 a xs) ∧ R (Itl K a) H1) ∨ (∃ a, x = .ref a ∧ (∃ xs, SqT K H1 a xs) ∧ R (Itt K a) H1) ∨ ∃ z, x = .str z ∧ R (Its z) H1
theorem pi_any {X : Cx} {tg l : PySem.Expr} {tl : TE} (hl : PE X l tl) : PI X tg l (iAny X.K tl) := by
  refine ⟨fun pins s σ H R I h => ?_⟩
  refine thn (hl.run pins s σ H _ I h) fun v s1 ⟨x, H1, I1, r1, q1⟩ => ?_
  rcases q1 with ⟨a, e, ⟨xs, hq⟩, q⟩ | ⟨a, e, ⟨xs, hq⟩, q⟩ | ⟨x, ex, q⟩
  · subst e
    cases r1
    obtain ⟨its, rv, p, hz⟩ := I1.list hq
    refine wpAny_pyIter_list p.isList ?_
    refine ⟨s1.heap.objs.size, [s1.heap.objs.size], _, _, H1, rfl, I1.kept (t' := s1.toks) fun b o e => Heap.get?_push_of_some _ e, turn_list a _, ⟨_, Heap.get?_push_size _ rfl, rfl, rfl⟩, fun b hb => ?_, q⟩
    have e : b = s1.heap.objs.size := by simpa using hb
    subst e
    exact I1.fpOk (Nat.le_refl _) (I1.hok.fresh (Nat.le_refl _))
  · subst e
    cases r1
    obtain ⟨its, rv, p, hz⟩ := I1.tuple hq
    refine wpAny_pyIter_tuple (show s1.heap.IsTuple a its.toArray from p) ?_
    refine ⟨s1.heap.objs.size, [s1.heap.objs.size], _, _, H1, rfl, I1.kept (t' := s1.toks) fun b o e => Heap.get?_push_of_some _ e, turn_tuple a _, ⟨_, Heap.get?_push_size _ rfl, rfl, rfl⟩, fun b hb => ?_, q⟩
    have e : b = s1.heap.objs.size := by simpa using hb
    subst e
    exact I1.fpOk (Nat.le_refl _) (I1.hok.fresh (Nat.le_refl _))
  · subst ex
    obtain ⟨t, rfl⟩ := r1
    cases ha : x.cps.all (· < 128)
    · exact wpAny_pyIter_wide ha (pi_one (tk := s1.toks) I1 _ (turn_str _ x t "str_iterator" (.inr rfl)) ⟨_, Heap.get?_push_size _ rfl, rfl, rfl⟩ q)
    · exact wpAny_pyIter_ascii ha (pi_one (tk := s1.toks) I1 _ (turn_str _ x t "str_ascii_iterator" (.inl rfl)) ⟨_, Heap.get?_push_size _ rfl, rfl, rfl⟩ q)
/-- the items of a plain list, tuple, text -/
def OV.its? : OV → Option (List D)
  | .z (.lst xs) => some xs
  | .z (.ro xs) => some xs
  | .z (.tup xs) => some xs
  | .z (.kt xs) => some xs
  | .z (.str s) => some (s.map fun c => .str [c])
  | _ => none
def iZ (f : SE) : SI := fun ds => (f ds).bind fun o => match o.its? with
  | some xs => .ok xs
  | none => .bad
theorem Reps.get2 {K : PySem.W.Frag} {T : Tb} {F : AS} {H : Hp} {vs : List V} {ds : List D} (r : Reps K T F H vs ds) {i : Nat} {d : D} {v : V} (h : ds[i]? = some d) (g : vs[i]? = some v) : Rep K T F H v d := by
  obtain ⟨w, e, q⟩ := r.get h
  rw [g] at e; cases e; exact q
theorem di_any {X : Cx} {T : Tb} {W : WX} {tg e : PySem.Expr} {f : SE} (h : DE X T W e f) : DI X T W tg e (iZ f) := PI.imp (pi_any h) fun σ H Q ⟨F, A, ds, w, p⟩ => by
  unfold iZ at p
  refine ⟨F, A, ds, w, ?_⟩
  cases ea : f ds with
  | bad => rw [ea] at p; exact p.elim
  | exc c fs => rw [ea] at p; exact p
  | ok o =>
    rw [ea] at p
    intro v F1 H1 e1 t1 r1
    simp only [R.bind] at p
    split at p
    · rename_i xs ex
      have same : ∀ {F' : AS} {H' : Hp} {x : V} {d : D}, Tabs T F' H' → Rep X.K T F' H' x d → Ext T F' H' F' H' ∧ Tabs T F' H' ∧ Rep X.K T F' H' x d := fun t r => ⟨.refl, t, r⟩
      cases r1 with
      | z r1 =>
        cases r1 with
        | @lst a vs ds' fa ha r =>
          simp [OV.its?] at ex; subst ex
          refine .inl ⟨a, rfl, ⟨_, .of ha⟩, p _ F1 H1 e1 t1 fun F' H' sf k t i => ⟨fun d hd => ?_, fun hl => ⟨vs, .of (k _ _ ha (.inl fa)), by rw [reps_len r]; exact hl⟩⟩⟩
          obtain ⟨x, hx, q⟩ := r.get hd
          have hq : SqL X.K H' a vs := .of (k _ _ ha (.inl fa))
          exact ⟨⟨vs, x, hq, hx⟩, fun y H3 ⟨e, g⟩ => by rw [e]; exact same t ((r.get2 hd (g vs hq)).mono sf k)⟩
        | @ro a vs ds' ha r =>
          simp [OV.its?] at ex; subst ex
          refine .inl ⟨a, rfl, ⟨_, ha.sq⟩, p _ F1 H1 e1 t1 fun F' H' sf k t i => ⟨fun d hd => ?_, fun hl => ⟨vs, (ha.mono sf k).sq, by rw [reps_len r]; exact hl⟩⟩⟩
          obtain ⟨x, hx, q⟩ := r.get hd
          have hq : SqL X.K H' a vs := (ha.mono sf k).sq
          exact ⟨⟨vs, x, hq, hx⟩, fun y H3 ⟨e, g⟩ => by rw [e]; exact same t ((r.get2 hd (g vs hq)).mono sf k)⟩
        | @tup a vs ds' ha r =>
          simp [OV.its?] at ex; subst ex
          refine .inr (.inl ⟨a, rfl, ⟨_, .of ha⟩, p _ F1 H1 e1 t1 fun F' H' sf k t i => ⟨fun d hd => ?_, fun hl => ⟨vs, .of (k _ _ ha (.inr trivial)), by rw [reps_len r]; exact hl⟩⟩⟩)
          obtain ⟨x, hx, q⟩ := r.get hd
          have hq : SqT X.K H' a vs := .of (k _ _ ha (.inr trivial))
          exact ⟨⟨vs, x, hq, hx⟩, fun y H3 ⟨e, g⟩ => by rw [e]; exact same t ((r.get2 hd (g vs hq)).mono sf k)⟩
        | @kt a vs ds' ha r =>
          simp [OV.its?] at ex; subst ex
          refine .inr (.inl ⟨a, rfl, ⟨_, ha⟩, p _ F1 H1 e1 t1 fun F' H' sf k t i => ⟨fun d hd => ?_, fun hl => ⟨vs, k.sqT ha, by rw [reps_len r]; exact hl⟩⟩⟩)
          obtain ⟨x, hx, q⟩ := r.get hd
          have hq : SqT X.K H' a vs := k.sqT ha
          exact ⟨⟨vs, x, hq, hx⟩, fun y H3 ⟨e, g⟩ => by rw [e]; exact same t ((r.get2 hd (g vs hq)).mono sf k)⟩
        | str z =>
          simp [OV.its?] at ex; subst ex
          refine .inr (.inr ⟨z, rfl, p _ F1 H1 e1 t1 fun F' H' sf k t i => ⟨fun d hd => ?_, fun hl => ?_⟩⟩)
          · rw [List.getElem?_map] at hd
            cases hz : z.cps.toList[i]? with
            | none => rw [hz] at hd; cases hd
            | some c =>
              rw [hz] at hd
              obtain rfl : D.str [c] = d := by simpa using hd
              have hlt : i < z.cps.size := by
                have := (List.getElem?_eq_some_iff.mp hz).1
                simpa using this
              refine ⟨hlt, ?_⟩
              rintro y H3 ⟨e, c', hc, rfl⟩
              rw [e]
              have : c' = c := by
                rw [Array.getElem?_toList] at hz
                rw [hz] at hc
                exact (Option.some.inj hc).symm
              subst this
              exact same t (.str ⟨#[c']⟩)
          · show z.cps.size ≤ i
            simpa using hl
        | _ => simp [OV.its?] at ex
      | _ => simp [OV.its?] at ex
    · exact p.elim
/-- range -/
def rng (lo hi : Int) : List D := (List.range (hi - lo).toNat).map fun k => .int (lo + (k : Nat))
theorem rng_len {lo hi : Int} : (rng lo hi).length = (hi - lo).toNat := by simp [rng]
theorem rng_get {lo hi : Int} {i : Nat} {d : D} (h : (rng lo hi)[i]? = some d) : i < (hi - lo).toNat ∧ d = .int (lo + i) := by
  unfold rng at h
  rw [List.getElem?_map] at h
  by_cases hi' : i < (hi - lo).toNat
  · rw [List.getElem?_range hi'] at h
    exact ⟨hi', (Option.some.inj h).symm⟩
  · rw [List.getElem?_eq_none (by simpa using hi')] at h; cases h
def big62 (i : Int) : Bool := decide (-(2 ^ 62) ≤ i ∧ i < 2 ^ 62)
def iRng1 (f : SA) : SI := fun ds => (f ds).bind fun os => match os with
  | [.z (.int j)] => if big62 j then .ok (rng 0 j) else .bad
  | _ => .bad
def iRng2 (f : SA) : SI := fun ds => (f ds).bind fun os => match os with
  | [.z (.int i), .z (.int j)] => if big62 i && big62 j then .ok (rng i j) else .bad
  | _ => .bad
theorem itr_D {K : PySem.W.Frag} {T : Tb} {F : AS} {H : Hp} {lo hi : Int} : ItD K T F H (Itr lo (hi - lo).toNat) (rng lo hi) := fun F' H' sf k t i => ⟨fun d hd => by
  obtain ⟨h1, rfl⟩ := rng_get hd
  refine ⟨h1, ?_⟩
  rintro x H3 ⟨rfl, rfl⟩
  exact ⟨.refl, t, .int _⟩, fun hl => by rw [rng_len] at hl; exact hl⟩
theorem RVs.ints1 {K : PySem.W.Frag} {T : Tb} {F A : AS} {H : Hp} {vs : List V} {j : Int} (r : RVs K T F H A vs [.z (.int j)]) : vs = [.int j] := by
  cases r with | cons r rr => cases rr; cases r with | z r => cases r; rfl
theorem RVs.ints2 {K : PySem.W.Frag} {T : Tb} {F A : AS} {H : Hp} {vs : List V} {i j : Int} (r : RVs K T F H A vs [.z (.int i), .z (.int j)]) : vs = [.int i, .int j] := by
  cases r with | cons r rr => cases r with | z r => cases r; rw [rr.ints1]
theorem di_range1 {X : Cx} {T : Tb} {W : WX} {tg a : PySem.Expr} {fa : SA} {p pos : Pos} (ha : DA X T W [a] fa) (hg : Gl X "range" := by rfl) (hm : X.mg "range" = none) (hs : starEach [a] X.env = [(false, eval a X.env)] := by rfl) : DI X T W tg (.Call (.Name "range" p) [a] [] pos) (iRng1 fa) := PI.imp (pi_range1 hg hm ha hs) fun σ H Q ⟨F, A, ds, w, p⟩ => by
  unfold DL.iRng1 at p
  refine ⟨F, A, ds, w, ?_⟩
  cases ea : fa ds with
  | bad => rw [ea] at p; exact p.elim
  | exc c fs => rw [ea] at p; exact p
  | ok os =>
    rw [ea] at p
    intro vs F1 H1 e1 t1 r1
    simp only [R.bind] at p
    split at p
    · rename_i j
      split at p
      · rename_i hb
        simp only [big62, decide_eq_true_eq] at hb
        refine ⟨j, r1.ints1, hb.1, hb.2, p _ F1 H1 e1 t1 ?_⟩
        have := itr_D (K := X.K) (T := T) (F := F1) (H := H1) (lo := 0) (hi := j)
        rw [Int.sub_zero] at this
        exact this
      · exact p.elim
    · exact p.elim
theorem di_range2 {X : Cx} {T : Tb} {W : WX} {tg a b : PySem.Expr} {fa : SA} {p pos : Pos} (ha : DA X T W [a, b] fa) (hg : Gl X "range" := by rfl) (hm : X.mg "range" = none) (hs : starEach [a, b] X.env = [(false, eval a X.env), (false, eval b X.env)] := by rfl) (hs2 : starEach [b] X.env = [(false, eval b X.env)] := by rfl) : DI X T W tg (.Call (.Name "range" p) [a, b] [] pos) (iRng2 fa) := PI.imp (pi_range2 hg hm ha hs hs2) fun σ H Q ⟨F, A, ds, w, p⟩ => by
  unfold DL.iRng2 at p
  refine ⟨F, A, ds, w, ?_⟩
  cases ea : fa ds with
  | bad => rw [ea] at p; exact p.elim
  | exc c fs => rw [ea] at p; exact p
  | ok os =>
    rw [ea] at p
    intro vs F1 H1 e1 t1 r1
    simp only [R.bind] at p
    split at p
    · rename_i i j
      split at p
      · rename_i hb
        simp only [big62, Bool.and_eq_true, decide_eq_true_eq] at hb
        exact ⟨i, j, r1.ints2, ⟨hb.1.1, hb.1.2, hb.2.1, hb.2.2⟩, p _ F1 H1 e1 t1 itr_D⟩
      · exact p.elim
    · exact p.elim

/-! ### walked where all is kept: what is owned too -/
def ItA (K : PySem.W.Frag) (T : Tb) (F A : AS) (H : Hp) (J : It) (xs : List D) : Prop := ∀ F' H', Sb F F' → KpA A F H H' → Tabs T F' H' → ∀ i,
  (∀ d, xs[i]? = some d → J.go i H' ∧ ∀ x H3, J.yld i H' x H3 → Ext T F' H' F' H3 ∧ Tabs T F' H3 ∧ Rep K T F' H3 x d) ∧ (xs.length ≤ i → J.stop i H')
def postIA (K : PySem.W.Frag) (T : Tb) (W : WX) (F A : AS) (σ : HSt) (H : Hp) (Q : It → Hp → Prop) : R (List D) → Prop
  | .ok xs => ∀ J F' H', Ext T F H F' H' → Tabs T F' H' → ItA K T F' A H' J xs → Q J H'
  | .exc c fs => ∀ cls d F' H', Ext T F H F' H' → Tabs T F' H' → RepX K T F' H' cls d c fs → W cls d σ H'
  | .bad => False
def liftIA (K : PySem.W.Frag) (T : Tb) (W : WX) (f : SI) : TI := fun σ H Q => ∃ F A ds, Wk K T F H A σ ds ∧ postIA K T W F A σ H Q (f ds)
def DIA (X : Cx) (T : Tb) (W : WX) (tg e : PySem.Expr) (f : SI) : Prop := PI X tg e (liftIA X.K T W f)
theorem dia_of {X : Cx} {T : Tb} {W : WX} {tg e : PySem.Expr} {f : SI} (h : DI X T W tg e f) : DIA X T W tg e f := PI.imp h fun σ H Q ⟨F, A, ds, w, p⟩ => by
  refine ⟨F, A, ds, w, ?_⟩
  cases ea : f ds with
  | bad => rw [ea] at p; exact p.elim
  | exc c fs => rw [ea] at p; exact p
  | ok xs => rw [ea] at p; exact fun J F' H' e t it => p J F' H' e t fun F'' H'' sf k t' i => it F'' H'' sf k.kp t' i
def OV.itsA? : OV → Option (List D)
  | .l os => zs os
  | .z d => OV.its? (.z d)
  | _ => none
def iZA (f : SE) : SI := fun ds => (f ds).bind fun o => match o.itsA? with
  | some xs => .ok xs
  | none => .bad
theorem dia_any {X : Cx} {T : Tb} {W : WX} {tg e : PySem.Expr} {f : SE} (h : DE X T W e f) : DIA X T W tg e (iZA f) := PI.imp (pi_any h) fun σ H Q ⟨F, A, ds, w, p⟩ => by
  unfold iZA at p
  refine ⟨F, A, ds, w, ?_⟩
  cases ea : f ds with
  | bad => rw [ea] at p; exact p.elim
  | exc c fs => rw [ea] at p; exact p
  | ok o =>
    rw [ea] at p
    intro v F1 H1 e1 t1 r1
    simp only [R.bind] at p
    split at p
    · rename_i xs ex
      have same : ∀ {F' : AS} {H' : Hp} {x : V} {d : D}, Tabs T F' H' → Rep X.K T F' H' x d → Ext T F' H' F' H' ∧ Tabs T F' H' ∧ Rep X.K T F' H' x d := fun t r => ⟨.refl, t, r⟩
      cases r1 with
      | @l a vs os _ B ha m rs sb nb =>
        simp only [OV.itsA?] at ex
        obtain rfl := zs_some ex
        have r := rs.zs
        refine .inl ⟨a, rfl, ⟨_, .of ha⟩, p _ F1 H1 e1 t1 fun F' H' sf k t i => ⟨fun d hd => ?_, fun hl => ⟨vs, .of (k _ _ ha (.inr (.inl m))), by rw [reps_len r]; exact hl⟩⟩⟩
        obtain ⟨x, hx, q⟩ := r.get hd
        have hq : SqL X.K H' a vs := .of (k _ _ ha (.inr (.inl m)))
        exact ⟨⟨vs, x, hq, hx⟩, fun y H3 ⟨e, g⟩ => by rw [e]; exact same t ((r.get2 hd (g vs hq)).mono sf k.kp)⟩
      | z r1 =>
        simp only [OV.itsA?] at ex
        have hz : DI X T W tg e (iZ f) := di_any h
        clear hz
        cases r1 with
        | @lst a vs ds' fa ha r =>
          simp [OV.its?] at ex; subst ex
          refine .inl ⟨a, rfl, ⟨_, .of ha⟩, p _ F1 H1 e1 t1 fun F' H' sf k t i => ⟨fun d hd => ?_, fun hl => ⟨vs, .of (k _ _ ha (.inl fa)), by rw [reps_len r]; exact hl⟩⟩⟩
          obtain ⟨x, hx, q⟩ := r.get hd
          have hq : SqL X.K H' a vs := .of (k _ _ ha (.inl fa))
          exact ⟨⟨vs, x, hq, hx⟩, fun y H3 ⟨e, g⟩ => by rw [e]; exact same t ((r.get2 hd (g vs hq)).mono sf k.kp)⟩
        | @ro a vs ds' ha r =>
          simp [OV.its?] at ex; subst ex
          refine .inl ⟨a, rfl, ⟨_, ha.sq⟩, p _ F1 H1 e1 t1 fun F' H' sf k t i => ⟨fun d hd => ?_, fun hl => ⟨vs, (ha.mono sf k.kp).sq, by rw [reps_len r]; exact hl⟩⟩⟩
          obtain ⟨x, hx, q⟩ := r.get hd
          have hq : SqL X.K H' a vs := (ha.mono sf k.kp).sq
          exact ⟨⟨vs, x, hq, hx⟩, fun y H3 ⟨e, g⟩ => by rw [e]; exact same t ((r.get2 hd (g vs hq)).mono sf k.kp)⟩
        | @tup a vs ds' ha r =>
          simp [OV.its?] at ex; subst ex
          refine .inr (.inl ⟨a, rfl, ⟨_, .of ha⟩, p _ F1 H1 e1 t1 fun F' H' sf k t i => ⟨fun d hd => ?_, fun hl => ⟨vs, .of (k.kp _ _ ha (.inr trivial)), by rw [reps_len r]; exact hl⟩⟩⟩)
          obtain ⟨x, hx, q⟩ := r.get hd
          have hq : SqT X.K H' a vs := .of (k.kp _ _ ha (.inr trivial))
          exact ⟨⟨vs, x, hq, hx⟩, fun y H3 ⟨e, g⟩ => by rw [e]; exact same t ((r.get2 hd (g vs hq)).mono sf k.kp)⟩
        | @kt a vs ds' ha r =>
          simp [OV.its?] at ex; subst ex
          refine .inr (.inl ⟨a, rfl, ⟨_, ha⟩, p _ F1 H1 e1 t1 fun F' H' sf k t i => ⟨fun d hd => ?_, fun hl => ⟨vs, k.kp.sqT ha, by rw [reps_len r]; exact hl⟩⟩⟩)
          obtain ⟨x, hx, q⟩ := r.get hd
          have hq : SqT X.K H' a vs := k.kp.sqT ha
          exact ⟨⟨vs, x, hq, hx⟩, fun y H3 ⟨e, g⟩ => by rw [e]; exact same t ((r.get2 hd (g vs hq)).mono sf k.kp)⟩
        | str z =>
          simp [OV.its?] at ex; subst ex
          refine .inr (.inr ⟨z, rfl, p _ F1 H1 e1 t1 fun F' H' sf k t i => ⟨fun d hd => ?_, fun hl => ?_⟩⟩)
          · rw [List.getElem?_map] at hd
            cases hz : z.cps.toList[i]? with
            | none => rw [hz] at hd; cases hd
            | some c =>
              rw [hz] at hd
              obtain rfl : D.str [c] = d := by simpa using hd
              have hlt : i < z.cps.size := by
                have := (List.getElem?_eq_some_iff.mp hz).1
                simpa using this
              refine ⟨hlt, ?_⟩
              rintro y H3 ⟨e, c', hc, rfl⟩
              rw [e]
              have : c' = c := by
                rw [Array.getElem?_toList] at hz
                rw [hz] at hc
                exact (Option.some.inj hc).symm
              subst this
              exact same t (.str ⟨#[c']⟩)
          · show z.cps.size ≤ i
            simpa using hl
        | _ => simp [OV.its?] at ex
      | _ => simp [OV.its?, OV.itsA?] at ex
    · exact p.elim

/-! ### for -/
def loopL (g : SG) (b : SS) : List D → DS → Out
  | [], ds => .nx ds
  | x :: xs, ds => match g (.z x) ds with
    | none => .bad
    | some ds1 => match b ds1 with
      | .nx ds2 => loopL g b xs ds2
      | .ct ds2 => loopL g b xs ds2
      | .bk ds2 => .nx ds2
      | o => o
def sFor (f : SI) (g : SG) (b : SS) : SS := fun ds => bindS ds (f ds) fun xs => loopL g b xs ds
theorem lift_for {K : PySem.W.Frag} {T : Tb} {W : WX} {σ : HSt} {H : Hp} {D : Ends} {w1 w2 : List Nat} {f : SI} {g : SG} {b : SS} (p : liftW K T W (w1 ++ w2) (sFor f g b) D σ H) : tFor (liftI K T W f) (liftG K T w1 g) (liftW K T W w2 b) D σ H := by
  obtain ⟨F, A, ds, w, p⟩ := p
  unfold sFor at p
  refine ⟨F, A, ds, w, ?_⟩
  cases ea : f ds with
  | exc c fs => rw [ea] at p; exact fun cls d F' H' e t rx => p cls d σ F' H' A e.step (w.ext e t).forget rx
  | bad => rw [ea] at p; exact p.elim
  | ok xs =>
    rw [ea] at p
    intro J F1 H1 e1 t1 it
    simp only [bindS] at p
    have p1 : postW K T W (w1 ++ w2) σ F1 A H1 D (loopL g b xs ds) := postW.step (w1 := []) .refl t1 e1.step p
    have w1' := w.ext e1 t1
    refine ⟨fun i m σ' H' => m = xs.length - i ∧ i ≤ xs.length ∧ ∃ F' A' ds', Kw (w1 ++ w2) σ σ' ∧ Step T F1 H1 A F' H' A' ∧ Wk K T F' H' A' σ' ds' ∧ postW K T W (w1 ++ w2) σ F1 A H1 D (loopL g b (xs.drop i) ds'), ⟨xs.length, by simp, Nat.zero_le _, F1, A, ds, .refl, .refl, w1', by simpa using p1⟩, ?_⟩
    rintro i m σ' H' ⟨rfl, hi, F', A', ds', k, s, w', q⟩
    have kp := s.kp t1 w1'.dj
    by_cases hlt : i < xs.length
    · have hx : xs[i]? = some xs[i] := by simp [hlt]
      obtain ⟨go, yl⟩ := (it F' H' s.sub kp w'.tabs i).1 _ hx
      rw [List.drop_eq_getElem_cons hlt] at q
      refine .inr ⟨go, fun σ2 H2 => ∃ F2 A2 ds2, Kw (w1 ++ w2) σ σ2 ∧ Step T F1 H1 A F2 H2 A2 ∧ Wk K T F2 H2 A2 σ2 ds2 ∧ postW K T W (w1 ++ w2) σ F1 A H1 D (loopL g b (xs.drop (i + 1)) ds2), fun σ2 H2 ⟨F2, A2, ds2, h1, h2, h3, h4⟩ => ⟨xs.length - (i + 1), by omega, rfl, hlt, F2, A2, ds2, h1, h2, h3, h4⟩, fun x H3 y => ?_⟩
      obtain ⟨e3, t3, r3⟩ := yl x H3 y
      have w3 := w'.ext e3 t3
      refine ⟨F', A', .z xs[i], ds', w3.pushz r3, ?_⟩
      unfold loopL at q
      cases eg : g (.z xs[i]) ds' with
      | none => rw [eg] at q; exact q.elim
      | some ds1 =>
        rw [eg] at q
        simp only at q
        intro σ4 F4 A4 k4 s4 w4
        refine ⟨F4, A4, ds1, w4, ?_⟩
        have s14 : Step T F1 H1 A F4 H3 A4 := s.trans w'.tabs (e3.step.trans t3 s4)
        have k14 : Kw (w1 ++ w2) σ σ4 := k.tr1 (k4.sub fun i h => List.mem_append_left _ h)
        have kk : ∀ {σ5 : HSt}, Kw w2 σ4 σ5 → Kw (w1 ++ w2) σ σ5 := fun {σ5} k5 => k14.tr1 (k5.sub fun i h => List.mem_append_right _ h)
        cases eb : b ds1 with
        | nx ds2 => rw [eb] at q; exact fun σ5 F5 H5 A5 k5 s5 w5 => ⟨F5, A5, ds2, kk k5, s14.trans w4.tabs s5, w5, q⟩
        | ct ds2 => rw [eb] at q; exact fun σ5 F5 H5 A5 k5 s5 w5 => ⟨F5, A5, ds2, kk k5, s14.trans w4.tabs s5, w5, q⟩
        | bk ds2 => rw [eb] at q; exact fun σ5 F5 H5 A5 k5 s5 w5 => q σ5 F5 H5 A5 (kk k5) (s14.trans w4.tabs s5) w5
        | rt o ds2 => rw [eb] at q; exact fun v σ5 F5 H5 A5 k5 s5 w5 => q v σ5 F5 H5 A5 (kk k5) (s14.trans w4.tabs s5) w5
        | exc c fs ds2 => rw [eb] at q; exact fun cls d σ5 F5 H5 A5 s5 w5 => q cls d σ5 F5 H5 A5 (s14.trans w4.tabs s5) w5
        | bad => rw [eb] at q; exact q
    · have e : i = xs.length := by omega
      subst e
      rw [List.drop_length] at q
      exact .inl ⟨(it F' H' s.sub kp w'.tabs xs.length).2 (Nat.le_refl _), q σ' F' H' A' k s w'⟩
theorem st_for {X : Cx} {T : Tb} {W : WX} {tg iter : PySem.Expr} {body : List Stmt} {w1 w2 : List Nat} {f : SI} {g : SG} {b : SS} {pos : Pos} (hp : PassesOwn (model X.prog X.w) X.A X.env X.xe) (hc : X.calm = true) (hi : DI X T W tg iter f) (hg : DG X T tg w1 g) (hb : SSs X T W body w2 b)
    (hs : ∀ x, foldedSetIterable iter X.env x = pure x := by intro _; rfl) : SSt X T W (.For tg iter body [] pos) (w1 ++ w2) (sFor f g b) := PS.imp (ps_for hp hc hi hg hb hs) fun _ _ _ p => lift_for p

/-! ### while -/
def loopW (t : ST) (b : SS) : Nat → DS → Out
  | 0, _ => .bad
  | n + 1, ds => bindS ds (t ds) fun p => if p.1 then match b p.2 with
      | .nx ds2 => loopW t b n ds2
      | .ct ds2 => loopW t b n ds2
      | .bk ds2 => .nx ds2
      | o => o
    else .nx p.2
def sWhile (t : ST) (b : SS) (fu : DS → Nat) : SS := fun ds => loopW t b (fu ds) ds
theorem lift_while {K : PySem.W.Frag} {T : Tb} {W : WX} {σ : HSt} {H : Hp} {D : Ends} {wl : List Nat} {t : ST} {b : SS} {fu : DS → Nat} (p : liftW K T W wl (sWhile t b fu) D σ H) : tWhile (liftT K T W t) (liftW K T W wl b) D σ H := by
  obtain ⟨F, A, ds, w, p⟩ := p
  unfold sWhile at p
  refine ⟨fun m σ' H' => ∃ F' A' ds', Kw wl σ σ' ∧ Step T F H A F' H' A' ∧ Wk K T F' H' A' σ' ds' ∧ postW K T W wl σ F A H D (loopW t b m ds'), ⟨fu ds, F, A, ds, .refl, .refl, w, p⟩, ?_⟩
  rintro m σ' H' ⟨F', A', ds', k, s, w', q⟩
  cases m with
  | zero => exact q.elim
  | succ m =>
    unfold loopW at q
    refine ⟨F', A', ds', w', ?_⟩
    cases et : t ds' with
    | bad => rw [et] at q; exact q.elim
    | exc c fs => rw [et] at q; exact fun cls d F5 H5 A5 s5 w5 rx => q cls d σ' F5 H5 A5 (s.trans w'.tabs s5) w5 rx
    | ok r =>
      rw [et] at q
      intro F1 H1 A1 s1 w1
      simp only [bindS] at q
      cases hb : r.1 with
      | false =>
        rw [hb] at q
        rw [if_neg Bool.false_ne_true]
        exact q σ' F1 H1 A1 k (s.trans w'.tabs s1) w1
      | true =>
        rw [hb] at q
        rw [if_pos rfl]
        rw [if_pos rfl] at q
        have s14 := s.trans w'.tabs s1
        have kk : ∀ {σ5 : HSt}, Kw wl σ' σ5 → Kw wl σ σ5 := fun {σ5} k5 => k.tr1 k5
        refine ⟨fun σ2 H2 => ∃ F2 A2 ds2, Kw wl σ σ2 ∧ Step T F H A F2 H2 A2 ∧ Wk K T F2 H2 A2 σ2 ds2 ∧ postW K T W wl σ F A H D (loopW t b m ds2), fun σ2 H2 h => ⟨m, Nat.lt_succ_self m, h⟩, F1, A1, r.2, w1, ?_⟩
        cases eb : b r.2 with
        | nx ds2 => rw [eb] at q; exact fun σ5 F5 H5 A5 k5 s5 w5 => ⟨F5, A5, ds2, kk k5, s14.trans w1.tabs s5, w5, q⟩
        | ct ds2 => rw [eb] at q; exact fun σ5 F5 H5 A5 k5 s5 w5 => ⟨F5, A5, ds2, kk k5, s14.trans w1.tabs s5, w5, q⟩
        | bk ds2 => rw [eb] at q; exact fun σ5 F5 H5 A5 k5 s5 w5 => q σ5 F5 H5 A5 (kk k5) (s14.trans w1.tabs s5) w5
        | rt o ds2 => rw [eb] at q; exact fun v σ5 F5 H5 A5 k5 s5 w5 => q v σ5 F5 H5 A5 (kk k5) (s14.trans w1.tabs s5) w5
        | exc c fs ds2 => rw [eb] at q; exact fun cls d σ5 F5 H5 A5 s5 w5 => q cls d σ5 F5 H5 A5 (s14.trans w1.tabs s5) w5
        | bad => rw [eb] at q; exact q
theorem st_while {X : Cx} {T : Tb} {W : WX} {c : PySem.Expr} {body : List Stmt} {wl : List Nat} {t : ST} {b : SS} {pos : Pos} (fu : DS → Nat) (hp : PassesOwn (model X.prog X.w) X.A X.env X.xe) (ht : DT X T W c t) (hb : SSs X T W body wl b) : SSt X T W (.While c body [] pos) wl (sWhile t b fu) :=
  PS.imp (ps_while hp ht hb) fun _ _ _ p => lift_while p
end DL
set_option Elab.async false
set_option linter.all false
set_option maxRecDepth 100000
set_option maxHeartbeats 4000000
/-! The D layer, 12: places within what is owned. -/
namespace DL
open PySem PySem.Spec PyProof.Rows L2

/-- a field (class, position); an item; a dict's entry -/
inductive Stp where
  | fld (c p : Nat) | ix (i : Nat) | kv (j : Nat)
  deriving DecidableEq
def goV (H : Hp) (v : V) : Stp → Option V
  | .fld _ p => match v with
    | .ref a => match H a with
      | some (.ins _ _ fvs) => (fvs.map (·.2))[p]?
      | _ => none
    | _ => none
  | .ix i => match v with
    | .ref a => match H a with
      | some (.lst vs) => vs[i]?
      | some (.tup vs) => vs[i]?
      | _ => none
    | _ => none
  | .kv j => match v with
    | .ref a => match H a with
      | some (.dK kvs) => (kvs.map (·.2))[j]?
      | some (.dT kvs) => (kvs.map (·.2))[j]?
      | _ => none
    | _ => none
def goP (H : Hp) (v : V) : List Stp → Option V
  | [] => some v
  | s :: r => (goV H v s).bind fun w => goP H w r
def setK (kvs : List (D × OV)) (j : Nat) (o : OV) : List (D × OV) := match kvs[j]? with
  | some (k, _) => kvs.set j (k, o)
  | none => kvs
def OV.at1 : OV → Stp → Option OV
  | .o c fs, .fld c' p => if c = c' then fs[p]? else none
  | .l xs, .ix i => xs[i]?
  | .t xs, .ix i => xs[i]?
  | .k kvs, .kv j => (kvs.map (·.2))[j]?
  | _, _ => none
def OV.put1 : OV → Stp → OV → OV
  | .o c fs, .fld _ p, o' => .o c (fs.set p o')
  | .l xs, .ix i, o' => .l (xs.set i o')
  | .t xs, .ix i, o' => .t (xs.set i o')
  | .k kvs, .kv j, o' => .k (setK kvs j o')
  | w, _, _ => w
def OV.atP : OV → List Stp → Option OV
  | w, [] => some w
  | w, s :: r => (w.at1 s).bind fun o1 => o1.atP r
def OV.putP : OV → List Stp → OV → OV
  | _, [], o' => o'
  | w, s :: r, o' => match w.at1 s with
    | some o1 => w.put1 s (o1.putP r o')
    | none => w
section
variable (K : PySem.W.Frag) (T : Tb) (F : AS) (H : Hp)
/-- a place and what is around it -/
def Foc (v1 : V) (o1 : OV) (A : AS) (G : AS → Hp → OV → AS → Prop) : Prop := ∃ B C : AS, RO K T F H v1 o1 B ∧ Dj B C ∧ Sb B A ∧ Sb C A ∧
  ∀ F' H' o' B', Sb F F' → KpA C F H H' → RO K T F' H' v1 o' B' → Dj B' C → G F' H' o' (fun a => B' a ∨ C a)
end
section
variable {K : PySem.W.Frag} {T : Tb} {F : AS} {H : Hp}
theorem Foc.here {v : V} {o : OV} {A : AS} (r : RO K T F H v o A) : Foc K T F H v o A (fun F' H' o' A' => RO K T F' H' v o' A') :=
  ⟨A, fun _ => False, r, fun _ _ h => h, fun _ h => h, fun _ h => h.elim, fun F' H' o' B' s k q d => q.up fun _ h => .inl h⟩
theorem Foc.imp {v1 : V} {o1 : OV} {A : AS} {G G' : AS → Hp → OV → AS → Prop} (f : Foc K T F H v1 o1 A G) (i : ∀ F' H' o' A', Sb F F' → G F' H' o' A' → G' F' H' o' A') : Foc K T F H v1 o1 A G' := by
  obtain ⟨B, C, r, d, s1, s2, k⟩ := f
  exact ⟨B, C, r, d, s1, s2, fun F' H' o' B' s kk q dd => i F' H' o' _ s (k F' H' o' B' s kk q dd)⟩
/-- a place within a place -/
theorem Foc.comp {v1 v2 : V} {o1 o2 : OV} {A : AS} {G : AS → Hp → OV → AS → Prop} {p : OV → OV} (f : Foc K T F H v1 o1 A G) (g : ∀ B, RO K T F H v1 o1 B → Foc K T F H v2 o2 B (fun F' H' o' A' => RO K T F' H' v1 (p o') A')) (up : ∀ F' H' o' A' A'', Sb A' A'' → G F' H' o' A' → G F' H' o' A'') :
    Foc K T F H v2 o2 A (fun F' H' o' A' => G F' H' (p o') A') := by
  obtain ⟨B, C, r, d, s1, s2, k⟩ := f
  obtain ⟨B2, C2, r2, d2, t1, t2, k2⟩ := g B r
  refine ⟨B2, fun a => C2 a ∨ C a, r2, fun a h z => z.elim (d2 a h) (d a (t1 a h)), fun a h => s1 a (t1 a h), fun a h => h.elim (fun h => s1 a (t2 a h)) (s2 a), fun F' H' o' B' s kk q dd => ?_⟩
  have q2 := k2 F' H' o' B' s (kk.sub fun a h => .inl h) q fun a h z => dd a h (.inl z)
  have q3 := k F' H' (p o') _ s (kk.sub fun a h => .inr h) q2 fun a h z => h.elim (fun h => dd a h (.inr z)) fun h => d a (t2 a h) z
  exact up _ _ _ _ _ (fun a h => h.elim (fun h => h.elim .inl fun h => .inr (.inl h)) fun h => .inr (.inr h)) q3
theorem ROs.foc {vs : List V} {os : List OV} {A : AS} (r : ROs K T F H vs os A) : ∀ {i : Nat} {o1 : OV}, os[i]? = some o1 → ∃ v1, vs[i]? = some v1 ∧ Foc K T F H v1 o1 A (fun F' H' o' A' => ROs K T F' H' vs (os.set i o') A') := by
  induction os generalizing vs A with
  | nil => intro i o1 h; simp at h
  | cons o os ih =>
    cases r with
    | @cons v vs _ _ _ B C a b d s1 s2 =>
      intro i o1 h
      cases i with
      | zero =>
        simp at h; subst h
        refine ⟨v, rfl, B, C, a, d, s1, s2, fun F' H' o' B' s k q dd => ?_⟩
        exact .cons q (b.mono s k) dd (fun _ h => .inl h) (fun _ h => .inr h)
      | succ i =>
        obtain ⟨v1, e, B1, C1, r1, d1, t1, t2, k1⟩ := ih b (i := i) (o1 := o1) (by simpa using h)
        refine ⟨v1, by simpa using e, B1, fun x => B x ∨ C1 x, r1, fun x p q => q.elim (fun q => d x q (t1 x p)) (d1 x p), fun x p => s2 x (t1 x p), fun x p => p.elim (s1 x) fun p => s2 x (t2 x p), fun F' H' o' B' s k q dd => ?_⟩
        have q2 := k1 F' H' o' B' s (k.sub fun a h => .inr h) q fun x p z => dd x p (.inr z)
        refine .cons (a.mono s (k.sub fun a h => .inl h)) q2 ?_ (fun x h => .inr (.inl h)) (fun x h => h.elim .inl fun h => .inr (.inr h))
        rintro x p (z | z)
        · exact dd x z (.inl p)
        · exact d x p (t2 x z)
inductive KK : List (Key × V) → List (D × OV) → Prop
  | nil : KK [] []
  | cons {k v r kd o ro} : KeyD k kd → KK r ro → KK ((k, v) :: r) ((kd, o) :: ro)
inductive KT : List (List Key × V) → List (D × OV) → Prop
  | nil : KT [] []
  | cons {k v r kd o ro} : KeysD k kd → KT r ro → KT ((k, v) :: r) ((.tup kd, o) :: ro)
theorem ROk.split {kvs : List (Key × V)} {kos : List (D × OV)} {A : AS} (r : ROk K T F H kvs kos A) : KK kvs kos ∧ ROs K T F H (kvs.map (·.2)) (kos.map (·.2)) A := by
  induction kos generalizing kvs A with
  | nil => cases r; exact ⟨.nil, .nil⟩
  | cons o os ih => cases r with | cons q a b d s t => exact ⟨.cons q (ih b).1, .cons a (ih b).2 d s t⟩
theorem ROk.join {kvs : List (Key × V)} {kos : List (D × OV)} {A : AS} (k : KK kvs kos) (r : ROs K T F H (kvs.map (·.2)) (kos.map (·.2)) A) : ROk K T F H kvs kos A := by
  induction k generalizing A with
  | nil => exact .nil
  | cons q _ ih => cases r with | cons a b d s t => exact .cons q a (ih b) d s t
theorem ROt.split {kvs : List (List Key × V)} {kos : List (D × OV)} {A : AS} (r : ROt K T F H kvs kos A) : KT kvs kos ∧ ROs K T F H (kvs.map (·.2)) (kos.map (·.2)) A := by
  induction kos generalizing kvs A with
  | nil => cases r; exact ⟨.nil, .nil⟩
  | cons o os ih => cases r with | cons q a b d s t => exact ⟨.cons q (ih b).1, .cons a (ih b).2 d s t⟩
theorem ROt.join {kvs : List (List Key × V)} {kos : List (D × OV)} {A : AS} (k : KT kvs kos) (r : ROs K T F H (kvs.map (·.2)) (kos.map (·.2)) A) : ROt K T F H kvs kos A := by
  induction k generalizing A with
  | nil => exact .nil
  | cons q _ ih => cases r with | cons a b d s t => exact .cons q a (ih b) d s t
theorem setK_snd {kos : List (D × OV)} {j : Nat} {o : OV} : (setK kos j o).map (·.2) = (kos.map (·.2)).set j o := by
  unfold setK
  split
  · rename_i k o' e
    rw [List.map_set]
  · rename_i e
    have : kos.length ≤ j := by simpa using e
    rw [List.set_eq_of_length_le (by simpa using this)]
theorem KK.setK {kvs : List (Key × V)} {kos : List (D × OV)} (k : KK kvs kos) : ∀ (j : Nat) (o : OV), KK kvs (setK kos j o) := by
  induction k with
  | nil => intro j o; exact .nil
  | @cons k v r kd o' ro q _ ih =>
    intro j o
    cases j with
    | zero => exact .cons q (by assumption)
    | succ j =>
      have := ih j o
      unfold DL.setK at this ⊢
      rw [List.getElem?_cons_succ]
      split
      · rename_i k' o2 e
        rw [e] at this
        exact .cons q this
      · rename_i e
        rw [e] at this
        exact .cons q this
theorem KT.setK {kvs : List (List Key × V)} {kos : List (D × OV)} (k : KT kvs kos) : ∀ (j : Nat) (o : OV), KT kvs (setK kos j o) := by
  induction k with
  | nil => intro j o; exact .nil
  | @cons k v r kd o' ro q _ ih =>
    intro j o
    cases j with
    | zero => exact .cons q (by assumption)
    | succ j =>
      have := ih j o
      unfold DL.setK at this ⊢
      rw [List.getElem?_cons_succ]
      split
      · rename_i k' o2 e
        rw [e] at this
        exact .cons q this
      · rename_i e
        rw [e] at this
        exact .cons q this
/-- around a thing's items stands the thing itself -/
theorem Foc.wrap {v1 : V} {o1 : OV} {A B : AS} {a : Addr} {G G' : AS → Hp → OV → AS → Prop} {ob : HO} (ha : H a = some ob) (m : A a) (n : ¬ B a) (sb : Sb B A) (f : Foc K T F H v1 o1 B G)
    (i : ∀ F' H' o' A', Sb F F' → H' a = some ob → ¬ A' a → G F' H' o' A' → G' F' H' o' (fun x => x = a ∨ A' x)) (up : ∀ F' H' o' A' A'', Sb A' A'' → G' F' H' o' A' → G' F' H' o' A'') : Foc K T F H v1 o1 A G' := by
  obtain ⟨B1, C, r, d, s1, s2, k⟩ := f
  refine ⟨B1, fun x => x = a ∨ C x, r, fun x p z => z.elim (fun z => n (by rw [← z]; exact s1 x p)) (d x p), fun x h => sb x (s1 x h), fun x h => h.elim (fun h => by rw [h]; exact m) fun h => sb x (s2 x h), fun F' H' o' B' s kk q dd => ?_⟩
  have q2 := k F' H' o' B' s (kk.sub fun a h => .inr h) q fun x p z => dd x p (.inr z)
  have ha' : H' a = some ob := kk a ob ha (.inr (.inl (.inl rfl)))
  have na : ¬ (B' a ∨ C a) := fun z => z.elim (fun z => dd a z (.inl rfl)) fun z => n (s2 a z)
  exact up _ _ _ _ _ (fun x h => h.elim (fun h => .inr (.inl h)) fun h => h.elim .inl fun h => .inr (.inr h)) (i F' H' o' _ s ha' na q2)
theorem RO.foc1 {v : V} {o : OV} {A : AS} (r : RO K T F H v o A) {s : Stp} {o1 : OV} (h : o.at1 s = some o1) : ∃ v1, goV H v s = some v1 ∧ Foc K T F H v1 o1 A (fun F' H' o' A' => RO K T F' H' v (o.put1 s o') A') := by
  have up : ∀ (o2 : OV → OV) (F' : AS) (H' : Hp) (o' : OV) (A' A'' : AS), Sb A' A'' → RO K T F' H' v (o2 o') A' → RO K T F' H' v (o2 o') A'' := fun o2 F' H' o' A' A'' s q => q.up s
  cases r with
  | z r => simp [OV.at1] at h
  | @l a vs os _ B ha m q sb n =>
    cases s with
    | ix i =>
      obtain ⟨v1, e, f⟩ := q.foc (i := i) (o1 := o1) (by simpa [OV.at1] using h)
      refine ⟨v1, by simp [goV, ha, e], f.wrap ha m n sb (fun F' H' o' A' s h' n' q' => ?_) (up _)⟩
      exact .l h' (.inl rfl) q' (fun x p => .inr p) n'
    | _ => simp [OV.at1] at h
  | @kK a kvs os _ B ha m q sb n =>
    cases s with
    | kv j =>
      obtain ⟨kk, q⟩ := q.split
      obtain ⟨v1, e, f⟩ := q.foc (i := j) (o1 := o1) (by simpa [OV.at1] using h)
      refine ⟨v1, by simp only [goV, ha]; exact e, f.wrap ha m n sb (fun F' H' o' A' s h' n' q' => ?_) (up _)⟩
      exact .kK h' (.inl rfl) (.join (kk.setK j o') (by rw [setK_snd]; exact q')) (fun x p => .inr p) n'
    | _ => simp [OV.at1] at h
  | @kT a kvs os _ B ha m q sb n =>
    cases s with
    | kv j =>
      obtain ⟨kk, q⟩ := q.split
      obtain ⟨v1, e, f⟩ := q.foc (i := j) (o1 := o1) (by simpa [OV.at1] using h)
      refine ⟨v1, by simp only [goV, ha]; exact e, f.wrap ha m n sb (fun F' H' o' A' s h' n' q' => ?_) (up _)⟩
      exact .kT h' (.inl rfl) (.join (kk.setK j o') (by rw [setK_snd]; exact q')) (fun x p => .inr p) n'
    | _ => simp [OV.at1] at h
  | @o a dx c fvs os _ B ha m en q sb n =>
    cases s with
    | fld c' p =>
      simp only [OV.at1] at h
      split at h
      · rename_i ec
        obtain ⟨v1, e, f⟩ := q.foc (i := p) (o1 := o1) h
        refine ⟨v1, by simp only [goV, ha]; exact e, f.wrap ha m n sb (fun F' H' o' A' s h' n' q' => ?_) (up _)⟩
        exact .o h' (.inl rfl) (by rw [List.length_set]; exact en) q' (fun x p => .inr p) n'
      · cases h
    | _ => simp [OV.at1] at h
  | @t a vs os _ ha q =>
    cases s with
    | ix i =>
      obtain ⟨v1, e, B, C, r1, d, s1, s2, k⟩ := q.foc (i := i) (o1 := o1) (by simpa [OV.at1] using h)
      refine ⟨v1, by simp [goV, ha, e], B, C, r1, d, s1, s2, fun F' H' o' B' s kk q dd => ?_⟩
      exact RO.t (kk _ _ ha (.inr (.inr trivial))) (k F' H' o' B' s kk q dd)
    | _ => simp [OV.at1] at h
theorem RO.foc {v : V} {o : OV} {A : AS} (r : RO K T F H v o A) {p : List Stp} {o1 : OV} (h : o.atP p = some o1) : ∃ v1, goP H v p = some v1 ∧ Foc K T F H v1 o1 A (fun F' H' o' A' => RO K T F' H' v (o.putP p o') A') := by
  induction p generalizing v o A with
  | nil =>
    simp only [OV.atP, Option.some.injEq] at h; subst h
    exact ⟨v, rfl, .here r⟩
  | cons s p ih =>
    simp only [OV.atP] at h
    cases e : o.at1 s with
    | none => rw [e] at h; cases h
    | some o2 =>
      rw [e] at h
      obtain ⟨v2, g, f⟩ := r.foc1 e
      obtain ⟨B0, C0, r0, _⟩ := id f
      obtain ⟨v1, g1, _⟩ := ih r0 h
      refine ⟨v1, by simp [goP, g, g1], ?_⟩
      have := f.comp (v2 := v1) (o2 := o1) (p := fun o' => o2.putP p o') (fun B rB => by
        obtain ⟨v1', g1', f1⟩ := ih rB h
        rw [g1] at g1'; cases g1'
        exact f1) (fun F' H' o' A' A'' s q => q.up s)
      refine this.imp fun F' H' o' A' s q => ?_
      rw [OV.putP, e]
      exact q
/-- within the slots -/
structure Pl where
  i : Nat
  p : List Stp
def atS (ds : DS) (q : Pl) : Option OV := match ds[q.i]? with
  | some (some o) => o.atP q.p
  | _ => none
def putS (ds : DS) (q : Pl) (o' : OV) : DS := match ds[q.i]? with
  | some (some o) => ds.set q.i (some (o.putP q.p o'))
  | _ => ds
def goS (H : Hp) (σ : HSt) (q : Pl) : Option V := match σ[q.i]? with
  | some (some v) => goP H v q.p
  | _ => none
theorem set_same {α : Type} {l : List α} {i : Nat} {x : α} (h : l[i]? = some x) : l.set i x = l := by
  apply List.ext_getElem?
  intro j
  rw [List.getElem?_set]
  split
  · rename_i z; subst z
    split
    · exact h.symm
    · rename_i hl
      rw [List.getElem?_eq_none (by omega)]
  · rfl
theorem RelS.foc {σ : HSt} {ds : DS} {A : AS} (r : RelS K T F H σ ds A) {q : Pl} {o1 : OV} (h : atS ds q = some o1) : ∃ v1, goS H σ q = some v1 ∧ Foc K T F H v1 o1 A (fun F' H' o' A' => RelS K T F' H' σ (putS ds q o') A') := by
  unfold atS at h
  split at h
  · rename_i o e
    obtain ⟨v, B, C, h1, h2, h3, dj, s1, s2⟩ := r.take e
    obtain ⟨v1, g, f⟩ := h2.foc h
    refine ⟨v1, by simp [goS, h1, g], ?_⟩
    obtain ⟨B1, C1, r1, d1, t1, t2, k1⟩ := f
    refine ⟨B1, fun x => C1 x ∨ C x, r1, fun x p z => z.elim (d1 x p) (dj x (t1 x p)), fun x p => s1 x (t1 x p), fun x p => p.elim (fun p => s1 x (t2 x p)) (s2 x), fun F' H' o' B' s kk q' dd => ?_⟩
    have q2 := k1 F' H' o' B' s (kk.sub fun a h => .inl h) q' fun a h z => dd a h (.inl z)
    have h3' := h3.mono s (kk.sub fun a h => .inr h)
    have := h3'.set (C := fun a => B' a ∨ C1 a ∨ C a) q2 (fun x p z => p.elim (fun p => dd x p (.inr z)) fun p => dj x (t2 x p) z) (fun x p => .inr (.inr p)) (fun x p => p.elim .inl fun p => .inr (.inl p)) q.i
    rw [set_same h1, List.set_set] at this
    unfold putS
    rw [e]
    exact this
  · cases h
end
end DL
set_option Elab.async false
set_option linter.all false
set_option maxRecDepth 100000
set_option maxHeartbeats 4000000
/-! The D layer, 13: moved values, places as expressions, stores within what is owned. -/
namespace DL
open PySem PySem.Spec PyProof.Rows L2

/-! ### new or moved, the heap kept -/
def postM (K : PySem.W.Frag) (T : Tb) (W : WX) (F A : AS) (σ : HSt) (H : Hp) (Q : VK) : R (OV × DS) → Prop
  | .ok (o, ds) => ∀ v F' H' A', Ext T F H F' H' → (∀ a, A' a → A a ∨ H a = none) → Wk K T F' H' A' (some v :: σ) (some o :: ds) → Q v H'
  | .exc c fs => ∀ cls d F' H', Ext T F H F' H' → Tabs T F' H' → RepX K T F' H' cls d c fs → W cls d σ H'
  | .bad => False
def liftM (K : PySem.W.Frag) (T : Tb) (W : WX) (f : SO) : TE := fun σ H Q => ∃ F A ds, Wk K T F H A σ ds ∧ postM K T W F A σ H Q (f ds)
def DM (X : Cx) (T : Tb) (W : WX) (e : PySem.Expr) (f : SO) : Prop := PE X e (liftM X.K T W f)
theorem df_m {X : Cx} {T : Tb} {W : WX} {e : PySem.Expr} {f : SF} (h : DF X T W e f) : DM X T W e (fO f) := PE.imp h fun σ H Q ⟨F, A, ds, w, p⟩ => by
  unfold fO at p
  refine ⟨F, A, ds, w, ?_⟩
  cases ea : f ds with
  | bad => simp only [R.bind, ea] at p; exact p.elim
  | exc c fs => simp only [R.bind, ea] at p; exact p
  | ok o =>
    simp only [R.bind, ea] at p
    intro v F' H' B e t r fr dj
    obtain ⟨d1, d2⟩ := fresh_dj w e t fr
    exact p v F' H' (fun a => B a ∨ A a) e (fun a h => h.elim (fun h => .inr (fr a h).1) .inl) ((w.ext e t).push r d1 dj d2 fun b h => (fr b h).2)
theorem de_m {X : Cx} {T : Tb} {W : WX} {e : PySem.Expr} {f : SE} (h : DE X T W e f) : DM X T W e (sP f) := df_m (de_f h)
theorem dm_o {X : Cx} {T : Tb} {W : WX} {e : PySem.Expr} {f : SO} (h : DM X T W e f) : DO X T W e f := PE.imp h fun σ H Q ⟨F, A, ds, w, p⟩ => by
  refine ⟨F, A, ds, w, ?_⟩
  cases ea : f ds with
  | bad => rw [ea] at p; exact p.elim
  | exc c fs => rw [ea] at p; exact fun cls d F' H' e t r => p cls d F' H' A e.step (w.ext e t).forget r
  | ok o =>
    rw [ea] at p
    exact fun v F' H' A' e l w' => p v F' H' A' ⟨fun a o h n _ => e.keep a o h n, e.sub, fun a h => (e.new a h).elim .inl fun h => .inr (.inr h), l⟩ w'
/-- a name's thing is handed on -/
def sMove (i : Nat) : SO := fun ds => match ds[i]? with
  | some (some o) => .ok (o, ds.set i none)
  | _ => .bad
theorem dm_move (i : Nat) {X : Cx} {T : Tb} {W : WX} {x : Str} {pos : Pos} (hN : X.N[i]? = some x := by rfl) (hv : Vis X.env.scope x := by first | exact Or.inl rfl | exact Or.inr (Or.inl rfl) | exact Or.inr (Or.inr rfl)) (hd : (x == ("__debug__" : Str)) = false := by decide)
    (hcd : (x == ("__classdict__" : Str)) = false := by decide) : DM X T W (.Name x pos) (sMove i) := PE.imp (pe_var hN hv hd hcd) fun σ H Q ⟨F, A, ds, w, p⟩ => by
  unfold sMove at p
  split at p
  · rename_i o e
    obtain ⟨v, B, C, h1, h2, h3, dj, s1, s2⟩ := w.rel.take e
    exact ⟨v, h1, p v F H A .refl (fun _ h => .inl h) ⟨w.tabs, .so h2 h3 dj s1 s2, w.dj, w.at_, w.tr⟩⟩
  · exact p.elim

/-! ### places -/
abbrev SPl := DS → R Pl
def postQ (K : PySem.W.Frag) (T : Tb) (W : WX) (F : AS) (σ : HSt) (H : Hp) (Q : VK) : R Pl → Prop
  | .ok q => ∀ v F' H', Ext T F H F' H' → Tabs T F' H' → goS H' σ q = some v → Q v H'
  | .exc c fs => ∀ cls d F' H', Ext T F H F' H' → Tabs T F' H' → RepX K T F' H' cls d c fs → W cls d σ H'
  | .bad => False
def liftQ (K : PySem.W.Frag) (T : Tb) (W : WX) (f : SPl) : TE := fun σ H Q => ∃ F A ds, Wk K T F H A σ ds ∧ postQ K T W F σ H Q (f ds)
def DPl (X : Cx) (T : Tb) (W : WX) (e : PySem.Expr) (f : SPl) : Prop := PE X e (liftQ X.K T W f)
def plV (i : Nat) : SPl := fun ds => match ds[i]? with
  | some (some _) => .ok ⟨i, []⟩
  | _ => .bad
theorem pl_var (i : Nat) {X : Cx} {T : Tb} {W : WX} {x : Str} {pos : Pos} (hN : X.N[i]? = some x := by rfl) (hv : Vis X.env.scope x := by first | exact Or.inl rfl | exact Or.inr (Or.inl rfl) | exact Or.inr (Or.inr rfl)) (hd : (x == ("__debug__" : Str)) = false := by decide)
    (hcd : (x == ("__classdict__" : Str)) = false := by decide) : DPl X T W (.Name x pos) (plV i) := PE.imp (pe_var hN hv hd hcd) fun σ H Q ⟨F, A, ds, w, p⟩ => by
  unfold plV at p
  split at p
  · rename_i o e
    obtain ⟨v, h1, h2⟩ := w.rel.get e
    exact ⟨v, h1, p v F H .refl w.tabs (by simp [goS, h1, goP])⟩
  · exact p.elim
/-- the class c has the field f at p -/
structure FdK (K : PySem.W.Frag) (T : Tb) (c p : Nat) (f : Str) : Prop where
  cl : Cls K (T.ca c)
  na : NoAttr K (T.ca c) f
  nd : (T.fn c).Nodup
  hp : (T.fn c)[p]? = some f
abbrev Fd (X : Cx) (T : Tb) (c p : Nat) (f : Str) : Prop := FdK X.K T c p f
def plF (c p : Nat) (f : SPl) : SPl := fun ds => (f ds).bind fun q => match atS ds q with
  | some (.o c' os) => if c' = c ∧ p < os.length then .ok ⟨q.i, q.p ++ [.fld c p]⟩ else .bad
  | _ => .bad
theorem goP_app {H : Hp} {v w : V} {p r : List Stp} (h : goP H v p = some w) : goP H v (p ++ r) = goP H w r := by
  induction p generalizing v with
  | nil => simp [goP] at h; subst h; rfl
  | cons s p ih =>
    simp only [goP, List.cons_append] at h ⊢
    cases e : goV H v s with
    | none => rw [e] at h; cases h
    | some x => rw [e] at h; exact ih h
theorem goS_app {H : Hp} {σ : HSt} {w : V} {q : Pl} {r : List Stp} (h : goS H σ q = some w) : goS H σ ⟨q.i, q.p ++ r⟩ = goP H w r := by
  unfold goS at h ⊢
  split at h
  · rename_i v e
    simp only [e]
    exact goP_app h
  · cases h
theorem stab_go {T : Tb} {F F' : AS} {H H' : Hp} (t : Tabs T F H) (e : Ext T F H F' H') {v w : V} {p : List Stp} (h : goP H v p = some w) : goP H' v p = some w := by
  induction p generalizing v with
  | nil => exact h
  | cons s p ih =>
    simp only [goP] at h ⊢
    cases g : goV H v s with
    | none => rw [g] at h; cases h
    | some x =>
      rw [g] at h
      have kp : ∀ a o, H a = some o → (∀ ps, o ≠ .tbl ps) → H' a = some o := fun a o ha hn => e.keep a o ha fun z => by
        obtain ⟨⟨ps, e', _⟩, _⟩ := t.tb a z
        rw [e'] at ha
        cases ha
        exact hn _ rfl
      have : goV H' v s = some x := by
        cases s with
        | fld c p =>
          cases v with
          | ref a =>
            simp only [goV] at g ⊢
            split at g
            · rename_i C dx fvs ha
              rw [kp a _ ha (fun ps z => nomatch z)]; exact g
            · cases g
          | _ => simp [goV] at g
        | ix i =>
          cases v with
          | ref a =>
            simp only [goV] at g ⊢
            split at g
            · rename_i vs ha
              rw [kp a _ ha (fun ps z => nomatch z)]; exact g
            · rename_i vs ha
              rw [kp a _ ha (fun ps z => nomatch z)]; exact g
            · cases g
          | _ => simp [goV] at g
        | kv i =>
          cases v with
          | ref a =>
            simp only [goV] at g ⊢
            split at g
            · rename_i vs ha
              rw [kp a _ ha (fun ps z => nomatch z)]; exact g
            · rename_i vs ha
              rw [kp a _ ha (fun ps z => nomatch z)]; exact g
            · cases g
          | _ => simp [goV] at g
      rw [this]
      exact ih h
theorem stab_goS {T : Tb} {F F' : AS} {H H' : Hp} {σ : HSt} (t : Tabs T F H) (e : Ext T F H F' H') {w : V} {q : Pl} (h : goS H σ q = some w) : goS H' σ q = some w := by
  unfold goS at h ⊢
  split at h
  · rename_i v ev
    exact stab_go t e h
  · cases h
theorem pl_fld {X : Cx} {T : Tb} {W : WX} {e : PySem.Expr} {f : Str} {fe : SPl} {pos : Pos} (c p : Nat) (fd : Fd X T c p f) (he : DPl X T W e fe) (hb : attributeBase e f X.env (eval e X.env) = eval e X.env := by rfl) :
    DPl X T W (.Attribute e f pos) (plF c p fe) := PE.imp (pe_fld he hb) fun σ H Q ⟨F, A, ds, w, h⟩ => by
  unfold plF at h
  refine ⟨F, A, ds, w, ?_⟩
  cases ea : fe ds with
  | bad => rw [ea] at h; exact h.elim
  | exc c fs => rw [ea] at h; exact h
  | ok q =>
    rw [ea] at h
    intro v F1 H1 e1 t1 g1
    simp only [R.bind] at h
    split at h
    · rename_i c' os ho
      split at h
      · rename_i hc
        obtain ⟨hc, hl⟩ := hc
        subst hc
        obtain ⟨v1, g2, f2⟩ := (w.ext e1 t1).rel.foc ho
        rw [g1] at g2; cases g2
        obtain ⟨B, C, r, _, _, _, _⟩ := f2
        cases r with
        | @o a dx _ fvs _ _ B2 h1 m hn hr sb nb =>
          have hl' : fvs.length = os.length := by have := hr.length; simpa using this
          have hx : p < (fvs.map (·.2)).length := by rw [List.length_map]; omega
          refine ⟨_, _, _, _, (fvs.map (·.2))[p], rfl, h1, fd.cl, fd.na, lookup_at (by rw [hl']; exact hn) fd.nd fd.hp (List.getElem?_eq_getElem hx), h _ F1 H1 e1 t1 ?_⟩
          rw [goS_app g1]
          simp only [goP, goV, h1, List.getElem?_eq_getElem hx]
          rfl
      · exact h.elim
    · exact h.elim

/-! ### the heap changes at a place -/
section
variable {K : PySem.W.Frag} {T : Tb} {F A : AS} {H : Hp} {σ : HSt} {ds : DS}
theorem Wk.foc (w : Wk K T F H A σ ds) {q : Pl} {o1 : OV} (h : atS ds q = some o1) : ∃ v1 B C, goS H σ q = some v1 ∧ RO K T F H v1 o1 B ∧ Dj B C ∧ Sb B A ∧ Sb C A ∧
    ∀ a ob ob' o' B', B a → H a = some ob → ¬ stab ob → RO K T F (upd H a ob') v1 o' B' → Dj B' C → Dj B' F → Dj B' T.tab → (∀ x, B' x → (upd H a ob') x ≠ none) → Wk K T F (upd H a ob') (fun x => B' x ∨ C x) σ (putS ds q o') := by
  obtain ⟨v1, g, B, C, r, d, s1, s2, k⟩ := w.rel.foc h
  refine ⟨v1, B, C, g, r, d, s1, s2, fun a ob ob' o' B' ba ha nst r' d1 d2 d3 tr => ?_⟩
  have ke : KpA C F H (upd H a ob') := fun b o hb z => by
    have : b ≠ a := fun z' => by
      subst z'
      rcases z with z | z | z
      · exact w.dj b (s1 b ba) z
      · exact d b ba z
      · rw [ha] at hb; cases hb; exact nst z
    rw [upd_ne this]; exact hb
  refine ⟨⟨fun P hP => ⟨?_, (w.tabs.tb P hP).2⟩, fun x hx => ?_⟩, k F (upd H a ob') o' B' (fun _ h => h) ke r' d1, fun x p z => p.elim (fun p => d2 x p z) fun p => w.dj x (s2 x p) z, fun x p z => p.elim (fun p => d3 x p z) fun p => w.at_ x (s2 x p) z, fun x p => p.elim (tr x) fun p => ?_⟩
  · have : P ≠ a := fun z => w.at_ a (s1 a ba) (by rw [← z]; exact hP)
    obtain ⟨ps, e, q⟩ := (w.tabs.tb P hP).1
    exact ⟨ps, by rw [upd_ne this]; exact e, q⟩
  · by_cases z : x = a
    · rw [z, upd_same]; simp
    · rw [upd_ne z]; exact w.tabs.live x hx
  · by_cases z : x = a
    · rw [z, upd_same]; simp
    · rw [upd_ne z]; exact w.tr x (s2 x p)
theorem upd_step (at_ : Dj A T.tab) {a : Addr} {ob ob' : HO} (ha : A a) (hob : H a = some ob) (nst : ¬ stab ob) {A'' : AS} (l : ∀ x, A'' x → A x) : Step T F H A F (upd H a ob') A'' := by
  refine ⟨fun b o hb nt na => ?_, fun _ h => h, fun _ h => .inl h, fun x h => .inl (l x h)⟩
  have : b ≠ a := fun z => by
    subst z
    rw [hob] at hb; cases hb
    exact nst (na ha)
  rw [upd_ne this]; exact hb
/-- what is kept at a rewrite -/
theorem kpA_upd (w : Wk K T F H A σ ds) {a : Addr} {ob ob' : HO} (ha : A a) (hob : H a = some ob) (nst : ¬ stab ob) {B : AS} (n : ¬ B a) : KpA B F H (upd H a ob') := fun b o hb z => by
  have : b ≠ a := fun z' => by
    subst z'
    rcases z with z | z | z
    · exact w.dj b ha z
    · exact n z
    · rw [hob] at hb; cases hb; exact nst z
  rw [upd_ne this]; exact hb
theorem ROs.snoc {vs : List V} {os : List OV} {B : AS} (r : ROs K T F H vs os B) : ∀ {v : V} {o : OV} {C : AS}, RO K T F H v o C → Dj B C → ROs K T F H (vs ++ [v]) (os ++ [o]) (fun a => B a ∨ C a) := by
  induction os generalizing vs B with
  | nil => intro v o C q d; cases r; exact .cons (B := C) (C := fun _ => False) q .nil (fun _ _ h => h) (fun _ h => .inr h) (fun _ h => h.elim)
  | cons o1 os ih =>
    intro v o C q d
    cases r with
    | cons a b dd s1 s2 =>
      rename_i v1 vs B1 C1
      have h := ih b q (fun x p z => d x (s2 x p) z)
      refine .cons a h ?_ (fun x p => .inl (s1 x p)) (fun x p => p.elim (fun p => .inl (s2 x p)) .inr)
      rintro x p (z | z)
      · exact dd x p z
      · exact d x (s1 x p) z
theorem ROs.split {v0 : List V} {os0 : List OV} : ∀ {vs : List V} {os : List OV} {B : AS}, v0.length = os0.length → ROs K T F H (v0 ++ vs) (os0 ++ os) B → ∃ B1 C1, ROs K T F H v0 os0 B1 ∧ ROs K T F H vs os C1 ∧ Dj B1 C1 ∧ Sb B1 B ∧ Sb C1 B := by
  induction os0 generalizing v0 with
  | nil =>
    intro vs os B e r
    cases v0 with
    | nil => exact ⟨fun _ => False, B, .nil, r, fun _ h => h.elim, fun _ h => h.elim, fun _ h => h⟩
    | cons => cases e
  | cons o os0 ih =>
    intro vs os B e r
    cases v0 with
    | nil => cases e
    | cons v v0 =>
      cases r with
      | cons a b d s1 s2 =>
        rename_i B2 C2
        obtain ⟨B1, C1, h1, h2, h3, h4, h5⟩ := ih (by simpa using e) b
        refine ⟨fun x => B2 x ∨ B1 x, C1, .cons a h1 (fun x p q => d x p (h4 x q)) (fun _ h => .inl h) (fun _ h => .inr h), h2, fun x p q => p.elim (fun p => d x p (h5 x q)) fun p => h3 x p q, fun x p => p.elim (s1 x) fun p => s2 x (h4 x p), fun x p => s2 x (h5 x p)⟩
/-- one item is taken out -/
theorem ROs.cut {vs : List V} {os : List OV} {B : AS} (r : ROs K T F H vs os B) : ∀ {i : Nat} {o : OV}, os[i]? = some o → ∃ v B1 C1, vs[i]? = some v ∧ RO K T F H v o B1 ∧ ROs K T F H (vs.eraseIdx i) (os.eraseIdx i) C1 ∧ Dj B1 C1 ∧ Sb B1 B ∧ Sb C1 B := by
  induction os generalizing vs B with
  | nil => intro i o h; simp at h
  | cons o1 os ih =>
    intro i o h
    cases r with
    | cons a b d s1 s2 =>
      rename_i v1 vs B2 C2
      cases i with
      | zero => simp at h; subst h; exact ⟨v1, B2, C2, rfl, a, b, d, s1, s2⟩
      | succ i =>
        obtain ⟨v, B1, C1, h1, h2, h3, h4, h5, h6⟩ := ih b (i := i) (o := o) (by simpa using h)
        refine ⟨v, B1, fun x => B2 x ∨ C1 x, by simpa using h1, h2, .cons a h3 (fun x p q => d x p (h6 x q)) (fun _ h => .inl h) (fun _ h => .inr h), ?_, fun x p => s2 x (h5 x p), fun x p => p.elim (s1 x) fun p => s2 x (h6 x p)⟩
        rintro x p (z | z)
        · exact d x z (h5 x p)
        · exact h4 x p z
/-- one item is replaced -/
theorem ROs.put {vs : List V} {os : List OV} {B : AS} (r : ROs K T F H vs os B) : ∀ {i : Nat} {v : V} {o : OV} {C : AS}, RO K T F H v o C → Dj B C → ROs K T F H (vs.set i v) (os.set i o) (fun a => B a ∨ C a) := by
  induction os generalizing vs B with
  | nil => intro i v o C q d; cases r; exact .nil
  | cons o1 os ih =>
    intro i v o C q d
    cases r with
    | cons a b dd s1 s2 =>
      rename_i v1 vs B2 C2
      cases i with
      | zero => exact .cons q b (fun x p z => d x (s2 x z) p) (fun x p => .inr p) (fun x p => .inl (s2 x p))
      | succ i =>
        have h := ih b (i := i) q (fun x p z => d x (s2 x p) z)
        refine .cons a h ?_ (fun x p => .inl (s1 x p)) (fun x p => p.elim (fun p => .inl (s2 x p)) .inr)
        rintro x p (z | z)
        · exact dd x p z
        · exact d x (s1 x p) z
end
end DL
set_option Elab.async false
set_option linter.all false
set_option maxRecDepth 100000
set_option maxHeartbeats 4000000
/-! The D layer, 14: lists and instances are changed. -/
namespace DL
open PySem PySem.Spec PyProof.Rows L2
section
variable {K : PySem.W.Frag} {T : Tb} {F A : AS} {H : Hp} {σ : HSt} {ds : DS}
theorem Wk.lst (w : Wk K T F H A σ ds) {q : Pl} {os : List OV} (h : atS ds q = some (.l os)) : ∃ a vs B0 C, goS H σ q = some (.ref a) ∧ H a = some (.lst vs) ∧ A a ∧ ROs K T F H vs os B0 ∧ ¬ B0 a ∧ Sb B0 A ∧ Dj B0 C ∧ ¬ C a ∧ Sb C A ∧
    ∀ vs' os' B', ROs K T F H vs' os' B' → ¬ B' a → Dj B' C → Dj B' F → Dj B' T.tab → (∀ x, B' x → H x ≠ none) → Wk K T F (upd H a (.lst vs')) (fun x => (x = a ∨ B' x) ∨ C x) σ (putS ds q (.l os')) := by
  obtain ⟨v1, B, C, g, r, d, s1, s2, k⟩ := w.foc h
  cases r with
  | @l a vs _ _ B0 ha m rs sb nb =>
    refine ⟨a, vs, B0, C, g, ha, s1 a m, rs, nb, fun x p => s1 x (sb x p), fun x p z => d x (sb x p) z, fun z => d a m z, s2, fun vs' os' B' r' n' d1 d2 d3 tr => ?_⟩
    have nst : ¬ stab (.lst vs) := fun z => z
    have r2 : ROs K T F (upd H a (.lst vs')) vs' os' B' := r'.mono (fun _ h => h) (kpA_upd w (s1 a m) ha nst n')
    refine k a _ _ _ _ m ha nst (.l upd_same (.inl rfl) r2 (fun x p => .inr p) n') (fun x p z => p.elim (fun p => d a m (by rw [← p]; exact z)) fun p => d1 x p z) (fun x p z => p.elim (fun p => w.dj a (s1 a m) (by rw [← p]; exact z)) fun p => d2 x p z)
      (fun x p z => p.elim (fun p => w.at_ a (s1 a m) (by rw [← p]; exact z)) fun p => d3 x p z) (fun x p => ?_)
    by_cases z : x = a
    · rw [z, upd_same]; simp
    · rw [upd_ne z]; exact tr x (p.resolve_left z)
theorem Wk.ob (w : Wk K T F H A σ ds) {q : Pl} {c : Nat} {os : List OV} (h : atS ds q = some (.o c os)) : ∃ a dx fvs B0 C, goS H σ q = some (.ref a) ∧ H a = some (.ins (T.ca c) dx fvs) ∧ fvs.map (·.1) = (T.fn c).take os.length ∧ A a ∧ ROs K T F H (fvs.map (·.2)) os B0 ∧ ¬ B0 a ∧ Sb B0 A ∧ Dj B0 C ∧ ¬ C a ∧ Sb C A ∧
    ∀ fvs' os' B', fvs'.map (·.1) = (T.fn c).take os'.length → ROs K T F H (fvs'.map (·.2)) os' B' → ¬ B' a → Dj B' C → Dj B' F → Dj B' T.tab → (∀ x, B' x → H x ≠ none) → Wk K T F (upd H a (.ins (T.ca c) dx fvs')) (fun x => (x = a ∨ B' x) ∨ C x) σ (putS ds q (.o c os')) := by
  obtain ⟨v1, B, C, g, r, d, s1, s2, k⟩ := w.foc h
  cases r with
  | @o a dx _ fvs _ _ B0 ha m en rs sb nb =>
    refine ⟨a, dx, fvs, B0, C, g, ha, en, s1 a m, rs, nb, fun x p => s1 x (sb x p), fun x p z => d x (sb x p) z, fun z => d a m z, s2, fun vs' os' B' en' r' n' d1 d2 d3 tr => ?_⟩
    have nst : ¬ stab (.ins (T.ca c) dx fvs) := fun z => z
    have r2 : ROs K T F (upd H a (.ins (T.ca c) dx vs')) (vs'.map (·.2)) os' B' := r'.mono (fun _ h => h) (kpA_upd w (s1 a m) ha nst n')
    refine k a _ _ _ _ m ha nst (.o upd_same (.inl rfl) en' r2 (fun x p => .inr p) n') (fun x p z => p.elim (fun p => d a m (by rw [← p]; exact z)) fun p => d1 x p z) (fun x p z => p.elim (fun p => w.dj a (s1 a m) (by rw [← p]; exact z)) fun p => d2 x p z)
      (fun x p z => p.elim (fun p => w.at_ a (s1 a m) (by rw [← p]; exact z)) fun p => d3 x p z) (fun x p => ?_)
    by_cases z : x = a
    · rw [z, upd_same]; simp
    · rw [upd_ne z]; exact tr x (p.resolve_left z)
theorem Ext.back {T : Tb} {F F' : AS} {H H' : Hp} (e : Ext T F H F' H') (t : Tabs T F' H') {a : Addr} (h : H' a = none) : H a = none := by
  cases z : H a with
  | none => rfl
  | some ob =>
    by_cases y : T.tab a
    · exact absurd h (t.tr y)
    · rw [e.keep a ob z y] at h; cases h
theorem Ext.stepOf {T : Tb} {F F' A A' : AS} {H H' : Hp} (e : Ext T F H F' H') (l : ∀ a, A' a → A a ∨ H a = none) : Step T F H A F' H' A' := ⟨fun a o h n _ => e.keep a o h n, e.sub, fun a h => (e.new a h).elim .inl fun h => .inr (.inr h), l⟩
/-- what a pushed thing and the rest are -/
theorem Wk.parts {v : V} {o : OV} (w : Wk K T F H A (some v :: σ) (some o :: ds)) : ∃ B C, RO K T F H v o B ∧ Wk K T F H C σ ds ∧ Dj B C ∧ Sb B A ∧ Sb C A := by
  have h := w.rel
  cases h with
  | so a b d s1 s2 => exact ⟨_, _, a, ⟨w.tabs, b, fun x p z => w.dj x (s2 x p) z, fun x p z => w.at_ x (s2 x p) z, fun x p => w.tr x (s2 x p)⟩, d, s1, s2⟩
theorem ROs.len {vs : List V} {os : List OV} {B : AS} (r : ROs K T F H vs os B) : vs.length = os.length := by
  induction os generalizing vs B with
  | nil => cases r; rfl
  | cons o os ih => cases r with | cons a b _ _ _ => simp [ih b]
end
section
variable {X : Cx} {T : Tb} {W : WX}
/-! ### append -/
def sAppend (fq : SPl) (fe : SO) : SO := fun ds => (fq ds).bind fun q => match atS ds q with
  | some (.l _) => (fe ds).bind fun p => match atS p.2 q with
    | some (.l os) => if os.length < sizeLine then .ok (.z .non, putS p.2 q (.l (os ++ [p.1]))) else .bad
    | _ => .bad
  | _ => .bad
theorem do_append {o e : PySem.Expr} {fq : SPl} {fe : SO} {apos cpos : Pos} (ho : DPl X T W o fq) (he : DM X T W e fe)
    (hbase : attributeBase o "append" X.env (eval o X.env) = eval o X.env := by rfl)
    (hfew : ((backTo cpos (starEach [e] X.env)).all (fun x => !x.1) && (backToKw cpos (keywordEach [] X.env)).all (fun x => x.1.isSome)
      && decide (([e] : List PySem.Expr).length + ([] : List Keyword).length + (if ([] : List Keyword).isEmpty then 0 else 1) < 30)) = true := by rfl)
    (hline : (apos.endLine == cpos.line) = true := by rfl) (hs : starEach [e] X.env = (false, eval e X.env) :: starEach [] X.env := by rfl) : DO X T W (.Call (.Attribute o "append" apos) [e] [] cpos) (sAppend fq fe) :=
  PE.imp (pe_bm PySem.F.plainAttrs_list PySem.F.slot_list_append PySem.F.type_list_append mt_append ho (pa_cons he pa_nil hs) hbase hfew hline hs rfl) fun σ H Q ⟨F, A, ds, w, p⟩ => by
    unfold sAppend at p
    refine ⟨F, A, ds, w, ?_⟩
    cases eq : fq ds with
    | bad => rw [eq] at p; exact p.elim
    | exc c fs => rw [eq] at p; exact fun cls d F' H' e t rx => p cls d F' H' A e.step (w.ext e t).forget rx
    | ok q =>
      rw [eq] at p
      intro v F1 H1 e1 t1 g1
      simp only [R.bind] at p
      split at p
      · rename_i os0 h0
        obtain ⟨a, vs, _, _, g2, ha, _⟩ := (w.ext e1 t1).lst h0
        rw [g1] at g2; cases g2
        refine ⟨.inl ⟨rfl, _, .of ha⟩, F1, A, ds, w.ext e1 t1, ?_⟩
        cases ee : fe ds with
        | bad => simp only [ee] at p; exact p.elim
        | exc c fs => simp only [ee] at p; exact fun cls d F2 H2 e2 t2 rx => p cls d F2 H2 A (e1.trans t1 e2).step ((w.ext e1 t1).ext e2 t2).forget rx
        | ok r =>
          obtain ⟨o', ds'⟩ := r
          simp only [ee] at p
          intro y F2 H2 A2 e2 l2 w2
          split at p
          · rename_i os h1
            split at p
            · rename_i hl
              obtain ⟨Be, C0, ro, w3, dj, s1, s2⟩ := w2.parts
              obtain ⟨a', vs', B0, C, g3, ha', aa, rs, nb, sb, d1, nc, sc, k⟩ := w3.lst h1
              have g1' := stab_goS t1 e2 g1
              rw [g3] at g1'; cases g1'
              refine ⟨_, _, y, rfl, rfl, ha', by rw [rs.len]; exact hl, ?_⟩
              have k' := k _ _ _ (rs.snoc ro fun x p z => dj x z (sb x p)) (fun z => z.elim nb fun z => dj a z aa) (fun x p z => p.elim (fun p => d1 x p z) fun p => dj x p (sc x z)) (fun x p z => p.elim (fun p => w3.dj x (sb x p) z) fun p => w2.dj x (s1 x p) z) (fun x p z => p.elim (fun p => w3.at_ x (sb x p) z) fun p => w2.at_ x (s1 x p) z) (fun x p => p.elim (fun p => w3.tr x (sb x p)) fun p => w2.tr x (s1 x p))
              have st := upd_step (F := F2) (ob' := .lst (vs' ++ [y])) (A'' := fun x => (x = a ∨ (B0 x ∨ Be x)) ∨ C x) w2.at_ (s2 a aa) ha' (fun z => z) (fun x p => p.elim (fun p => p.elim (fun p => by rw [p]; exact s2 a aa) fun p => p.elim (fun p => s2 x (sb x p)) (s1 x)) fun p => s2 x (sc x p))
              have e12 : Step T F H A F2 H2 A2 := (e1.trans t1 e2).stepOf fun a h => (l2 a h).elim .inl fun h => .inr (e1.back t1 h)
              exact p _ F2 _ _ (e12.trans w2.tabs st) (k'.pushz .non)
            · exact p.elim
          · exact p.elim
      · exact p.elim

/-! ### pop -/
def sPopI (fq : SPl) (fi : SE) : SO := fun ds => (fq ds).bind fun q => match atS ds q with
  | some (.l os) => (fi ds).bind fun p => match p with
    | .z (.int i) => match seqIndex? i os.length with
      | some k => match os[k]? with
        | some o => if -(2 ^ 63) ≤ i ∧ i < 2 ^ 63 then .ok (o, putS ds q (.l (os.eraseIdx k))) else .bad
        | none => .bad
      | none => .bad
    | _ => .bad
  | _ => .bad
def sPop (fq : SPl) : SO := fun ds => (fq ds).bind fun q => match atS ds q with
  | some (.l os) => match os[os.length - 1]? with
    | some o => .ok (o, putS ds q (.l os.dropLast))
    | none => .bad
  | _ => .bad
theorem eraseIdx_last {α : Type} (l : List α) : l.eraseIdx (l.length - 1) = l.dropLast := by
  induction l with
  | nil => rfl
  | cons a l ih =>
    cases l with
    | nil => rfl
    | cons b l => simp only [List.length_cons, Nat.add_sub_cancel] at ih ⊢; rw [List.eraseIdx_cons_succ, ih]; rfl
theorem pop_core {K : PySem.W.Frag} {F A : AS} {H : Hp} {σ : HSt} {ds : DS} {Q : VK} {q : Pl} {os : List OV} {k : Nat} {o : OV} {v : V} (w : Wk K T F H A σ ds) (g : goS H σ q = some v) (h : atS ds q = some (.l os)) (ho : os[k]? = some o)
    (p : ∀ v F' H' A', Step T F H A F' H' A' → Wk K T F' H' A' (some v :: σ) (some o :: putS ds q (.l (os.eraseIdx k))) → Q v H') : ∃ a vs y, v = .ref a ∧ H a = some (.lst vs) ∧ vs.length = os.length ∧ vs[k]? = some y ∧ Q y (upd H a (.lst (vs.eraseIdx k))) := by
  obtain ⟨a, vs, B0, C, g3, ha, aa, rs, nb, sb, d1, nc, sc, kk⟩ := w.lst h
  rw [g] at g3; cases g3
  obtain ⟨y, B1, C1, hy, ro, rs', dj, s1, s2⟩ := rs.cut ho
  refine ⟨a, vs, y, rfl, ha, rs.len, hy, ?_⟩
  have k' := kk _ _ _ rs' (fun z => nb (s2 a z)) (fun x p z => d1 x (s2 x p) z) (fun x p z => w.dj x (sb x (s2 x p)) z) (fun x p z => w.at_ x (sb x (s2 x p)) z) (fun x p => w.tr x (sb x (s2 x p)))
  have ro' : RO K T F (upd H a (.lst (vs.eraseIdx k))) y o B1 := ro.mono (fun _ h => h) (kpA_upd w aa ha (fun z => z) fun z => nb (s1 a z))
  have w4 := k'.push ro' (fun x p z => z.elim (fun z => z.elim (fun z => nb (by rw [← z]; exact s1 x p)) (dj x p)) (d1 x (s1 x p))) (fun x p z => w.dj x (sb x (s1 x p)) z) (fun x p z => w.at_ x (sb x (s1 x p)) z) (fun x p => by
    by_cases z : x = a
    · rw [z, upd_same]; simp
    · rw [upd_ne z]; exact w.tr x (sb x (s1 x p)))
  refine p y F _ _ (upd_step w.at_ aa ha (fun z => z) (fun x p => ?_)) w4
  rcases p with p | (p | p) | p
  · exact sb x (s1 x p)
  · rw [p]; exact aa
  · exact sb x (s2 x p)
  · exact sc x p
theorem do_popI {o e : PySem.Expr} {fq : SPl} {fe : SE} {apos cpos : Pos} (ho : DPl X T W o fq) (he : DE X T W e fe)
    (hbase : attributeBase o "pop" X.env (eval o X.env) = eval o X.env := by rfl)
    (hfew : ((backTo cpos (starEach [e] X.env)).all (fun x => !x.1) && (backToKw cpos (keywordEach [] X.env)).all (fun x => x.1.isSome)
      && decide (([e] : List PySem.Expr).length + ([] : List Keyword).length + (if ([] : List Keyword).isEmpty then 0 else 1) < 30)) = true := by rfl)
    (hline : (apos.endLine == cpos.line) = true := by rfl) (hs : starEach [e] X.env = (false, eval e X.env) :: starEach [] X.env := by rfl) : DO X T W (.Call (.Attribute o "pop" apos) [e] [] cpos) (sPopI fq fe) :=
  PE.imp (pe_bm PySem.F.plainAttrs_list PySem.F.slot_list_pop PySem.F.type_list_pop mt_popAt ho (pa_cons he pa_nil hs) hbase hfew hline hs rfl) fun σ H Q ⟨F, A, ds, w, p⟩ => by
    unfold sPopI at p
    refine ⟨F, A, ds, w, ?_⟩
    cases eq : fq ds with
    | bad => rw [eq] at p; exact p.elim
    | exc c fs => rw [eq] at p; exact fun cls d F' H' e t rx => p cls d F' H' A e.step (w.ext e t).forget rx
    | ok q =>
      rw [eq] at p
      intro v F1 H1 e1 t1 g1
      simp only [R.bind] at p
      split at p
      · rename_i os h0
        obtain ⟨a, vs, _, _, g2, ha, _⟩ := (w.ext e1 t1).lst h0
        have g1' := g1
        rw [g1] at g2; cases g2
        refine ⟨.inl ⟨rfl, _, .of ha⟩, F1, A, ds, w.ext e1 t1, ?_⟩
        cases ee : fe ds with
        | bad => simp only [ee] at p; exact p.elim
        | exc c fs => simp only [ee] at p; exact fun cls d F2 H2 e2 t2 rx => p cls d F2 H2 A (e1.trans t1 e2).step ((w.ext e1 t1).ext e2 t2).forget rx
        | ok r =>
          simp only [ee] at p
          intro y F2 H2 e2 t2 r2
          split at p
          · rename_i i
            have ry : y = .int i := r2.int
            split at p
            · rename_i k hk
              split at p
              · rename_i o' ho'
                split at p
                · rename_i hb
                  obtain ⟨a', vs', y', ev, ha', hl, hy, q⟩ := pop_core (Q := Q) ((w.ext e1 t1).ext e2 t2) (stab_goS t1 e2 g1) h0 ho' (fun v F' H' A' s w' => p v F' H' A' ((e1.trans t1 e2).step.trans t2 s) w')
                  cases ev
                  exact ⟨_, _, i, k, y', rfl, by rw [ry], ha', hb.1, hb.2, by rw [hl]; exact hk, hy, q⟩
                · exact p.elim
              · exact p.elim
            · exact p.elim
          · exact p.elim
      · exact p.elim
theorem do_pop {o : PySem.Expr} {fq : SPl} {apos cpos : Pos} (ho : DPl X T W o fq)
    (hbase : attributeBase o "pop" X.env (eval o X.env) = eval o X.env := by rfl) (hline : (apos.endLine == cpos.line) = true := by rfl) : DO X T W (.Call (.Attribute o "pop" apos) [] [] cpos) (sPop fq) :=
  PE.imp (pe_bm0 PySem.F.plainAttrs_list PySem.F.slot_list_pop PySem.F.type_list_pop mt_pop ho hbase hline) fun σ H Q ⟨F, A, ds, w, p⟩ => by
    unfold sPop at p
    refine ⟨F, A, ds, w, ?_⟩
    cases eq : fq ds with
    | bad => rw [eq] at p; exact p.elim
    | exc c fs => rw [eq] at p; exact fun cls d F' H' e t rx => p cls d F' H' A e.step (w.ext e t).forget rx
    | ok q =>
      rw [eq] at p
      intro v F1 H1 e1 t1 g1
      simp only [R.bind] at p
      split at p
      · rename_i os h0
        split at p
        · rename_i o' ho'
          rw [← eraseIdx_last] at p
          obtain ⟨a', vs', y', ev, ha', hl, hy, q⟩ := pop_core (Q := Q) (w.ext e1 t1) g1 h0 ho' (fun v F' H' A' s w' => p v F' H' A' (e1.step.trans t1 s) w')
          cases ev
          refine ⟨.inl ⟨rfl, _, .of ha'⟩, _, _, y', rfl, rfl, ha', by rw [hl]; exact hy, ?_⟩
          rw [← hl, eraseIdx_last] at q
          exact q
        · exact p.elim
      · exact p.elim
end
end DL
set_option Elab.async false
set_option linter.all false
set_option maxRecDepth 100000
set_option maxHeartbeats 4000000
/-! The D layer, 15: items and fields are set. -/
namespace DL
open PySem PySem.Spec PyProof.Rows L2
section
variable {K : PySem.W.Frag} {T : Tb} {F A A1 : AS} {H H1 : Hp} {σ : HSt} {ds ds1 : DS}
/-- an item or a field of what is owned becomes a thing at hand -/
theorem put_l {F1 C0 : AS} {v : V} {o : OV} {Be : AS} {D' : Hp → Prop} {q : Pl} {os : List OV} {a : Addr} {vs : List V} {j : Nat} (t : Tabs T F H) (s : Step T F H A F1 H1 A1) (w : Wk K T F1 H1 C0 σ ds1) (ro : RO K T F1 H1 v o Be) (dj : Dj Be C0) (dF : Dj Be F1) (dT : Dj Be T.tab) (tr : ∀ x, Be x → H1 x ≠ none) (s1 : Sb Be A1) (s2 : Sb C0 A1) (at_ : Dj A1 T.tab)
    (h : atS ds1 q = some (.l os)) (g : goS H1 σ q = some (.ref a)) (ha : H1 a = some (.lst vs)) (p : ∀ F' H' A', Step T F H A F' H' A' → Wk K T F' H' A' σ (putS ds1 q (.l (os.set j o))) → D' H') : D' (upd H1 a (.lst (vs.set j v))) := by
  obtain ⟨a', vs', B0, C, g3, ha', aa, rs, nb, sb, d1, nc, sc, k⟩ := w.lst h
  rw [g] at g3; cases g3
  rw [ha] at ha'; cases ha'
  have k' := k _ _ _ (rs.put (i := j) ro fun x p z => dj x z (sb x p)) (fun z => z.elim nb fun z => dj a z aa) (fun x p z => p.elim (fun p => d1 x p z) fun p => dj x p (sc x z)) (fun x p z => p.elim (fun p => w.dj x (sb x p) z) fun p => dF x p z) (fun x p z => p.elim (fun p => w.at_ x (sb x p) z) fun p => dT x p z) (fun x p => p.elim (fun p => w.tr x (sb x p)) fun p => tr x p)
  have st := upd_step (F := F1) (ob' := .lst (vs.set j v)) (A'' := fun x => (x = a ∨ (B0 x ∨ Be x)) ∨ C x) at_ (s2 a aa) ha (fun z => z) (fun x p => p.elim (fun p => p.elim (fun p => by rw [p]; exact s2 a aa) fun p => p.elim (fun p => s2 x (sb x p)) (s1 x)) fun p => s2 x (sc x p))
  exact p F1 _ _ (s.trans w.tabs st) k'
def setF (os : List OV) (p : Nat) (o : OV) : List OV := if p < os.length then os.set p o else os ++ [o]
theorem putF_fst {f : Str} {y : V} : ∀ {fvs : List (Str × V)} {names : List Str} {p : Nat}, fvs.map (·.1) = names.take fvs.length → names.Nodup → names[p]? = some f → p < fvs.length → (putF f y fvs).map (·.1) = fvs.map (·.1) ∧ (putF f y fvs).map (·.2) = (fvs.map (·.2)).set p y
  | [], _, _, _, _, _, h => by simp at h
  | (g, x) :: r, [], _, h, _, _, _ => by simp at h
  | (g, x) :: r, n :: ns, 0, h, nd, hp, hl => by
    simp at h hp
    obtain ⟨rfl, _⟩ := h
    subst hp
    simp [putF]
  | (g, x) :: r, n :: ns, p + 1, h, nd, hp, hl => by
    simp at h hp
    obtain ⟨rfl, h⟩ := h
    have ne : ¬ g = f := fun z => (List.nodup_cons.mp nd).1 (z ▸ List.mem_of_getElem? hp)
    obtain ⟨h1, h2⟩ := putF_fst (y := y) h (List.nodup_cons.mp nd).2 hp (by simpa using hl)
    simp only [putF, if_neg ne, List.map_cons, h1, h2, List.set_cons_succ, and_self]
theorem putF_new {f : Str} {y : V} : ∀ {fvs : List (Str × V)} {names : List Str}, fvs.map (·.1) = names.take fvs.length → names.Nodup → names[fvs.length]? = some f → (putF f y fvs).map (·.1) = names.take (fvs.length + 1) ∧ (putF f y fvs).map (·.2) = fvs.map (·.2) ++ [y]
  | [], names, _, _, hp => by
    cases names with
    | nil => simp at hp
    | cons n ns => simp at hp; subst hp; simp [putF]
  | (g, x) :: r, [], h, _, _ => by simp at h
  | (g, x) :: r, n :: ns, h, nd, hp => by
    simp at h hp
    obtain ⟨rfl, h⟩ := h
    have ne : ¬ g = f := fun z => (List.nodup_cons.mp nd).1 (z ▸ List.mem_of_getElem? hp)
    obtain ⟨h1, h2⟩ := putF_new (y := y) h (List.nodup_cons.mp nd).2 hp
    simp [putF, if_neg ne, h1, h2]
theorem put_f {F1 C0 : AS} {v : V} {o : OV} {Be : AS} {D' : Hp → Prop} {q : Pl} {c p : Nat} {f : Str} {os : List OV} {a dx : Addr} {fvs : List (Str × V)} (nd : (T.fn c).Nodup) (hp : (T.fn c)[p]? = some f) (t : Tabs T F H) (s : Step T F H A F1 H1 A1) (w : Wk K T F1 H1 C0 σ ds1) (ro : RO K T F1 H1 v o Be) (dj : Dj Be C0) (dF : Dj Be F1) (dT : Dj Be T.tab) (tr : ∀ x, Be x → H1 x ≠ none) (s1 : Sb Be A1) (s2 : Sb C0 A1) (at_ : Dj A1 T.tab)
    (h : atS ds1 q = some (.o c os)) (hl : p ≤ os.length) (g : goS H1 σ q = some (.ref a)) (ha : H1 a = some (.ins (T.ca c) dx fvs)) (k : ∀ F' H' A', Step T F H A F' H' A' → Wk K T F' H' A' σ (putS ds1 q (.o c (setF os p o))) → D' H') : D' (upd H1 a (.ins (T.ca c) dx (putF f v fvs))) := by
  obtain ⟨a', dx', fvs', B0, C, g3, ha', en, aa, rs, nb, sb, d1, nc, sc, kk⟩ := w.ob h
  rw [g] at g3; cases g3
  rw [ha] at ha'; cases ha'
  have hlen : fvs.length = os.length := by have := rs.len; simpa using this
  have key : (putF f v fvs).map (·.1) = (T.fn c).take (setF os p o).length ∧ ROs K T F1 H1 ((putF f v fvs).map (·.2)) (setF os p o) (fun x => B0 x ∨ Be x) := by
    unfold setF
    by_cases hlt : p < os.length
    · rw [if_pos hlt]
      obtain ⟨h1, h2⟩ := putF_fst (y := v) (by rw [hlen]; exact en) nd hp (by omega)
      rw [h1, h2, List.length_set]
      exact ⟨en, rs.put (i := p) ro fun x p z => dj x z (sb x p)⟩
    · rw [if_neg hlt]
      have e : p = fvs.length := by omega
      subst e
      obtain ⟨h1, h2⟩ := putF_new (y := v) (by rw [hlen]; exact en) nd hp
      rw [h1, h2, List.length_append, List.length_singleton, hlen]
      exact ⟨rfl, rs.snoc ro fun x p z => dj x z (sb x p)⟩
  have k' := kk _ _ _ key.1 key.2 (fun z => z.elim nb fun z => dj a z aa) (fun x p z => p.elim (fun p => d1 x p z) fun p => dj x p (sc x z)) (fun x p z => p.elim (fun p => w.dj x (sb x p) z) fun p => dF x p z) (fun x p z => p.elim (fun p => w.at_ x (sb x p) z) fun p => dT x p z) (fun x p => p.elim (fun p => w.tr x (sb x p)) fun p => tr x p)
  have st := upd_step (F := F1) (ob' := .ins (T.ca c) dx (putF f v fvs)) (A'' := fun x => (x = a ∨ (B0 x ∨ Be x)) ∨ C x) at_ (s2 a aa) ha (fun z => z) (fun x p => p.elim (fun p => p.elim (fun p => by rw [p]; exact s2 a aa) fun p => p.elim (fun p => s2 x (sb x p)) (s1 x)) fun p => s2 x (sc x p))
  exact k F1 _ _ (s.trans w.tabs st) k'
end
section
variable {X : Cx} {T : Tb} {W : WX}
/-! ### xs[i] = e -/
def sIxSet (fe : SO) (fq : SPl) (fi : SE) : SS := fun ds => bindS ds (fe ds) fun p => bindS p.2 (fq p.2) fun q => match atS p.2 q with
  | some (.l os) => bindS p.2 (fi p.2) fun ix => match ix with
    | .z (.int k) => match ixN os.length k with
      | some j => .nx (putS p.2 q (.l (os.set j p.1)))
      | none => .bad
    | _ => .bad
  | _ => .bad
theorem st_ixset {o i e : PySem.Expr} {fe : SO} {fq : SPl} {fi : SE} {tpos pos : Pos} (he : DO X T W e fe) (ho : DPl X T W o fq) (hi : DE X T W i fi) (hs : swapsWithSole [.Subscript o i tpos] e pos.line X.env = pure false := by rfl) (hw : swappedStores [.Subscript o i tpos] e X.env = pure none := by rfl)
    (h1 : (assignEach [.Subscript o i tpos] X.env).map (·.2) = [assign (.Subscript o i tpos) X.env] := by rfl)
    (ha : ∀ v, assign (.Subscript o i tpos) X.env v = (do
      let ov ← holding [v] (eval o X.env)
      let iv ← holding [v, ov] (eval i X.env)
      standAt tpos
      holding [v, ov, iv] (setItem ov iv v)
      release [v, ov, iv] []) := by intro _; rfl) : SSt X T W (.Assign [.Subscript o i tpos] e pos) [] (sIxSet fe fq fi) :=
  PS.imp (ps_asg he (pg_sub ho hi set_list ha) hs hw h1) fun D σ H ⟨F, A, ds, w, p⟩ => by
    unfold sIxSet at p
    refine ⟨F, A, ds, w, ?_⟩
    cases ee : fe ds with
    | bad => rw [ee] at p; exact p.elim
    | exc c fs => rw [ee] at p; exact fun cls d F' H' A' s w' rx => p cls d σ F' H' A' s w' rx
    | ok r =>
      obtain ⟨o', ds'⟩ := r
      rw [ee] at p
      intro v F1 H1 A1 s1 w1
      obtain ⟨Be, C0, ro, w2, dj, sb1, sb2⟩ := w1.parts
      refine ⟨F1, C0, ds', w2, ?_⟩
      simp only [bindS] at p
      cases eq : fq ds' with
      | bad => rw [eq] at p; exact p.elim
      | exc c fs => rw [eq] at p; exact fun cls d F' H' e t rx => p cls d σ F' H' C0 ((s1.trans w1.tabs e.step).less sb2) (w2.ext e t).forget rx
      | ok q =>
        rw [eq] at p
        intro x F2 H2 e2 t2 g2
        simp only at p
        split at p
        · rename_i os h0
          obtain ⟨a, vs, _, _, g3, ha, aa, _⟩ := (w2.ext e2 t2).lst h0
          rw [g2] at g3; cases g3
          refine ⟨F2, C0, ds', w2.ext e2 t2, ?_⟩
          cases ei : fi ds' with
          | bad => rw [ei] at p; exact p.elim
          | exc c fs => rw [ei] at p; exact fun cls d F' H' e t rx => p cls d σ F' H' C0 ((s1.trans w1.tabs (e2.trans t2 e).step).less sb2) ((w2.ext e2 t2).ext e t).forget rx
          | ok ix =>
            rw [ei] at p
            intro y F3 H3 e3 t3 r3
            simp only at p
            split at p
            · rename_i k
              have ry : y = .int k := r3.int
              split at p
              · rename_i j hj
                have e13 := e2.trans t2 e3
                have w3 := w2.ext e13 t3
                obtain ⟨a', vs', _, _, g4, ha', _, rs', _⟩ := w3.lst h0
                have g2' := stab_goS t2 e3 g2
                rw [g2'] at g4; cases g4
                have dT : Dj Be T.tab := fun x p z => w1.at_ x (sb1 x p) z
                refine ⟨a, vs', k, j, rfl, ry, ha', by rw [rs'.len]; exact hj, ?_⟩
                exact put_l (D' := fun H' => D.nx σ H') w.tabs (s1.trans w1.tabs e13.step) w3 (e13.ro w1.tabs dT ro) dj (fun x p z => (e13.new x z).elim (fun z => w1.dj x (sb1 x p) z) fun z => w1.tr x (sb1 x p) z) dT (fun x p => by
                  cases zz : H1 x with
                  | none => exact absurd zz (w1.tr x (sb1 x p))
                  | some ob => rw [e13.keep x ob zz (dT x p)]; simp) sb1 sb2 w1.at_ h0 g2' ha' fun F' H' A' s' w' => p σ F' H' A' .refl s' w'
              · exact p.elim
            · exact p.elim
        · exact p.elim

/-! ### o.f = e -/
def sFSet (c p : Nat) (fe : SO) (fq : SPl) : SS := fun ds => bindS ds (fe ds) fun r => bindS r.2 (fq r.2) fun q => match atS r.2 q with
  | some (.o c' os) => if c' = c ∧ p ≤ os.length ∧ os.length < 1000 then .nx (putS r.2 q (.o c (setF os p r.1))) else .bad
  | _ => .bad
theorem st_fset {o e : PySem.Expr} {f : Str} {fe : SO} {fq : SPl} {tpos pos : Pos} (c p : Nat) (fd : Fd X T c p f) (he : DO X T W e fe) (ho : DPl X T W o fq) (hs : swapsWith e (some (.Attribute o f tpos)) pos.line X.env = pure false := by rfl) : SSt X T W (.Assign [.Attribute o f tpos] e pos) [] (sFSet c p fe fq) :=
  PS.imp (ps_fld ho he hs) fun D σ H ⟨F, A, ds, w, h⟩ => by
    unfold sFSet at h
    refine ⟨F, A, ds, w, ?_⟩
    cases ee : fe ds with
    | bad => rw [ee] at h; exact h.elim
    | exc c fs => rw [ee] at h; exact fun cls d F' H' A' s w' rx => h cls d σ F' H' A' s w' rx
    | ok r =>
      obtain ⟨o', ds'⟩ := r
      rw [ee] at h
      intro v F1 H1 A1 s1 w1
      obtain ⟨Be, C0, ro, w2, dj, sb1, sb2⟩ := w1.parts
      refine ⟨F1, C0, ds', w2, ?_⟩
      simp only [bindS] at h
      cases eq : fq ds' with
      | bad => rw [eq] at h; exact h.elim
      | exc c fs => rw [eq] at h; exact fun cls d F' H' e t rx => h cls d σ F' H' C0 ((s1.trans w1.tabs e.step).less sb2) (w2.ext e t).forget rx
      | ok q =>
        rw [eq] at h
        intro x F2 H2 e2 t2 g2
        simp only at h
        split at h
        · rename_i c' os h0
          split at h
          · rename_i hc
            obtain ⟨hc, hl, hm⟩ := hc
            subst hc
            have w3 := w2.ext e2 t2
            obtain ⟨a, dx, fvs, _, _, g3, ha, en, aa, rs, _⟩ := w3.ob h0
            have g2' := g2
            rw [g2] at g3; cases g3
            have hlen : fvs.length = os.length := by have := rs.len; simpa using this
            have dT : Dj Be T.tab := fun x p z => w1.at_ x (sb1 x p) z
            refine ⟨a, _, dx, fvs, rfl, ha, fd.cl, fd.na, by omega, ?_⟩
            exact put_f (D' := fun H' => D.nx σ H') fd.nd fd.hp w.tabs (s1.trans w1.tabs e2.step) w3 (e2.ro w1.tabs dT ro) dj (fun x p z => (e2.new x z).elim (fun z => w1.dj x (sb1 x p) z) fun z => w1.tr x (sb1 x p) z) dT (fun x p => by
              cases zz : H1 x with
              | none => exact absurd zz (w1.tr x (sb1 x p))
              | some ob => rw [e2.keep x ob zz (dT x p)]; simp) sb1 sb2 w1.at_ h0 hl g2' ha fun F' H' A' s' w' => h σ F' H' A' .refl s' w'
          · exact h.elim
        · exact h.elim

/-! ### n op= e, whole numbers -/
def sAug (op : Int → Int → Int) (i : Nat) (f : SE) : SS := fun ds => match ds[i]? with
  | some (some (.z (.int a))) => bindS ds (f ds) fun r => match r with
    | .z (.int b) => .nx (ds.set i (some (.z (.int (op a b)))))
    | _ => .bad
  | _ => .bad
theorem st_aug {e : PySem.Expr} {x : Str} {f : SE} {o : Operator} {op : Int → Int → Int} {tpos pos : Pos} (i : Nat) (hN : X.N.Nodup) (hop : PIp X o (ipI op)) (he : DE X T W e f) (hi : X.N[i]? = some x := by rfl) (hx : Loc X.env.scope x := by first | exact Or.inl rfl | exact Or.inr rfl)
    (hf : X.fn x = true ∨ X.env.scope.names.lookup x = some .local := by first | exact .inl rfl | exact .inr rfl | assumption) : SSt X T W (.AugAssign (.Name x tpos) o e pos) [i] (sAug op i f) :=
  PS.imp (ps_aug hN hi hx he hop hf) fun D σ H ⟨F, A, ds, w, p⟩ => by
    unfold sAug at p
    split at p
    · rename_i a ea
      obtain ⟨v, h1, h2⟩ := w.rel.get ea
      have ev : v = .int a := h2.int
      refine ⟨v, h1, F, A, ds, w, ?_⟩
      cases ef : f ds with
      | bad => rw [ef] at p; exact p.elim
      | exc c fs => rw [ef] at p; exact fun cls d F' H' e t rx => p cls d σ F' H' A e.step (w.ext e t).forget rx
      | ok r =>
        rw [ef] at p
        intro y F1 H1 e1 t1 r1
        simp only [bindS] at p
        split at p
        · rename_i b
          refine ⟨a, b, ev, r1.int, ?_⟩
          exact p _ F1 H1 A .set e1.step (((w.ext e1 t1).pushz (.int _)).popi i)
        · exact p.elim
    · exact p.elim
/-! ### extend -/
def sExtend (fq : SPl) (fe : SE) : SO := fun ds => (fq ds).bind fun q => match atS ds q with
  | some (.l os) => (fe ds).bind fun p => match p.lst? with
    | some xs => if os.length + xs.length ≤ sizeLine then .ok (.z .non, putS ds q (.l (os ++ xs.map .z))) else .bad
    | none => .bad
  | _ => .bad
theorem ROs.app {K : PySem.W.Frag} {F : AS} {H : Hp} {vs : List V} {os : List OV} {B : AS} (r : ROs K T F H vs os B) {ws : List V} {xs : List D} (q : Reps K T F H ws xs) : ROs K T F H (vs ++ ws) (os ++ xs.map .z) B := by
  induction os generalizing vs B with
  | nil => cases r; exact .ofReps q
  | cons o os ih => cases r with | cons a b d s1 s2 => exact .cons a (ih b) d s1 s2
theorem do_extend {o e : PySem.Expr} {fq : SPl} {fe : SE} {apos cpos : Pos} (ho : DPl X T W o fq) (he : DE X T W e fe)
    (hbase : attributeBase o "extend" X.env (eval o X.env) = eval o X.env := by rfl)
    (hfew : ((backTo cpos (starEach [e] X.env)).all (fun x => !x.1) && (backToKw cpos (keywordEach [] X.env)).all (fun x => x.1.isSome)
      && decide (([e] : List PySem.Expr).length + ([] : List Keyword).length + (if ([] : List Keyword).isEmpty then 0 else 1) < 30)) = true := by rfl)
    (hline : (apos.endLine == cpos.line) = true := by rfl) (hs : starEach [e] X.env = (false, eval e X.env) :: starEach [] X.env := by rfl) : DO X T W (.Call (.Attribute o "extend" apos) [e] [] cpos) (sExtend fq fe) :=
  PE.imp (pe_bm PySem.F.plainAttrs_list PySem.F.slot_list_extend PySem.F.type_list_extend mt_extend ho (pa_cons he pa_nil hs) hbase hfew hline hs rfl) fun σ H Q ⟨F, A, ds, w, p⟩ => by
    unfold sExtend at p
    refine ⟨F, A, ds, w, ?_⟩
    cases eq : fq ds with
    | bad => rw [eq] at p; exact p.elim
    | exc c fs => rw [eq] at p; exact fun cls d F' H' e t rx => p cls d F' H' A e.step (w.ext e t).forget rx
    | ok q =>
      rw [eq] at p
      intro v F1 H1 e1 t1 g1
      simp only [R.bind] at p
      split at p
      · rename_i os h0
        obtain ⟨a, vs, _, _, g2, ha, _⟩ := (w.ext e1 t1).lst h0
        have g1' := g1
        rw [g1] at g2; cases g2
        refine ⟨.inl ⟨rfl, _, .of ha⟩, F1, A, ds, w.ext e1 t1, ?_⟩
        cases ee : fe ds with
        | bad => simp only [ee] at p; exact p.elim
        | exc c fs => simp only [ee] at p; exact fun cls d F2 H2 e2 t2 rx => p cls d F2 H2 A (e1.trans t1 e2).step ((w.ext e1 t1).ext e2 t2).forget rx
        | ok r =>
          simp only [ee] at p
          intro y F2 H2 e2 t2 r2
          split at p
          · rename_i xs hx
            split at p
            · rename_i hl
              obtain ⟨b, zs, rfl, hb, rz⟩ := r2.lst? hx
              have w3 := (w.ext e1 t1).ext e2 t2
              obtain ⟨a', vs', B0, C, g3, ha', aa, rs, nb, sb, d1, nc, sc, k⟩ := w3.lst h0
              have g1' := stab_goS t1 e2 g1
              rw [g3] at g1'; cases g1'
              have hlz : zs.length = xs.length := reps_len rz
              refine ⟨_, b, _, zs, rfl, rfl, ha', hb, by rw [rs.len, hlz]; exact hl, ?_⟩
              have k' := k _ _ _ (rs.app rz) nb d1 (fun x p z => w3.dj x (sb x p) z) (fun x p z => w3.at_ x (sb x p) z) (fun x p => w3.tr x (sb x p))
              have st := upd_step (F := F2) (ob' := .lst (vs' ++ zs)) (A'' := fun x => (x = a ∨ B0 x) ∨ C x) w3.at_ aa ha' (fun z => z) (fun x p => p.elim (fun p => p.elim (fun p => by rw [p]; exact aa) (sb x)) (sc x))
              exact p _ F2 _ _ ((e1.trans t1 e2).step.trans w3.tabs st) (k'.pushz .non)
            · exact p.elim
          · exact p.elim
      · exact p.elim
end
end DL
set_option Elab.async false
set_option linter.all false
set_option maxRecDepth 100000
set_option maxHeartbeats 4000000
/-! The D layer, 16: list comprehensions. -/
namespace DL
open PySem PySem.Spec PyProof.Rows L2

/-- within a comprehension nothing is raised -/
abbrev W0 : WX := fun _ _ _ _ => False
def DBs (X : Cx) (T : Tb) (es : List PySem.Expr) (f : SB) : Prop := PTs X es (liftB X.K T W0 f)
def bYes : SB := fun _ => .ok true
theorem dbs_nil {X : Cx} {T : Tb} : DBs X T [] bYes := ⟨fun pins s σ H Q I ⟨F, A, ds, w, p⟩ => pts_nil.run pins s σ H Q I (p F H .refl w.tabs)⟩
theorem dbs_one {X : Cx} {T : Tb} {e : PySem.Expr} {f : SB} (h : DB X T W0 e f) : DBs X T [e] f := pts_one h
def wipeD (ds : DS) : List Nat → DS
  | [] => ds
  | v :: vs => (wipeD ds vs).set v none
section
variable {K : PySem.W.Frag} {T : Tb} {F A : AS} {H : Hp} {σ : HSt} {ds : DS}
theorem RelS.drop2 (r : RelS K T F H σ ds A) (i : Nat) : RelS K T F H (σ.set i none) (ds.set i none) A := by
  induction r generalizing i with
  | nil => exact .nil
  | no b ih =>
    cases i with
    | zero => exact .no b
    | succ i => exact .no (ih i)
  | so a b d t1 t2 ih =>
    cases i with
    | zero => exact .no (b.up t2)
    | succ i => exact .so a (ih i) d t1 t2
theorem RelS.wipe (r : RelS K T F H σ ds A) (vs : List Nat) : RelS K T F H (L2.wipe σ vs) (wipeD ds vs) A := by
  induction vs with
  | nil => exact r
  | cons v vs ih => exact ih.drop2 v
theorem Wk.wipe (w : Wk K T F H A σ ds) (vs : List Nat) : Wk K T F H A (L2.wipe σ vs) (wipeD ds vs) := ⟨w.tabs, w.rel.wipe vs, w.dj, w.at_, w.tr⟩
theorem wipe_get (σ : HSt) : ∀ (vs : List Nat) (i : Nat), (L2.wipe σ vs)[i]? = if i ∈ vs ∧ i < σ.length then some none else σ[i]?
  | [], i => by simp [L2.wipe]
  | v :: vs, i => by
    rw [L2.wipe, List.getElem?_set, wipe_get σ vs i, L2.wipe_length]
    by_cases h : v = i
    · subst h
      by_cases h2 : v < σ.length
      · simp [h2]
      · simp [h2, List.getElem?_eq_none (Nat.le_of_not_lt h2)]
    · have : ¬ i = v := fun z => h z.symm
      simp [h, this]
theorem wipe_kw {vs w : List Nat} (hw : ∀ i ∈ w, i ∈ vs) {σ σ2 : HSt} (k : Kw w (L2.wipe σ vs) σ2) : L2.wipe σ2 vs = L2.wipe σ vs := by
  have hl : ∀ i, i ∉ w → σ2[i]? = (L2.wipe σ vs)[i]? := k.at_
  have len : σ2.length = σ.length := by rw [k.len, L2.wipe_length]
  apply List.ext_getElem?
  intro i
  rw [wipe_get, wipe_get, len]
  by_cases h : i ∈ vs ∧ i < σ.length
  · rw [if_pos h, if_pos h]
  · rw [if_neg h, if_neg h]
    by_cases h2 : i ∈ vs
    · have : ¬ i < σ.length := fun z => h ⟨h2, z⟩
      rw [List.getElem?_eq_none (by omega), List.getElem?_eq_none (by omega)]
    · rw [hl i fun z => h2 (hw i z), wipe_get, if_neg h]
end
def compL (g : SZ) (t : SB) (fe : SF) (dsw : DS) : List D → R (List OV)
  | [] => .ok []
  | x :: xs => match g x dsw with
    | none => .bad
    | some ds1 => (t ds1).bind fun b => if b then (fe ds1).bind fun o => (compL g t fe dsw xs).bind fun os => .ok (o :: os) else compL g t fe dsw xs
def sLc (it : SI) (g : SZ) (t : SB) (fe : SF) (vs : List Nat) : SF := fun ds => (it ds).bind fun xs => match compL g t fe (wipeD ds vs) xs with
  | .ok os => if os.length ≤ sizeLine then .ok (.l os) else .bad
  | _ => .bad
theorem lift_lc {K : PySem.W.Frag} {T : Tb} {W : WX} {σ : HSt} {H : Hp} {Q : VK} {it : SI} {g : SZ} {t : SB} {fe : SF} {vs w : List Nat} (hw : ∀ i ∈ w, i ∈ vs) (p : liftF K T W (sLc it g t fe vs) σ H Q) :
    tLc (liftIA K T W it) (liftZ K T w g) (liftB K T W0 t) (liftF K T W0 fe) vs σ H Q := by
  obtain ⟨F, A, ds, wk, p⟩ := p
  unfold sLc at p
  refine ⟨F, A, ds, wk, ?_⟩
  cases ei : it ds with
  | bad => rw [ei] at p; exact p.elim
  | exc c fs => rw [ei] at p; exact p
  | ok xs =>
    rw [ei] at p
    intro J F1 H1 e1 t1 itd D hD
    simp only [R.bind] at p
    split at p
    · rename_i os hos
      split at p
      · rename_i hlen
        have notab : ¬ T.tab D := fun z => t1.tr z hD
        refine ⟨fun i m H' => m = xs.length - i ∧ i ≤ xs.length ∧ ∃ F' B vacc oacc, Ext T F1 H1 F' H' ∧ Tabs T F' H' ∧ H' D = some (.lst vacc) ∧ ROs K T F' H' vacc oacc B ∧ ¬ B D ∧ ¬ F' D ∧ (∀ b, B b → H1 b = none ∧ H' b ≠ none) ∧ Dj B F' ∧ ∃ orest, compL g t fe (wipeD ds vs) (xs.drop i) = .ok orest ∧ oacc ++ orest = os,
          ⟨xs.length, by simp, Nat.zero_le _, F1, fun _ => False, [], [], ?_, ?_, upd_same, .nil, fun h => h, fun h => t1.live D h hD, fun _ h => h.elim, fun _ h => h.elim, os, by simpa using hos, rfl⟩, ?_⟩
        · exact (alloc_ext t1 hD (fun _ h => h) fun _ h => .inl h).1
        · exact (alloc_ext t1 hD (fun _ h => h) fun _ h => .inl h).2
        · rintro i m H' ⟨rfl, hi, F', B, vacc, oacc, e, tt, hd, ro, nB, nF, fr, dj, orest, hc, happ⟩
          by_cases hlt : i < xs.length
          · have hx : xs[i]? = some xs[i] := by simp [hlt]
            obtain ⟨go, yl⟩ := (itd F' H' e.sub (e.kpA t1 wk.at_) tt i).1 _ hx
            refine .inr ⟨go, fun H2 => i + 1 ≤ xs.length ∧ ∃ F' B vacc oacc, Ext T F1 H1 F' H2 ∧ Tabs T F' H2 ∧ H2 D = some (.lst vacc) ∧ ROs K T F' H2 vacc oacc B ∧ ¬ B D ∧ ¬ F' D ∧ (∀ b, B b → H1 b = none ∧ H2 b ≠ none) ∧ Dj B F' ∧ ∃ orest, compL g t fe (wipeD ds vs) (xs.drop (i + 1)) = .ok orest ∧ oacc ++ orest = os,
              fun H2 h => ⟨xs.length - (i + 1), by omega, rfl, h⟩, fun x H3 y => ?_⟩
            obtain ⟨e3, t3, r3⟩ := yl x H3 y
            have wk3 : Wk K T F' H3 A σ ds := ((wk.ext e1 t1).ext e tt).ext e3 t3
            refine ⟨F', A, xs[i], wipeD ds vs, wk3.wipe vs, r3, ?_⟩
            rw [List.drop_eq_getElem_cons hlt] at hc
            simp only [compL] at hc
            cases eg : g xs[i] (wipeD ds vs) with
            | none => rw [eg] at hc; cases hc
            | some ds1 =>
              rw [eg] at hc
              simp only at hc ⊢
              intro σ2 k2 w2
              refine ⟨wipe_kw hw k2, F', A, ds1, w2, ?_⟩
              have Btab : Dj B T.tab := fun b p z => t1.tr z (fr b p).1
              cases et : t ds1 with
              | bad => rw [et] at hc; cases hc
              | exc c fs => rw [et] at hc; cases hc
              | ok b =>
                rw [et] at hc
                intro F4 H4 e4 t4
                simp only [R.bind] at hc
                have e34 := e3.trans t3 e4
                have hd4 : H4 D = some (.lst vacc) := e34.keep D _ hd notab
                have nF4 : ¬ F4 D := fun z => (e34.new D z).elim nF fun z => by rw [hd] at z; cases z
                have e14 := e.trans tt e34
                have ro4 := ro.mono e34.sub (e34.kpA tt Btab)
                have fr4 : ∀ b, B b → H1 b = none ∧ H4 b ≠ none := fun b p => ⟨(fr b p).1, by
                  cases z : H' b with
                  | none => exact absurd z (fr b p).2
                  | some ob => rw [e34.keep b ob z (Btab b p)]; simp⟩
                have dj4 : Dj B F4 := fun b p z => (e34.new b z).elim (dj b p) (fr b p).2
                cases b with
                | false => exact ⟨hlt, F4, B, vacc, oacc, e14, t4, hd4, ro4, nB, nF4, fr4, dj4, orest, hc, happ⟩
                | true =>
                  rw [if_pos rfl]
                  rw [if_pos rfl] at hc
                  refine ⟨F4, A, ds1, w2.ext e4 t4, ?_⟩
                  cases ee : fe ds1 with
                  | bad => rw [ee] at hc; cases hc
                  | exc c fs => rw [ee] at hc; cases hc
                  | ok o =>
                    rw [ee] at hc
                    intro y F5 H5 B5 e5 t5 r5 fr5 dj5
                    simp only at hc
                    cases er : compL g t fe (wipeD ds vs) (xs.drop (i + 1)) with
                    | bad => rw [er] at hc; cases hc
                    | exc c fs => rw [er] at hc; cases hc
                    | ok orest' =>
                      rw [er] at hc
                      simp only [R.ok.injEq] at hc
                      subst hc
                      have hd5 : H5 D = some (.lst vacc) := e5.keep D _ hd4 notab
                      have hvl : vacc.length = oacc.length := by
                        have : ∀ {vs : List V} {os : List OV} {B : AS}, ROs K T F' H' vs os B → vs.length = os.length := fun r => r.len
                        exact this ro
                      have hl : vacc.length < sizeLine := by
                        rw [hvl]
                        have : (oacc ++ o :: orest').length ≤ sizeLine := by rw [happ]; exact hlen
                        rw [List.length_append, List.length_cons] at this
                        omega
                      refine ⟨vacc, hd5, hl, hlt, F5, fun a => B a ∨ B5 a, vacc ++ [y], oacc ++ [o], ?_, ?_, upd_same, ?_, ?_, ?_, ?_, ?_, orest', rfl, by rw [List.append_assoc]; exact happ⟩
                      · have e15 := e14.trans t4 e5
                        exact ⟨fun a ob h n => by rw [upd_ne (ne_of_none h hD)]; exact e15.keep a ob h n, e15.sub, e15.new⟩
                      · refine ⟨fun P hP => ⟨?_, (t5.tb P hP).2⟩, fun a h => ?_⟩
                        · obtain ⟨ps, e', q⟩ := (t5.tb P hP).1
                          have : P ≠ D := fun z => notab (z ▸ hP)
                          exact ⟨ps, by rw [upd_ne this]; exact e', q⟩
                        · by_cases z : a = D
                          · rw [z, upd_same]; simp
                          · rw [upd_ne z]; exact t5.live a h
                      · have n5 : ¬ B5 D := fun z => by have := (fr5 D z).1; rw [hd4] at this; cases this
                        have nF5 : ¬ F5 D := fun z => (e5.new D z).elim nF4 fun z => by rw [hd4] at z; cases z
                        have ro5 := ro4.mono e5.sub (e5.kpA t4 Btab)
                        have r6 := ro5.snoc r5 (fun b p q => (fr4 b p).2 (fr5 b q).1)
                        refine r6.mono (fun _ h => h) fun a ob h z => ?_
                        have : a ≠ D := fun z' => by
                          subst z'
                          rcases z with z | (z | z) | z
                          · exact nF5 z
                          · exact nB z
                          · exact n5 z
                          · rw [hd5] at h; cases h; exact z
                        rw [upd_ne this]; exact h
                      · rintro (z | z)
                        · exact nB z
                        · have := (fr5 D z).1; rw [hd4] at this; cases this
                      · exact fun z => (e5.new D z).elim nF4 fun z => by rw [hd4] at z; cases z
                      · intro b p
                        have h2 : H1 b = none ∧ H5 b ≠ none := by
                          rcases p with p | p
                          · refine ⟨(fr4 b p).1, ?_⟩
                            cases z : H4 b with
                            | none => exact absurd z (fr4 b p).2
                            | some ob => rw [e5.keep b ob z (Btab b p)]; simp
                          · exact ⟨e14.back t4 (fr5 b p).1, (fr5 b p).2⟩
                        refine ⟨h2.1, ?_⟩
                        by_cases z : b = D
                        · rw [z, upd_same]; simp
                        · rw [upd_ne z]; exact h2.2
                      · intro b p z
                        rcases p with p | p
                        · exact (e5.new b z).elim (dj4 b p) (fr4 b p).2
                        · exact dj5 b p z
          · have hi' : i = xs.length := by omega
            subst hi'
            rw [List.drop_length] at hc
            simp only [compL, R.ok.injEq] at hc
            subst hc
            rw [List.append_nil] at happ
            subst happ
            refine .inl ⟨(itd F' H' e.sub (e.kpA t1 wk.at_) tt xs.length).2 (Nat.le_refl _), ?_⟩
            refine p (.ref D) F' H' (fun a => a = D ∨ B a) (e1.trans t1 e) tt (.l hd (.inl rfl) ro (fun _ h => .inr h) nB) (fun b p => ?_) fun b p z => ?_
            · rcases p with p | p
              · rw [p]; exact ⟨e1.back t1 hD, by rw [hd]; simp⟩
              · exact ⟨e1.back t1 (fr b p).1, (fr b p).2⟩
            · rcases p with p | p
              · rw [p] at z; exact nF z
              · exact dj b p z
      · exact p.elim
    · exact p.elim
section
variable {X : Cx} {T : Tb} {W : WX} {elt tg iter : PySem.Expr} {ifs : List PySem.Expr} {scope : Scope} {own : List (Str × Nat)} {pos spos py : Pos} {it : SI} {g : SZ} {t : SB} {fe : SF} {wl : List Nat}
theorem df_lc (own : List (Str × Nat)) (hc : X.calm = true) (hN : X.N.Nodup) (hi : DIA X T W tg iter it) (ok : BlkOk X.N X.env.scope scope own)
    (hg : ∀ (s : Shared) (H : Hp) (C : Addr) (cl : List (Str × Addr)) (fp : List Addr), DZ (X.blk s H scope (compEnvC scope cl C X.env) fp) T tg wl g) (ht : ∀ (s : Shared) (H : Hp) (C : Addr) (cl : List (Str × Addr)) (fp : List Addr), DBs (X.blk s H scope (compEnvC scope cl C X.env) fp) T ifs t)
    (he : ∀ (s : Shared) (H : Hp) (C : Addr) (cl : List (Str × Addr)) (fp : List Addr), DF (X.blk s H scope (compEnvC scope cl C X.env) fp) T W0 elt fe) (hw : ∀ i ∈ wl, i ∈ own.map (·.2) := by decide) (hs : ∀ x, foldedSetIterable iter X.env x = pure x := by intro _; rfl) :
    DF X T W (.ListComp elt [⟨tg, iter, ifs, 0⟩] scope pos) (sLc it g t fe (own.map (·.2))) := PE.imp (pe_lc (g := liftZ X.K T wl g) (tt := liftB X.K T W0 t) (te := liftF X.K T W0 fe) hc hN hi ok hg ht he hs) fun _ _ _ p => lift_lc hw p
theorem st_setLc (i : Nat) {y : Str} (own : List (Str × Nat)) (hc : X.calm = true) (hN : X.N.Nodup) (hsw : swapsWith (.ListComp elt [⟨tg, iter, ifs, 0⟩] scope pos) (some (.Name y py)) spos.line X.env = pure true) (hi : DIA X T W tg iter it) (ok : BlkOk X.N X.env.scope scope own)
    (hg : ∀ (s : Shared) (H : Hp) (C : Addr) (cl : List (Str × Addr)) (fp : List Addr), DZ (X.blk s H scope (compEnvC scope cl C X.env) fp) T tg wl g) (ht : ∀ (s : Shared) (H : Hp) (C : Addr) (cl : List (Str × Addr)) (fp : List Addr), DBs (X.blk s H scope (compEnvC scope cl C X.env) fp) T ifs t)
    (he : ∀ (s : Shared) (H : Hp) (C : Addr) (cl : List (Str × Addr)) (fp : List Addr), DF (X.blk s H scope (compEnvC scope cl C X.env) fp) T W0 elt fe) (hw : ∀ i ∈ wl, i ∈ own.map (·.2) := by decide) (hy : X.N[i]? = some y := by rfl) (hyl : X.env.scope.names.lookup y = some .local := by rfl) (hs : ∀ x, foldedSetIterable iter X.env x = pure x := by intro _; rfl) :
    SSt X T W (.Assign [.Name y py] (.ListComp elt [⟨tg, iter, ifs, 0⟩] scope pos) spos) [i] (sSet i (fO (sLc it g t fe (own.map (·.2))))) :=
  PS.imp (ps_setLc (g := liftZ X.K T wl g) (tt := liftB X.K T W0 t) (te := liftF X.K T W0 fe) hc hN hy hyl hsw hi ok hg ht he hs) fun D σ H p => lift_lc hw (liftF_O (lift_set p))
end
end DL
set_option Elab.async false
set_option linter.all false
set_option maxRecDepth 100000
set_option maxHeartbeats 4000000
/-! The D layer, 17: defs and their calls. -/
namespace DL
open PySem PySem.Spec PyProof.Rows L2

abbrev WEx (E : XK) : WX := fun cls d _ H => E cls d H
/-- the slots at a def's start -/
def ini (N : List Str) (os : List OV) : DS := os.map some ++ List.replicate (N.length - os.length) none
def spD (K : PySem.W.Frag) (T : Tb) (n : Nat) (N : List Str) (wl : List Nat) (S : SS) : Sp := fun vs H Q E => vs.length = n ∧ ∃ F A os, Wk K T F H A (L2.start N vs) (ini N os) ∧ os.length = vs.length ∧
  postW K T (WEx E) wl (L2.start N vs) F A H { nx := fun _ H' => Q .non H', rt := Q } (S (ini N os))
/-- a def that keeps its promise -/
structure FnD (P : Program) (w : World) (K : PySem.W.Frag) (mg : Str → Option Value) (base : Heap) (T : Tb) (k : Nat) (f : Addr) (n : Nat) (N : List Str) (wl : List Nat) (S : SS) : Prop where
  ex : ∃ fd ps, FnOk P w K mg base (L2.CX P w) k f fd ps (spD K T n N wl S) ∧ Binds K fd ps [] ∧ PySem.W.keepIn K (.ref f) = true
abbrev FnX (X : Cx) (T : Tb) (k : Nat) (f : Addr) (n : Nat) (N : List Str) (wl : List Nat) (S : SS) : Prop := FnD X.prog X.w X.K X.mg X.base T k f n N wl S
theorem fnD_of {P : Program} {w : World} {K : PySem.W.Frag} {mg : Str → Option Value} {base : Heap} {T : Tb} {k : Nat} {x qual : Str} {st : Stmt} {f : Addr} {fd : FuncData} {N ps : List Str} {wl : List Nat} {S : SS} {n : Nat} (F : Fun K x qual st f fd) (Sc : FnScope N ps (defScope st)) (hn : n = ps.length) (b : Binds K fd ps []) (kp : PySem.W.keepIn K (.ref f) = true)
    (body : ∀ (cdv : Value) (A : Around) (outer : List Env) (s : Shared) (H : Hp) (E : XK), Room k (A.deeper (envOfC qual (defScope st) s.heap.objs.size f cdv)) →
      SSs (cxOf (L2.CX P w) P w K mg base N qual (defScope st) f cdv A outer s H E) T (WEx E) (defBody st) wl S) : FnD P w K mg base T (k + 1) f n N wl S :=
  ⟨fd, ps, F.okX Sc (fun vs H Q E h => by rw [h.1, hn]) (fun cdv A outer s H vs Q E hr h => ⟨_, body cdv A outer s H E hr, by
    obtain ⟨h1, F, A, os, w, hl, p⟩ := h
    exact ⟨F, A, ini N os, w, p⟩⟩), b, kp⟩

/-! ### calls whose results own nothing of the caller's -/
def D.flat : D → Bool
  | .non => true
  | .bl _ => true
  | .int _ => true
  | .str _ => true
  | _ => false
def isZ : OV → Bool
  | .z _ => true
  | _ => false
def frzO (o : OV) : OV := .z o.pure
def resF (z : Bool) : Out → R OV
  | .rt r _ => if z then .ok r else match r with
    | .z d => if d.flat then .ok (.z d) else .bad
    | _ => .bad
  | .nx _ => .ok (.z .non)
  | .exc c fs _ => if z || fs.isEmpty then .exc c fs else .bad
  | _ => .bad
def callR (S : SS) (N : List Str) (os : List OV) : R OV := resF (os.all isZ) (S (ini N (os.map frzO)))
section
variable {K : PySem.W.Frag} {T : Tb} {F A : AS} {H : Hp} {σ : HSt}
theorem RVs.len {vs : List V} {os : List OV} (r : RVs K T F H A vs os) : vs.length = os.length := by
  induction r with
  | nil => rfl
  | cons _ _ ih => simp [ih]
theorem relS_nones : ∀ k : Nat, RelS K T F H (List.replicate k none) (List.replicate k none) A
  | 0 => .nil
  | k + 1 => .no (relS_nones k)
theorem relS_start {N : List Str} {vs : List V} {os : List OV} (l : vs.length = os.length) (r : RelS K T F H (vs.map some) (os.map some) A) : RelS K T F H (L2.start N vs) (ini N os) A := by
  unfold L2.start ini
  rw [l]
  have : ∀ {σ : HSt} {ds : DS} {A' : AS}, RelS K T F H σ ds A' → RelS K T F H (σ ++ List.replicate (N.length - os.length) none) (ds ++ List.replicate (N.length - os.length) none) A' := by
    intro σ ds A' h
    induction h with
    | nil => exact relS_nones _
    | no _ ih => exact .no ih
    | so a b d s1 s2 ih => exact .so a ih d s1 s2
  exact this r
theorem relS_z {vs : List V} {os : List OV} (r : RVs K T F H A vs os) (F' : AS) (sf : Sb F F') (h : os.all isZ = true ∨ Sb A F') : RelS K T F' H (vs.map some) ((os.map frzO).map some) (fun _ => False) := by
  induction r with
  | nil => exact .nil
  | @cons v vs o os a r ih =>
    refine .so (B := fun _ => False) (.z ?_) (ih ?_) (fun _ h => h.elim) (fun _ h => h) (fun _ h => h)
    · rcases h with h | h
      · cases a with
        | z a => exact a.mono sf fun _ _ h _ => h
        | _ => simp [isZ] at h
      · exact a.frz sf h
    · rcases h with h | h
      · simp only [List.all_cons, Bool.and_eq_true] at h; exact .inl h.2
      · exact .inr h
theorem Rep.flat {v : V} {d : D} (r : Rep K T F H v d) (h : d.flat = true) {F' : AS} {H' : Hp} : Rep K T F' H' v d := by
  cases r with
  | non => exact .non
  | bl b => exact .bl b
  | int i => exact .int i
  | str z => exact .str z
  | _ => simp [D.flat] at h
/-- the call's reading, by values -/
theorem call_core {N : List Str} {wl : List Nat} {S : SS} {n : Nat} {vs : List V} {os : List OV} {Q : VK} {E : XK} (t : Tabs T F H) (dj : Dj A F) (at_ : Dj A T.tab) (tr : ∀ a, A a → H a ≠ none) (r : RVs K T F H A vs os) (hn : os.length = n)
    (p : match callR S N os with
      | .ok o => ∀ v F' H' B, Ext T F H F' H' → Tabs T F' H' → RO K T F' H' v o B → (∀ b, B b → H b = none ∧ H' b ≠ none) → Dj B F' → Q v H'
      | .exc c fs => ∀ cls d F' H', Ext T F H F' H' → Tabs T F' H' → RepX K T F' H' cls d c fs → E cls d H'
      | .bad => False) : spD K T n N wl S vs H Q E := by
  unfold callR at p
  cases hz : os.all isZ with
  | true =>
    rw [hz] at p
    have rs := relS_z r F (fun _ h => h) (.inl hz)
    refine ⟨by rw [r.len, hn], F, fun _ => False, os.map frzO, ⟨t, relS_start (by rw [List.length_map, r.len]) rs, fun _ h => h.elim, fun _ h => h.elim, fun _ h => h.elim⟩, by rw [List.length_map, r.len], ?_⟩
    have ex : ∀ {F' H' A'}, Step T F H (fun _ => False) F' H' A' → Ext T F H F' H' := fun s => ⟨fun a o h n => s.keep a o h n fun z => z.elim, s.sub, fun a h => (s.new a h).elim .inl fun h => h.elim (fun z => z.elim) .inr⟩
    cases es : S (ini N (os.map frzO)) with
    | rt o ds' =>
      rw [es] at p
      simp only [resF, if_true] at p
      intro v σ' F' H' A' k s w'
      obtain ⟨B, C, ro, w2, d1, s1, s2⟩ := w'.parts
      refine p v F' H' B (ex s) w'.tabs ro (fun b hb => ⟨(s.own b (s1 b hb)).elim (fun z => z.elim) id, w'.tr b (s1 b hb)⟩) fun b hb z => w'.dj b (s1 b hb) z
    | nx ds' =>
      rw [es] at p
      simp only [resF] at p
      exact fun σ' F' H' A' k s w' => p .non F' H' (fun _ => False) (ex s) w'.tabs (.z .non) (fun _ h => h.elim) fun _ h => h.elim
    | exc c fs ds' =>
      rw [es] at p
      simp only [resF, Bool.true_or, if_true] at p
      exact fun cls d σ' F' H' A' s w' rx => p cls d F' H' (ex s) w'.tabs rx
    | bk _ => rw [es] at p; exact p.elim
    | ct _ => rw [es] at p; exact p.elim
    | bad => rw [es] at p; exact p.elim
  | false =>
    rw [hz] at p
    have rs := relS_z r (fun a => F a ∨ A a) (fun _ h => .inl h) (.inr fun _ h => .inr h)
    have tb : Tabs T (fun a => F a ∨ A a) H := ⟨fun P hP => ⟨(t.tb P hP).1, fun z => z.elim (t.tb P hP).2 fun z => at_ P z hP⟩, fun a h => h.elim (t.live a) (tr a)⟩
    refine ⟨by rw [r.len, hn], fun a => F a ∨ A a, fun _ => False, os.map frzO, ⟨tb, relS_start (by rw [List.length_map, r.len]) rs, fun _ h => h.elim, fun _ h => h.elim, fun _ h => h.elim⟩, by rw [List.length_map, r.len], ?_⟩
    have ex : ∀ {F' H' A'}, Step T (fun a => F a ∨ A a) H (fun _ => False) F' H' A' → Ext T F H F H' := fun s => ⟨fun a o h n => s.keep a o h n fun z => z.elim, fun _ h => h, fun a h => .inl h⟩
    have tb' : ∀ {F' H' A'}, Step T (fun a => F a ∨ A a) H (fun _ => False) F' H' A' → Tabs T F' H' → Tabs T F H' := fun s t' => ⟨fun P hP => ⟨(t'.tb P hP).1, (t.tb P hP).2⟩, fun a h => t'.live a (s.sub a (.inl h))⟩
    cases es : S (ini N (os.map frzO)) with
    | rt o ds' =>
      rw [es] at p
      intro v σ' F' H' A' k s w'
      obtain ⟨B, C, ro, w2, d1, s1, s2⟩ := w'.parts
      cases o with
      | z d =>
        simp only [resF, Bool.false_eq_true, if_false] at p
        cases hf : d.flat with
        | true =>
          rw [hf] at p
          simp only [if_true] at p
          cases ro with | z ro => exact p v F H' (fun _ => False) (ex s) (tb' s w'.tabs) (.z (ro.flat hf)) (fun _ h => h.elim) fun _ h => h.elim
        | false => rw [hf] at p; exact p.elim
      | _ => exact p.elim
    | nx ds' =>
      rw [es] at p
      simp only [resF] at p
      exact fun σ' F' H' A' k s w' => p .non F H' (fun _ => False) (ex s) (tb' s w'.tabs) (.z .non) (fun _ h => h.elim) fun _ h => h.elim
    | exc c fs ds' =>
      rw [es] at p
      simp only [resF, Bool.false_or] at p
      intro cls d σ' F' H' A' s w' rx
      cases fs with
      | nil =>
        simp only [List.isEmpty_nil, if_true] at p
        refine p cls d F H' (ex s) (tb' s w'.tabs) ⟨rx.1, ?_⟩
        rcases rx.2 with h | ⟨x, fvs, h1, h2, h3, h4⟩
        · exact .inl h
        · cases hm : fvs with
          | nil => rw [hm] at h2 h3; exact .inr ⟨x, [], h1, h2, h3, .nil⟩
          | cons f r => rw [hm] at h4; cases h4
      | cons f r => exact p.elim
    | bk _ => rw [es] at p; exact p.elim
    | ct _ => rw [es] at p; exact p.elim
    | bad => rw [es] at p; exact p.elim
end

/-! ### f(..) -/
def sCallD (S : SS) (N : List Str) (fa : SA) : SF := fun ds => (fa ds).bind fun os => callR S N os
theorem lift_callD {K : PySem.W.Frag} {T : Tb} {W : WX} {N : List Str} {wl : List Nat} {S : SS} {n : Nat} {fa : SA} {σ : HSt} {H : Hp} {Q : VK} (hn : ∀ ds os, fa ds = .ok os → os.length = n) (p : liftF K T W (sCallD S N fa) σ H Q) : tCallS (spD K T n N wl S) (WE W) (liftA K T W fa) σ H Q := by
  obtain ⟨F, A, ds, w, p⟩ := p
  unfold sCallD at p
  refine ⟨F, A, ds, w, ?_⟩
  cases ea : fa ds with
  | bad => rw [ea] at p; exact p.elim
  | exc c fs => rw [ea] at p; exact p
  | ok os =>
    rw [ea] at p
    intro vs F1 H1 e1 t1 r1
    have w1 := w.ext e1 t1
    refine call_core (A := A) t1 w1.dj w1.at_ w1.tr r1 (hn ds os ea) ?_
    simp only [R.bind] at p
    cases ec : callR S N os with
    | ok o =>
      rw [ec] at p
      exact fun v F' H' B e t ro fr dj => p v F' H' B (e1.trans t1 e) t ro (fun b hb => ⟨e1.back t1 (fr b hb).1, (fr b hb).2⟩) dj
    | exc c fs =>
      rw [ec] at p
      exact fun cls d F' H' e t rx => p cls d F' H' (e1.trans t1 e) t rx
    | bad => rw [ec] at p; exact p.elim
/-- the number of the arguments -/
def aLen (n : Nat) (fa : SA) : Prop := ∀ ds os, fa ds = .ok os → os.length = n
theorem aLen_nil : aLen 0 aNil := fun ds os h => by cases h; rfl
theorem aLen_cons {n : Nat} {f : SE} {g : SA} (h : aLen n g) : aLen (n + 1) (aCons f g) := fun ds os e => by
  unfold aCons at e
  cases h1 : f ds with
  | bad => rw [h1] at e; cases e
  | exc c fs => rw [h1] at e; cases e
  | ok o =>
    rw [h1] at e
    cases h2 : g ds with
    | bad => simp [R.bind, h2] at e
    | exc c fs => simp [R.bind, h2] at e
    | ok os' =>
      simp [R.bind, h2] at e
      rw [← e, List.length_cons, h ds os' h2]
section
variable {X : Cx} {T : Tb} {W : WX}
theorem df_call {x : Str} {f : Addr} {k n : Nat} {N : List Str} {wl : List Nat} {S : SS} {e : PySem.Expr} {es : List PySem.Expr} {fa : SA} {p pos : Pos} (G : FnX X T k f n N wl S) (hm : X.mg x = some (.ref f)) (hr : Room k X.A) (tk : Takes X W) (ha : DA X T W (e :: es) fa) (hl : aLen n fa)
    (hg : Gl X x := by rfl) (hdb : (x == ("__debug__" : Str)) = false := by decide) (he : starEach (e :: es) X.env = (false, eval e X.env) :: starEach es X.env := by rfl) (hpl : (backTo pos (starEach es X.env)).any (·.1) = false := by rfl) :
    DF X T W (.Call (.Name x p) (e :: es) [] pos) (sCallD S N fa) := by
  obtain ⟨fd, ps, F, b, kp⟩ := G.ex
  exact PE.imp (pe_callS F hr hg hm kp b (fun σ => passAt tk σ) ha hdb he hpl) fun _ _ _ p => lift_callD hl p
end
end DL
set_option Elab.async false
set_option linter.all false
set_option maxRecDepth 100000
set_option maxHeartbeats 4000000
/-! The D layer, 18: methods, makers, calls that change what they are handed. -/
namespace DL
open PySem PySem.Spec PyProof.Rows L2

def tMethS (C : Addr) (m : Str) (sp : Sp) (E : HSt → XK) (ta : TE) (t : TA) : TE := fun σ H Q => ta σ H fun x H1 => ∃ a dx fs, x = .ref a ∧ H1 a = some (.ins C dx fs) ∧ fs.lookup m = none ∧ t σ H1 fun vs H2 => sp (x :: vs) H2 Q (E σ)
def tMakeS (C : Addr) (sp : Sp) (E : HSt → XK) (t : TA) : TE := fun σ H Q => t σ H fun vs H1 => ∀ x dx, H1 x = none → H1 dx = none → dx ≠ x → sp (.ref x :: vs) (upd (upd H1 dx (.own x)) x (.ins C dx [])) (fun v H2 => v = .non ∧ Q (.ref x) H2) (E σ)
section
variable {X : Cx} {CX : CXT} {k : Nat} {f C : Addr} {fd : FuncData} {ps : List Str} {sp : Sp} {E : HSt → XK} {x m : Str} {p pos apos : Pos} {e o : PySem.Expr} {es : List PySem.Expr} {ta : TE} {t : TA}
theorem pe_methS {pl : Sem Bool} (he : PE X o ta) (c : Cls X.K C) (hm : Meth X.K C m f) (F : FnOk X.prog X.w X.K X.mg X.base CX k f fd ps sp) (hr : Room k X.A) (hb : Binds X.K fd ps []) (hx : ∀ σ, PassesAt CX X σ (E σ)) (ha : PA X (e :: es) t)
    (hst : starEach (e :: es) X.env = (false, eval e X.env) :: starEach es X.env := by rfl) (hpl : (backTo pos (starEach es X.env)).any (·.1) = false := by rfl)
    (ht : eval (.Call (.Attribute o m apos) (e :: es) [] pos) X.env = (do
      let ov ← eval o X.env
      standAt apos.atName
      let (f, first) ← holding [ov] (getMethod ov m pl)
      callWith pos f first (backTo pos (starEach (e :: es) X.env)) (backToKw pos (keywordEach [] X.env))) := by rfl) :
    PE X (.Call (.Attribute o m apos) (e :: es) [] pos) (tMethS C m sp E ta t) := by
  refine ⟨fun pins s σ H Q I h => ?_⟩
  refine PySem.W.methodCall_KW (pl := pl) (thn (he.run pins s σ H _ I h) fun u s1 ⟨x, H1, I1, rx, a, dx, fs, ex, ea, l, q⟩ => ?_) ht
  subst ex
  obtain rfl : u = Value.ref a := rx
  refine getmeth_ok I1 ea c hm l ?_
  refine PySem.W.callWith_K (first := [.ref a]) (h₀ := X.base) I.ok.mod.kin hm.kp (thn (ha.run pos pins s1 σ H1 _ I1 q) fun us s2 ⟨vs, H2, I2, r, q2⟩ => ⟨I2.kIn, ?_⟩) hst hpl
  exact run_fnS (us := .ref a :: us) (vs := .ref a :: vs) F hr hb (hx σ) I2 (.cons rfl r) q2
theorem pe_meth0S {pl : Sem Bool} (he : PE X o ta) (c : Cls X.K C) (hm : Meth X.K C m f) (F : FnOk X.prog X.w X.K X.mg X.base CX k f fd ps sp) (hr : Room k X.A) (hb : Binds X.K fd ps []) (hx : ∀ σ, PassesAt CX X σ (E σ))
    (ht : eval (.Call (.Attribute o m apos) [] [] pos) X.env = (do
      let ov ← eval o X.env
      standAt apos.atName
      let (f, first) ← holding [ov] (getMethod ov m pl)
      callWith pos f first (backTo pos (starEach [] X.env)) (backToKw pos (keywordEach [] X.env))) := by rfl) :
    PE X (.Call (.Attribute o m apos) [] [] pos) (tMethS C m sp E ta tNil) := by
  refine ⟨fun pins s σ H Q I h => ?_⟩
  refine PySem.W.methodCall_KW (pl := pl) (thn (he.run pins s σ H _ I h) fun u s1 ⟨x, H1, I1, rx, a, dx, fs, ex, ea, l, q⟩ => ?_) ht
  subst ex
  obtain rfl : u = Value.ref a := rx
  refine getmeth_ok I1 ea c hm l ?_
  exact PySem.W.callWith_K0 (first := [.ref a]) I1.kIn hm.kp (run_fnS (us := [.ref a]) (vs := [.ref a]) F hr hb (hx σ) I1 (.cons rfl .nil) q)
theorem run_makeS {pins : List (Addr × Obj)} {σ : HSt} {H : Hp} {s : Shared} {Q : VK} {us : List Value} {vs : List V} (M : Mk X.K C f) (F : FnOk X.prog X.w X.K X.mg X.base CX k f fd ps sp) (hr : Room (k + 1) X.A) (hb : Binds X.K fd ps [])
    (hx : PassesAt CX X σ (E σ)) (I : Inv X pins σ H s) (r : Vals vs us)
    (h : ∀ x dx, H x = none → H dx = none → dx ≠ x → sp (.ref x :: vs) (upd (upd H dx (.own x)) x (.ins C dx [])) (fun v H2 => v = .non ∧ Q (.ref x) H2) (E σ)) :
    wpAny (model X.prog X.w) X.A (call (.ref C) us) (EP X pins σ Q) X.xe s := by
  have hq := h (s.heap.objs.size + 1) s.heap.objs.size (I.hok.fresh (Nat.le_succ _)) (I.hok.fresh (Nat.le_refl _)) (Nat.ne_of_lt (Nat.lt_succ_self _))
  have I2 := Inv.made (C := C) I
  have r2 : Vals (V.ref (s.heap.objs.size + 1) :: vs) (Value.ref (s.heap.objs.size + 1) :: us) := .cons rfl r
  have hl : ((Value.ref (s.heap.objs.size + 1) :: us) ++ ([] : List Value)).length = ps.length := by
    have e := r2.length
    rw [F.len _ _ _ _ hq] at e
    rw [List.append_nil]
    exact e.symm
  have hb2 := hb _ (Value.ref (s.heap.objs.size + 1) :: us) I2.kIn hl
  rw [List.append_nil] at hb2
  refine wpAny_call (make_map (f := f) I.kIn M.makes M.init (beq_iff_eq.mp M.fn) (codeAny_mono (F.run _ X.stack _ _ ⟨Value.ref (s.heap.objs.size + 1) :: us, []⟩ (Value.ref (s.heap.objs.size + 1) :: us) _ _ (E σ) (hr.make C us [])
    (I2.env0.make C us []) hb2 r2 hq) fun r s' hq' => ?_))
  cases r with
  | error e => exact hx pins _ _ e s' I2 hq'
  | ok fl =>
    cases fl with
    | ret u =>
      obtain ⟨v, H', I3, rv, ev, q3⟩ := I2.after hq'
      subst ev
      exact ⟨rv, ⟨V.ref (s.heap.objs.size + 1), H', I3, rfl, q3⟩⟩
    | next => exact False.elim hq'
    | brk => exact False.elim hq'
    | cont => exact False.elim hq'
theorem pe_makeS (M : Mk X.K C f) (F : FnOk X.prog X.w X.K X.mg X.base CX k f fd ps sp) (hr : Room (k + 1) X.A) (hg : Gl X x) (hm : X.mg x = some (.ref C)) (hb : Binds X.K fd ps []) (hx : ∀ σ, PassesAt CX X σ (E σ))
    (ha : PA X (e :: es) t) (hdb : (x == ("__debug__" : Str)) = false := by decide) (he : starEach (e :: es) X.env = (false, eval e X.env) :: starEach es X.env := by rfl) (hpl : (backTo pos (starEach es X.env)).any (·.1) = false := by rfl) :
    PE X (.Call (.Name x p) (e :: es) [] pos) (tMakeS C sp E t) := by
  refine ⟨fun pins s σ H Q I h => ?_⟩
  refine wpAny_Call_Name_kw (ld_glob I hg hm ?_ hdb)
  refine PySem.W.callWith_K (h₀ := X.base) I.ok.mod.kin M.kp (thn (ha.run pos pins s σ H _ I h) fun us s1 ⟨vs, H1, I1, r, q⟩ => ⟨I1.kIn, ?_⟩) he hpl
  exact run_makeS M F hr hb (hx σ) I1 r q
theorem pe_make0S (M : Mk X.K C f) (F : FnOk X.prog X.w X.K X.mg X.base CX k f fd ps sp) (hr : Room (k + 1) X.A) (hg : Gl X x) (hm : X.mg x = some (.ref C)) (hb : Binds X.K fd ps []) (hx : ∀ σ, PassesAt CX X σ (E σ))
    (hdb : (x == ("__debug__" : Str)) = false := by decide) : PE X (.Call (.Name x p) [] [] pos) (tMakeS C sp E tNil) := by
  refine ⟨fun pins s σ H Q I h => ?_⟩
  refine wpAny_Call_Name_kw (ld_glob I hg hm ?_ hdb)
  exact PySem.W.callWith_K0 I.kIn M.kp (run_makeS (us := []) M F hr hb (hx σ) I .nil h)
end

/-! ### o.m(..), o looked at -/
def isC (c : Nat) : OV → Bool
  | .z (.obj c' _) => c' == c
  | .o c' _ => c' == c
  | _ => false
def sMethD (c : Nat) (S : SS) (N : List Str) (fo : SE) (fa : SA) : SF := fun ds => (fo ds).bind fun o => if isC c o then (fa ds).bind fun os => callR S N (o :: os) else .bad
theorem lookup_no {m : Str} : ∀ {fvs : List (Str × V)} {names : List Str} {n : Nat}, fvs.map (·.1) = names.take n → m ∉ names → fvs.lookup m = none
  | [], _, _, _, _ => rfl
  | (g, x) :: r, [], n, h, _ => by simp at h
  | (g, x) :: r, a :: ns, 0, h, _ => by simp at h
  | (g, x) :: r, a :: ns, n + 1, h, hm => by
    simp at h hm
    obtain ⟨rfl, h⟩ := h
    have : (m == g) = false := by simpa using hm.1
    simp only [List.lookup, this]
    exact lookup_no h hm.2
theorem isC_ins {K : PySem.W.Frag} {T : Tb} {F A : AS} {H : Hp} {v : V} {o : OV} {c : Nat} {m : Str} (r : RO K T F H v o A) (h : isC c o = true) (hm : m ∉ T.fn c) : ∃ a dx fs, v = .ref a ∧ H a = some (.ins (T.ca c) dx fs) ∧ fs.lookup m = none := by
  cases r with
  | z r =>
    cases r with
    | obj f1 h1 hn hr =>
      simp only [isC, beq_iff_eq] at h
      subst h
      exact ⟨_, _, _, rfl, h1, lookup_no hn hm⟩
    | _ => simp [isC] at h
  | o h1 m1 en rs sb nb =>
    simp only [isC, beq_iff_eq] at h
    subst h
    exact ⟨_, _, _, rfl, h1, lookup_no en hm⟩
  | _ => simp [isC] at h
theorem lift_methD {K : PySem.W.Frag} {T : Tb} {W : WX} {N : List Str} {wl : List Nat} {S : SS} {n c : Nat} {m : Str} {fo : SE} {fa : SA} {σ : HSt} {H : Hp} {Q : VK} (hm : m ∉ T.fn c) (hn : aLen n fa) (p : liftF K T W (sMethD c S N fo fa) σ H Q) :
    tMethS (T.ca c) m (spD K T (n + 1) N wl S) (WE W) (liftE K T W fo) (liftA K T W fa) σ H Q := by
  obtain ⟨F, A, ds, w, p⟩ := p
  unfold sMethD at p
  refine ⟨F, A, ds, w, ?_⟩
  cases eo : fo ds with
  | bad => rw [eo] at p; exact p.elim
  | exc c fs => rw [eo] at p; exact p
  | ok o =>
    rw [eo] at p
    intro v F1 H1 e1 t1 r1
    simp only [R.bind] at p
    split at p
    · rename_i hc
      have w1 := w.ext e1 t1
      obtain ⟨a, dx, fs, ev, ea, el⟩ := isC_ins r1 hc hm
      refine ⟨a, dx, fs, ev, ea, el, F1, A, ds, w1, ?_⟩
      cases ea : fa ds with
      | bad => rw [ea] at p; exact p.elim
      | exc c fs => rw [ea] at p; exact fun cls d F' H' e t rx => p cls d F' H' (e1.trans t1 e) t rx
      | ok os =>
        rw [ea] at p
        intro vs F2 H2 e2 t2 r2
        have w2 := w1.ext e2 t2
        refine call_core (A := A) t2 w2.dj w2.at_ w2.tr (.cons (e2.ro t1 w1.at_ r1) r2) (by rw [List.length_cons, hn ds os ea]) ?_
        have e12 := e1.trans t1 e2
        simp only at p
        cases ec : callR S N (o :: os) with
        | ok o =>
          rw [ec] at p
          exact fun v F' H' B e t ro fr dj => p v F' H' B (e12.trans t2 e) t ro (fun b hb => ⟨e12.back t2 (fr b hb).1, (fr b hb).2⟩) dj
        | exc c fs =>
          rw [ec] at p
          exact fun cls d F' H' e t rx => p cls d F' H' (e12.trans t2 e) t rx
        | bad => rw [ec] at p; exact p.elim
    · exact p.elim

/-! ### C(..) -/
def makeO : Out → R OV
  | .nx ds => match ds[0]? with
    | some (some (OV.o c fs)) => .ok (OV.o c fs)
    | _ => .bad
  | .rt (.z .non) ds => match ds[0]? with
    | some (some (OV.o c fs)) => .ok (OV.o c fs)
    | _ => .bad
  | .exc c fs _ => .exc c fs
  | _ => .bad
def sMakeD (c : Nat) (S : SS) (N : List Str) (fa : SA) : SF := fun ds => (fa ds).bind fun os => if os.all isZ then makeO (S (ini N (.o c [] :: os.map frzO))) else .bad
theorem lift_makeD {K : PySem.W.Frag} {T : Tb} {W : WX} {N : List Str} {wl : List Nat} {S : SS} {n c : Nat} {fa : SA} {σ : HSt} {H : Hp} {Q : VK} (h0 : 0 ∉ wl) (hN : 0 < N.length) (hn : aLen n fa) (p : liftF K T W (sMakeD c S N fa) σ H Q) :
    tMakeS (T.ca c) (spD K T (n + 1) N wl S) (WE W) (liftA K T W fa) σ H Q := by
  obtain ⟨F, A, ds, w, p⟩ := p
  unfold sMakeD at p
  refine ⟨F, A, ds, w, ?_⟩
  cases ea : fa ds with
  | bad => rw [ea] at p; exact p.elim
  | exc c fs => rw [ea] at p; exact p
  | ok os =>
    rw [ea] at p
    intro vs F1 H1 e1 t1 r1 x dx hx hdx nex
    simp only [R.bind] at p
    split at p
    · rename_i hz
      generalize hH2 : upd (upd H1 dx (.own x)) x (.ins (T.ca c) dx []) = H2
      have atx : H2 x = some (.ins (T.ca c) dx []) := by rw [← hH2, upd_same]
      have kept : ∀ a o, H1 a = some o → H2 a = some o := fun a o h => by
        rw [← hH2, upd_ne (ne_of_none h hx), upd_ne (ne_of_none h hdx)]; exact h
      have none2 : ∀ a, H2 a = none → H1 a = none := fun a h => by
        cases z : H1 a with
        | none => rfl
        | some o => rw [kept a o z] at h; cases h
      have t2 : Tabs T F1 H2 := ⟨fun P hP => ⟨by obtain ⟨ps, e, q⟩ := (t1.tb P hP).1; exact ⟨ps, kept P _ e, q⟩, (t1.tb P hP).2⟩, fun a h z => t1.live a h (none2 a z)⟩
      have rs := relS_z r1 F1 (fun _ h => h) (.inl hz)
      have rs2 := rs.mono (F' := F1) (H' := H2) (fun _ h => h) fun a o h _ => kept a o h
      have rx : RelS K T F1 H2 ((V.ref x :: vs).map some) ((OV.o c [] :: os.map frzO).map some) (fun a => a = x) :=
        .so (B := fun a => a = x) (.o (B := fun _ => False) atx rfl (by simp) .nil (fun _ h => h.elim) (fun h => h)) rs2 (fun _ _ h => h) (fun _ h => h) (fun _ h => h.elim)
      have hlen : (V.ref x :: vs).length = (OV.o c [] :: os.map frzO).length := by simp [r1.len]
      refine ⟨by rw [hlen]; simp [hn ds os ea], F1, fun a => a = x, OV.o c [] :: os.map frzO, ⟨t2, relS_start hlen rx, fun a h z => t1.live a z (by rw [h]; exact hx), fun a h z => t1.tr z (by rw [h]; exact hx), fun a h => by rw [h, atx]; simp⟩, hlen.symm, ?_⟩
      have s0 : (L2.start N (V.ref x :: vs))[0]? = some (some (V.ref x)) := by simp [L2.start]
      have ex : ∀ {F' H' A'}, Step T F1 H2 (fun a => a = x) F' H' A' → Ext T F H F' H' := fun {F' H' A'} s => e1.trans t1 ⟨fun a o h n => s.keep a o (kept a o h) n fun z => (by rw [z, hx] at h; cases h), s.sub, fun a h => (s.new a h).elim .inl fun h => h.elim (fun h => .inr (by rw [h]; exact hx)) fun h => .inr (none2 a h)⟩
      have fin : ∀ {c' fs σ' F' H' A' ds'}, ds'[0]? = some (some (OV.o c' fs)) → Kw wl (L2.start N (V.ref x :: vs)) σ' → Step T F1 H2 (fun a => a = x) F' H' A' → Wk K T F' H' A' σ' ds' → postF K T W F A σ H Q (.ok (.o c' fs)) → Q (.ref x) H' := fun {c' fs σ' F' H' A' ds'} hd k s w' p => by
        obtain ⟨v, B, C, h1, h2, h3, d1, s1, s2⟩ := w'.rel.take hd
        rw [k.at_ 0 h0, s0] at h1
        cases h1
        refine p (.ref x) F' H' B (ex s) w'.tabs h2 (fun b hb => ⟨?_, w'.tr b (s1 b hb)⟩) fun b hb z => w'.dj b (s1 b hb) z
        rcases s.own b (s1 b hb) with h | h
        · rw [h]; exact e1.back t1 hx
        · exact e1.back t1 (none2 b h)
      cases es : S (ini N (.o c [] :: os.map frzO)) with
      | nx ds' =>
        rw [es] at p
        simp only [makeO] at p
        intro σ' F' H' A' k s w'
        split at p
        · rename_i c' fs hd
          exact ⟨rfl, fin hd k s w' p⟩
        · exact p.elim
      | rt o ds' =>
        rw [es] at p
        intro v σ' F' H' A' k s w'
        cases o with
        | z d =>
          cases d with
          | non =>
            simp only [makeO] at p
            split at p
            · rename_i c' fs hd
              obtain ⟨B, C, ro, w2, _, _, s2⟩ := w'.parts
              refine ⟨?_, fin hd k (s.less s2) w2 p⟩
              cases ro with | z r => cases r; rfl
            · exact p.elim
          | _ => exact p.elim
        | _ => exact p.elim
      | exc c fs ds' =>
        rw [es] at p
        exact fun cls d σ' F' H' A' s w' rx => p cls d F' H' (ex s) w'.tabs rx
      | bk _ => rw [es] at p; exact p.elim
      | ct _ => rw [es] at p; exact p.elim
      | bad => rw [es] at p; exact p.elim
    · exact p.elim
section
variable {X : Cx} {T : Tb} {W : WX}
theorem df_meth {c : Nat} {m : Str} {f : Addr} {k n : Nat} {N : List Str} {wl : List Nat} {S : SS} {o e : PySem.Expr} {es : List PySem.Expr} {fo : SE} {fa : SA} {apos pos : Pos} (G : FnX X T k f (n + 1) N wl S) (cl : Cls X.K (T.ca c)) (me : Meth X.K (T.ca c) m f) (hm : m ∉ T.fn c) (hr : Room k X.A) (tk : Takes X W) (ho : DE X T W o fo) (ha : DA X T W (e :: es) fa) (hl : aLen n fa)
    {pl : Sem Bool} (hst : starEach (e :: es) X.env = (false, eval e X.env) :: starEach es X.env := by rfl) (hpl : (backTo pos (starEach es X.env)).any (·.1) = false := by rfl)
    (ht : eval (.Call (.Attribute o m apos) (e :: es) [] pos) X.env = (do
      let ov ← eval o X.env
      standAt apos.atName
      let (f, first) ← holding [ov] (getMethod ov m pl)
      callWith pos f first (backTo pos (starEach (e :: es) X.env)) (backToKw pos (keywordEach [] X.env))) := by rfl) : DF X T W (.Call (.Attribute o m apos) (e :: es) [] pos) (sMethD c S N fo fa) := by
  obtain ⟨fd, ps, F, b, kp⟩ := G.ex
  exact PE.imp (pe_methS ho cl me F hr b (fun σ => passAt tk σ) ha hst hpl ht) fun _ _ _ p => lift_methD hm hl p
theorem df_meth0 {c : Nat} {m : Str} {f : Addr} {k : Nat} {N : List Str} {wl : List Nat} {S : SS} {o : PySem.Expr} {fo : SE} {apos pos : Pos} (G : FnX X T k f 1 N wl S) (cl : Cls X.K (T.ca c)) (me : Meth X.K (T.ca c) m f) (hm : m ∉ T.fn c) (hr : Room k X.A) (tk : Takes X W) (ho : DE X T W o fo)
    {pl : Sem Bool} (ht : eval (.Call (.Attribute o m apos) [] [] pos) X.env = (do
      let ov ← eval o X.env
      standAt apos.atName
      let (f, first) ← holding [ov] (getMethod ov m pl)
      callWith pos f first (backTo pos (starEach [] X.env)) (backToKw pos (keywordEach [] X.env))) := by rfl) : DF X T W (.Call (.Attribute o m apos) [] [] pos) (sMethD c S N fo aNil) := by
  obtain ⟨fd, ps, F, b, kp⟩ := G.ex
  exact PE.imp (pe_meth0S ho cl me F hr b (fun σ => passAt tk σ) ht) fun σ H Q p => by
    obtain ⟨F1, A, ds, w, p⟩ := lift_methD (wl := wl) (n := 0) hm aLen_nil p
    refine ⟨F1, A, ds, w, ?_⟩
    cases eo : fo ds with
    | bad => rw [eo] at p; exact p
    | exc c fs => rw [eo] at p; exact p
    | ok o =>
      rw [eo] at p
      intro v F' H' e t r
      obtain ⟨a, dx, fs, h1, h2, h3, F2, A2, ds2, w2, h4⟩ := p v F' H' e t r
      exact ⟨a, dx, fs, h1, h2, h3, h4 [] F2 H' .refl w2.tabs .nil⟩
theorem df_make {c : Nat} {x : Str} {f : Addr} {k n : Nat} {N : List Str} {wl : List Nat} {S : SS} {e : PySem.Expr} {es : List PySem.Expr} {fa : SA} {p pos : Pos} (G : FnX X T k f (n + 1) N wl S) (M : Mk X.K (T.ca c) f) (hm : X.mg x = some (.ref (T.ca c))) (hr : Room (k + 1) X.A) (tk : Takes X W) (ha : DA X T W (e :: es) fa) (hl : aLen n fa) (h0 : 0 ∉ wl) (hN : 0 < N.length)
    (hg : Gl X x := by rfl) (hdb : (x == ("__debug__" : Str)) = false := by decide) (he : starEach (e :: es) X.env = (false, eval e X.env) :: starEach es X.env := by rfl) (hpl : (backTo pos (starEach es X.env)).any (·.1) = false := by rfl) :
    DF X T W (.Call (.Name x p) (e :: es) [] pos) (sMakeD c S N fa) := by
  obtain ⟨fd, ps, F, b, kp⟩ := G.ex
  exact PE.imp (pe_makeS M F hr hg hm b (fun σ => passAt tk σ) ha hdb he hpl) fun _ _ _ p => lift_makeD h0 hN hl p
theorem df_make0 {c : Nat} {x : Str} {f : Addr} {k : Nat} {N : List Str} {wl : List Nat} {S : SS} {p pos : Pos} (G : FnX X T k f 1 N wl S) (M : Mk X.K (T.ca c) f) (hm : X.mg x = some (.ref (T.ca c))) (hr : Room (k + 1) X.A) (tk : Takes X W) (h0 : 0 ∉ wl) (hN : 0 < N.length)
    (hg : Gl X x := by rfl) (hdb : (x == ("__debug__" : Str)) = false := by decide) : DF X T W (.Call (.Name x p) [] [] pos) (sMakeD c S N aNil) := by
  obtain ⟨fd, ps, F, b, kp⟩ := G.ex
  exact PE.imp (pe_make0S M F hr hg hm b (fun σ => passAt tk σ) hdb) fun σ H Q p => by
    obtain ⟨F1, A, ds, w, p⟩ := lift_makeD (wl := wl) (n := 0) h0 hN aLen_nil p
    exact p [] F1 H .refl w.tabs .nil
end
end DL
set_option Elab.async false
set_option linter.all false
set_option maxRecDepth 100000
set_option maxHeartbeats 4000000
/-! The D layer, 19: calls that change one thing they are handed. -/
namespace DL
open PySem PySem.Spec PyProof.Rows L2

/-- an argument: a plain thing, or a place of what is owned -/
inductive Ar where
  | pu (o : OV) | pl (q : Pl)
abbrev SR := DS → R Ar
abbrev SAr := DS → R (List Ar)
def RA1 (K : PySem.W.Frag) (T : Tb) (F A : AS) (H : Hp) (σ : HSt) (v : V) : Ar → Prop
  | .pu o => RO K T F H v o A
  | .pl q => goS H σ q = some v
inductive RAs (K : PySem.W.Frag) (T : Tb) (F A : AS) (H : Hp) (σ : HSt) : List V → List Ar → Prop
  | nil : RAs K T F A H σ [] []
  | cons {v vs a as} : RA1 K T F A H σ v a → RAs K T F A H σ vs as → RAs K T F A H σ (v :: vs) (a :: as)
def postR (K : PySem.W.Frag) (T : Tb) (W : WX) (F A : AS) (σ : HSt) (H : Hp) (Q : VK) : R Ar → Prop
  | .ok a => ∀ v F' H', Ext T F H F' H' → Tabs T F' H' → RA1 K T F' A H' σ v a → Q v H'
  | .exc c fs => ∀ cls d F' H', Ext T F H F' H' → Tabs T F' H' → RepX K T F' H' cls d c fs → W cls d σ H'
  | .bad => False
def liftR (K : PySem.W.Frag) (T : Tb) (W : WX) (f : SR) : TE := fun σ H Q => ∃ F A ds, Wk K T F H A σ ds ∧ postR K T W F A σ H Q (f ds)
def DR (X : Cx) (T : Tb) (W : WX) (e : PySem.Expr) (f : SR) : Prop := PE X e (liftR X.K T W f)
def postAr (K : PySem.W.Frag) (T : Tb) (W : WX) (F A : AS) (σ : HSt) (H : Hp) (Q : List V → Hp → Prop) : R (List Ar) → Prop
  | .ok a => ∀ v F' H', Ext T F H F' H' → Tabs T F' H' → RAs K T F' A H' σ v a → Q v H'
  | .exc c fs => ∀ cls d F' H', Ext T F H F' H' → Tabs T F' H' → RepX K T F' H' cls d c fs → W cls d σ H'
  | .bad => False
def liftAr (K : PySem.W.Frag) (T : Tb) (W : WX) (f : SAr) : TA := fun σ H Q => ∃ F A ds, Wk K T F H A σ ds ∧ postAr K T W F A σ H Q (f ds)
def DAr (X : Cx) (T : Tb) (W : WX) (es : List PySem.Expr) (f : SAr) : Prop := PA X es (liftAr X.K T W f)
def rPu (f : SE) : SR := fun ds => (f ds).bind fun o => .ok (.pu o)
def rPl (f : SPl) : SR := fun ds => (f ds).bind fun q => .ok (.pl q)
theorem dr_pu {X : Cx} {T : Tb} {W : WX} {e : PySem.Expr} {f : SE} (h : DE X T W e f) : DR X T W e (rPu f) := PE.imp h fun σ H Q ⟨F, A, ds, w, p⟩ => by
  unfold rPu at p
  refine ⟨F, A, ds, w, ?_⟩
  cases ea : f ds with
  | bad => rw [ea] at p; exact p.elim
  | exc c fs => rw [ea] at p; exact p
  | ok o => rw [ea] at p; exact p
theorem dr_pl {X : Cx} {T : Tb} {W : WX} {e : PySem.Expr} {f : SPl} (h : DPl X T W e f) : DR X T W e (rPl f) := PE.imp h fun σ H Q ⟨F, A, ds, w, p⟩ => by
  unfold rPl at p
  refine ⟨F, A, ds, w, ?_⟩
  cases ea : f ds with
  | bad => rw [ea] at p; exact p.elim
  | exc c fs => rw [ea] at p; exact p
  | ok o => rw [ea] at p; exact p
def arNil : SAr := fun _ => .ok []
def arCons (f : SR) (g : SAr) : SAr := fun ds => (f ds).bind fun a => (g ds).bind fun as => .ok (a :: as)
theorem RA1.ext {K : PySem.W.Frag} {T : Tb} {F F' A : AS} {H H' : Hp} {σ : HSt} {v : V} {a : Ar} (t : Tabs T F H) (at_ : Dj A T.tab) (e : Ext T F H F' H') (r : RA1 K T F A H σ v a) : RA1 K T F' A H' σ v a := by
  cases a with
  | pu o => exact e.ro t at_ r
  | pl q => exact stab_goS t e r
theorem dar_nil {X : Cx} {T : Tb} {W : WX} : DAr X T W [] arNil := PA.imp pa_nil fun σ H Q ⟨F, A, ds, w, p⟩ => p [] F H .refl w.tabs .nil
theorem dar_cons {X : Cx} {T : Tb} {W : WX} {e : PySem.Expr} {es : List PySem.Expr} {f : SR} {g : SAr} (ha : DR X T W e f) (hr : DAr X T W es g) (hs : starEach (e :: es) X.env = (false, eval e X.env) :: starEach es X.env := by rfl) : DAr X T W (e :: es) (arCons f g) :=
  PA.imp (pa_cons ha hr hs) fun σ H Q ⟨F, A, ds, w, p⟩ => by
    unfold arCons at p
    refine ⟨F, A, ds, w, ?_⟩
    cases ea : f ds with
    | bad => rw [ea] at p; exact p.elim
    | exc c fs => rw [ea] at p; exact p
    | ok a =>
      rw [ea] at p
      intro v F1 H1 e1 t1 r1
      have w1 := w.ext e1 t1
      refine ⟨F1, A, ds, w1, ?_⟩
      simp only [R.bind] at p
      cases eb : g ds with
      | bad => rw [eb] at p; exact p.elim
      | exc c fs => rw [eb] at p; exact fun cls d F' H' e t rx => p cls d F' H' (e1.trans t1 e) t rx
      | ok as =>
        rw [eb] at p
        exact fun vs F2 H2 e2 t2 r2 => p (v :: vs) F2 H2 (e1.trans t1 e2) t2 (.cons (r1.ext t1 w1.at_ e2) r2)
/-- where the one place stands -/
def isPu : Ar → Bool
  | .pu o => isZ o
  | .pl _ => false
def plOf : List Ar → Option (Nat × Pl)
  | [] => none
  | .pl q :: r => if r.all isPu then some (0, q) else none
  | .pu o :: r => if isZ o then (plOf r).map fun p => (p.1 + 1, p.2) else none
def arO (ds : DS) : Ar → Option OV
  | .pu o => some o
  | .pl q => atS ds q
def arOs (ds : DS) : List Ar → Option (List OV)
  | [] => some []
  | a :: r => (arO ds a).bind fun o => (arOs ds r).map fun os => o :: os
section
variable {K : PySem.W.Frag} {T : Tb} {F A : AS} {H : Hp} {σ : HSt} {ds : DS}
theorem arOs_z {vs : List V} {ars : List Ar} (r : RAs K T F A H σ vs ars) (hz : ars.all isPu = true) : ∀ {os}, arOs ds ars = some os → RelS K T F H (vs.map some) (os.map some) (fun _ => False) ∧ vs.length = os.length := by
  induction r with
  | nil => intro os h; simp only [arOs, Option.some.injEq] at h; subst h; exact ⟨.nil, rfl⟩
  | @cons v vs a as r1 _ ih =>
    intro os h
    simp only [List.all_cons, Bool.and_eq_true] at hz
    cases a with
    | pl q => simp [isPu] at hz
    | pu o =>
      simp only [arOs, arO, Option.bind_some] at h
      cases e : arOs ds as with
      | none => rw [e] at h; cases h
      | some os' =>
        rw [e] at h
        simp only [Option.map_some, Option.some.injEq] at h
        subst h
        obtain ⟨h1, h2⟩ := ih hz.2 e
        cases r1 with
        | z r1 => exact ⟨.so (B := fun _ => False) (.z r1) h1 (fun _ h => h.elim) (fun _ h => h) (fun _ h => h), by simp [h2]⟩
        | _ => simp [isPu, isZ] at hz
theorem arOs_rel {B : AS} {v1 : V} {o1 : OV} {q : Pl} (ho : atS ds q = some o1) (g : goS H σ q = some v1) (ro : RO K T F H v1 o1 B) {vs : List V} {ars : List Ar} (r : RAs K T F A H σ vs ars) : ∀ {m os}, plOf ars = some (m, q) → arOs ds ars = some os → RelS K T F H (vs.map some) (os.map some) B ∧ vs.length = os.length ∧ vs[m]? = some v1 := by
  induction r with
  | nil => intro m os h; simp [plOf] at h
  | @cons v vs a as r1 rs ih =>
    intro m os h h2
    cases a with
    | pl q' =>
      simp only [plOf] at h
      split at h
      · rename_i hz
        simp only [Option.some.injEq, Prod.mk.injEq] at h
        obtain ⟨rfl, rfl⟩ := h
        simp only [arOs, arO, ho, Option.bind_some] at h2
        cases e : arOs ds as with
        | none => rw [e] at h2; cases h2
        | some os' =>
          rw [e] at h2
          simp only [Option.map_some, Option.some.injEq] at h2
          subst h2
          obtain ⟨h3, h4⟩ := arOs_z rs hz e
          have hv : goS H σ q' = some v := r1
          rw [g] at hv; cases hv
          exact ⟨.so ro h3 (fun _ _ h => h) (fun _ h => h) (fun _ h => h.elim), by simp [h4], rfl⟩
      · cases h
    | pu o =>
      simp only [plOf] at h
      split at h
      · rename_i hz
        cases ep : plOf as with
        | none => rw [ep] at h; cases h
        | some p =>
          rw [ep] at h
          simp only [Option.map_some, Option.some.injEq, Prod.mk.injEq] at h
          obtain ⟨rfl, rfl⟩ := h
          simp only [arOs, arO, Option.bind_some] at h2
          cases e : arOs ds as with
          | none => rw [e] at h2; cases h2
          | some os' =>
            rw [e] at h2
            simp only [Option.map_some, Option.some.injEq] at h2
            subst h2
            obtain ⟨h3, h4, h5⟩ := ih ep e
            cases r1 with
            | z r1 => exact ⟨.so (B := fun _ => False) (.z r1) h3 (fun _ h => h.elim) (fun _ h => h.elim) (fun _ h => h), by simp [h4], by simpa using h5⟩
            | _ => simp [isZ] at hz
      · cases h
/-- what such a call comes to -/
def outI (wl : List Nat) (ds : DS) (m : Nat) (q : Pl) : Out → R (OV × DS)
  | .rt r ds' => match ds'[m]? with
    | some (some o') => if m ∈ wl then .bad else .ok (r, putS ds q o')
    | _ => .bad
  | .nx ds' => match ds'[m]? with
    | some (some o') => if m ∈ wl then .bad else .ok (.z .non, putS ds q o')
    | _ => .bad
  | .exc c fs _ => .exc c fs
  | _ => .bad
def callI (S : SS) (N : List Str) (wl : List Nat) (ds : DS) (ars : List Ar) : R (OV × DS) := match plOf ars with
  | some (m, q) => match arOs ds ars with
    | some os => outI wl ds m q (S (ini N os))
    | none => .bad
  | none => .bad
theorem callI_core {W : WX} {N : List Str} {wl : List Nat} {S : SS} {n : Nat} {vs : List V} {ars : List Ar} {Q : VK} {ds0 : DS} (w : Wk K T F H A σ ds) (hl0 : ds.length = ds0.length) (r : RAs K T F A H σ vs ars) (hn : ars.length = n) (p : postO K T W F A σ H Q ds0 (callI S N wl ds ars)) : spD K T n N wl S vs H Q (WE W σ) := by
  unfold callI at p
  have rl : vs.length = ars.length := by
    clear p hn w
    induction r with
    | nil => rfl
    | cons _ _ ih => simp [ih]
  split at p
  · rename_i m q hq
    split at p
    · rename_i os hos
      have hat : ∃ o1, atS ds q = some o1 := by
        clear p r rl hn
        have : ∀ (ars : List Ar) (m : Nat) (os : List OV), plOf ars = some (m, q) → arOs ds ars = some os → ∃ o1, atS ds q = some o1 := by
          intro ars
          induction ars with
          | nil => intro m os h; simp [plOf] at h
          | cons a as ih =>
            intro m os h h2
            cases a with
            | pl q' =>
              simp only [plOf] at h
              split at h
              · simp only [Option.some.injEq, Prod.mk.injEq] at h
                obtain ⟨_, rfl⟩ := h
                simp only [arOs, arO] at h2
                cases e : atS ds q' with
                | none => rw [e] at h2; cases h2
                | some o1 => exact ⟨o1, rfl⟩
              · cases h
            | pu o =>
              simp only [plOf] at h
              split at h
              · cases ep : plOf as with
                | none => rw [ep] at h; cases h
                | some p =>
                  rw [ep] at h
                  simp only [Option.map_some, Option.some.injEq, Prod.mk.injEq] at h
                  obtain ⟨_, rfl⟩ := h
                  simp only [arOs, arO, Option.bind_some] at h2
                  cases e : arOs ds as with
                  | none => rw [e] at h2; cases h2
                  | some os' => exact ih _ _ ep e
              · cases h
        exact this ars m os hq hos
      obtain ⟨o1, ho1⟩ := hat
      obtain ⟨v1, g, B, C, ro, dBC, sB, sC, k⟩ := w.rel.foc ho1
      obtain ⟨rs, hl, hm⟩ := arOs_rel ho1 g ro r hq hos
      refine ⟨by rw [rl, hn], F, B, os, ⟨w.tabs, relS_start hl rs, fun a h z => w.dj a (sB a h) z, fun a h z => w.at_ a (sB a h) z, fun a h => w.tr a (sB a h)⟩, hl.symm, ?_⟩
      have hml : m < vs.length := (List.getElem?_eq_some_iff.mp hm).1
      have hst : (L2.start N vs)[m]? = some (some v1) := by
        unfold L2.start
        rw [List.getElem?_append_left (by simpa using hml), List.getElem?_map, hm]
        rfl
      -- C is kept
      have kC : ∀ {F' H' A'}, Step T F H B F' H' A' → KpA C F H H' := fun s a o h z => s.keep a o h (fun y => by
        rcases z with z | z | z
        · exact (w.tabs.tb a y).2 z
        · exact w.at_ a (sC a z) y
        · exact w.tabs.nst h z y) fun y => by
        rcases z with z | z | z
        · exact (w.dj a (sB a y) z).elim
        · exact (dBC a y z).elim
        · exact z
      have cF : ∀ {F' H' A'}, Step T F H B F' H' A' → Dj C F' := fun s a h z => by
        rcases s.new a z with z | z | z
        · exact w.dj a (sC a h) z
        · exact dBC a z h
        · exact w.tr a (sC a h) z
      have cL : ∀ {F' H' A'}, Step T F H B F' H' A' → ∀ a, C a → H' a ≠ none := fun {F' H' A'} s a h => by
        cases z : H a with
        | none => exact absurd z (w.tr a (sC a h))
        | some ob => rw [kC s a ob z (.inr (.inl h))]; simp
      have cA : ∀ {F' H' A'}, Step T F H B F' H' A' → Dj A' C := fun s a h z => by
        rcases s.own a h with y | y
        · exact dBC a y z
        · exact w.tr a (sC a z) y
      have up : ∀ {F' H' A' A''}, Step T F H B F' H' A' → Sb A'' A' → Step T F H A F' H' (fun a => A'' a ∨ C a) := fun s l => ⟨fun a o h nt n => s.keep a o h nt fun z => n (sB a z), s.sub, fun a h => (s.new a h).elim .inl fun h => h.elim (fun h => .inr (.inl (sB a h))) fun h => .inr (.inr h), fun a h => h.elim (fun h => (s.own a (l a h)).elim (fun h => .inl (sB a h)) .inr) fun h => .inl (sC a h)⟩
      have fin : ∀ {r o' σ' F' H' A' ds' v}, ds'[m]? = some (some o') → m ∉ wl → Kw wl (L2.start N vs) σ' → Step T F H B F' H' A' → Wk K T F' H' A' (some v :: σ') (some r :: ds') → postO K T W F A σ H Q ds0 (.ok (r, putS ds q o')) → Q v H' := fun {r o' σ' F' H' A' ds' v} hd hm' kw s w' p => by
        obtain ⟨Br, C', ror, w2, d1, s1, s2⟩ := w'.parts
        obtain ⟨v2, B1, C1, h1, h2, h3, d2, t1, t2⟩ := w2.rel.take hd
        rw [kw.at_ m hm', hst] at h1
        cases h1
        have B1A : Sb B1 A' := fun a h => s2 a (t1 a h)
        have q2 := k F' H' o' B1 s.sub (kC s) h2 fun a h z => cA s a (B1A a h) z
        refine p v F' H' (fun a => (Br a ∨ B1 a) ∨ C a) (up s fun a h => h.elim (s1 a) (B1A a)) ⟨w'.tabs, .so (B := Br) (C := fun a => B1 a ∨ C a) ror q2 ?_ (fun a h => .inl (.inl h)) (fun a h => h.elim (fun h => .inl (.inr h)) .inr), ?_, ?_, ?_⟩
        · rintro a h (z | z)
          · exact d1 a h (t1 a z)
          · exact cA s a (s1 a h) z
        · rintro a ((h | h) | h) z
          · exact w'.dj a (s1 a h) z
          · exact w'.dj a (B1A a h) z
          · exact cF s a h z
        · rintro a ((h | h) | h) z
          · exact w'.at_ a (s1 a h) z
          · exact w'.at_ a (B1A a h) z
          · exact w.at_ a (sC a h) z
        · rintro a ((h | h) | h)
          · exact w'.tr a (s1 a h)
          · exact w'.tr a (B1A a h)
          · exact cL s a h
      cases es : S (ini N os) with
      | rt o ds' =>
        rw [es] at p
        intro v σ' F' H' A' kw s w'
        simp only [outI] at p
        split at p
        · rename_i o' hd
          split at p
          · exact p.elim
          · rename_i hm'
            exact fin hd hm' kw s w' p
        · exact p.elim
      | nx ds' =>
        rw [es] at p
        intro σ' F' H' A' kw s w'
        simp only [outI] at p
        split at p
        · rename_i o' hd
          split at p
          · exact p.elim
          · rename_i hm'
            exact fin hd hm' kw s (w'.pushz .non) p
        · exact p.elim
      | exc c fs ds' =>
        rw [es] at p
        simp only [outI] at p
        intro cls d σ' F' H' A' s w' rx
        refine p cls d F' H' (fun a => False ∨ C a) (up s fun _ h => h.elim) ⟨w'.tabs, ?_, fun a h z => h.elim (fun h => h) fun h => cF s a h z, fun a h z => h.elim (fun h => h) fun h => w.at_ a (sC a h) z, fun a h => h.elim (fun h => h.elim) (cL s a)⟩ rx
        have : ∀ (σ : HSt) (ds0 : DS), σ.length = ds0.length → RelS K T F' H' σ (forget ds0) (fun a => False ∨ C a) := by
          intro σ
          induction σ with
          | nil => intro ds0 h; cases ds0 with | nil => exact .nil | cons => cases h
          | cons x σ ih => intro ds0 h; cases ds0 with | nil => cases h | cons y ds0 => exact .no (ih ds0 (by simpa using h))
        exact this σ ds0 (by rw [w.len, hl0])
      | bk _ => rw [es] at p; exact p.elim
      | ct _ => rw [es] at p; exact p.elim
      | bad => rw [es] at p; exact p.elim
    · exact p.elim
  · exact p.elim
theorem postO_ext {W : WX} {F1 : AS} {H1 : Hp} {Q : VK} {ds0 : DS} {r : R (OV × DS)} (t1 : Tabs T F1 H1) (e : Ext T F H F1 H1) (p : postO K T W F A σ H Q ds0 r) : postO K T W F1 A σ H1 Q ds0 r := by
  cases r with
  | ok b => exact fun v F' H' A' s' w => p v F' H' A' (e.step.trans t1 s') w
  | exc c fs => exact fun cls d F' H' A' s' w rx => p cls d F' H' A' (e.step.trans t1 s') w rx
  | bad => exact p
end
def arLen (n : Nat) (fa : SAr) : Prop := ∀ ds os, fa ds = .ok os → os.length = n
theorem arLen_nil : arLen 0 arNil := fun ds os h => by cases h; rfl
theorem arLen_cons {n : Nat} {f : SR} {g : SAr} (h : arLen n g) : arLen (n + 1) (arCons f g) := fun ds os e => by
  unfold arCons at e
  cases h1 : f ds with
  | bad => rw [h1] at e; cases e
  | exc c fs => rw [h1] at e; cases e
  | ok o =>
    rw [h1] at e
    cases h2 : g ds with
    | bad => simp [R.bind, h2] at e
    | exc c fs => simp [R.bind, h2] at e
    | ok os' =>
      simp [R.bind, h2] at e
      rw [← e, List.length_cons, h ds os' h2]
def sCallI (S : SS) (N : List Str) (wl : List Nat) (fa : SAr) : SO := fun ds => (fa ds).bind fun ars => callI S N wl ds ars
theorem lift_callI {K : PySem.W.Frag} {T : Tb} {W : WX} {N : List Str} {wl : List Nat} {S : SS} {n : Nat} {fa : SAr} {σ : HSt} {H : Hp} {Q : VK} (hn : arLen n fa) (p : liftO K T W (sCallI S N wl fa) σ H Q) : tCallS (spD K T n N wl S) (WE W) (liftAr K T W fa) σ H Q := by
  obtain ⟨F, A, ds, w, p⟩ := p
  unfold sCallI at p
  refine ⟨F, A, ds, w, ?_⟩
  cases ea : fa ds with
  | bad => rw [ea] at p; exact p.elim
  | exc c fs => rw [ea] at p; exact fun cls d F' H' e t rx => p cls d F' H' A e.step (w.ext e t).forget rx
  | ok ars =>
    rw [ea] at p
    intro vs F1 H1 e1 t1 r1
    exact callI_core (w.ext e1 t1) rfl r1 (hn ds ars ea) (postO_ext t1 e1 p)
def isCr (c : Nat) (ds : DS) : Ar → Bool
  | .pu o => isC c o
  | .pl q => match atS ds q with
    | some o => isC c o
    | none => false
def sMethI (c : Nat) (S : SS) (N : List Str) (wl : List Nat) (fo : SR) (fa : SAr) : SO := fun ds => (fo ds).bind fun o => if isCr c ds o then (fa ds).bind fun ars => callI S N wl ds (o :: ars) else .bad
theorem lift_methI {K : PySem.W.Frag} {T : Tb} {W : WX} {N : List Str} {wl : List Nat} {S : SS} {n c : Nat} {m : Str} {fo : SR} {fa : SAr} {σ : HSt} {H : Hp} {Q : VK} (hm : m ∉ T.fn c) (hn : arLen n fa) (p : liftO K T W (sMethI c S N wl fo fa) σ H Q) :
    tMethS (T.ca c) m (spD K T (n + 1) N wl S) (WE W) (liftR K T W fo) (liftAr K T W fa) σ H Q := by
  obtain ⟨F, A, ds, w, p⟩ := p
  unfold sMethI at p
  refine ⟨F, A, ds, w, ?_⟩
  cases eo : fo ds with
  | bad => rw [eo] at p; exact p.elim
  | exc c fs => rw [eo] at p; exact fun cls d F' H' e t rx => p cls d F' H' A e.step (w.ext e t).forget rx
  | ok o =>
    rw [eo] at p
    intro v F1 H1 e1 t1 r1
    simp only [R.bind] at p
    split at p
    · rename_i hc
      have w1 := w.ext e1 t1
      have key : ∃ a dx fs, v = .ref a ∧ H1 a = some (.ins (T.ca c) dx fs) ∧ fs.lookup m = none := by
        cases o with
        | pu o => exact isC_ins r1 hc hm
        | pl q =>
          simp only [isCr] at hc
          split at hc
          · rename_i o1 ho1
            obtain ⟨v1, g, B, C, ro, _⟩ := w1.rel.foc ho1
            have hv : goS H1 σ q = some v := r1
            rw [g] at hv; cases hv
            exact isC_ins ro hc hm
          · cases hc
      obtain ⟨a, dx, fs, ev, ea, el⟩ := key
      refine ⟨a, dx, fs, ev, ea, el, F1, A, ds, w1, ?_⟩
      cases ea : fa ds with
      | bad => rw [ea] at p; exact p.elim
      | exc c fs => rw [ea] at p; exact fun cls d F' H' e t rx => p cls d F' H' A (e1.trans t1 e).step (w1.ext e t).forget rx
      | ok ars =>
        rw [ea] at p
        intro vs F2 H2 e2 t2 r2
        exact callI_core (w1.ext e2 t2) rfl (.cons (r1.ext t1 w1.at_ e2) r2) (by rw [List.length_cons, hn ds ars ea]) (postO_ext t2 (e1.trans t1 e2) p)
    · exact p.elim
section
variable {X : Cx} {T : Tb} {W : WX}
theorem do_call {x : Str} {f : Addr} {k n : Nat} {N : List Str} {wl : List Nat} {S : SS} {e : PySem.Expr} {es : List PySem.Expr} {fa : SAr} {p pos : Pos} (G : FnX X T k f n N wl S) (hm : X.mg x = some (.ref f)) (hr : Room k X.A) (tk : Takes X W) (ha : DAr X T W (e :: es) fa) (hl : arLen n fa)
    (hg : Gl X x := by rfl) (hdb : (x == ("__debug__" : Str)) = false := by decide) (he : starEach (e :: es) X.env = (false, eval e X.env) :: starEach es X.env := by rfl) (hpl : (backTo pos (starEach es X.env)).any (·.1) = false := by rfl) :
    DO X T W (.Call (.Name x p) (e :: es) [] pos) (sCallI S N wl fa) := by
  obtain ⟨fd, ps, F, b, kp⟩ := G.ex
  exact PE.imp (pe_callS F hr hg hm kp b (fun σ => passAt tk σ) ha hdb he hpl) fun _ _ _ p => lift_callI hl p
theorem do_meth {c : Nat} {m : Str} {f : Addr} {k n : Nat} {N : List Str} {wl : List Nat} {S : SS} {o e : PySem.Expr} {es : List PySem.Expr} {fo : SR} {fa : SAr} {apos pos : Pos} (G : FnX X T k f (n + 1) N wl S) (cl : Cls X.K (T.ca c)) (me : Meth X.K (T.ca c) m f) (hm : m ∉ T.fn c) (hr : Room k X.A) (tk : Takes X W) (ho : DR X T W o fo) (ha : DAr X T W (e :: es) fa) (hl : arLen n fa)
    {pl : Sem Bool} (hst : starEach (e :: es) X.env = (false, eval e X.env) :: starEach es X.env := by rfl) (hpl : (backTo pos (starEach es X.env)).any (·.1) = false := by rfl)
    (ht : eval (.Call (.Attribute o m apos) (e :: es) [] pos) X.env = (do
      let ov ← eval o X.env
      standAt apos.atName
      let (f, first) ← holding [ov] (getMethod ov m pl)
      callWith pos f first (backTo pos (starEach (e :: es) X.env)) (backToKw pos (keywordEach [] X.env))) := by rfl) : DO X T W (.Call (.Attribute o m apos) (e :: es) [] pos) (sMethI c S N wl fo fa) := by
  obtain ⟨fd, ps, F, b, kp⟩ := G.ex
  exact PE.imp (pe_methS ho cl me F hr b (fun σ => passAt tk σ) ha hst hpl ht) fun _ _ _ p => lift_methI hm hl p
theorem do_meth0 {c : Nat} {m : Str} {f : Addr} {k : Nat} {N : List Str} {wl : List Nat} {S : SS} {o : PySem.Expr} {fo : SR} {apos pos : Pos} (G : FnX X T k f 1 N wl S) (cl : Cls X.K (T.ca c)) (me : Meth X.K (T.ca c) m f) (hm : m ∉ T.fn c) (hr : Room k X.A) (tk : Takes X W) (ho : DR X T W o fo)
    {pl : Sem Bool} (ht : eval (.Call (.Attribute o m apos) [] [] pos) X.env = (do
      let ov ← eval o X.env
      standAt apos.atName
      let (f, first) ← holding [ov] (getMethod ov m pl)
      callWith pos f first (backTo pos (starEach [] X.env)) (backToKw pos (keywordEach [] X.env))) := by rfl) : DO X T W (.Call (.Attribute o m apos) [] [] pos) (sMethI c S N wl fo arNil) := by
  obtain ⟨fd, ps, F, b, kp⟩ := G.ex
  exact PE.imp (pe_meth0S ho cl me F hr b (fun σ => passAt tk σ) ht) fun σ H Q p => by
    obtain ⟨F1, A, ds, w, p⟩ := lift_methI (wl := wl) (n := 0) hm arLen_nil p
    refine ⟨F1, A, ds, w, ?_⟩
    cases eo : fo ds with
    | bad => rw [eo] at p; exact p
    | exc c fs => rw [eo] at p; exact p
    | ok o =>
      rw [eo] at p
      intro v F' H' e t r
      obtain ⟨a, dx, fs, h1, h2, h3, F2, A2, ds2, w2, h4⟩ := p v F' H' e t r
      exact ⟨a, dx, fs, h1, h2, h3, h4 [] F2 H' .refl w2.tabs .nil⟩
end
end DL
set_option Elab.async false
set_option linter.all false
set_option maxRecDepth 100000
set_option maxHeartbeats 4000000
/-! The D layer, 20: max, min, sum, all, any of a list; a law's end. -/
namespace DL
open PySem PySem.Spec PyProof.Rows L2

def ints? : List D → Option (List Int)
  | [] => some []
  | .int i :: r => (ints? r).map fun s => i :: s
  | _ => none
def bls? : List D → Option (List Bool)
  | [] => some []
  | .bl b :: r => (bls? r).map fun s => b :: s
  | _ => none
theorem ints_some : ∀ {ds : List D} {ns : List Int}, ints? ds = some ns → ds = ns.map .int
  | [], ns, h => by cases h; rfl
  | d :: r, ns, h => by
    cases d with
    | int i =>
      simp only [ints?] at h
      cases e : ints? r with
      | none => rw [e] at h; cases h
      | some s => rw [e] at h; cases h; rw [ints_some e]; rfl
    | _ => simp [ints?] at h
theorem ints_map : ∀ ns : List Int, ints? (ns.map .int) = some ns
  | [] => rfl
  | n :: r => by simp [ints?, ints_map r]
theorem bls_some : ∀ {ds : List D} {ns : List Bool}, bls? ds = some ns → ds = ns.map .bl
  | [], ns, h => by cases h; rfl
  | d :: r, ns, h => by
    cases d with
    | bl i =>
      simp only [bls?] at h
      cases e : bls? r with
      | none => rw [e] at h; cases h
      | some s => rw [e] at h; cases h; rw [bls_some e]; rfl
    | _ => simp [bls?] at h
theorem bls_map : ∀ ns : List Bool, bls? (ns.map .bl) = some ns
  | [] => rfl
  | n :: r => by simp [bls?, bls_map r]
theorem Reps.ints {K : PySem.W.Frag} {T : Tb} {F : AS} {H : Hp} : ∀ {vs : List V} {ns : List Int}, Reps K T F H vs (ns.map .int) → vs = ns.map .int
  | _, [], r => by cases r; rfl
  | _, n :: ns, r => by cases r with | cons a b => cases a; rw [Reps.ints b]; rfl
theorem Reps.bls {K : PySem.W.Frag} {T : Tb} {F : AS} {H : Hp} : ∀ {vs : List V} {ns : List Bool}, Reps K T F H vs (ns.map .bl) → vs = ns.map .bl
  | _, [], r => by cases r; rfl
  | _, n :: ns, r => by cases r with | cons a b => cases a; rw [Reps.bls b]; rfl
theorem Reps.ofInts {K : PySem.W.Frag} {T : Tb} {F : AS} {H : Hp} : ∀ (ns : List Int), Reps K T F H (ns.map .int) (ns.map .int)
  | [] => .nil
  | n :: ns => .cons (.int n) (Reps.ofInts ns)
/-- of one list -/
def gL1 {α : Type} (rd : List D → Option α) (f : α → R OV) : List OV → R OV
  | [o] => match o.lst? with
    | some ds => match rd ds with
      | some a => f a
      | none => .bad
    | none => .bad
  | _ => .bad
def gMaxL := gL1 ints? fun ns => ofO (fun m : Int => .z (.int m)) ns.max?
def gMinL := gL1 ints? fun ns => ofO (fun m : Int => .z (.int m)) ns.min?
def gSumL := gL1 ints? fun ns => .ok (.z (.int ns.sum))
def gAllL := gL1 bls? fun bs => .ok (.z (.bl (bs.all id)))
def gAnyL := gL1 bls? fun bs => .ok (.z (.bl (bs.any id)))
theorem gL1_nx {α : Type} {rd : List D → Option α} {f : α → R OV} (h : ∀ a c fs, f a ≠ .exc c fs) : ∀ os c fs, gL1 rd f os ≠ .exc c fs := by
  intro os c fs; unfold gL1
  repeat' split
  all_goals first | exact h _ c fs | exact fun h => nomatch h
theorem cd_L1 {α : Type} {K : PySem.W.Frag} {T : Tb} {r : List V → Hp → VK → Prop} {rd : List D → Option α} {f : α → R OV}
    (h : ∀ (F A : AS) (H : Hp) (a : Addr) (vs : List V) (ds : List D) (x : α) (Q : VK), Tabs T F H → H a = some (.lst vs) → Reps K T F H vs ds → rd ds = some x → postV K T F A H Q (f x) → r [.ref a] H Q) : CallD K T r (gL1 rd f) := by
  intro F A H vs os Q t at_ rv p
  unfold gL1 at p
  split at p
  · rename_i o
    split at p
    · rename_i ds hd
      split at p
      · rename_i x hx
        cases rv with
        | cons ra rb =>
          cases rb
          obtain ⟨a, ws, rfl, ha, rs⟩ := ra.lst? hd
          exact h F A H a ws ds x Q t ha rs hx p
      · exact p.elim
    · exact p.elim
  · exact p.elim
theorem cd_maxL {K : PySem.W.Frag} {T : Tb} : CallD K T (rMax K) gMaxL := cd_L1 fun F A H a vs ds ns Q t ha r hx p => by
  have e := ints_some hx
  subst e
  have ev := r.ints
  subst ev
  cases hm : ns.max? with
  | none => rw [hm] at p; exact p.elim
  | some m =>
    rw [hm] at p
    obtain ⟨h1, h2⟩ := (List.max?_eq_some_iff).mp hm
    refine ⟨a, ns, rfl, .of ha, ?_, fun m' h1' h2' => ?_⟩
    · cases ns with | nil => simp at hm | cons => simp
    · have : m' = m := by have := h2 m' h1'; have := h2' m h1; omega
      subst this
      exact p.here t (.z (.int _))
theorem cd_minL {K : PySem.W.Frag} {T : Tb} : CallD K T (rMin K) gMinL := cd_L1 fun F A H a vs ds ns Q t ha r hx p => by
  have e := ints_some hx
  subst e
  have ev := r.ints
  subst ev
  cases hm : ns.min? with
  | none => rw [hm] at p; exact p.elim
  | some m =>
    rw [hm] at p
    obtain ⟨h1, h2⟩ := (List.min?_eq_some_iff).mp hm
    refine ⟨a, ns, rfl, .of ha, ?_, fun m' h1' h2' => ?_⟩
    · cases ns with | nil => simp at hm | cons => simp
    · have : m' = m := by have := h2 m' h1'; have := h2' m h1; omega
      subst this
      exact p.here t (.z (.int _))
theorem cd_sumL {K : PySem.W.Frag} {T : Tb} : CallD K T (rSum K) gSumL := cd_L1 fun F A H a vs ds ns Q t ha r hx p => by
  have e := ints_some hx
  subst e
  have ev := r.ints
  subst ev
  exact ⟨a, ns, rfl, .of ha, p.here t (.z (.int _))⟩
theorem cd_allL {K : PySem.W.Frag} {T : Tb} : CallD K T (rAll K) gAllL := cd_L1 fun F A H a vs ds ns Q t ha r hx p => by
  have e := bls_some hx
  subst e
  have ev := r.bls
  subst ev
  exact ⟨a, ns, rfl, .of ha, p.here t (.z (.bl _))⟩
theorem cd_anyL {K : PySem.W.Frag} {T : Tb} : CallD K T (rAny K) gAnyL := cd_L1 fun F A H a vs ds ns Q t ha r hx p => by
  have e := bls_some hx
  subst e
  have ev := r.bls
  subst ev
  exact ⟨a, ns, rfl, .of ha, p.here t (.z (.bl _))⟩
theorem gMaxL_nx : ∀ os c fs, gMaxL os ≠ .exc c fs := gL1_nx fun _ _ _ => ofO_nx
theorem gMinL_nx : ∀ os c fs, gMinL os ≠ .exc c fs := gL1_nx fun _ _ _ => ofO_nx
theorem gSumL_nx : ∀ os c fs, gSumL os ≠ .exc c fs := gL1_nx fun _ _ _ h => nomatch h
theorem gAllL_nx : ∀ os c fs, gAllL os ≠ .exc c fs := gL1_nx fun _ _ _ h => nomatch h
theorem gAnyL_nx : ∀ os c fs, gAnyL os ≠ .exc c fs := gL1_nx fun _ _ _ h => nomatch h

/-! ### a law's end -/
def scr (ns : List Int) : OV := .z (.ro (ns.map .int))
theorem law_sp {K : PySem.W.Frag} {T : Tb} {N : List Str} {wl : List Nat} {S : SS} {n : Nat} {cs : List (Addr × Addr)} (hT : ∀ P, T.tab P ↔ P ∈ cs.map (·.2))
    (hS : ∀ ns : List Int, ns.length ≤ n → (∀ z ∈ ns, Builtin.Int.intBits z ≤ 1048576) → ∃ ds, S (ini N [scr ns]) = .rt (.z (.bl true)) ds) (H : Hp) (a : Addr) (ns : List Int) (hl : ns.length ≤ n) (hb : ∀ z ∈ ns, Builtin.Int.intBits z ≤ 1048576) (ht : ∀ p ∈ cs, H p.2 = some (.tbl #[])) (hs : SqL K H a (ns.map V.int)) :
    spD K T 1 N wl S [.ref a] H (fun v _ => v = .bl true) fun _ _ _ => False := by
  obtain ⟨ds, e⟩ := hS ns hl hb
  have tab : ∀ P, T.tab P → H P = some (.tbl #[]) := fun P hP => by
    obtain ⟨p, hp, ep⟩ := List.mem_map.mp ((hT P).mp hP)
    rw [← ep]; exact ht p hp
  have fin : ∀ F : AS, (∀ P, T.tab P → ¬ F P) → (∀ b, F b → H b ≠ none) → RoS K F H a (ns.map V.int) → spD K T 1 N wl S [.ref a] H (fun v _ => v = .bl true) fun _ _ _ => False := fun F h1 h2 h3 => by
    have tb : Tabs T F H := ⟨fun P hP => ⟨⟨#[], tab P hP, trivial⟩, h1 P hP⟩, h2⟩
    have rs : RelS K T F H ([V.ref a].map some) ([scr ns].map some) (fun _ => False) := .so (B := fun _ => False) (.z (.ro h3 (.ofInts ns))) .nil (fun _ h => h.elim) (fun _ h => h) (fun _ h => h)
    refine ⟨rfl, F, fun _ => False, [scr ns], ⟨tb, relS_start rfl rs, fun _ h => h.elim, fun _ h => h.elim, fun _ h => h.elim⟩, rfl, ?_⟩
    rw [e]
    intro v σ' F' H' A' k s w
    obtain ⟨B, C, ro, _⟩ := w.parts
    exact ro.bl
  rcases hs with (h | ⟨o, h⟩) | h
  · refine fin (fun b => b = a) (fun P hP z => ?_) (fun b hb => by rw [hb, h]; simp) (.inl ⟨rfl, h⟩)
    rw [z] at hP
    rw [tab a hP] at h; cases h
  · exact fin (fun _ => False) (fun _ _ h => h) (fun _ h => h.elim) (.inr (.inl ⟨o, h⟩))
  · exact fin (fun _ => False) (fun _ _ h => h) (fun _ h => h.elim) (.inr (.inr (.inr h)))
theorem fnOk_of {P : Program} {w : World} {K : PySem.W.Frag} {mg : Str → Option Value} {base : Heap} {T : Tb} {k : Nat} {x qual : Str} {st : Stmt} {f : Addr} {fd : FuncData} {N ps : List Str} {wl : List Nat} {S : SS} {n : Nat} (F : Fun K x qual st f fd) (Sc : FnScope N ps (defScope st)) (hn : n = ps.length)
    (body : ∀ (cdv : Value) (A : Around) (outer : List Env) (s : Shared) (H : Hp) (E : XK), Room k (A.deeper (envOfC qual (defScope st) s.heap.objs.size f cdv)) →
      SSs (cxOf (L2.CX P w) P w K mg base N qual (defScope st) f cdv A outer s H E) T (WEx E) (defBody st) wl S) : FnOk P w K mg base (L2.CX P w) (k + 1) f fd ps (spD K T n N wl S) :=
  F.okX Sc (fun vs H Q E h => by rw [h.1, hn]) (fun cdv A outer s H vs Q E hr h => ⟨_, body cdv A outer s H E hr, by
    obtain ⟨h1, F, A, os, w, hl, p⟩ := h
    exact ⟨F, A, ini N os, w, p⟩⟩)
theorem cx_no {P : Program} {w : World} {outer : List Env} {H : Hp} {s : Shared} {e : Value} {s' : Shared} : L2.CX P w outer H s (fun _ _ _ => False) e s' → False := fun ⟨_, _, _, _, _, _, _, _, _, _, _, _, h⟩ => h
end DL
set_option Elab.async false
set_option linter.all false
set_option maxRecDepth 100000
set_option maxHeartbeats 4000000
/-! The D layer, 21: defs as the head tells them. -/
namespace DL
open PySem PySem.Spec PyProof.Rows L2
def cs (s : String) : List Nat := s.toList.map (·.toNat)
/-- the def d of the text, as the head tells it, keeps its promise -/
theorem fnOk_D {P : Program} {w : World} {K : PySem.W.Frag} {mg : Str → Option Value} {base : Heap} {T : Tb} {k : Nat} {x qual : Str} {st : Stmt} {f : Addr} {fd : FuncData} {N ps : List Str} {wl : List Nat} {S : SS} {n : Nat} (F : FunD K x qual (defArgs st) (defBody st) (defScope st) [] [] f fd) (Sc : FnScope N ps (defScope st)) (hn : n = ps.length)
    (body : ∀ (cdv : Value) (A : Around) (outer : List Env) (s : Shared) (H : Hp) (E : XK), Room k (cxOf (L2.CX P w) P w K mg base N qual (defScope st) f cdv A outer s H E).A → Takes (cxOf (L2.CX P w) P w K mg base N qual (defScope st) f cdv A outer s H E) (WEx E) → N.Nodup →
      (cxOf (L2.CX P w) P w K mg base N qual (defScope st) f cdv A outer s H E).A.units + 64 < cLine → SSs (cxOf (L2.CX P w) P w K mg base N qual (defScope st) f cdv A outer s H E) T (WEx E) (defBody st) wl S) : FnOk P w K mg base (L2.CX P w) (k + 1) f fd ps (spD K T n N wl S) :=
  F.ok Sc (fun vs H Q E h => by rw [h.1, hn]) (fun cdv A outer s H vs Q E hr h => ⟨_, body cdv A outer s H E hr (takes_of (E := E) rfl rfl rfl rfl) Sc.nd hr.units, by
    obtain ⟨h1, F, A, os, w, hl, p⟩ := h
    exact ⟨F, A, ini N os, w, p⟩⟩)
theorem fnD_D {P : Program} {w : World} {K : PySem.W.Frag} {mg : Str → Option Value} {base : Heap} {T : Tb} {k : Nat} {x qual : Str} {st : Stmt} {f : Addr} {N ps : List Str} {wl : List Nat} {S : SS} {n : Nat} (F : ∃ fd, FunD K x qual (defArgs st) (defBody st) (defScope st) [] [] f fd) (Sc : FnScope N ps (defScope st)) (hn : n = ps.length)
    (hb : ∀ (kV doc pm : Value) (an : Option Addr) (cdv ct : Value) (us : List Value), us.length = ps.length → bindArgs (PySem.W.fnOf x qual (defArgs st) (defBody st) (defScope st) .none kV doc pm an cdv ct) ⟨us, []⟩ = pure (ps.zip us))
    (body : ∀ (cdv : Value) (A : Around) (outer : List Env) (s : Shared) (H : Hp) (E : XK), Room k (cxOf (L2.CX P w) P w K mg base N qual (defScope st) f cdv A outer s H E).A → Takes (cxOf (L2.CX P w) P w K mg base N qual (defScope st) f cdv A outer s H E) (WEx E) → N.Nodup →
      (cxOf (L2.CX P w) P w K mg base N qual (defScope st) f cdv A outer s H E).A.units + 64 < cLine → SSs (cxOf (L2.CX P w) P w K mg base N qual (defScope st) f cdv A outer s H E) T (WEx E) (defBody st) wl S) : FnD P w K mg base T (k + 1) f n N wl S := by
  obtain ⟨fd, F⟩ := F
  exact ⟨fd, ps, fnOk_D F Sc hn body, F.bindsN hb, F.kp⟩
theorem FnD.mono {P : Program} {w : World} {K : PySem.W.Frag} {mg : Str → Option Value} {base : Heap} {T : Tb} {j k : Nat} {f : Addr} {n : Nat} {N : List Str} {wl : List Nat} {S : SS} (F : FnD P w K mg base T j f n N wl S) (h : j ≤ k) : FnD P w K mg base T k f n N wl S := by
  obtain ⟨fd, ps, F, b, kp⟩ := F.ex
  exact ⟨fd, ps, F.mono h, b, kp⟩
theorem de_globI {X : Cx} {T : Tb} {W : WX} {x : Str} {i : Int} {pos : Pos} (h : ∃ t, X.mg x = some (.int i t)) (hg : Gl X x := by rfl) (hd : (x == ("__debug__" : Str)) = false := by decide) : DE X T W (.Name x pos) (sC (.int i)) := by
  obtain ⟨t, h⟩ := h
  exact de_glob (v := .int i) hg h ⟨t, rfl⟩ (fun F H => .int i) hd
theorem de_globS {X : Cx} {T : Tb} {W : WX} {x z : Str} {l : List Nat} {pos : Pos} (h : ∃ t, X.mg x = some (.str z t)) (e : z.cps.toList = l := by decide +kernel) (hg : Gl X x := by rfl) (hd : (x == ("__debug__" : Str)) = false := by decide) : DE X T W (.Name x pos) (sC (.str l)) := by
  obtain ⟨t, h⟩ := h
  subst e
  exact de_glob (v := .str z) hg h ⟨t, rfl⟩ (fun F H => .str z) hd
end DL
set_option Elab.async false
set_option linter.all false
set_option maxRecDepth 100000
set_option maxHeartbeats 4000000
/-! The D layer, 22: forms for the printer; makers that are handed a place. -/
namespace DL
open PySem PySem.Spec PyProof.Rows L2
section
variable {X : Cx} {T : Tb} {W : WX}
theorem de_fldF {e : PySem.Expr} {f : Str} {fe : SE} {pos : Pos} (c p : Nat) (he : DE X T W e fe) (fd : FdK X.K T c p f) (hb : attributeBase e f X.env (eval e X.env) = eval e X.env := by rfl) : DE X T W (.Attribute e f pos) (s1 (gFld c p) fe) := de_fld c p he fd.cl fd.na fd.nd fd.hp hb
def zFrz (i : Nat) (f : SS) : SS := fun ds => f (frzAt i ds)
def sTO (f : SO) : ST := fun ds => (f ds).bind fun p => match p.1 with
  | .z (.bl b) => .ok (b, p.2)
  | _ => .bad
theorem dt_valO {e : PySem.Expr} {f : SO} (h : DO X T W e f) (he : ∀ whole, isTrue e X.env whole = (do let v ← whole; standAt e.pos; holding [v] (truthy v)) := by intro _; rfl) : DT X T W e (sTO f) := PT.imp (pt_val h he) fun σ H Q ⟨F, A, ds, w, p⟩ => by
  unfold sTO at p
  refine ⟨F, A, ds, w, ?_⟩
  cases ea : f ds with
  | bad => rw [ea] at p; exact p.elim
  | exc c fs => rw [ea] at p; exact p
  | ok r =>
    obtain ⟨o, ds'⟩ := r
    rw [ea] at p
    intro v F' H' A' s w'
    simp only [R.bind] at p
    split at p
    · rename_i b
      obtain ⟨B, C, ro, _, _, _, _⟩ := w'.parts
      exact ⟨b, ro.bl, p F' H' A' s w'.pop⟩
    · exact p.elim
end
section
variable {X : Cx} {T : Tb} {W : WX} {elt tg iter : PySem.Expr} {ifs : List PySem.Expr} {scope : Scope} {pos spos py : Pos} {it : SI} {g : SZ} {t : SB} {fe : SF} {wl : List Nat}
theorem st_setLcZ (i : Nat) {y : Str} (own : List (Str × Nat)) (hc : X.calm = true) (hN : X.N.Nodup) (hsw : swapsWith (.ListComp elt [⟨tg, iter, ifs, 0⟩] scope pos) (some (.Name y py)) spos.line X.env = pure true) (hi : DIA X T W tg iter it) (ok : BlkOk X.N X.env.scope scope own)
    (hg : ∀ (s : Shared) (H : Hp) (C : Addr) (cl : List (Str × Addr)) (fp : List Addr), DZ (X.blk s H scope (compEnvC scope cl C X.env) fp) T tg wl g) (ht : ∀ (s : Shared) (H : Hp) (C : Addr) (cl : List (Str × Addr)) (fp : List Addr), DBs (X.blk s H scope (compEnvC scope cl C X.env) fp) T ifs t)
    (he : ∀ (s : Shared) (H : Hp) (C : Addr) (cl : List (Str × Addr)) (fp : List Addr), DF (X.blk s H scope (compEnvC scope cl C X.env) fp) T W0 elt fe) (hw : ∀ i ∈ wl, i ∈ own.map (·.2) := by decide) (hy : X.N[i]? = some y := by rfl) (hyl : X.env.scope.names.lookup y = some .local := by rfl) (hs : ∀ x, foldedSetIterable iter X.env x = pure x := by intro _; rfl) :
    SSt X T W (.Assign [.Name y py] (.ListComp elt [⟨tg, iter, ifs, 0⟩] scope pos) spos) [i] (sSet i (sP (fFrz (sLc it g t fe (own.map (·.2)))))) :=
  PS.imp (ps_setLc (g := liftZ X.K T wl g) (tt := liftB X.K T W0 t) (te := liftF X.K T W0 fe) hc hN hy hyl hsw hi ok hg ht he hs) fun D σ H p => lift_lc hw (liftF_frz (liftE_F (liftF_O (lift_set p))))
end

theorem ss_badW {X : Cx} {T : Tb} {W : WX} {sts : List Stmt} {wl : List Nat} : SSs X T W sts wl sBad := PSs.imp pss_never fun _ _ _ ⟨_, _, _, _, p⟩ => p
/-! ### C(.., x, ..), x changed later on -/
def makeI (wl : List Nat) (ds : DS) (m : Nat) (q : Pl) : Out → R (OV × DS)
  | .nx ds' => match ds'[0]?, ds'[m + 1]? with
    | some (some (OV.o c fs)), some (some o') => if m + 1 ∈ wl then .bad else .ok (OV.o c fs, putS ds q o')
    | _, _ => .bad
  | .exc c fs _ => .exc c fs
  | _ => .bad
def sMakeI (c : Nat) (S : SS) (N : List Str) (wl : List Nat) (fa : SAr) : SO := fun ds => (fa ds).bind fun ars => match plOf ars with
  | some (m, q) => match arOs ds ars with
    | some os => makeI wl ds m q (S (ini N (.o c [] :: os)))
    | none => .bad
  | none => .bad
theorem lift_makeI {K : PySem.W.Frag} {T : Tb} {W : WX} {N : List Str} {wl : List Nat} {S : SS} {n c : Nat} {fa : SAr} {σ : HSt} {H : Hp} {Q : VK} (h0 : 0 ∉ wl) (hN : 0 < N.length) (hn : arLen n fa) (p : liftO K T W (sMakeI c S N wl fa) σ H Q) :
    tMakeS (T.ca c) (spD K T (n + 1) N wl S) (WE W) (liftAr K T W fa) σ H Q := by
  obtain ⟨F, A, ds, w, p⟩ := p
  unfold sMakeI at p
  refine ⟨F, A, ds, w, ?_⟩
  cases ea : fa ds with
  | bad => rw [ea] at p; exact p.elim
  | exc c fs => rw [ea] at p; exact fun cls d F' H' e t rx => p cls d F' H' A e.step (w.ext e t).forget rx
  | ok ars =>
    rw [ea] at p
    intro vs F1 H1 e1 t1 r1 x dx hx hdx nex
    simp only [R.bind] at p
    split at p
    · rename_i m q hq
      split at p
      · rename_i os hos
        have w1 := w.ext e1 t1
        have p1 := postO_ext t1 e1 p
        have hat : ∃ o1, atS ds q = some o1 := by
          clear p p1 r1
          have : ∀ (ars : List Ar) (m : Nat) (os : List OV), plOf ars = some (m, q) → arOs ds ars = some os → ∃ o1, atS ds q = some o1 := by
            intro ars
            induction ars with
            | nil => intro m os h; simp [plOf] at h
            | cons a as ih =>
              intro m os h h2
              cases a with
              | pl q' =>
                simp only [plOf] at h
                split at h
                · simp only [Option.some.injEq, Prod.mk.injEq] at h
                  obtain ⟨_, rfl⟩ := h
                  simp only [arOs, arO] at h2
                  cases e : atS ds q' with
                  | none => rw [e] at h2; cases h2
                  | some o1 => exact ⟨o1, rfl⟩
                · cases h
              | pu o =>
                simp only [plOf] at h
                split at h
                · cases ep : plOf as with
                  | none => rw [ep] at h; cases h
                  | some p =>
                    rw [ep] at h
                    simp only [Option.map_some, Option.some.injEq, Prod.mk.injEq] at h
                    obtain ⟨_, rfl⟩ := h
                    simp only [arOs, arO, Option.bind_some] at h2
                    cases e : arOs ds as with
                    | none => rw [e] at h2; cases h2
                    | some os' => exact ih _ _ ep e
                · cases h
          exact this ars m os hq hos
        obtain ⟨o1, ho1⟩ := hat
        obtain ⟨v1, g, B, C, ro, dBC, sB, sC, k⟩ := w1.rel.foc ho1
        obtain ⟨rs, hl, hm⟩ := arOs_rel ho1 g ro r1 hq hos
        generalize hH2 : upd (upd H1 dx (.own x)) x (.ins (T.ca c) dx []) = H2
        have atx : H2 x = some (.ins (T.ca c) dx []) := by rw [← hH2, upd_same]
        have kept : ∀ a o, H1 a = some o → H2 a = some o := fun a o h => by
          rw [← hH2, upd_ne (ne_of_none h hx), upd_ne (ne_of_none h hdx)]; exact h
        have none2 : ∀ a, H2 a = none → H1 a = none := fun a h => by
          cases z : H1 a with
          | none => rfl
          | some o => rw [kept a o z] at h; cases h
        have t2 : Tabs T F1 H2 := ⟨fun P hP => ⟨by obtain ⟨ps, e, q⟩ := (t1.tb P hP).1; exact ⟨ps, kept P _ e, q⟩, (t1.tb P hP).2⟩, fun a h z => t1.live a h (none2 a z)⟩
        have rs2 := rs.mono (F' := F1) (H' := H2) (fun _ h => h) fun a o h _ => kept a o h
        have nBx : ¬ B x := fun z => w1.tr x (sB x z) hx
        have rx : RelS K T F1 H2 ((V.ref x :: vs).map some) ((OV.o c [] :: os).map some) (fun a => a = x ∨ B a) :=
          .so (B := fun a => a = x) (.o (B := fun _ => False) atx rfl (by simp) .nil (fun _ h => h.elim) (fun h => h)) rs2 (fun a h z => by rw [h] at z; exact nBx z) (fun _ h => .inl h) (fun _ h => .inr h)
        have hlen : (V.ref x :: vs).length = (OV.o c [] :: os).length := by simp [hl]
        have hln : vs.length = n := by
          rw [← hn ds ars ea]
          have : ∀ {vs : List V} {ars : List Ar}, RAs K T F1 A H1 σ vs ars → vs.length = ars.length := by
            intro vs ars r
            induction r with
            | nil => rfl
            | cons _ _ ih => simp [ih]
          exact this r1
        refine ⟨by rw [List.length_cons, hln], F1, fun a => a = x ∨ B a, OV.o c [] :: os, ⟨t2, relS_start hlen rx, fun a h z => h.elim (fun h => t1.live a z (by rw [h]; exact hx)) fun h => w1.dj a (sB a h) z, fun a h z => h.elim (fun h => t1.tr z (by rw [h]; exact hx)) fun h => w1.at_ a (sB a h) z, fun a h => h.elim (fun h => by rw [h, atx]; simp) fun h z => w1.tr a (sB a h) (none2 a z)⟩, hlen.symm, ?_⟩
        have s0 : (L2.start N (V.ref x :: vs))[0]? = some (some (V.ref x)) := by simp [L2.start]
        have hml : m < vs.length := (List.getElem?_eq_some_iff.mp hm).1
        have sm : (L2.start N (V.ref x :: vs))[m + 1]? = some (some v1) := by
          unfold L2.start
          rw [List.getElem?_append_left (by simpa using hml), List.map_cons, List.getElem?_cons_succ, List.getElem?_map, hm]
          rfl
        have cx : ¬ C x := fun z => w1.tr x (sC x z) hx
        have kC : ∀ {F' H' A'}, Step T F1 H2 (fun a => a = x ∨ B a) F' H' A' → KpA C F1 H1 H' := fun s a o h z => s.keep a o (kept a o h) (fun y => by
          rcases z with z | z | z
          · exact (w1.tabs.tb a y).2 z
          · exact w1.at_ a (sC a z) y
          · exact w1.tabs.nst h z y) fun y => by
          rcases y with y | y
          · rw [y, hx] at h; cases h
          · rcases z with z | z | z
            · exact (w1.dj a (sB a y) z).elim
            · exact (dBC a y z).elim
            · exact z
        have cF : ∀ {F' H' A'}, Step T F1 H2 (fun a => a = x ∨ B a) F' H' A' → Dj C F' := fun s a h z => by
          rcases s.new a z with z | (z | z) | z
          · exact w1.dj a (sC a h) z
          · rw [z] at h; exact cx h
          · exact dBC a z h
          · exact w1.tr a (sC a h) (none2 a z)
        have cL : ∀ {F' H' A'}, Step T F1 H2 (fun a => a = x ∨ B a) F' H' A' → ∀ a, C a → H' a ≠ none := fun {F' H' A'} s a h => by
          cases z : H1 a with
          | none => exact absurd z (w1.tr a (sC a h))
          | some ob => rw [kC s a ob z (.inr (.inl h))]; simp
        have cA : ∀ {F' H' A'}, Step T F1 H2 (fun a => a = x ∨ B a) F' H' A' → Dj A' C := fun s a h z => by
          rcases s.own a h with (y | y) | y
          · rw [y] at z; exact cx z
          · exact dBC a y z
          · exact w1.tr a (sC a z) (none2 a y)
        have up : ∀ {F' H' A' A''}, Step T F1 H2 (fun a => a = x ∨ B a) F' H' A' → Sb A'' A' → Step T F1 H1 A F' H' (fun a => A'' a ∨ C a) := fun s l => ⟨fun a o h nt n => s.keep a o (kept a o h) nt fun z => by
          rcases z with z | z
          · rw [z, hx] at h; cases h
          · exact n (sB a z), s.sub, fun a h => by
          rcases s.new a h with z | (z | z) | z
          · exact .inl z
          · exact .inr (.inr (by rw [z]; exact hx))
          · exact .inr (.inl (sB a z))
          · exact .inr (.inr (none2 a z)), fun a h => by
          rcases h with h | h
          · rcases s.own a (l a h) with (z | z) | z
            · exact .inr (by rw [z]; exact hx)
            · exact .inl (sB a z)
            · exact .inr (none2 a z)
          · exact .inl (sC a h)⟩
        cases es : S (ini N (.o c [] :: os)) with
        | nx ds' =>
          rw [es] at p1
          intro σ' F' H' A' kw s w'
          simp only [makeI] at p1
          split at p1
          · rename_i c' fs o' hd0 hdm
            split at p1
            · exact p1.elim
            · rename_i hm'
              refine ⟨rfl, ?_⟩
              obtain ⟨v0, B0, C0, a1, a2, a3, a4, a5, a6⟩ := w'.rel.take hd0
              rw [kw.at_ 0 h0, s0] at a1
              cases a1
              have hdm' : (ds'.set 0 none)[m + 1]? = some (some o') := by rw [List.getElem?_set_ne (by omega)]; exact hdm
              obtain ⟨v2, B1, C1, b1, b2, b3, b4, b5, b6⟩ := a3.take hdm'
              rw [kw.at_ (m + 1) hm', sm] at b1
              cases b1
              have B1A : Sb B1 A' := fun a h => a6 a (b5 a h)
              have q2 := k F' H' o' B1 s.sub (kC s) b2 fun a h z => cA s a (B1A a h) z
              refine p1 (.ref x) F' H' (fun a => (B0 a ∨ B1 a) ∨ C a) (up s fun a h => h.elim (a5 a) (B1A a)) ⟨w'.tabs, .so (B := B0) (C := fun a => B1 a ∨ C a) a2 q2 ?_ (fun a h => .inl (.inl h)) (fun a h => h.elim (fun h => .inl (.inr h)) .inr), ?_, ?_, ?_⟩
              · rintro a h (z | z)
                · exact a4 a h (b5 a z)
                · exact cA s a (a5 a h) z
              · rintro a ((h | h) | h) z
                · exact w'.dj a (a5 a h) z
                · exact w'.dj a (B1A a h) z
                · exact cF s a h z
              · rintro a ((h | h) | h) z
                · exact w'.at_ a (a5 a h) z
                · exact w'.at_ a (B1A a h) z
                · exact w1.at_ a (sC a h) z
              · rintro a ((h | h) | h)
                · exact w'.tr a (a5 a h)
                · exact w'.tr a (B1A a h)
                · exact cL s a h
          · exact p1.elim
        | rt o ds' => rw [es] at p1; exact p1.elim
        | exc c fs ds' =>
          rw [es] at p1
          simp only [makeI] at p1
          intro cls d σ' F' H' A' s w' rx
          refine p1 cls d F' H' (fun a => False ∨ C a) (up s fun _ h => h.elim) ⟨w'.tabs, ?_, fun a h z => h.elim (fun h => h) fun h => cF s a h z, fun a h z => h.elim (fun h => h) fun h => w1.at_ a (sC a h) z, fun a h => h.elim (fun h => h.elim) (cL s a)⟩ rx
          have : ∀ (σ : HSt) (ds0 : DS), σ.length = ds0.length → RelS K T F' H' σ (forget ds0) (fun a => False ∨ C a) := by
            intro σ
            induction σ with
            | nil => intro ds0 h; cases ds0 with | nil => exact .nil | cons => cases h
            | cons x σ ih => intro ds0 h; cases ds0 with | nil => cases h | cons y ds0 => exact .no (ih ds0 (by simpa using h))
          exact this σ ds w.len
        | bk _ => rw [es] at p1; exact p1.elim
        | ct _ => rw [es] at p1; exact p1.elim
        | bad => rw [es] at p1; exact p1.elim
      · exact p.elim
    · exact p.elim
section
variable {X : Cx} {T : Tb} {W : WX}
theorem do_make {c : Nat} {x : Str} {f : Addr} {k n : Nat} {N : List Str} {wl : List Nat} {S : SS} {e : PySem.Expr} {es : List PySem.Expr} {fa : SAr} {p pos : Pos} (G : FnX X T k f (n + 1) N wl S) (M : Mk X.K (T.ca c) f) (hm : X.mg x = some (.ref (T.ca c))) (hr : Room (k + 1) X.A) (tk : Takes X W) (ha : DAr X T W (e :: es) fa) (hl : arLen n fa) (h0 : 0 ∉ wl) (hN : 0 < N.length)
    (hg : Gl X x := by rfl) (hdb : (x == ("__debug__" : Str)) = false := by decide) (he : starEach (e :: es) X.env = (false, eval e X.env) :: starEach es X.env := by rfl) (hpl : (backTo pos (starEach es X.env)).any (·.1) = false := by rfl) :
    DO X T W (.Call (.Name x p) (e :: es) [] pos) (sMakeI c S N wl fa) := by
  obtain ⟨fd, ps, F, b, kp⟩ := G.ex
  exact PE.imp (pe_makeS M F hr hg hm b (fun σ => passAt tk σ) ha hdb he hpl) fun _ _ _ p => lift_makeI h0 hN hl p
end
end DL
set_option Elab.async false
set_option linter.all false
set_option maxRecDepth 100000
set_option maxHeartbeats 4000000
/-! The D layer, 23: a law's end, from what the head tells. -/
namespace DL
open PySem PySem.Spec PyProof.Rows L2
/-- the tables of the defs that make generators -/
def TBs (K : PySem.W.Frag) (base : Heap) (mg : Str → Option Value) (tf : List He.Defn) : Prop := ∀ p ∈ tf, LamX.TabB base mg (He.cT K p).1 (He.cT K p).2
theorem law_at {l : PySem.W.OpenLaw} {w : World} {mg : Str → Option Value} {h : Heap} {K : PySem.W.Frag} {k : Nat} {fa : List He.Fa} {fn : List He.DefD} {ts : List He.Tab} {tf : List He.Defn} {ex : PySem.W.Frag → Bool} {T : Tb} {a : Addr} {st : Stmt} {N : List Str} {wl : List Nat} {S : SS}
    (KX : K.In h) (c : He.SaysX fa fn ts tf ex w h K) (hfa : a = He.fAd K ("law", none)) (hF : ∃ fd, FunD K "law" "law" (defArgs st) (defBody st) (defScope st) [] [] (He.fAd K ("law", none)) fd)
    (hb : ∀ (kV doc pm : Value) (an : Option Addr) (cdv ct : Value) (us : List Value), us.length = 1 → bindArgs (PySem.W.fnOf "law" "law" (defArgs st) (defBody st) (defScope st) .none kV doc pm an cdv ct) ⟨us, []⟩ = pure ((["script"] : List Str).zip us))
    (hT : T.tab = fun a => a ∈ (tf.map (He.cT K)).map (·.2))
    (hok : ∀ {fd : FuncData} {base : Heap}, FunD K "law" "law" (defArgs st) (defBody st) (defScope st) [] [] (He.fAd K ("law", none)) fd → K.In base → base.Ns mainGlobals mg → TBs K base mg tf → FnOk l.prog w K mg base (L2.CX l.prog w) k (He.fAd K ("law", none)) fd ["script"] (spD K T 1 N wl S))
    (hS : ∀ ns : List Int, ns.length ≤ 63 → (∀ z ∈ ns, Builtin.Int.intBits z ≤ 1048576) → ∃ ds, S (ini N [scr ns]) = .rt (.z (.bl true)) ds) :
    LamX.LawAtS l w K (L2.CX l.prog w) k 63 "script" mg a h := by
  obtain ⟨fd, F⟩ := hF
  subst hfa
  have memT : ∀ p ∈ tf.map (He.cT K), ∃ q ∈ tf, He.cT K q = p := fun p hp => by
    obtain ⟨q, hq, e⟩ := List.mem_map.mp hp
    exact ⟨q, hq, e⟩
  refine ⟨fd, tf.map (He.cT K), spD K T 1 N wl S, fun p hp => ?_, fun p hp => ?_, fun p hp => ?_, fun s u => ?_, ?_, fun base KB GB TB => hok F KB GB fun p hp => TB _ (List.mem_map.mpr ⟨p, hp, rfl⟩)⟩
  · obtain ⟨q, hq, rfl⟩ := memT p hp; exact c.empty q hq
  · obtain ⟨q, hq, rfl⟩ := memT p hp; exact c.out q hq
  · obtain ⟨q, hq, rfl⟩ := memT p hp; exact PySem.W.codeHd_of_K KX (c.hd q hq)
  · exact FunD.bindsA (ps := ["script"]) F hb s [u] rfl
  · exact fun H a ns hl hbits ht hs => law_sp (cs := tf.map (He.cT K)) (fun P => by rw [hT]) hS H a ns hl hbits ht hs
end DL
set_option Elab.async false
set_option linter.all false
set_option maxRecDepth 100000
set_option maxHeartbeats 4000000
/-! The D layer, 24: how the meanings compute, without binders: what follows is applied when it is come to. -/
namespace DL
open PySem PySem.Spec PyProof.Rows L2
def Out.th (o : Out) (g : SS) : Out := match o with
  | .nx ds => g ds
  | o => o
@[simp] theorem th_nx (ds : DS) (g : SS) : (Out.nx ds).th g = g ds := Eq.trans rfl rfl
@[simp] theorem th_rt (o : OV) (ds : DS) (g : SS) : (Out.rt o ds).th g = .rt o ds := Eq.trans rfl rfl
@[simp] theorem th_bk (ds : DS) (g : SS) : (Out.bk ds).th g = .bk ds := Eq.trans rfl rfl
@[simp] theorem th_ct (ds : DS) (g : SS) : (Out.ct ds).th g = .ct ds := Eq.trans rfl rfl
@[simp] theorem th_exc (c fs) (ds : DS) (g : SS) : (Out.exc c fs ds).th g = .exc c fs ds := Eq.trans rfl rfl
@[simp] theorem th_bad (g : SS) : (Out.bad).th g = .bad := Eq.trans rfl rfl
@[simp] theorem sSeq_ap (f g : SS) (ds : DS) : sSeq f g ds = (f ds).th g := by unfold sSeq Out.th; cases f ds <;> rfl
@[simp] theorem sNext_ap (ds : DS) : sNext ds = .nx ds := Eq.trans rfl rfl
@[simp] theorem sBreak_ap (ds : DS) : sBreak ds = .bk ds := Eq.trans rfl rfl
@[simp] theorem sCont_ap (ds : DS) : sCont ds = .ct ds := Eq.trans rfl rfl
@[simp] theorem sBad_ap (ds : DS) : sBad ds = .bad := Eq.trans rfl rfl
@[simp] theorem sRetN_ap (ds : DS) : sRetN ds = .rt (.z .non) ds := Eq.trans rfl rfl
def setO (i : Nat) (ds : DS) : R (OV × DS) → Out
  | .ok p => .nx (p.2.set i (some p.1))
  | .exc c fs => .exc c fs (forget ds)
  | .bad => .bad
def dropO (ds : DS) : R (OV × DS) → Out
  | .ok p => .nx p.2
  | .exc c fs => .exc c fs (forget ds)
  | .bad => .bad
def retO (ds : DS) : R (OV × DS) → Out
  | .ok p => .rt p.1 p.2
  | .exc c fs => .exc c fs (forget ds)
  | .bad => .bad
def ifO (f g : SS) (ds : DS) : R (Bool × DS) → Out
  | .ok p => if p.1 then f p.2 else g p.2
  | .exc c fs => .exc c fs (forget ds)
  | .bad => .bad
@[simp] theorem setO_ok (i : Nat) (ds ds' : DS) (o : OV) : setO i ds (.ok (o, ds')) = .nx (ds'.set i (some o)) := Eq.trans rfl rfl
@[simp] theorem dropO_ok (ds ds' : DS) (o : OV) : dropO ds (.ok (o, ds')) = .nx ds' := Eq.trans rfl rfl
@[simp] theorem retO_ok (ds ds' : DS) (o : OV) : retO ds (.ok (o, ds')) = .rt o ds' := Eq.trans rfl rfl
@[simp] theorem ifO_t (f g : SS) (ds ds' : DS) : ifO f g ds (.ok (true, ds')) = f ds' := Eq.trans rfl rfl
@[simp] theorem ifO_f (f g : SS) (ds ds' : DS) : ifO f g ds (.ok (false, ds')) = g ds' := Eq.trans rfl rfl
theorem ifO_b (f g : SS) (ds ds' : DS) (b : Bool) : ifO f g ds (.ok (b, ds')) = if b then f ds' else g ds' := rfl
@[simp] theorem sSet_ap (i : Nat) (f : SO) (ds : DS) : sSet i f ds = setO i ds (f ds) := by unfold sSet; cases f ds <;> rfl
@[simp] theorem sDrop_ap (f : SO) (ds : DS) : sDrop f ds = dropO ds (f ds) := by unfold sDrop; cases f ds <;> rfl
@[simp] theorem sRet_ap (f : SO) (ds : DS) : sRet f ds = retO ds (f ds) := by unfold sRet; cases f ds <;> rfl
@[simp] theorem sIfS_ap (t : ST) (f g : SS) (ds : DS) : sIfS t f g ds = ifO f g ds (t ds) := by unfold sIfS; cases t ds <;> rfl
@[simp] theorem zFrz_ap (i : Nat) (f : SS) (ds : DS) : zFrz i f ds = f (frzAt i ds) := Eq.trans rfl rfl
def tpR (ds : DS) : R Bool → R (Bool × DS)
  | .ok b => .ok (b, ds)
  | .exc c fs => .exc c fs
  | .bad => .bad
@[simp] theorem tpR_ok (ds : DS) (b : Bool) : tpR ds (.ok b) = .ok (b, ds) := Eq.trans rfl rfl
@[simp] theorem tP_ap (f : SB) (ds : DS) : tP f ds = tpR ds (f ds) := by unfold tP; cases f ds <;> rfl
def pvR : R OV → R Bool
  | .ok o => bOf o
  | .exc c fs => .exc c fs
  | .bad => .bad
@[simp] theorem pvR_ok (b : Bool) : pvR (.ok (.z (.bl b))) = .ok b := Eq.trans rfl rfl
@[simp] theorem pV_ap (f : SE) (ds : DS) : pV f ds = pvR (f ds) := by unfold pV; cases f ds <;> rfl
def notR : R Bool → R Bool
  | .ok b => .ok (!b)
  | .exc c fs => .exc c fs
  | .bad => .bad
def andR (g : SB) (ds : DS) : R Bool → R Bool
  | .ok b => if b then g ds else .ok false
  | .exc c fs => .exc c fs
  | .bad => .bad
def orR (g : SB) (ds : DS) : R Bool → R Bool
  | .ok b => if b then .ok true else g ds
  | .exc c fs => .exc c fs
  | .bad => .bad
@[simp] theorem notR_ok (b : Bool) : notR (.ok b) = .ok (!b) := Eq.trans rfl rfl
@[simp] theorem andR_t (g : SB) (ds : DS) : andR g ds (.ok true) = g ds := Eq.trans rfl rfl
@[simp] theorem andR_f (g : SB) (ds : DS) : andR g ds (.ok false) = .ok false := Eq.trans rfl rfl
@[simp] theorem orR_t (g : SB) (ds : DS) : orR g ds (.ok true) = .ok true := Eq.trans rfl rfl
@[simp] theorem orR_f (g : SB) (ds : DS) : orR g ds (.ok false) = g ds := Eq.trans rfl rfl
theorem andR_b (g : SB) (ds : DS) (b c : Bool) (h : g ds = .ok c) : andR g ds (.ok b) = .ok (b && c) := by cases b <;> simp [andR, h]
theorem orR_b (g : SB) (ds : DS) (b c : Bool) (h : g ds = .ok c) : orR g ds (.ok b) = .ok (b || c) := by cases b <;> simp [orR, h]
@[simp] theorem pNot_ap (f : SB) (ds : DS) : pNot f ds = notR (f ds) := by unfold pNot; cases f ds <;> rfl
@[simp] theorem pAnd_ap (f g : SB) (ds : DS) : pAnd f g ds = andR g ds (f ds) := by unfold pAnd; cases f ds <;> rfl
@[simp] theorem pOr_ap (f g : SB) (ds : DS) : pOr f g ds = orR g ds (f ds) := by unfold pOr; cases f ds <;> rfl
@[simp] theorem bYes_ap (ds : DS) : bYes ds = .ok true := Eq.trans rfl rfl
@[simp] theorem sC_ap (d : D) (ds : DS) : sC d ds = .ok (.z d) := Eq.trans rfl rfl
@[simp] theorem aNil_ap (ds : DS) : aNil ds = .ok [] := Eq.trans rfl rfl
def consR : R OV → R (List OV) → R (List OV)
  | .ok o, .ok os => .ok (o :: os)
  | .ok _, r => r
  | .exc c fs, _ => .exc c fs
  | .bad, _ => .bad
@[simp] theorem consR_ok (o : OV) (os : List OV) : consR (.ok o) (.ok os) = .ok (o :: os) := Eq.trans rfl rfl
@[simp] theorem aCons_ap (f : SE) (g : SA) (ds : DS) : aCons f g ds = consR (f ds) (g ds) := by
  unfold aCons
  cases f ds with
  | ok o => cases g ds <;> rfl
  | _ => rfl
def gR (g : List OV → R OV) : R (List OV) → R OV
  | .ok os => g os
  | .exc c fs => .exc c fs
  | .bad => .bad
def gfR (g : List OV → R (List D)) : R (List OV) → R OV
  | .ok os => match g os with
    | .ok xs => .ok (.l (xs.map .z))
    | .exc c fs => .exc c fs
    | .bad => .bad
  | .exc c fs => .exc c fs
  | .bad => .bad
@[simp] theorem gR_ok (g : List OV → R OV) (os : List OV) : gR g (.ok os) = g os := Eq.trans rfl rfl
theorem gfR_ok {g : List OV → R (List D)} {os : List OV} {xs : List D} (h : g os = .ok xs) : gfR g (.ok os) = .ok (.l (xs.map .z)) := by simp only [gfR, h]
@[simp] theorem sCall_ap (g : List OV → R OV) (fa : SA) (ds : DS) : sCall g fa ds = gR g (fa ds) := by unfold sCall; cases fa ds <;> rfl
@[simp] theorem sCallF_ap (g : List OV → R (List D)) (fa : SA) (ds : DS) : sCallF g fa ds = gfR g (fa ds) := by
  unfold sCallF gfR
  cases fa ds with
  | ok os => simp only [R.bind]; cases g os <;> rfl
  | _ => rfl
def ap1 (g : OV → R OV) : R OV → R OV
  | .ok o => g o
  | .exc c fs => .exc c fs
  | .bad => .bad
def ap2 (g : OV → OV → R OV) : R OV → R OV → R OV
  | .ok a, .ok b => g a b
  | .ok _, r => r
  | .exc c fs, _ => .exc c fs
  | .bad, _ => .bad
@[simp] theorem ap1_ok (g : OV → R OV) (o : OV) : ap1 g (.ok o) = g o := Eq.trans rfl rfl
@[simp] theorem ap2_ok (g : OV → OV → R OV) (a b : OV) : ap2 g (.ok a) (.ok b) = g a b := Eq.trans rfl rfl
@[simp] theorem s1_ap (g : OV → R OV) (f : SE) (ds : DS) : s1 g f ds = ap1 g (f ds) := by unfold s1; cases f ds <;> rfl
@[simp] theorem s2_ap (g : OV → OV → R OV) (f h : SE) (ds : DS) : s2 g f h ds = ap2 g (f ds) (h ds) := by
  unfold s2
  cases f ds with
  | ok a => cases h ds <;> rfl
  | _ => rfl
def foR (ds : DS) : R OV → R (OV × DS)
  | .ok o => .ok (o, ds)
  | .exc c fs => .exc c fs
  | .bad => .bad
def frzR : R OV → R OV
  | .ok o => .ok (.z o.pure)
  | .exc c fs => .exc c fs
  | .bad => .bad
def zR : R OV → R OV
  | .ok o => zOnly o
  | .exc c fs => .exc c fs
  | .bad => .bad
@[simp] theorem foR_ok (ds : DS) (o : OV) : foR ds (.ok o) = .ok (o, ds) := Eq.trans rfl rfl
@[simp] theorem frzR_ok (o : OV) : frzR (.ok o) = .ok (.z o.pure) := Eq.trans rfl rfl
@[simp] theorem zR_ok (d : D) : zR (.ok (.z d)) = .ok (.z d) := Eq.trans rfl rfl
@[simp] theorem fO_ap (f : SF) (ds : DS) : fO f ds = foR ds (f ds) := by unfold fO; cases f ds <;> rfl
@[simp] theorem fFrz_ap (f : SF) (ds : DS) : fFrz f ds = frzR (f ds) := by unfold fFrz; cases f ds <;> rfl
@[simp] theorem fZ_ap (f : SE) (ds : DS) : fZ f ds = zR (f ds) := by unfold fZ; cases f ds <;> rfl
@[simp] theorem sP_ap (f : SE) (ds : DS) : sP f ds = foR ds (zR (f ds)) := by unfold sP; rw [fO_ap, fZ_ap]
def ifR (f g : SE) (ds : DS) : R Bool → R OV
  | .ok b => if b then f ds else g ds
  | .exc c fs => .exc c fs
  | .bad => .bad
@[simp] theorem ifR_t (f g : SE) (ds : DS) : ifR f g ds (.ok true) = f ds := Eq.trans rfl rfl
@[simp] theorem ifR_f (f g : SE) (ds : DS) : ifR f g ds (.ok false) = g ds := Eq.trans rfl rfl
@[simp] theorem sIf_ap (t : SB) (f g : SE) (ds : DS) : sIf t f g ds = ifR f g ds (t ds) := by unfold sIf; cases t ds <;> rfl
def vAndR (g : SE) (ds : DS) : R OV → R OV
  | .ok (.z (.bl true)) => g ds
  | .ok (.z (.bl false)) => .ok (.z (.bl false))
  | .ok _ => .bad
  | .exc c fs => .exc c fs
  | .bad => .bad
def vOrR (g : SE) (ds : DS) : R OV → R OV
  | .ok (.z (.bl false)) => g ds
  | .ok (.z (.bl true)) => .ok (.z (.bl true))
  | .ok _ => .bad
  | .exc c fs => .exc c fs
  | .bad => .bad
@[simp] theorem vAndR_t (g : SE) (ds : DS) : vAndR g ds (.ok (.z (.bl true))) = g ds := Eq.trans rfl rfl
@[simp] theorem vAndR_f (g : SE) (ds : DS) : vAndR g ds (.ok (.z (.bl false))) = .ok (.z (.bl false)) := Eq.trans rfl rfl
@[simp] theorem vOrR_f (g : SE) (ds : DS) : vOrR g ds (.ok (.z (.bl false))) = g ds := Eq.trans rfl rfl
@[simp] theorem vOrR_t (g : SE) (ds : DS) : vOrR g ds (.ok (.z (.bl true))) = .ok (.z (.bl true)) := Eq.trans rfl rfl
theorem vAndR_b (g : SE) (ds : DS) (b c : Bool) (h : g ds = .ok (.z (.bl c))) : vAndR g ds (.ok (.z (.bl b))) = .ok (.z (.bl (b && c))) := by cases b <;> simp [h]
theorem vOrR_b (g : SE) (ds : DS) (b c : Bool) (h : g ds = .ok (.z (.bl c))) : vOrR g ds (.ok (.z (.bl b))) = .ok (.z (.bl (b || c))) := by cases b <;> simp [h]
@[simp] theorem vAnd_ap (f g : SE) (ds : DS) : vAnd f g ds = vAndR g ds (f ds) := by
  unfold vAnd
  cases f ds with
  | ok o =>
    cases o with
    | z d => cases d with | bl b => cases b <;> rfl | _ => rfl
    | _ => rfl
  | _ => rfl
@[simp] theorem vOr_ap (f g : SE) (ds : DS) : vOr f g ds = vOrR g ds (f ds) := by
  unfold vOr
  cases f ds with
  | ok o =>
    cases o with
    | z d => cases d with | bl b => cases b <;> rfl | _ => rfl
    | _ => rfl
  | _ => rfl
@[simp] theorem vNot_b (b : Bool) : vNot (.z (.bl b)) = .ok (.z (.bl (!b))) := Eq.trans rfl rfl
@[simp] theorem vNeg_i (b : Int) : vNeg (.z (.int b)) = .ok (.z (.int (-b))) := Eq.trans rfl rfl
@[simp] theorem sVar_0 (x : OV) (r : DS) : sVar 0 (some x :: r) = .ok x := Eq.trans rfl rfl
@[simp] theorem sVar_s (i : Nat) (x : Option OV) (r : DS) : sVar (i + 1) (x :: r) = sVar i r := Eq.trans rfl rfl
def movR (x : Option OV) : R (OV × DS) → R (OV × DS)
  | .ok p => .ok (p.1, x :: p.2)
  | .exc c fs => .exc c fs
  | .bad => .bad
@[simp] theorem movR_ok (x : Option OV) (o : OV) (ds : DS) : movR x (.ok (o, ds)) = .ok (o, x :: ds) := Eq.trans rfl rfl
@[simp] theorem sMove_0 (x : OV) (r : DS) : sMove 0 (some x :: r) = .ok (x, none :: r) := Eq.trans rfl rfl
@[simp] theorem sMove_s (i : Nat) (x : Option OV) (r : DS) : sMove (i + 1) (x :: r) = movR x (sMove i r) := by
  unfold sMove
  simp only [List.getElem?_cons_succ, List.set_cons_succ]
  cases r[i]? with
  | none => rfl
  | some y => cases y <;> rfl
@[simp] theorem pure_z (d : D) : (OV.z d).pure = d := by rw [OV.pure]
@[simp] theorem pure_l (xs : List OV) : (OV.l xs).pure = .lst (pures xs) := by rw [OV.pure]
@[simp] theorem pure_t (xs : List OV) : (OV.t xs).pure = .tup (pures xs) := by rw [OV.pure]
@[simp] theorem pure_o (c : Nat) (xs : List OV) : (OV.o c xs).pure = .obj c (pures xs) := by rw [OV.pure]
@[simp] theorem pures_n : pures [] = [] := by rw [pures]
@[simp] theorem pures_c (x : OV) (xs : List OV) : pures (x :: xs) = x.pure :: pures xs := by rw [pures]
@[simp] theorem pures_mz (ds : List D) : pures (ds.map .z) = ds := pures_z ds
@[simp] theorem frzAt_0 (x : OV) (r : DS) : frzAt 0 (some x :: r) = some (.z x.pure) :: r := Eq.trans rfl rfl
@[simp] theorem frzAt_0n (r : DS) : frzAt 0 (none :: r) = none :: r := Eq.trans rfl rfl
@[simp] theorem frzAt_s (i : Nat) (x : Option OV) (r : DS) : frzAt (i + 1) (x :: r) = x :: frzAt i r := by
  unfold frzAt
  simp only [List.getElem?_cons_succ, List.set_cons_succ]
  cases r[i]? with
  | none => rfl
  | some y => cases y <;> rfl
def cdR (S : SS) (N : List Str) : R (List OV) → R OV
  | .ok os => resF (os.all isZ) (S (ini N (os.map frzO)))
  | .exc c fs => .exc c fs
  | .bad => .bad
@[simp] theorem cdR_ok (S : SS) (N : List Str) (os : List OV) : cdR S N (.ok os) = resF (os.all isZ) (S (ini N (os.map frzO))) := Eq.trans rfl rfl
@[simp] theorem sCallD_ap (S : SS) (N : List Str) (fa : SA) (ds : DS) : sCallD S N fa ds = cdR S N (fa ds) := by unfold sCallD; cases fa ds <;> rfl
def mdR (c : Nat) (S : SS) (N : List Str) : R OV → R (List OV) → R OV
  | .ok o, .ok os => if isC c o then resF ((o :: os).all isZ) (S (ini N ((o :: os).map frzO))) else .bad
  | .ok o, .exc c' fs => if isC c o then .exc c' fs else .bad
  | .ok _, .bad => .bad
  | .exc c fs, _ => .exc c fs
  | .bad, _ => .bad
@[simp] theorem sMethD_ap (c : Nat) (S : SS) (N : List Str) (fo : SE) (fa : SA) (ds : DS) : sMethD c S N fo fa ds = mdR c S N (fo ds) (fa ds) := by
  unfold sMethD mdR
  cases fo ds with
  | ok o =>
    cases fa ds with
    | ok os => rfl
    | exc c' fs => rfl
    | bad => simp [R.bind]
  | _ => rfl
def mkR (c : Nat) (S : SS) (N : List Str) : R (List OV) → R OV
  | .ok os => if os.all isZ then makeO (S (ini N (.o c [] :: os.map frzO))) else .bad
  | .exc c fs => .exc c fs
  | .bad => .bad
@[simp] theorem sMakeD_ap (c : Nat) (S : SS) (N : List Str) (fa : SA) (ds : DS) : sMakeD c S N fa ds = mkR c S N (fa ds) := by unfold sMakeD; cases fa ds <;> rfl
@[simp] theorem frzO_z (d : D) : frzO (.z d) = .z d := by simp [frzO]
@[simp] theorem frzO_l (xs : List OV) : frzO (.l xs) = .z (.lst (pures xs)) := by simp [frzO]
@[simp] theorem isZ_z (d : D) : isZ (.z d) = true := Eq.trans rfl rfl
@[simp] theorem isZ_l (d : List OV) : isZ (.l d) = false := Eq.trans rfl rfl
@[simp] theorem isZ_o (c) (d : List OV) : isZ (.o c d) = false := Eq.trans rfl rfl
@[simp] theorem resF_rt_t (o : OV) (ds : DS) : resF true (.rt o ds) = .ok o := Eq.trans rfl rfl
@[simp] theorem resF_nx (b : Bool) (ds : DS) : resF b (.nx ds) = .ok (.z .non) := Eq.trans rfl rfl
@[simp] theorem flat_int (i : Int) : (D.int i).flat = true := Eq.trans rfl rfl
@[simp] theorem flat_bl (i : Bool) : (D.bl i).flat = true := Eq.trans rfl rfl
@[simp] theorem flat_non : (D.non).flat = true := Eq.trans rfl rfl
@[simp] theorem flat_str (i : List Nat) : (D.str i).flat = true := Eq.trans rfl rfl
@[simp] theorem resF_rt_f (d : D) (ds : DS) (h : d.flat = true) : resF false (.rt (.z d) ds) = .ok (.z d) := by simp [resF, h]
theorem resF_rt (b : Bool) (d : D) (ds : DS) (h : d.flat = true) : resF b (.rt (.z d) ds) = .ok (.z d) := by cases b <;> simp [h]
@[simp] theorem gAdd_ii (i j : Int) : gAdd (.z (.int i)) (.z (.int j)) = .ok (.z (.int (i + j))) := Eq.trans rfl rfl
@[simp] theorem gSub_ii (i j : Int) : gSub (.z (.int i)) (.z (.int j)) = .ok (.z (.int (i - j))) := Eq.trans rfl rfl
@[simp] theorem gInt_i (i : Int) : gInt [.z (.int i)] = .ok (.z (.int i)) := Eq.trans rfl rfl
@[simp] theorem gInt_b (b : Bool) : gInt [.z (.bl b)] = .ok (.z (.int (if b then 1 else 0))) := Eq.trans rfl rfl
@[simp] theorem gLt_ii (i j : Int) : gLt (.z (.int i)) (.z (.int j)) = .ok (.z (.bl (decide (i < j)))) := Eq.trans rfl rfl
@[simp] theorem gLe_ii (i j : Int) : gLe (.z (.int i)) (.z (.int j)) = .ok (.z (.bl (decide (i ≤ j)))) := Eq.trans rfl rfl
@[simp] theorem gGt_ii (i j : Int) : gGt (.z (.int i)) (.z (.int j)) = .ok (.z (.bl (decide (j < i)))) := Eq.trans rfl rfl
@[simp] theorem gGe_ii (i j : Int) : gGe (.z (.int i)) (.z (.int j)) = .ok (.z (.bl (decide (j ≤ i)))) := Eq.trans rfl rfl
@[simp] theorem gMax2_ii (i j : Int) : gMax2 [.z (.int i), .z (.int j)] = .ok (.z (.int (max i j))) := by
  show (R.ok (OV.z (.int (if j > i then j else i))) : R OV) = _
  by_cases h : j > i
  · rw [if_pos h, Int.max_eq_right (by omega)]
  · rw [if_neg h, Int.max_eq_left (by omega)]
@[simp] theorem gMin2_ii (i j : Int) : gMin2 [.z (.int i), .z (.int j)] = .ok (.z (.int (min i j))) := by
  show (R.ok (OV.z (.int (if j < i then j else i))) : R OV) = _
  by_cases h : j < i
  · rw [if_pos h, Int.min_eq_right (by omega)]
  · rw [if_neg h, Int.min_eq_left (by omega)]

/-! ### equality -/
theorem eqv_refl {n : Nat} {a : D} (h : okd n a = true) : a.eqv a = true := PySem.SeqAt.eqv_refl_plain _ (plain_okd _ h).1
theorem gEq_refl {a b : OV} (h : a.pure = b.pure) (k : okd 60 a.pure = true) : gEq a b = .ok (.z (.bl true)) := by
  unfold gEq
  rw [← h, k, eqv_refl k]
  rfl
theorem gNe_refl {a b : OV} (h : a.pure = b.pure) (k : okd 60 a.pure = true) : gNe a b = .ok (.z (.bl false)) := by
  unfold gNe
  rw [← h, k, eqv_refl k]
  rfl
theorem str_mk_eq (i j : List Nat) : ((⟨i.toArray⟩ : Str) == ⟨j.toArray⟩) = decide (i = j) := by
  rw [Bool.eq_iff_iff, beq_iff_eq, decide_eq_true_eq]
  constructor
  · intro h; injection h with h; simpa using h
  · intro h; rw [h]
theorem int_beq (i j : Int) : (i == j) = decide (i = j) := by
  rw [Bool.eq_iff_iff, beq_iff_eq, decide_eq_true_eq]
@[simp] theorem gEq_ii (i j : Int) : gEq (.z (.int i)) (.z (.int j)) = .ok (.z (.bl (decide (i = j)))) := by
  simp [gEq, okd, D.eqv, D.py, PyData.eqv, int_beq]
@[simp] theorem gNe_ii (i j : Int) : gNe (.z (.int i)) (.z (.int j)) = .ok (.z (.bl (decide (i ≠ j)))) := by
  simp [gNe, okd, D.eqv, D.py, PyData.eqv, int_beq]
@[simp] theorem gEq_ss (i j : List Nat) : gEq (.z (.str i)) (.z (.str j)) = .ok (.z (.bl (decide (i = j)))) := by
  simp [gEq, okd, D.eqv, D.py, PyData.eqv, str_mk_eq]
@[simp] theorem gNe_ss (i j : List Nat) : gNe (.z (.str i)) (.z (.str j)) = .ok (.z (.bl (decide (i ≠ j)))) := by
  simp [gNe, okd, D.eqv, D.py, PyData.eqv, str_mk_eq]
theorem gMod_ii (i j : Int) (h : 0 < j) : gMod (.z (.int i)) (.z (.int j)) = .ok (.z (.int (i % j))) := by simp [gMod, h]
theorem gDiv_ii (i j : Int) (h : 0 < j) (h2 : j < 1073741824) : gDiv (.z (.int i)) (.z (.int j)) = .ok (.z (.int (i / j))) := by simp [gDiv, h, h2]
theorem gMul_l (i j : Int) (h : small i = true) : gMul (.z (.int i)) (.z (.int j)) = .ok (.z (.int (i * j))) := by simp [gMul, h]
theorem gMul_r (i j : Int) (h : small j = true) : gMul (.z (.int i)) (.z (.int j)) = .ok (.z (.int (i * j))) := by simp [gMul, h]
end DL
set_option Elab.async false
set_option linter.all false
set_option maxRecDepth 100000
set_option maxHeartbeats 4000000
/-! The D layer, 25: loops and comprehensions compute. -/
namespace DL
open PySem PySem.Spec PyProof.Rows L2
@[simp] theorem gOf_ap (f : SZ) (d : D) (ds : DS) : gOf f (.z d) ds = f d ds := by simp [gOf]
@[simp] theorem tzN_ap (i : Nat) (d : D) (ds : DS) : tzN i d ds = some (ds.set i (some (.z d))) := Eq.trans rfl rfl
@[simp] theorem tzNil_ap (ds : DS) : tzNil [] ds = some ds := Eq.trans rfl rfl
@[simp] theorem tzCons_ap (f : SZ) (g : SZs) (x : D) (xs : List D) (ds : DS) : tzCons f g (x :: xs) ds = (f x ds).bind fun ds' => g xs ds' := Eq.trans rfl rfl
@[simp] theorem tzTup_ap (n : Nat) (g : SZs) (xs : List D) (ds : DS) : tzTup n g (.tup xs) ds = if xs.length = n then g xs ds else none := Eq.trans rfl rfl
@[simp] theorem tzTup_kt (n : Nat) (g : SZs) (xs : List D) (ds : DS) : tzTup n g (.kt xs) ds = if xs.length = n then g xs ds else none := Eq.trans rfl rfl
@[simp] theorem its_lst (xs : List D) : OV.its? (.z (.lst xs)) = some xs := Eq.trans rfl rfl
@[simp] theorem its_tup (xs : List D) : OV.its? (.z (.tup xs)) = some xs := Eq.trans rfl rfl
@[simp] theorem its_kt (xs : List D) : OV.its? (.z (.kt xs)) = some xs := Eq.trans rfl rfl
@[simp] theorem its_str (xs : List Nat) : OV.its? (.z (.str xs)) = some (xs.map fun c => .str [c]) := Eq.trans rfl rfl
@[simp] theorem itsA_lst (xs : List D) : OV.itsA? (.z (.lst xs)) = some xs := Eq.trans rfl rfl
@[simp] theorem itsA_tup (xs : List D) : OV.itsA? (.z (.tup xs)) = some xs := Eq.trans rfl rfl
@[simp] theorem itsA_kt (xs : List D) : OV.itsA? (.z (.kt xs)) = some xs := Eq.trans rfl rfl
@[simp] theorem itsA_str (xs : List Nat) : OV.itsA? (.z (.str xs)) = some (xs.map fun c => .str [c]) := Eq.trans rfl rfl
@[simp] theorem itsA_l (xs : List D) : OV.itsA? (.l (xs.map .z)) = some xs := zs_map xs
def izR : R OV → R (List D)
  | .ok o => match o.its? with
    | some xs => .ok xs
    | none => .bad
  | .exc c fs => .exc c fs
  | .bad => .bad
def izaR : R OV → R (List D)
  | .ok o => match o.itsA? with
    | some xs => .ok xs
    | none => .bad
  | .exc c fs => .exc c fs
  | .bad => .bad
@[simp] theorem izR_lst (xs : List D) : izR (.ok (.z (.lst xs))) = .ok xs := Eq.trans rfl rfl
@[simp] theorem izR_tup (xs : List D) : izR (.ok (.z (.tup xs))) = .ok xs := Eq.trans rfl rfl
@[simp] theorem izR_kt (xs : List D) : izR (.ok (.z (.kt xs))) = .ok xs := Eq.trans rfl rfl
@[simp] theorem izR_str (xs : List Nat) : izR (.ok (.z (.str xs))) = .ok (xs.map fun c => .str [c]) := Eq.trans rfl rfl
@[simp] theorem izaR_lst (xs : List D) : izaR (.ok (.z (.lst xs))) = .ok xs := Eq.trans rfl rfl
@[simp] theorem izaR_tup (xs : List D) : izaR (.ok (.z (.tup xs))) = .ok xs := Eq.trans rfl rfl
@[simp] theorem izaR_kt (xs : List D) : izaR (.ok (.z (.kt xs))) = .ok xs := Eq.trans rfl rfl
@[simp] theorem izaR_str (xs : List Nat) : izaR (.ok (.z (.str xs))) = .ok (xs.map fun c => .str [c]) := Eq.trans rfl rfl
@[simp] theorem izaR_l (xs : List D) : izaR (.ok (.l (xs.map .z))) = .ok xs := by simp [izaR]
@[simp] theorem iZ_ap (f : SE) (ds : DS) : iZ f ds = izR (f ds) := by unfold iZ; cases f ds <;> rfl
@[simp] theorem iZA_ap (f : SE) (ds : DS) : iZA f ds = izaR (f ds) := by unfold iZA; cases f ds <;> rfl
def rg1R : R (List OV) → R (List D)
  | .ok [.z (.int j)] => if big62 j then .ok (rng 0 j) else .bad
  | .ok _ => .bad
  | .exc c fs => .exc c fs
  | .bad => .bad
def rg2R : R (List OV) → R (List D)
  | .ok [.z (.int i), .z (.int j)] => if big62 i && big62 j then .ok (rng i j) else .bad
  | .ok _ => .bad
  | .exc c fs => .exc c fs
  | .bad => .bad
theorem rg1R_ok (j : Int) (h : big62 j = true) : rg1R (.ok [.z (.int j)]) = .ok (rng 0 j) := by simp [rg1R, h]
theorem rg2R_ok (i j : Int) (h : big62 i = true) (h2 : big62 j = true) : rg2R (.ok [.z (.int i), .z (.int j)]) = .ok (rng i j) := by simp [rg2R, h, h2]
@[simp] theorem iRng1_ap (f : SA) (ds : DS) : DL.iRng1 f ds = rg1R (f ds) := by
  unfold DL.iRng1
  cases f ds with
  | ok os => simp only [R.bind]; unfold rg1R; split <;> first | rfl | (split <;> rfl) | simp_all
  | _ => rfl
@[simp] theorem iRng2_ap (f : SA) (ds : DS) : DL.iRng2 f ds = rg2R (f ds) := by
  unfold DL.iRng2
  cases f ds with
  | ok os => simp only [R.bind]; unfold rg2R; split <;> first | rfl | (split <;> rfl) | simp_all
  | _ => rfl
def forO (g : SG) (b : SS) (ds : DS) : R (List D) → Out
  | .ok xs => loopL g b xs ds
  | .exc c fs => .exc c fs (forget ds)
  | .bad => .bad
@[simp] theorem forO_ok (g : SG) (b : SS) (ds : DS) (xs : List D) : forO g b ds (.ok xs) = loopL g b xs ds := Eq.trans rfl rfl
@[simp] theorem sFor_ap (f : SI) (g : SG) (b : SS) (ds : DS) : sFor f g b ds = forO g b ds (f ds) := by unfold sFor; cases f ds <;> rfl
def lcEnd : R (List OV) → R OV
  | .ok os => if os.length ≤ sizeLine then .ok (.l os) else .bad
  | _ => .bad
@[simp] theorem lcEnd_ok (os : List OV) : lcEnd (.ok os) = if os.length ≤ sizeLine then .ok (.l os) else .bad := Eq.trans rfl rfl
def lcR (g : SZ) (t : SB) (fe : SF) (dsw : DS) : R (List D) → R OV
  | .ok xs => lcEnd (compL g t fe dsw xs)
  | .exc c fs => .exc c fs
  | .bad => .bad
@[simp] theorem lcR_ok (g : SZ) (t : SB) (fe : SF) (dsw : DS) (xs : List D) : lcR g t fe dsw (.ok xs) = lcEnd (compL g t fe dsw xs) := Eq.trans rfl rfl
@[simp] theorem sLc_ap (it : SI) (g : SZ) (t : SB) (fe : SF) (vs : List Nat) (ds : DS) : sLc it g t fe vs ds = lcR g t fe (wipeD ds vs) (it ds) := by
  unfold sLc
  cases it ds with
  | ok xs => simp only [R.bind, lcR]; cases compL g t fe (wipeD ds vs) xs <;> rfl
  | _ => rfl
@[simp] theorem wipeD_n (ds : DS) : wipeD ds [] = ds := Eq.trans rfl rfl
@[simp] theorem wipeD_c (ds : DS) (v : Nat) (vs : List Nat) : wipeD ds (v :: vs) = (wipeD ds vs).set v none := Eq.trans rfl rfl
theorem compL_filter {α : Type} {g : SZ} {t : SB} {fe : SF} {dsw : DS} (enc : α → D) (p : α → Bool) (f : α → OV) : ∀ (xs : List α), (∀ x ∈ xs, ∃ ds1, g (enc x) dsw = some ds1 ∧ t ds1 = .ok (p x) ∧ (p x = true → fe ds1 = .ok (f x))) → compL g t fe dsw (xs.map enc) = .ok ((xs.filter p).map f)
  | [], _ => rfl
  | x :: xs, h => by
    obtain ⟨ds1, h1, h2, h3⟩ := h x (List.mem_cons_self ..)
    have ih := compL_filter enc p f xs fun y hy => h y (List.mem_cons_of_mem _ hy)
    rw [List.map_cons, compL]
    simp only [h1, h2, R.bind]
    cases hp : p x with
    | true => simp [h3 hp, ih, List.filter_cons, hp, R.bind]
    | false => simp [ih, List.filter_cons, hp]
theorem compL_map {α : Type} {g : SZ} {t : SB} {fe : SF} {dsw : DS} (enc : α → D) (f : α → OV) (xs : List α) (h : ∀ x ∈ xs, ∃ ds1, g (enc x) dsw = some ds1 ∧ t ds1 = .ok true ∧ fe ds1 = .ok (f x)) : compL g t fe dsw (xs.map enc) = .ok (xs.map f) := by
  have := compL_filter (g := g) (t := t) (fe := fe) (dsw := dsw) enc (fun _ => true) f xs fun x hx => by
    obtain ⟨ds1, h1, h2, h3⟩ := h x hx
    exact ⟨ds1, h1, h2, fun _ => h3⟩
  rw [this, List.filter_eq_self.mpr (fun _ _ => rfl)]
/-- a loop that always goes on -/
theorem loop_inv {g : SG} {b : SS} (P : Nat → DS → Prop) : ∀ (xs : List D) (i : Nat) (ds : DS), P i ds → (∀ j x ds, xs[j]? = some x → P (i + j) ds → ∃ ds1 ds2, g (.z x) ds = some ds1 ∧ (b ds1 = .nx ds2 ∨ b ds1 = .ct ds2) ∧ P (i + j + 1) ds2) → ∃ ds', loopL g b xs ds = .nx ds' ∧ P (i + xs.length) ds'
  | [], i, ds, h, _ => ⟨ds, rfl, h⟩
  | x :: xs, i, ds, h, st => by
    obtain ⟨ds1, ds2, h1, h2, h3⟩ := st 0 x ds rfl h
    obtain ⟨ds', h4, h5⟩ := loop_inv P xs (i + 1) ds2 h3 fun j y ds hy hp => by
      have := st (j + 1) y ds (by simpa using hy) (by rw [show i + (j + 1) = i + 1 + j by omega]; exact hp)
      rw [show i + (j + 1) + 1 = i + 1 + j + 1 by omega] at this
      exact this
    refine ⟨ds', ?_, by rw [List.length_cons, show i + (xs.length + 1) = i + 1 + xs.length by omega]; exact h5⟩
    rw [loopL]
    simp only [h1]
    rcases h2 with h2 | h2 <;> simp only [h2, h4]
theorem loop_inv0 {g : SG} {b : SS} (P : Nat → DS → Prop) (xs : List D) (ds : DS) (h : P 0 ds) (st : ∀ j x ds, xs[j]? = some x → P j ds → ∃ ds1 ds2, g (.z x) ds = some ds1 ∧ (b ds1 = .nx ds2 ∨ b ds1 = .ct ds2) ∧ P (j + 1) ds2) : ∃ ds', loopL g b xs ds = .nx ds' ∧ P xs.length ds' := by
  obtain ⟨ds', h1, h2⟩ := loop_inv P xs 0 ds h fun j x ds hx hp => by
    rw [Nat.zero_add] at hp ⊢
    exact st j x ds hx hp
  rw [Nat.zero_add] at h2
  exact ⟨ds', h1, h2⟩
/-- a loop that may go out: where it goes on, P; where it goes out, what comes out is Q's -/
theorem loop_exit {g : SG} {b : SS} (P : Nat → DS → Prop) (Q : Out → Prop) : ∀ (xs : List D) (i : Nat) (ds : DS), P i ds → (∀ j x ds, xs[j]? = some x → P (i + j) ds → ∃ ds1, g (.z x) ds = some ds1 ∧ ((∃ ds2, (b ds1 = .nx ds2 ∨ b ds1 = .ct ds2) ∧ P (i + j + 1) ds2) ∨ (∃ o ds2, b ds1 = .rt o ds2 ∧ Q (.rt o ds2)) ∨ ∃ ds2, b ds1 = .bk ds2 ∧ Q (.nx ds2))) → (∃ ds', loopL g b xs ds = .nx ds' ∧ P (i + xs.length) ds') ∨ ∃ o, loopL g b xs ds = o ∧ Q o
  | [], i, ds, h, _ => .inl ⟨ds, rfl, h⟩
  | x :: xs, i, ds, h, st => by
    obtain ⟨ds1, h1, h2⟩ := st 0 x ds rfl h
    rw [loopL]
    simp only [h1]
    rcases h2 with ⟨ds2, h2, h3⟩ | ⟨o, ds2, h2, h3⟩ | ⟨ds2, h2, h3⟩
    · have ih := loop_exit P Q xs (i + 1) ds2 h3 fun j y ds hy hp => by
        have := st (j + 1) y ds (by simpa using hy) (by rw [show i + (j + 1) = i + 1 + j by omega]; exact hp)
        rw [show i + (j + 1) + 1 = i + 1 + j + 1 by omega] at this
        exact this
      rw [List.length_cons, show i + (xs.length + 1) = i + 1 + xs.length by omega]
      rcases h2 with h2 | h2 <;> simpa only [h2] using ih
    · exact .inr ⟨_, by simp only [h2], h3⟩
    · exact .inr ⟨_, by simp only [h2], h3⟩
theorem rng_at {lo hi : Int} {i : Nat} {d : D} (h : (rng lo hi)[i]? = some d) : d = .int (lo + i) := (rng_get h).2
theorem rng_0 (n : Nat) : rng 0 (n : Int) = (List.range n).map fun k => .int (k : Nat) := by simp [rng]
@[simp] theorem gLen_z (xs : List D) : gLen [.z (.lst xs)] = .ok (.z (.int xs.length)) := Eq.trans rfl rfl
@[simp] theorem gLen_t (xs : List D) : gLen [.z (.tup xs)] = .ok (.z (.int xs.length)) := Eq.trans rfl rfl
@[simp] theorem gLen_r (xs : List D) : gLen [.z (.ro xs)] = .ok (.z (.int xs.length)) := Eq.trans rfl rfl
@[simp] theorem gLen_l (xs : List OV) : gLen [.l xs] = .ok (.z (.int xs.length)) := Eq.trans rfl rfl
theorem gLen_s (s : List Nat) (h : s.length ≤ sizeLine) : gLen [.z (.str s)] = .ok (.z (.int s.length)) := by simp [gLen, OV.len?, h, ofO]
end DL
set_option Elab.async false
set_option linter.all false
set_option maxRecDepth 100000
set_option maxHeartbeats 4000000
/-! The D layer, 26: items, stores compute. -/
namespace DL
open PySem PySem.Spec PyProof.Rows L2
theorem atI_nat {α : Type} {xs : List α} {i : Int} {k : Nat} (hi : i = k) (h : k < xs.length) : atI xs i = xs[k]? := by
  subst hi
  simp [atI, ixN, h]
theorem gIx_lst {xs : List D} {i : Int} {k : Nat} {d : D} (hi : i = k) (h : xs[k]? = some d) : gIx (.z (.lst xs)) (.z (.int i)) = .ok (.z d) := by
  have := (List.getElem?_eq_some_iff.mp h).1
  simp [gIx, OV.seq?, atI_nat hi this, ofO, h]
theorem gIx_ro {xs : List D} {i : Int} {k : Nat} {d : D} (hi : i = k) (h : xs[k]? = some d) : gIx (.z (.ro xs)) (.z (.int i)) = .ok (.z d) := by
  have := (List.getElem?_eq_some_iff.mp h).1
  simp [gIx, OV.seq?, atI_nat hi this, ofO, h]
theorem gIx_tup {xs : List D} {i : Int} {k : Nat} {d : D} (hi : i = k) (h : xs[k]? = some d) : gIx (.z (.tup xs)) (.z (.int i)) = .ok (.z d) := by
  have := (List.getElem?_eq_some_iff.mp h).1
  simp [gIx, OV.seq?, atI_nat hi this, ofO, h]
theorem gIx_kt {xs : List D} {i : Int} {k : Nat} {d : D} (hi : i = k) (h : xs[k]? = some d) : gIx (.z (.kt xs)) (.z (.int i)) = .ok (.z d) := by
  have := (List.getElem?_eq_some_iff.mp h).1
  simp [gIx, OV.seq?, atI_nat hi this, ofO, h]
theorem gIx_l {xs : List OV} {i : Int} {k : Nat} {d : OV} (hi : i = k) (h : xs[k]? = some d) : gIx (.l xs) (.z (.int i)) = .ok d := by
  have := (List.getElem?_eq_some_iff.mp h).1
  simp [gIx, atI_nat hi this, ofO, h]
/-- of literal lists -/
theorem atI_lit {α : Type} (xs : List α) (i : Int) : atI xs i = (ixN xs.length i).bind fun j => xs[j]? := rfl
@[simp] theorem gIx_tl (xs : List D) (i : Int) : gIx (.z (.tup xs)) (.z (.int i)) = ofO .z (atI xs i) := Eq.trans rfl rfl
@[simp] theorem gIx_ll (xs : List D) (i : Int) : gIx (.z (.lst xs)) (.z (.int i)) = ofO .z (atI xs i) := Eq.trans rfl rfl
@[simp] theorem gIx_rl (xs : List D) (i : Int) : gIx (.z (.ro xs)) (.z (.int i)) = ofO .z (atI xs i) := Eq.trans rfl rfl
@[simp] theorem gIx_kl (xs : List D) (i : Int) : gIx (.z (.kt xs)) (.z (.int i)) = ofO .z (atI xs i) := Eq.trans rfl rfl
@[simp] theorem ofO_s {α : Type} (f : α → OV) (a : α) : ofO f (some a) = .ok (f a) := Eq.trans rfl rfl
theorem sAppend_ap {i : Nat} {f : SO} {ds ds' : DS} {os os' : List OV} {o : OV} (h1 : ds[i]? = some (some (.l os'))) (h2 : f ds = .ok (o, ds')) (h3 : ds'[i]? = some (some (.l os))) (h4 : os.length < sizeLine) : sAppend (plV i) f ds = .ok (.z .non, ds'.set i (some (.l (os ++ [o])))) := by
  simp only [sAppend, plV, h1, R.bind, atS, OV.atP, h2, h3, if_pos h4, putS, OV.putP]
/-! the data of a list of whole numbers -/
abbrev iz (xs : List Int) : List OV := xs.map fun d => .z (.int d)
theorem iz_pure (xs : List Int) : pures (iz xs) = xs.map .int := by
  rw [pures_map, List.map_map]
  apply List.map_congr_left
  intro x _
  simp
theorem pmod (a b : Int) (h : 0 < b) : 0 ≤ a % b ∧ a % b < b := ⟨Int.emod_nonneg _ (by omega), Int.emod_lt_of_pos _ h⟩
@[simp] theorem gTup_ap (os : List OV) : gTup os = match zs os with
  | some ds => line ds.length (.z (.tup ds))
  | none => .bad := rfl
@[simp] theorem hLst_ap (os : List OV) : hLst os = match zs os with
  | some ds => if ds.length ≤ sizeLine then .ok ds else .bad
  | none => .bad := rfl
@[simp] theorem zs_n : zs [] = some [] := Eq.trans rfl rfl
theorem zs_c (d : D) (os : List OV) : zs (.z d :: os) = (zs os).map fun ds => d :: ds := rfl
end DL
set_option Elab.async false
set_option linter.all false
set_option maxRecDepth 100000
set_option maxHeartbeats 4000000
/-! The D layer, 27: fields, calls on places compute. -/
namespace DL
open PySem PySem.Spec PyProof.Rows L2
theorem sFSet_ap {c p i : Nat} {fe : SO} {ds ds' : DS} {o : OV} {os : List OV} (h1 : fe ds = .ok (o, ds')) (h2 : ds'[i]? = some (some (.o c os))) (hp : p ≤ os.length) (hl : os.length < 1000) : sFSet c p fe (plV i) ds = .nx (ds'.set i (some (.o c (setF os p o)))) := by
  simp only [sFSet, h1, bindS, plV, h2, atS, OV.atP, putS, OV.putP]
  rw [if_pos ⟨trivial, hp, hl⟩]
theorem sFSet_to {c p i : Nat} {fe : SO} {ds ds' : DS} {o : OV} (os os' : List OV) (h1 : fe ds = .ok (o, ds')) (h2 : ds'[i]? = some (some (.o c os))) (hp : p ≤ os.length) (hl : os.length < 1000) (h3 : setF os p o = os') : sFSet c p fe (plV i) ds = .nx (ds'.set i (some (.o c os'))) := by
  rw [sFSet_ap h1 h2 hp hl, h3]
theorem sMethI0_ap {c i : Nat} {S : SS} {N : List Str} {wl : List Nat} {ds ds' : DS} {o o' : OV} (h1 : ds[i]? = some (some o)) (hc : isC c o = true) (h0 : 0 ∉ wl) (h2 : S (ini N [o]) = .nx ds') (h3 : ds'[0]? = some (some o')) : sMethI c S N wl (rPl (plV i)) arNil ds = .ok (.z .non, ds.set i (some o')) := by
  simp only [sMethI, rPl, plV, h1, R.bind, isCr, atS, OV.atP, hc, if_true, arNil, callI, plOf, List.all_nil, arOs, arO, Option.bind_some, Option.map_some, h2, outI, h3, if_neg h0, putS, OV.putP]
@[simp] theorem gFld_z (c p : Nat) (ds : List D) : gFld c p (.z (.obj c ds)) = ofO .z ds[p]? := by simp only [gFld, if_true]
@[simp] theorem gFld_o (c p : Nat) (os : List OV) : gFld c p (.o c os) = ofO id os[p]? := by simp only [gFld, if_true]
def isNR (neg : Bool) : R OV → R OV
  | .ok (.z .non) => .ok (.z (.bl (neg != true)))
  | .ok _ => .ok (.z (.bl (neg != false)))
  | .exc c fs => .exc c fs
  | .bad => .bad
@[simp] theorem isNR_non (neg : Bool) : isNR neg (.ok (.z .non)) = .ok (.z (.bl (neg != true))) := Eq.trans rfl rfl
@[simp] theorem isNR_tup (neg : Bool) (xs : List D) : isNR neg (.ok (.z (.tup xs))) = .ok (.z (.bl (neg != false))) := Eq.trans rfl rfl
@[simp] theorem isNR_int (neg : Bool) (xs : Int) : isNR neg (.ok (.z (.int xs))) = .ok (.z (.bl (neg != false))) := Eq.trans rfl rfl
@[simp] theorem isNR_lst (neg : Bool) (xs : List D) : isNR neg (.ok (.z (.lst xs))) = .ok (.z (.bl (neg != false))) := Eq.trans rfl rfl
@[simp] theorem isNR_str (neg : Bool) (xs : List Nat) : isNR neg (.ok (.z (.str xs))) = .ok (.z (.bl (neg != false))) := Eq.trans rfl rfl
@[simp] theorem gIsN_ap (neg : Bool) (f : SE) (ds : DS) : gIsN neg f ds = isNR neg (f ds) := by
  unfold gIsN isNR
  cases f ds with
  | ok o =>
    cases o with
    | z d => cases d <;> rfl
    | _ => rfl
  | _ => rfl
@[simp] theorem setF_lt {os : List OV} {p : Nat} {o : OV} (h : p < os.length) : setF os p o = os.set p o := by simp [setF, h]
@[simp] theorem setF_ge {os : List OV} {p : Nat} {o : OV} (h : ¬ p < os.length) : setF os p o = os ++ [o] := by simp [setF, h]
theorem gL1_z {α : Type} {rd : List D → Option α} {f : α → R OV} {ds : List D} {a : α} (h : rd ds = some a) : gL1 rd f [.z (.lst ds)] = f a := by simp [gL1, OV.lst?, h]
theorem min_some {xs : List Int} (h : xs ≠ []) : ∃ m, xs.min? = some m ∧ m ∈ xs ∧ ∀ x ∈ xs, m ≤ x := by
  cases hm : xs.min? with
  | none => simp at hm; exact absurd hm h
  | some m => exact ⟨m, rfl, List.min?_eq_some_iff.mp hm⟩
theorem max_some {xs : List Int} (h : xs ≠ []) : ∃ m, xs.max? = some m ∧ m ∈ xs ∧ ∀ x ∈ xs, x ≤ m := by
  cases hm : xs.max? with
  | none => simp at hm; exact absurd hm h
  | some m => exact ⟨m, rfl, List.max?_eq_some_iff.mp hm⟩
/-- sorted -/
theorem hSorted_z {ds : List D} (h : sortOk ds = true) : hSorted [.z (.lst ds)] = .ok (ds.mergeSort D.le) := by
  simp [hSorted, OV.lst?, h]
/-- what maps back -/
theorem perm_back {α β : Type} {f : α → β} {g : β → α} (hg : ∀ a, g (f a) = a) {xs : List α} {ys : List β} (h : ys.Perm (xs.map f)) : ∃ zs : List α, zs.Perm xs ∧ ys = zs.map f := by
  refine ⟨ys.map g, ?_, ?_⟩
  · have := h.map g
    rw [List.map_map] at this
    have e : xs.map (g ∘ f) = xs := by
      rw [show (g ∘ f) = id from funext hg, List.map_id]
    rw [e] at this
    exact this
  · rw [List.map_map]
    have : ∀ y ∈ ys, f (g y) = y := fun y hy => by
      obtain ⟨a, _, rfl⟩ := List.mem_map.mp (h.mem_iff.mp hy)
      rw [hg]
    have e := List.map_congr_left (f := f ∘ g) (g := id) (l := ys) (fun y hy => this y hy)
    rw [e, List.map_id]
end DL
set_option Elab.async false
set_option linter.all false
set_option maxRecDepth 100000
set_option maxHeartbeats 4000000
/-! The D layer, 28: slices, makers, sorts compute. -/
namespace DL
open PySem PySem.Spec PyProof.Rows L2
theorem cutD_no {α : Type} (xs : List α) : cutD xs none none = xs := by simp [cutD, HT.sIx]
theorem cutD_hi {α : Type} (xs : List α) {i : Int} (k : Nat) (h : i = k) (hk : k ≤ xs.length) : cutD xs none (some i) = xs.take k := by
  subst h
  simp only [cutD, HT.sIx]
  rw [if_neg (by omega), Int.toNat_natCast, Nat.min_eq_left hk]
  simp
theorem cutD_lo {α : Type} (xs : List α) {i : Int} (k : Nat) (h : i = k) (hk : k ≤ xs.length) : cutD xs (some i) none = xs.drop k := by
  subst h
  simp only [cutD, HT.sIx]
  rw [if_neg (by omega), Int.toNat_natCast, Nat.min_eq_left hk, List.take_of_length_le (by simp)]
@[simp] theorem gSlt_lst (xs : List D) (lo hi : Option Int) : gSlt (.z (.lst xs)) lo hi = .ok (.z (.lst (cutD xs lo hi))) := Eq.trans rfl rfl
theorem sSl_at {f : SE} {l h : SPt} {ds : DS} {o : OV} {lo hi : Option Int} (h1 : f ds = .ok o) (h2 : l ds = .ok lo) (h3 : h ds = .ok hi) : sSl f l h ds = gSlt o lo hi := by
  unfold sSl
  rw [h1]
  simp only [R.bind, h2, h3]
@[simp] theorem pNo_ap (ds : DS) : pNo ds = .ok none := Eq.trans rfl rfl
theorem pSo_at {f : SE} {ds : DS} {i : Int} (h : f ds = .ok (.z (.int i))) : pSo f ds = .ok (some i) := by
  unfold pSo
  rw [h]
  rfl
theorem mkR_at {c : Nat} {S : SS} {N : List Str} {os : List OV} {ds : DS} {c' : Nat} {fs : List OV} (hz : os.all isZ = true) (h : S (ini N (.o c [] :: os.map frzO)) = .nx ds) (h0 : ds[0]? = some (some (.o c' fs))) : mkR c S N (.ok os) = .ok (.o c' fs) := by
  simp only [mkR, hz, if_true, h, makeO, h0]
theorem lt_int (a b : Int) : (D.int a).lt (.int b) = decide (a < b) := PySem.W.dataLt_int a b
theorem le_int (a b : Int) : (D.int a).le (.int b) = decide (a ≤ b) := by
  unfold D.le
  rw [lt_int]
  by_cases h : b < a
  · rw [decide_eq_true h, decide_eq_false (by omega)]; rfl
  · rw [decide_eq_false h, decide_eq_true (by omega)]; rfl
theorem sortOk_ints (xs : List Int) : sortOk (xs.map .int) = true := by
  simp [sortOk, noTN, okd]
  intro x _ y _
  rfl
/-- the sorted list of whole numbers -/
def srt (xs : List Int) : List Int := xs.mergeSort fun a b => decide (a ≤ b)
theorem sort_ints (xs : List Int) : (xs.map D.int).mergeSort D.le = (srt xs).map .int := (List.map_mergeSort fun a _ b _ => (le_int a b).symm).symm
theorem srt_perm {xs ys : List Int} (h : xs.Perm ys) : srt xs = srt ys := by
  have tr : ∀ a b c : Int, decide (a ≤ b) = true → decide (b ≤ c) = true → decide (a ≤ c) = true := fun a b c h1 h2 => by simp at *; omega
  have to : ∀ a b : Int, (decide (a ≤ b) || decide (b ≤ a)) = true := fun a b => by simp; omega
  refine List.Perm.eq_of_pairwise (le := fun a b => decide (a ≤ b) = true) (fun a b _ _ h1 h2 => by simp at h1 h2; omega) (List.pairwise_mergeSort tr to xs) (List.pairwise_mergeSort tr to ys) ?_
  exact ((List.mergeSort_perm xs _).trans h).trans (List.mergeSort_perm ys _).symm
theorem gfR_sorted_ints (xs : List Int) : gfR hSorted (.ok [.z (.lst (xs.map .int))]) = .ok (.l ((srt xs).map fun i => .z (.int i))) := by
  rw [gfR_ok (hSorted_z (sortOk_ints xs)), sort_ints, List.map_map]
  rfl
end DL
set_option Elab.async false
set_option linter.all false
set_option maxRecDepth 100000
set_option maxHeartbeats 0
/-! Printed by gen.py: the defs of the law k32_trees_find_boxes. -/
namespace L_k32
open PySem PySem.Spec PyProof.Rows L2 DL
def top (i : Nat) : Stmt := PySem.Challenge.pw_reticle_k32_trees_find_boxes.main.body.getD i (.Pass ⟨0, 0, 0, 0⟩)
/-! ### the head: which defs, which facts -/
abbrev st_law_scale : Stmt := top 16
def dd_law_scale : He.DefD := ⟨("_law_scale", none), "_law_scale", "_law_scale", defArgs st_law_scale, defBody st_law_scale, defScope st_law_scale, [], []⟩
abbrev st_law_draws : Stmt := top 9
def dd_law_draws : He.DefD := ⟨("_law_draws", none), "_law_draws", "_law_draws", defArgs st_law_draws, defBody st_law_draws, defScope st_law_draws, [], []⟩
abbrev st_hull : Stmt := top 3
def dd_hull : He.DefD := ⟨("hull", none), "hull", "hull", defArgs st_hull, defBody st_hull, defScope st_hull, [], []⟩
abbrev st_Tree_divide : Stmt := inClass (top 6) 1
def dd_Tree_divide : He.DefD := ⟨("Tree", some "divide"), "divide", "Tree.divide", defArgs st_Tree_divide, defBody st_Tree_divide, defScope st_Tree_divide, [], []⟩
abbrev st_Tree_init : Stmt := inClass (top 6) 0
def dd_Tree_init : He.DefD := ⟨("Tree", some "__init__"), "__init__", "Tree.__init__", defArgs st_Tree_init, defBody st_Tree_init, defScope st_Tree_init, [], []⟩
abbrev st_law_cell : Stmt := top 8
def dd_law_cell : He.DefD := ⟨("_law_cell", none), "_law_cell", "_law_cell", defArgs st_law_cell, defBody st_law_cell, defScope st_law_cell, [], []⟩
abbrev st_law_box_of : Stmt := top 14
def dd_law_box_of : He.DefD := ⟨("_law_box_of", none), "_law_box_of", "_law_box_of", defArgs st_law_box_of, defBody st_law_box_of, defScope st_law_box_of, [], []⟩
abbrev st_law_is_int : Stmt := top 10
def dd_law_is_int : He.DefD := ⟨("_law_is_int", none), "_law_is_int", "_law_is_int", defArgs st_law_is_int, defBody st_law_is_int, defScope st_law_is_int, [], []⟩
abbrev st_law_is_number : Stmt := top 13
def dd_law_is_number : He.DefD := ⟨("_law_is_number", none), "_law_is_number", "_law_is_number", defArgs st_law_is_number, defBody st_law_is_number, defScope st_law_is_number, [], []⟩
abbrev st_law_boxes : Stmt := top 15
def dd_law_boxes : He.DefD := ⟨("_law_boxes", none), "_law_boxes", "_law_boxes", defArgs st_law_boxes, defBody st_law_boxes, defScope st_law_boxes, [], []⟩
abbrev st_law_scaled : Stmt := top 17
def dd_law_scaled : He.DefD := ⟨("_law_scaled", none), "_law_scaled", "_law_scaled", defArgs st_law_scaled, defBody st_law_scaled, defScope st_law_scaled, [], []⟩
abbrev st_is_box : Stmt := top 1
def dd_is_box : He.DefD := ⟨("is_box", none), "is_box", "is_box", defArgs st_is_box, defBody st_is_box, defScope st_is_box, [], []⟩
abbrev st_overlap : Stmt := top 2
def dd_overlap : He.DefD := ⟨("overlap", none), "overlap", "overlap", defArgs st_overlap, defBody st_overlap, defScope st_overlap, [], []⟩
abbrev st_Tree_collect : Stmt := inClass (top 6) 3
def dd_Tree_collect : He.DefD := ⟨("Tree", some "collect"), "collect", "Tree.collect", defArgs st_Tree_collect, defBody st_Tree_collect, defScope st_Tree_collect, [], []⟩
abbrev st_Tree_find : Stmt := inClass (top 6) 4
def dd_Tree_find : He.DefD := ⟨("Tree", some "find"), "find", "Tree.find", defArgs st_Tree_find, defBody st_Tree_find, defScope st_Tree_find, [], []⟩
abbrev st_Tree_depth : Stmt := inClass (top 6) 2
def dd_Tree_depth : He.DefD := ⟨("Tree", some "depth"), "depth", "Tree.depth", defArgs st_Tree_depth, defBody st_Tree_depth, defScope st_Tree_depth, [], []⟩
abbrev st_law_depth : Stmt := top 19
def dd_law_depth : He.DefD := ⟨("_law_depth", none), "_law_depth", "_law_depth", defArgs st_law_depth, defBody st_law_depth, defScope st_law_depth, [], []⟩
abbrev st_law_ints : Stmt := top 11
def dd_law_ints : He.DefD := ⟨("_law_ints", none), "_law_ints", "_law_ints", defArgs st_law_ints, defBody st_law_ints, defScope st_law_ints, [], []⟩
abbrev st_law_is_list : Stmt := top 12
def dd_law_is_list : He.DefD := ⟨("_law_is_list", none), "_law_is_list", "_law_is_list", defArgs st_law_is_list, defBody st_law_is_list, defScope st_law_is_list, [], []⟩
abbrev st_law_meets : Stmt := top 18
def dd_law_meets : He.DefD := ⟨("_law_meets", none), "_law_meets", "_law_meets", defArgs st_law_meets, defBody st_law_meets, defScope st_law_meets, [], []⟩
abbrev st_law : Stmt := top 20
def dd_law : He.DefD := ⟨("law", none), "law", "law", defArgs st_law, defBody st_law, defScope st_law, [], []⟩
def fn : List He.DefD := [dd_law_scale, dd_law_draws, dd_hull, dd_Tree_divide, dd_Tree_init, dd_law_cell, dd_law_box_of, dd_law_is_int, dd_law_is_number, dd_law_boxes, dd_law_scaled, dd_is_box, dd_overlap, dd_Tree_collect, dd_Tree_find, dd_Tree_depth, dd_law_depth, dd_law_ints, dd_law_is_list, dd_law_meets, dd_law]
def fa : List He.Fa := [.glo "_law_scale", .glo "_law_draws", .glo "hull", .glo "_law_cell", .glo "_law_box_of", .glo "_law_is_int", .glo "_law_is_number", .glo "_law_boxes", .glo "_law_scaled", .glo "is_box", .glo "overlap", .glo "_law_depth", .glo "_law_ints", .glo "_law_is_list", .glo "_law_meets", .glo "law", .glo "Tree", .free "bool", .free "int", .free "isinstance", .free "len", .free "list", .free "max", .free "min", .free "range", .free "sorted", .free "tuple", .int "LEAF_SIZE" (8), .cls "Tree", .mkr "Tree", .meth "Tree" "collect", .meth "Tree" "depth", .meth "Tree" "divide", .meth "Tree" "find", .noat "Tree" "box", .noat "Tree" "parts", .noat "Tree" "rows"]
def clN : Nat → List Str
  | 0 => ["rows", "box", "parts"]
  | _ => []
def clA (K : PySem.W.Frag) : Nat → Addr
  | 0 => He.ga K "Tree"
  | _ => 0
def tf : List He.Defn := []
def exB (K : PySem.W.Frag) : Bool := true
def TT (K : PySem.W.Frag) : Tb := ⟨clA K, clN, fun a => a ∈ (tf.map (He.cT K)).map (·.2)⟩
abbrev N_law_scale : List Str := ["cell", "kind"]
theorem sc_law_scale : FnScope N_law_scale ["cell"] (defScope st_law_scale) := ⟨rfl, rfl, rfl, by decide +kernel, rfl, by decide +kernel, by decide +kernel⟩
abbrev N_law_draws : List Str := ["cell", "count", "rows", "left", "k", "mixed"]
theorem sc_law_draws : FnScope N_law_draws ["cell", "count"] (defScope st_law_draws) := ⟨rfl, rfl, rfl, by decide +kernel, rfl, by decide +kernel, by decide +kernel⟩
abbrev N_hull : List Str := ["boxes", "x0", "y0", "x1", "y1", "box"]
theorem sc_hull : FnScope N_hull ["boxes"] (defScope st_hull) := ⟨rfl, rfl, rfl, by decide +kernel, rfl, by decide +kernel, by decide +kernel⟩
abbrev N_Tree_divide : List Str := ["self", "wide", "ranked", "rows", "half", "number", "box", "middle"]
theorem sc_Tree_divide : FnScope N_Tree_divide ["self"] (defScope st_Tree_divide) := ⟨rfl, rfl, rfl, by decide +kernel, rfl, by decide +kernel, by decide +kernel⟩
abbrev N_Tree_init : List Str := ["self", "rows", "number", "box"]
theorem sc_Tree_init : FnScope N_Tree_init ["self", "rows"] (defScope st_Tree_init) := ⟨rfl, rfl, rfl, by decide +kernel, rfl, by decide +kernel, by decide +kernel⟩
abbrev N_law_cell : List Str := ["script", "k"]
theorem sc_law_cell : FnScope N_law_cell ["script", "k"] (defScope st_law_cell) := ⟨rfl, rfl, rfl, by decide +kernel, rfl, by decide +kernel, by decide +kernel⟩
abbrev N_law_box_of : List Str := ["draw", "more", "x0", "y0"]
theorem sc_law_box_of : FnScope N_law_box_of ["draw", "more"] (defScope st_law_box_of) := ⟨rfl, rfl, rfl, by decide +kernel, rfl, by decide +kernel, by decide +kernel⟩
abbrev N_law_is_int : List Str := ["x"]
theorem sc_law_is_int : FnScope N_law_is_int ["x"] (defScope st_law_is_int) := ⟨rfl, rfl, rfl, by decide +kernel, rfl, by decide +kernel, by decide +kernel⟩
abbrev N_law_is_number : List Str := ["x", "due"]
theorem sc_law_is_number : FnScope N_law_is_number ["x", "due"] (defScope st_law_is_number) := ⟨rfl, rfl, rfl, by decide +kernel, rfl, by decide +kernel, by decide +kernel⟩
abbrev N_law_boxes : List Str := ["cell", "most", "draws", "k"]
theorem sc_law_boxes : FnScope N_law_boxes ["cell", "most"] (defScope st_law_boxes) := ⟨rfl, rfl, rfl, by decide +kernel, rfl, by decide +kernel, by decide +kernel⟩
abbrev N_law_scaled : List Str := ["box", "scale", "side"]
theorem sc_law_scaled : FnScope N_law_scaled ["box", "scale"] (defScope st_law_scaled) := ⟨rfl, rfl, rfl, by decide +kernel, rfl, by decide +kernel, by decide +kernel⟩
abbrev N_is_box : List Str := ["box"]
theorem sc_is_box : FnScope N_is_box ["box"] (defScope st_is_box) := ⟨rfl, rfl, rfl, by decide +kernel, rfl, by decide +kernel, by decide +kernel⟩
abbrev N_overlap : List Str := ["first", "second", "box"]
theorem sc_overlap : FnScope N_overlap ["first", "second"] (defScope st_overlap) := ⟨rfl, rfl, rfl, by decide +kernel, rfl, by decide +kernel, by decide +kernel⟩
abbrev N_Tree_collect : List Str := ["self", "window", "found", "number", "box", "part"]
theorem sc_Tree_collect : FnScope N_Tree_collect ["self", "window", "found"] (defScope st_Tree_collect) := ⟨rfl, rfl, rfl, by decide +kernel, rfl, by decide +kernel, by decide +kernel⟩
abbrev N_Tree_find : List Str := ["self", "window", "found"]
theorem sc_Tree_find : FnScope N_Tree_find ["self", "window"] (defScope st_Tree_find) := ⟨rfl, rfl, rfl, by decide +kernel, rfl, by decide +kernel, by decide +kernel⟩
abbrev N_Tree_depth : List Str := ["self", "part"]
theorem sc_Tree_depth : FnScope N_Tree_depth ["self"] (defScope st_Tree_depth) := ⟨rfl, rfl, rfl, by decide +kernel, rfl, by decide +kernel, by decide +kernel⟩
abbrev N_law_depth : List Str := ["many", "depth", "room", "k"]
theorem sc_law_depth : FnScope N_law_depth ["many"] (defScope st_law_depth) := ⟨rfl, rfl, rfl, by decide +kernel, rfl, by decide +kernel, by decide +kernel⟩
abbrev N_law_ints : List Str := ["x", "kind", "k"]
theorem sc_law_ints : FnScope N_law_ints ["x", "kind"] (defScope st_law_ints) := ⟨rfl, rfl, rfl, by decide +kernel, rfl, by decide +kernel, by decide +kernel⟩
abbrev N_law_is_list : List Str := ["x", "due"]
theorem sc_law_is_list : FnScope N_law_is_list ["x", "due"] (defScope st_law_is_list) := ⟨rfl, rfl, rfl, by decide +kernel, rfl, by decide +kernel, by decide +kernel⟩
abbrev N_law_meets : List Str := ["box", "window"]
theorem sc_law_meets : FnScope N_law_meets ["box", "window"] (defScope st_law_meets) := ⟨rfl, rfl, rfl, by decide +kernel, rfl, by decide +kernel, by decide +kernel⟩
abbrev N_law : List Str := ["script", "scale", "draws", "many", "rows", "k", "box", "handed", "tree", "boxes", "small", "window", "due", "found", "row"]
theorem sc_law : FnScope N_law ["script"] (defScope st_law) := ⟨rfl, rfl, rfl, by decide +kernel, rfl, by decide +kernel, by decide +kernel⟩
section
variable {P : Program} {w : World} {K : PySem.W.Frag} {h : Heap} {mg : Str → Option Value} {base : Heap} (KX : K.In h) (G : h.Ns mainGlobals mg) (c : He.SaysD fa fn K)
include KX G c
theorem gl_law_scale : mg ("_law_scale" : Str) = some (.ref (He.ga K "_law_scale")) := He.glo_ok KX G (c.fact 0 (f := .glo "_law_scale") rfl)
theorem gl_law_draws : mg ("_law_draws" : Str) = some (.ref (He.ga K "_law_draws")) := He.glo_ok KX G (c.fact 1 (f := .glo "_law_draws") rfl)
theorem gl_hull : mg ("hull" : Str) = some (.ref (He.ga K "hull")) := He.glo_ok KX G (c.fact 2 (f := .glo "hull") rfl)
theorem gl_law_cell : mg ("_law_cell" : Str) = some (.ref (He.ga K "_law_cell")) := He.glo_ok KX G (c.fact 3 (f := .glo "_law_cell") rfl)
theorem gl_law_box_of : mg ("_law_box_of" : Str) = some (.ref (He.ga K "_law_box_of")) := He.glo_ok KX G (c.fact 4 (f := .glo "_law_box_of") rfl)
theorem gl_law_is_int : mg ("_law_is_int" : Str) = some (.ref (He.ga K "_law_is_int")) := He.glo_ok KX G (c.fact 5 (f := .glo "_law_is_int") rfl)
theorem gl_law_is_number : mg ("_law_is_number" : Str) = some (.ref (He.ga K "_law_is_number")) := He.glo_ok KX G (c.fact 6 (f := .glo "_law_is_number") rfl)
theorem gl_law_boxes : mg ("_law_boxes" : Str) = some (.ref (He.ga K "_law_boxes")) := He.glo_ok KX G (c.fact 7 (f := .glo "_law_boxes") rfl)
theorem gl_law_scaled : mg ("_law_scaled" : Str) = some (.ref (He.ga K "_law_scaled")) := He.glo_ok KX G (c.fact 8 (f := .glo "_law_scaled") rfl)
theorem gl_is_box : mg ("is_box" : Str) = some (.ref (He.ga K "is_box")) := He.glo_ok KX G (c.fact 9 (f := .glo "is_box") rfl)
theorem gl_overlap : mg ("overlap" : Str) = some (.ref (He.ga K "overlap")) := He.glo_ok KX G (c.fact 10 (f := .glo "overlap") rfl)
theorem gl_law_depth : mg ("_law_depth" : Str) = some (.ref (He.ga K "_law_depth")) := He.glo_ok KX G (c.fact 11 (f := .glo "_law_depth") rfl)
theorem gl_law_ints : mg ("_law_ints" : Str) = some (.ref (He.ga K "_law_ints")) := He.glo_ok KX G (c.fact 12 (f := .glo "_law_ints") rfl)
theorem gl_law_is_list : mg ("_law_is_list" : Str) = some (.ref (He.ga K "_law_is_list")) := He.glo_ok KX G (c.fact 13 (f := .glo "_law_is_list") rfl)
theorem gl_law_meets : mg ("_law_meets" : Str) = some (.ref (He.ga K "_law_meets")) := He.glo_ok KX G (c.fact 14 (f := .glo "_law_meets") rfl)
theorem gl_law : mg ("law" : Str) = some (.ref (He.ga K "law")) := He.glo_ok KX G (c.fact 15 (f := .glo "law") rfl)
theorem gl_Tree : mg ("Tree" : Str) = some (.ref (He.ga K "Tree")) := He.glo_ok KX G (c.fact 16 (f := .glo "Tree") rfl)
theorem fr_bool : mg ("bool" : Str) = none := He.free_ok KX G (c.fact 17 (f := .free "bool") rfl)
theorem fr_int : mg ("int" : Str) = none := He.free_ok KX G (c.fact 18 (f := .free "int") rfl)
theorem fr_isinstance : mg ("isinstance" : Str) = none := He.free_ok KX G (c.fact 19 (f := .free "isinstance") rfl)
theorem fr_len : mg ("len" : Str) = none := He.free_ok KX G (c.fact 20 (f := .free "len") rfl)
theorem fr_list : mg ("list" : Str) = none := He.free_ok KX G (c.fact 21 (f := .free "list") rfl)
theorem fr_max : mg ("max" : Str) = none := He.free_ok KX G (c.fact 22 (f := .free "max") rfl)
theorem fr_min : mg ("min" : Str) = none := He.free_ok KX G (c.fact 23 (f := .free "min") rfl)
theorem fr_range : mg ("range" : Str) = none := He.free_ok KX G (c.fact 24 (f := .free "range") rfl)
theorem fr_sorted : mg ("sorted" : Str) = none := He.free_ok KX G (c.fact 25 (f := .free "sorted") rfl)
theorem fr_tuple : mg ("tuple" : Str) = none := He.free_ok KX G (c.fact 26 (f := .free "tuple") rfl)
theorem ci_LEAF_SIZE : ∃ t, mg ("LEAF_SIZE" : Str) = some (.int (8) t) := He.int_ok KX G (c.fact 27 (f := .int "LEAF_SIZE" (8)) rfl)
theorem cls_Tree : Cls K ((TT K).ca 0) := He.cls_ok (c.fact 28 (f := .cls "Tree") rfl)
theorem mk_Tree : Mk K ((TT K).ca 0) (He.fAd K ("Tree", some "__init__")) := He.mkr_ok (c.fact 29 (f := .mkr "Tree") rfl)
theorem me_Tree_collect : Meth K ((TT K).ca 0) "collect" (He.fAd K ("Tree", some "collect")) := He.meth_ok (c.fact 30 (f := .meth "Tree" "collect") rfl)
theorem me_Tree_depth : Meth K ((TT K).ca 0) "depth" (He.fAd K ("Tree", some "depth")) := He.meth_ok (c.fact 31 (f := .meth "Tree" "depth") rfl)
theorem me_Tree_divide : Meth K ((TT K).ca 0) "divide" (He.fAd K ("Tree", some "divide")) := He.meth_ok (c.fact 32 (f := .meth "Tree" "divide") rfl)
theorem me_Tree_find : Meth K ((TT K).ca 0) "find" (He.fAd K ("Tree", some "find")) := He.meth_ok (c.fact 33 (f := .meth "Tree" "find") rfl)
theorem fd_Tree_box : FdK K (TT K) 0 1 "box" := ⟨cls_Tree KX G c, He.noat_ok (c.fact 34 (f := .noat "Tree" "box") rfl), show (clN 0).Nodup by decide +kernel, rfl⟩
theorem fd_Tree_parts : FdK K (TT K) 0 2 "parts" := ⟨cls_Tree KX G c, He.noat_ok (c.fact 35 (f := .noat "Tree" "parts") rfl), show (clN 0).Nodup by decide +kernel, rfl⟩
theorem fd_Tree_rows : FdK K (TT K) 0 0 "rows" := ⟨cls_Tree KX G c, He.noat_ok (c.fact 36 (f := .noat "Tree" "rows") rfl), show (clN 0).Nodup by decide +kernel, rfl⟩
omit KX G in
theorem df_law_scale : ∃ fd, FunD K "_law_scale" "_law_scale" (defArgs st_law_scale) (defBody st_law_scale) (defScope st_law_scale) [] [] (He.fAd K ("_law_scale", none)) fd := c.def_ 0 (d := dd_law_scale) rfl
omit KX G in
theorem df_law_draws : ∃ fd, FunD K "_law_draws" "_law_draws" (defArgs st_law_draws) (defBody st_law_draws) (defScope st_law_draws) [] [] (He.fAd K ("_law_draws", none)) fd := c.def_ 1 (d := dd_law_draws) rfl
omit KX G in
theorem df_hull : ∃ fd, FunD K "hull" "hull" (defArgs st_hull) (defBody st_hull) (defScope st_hull) [] [] (He.fAd K ("hull", none)) fd := c.def_ 2 (d := dd_hull) rfl
omit KX G in
theorem df_Tree_divide : ∃ fd, FunD K "divide" "Tree.divide" (defArgs st_Tree_divide) (defBody st_Tree_divide) (defScope st_Tree_divide) [] [] (He.fAd K ("Tree", some "divide")) fd := c.def_ 3 (d := dd_Tree_divide) rfl
omit KX G in
theorem df_Tree_init : ∃ fd, FunD K "__init__" "Tree.__init__" (defArgs st_Tree_init) (defBody st_Tree_init) (defScope st_Tree_init) [] [] (He.fAd K ("Tree", some "__init__")) fd := c.def_ 4 (d := dd_Tree_init) rfl
omit KX G in
theorem df_law_cell : ∃ fd, FunD K "_law_cell" "_law_cell" (defArgs st_law_cell) (defBody st_law_cell) (defScope st_law_cell) [] [] (He.fAd K ("_law_cell", none)) fd := c.def_ 5 (d := dd_law_cell) rfl
omit KX G in
theorem df_law_box_of : ∃ fd, FunD K "_law_box_of" "_law_box_of" (defArgs st_law_box_of) (defBody st_law_box_of) (defScope st_law_box_of) [] [] (He.fAd K ("_law_box_of", none)) fd := c.def_ 6 (d := dd_law_box_of) rfl
omit KX G in
theorem df_law_is_int : ∃ fd, FunD K "_law_is_int" "_law_is_int" (defArgs st_law_is_int) (defBody st_law_is_int) (defScope st_law_is_int) [] [] (He.fAd K ("_law_is_int", none)) fd := c.def_ 7 (d := dd_law_is_int) rfl
omit KX G in
theorem df_law_is_number : ∃ fd, FunD K "_law_is_number" "_law_is_number" (defArgs st_law_is_number) (defBody st_law_is_number) (defScope st_law_is_number) [] [] (He.fAd K ("_law_is_number", none)) fd := c.def_ 8 (d := dd_law_is_number) rfl
omit KX G in
theorem df_law_boxes : ∃ fd, FunD K "_law_boxes" "_law_boxes" (defArgs st_law_boxes) (defBody st_law_boxes) (defScope st_law_boxes) [] [] (He.fAd K ("_law_boxes", none)) fd := c.def_ 9 (d := dd_law_boxes) rfl
omit KX G in
theorem df_law_scaled : ∃ fd, FunD K "_law_scaled" "_law_scaled" (defArgs st_law_scaled) (defBody st_law_scaled) (defScope st_law_scaled) [] [] (He.fAd K ("_law_scaled", none)) fd := c.def_ 10 (d := dd_law_scaled) rfl
omit KX G in
theorem df_is_box : ∃ fd, FunD K "is_box" "is_box" (defArgs st_is_box) (defBody st_is_box) (defScope st_is_box) [] [] (He.fAd K ("is_box", none)) fd := c.def_ 11 (d := dd_is_box) rfl
omit KX G in
theorem df_overlap : ∃ fd, FunD K "overlap" "overlap" (defArgs st_overlap) (defBody st_overlap) (defScope st_overlap) [] [] (He.fAd K ("overlap", none)) fd := c.def_ 12 (d := dd_overlap) rfl
omit KX G in
theorem df_Tree_collect : ∃ fd, FunD K "collect" "Tree.collect" (defArgs st_Tree_collect) (defBody st_Tree_collect) (defScope st_Tree_collect) [] [] (He.fAd K ("Tree", some "collect")) fd := c.def_ 13 (d := dd_Tree_collect) rfl
omit KX G in
theorem df_Tree_find : ∃ fd, FunD K "find" "Tree.find" (defArgs st_Tree_find) (defBody st_Tree_find) (defScope st_Tree_find) [] [] (He.fAd K ("Tree", some "find")) fd := c.def_ 14 (d := dd_Tree_find) rfl
omit KX G in
theorem df_Tree_depth : ∃ fd, FunD K "depth" "Tree.depth" (defArgs st_Tree_depth) (defBody st_Tree_depth) (defScope st_Tree_depth) [] [] (He.fAd K ("Tree", some "depth")) fd := c.def_ 15 (d := dd_Tree_depth) rfl
omit KX G in
theorem df_law_depth : ∃ fd, FunD K "_law_depth" "_law_depth" (defArgs st_law_depth) (defBody st_law_depth) (defScope st_law_depth) [] [] (He.fAd K ("_law_depth", none)) fd := c.def_ 16 (d := dd_law_depth) rfl
omit KX G in
theorem df_law_ints : ∃ fd, FunD K "_law_ints" "_law_ints" (defArgs st_law_ints) (defBody st_law_ints) (defScope st_law_ints) [] [] (He.fAd K ("_law_ints", none)) fd := c.def_ 17 (d := dd_law_ints) rfl
omit KX G in
theorem df_law_is_list : ∃ fd, FunD K "_law_is_list" "_law_is_list" (defArgs st_law_is_list) (defBody st_law_is_list) (defScope st_law_is_list) [] [] (He.fAd K ("_law_is_list", none)) fd := c.def_ 18 (d := dd_law_is_list) rfl
omit KX G in
theorem df_law_meets : ∃ fd, FunD K "_law_meets" "_law_meets" (defArgs st_law_meets) (defBody st_law_meets) (defScope st_law_meets) [] [] (He.fAd K ("_law_meets", none)) fd := c.def_ 19 (d := dd_law_meets) rfl
omit KX G in
theorem df_law : ∃ fd, FunD K "law" "law" (defArgs st_law) (defBody st_law) (defScope st_law) [] [] (He.fAd K ("law", none)) fd := c.def_ 20 (d := dd_law) rfl
variable (tb : TBs K base mg tf)
include tb
/-! ### _law_scale -/
def w_law_scale : List Nat := ([1] ++ (([] ++ []) ++ (([] ++ []) ++ [])))
def S_law_scale : SS := (sSeq (sSet 1 (sP (s2 gMod (sCall gInt (aCons (sVar 0) aNil)) (sC (.int 5))))) (sSeq (sIfS (tP (pV (s2 gEq (sVar 1) (sC (.int 1))))) (sRet (sP (sCall gTup (aCons (sC (.int 1)) (aCons (s2 gSub (s2 gMod (s2 gDiv (sCall gInt (aCons (sVar 0) aNil)) (sC (.int 5))) (sC (.int 2000000))) (sC (.int 1000000))) aNil))))) sNext) (sSeq (sIfS (tP (pV (s2 gEq (sVar 1) (sC (.int 2))))) (sRet (sP (sCall gTup (aCons (s2 gAdd (sC (.int 1)) (s2 gMod (s2 gDiv (sCall gInt (aCons (sVar 0) aNil)) (sC (.int 5))) (s2 gPow (sC (.int 10)) (sC (.int 9))))) (aCons (s2 gSub (s2 gMod (s2 gDiv (sCall gInt (aCons (sVar 0) aNil)) (sC (.int 5))) (s2 gPow (sC (.int 10)) (sC (.int 18)))) (s2 gMul (sC (.int 5)) (s2 gPow (sC (.int 10)) (sC (.int 17))))) aNil))))) sNext) (sRet (sP (sCall gTup (aCons (sC (.int 1)) (aCons (sC (.int 0)) aNil))))))))
theorem ok_law_scale : FnD P w K mg base (TT K) 1 (He.fAd K ("_law_scale", none)) 1 N_law_scale w_law_scale S_law_scale :=
  fnD_D (df_law_scale c) sc_law_scale rfl (fun _ _ _ _ _ _ us hl => match us, hl with | [_], _ => rfl) fun cdv A outer s H E hr tk nd hu =>
    (ss_cons (st_set 1 nd (de_o (de_op op_mod o2_mod gMod_nx (de_callT call_int1 cd_int gInt_nx rfl (fr_int KX G c) (by decide +kernel) (da_cons (de_var 0) da_nil)) de_int))) (ss_cons (st_if (db_t (db_cmp (op_eqP hu) o2_eq gEq_nx (de_var 1) de_int (by rfl))) (ss_one (st_ret (de_o (de_tup (da_cons de_int (da_cons (de_op op_sub o2_sub gSub_nx (de_op op_mod o2_mod gMod_nx (de_op op_fdiv o2_div gDiv_nx (de_callT call_int1 cd_int gInt_nx rfl (fr_int KX G c) (by decide +kernel) (da_cons (de_var 0) da_nil)) de_int) de_int) de_int) da_nil)))))) ss_nil) (ss_cons (st_if (db_t (db_cmp (op_eqP hu) o2_eq gEq_nx (de_var 1) de_int (by rfl))) (ss_one (st_ret (de_o (de_tup (da_cons (de_op op_addAll o2_add gAdd_nx de_int (de_op op_mod o2_mod gMod_nx (de_op op_fdiv o2_div gDiv_nx (de_callT call_int1 cd_int gInt_nx rfl (fr_int KX G c) (by decide +kernel) (da_cons (de_var 0) da_nil)) de_int) (de_op op_pow o2_pow gPow_nx de_int de_int))) (da_cons (de_op op_sub o2_sub gSub_nx (de_op op_mod o2_mod gMod_nx (de_op op_fdiv o2_div gDiv_nx (de_callT call_int1 cd_int gInt_nx rfl (fr_int KX G c) (by decide +kernel) (da_cons (de_var 0) da_nil)) de_int) (de_op op_pow o2_pow gPow_nx de_int de_int)) (de_op op_mulAll o2_mul gMul_nx de_int (de_op op_pow o2_pow gPow_nx de_int de_int))) da_nil)))))) ss_nil) (ss_one (st_ret (de_o (de_tup (da_cons de_int (da_cons de_int da_nil)))))))))
/-! ### _law_draws -/
def w_law_draws : List Nat := ([2] ++ ([3] ++ (([4] ++ (([] ++ [3]) ++ ([5] ++ ([5] ++ ([5] ++ []))))) ++ [])))
def L_law_draws0 : SS := (sIfS (tP (pAnd (pV (s2 gGe (sVar 0) (s2 gPow (sC (.int 10)) (sC (.int 18))))) (pV (s2 gGt (sVar 3) (sC (.int 0)))))) (sSeq (sDrop (sAppend (plV 2) (sP (s2 gMod (sCall gInt (aCons (sVar 3) aNil)) (sC (.int 4096)))))) (sSet 3 (sP (s2 gDiv (sVar 3) (sC (.int 4096)))))) (sSeq (sSet 5 (sP (s2 gMod (sCall gInt (aCons (s2 gAdd (s2 gMul (sVar 0) (sC (.int 48271))) (s2 gMul (s2 gAdd (sVar 4) (sC (.int 1))) (sC (.int 69621)))) aNil)) (sC (.int 2147483647))))) (sSeq (sSet 5 (sP (s2 gMod (sCall gInt (aCons (s2 gAdd (s2 gAdd (s2 gMul (sVar 5) (sVar 5)) (s2 gMul (sVar 5) (sC (.int 16807)))) (s2 gMul (sVar 4) (sC (.int 7919)))) aNil)) (sC (.int 2147483629))))) (sSeq (sSet 5 (sP (s2 gMod (sCall gInt (aCons (s2 gAdd (s2 gAdd (s2 gMul (sVar 5) (sVar 5)) (sVar 0)) (s2 gMul (sC (.int 13)) (sVar 4))) aNil)) (sC (.int 2147483587))))) (sDrop (sAppend (plV 2) (sP (s2 gMod (s2 gDiv (sVar 5) (sC (.int 7))) (sC (.int 4096))))))))))
def S_law_draws : SS := (sSeq (sSet 2 (fO (sCallF hLst aNil))) (sSeq (sSet 3 (sP (sVar 0))) (sSeq (sFor (DL.iRng1 (aCons (sVar 1) aNil)) (gOf (tzN 4)) L_law_draws0) (sRet (sMove 2)))))
theorem ok_law_draws : FnD P w K mg base (TT K) 1 (He.fAd K ("_law_draws", none)) 2 N_law_draws w_law_draws S_law_draws :=
  fnD_D (df_law_draws c) sc_law_draws rfl (fun _ _ _ _ _ _ us hl => match us, hl with | [_, _], _ => rfl) fun cdv A outer s H E hr tk nd hu =>
    (ss_cons (st_set 2 nd (df_o (df_lst da_nil))) (ss_cons (st_set 3 nd (de_o (de_var 0))) (ss_cons (st_for (passes_of rfl) rfl (di_range1 (da_cons (de_var 1) da_nil) (hm := fr_range KX G c)) (dg_of (dz_name 4 nd)) (ss_one (st_if (db_t (dbw_t (dbw_and (db_cmp (op_geP hu) o2_ord gOrd_nx (de_var 0) (de_op op_pow o2_pow gPow_nx de_int de_int) (by rfl)) (dbw_and1 (db_cmp (op_gtP hu) o2_ord gOrd_nx (de_var 3) de_int (by rfl)))))) (ss_cons (st_expr (do_append (pl_var 2) (de_m (de_op op_mod o2_mod gMod_nx (de_callT call_int1 cd_int gInt_nx rfl (fr_int KX G c) (by decide +kernel) (da_cons (de_var 3) da_nil)) de_int)))) (ss_one (st_set 3 nd (de_o (de_op op_fdiv o2_div gDiv_nx (de_var 3) de_int))))) (ss_cons (st_set 5 nd (de_o (de_op op_mod o2_mod gMod_nx (de_callT call_int1 cd_int gInt_nx rfl (fr_int KX G c) (by decide +kernel) (da_cons (de_op op_addAll o2_add gAdd_nx (de_op op_mulAll o2_mul gMul_nx (de_var 0) de_int) (de_op op_mulAll o2_mul gMul_nx (de_op op_addAll o2_add gAdd_nx (de_var 4) de_int) de_int)) da_nil)) de_int))) (ss_cons (st_set 5 nd (de_o (de_op op_mod o2_mod gMod_nx (de_callT call_int1 cd_int gInt_nx rfl (fr_int KX G c) (by decide +kernel) (da_cons (de_op op_addAll o2_add gAdd_nx (de_op op_addAll o2_add gAdd_nx (de_op op_mulAll o2_mul gMul_nx (de_var 5) (de_var 5)) (de_op op_mulAll o2_mul gMul_nx (de_var 5) de_int)) (de_op op_mulAll o2_mul gMul_nx (de_var 4) de_int)) da_nil)) de_int))) (ss_cons (st_set 5 nd (de_o (de_op op_mod o2_mod gMod_nx (de_callT call_int1 cd_int gInt_nx rfl (fr_int KX G c) (by decide +kernel) (da_cons (de_op op_addAll o2_add gAdd_nx (de_op op_addAll o2_add gAdd_nx (de_op op_mulAll o2_mul gMul_nx (de_var 5) (de_var 5)) (de_var 0)) (de_op op_mulAll o2_mul gMul_nx de_int (de_var 4))) da_nil)) de_int))) (ss_one (st_expr (do_append (pl_var 2) (de_m (de_op op_mod o2_mod gMod_nx (de_op op_fdiv o2_div gDiv_nx (de_var 5) de_int) de_int))))))))))) (ss_one (st_ret (dm_o (dm_move 2)))))))
/-! ### hull -/
def w_hull : List Nat := ([1] ++ ([2] ++ ([3] ++ ([4] ++ []))))
def S_hull : SS := (sSeq (sSet 1 (sP (sCall gMinL (aCons (fFrz (sLc (iZA (sVar 0)) (tzN 5) bYes (fZ (s2 gIx (sVar 5) (sC (.int 0)))) [5])) aNil)))) (sSeq (sSet 2 (sP (sCall gMinL (aCons (fFrz (sLc (iZA (sVar 0)) (tzN 5) bYes (fZ (s2 gIx (sVar 5) (sC (.int 1)))) [5])) aNil)))) (sSeq (sSet 3 (sP (sCall gMaxL (aCons (fFrz (sLc (iZA (sVar 0)) (tzN 5) bYes (fZ (s2 gIx (sVar 5) (sC (.int 2)))) [5])) aNil)))) (sSeq (sSet 4 (sP (sCall gMaxL (aCons (fFrz (sLc (iZA (sVar 0)) (tzN 5) bYes (fZ (s2 gIx (sVar 5) (sC (.int 3)))) [5])) aNil)))) (sRet (sP (sCall gTup (aCons (sVar 1) (aCons (sVar 2) (aCons (sVar 3) (aCons (sVar 4) aNil)))))))))))
theorem ok_hull : FnD P w K mg base (TT K) 1 (He.fAd K ("hull", none)) 1 N_hull w_hull S_hull :=
  fnD_D (df_hull c) sc_hull rfl (fun _ _ _ _ _ _ us hl => match us, hl with | [_], _ => rfl) fun cdv A outer s H E hr tk nd hu =>
    (ss_cons (st_set 1 nd (de_o (de_callB (cr_min rfl) cd_minL gMinL_nx rfl (fr_min KX G c) (by decide +kernel) (da_cons (df_e (df_lc [("box", 5)] rfl nd (dia_any (de_var 0)) (blkOk_by (own := [("box", 5)]) (N := N_hull) (sc := defScope st_hull) (by decide +kernel)) (fun _ _ _ _ _ => (dz_name 5 nd)) (fun _ _ _ _ _ => dbs_nil) (fun _ _ _ _ _ => (de_f (de_ix (de_var 5) de_int))))) da_nil)))) (ss_cons (st_set 2 nd (de_o (de_callB (cr_min rfl) cd_minL gMinL_nx rfl (fr_min KX G c) (by decide +kernel) (da_cons (df_e (df_lc [("box", 5)] rfl nd (dia_any (de_var 0)) (blkOk_by (own := [("box", 5)]) (N := N_hull) (sc := defScope st_hull) (by decide +kernel)) (fun _ _ _ _ _ => (dz_name 5 nd)) (fun _ _ _ _ _ => dbs_nil) (fun _ _ _ _ _ => (de_f (de_ix (de_var 5) de_int))))) da_nil)))) (ss_cons (st_set 3 nd (de_o (de_callB (cr_max rfl) cd_maxL gMaxL_nx rfl (fr_max KX G c) (by decide +kernel) (da_cons (df_e (df_lc [("box", 5)] rfl nd (dia_any (de_var 0)) (blkOk_by (own := [("box", 5)]) (N := N_hull) (sc := defScope st_hull) (by decide +kernel)) (fun _ _ _ _ _ => (dz_name 5 nd)) (fun _ _ _ _ _ => dbs_nil) (fun _ _ _ _ _ => (de_f (de_ix (de_var 5) de_int))))) da_nil)))) (ss_cons (st_set 4 nd (de_o (de_callB (cr_max rfl) cd_maxL gMaxL_nx rfl (fr_max KX G c) (by decide +kernel) (da_cons (df_e (df_lc [("box", 5)] rfl nd (dia_any (de_var 0)) (blkOk_by (own := [("box", 5)]) (N := N_hull) (sc := defScope st_hull) (by decide +kernel)) (fun _ _ _ _ _ => (dz_name 5 nd)) (fun _ _ _ _ _ => dbs_nil) (fun _ _ _ _ _ => (de_f (de_ix (de_var 5) de_int))))) da_nil)))) (ss_one (st_ret (de_o (de_tup (da_cons (de_var 1) (da_cons (de_var 2) (da_cons (de_var 3) (da_cons (de_var 4) da_nil))))))))))))
/-! ### Tree.divide -/
/-! ### Tree.__init__ -/
def w_Tree_divide : List Nat := ([1] ++ (([2] ++ [2]) ++ ([3] ++ ([4] ++ ([] ++ [])))))
def B_Tree_divide (s_Tree_divide : SS) (s_Tree_init : SS) : SS := (sSeq (sSet 1 (sP (s2 gGe (s2 gSub (s2 gIx (s1 (gFld 0 1) (sVar 0)) (sC (.int 2))) (s2 gIx (s1 (gFld 0 1) (sVar 0)) (sC (.int 0)))) (s2 gSub (s2 gIx (s1 (gFld 0 1) (sVar 0)) (sC (.int 3))) (s2 gIx (s1 (gFld 0 1) (sVar 0)) (sC (.int 1))))))) (sSeq (sIfS (tP (pV (sVar 1))) (sSet 2 (sP (fFrz (sCallF hSorted (aCons (fFrz (sLc (iZA (s1 (gFld 0 0) (sVar 0))) (tzTup 2 (tzCons (tzN 5) (tzCons (tzN 6) tzNil))) bYes (fZ (sCall gTup (aCons (s2 gAdd (s2 gIx (sVar 6) (sC (.int 0))) (s2 gIx (sVar 6) (sC (.int 2)))) (aCons (sVar 5) (aCons (sVar 6) aNil))))) [5, 6])) aNil))))) (sSet 2 (sP (fFrz (sCallF hSorted (aCons (fFrz (sLc (iZA (s1 (gFld 0 0) (sVar 0))) (tzTup 2 (tzCons (tzN 5) (tzCons (tzN 6) tzNil))) bYes (fZ (sCall gTup (aCons (s2 gAdd (s2 gIx (sVar 6) (sC (.int 1))) (s2 gIx (sVar 6) (sC (.int 3)))) (aCons (sVar 5) (aCons (sVar 6) aNil))))) [5, 6])) aNil)))))) (sSeq (sSet 3 (sP (fFrz (sLc (iZA (sVar 2)) (tzTup 3 (tzCons (tzN 7) (tzCons (tzN 5) (tzCons (tzN 6) tzNil)))) bYes (fZ (sCall gTup (aCons (sVar 5) (aCons (sVar 6) aNil)))) [7, 5, 6])))) (sSeq (sSet 4 (sP (s2 gDiv (s2 gAdd (sCall gLen (aCons (sVar 3) aNil)) (sC (.int 1))) (sC (.int 2))))) (sSeq (sFSet 0 2 (fO (sCallF hLst (aCons (fFrz (sMakeD 0 s_Tree_init N_Tree_init (aCons (sSl (sVar 3) pNo (pSo (sVar 4))) aNil))) (aCons (fFrz (sMakeD 0 s_Tree_init N_Tree_init (aCons (sSl (sVar 3) (pSo (sVar 4)) pNo) aNil))) aNil)))) (plV 0)) (sFSet 0 0 (fO (sCallF hLst aNil)) (plV 0)))))))
def w_Tree_init : List Nat := ([] ++ ([] ++ ([] ++ (([] ++ []) ++ ([] ++ [])))))
def B_Tree_init (s_Tree_divide : SS) (s_Tree_init : SS) : SS := (sSeq (sFSet 0 0 (fO (sLc (iZA (sVar 1)) (tzTup 2 (tzCons (tzN 2) (tzCons (tzN 3) tzNil))) bYes (fZ (sCall gTup (aCons (sVar 2) (aCons (sVar 3) aNil)))) [2, 3])) (plV 0)) (sSeq (sFSet 0 1 (sP (sC .non)) (plV 0)) (sSeq (sFSet 0 2 (fO (sCallF hLst aNil)) (plV 0)) (sSeq (sIfS (tP (pV (s2 gGt (sCall gLen (aCons (s1 (gFld 0 0) (sVar 0)) aNil)) (sC (.int 0))))) (sFSet 0 1 (fO (sCallD S_hull N_hull (aCons (fFrz (sLc (iZA (s1 (gFld 0 0) (sVar 0))) (tzTup 2 (tzCons (tzN 2) (tzCons (tzN 3) tzNil))) bYes (fZ (sVar 3)) [2, 3])) aNil))) (plV 0)) sNext) (sIfS (tP (pV (s2 gGt (sCall gLen (aCons (s1 (gFld 0 0) (sVar 0)) aNil)) (sC (.int (8)))))) (sDrop (sMethI 0 s_Tree_divide N_Tree_divide w_Tree_divide (rPl (plV 0)) arNil)) sNext)))))
def R_Tree_divide : Nat → SS × SS
  | 0 => (sBad, sBad)
  | n + 1 => (B_Tree_divide ((R_Tree_divide n).1) ((R_Tree_divide n).2), B_Tree_init ((R_Tree_divide n).1) ((R_Tree_divide n).2))
def S_Tree_divide (n : Nat) : SS := (R_Tree_divide n).1
def S_Tree_init (n : Nat) : SS := (R_Tree_divide n).2
theorem okB_Tree_divide {n : Nat} (hn : 2 ≤ n) {s_Tree_divide s_Tree_init : SS} (h_Tree_divide : FnD P w K mg base (TT K) n (He.fAd K ("Tree", some "divide")) 1 N_Tree_divide w_Tree_divide s_Tree_divide) (h_Tree_init : FnD P w K mg base (TT K) n (He.fAd K ("Tree", some "__init__")) 2 N_Tree_init w_Tree_init s_Tree_init) : FnD P w K mg base (TT K) (n + 2) (He.fAd K ("Tree", some "divide")) 1 N_Tree_divide w_Tree_divide (B_Tree_divide s_Tree_divide s_Tree_init) :=
  fnD_D (df_Tree_divide c) sc_Tree_divide rfl (fun _ _ _ _ _ _ us hl => match us, hl with | [_], _ => rfl) fun cdv A outer s H E hr tk nd hu =>
    (ss_cons (st_set 1 nd (de_o (de_cmp (op_geP hu) o2_ord gOrd_nx (de_op op_sub o2_sub gSub_nx (de_ix (de_fldF 0 1 (de_var 0) (fd_Tree_box KX G c)) de_int) (de_ix (de_fldF 0 1 (de_var 0) (fd_Tree_box KX G c)) de_int)) (de_op op_sub o2_sub gSub_nx (de_ix (de_fldF 0 1 (de_var 0) (fd_Tree_box KX G c)) de_int) (de_ix (de_fldF 0 1 (de_var 0) (fd_Tree_box KX G c)) de_int)) (by rfl)))) (ss_cons (st_if (db_t (db_val (de_var 1))) (ss_one (st_set 2 nd (de_o (df_e (df_callB (cr_sortedD hu) cf_sorted hSorted_nx rfl (fr_sorted KX G c) (by decide +kernel) (da_cons (df_e (df_lc [("number", 5), ("box", 6)] rfl nd (dia_any (de_fldF 0 0 (de_var 0) (fd_Tree_rows KX G c))) (blkOk_by (own := [("number", 5), ("box", 6)]) (N := N_Tree_divide) (sc := defScope st_Tree_divide) (by decide +kernel)) (fun _ _ _ _ _ => (dz_tup 2 rfl (dzs_cons (dz_name 5 nd) (dzs_cons (dz_name 6 nd) dzs_nil)))) (fun _ _ _ _ _ => dbs_nil) (fun _ _ _ _ _ => (de_f (de_tup (da_cons (de_op op_addAll o2_add gAdd_nx (de_ix (de_var 6) de_int) (de_ix (de_var 6) de_int)) (da_cons (de_var 5) (da_cons (de_var 6) da_nil)))))))) da_nil)))))) (ss_one (st_set 2 nd (de_o (df_e (df_callB (cr_sortedD hu) cf_sorted hSorted_nx rfl (fr_sorted KX G c) (by decide +kernel) (da_cons (df_e (df_lc [("number", 5), ("box", 6)] rfl nd (dia_any (de_fldF 0 0 (de_var 0) (fd_Tree_rows KX G c))) (blkOk_by (own := [("number", 5), ("box", 6)]) (N := N_Tree_divide) (sc := defScope st_Tree_divide) (by decide +kernel)) (fun _ _ _ _ _ => (dz_tup 2 rfl (dzs_cons (dz_name 5 nd) (dzs_cons (dz_name 6 nd) dzs_nil)))) (fun _ _ _ _ _ => dbs_nil) (fun _ _ _ _ _ => (de_f (de_tup (da_cons (de_op op_addAll o2_add gAdd_nx (de_ix (de_var 6) de_int) (de_ix (de_var 6) de_int)) (da_cons (de_var 5) (da_cons (de_var 6) da_nil)))))))) da_nil))))))) (ss_cons (st_setLcZ 3 [("middle", 7), ("number", 5), ("box", 6)] rfl nd (sw_true rfl rfl rfl (by decide +kernel)) (dia_any (de_var 2)) (blkOk_by (own := [("middle", 7), ("number", 5), ("box", 6)]) (N := N_Tree_divide) (sc := defScope st_Tree_divide) (by decide +kernel)) (fun _ _ _ _ _ => (dz_tup 3 rfl (dzs_cons (dz_name 7 nd) (dzs_cons (dz_name 5 nd) (dzs_cons (dz_name 6 nd) dzs_nil))))) (fun _ _ _ _ _ => dbs_nil) (fun _ _ _ _ _ => (de_f (de_tup (da_cons (de_var 5) (da_cons (de_var 6) da_nil)))))) (ss_cons (st_set 4 nd (de_o (de_op op_fdiv o2_div gDiv_nx (de_op op_addAll o2_add gAdd_nx (de_callB call_lenAll cd_len gLen_nx rfl (fr_len KX G c) (by decide +kernel) (da_cons (de_var 3) da_nil)) de_int) de_int))) (ss_cons (st_fset 0 2 (fd_Tree_parts KX G c) (df_o (df_lst (da_cons (df_e (df_make (h_Tree_init) (mk_Tree KX G c) (gl_Tree KX G c) (hr.mono (by omega)) tk (da_cons (de_slice (de_var 3) dp_no (dp_so (de_var 4))) da_nil) (aLen_cons aLen_nil) (by decide) (by decide))) (da_cons (df_e (df_make (h_Tree_init) (mk_Tree KX G c) (gl_Tree KX G c) (hr.mono (by omega)) tk (da_cons (de_slice (de_var 3) (dp_so (de_var 4)) dp_no) da_nil) (aLen_cons aLen_nil) (by decide) (by decide))) da_nil)))) (pl_var 0)) (ss_one (st_fset 0 0 (fd_Tree_rows KX G c) (df_o (df_lst da_nil)) (pl_var 0))))))))
theorem okB_Tree_init {n : Nat} (hn : 2 ≤ n) {s_Tree_divide s_Tree_init : SS} (h_Tree_divide : FnD P w K mg base (TT K) n (He.fAd K ("Tree", some "divide")) 1 N_Tree_divide w_Tree_divide s_Tree_divide) (h_Tree_init : FnD P w K mg base (TT K) n (He.fAd K ("Tree", some "__init__")) 2 N_Tree_init w_Tree_init s_Tree_init) : FnD P w K mg base (TT K) (n + 2) (He.fAd K ("Tree", some "__init__")) 2 N_Tree_init w_Tree_init (B_Tree_init s_Tree_divide s_Tree_init) :=
  fnD_D (df_Tree_init c) sc_Tree_init rfl (fun _ _ _ _ _ _ us hl => match us, hl with | [_, _], _ => rfl) fun cdv A outer s H E hr tk nd hu =>
    (ss_cons (st_fset 0 0 (fd_Tree_rows KX G c) (df_o (df_lc [("number", 2), ("box", 3)] rfl nd (dia_any (de_var 1)) (blkOk_by (own := [("number", 2), ("box", 3)]) (N := N_Tree_init) (sc := defScope st_Tree_init) (by decide +kernel)) (fun _ _ _ _ _ => (dz_tup 2 rfl (dzs_cons (dz_name 2 nd) (dzs_cons (dz_name 3 nd) dzs_nil)))) (fun _ _ _ _ _ => dbs_nil) (fun _ _ _ _ _ => (de_f (de_tup (da_cons (de_var 2) (da_cons (de_var 3) da_nil))))))) (pl_var 0)) (ss_cons (st_fset 0 1 (fd_Tree_box KX G c) (de_o de_non) (pl_var 0)) (ss_cons (st_fset 0 2 (fd_Tree_parts KX G c) (df_o (df_lst da_nil)) (pl_var 0)) (ss_cons (st_if (db_t (db_cmp (op_gtP hu) o2_ord gOrd_nx (de_callB call_lenAll cd_len gLen_nx rfl (fr_len KX G c) (by decide +kernel) (da_cons (de_fldF 0 0 (de_var 0) (fd_Tree_rows KX G c)) da_nil)) de_int (by rfl))) (ss_one (st_fset 0 1 (fd_Tree_box KX G c) (df_o (df_call (ok_hull KX G c tb) (gl_hull KX G c) (hr.mono (by omega)) tk (da_cons (df_e (df_lc [("number", 2), ("box", 3)] rfl nd (dia_any (de_fldF 0 0 (de_var 0) (fd_Tree_rows KX G c))) (blkOk_by (own := [("number", 2), ("box", 3)]) (N := N_Tree_init) (sc := defScope st_Tree_init) (by decide +kernel)) (fun _ _ _ _ _ => (dz_tup 2 rfl (dzs_cons (dz_name 2 nd) (dzs_cons (dz_name 3 nd) dzs_nil)))) (fun _ _ _ _ _ => dbs_nil) (fun _ _ _ _ _ => (de_f (de_var 3))))) da_nil) (aLen_cons aLen_nil))) (pl_var 0))) ss_nil) (ss_one (st_if (db_t (db_cmp (op_gtP hu) o2_ord gOrd_nx (de_callB call_lenAll cd_len gLen_nx rfl (fr_len KX G c) (by decide +kernel) (da_cons (de_fldF 0 0 (de_var 0) (fd_Tree_rows KX G c)) da_nil)) (de_globI (ci_LEAF_SIZE KX G c)) (by rfl))) (ss_one (st_expr (do_meth0 (h_Tree_divide) (cls_Tree KX G c) (me_Tree_divide KX G c) (show ("divide" : Str) ∉ clN 0 by decide +kernel) (hr.mono (by omega)) tk (dr_pl (pl_var 0))))) ss_nil))))))
theorem okR_Tree_divide : ∀ n : Nat, FnD P w K mg base (TT K) (2 + 2 * n) (He.fAd K ("Tree", some "divide")) 1 N_Tree_divide w_Tree_divide (S_Tree_divide n) ∧ FnD P w K mg base (TT K) (2 + 2 * n) (He.fAd K ("Tree", some "__init__")) 2 N_Tree_init w_Tree_init (S_Tree_init n)
  | 0 => ⟨(fnD_D (df_Tree_divide c) sc_Tree_divide rfl (fun _ _ _ _ _ _ us hl => match us, hl with | [_], _ => rfl) fun _ _ _ _ _ _ _ _ _ _ => ss_badW : FnD P w K mg base (TT K) 1 _ _ _ _ sBad).mono (by omega), (fnD_D (df_Tree_init c) sc_Tree_init rfl (fun _ _ _ _ _ _ us hl => match us, hl with | [_, _], _ => rfl) fun _ _ _ _ _ _ _ _ _ _ => ss_badW : FnD P w K mg base (TT K) 1 _ _ _ _ sBad).mono (by omega)⟩
  | n + 1 => by
    obtain ⟨h0, h1⟩ := okR_Tree_divide n
    exact ⟨(okB_Tree_divide (n := 2 + 2 * n) KX G c tb (by omega) h0 h1).mono (by omega), (okB_Tree_init (n := 2 + 2 * n) KX G c tb (by omega) h0 h1).mono (by omega)⟩
theorem ok_Tree_divide (n : Nat) : FnD P w K mg base (TT K) (2 + 2 * n) (He.fAd K ("Tree", some "divide")) 1 N_Tree_divide w_Tree_divide (S_Tree_divide n) := (okR_Tree_divide KX G c tb n).1
abbrev fuel_Tree_divide : Nat := 10
theorem ok_Tree_init (n : Nat) : FnD P w K mg base (TT K) (2 + 2 * n) (He.fAd K ("Tree", some "__init__")) 2 N_Tree_init w_Tree_init (S_Tree_init n) := (okR_Tree_divide KX G c tb n).2
abbrev fuel_Tree_init : Nat := 10
/-! ### _law_cell -/
def w_law_cell : List Nat := (([] ++ []) ++ [])
def S_law_cell : SS := (sSeq (sIfS (tP (pV (s2 gLt (sVar 1) (sCall gLen (aCons (sVar 0) aNil))))) (sRet (sP (s2 gIx (sVar 0) (sVar 1)))) sNext) (sRet (sP (sC (.int 0)))))
theorem ok_law_cell : FnD P w K mg base (TT K) 1 (He.fAd K ("_law_cell", none)) 2 N_law_cell w_law_cell S_law_cell :=
  fnD_D (df_law_cell c) sc_law_cell rfl (fun _ _ _ _ _ _ us hl => match us, hl with | [_, _], _ => rfl) fun cdv A outer s H E hr tk nd hu =>
    (ss_cons (st_if (db_t (db_cmp (op_ltP hu) o2_ord gOrd_nx (de_var 1) (de_callB call_lenAll cd_len gLen_nx rfl (fr_len KX G c) (by decide +kernel) (da_cons (de_var 0) da_nil)) (by rfl))) (ss_one (st_ret (de_o (de_ix (de_var 0) (de_var 1))))) ss_nil) (ss_one (st_ret (de_o de_int))))
/-! ### _law_box_of -/
def w_law_box_of : List Nat := ([2] ++ ([3] ++ []))
def S_law_box_of : SS := (sSeq (sSet 2 (sP (s2 gSub (s2 gMod (sVar 0) (sC (.int 11))) (sC (.int 2))))) (sSeq (sSet 3 (sP (s2 gSub (s2 gMod (s2 gDiv (sVar 0) (sC (.int 11))) (sC (.int 11))) (sC (.int 2))))) (sRet (sP (sCall gTup (aCons (sVar 2) (aCons (sVar 3) (aCons (s2 gAdd (s2 gAdd (sVar 2) (sC (.int 1))) (s2 gMod (s2 gDiv (sVar 0) (sC (.int 121))) (sC (.int 6)))) (aCons (s2 gAdd (s2 gAdd (sVar 3) (sC (.int 1))) (s2 gMod (sVar 1) (sC (.int 6)))) aNil)))))))))
theorem ok_law_box_of : FnD P w K mg base (TT K) 1 (He.fAd K ("_law_box_of", none)) 2 N_law_box_of w_law_box_of S_law_box_of :=
  fnD_D (df_law_box_of c) sc_law_box_of rfl (fun _ _ _ _ _ _ us hl => match us, hl with | [_, _], _ => rfl) fun cdv A outer s H E hr tk nd hu =>
    (ss_cons (st_set 2 nd (de_o (de_op op_sub o2_sub gSub_nx (de_op op_mod o2_mod gMod_nx (de_var 0) de_int) de_int))) (ss_cons (st_set 3 nd (de_o (de_op op_sub o2_sub gSub_nx (de_op op_mod o2_mod gMod_nx (de_op op_fdiv o2_div gDiv_nx (de_var 0) de_int) de_int) de_int))) (ss_one (st_ret (de_o (de_tup (da_cons (de_var 2) (da_cons (de_var 3) (da_cons (de_op op_addAll o2_add gAdd_nx (de_op op_addAll o2_add gAdd_nx (de_var 2) de_int) (de_op op_mod o2_mod gMod_nx (de_op op_fdiv o2_div gDiv_nx (de_var 0) de_int) de_int)) (da_cons (de_op op_addAll o2_add gAdd_nx (de_op op_addAll o2_add gAdd_nx (de_var 3) de_int) (de_op op_mod o2_mod gMod_nx (de_var 1) de_int)) da_nil))))))))))
/-! ### _law_is_int -/
def w_law_is_int : List Nat := []
def S_law_is_int : SS := (sRet (sP (vAnd (s1 (gIsT .int) (sVar 0)) (s1 vNot (s1 (gIsT .bl) (sVar 0))))))
theorem ok_law_is_int : FnD P w K mg base (TT K) 1 (He.fAd K ("_law_is_int", none)) 1 N_law_is_int w_law_is_int S_law_is_int :=
  fnD_D (df_law_is_int c) sc_law_is_int rfl (fun _ _ _ _ _ _ us hl => match us, hl with | [_], _ => rfl) fun cdv A outer s H E hr tk nd hu =>
    (ss_one (st_ret (de_o (de_and (de_isT .int (de_var 0) (by decide) rfl (fr_isinstance KX G c) rfl (fr_int KX G c) (by decide +kernel)) (de_one (de_not (de_isT .bl (de_var 0) (by decide) rfl (fr_isinstance KX G c) rfl (fr_bool KX G c) (by decide +kernel))))))))
/-! ### _law_is_number -/
def w_law_is_number : List Nat := []
def S_law_is_number : SS := (sRet (sP (vAnd (fFrz (sCallD S_law_is_int N_law_is_int (aCons (sVar 0) aNil))) (s2 gEq (sVar 0) (sVar 1)))))
theorem ok_law_is_number : FnD P w K mg base (TT K) 2 (He.fAd K ("_law_is_number", none)) 2 N_law_is_number w_law_is_number S_law_is_number :=
  fnD_D (df_law_is_number c) sc_law_is_number rfl (fun _ _ _ _ _ _ us hl => match us, hl with | [_, _], _ => rfl) fun cdv A outer s H E hr tk nd hu =>
    (ss_one (st_ret (de_o (de_and (df_e (df_call (ok_law_is_int KX G c tb) (gl_law_is_int KX G c) (hr.mono (by decide)) tk (da_cons (de_var 0) da_nil) (aLen_cons aLen_nil))) (de_one (de_cmp (op_eqP hu) o2_eq gEq_nx (de_var 0) (de_var 1) (by rfl)))))))
/-! ### _law_boxes -/
def w_law_boxes : List Nat := ([2] ++ [])
def S_law_boxes : SS := (sSeq (sSet 2 (sP (fFrz (sCallD S_law_draws N_law_draws (aCons (sVar 0) (aCons (s2 gAdd (s2 gMul (sC (.int 2)) (sVar 1)) (sC (.int 1))) aNil)))))) (sRet (fO (sLc (DL.iRng1 (aCons (s2 gMod (s2 gIx (sVar 2) (s2 gMul (sC (.int 2)) (sVar 1))) (s2 gAdd (sVar 1) (sC (.int 1)))) aNil)) (tzN 3) bYes (sCallD S_law_box_of N_law_box_of (aCons (s2 gIx (sVar 2) (s2 gMul (sC (.int 2)) (sVar 3))) (aCons (s2 gIx (sVar 2) (s2 gAdd (s2 gMul (sC (.int 2)) (sVar 3)) (sC (.int 1)))) aNil))) [3]))))
theorem ok_law_boxes : FnD P w K mg base (TT K) 2 (He.fAd K ("_law_boxes", none)) 2 N_law_boxes w_law_boxes S_law_boxes :=
  fnD_D (df_law_boxes c) sc_law_boxes rfl (fun _ _ _ _ _ _ us hl => match us, hl with | [_, _], _ => rfl) fun cdv A outer s H E hr tk nd hu =>
    (ss_cons (st_set 2 nd (de_o (df_e (df_call (ok_law_draws KX G c tb) (gl_law_draws KX G c) (hr.mono (by decide)) tk (da_cons (de_var 0) (da_cons (de_op op_addAll o2_add gAdd_nx (de_op op_mulAll o2_mul gMul_nx de_int (de_var 1)) de_int) da_nil)) (aLen_cons (aLen_cons aLen_nil)))))) (ss_one (st_ret (df_o (df_lc [("k", 3)] rfl nd (dia_of (di_range1 (da_cons (de_op op_mod o2_mod gMod_nx (de_ix (de_var 2) (de_op op_mulAll o2_mul gMul_nx de_int (de_var 1))) (de_op op_addAll o2_add gAdd_nx (de_var 1) de_int)) da_nil) (hm := fr_range KX G c))) (blkOk_by (own := [("k", 3)]) (N := N_law_boxes) (sc := defScope st_law_boxes) (by decide +kernel)) (fun _ _ _ _ _ => (dz_name 3 nd)) (fun _ _ _ _ _ => dbs_nil) (fun _ _ _ _ _ => (df_call (ok_law_box_of KX G c tb) (gl_law_box_of KX G c) (hr.mono (by decide)) takes0 (da_cons (de_ix (de_var 2) (de_op op_mulAll o2_mul gMul_nx de_int (de_var 3))) (da_cons (de_ix (de_var 2) (de_op op_addAll o2_add gAdd_nx (de_op op_mulAll o2_mul gMul_nx de_int (de_var 3)) de_int)) da_nil)) (aLen_cons (aLen_cons aLen_nil)))))))))
/-! ### _law_scaled -/
def w_law_scaled : List Nat := []
def S_law_scaled : SS := (sRet (sP (sCall gTupOf (aCons (fFrz (sLc (iZA (sVar 0)) (tzN 2) bYes (fZ (s2 gAdd (s2 gMul (sVar 2) (s2 gIx (sVar 1) (sC (.int 0)))) (s2 gIx (sVar 1) (sC (.int 1))))) [2])) aNil))))
theorem ok_law_scaled : FnD P w K mg base (TT K) 1 (He.fAd K ("_law_scaled", none)) 2 N_law_scaled w_law_scaled S_law_scaled :=
  fnD_D (df_law_scaled c) sc_law_scaled rfl (fun _ _ _ _ _ _ us hl => match us, hl with | [_, _], _ => rfl) fun cdv A outer s H E hr tk nd hu =>
    (ss_one (st_ret (de_o (de_callT call_tuple_of cd_tuple gTupOf_nx rfl (fr_tuple KX G c) (by decide +kernel) (da_cons (df_e (df_lc [("side", 2)] rfl nd (dia_any (de_var 0)) (blkOk_by (own := [("side", 2)]) (N := N_law_scaled) (sc := defScope st_law_scaled) (by decide +kernel)) (fun _ _ _ _ _ => (dz_name 2 nd)) (fun _ _ _ _ _ => dbs_nil) (fun _ _ _ _ _ => (de_f (de_op op_addAll o2_add gAdd_nx (de_op op_mulAll o2_mul gMul_nx (de_var 2) (de_ix (de_var 1) de_int)) (de_ix (de_var 1) de_int)))))) da_nil)))))
/-! ### is_box -/
def w_is_box : List Nat := []
def S_is_box : SS := (sRet (sP (vAnd (s2 gLt (s2 gIx (sVar 0) (sC (.int 0))) (s2 gIx (sVar 0) (sC (.int 2)))) (s2 gLt (s2 gIx (sVar 0) (sC (.int 1))) (s2 gIx (sVar 0) (sC (.int 3)))))))
theorem ok_is_box : FnD P w K mg base (TT K) 1 (He.fAd K ("is_box", none)) 1 N_is_box w_is_box S_is_box :=
  fnD_D (df_is_box c) sc_is_box rfl (fun _ _ _ _ _ _ us hl => match us, hl with | [_], _ => rfl) fun cdv A outer s H E hr tk nd hu =>
    (ss_one (st_ret (de_o (de_and (de_cmp (op_ltP hu) o2_ord gOrd_nx (de_ix (de_var 0) de_int) (de_ix (de_var 0) de_int) (by rfl)) (de_one (de_cmp (op_ltP hu) o2_ord gOrd_nx (de_ix (de_var 0) de_int) (de_ix (de_var 0) de_int) (by rfl)))))))
/-! ### overlap -/
def w_overlap : List Nat := ([2] ++ (([] ++ []) ++ []))
def S_overlap : SS := (sSeq (sSet 2 (sP (sCall gTup (aCons (sCall gMax2 (aCons (s2 gIx (sVar 0) (sC (.int 0))) (aCons (s2 gIx (sVar 1) (sC (.int 0))) aNil))) (aCons (sCall gMax2 (aCons (s2 gIx (sVar 0) (sC (.int 1))) (aCons (s2 gIx (sVar 1) (sC (.int 1))) aNil))) (aCons (sCall gMin2 (aCons (s2 gIx (sVar 0) (sC (.int 2))) (aCons (s2 gIx (sVar 1) (sC (.int 2))) aNil))) (aCons (sCall gMin2 (aCons (s2 gIx (sVar 0) (sC (.int 3))) (aCons (s2 gIx (sVar 1) (sC (.int 3))) aNil))) aNil))))))) (sSeq (sIfS (tP (pV (fFrz (sCallD S_is_box N_is_box (aCons (sVar 2) aNil))))) (sRet (sP (sVar 2))) sNext) (sRet (sP (sC .non)))))
theorem ok_overlap : FnD P w K mg base (TT K) 2 (He.fAd K ("overlap", none)) 2 N_overlap w_overlap S_overlap :=
  fnD_D (df_overlap c) sc_overlap rfl (fun _ _ _ _ _ _ us hl => match us, hl with | [_, _], _ => rfl) fun cdv A outer s H E hr tk nd hu =>
    (ss_cons (st_set 2 nd (de_o (de_tup (da_cons (de_callB (call_max2 rfl) cd_max2 gMax2_nx rfl (fr_max KX G c) (by decide +kernel) (da_cons (de_ix (de_var 0) de_int) (da_cons (de_ix (de_var 1) de_int) da_nil))) (da_cons (de_callB (call_max2 rfl) cd_max2 gMax2_nx rfl (fr_max KX G c) (by decide +kernel) (da_cons (de_ix (de_var 0) de_int) (da_cons (de_ix (de_var 1) de_int) da_nil))) (da_cons (de_callB (call_min2 rfl) cd_min2 gMin2_nx rfl (fr_min KX G c) (by decide +kernel) (da_cons (de_ix (de_var 0) de_int) (da_cons (de_ix (de_var 1) de_int) da_nil))) (da_cons (de_callB (call_min2 rfl) cd_min2 gMin2_nx rfl (fr_min KX G c) (by decide +kernel) (da_cons (de_ix (de_var 0) de_int) (da_cons (de_ix (de_var 1) de_int) da_nil))) da_nil))))))) (ss_cons (st_if (db_t (db_val (df_e (df_call (ok_is_box KX G c tb) (gl_is_box KX G c) (hr.mono (by decide)) tk (da_cons (de_var 2) da_nil) (aLen_cons aLen_nil))))) (ss_one (st_ret (de_o (de_var 2)))) ss_nil) (ss_one (st_ret (de_o de_non)))))
/-! ### Tree.collect -/
def w_Tree_collect : List Nat := (([] ++ []) ++ ((([3] ++ ([4] ++ [])) ++ ([] ++ [])) ++ ([5] ++ [])))
def L_Tree_collect0 (s_Tree_collect : SS) : SS := (sIfS (tP (pV (gIsN true (fFrz (sCallD S_overlap N_overlap (aCons (sVar 4) (aCons (sVar 1) aNil))))))) (sDrop (sAppend (plV 2) (sP (sVar 3)))) sNext)
def L_Tree_collect1 (s_Tree_collect : SS) : SS := (sDrop (sMethI 0 s_Tree_collect N_Tree_collect w_Tree_collect (rPu (sVar 5)) (arCons (rPu (sVar 1)) (arCons (rPl (plV 2)) arNil))))
def B_Tree_collect (s_Tree_collect : SS) : SS := (sSeq (sIfS (tP (pOr (pV (gIsN false (s1 (gFld 0 1) (sVar 0)))) (pV (gIsN false (fFrz (sCallD S_overlap N_overlap (aCons (s1 (gFld 0 1) (sVar 0)) (aCons (sVar 1) aNil)))))))) sRetN sNext) (sSeq (sFor (iZ (s1 (gFld 0 0) (sVar 0))) (gOf (tzTup 2 (tzCons (tzN 3) (tzCons (tzN 4) tzNil)))) (L_Tree_collect0 s_Tree_collect)) (sFor (iZ (s1 (gFld 0 2) (sVar 0))) (gOf (tzN 5)) (L_Tree_collect1 s_Tree_collect))))
def R_Tree_collect : Nat → SS
  | 0 => (sBad)
  | n + 1 => (B_Tree_collect ((R_Tree_collect n)))
def S_Tree_collect (n : Nat) : SS := (R_Tree_collect n)
theorem okB_Tree_collect {n : Nat} (hn : 3 ≤ n) {s_Tree_collect : SS} (h_Tree_collect : FnD P w K mg base (TT K) n (He.fAd K ("Tree", some "collect")) 3 N_Tree_collect w_Tree_collect s_Tree_collect) : FnD P w K mg base (TT K) (n + 2) (He.fAd K ("Tree", some "collect")) 3 N_Tree_collect w_Tree_collect (B_Tree_collect s_Tree_collect) :=
  fnD_D (df_Tree_collect c) sc_Tree_collect rfl (fun _ _ _ _ _ _ us hl => match us, hl with | [_, _, _], _ => rfl) fun cdv A outer s H E hr tk nd hu =>
    (ss_cons (st_if (db_t (dbw_t (dbw_or (db_isN (de_fldF 0 1 (de_var 0) (fd_Tree_box KX G c))) (dbw_or1 (db_isN (df_e (df_call (ok_overlap KX G c tb) (gl_overlap KX G c) (hr.mono (by omega)) tk (da_cons (de_fldF 0 1 (de_var 0) (fd_Tree_box KX G c)) (da_cons (de_var 1) da_nil)) (aLen_cons (aLen_cons aLen_nil))))))))) (ss_one st_retN) ss_nil) (ss_cons (st_for (passes_of rfl) rfl (di_any (de_fldF 0 0 (de_var 0) (fd_Tree_rows KX G c))) (dg_of (dz_tup 2 rfl (dzs_cons (dz_name 3 nd) (dzs_cons (dz_name 4 nd) dzs_nil)))) (ss_one (st_if (db_t (db_notN (df_e (df_call (ok_overlap KX G c tb) (gl_overlap KX G c) (hr.mono (by omega)) tk (da_cons (de_var 4) (da_cons (de_var 1) da_nil)) (aLen_cons (aLen_cons aLen_nil)))))) (ss_one (st_expr (do_append (pl_var 2) (de_m (de_var 3))))) ss_nil))) (ss_one (st_for (passes_of rfl) rfl (di_any (de_fldF 0 2 (de_var 0) (fd_Tree_parts KX G c))) (dg_of (dz_name 5 nd)) (ss_one (st_expr (do_meth (h_Tree_collect) (cls_Tree KX G c) (me_Tree_collect KX G c) (show ("collect" : Str) ∉ clN 0 by decide +kernel) (hr.mono (by omega)) tk (dr_pu (de_var 5)) (dar_cons (dr_pu (de_var 1)) (dar_cons (dr_pl (pl_var 2)) dar_nil)) (arLen_cons (arLen_cons arLen_nil)))))))))
theorem okR_Tree_collect : ∀ n : Nat, FnD P w K mg base (TT K) (3 + 2 * n) (He.fAd K ("Tree", some "collect")) 3 N_Tree_collect w_Tree_collect (S_Tree_collect n)
  | 0 => (fnD_D (df_Tree_collect c) sc_Tree_collect rfl (fun _ _ _ _ _ _ us hl => match us, hl with | [_, _, _], _ => rfl) fun _ _ _ _ _ _ _ _ _ _ => ss_badW : FnD P w K mg base (TT K) 1 _ _ _ _ sBad).mono (by omega)
  | n + 1 => by
    have h0 := okR_Tree_collect n
    exact (okB_Tree_collect (n := 3 + 2 * n) KX G c tb (by omega) h0).mono (by omega)
theorem ok_Tree_collect (n : Nat) : FnD P w K mg base (TT K) (3 + 2 * n) (He.fAd K ("Tree", some "collect")) 3 N_Tree_collect w_Tree_collect (S_Tree_collect n) := (okR_Tree_collect KX G c tb n)
abbrev fuel_Tree_collect : Nat := 10
/-! ### Tree.find -/
def w_Tree_find : List Nat := ([2] ++ ([] ++ []))
def S_Tree_find : SS := (sSeq (sSet 2 (fO (sCallF hLst aNil))) (sSeq (sDrop (sMethI 0 (S_Tree_collect fuel_Tree_collect) N_Tree_collect w_Tree_collect (rPu (sVar 0)) (arCons (rPu (sVar 1)) (arCons (rPl (plV 2)) arNil)))) (zFrz 2 (sRet (fO (sCallF hSorted (aCons (sVar 2) aNil)))))))
theorem ok_Tree_find : FnD P w K mg base (TT K) 24 (He.fAd K ("Tree", some "find")) 2 N_Tree_find w_Tree_find S_Tree_find :=
  fnD_D (df_Tree_find c) sc_Tree_find rfl (fun _ _ _ _ _ _ us hl => match us, hl with | [_, _], _ => rfl) fun cdv A outer s H E hr tk nd hu =>
    (ss_cons (st_set 2 nd (df_o (df_lst da_nil))) (ss_cons (st_expr (do_meth (ok_Tree_collect KX G c tb (fuel_Tree_collect)) (cls_Tree KX G c) (me_Tree_collect KX G c) (show ("collect" : Str) ∉ clN 0 by decide +kernel) (hr.mono (by decide)) tk (dr_pu (de_var 0)) (dar_cons (dr_pu (de_var 1)) (dar_cons (dr_pl (pl_var 2)) dar_nil)) (arLen_cons (arLen_cons arLen_nil)))) (ss_frz 2 (ss_one (st_ret (df_o (df_callB (cr_sortedD hu) cf_sorted hSorted_nx rfl (fr_sorted KX G c) (by decide +kernel) (da_cons (de_var 2) da_nil))))))))
/-! ### Tree.depth -/
def w_Tree_depth : List Nat := (([] ++ []) ++ [])
def B_Tree_depth (s_Tree_depth : SS) : SS := (sSeq (sIfS (tP (pV (s2 gEq (sCall gLen (aCons (s1 (gFld 0 2) (sVar 0)) aNil)) (sC (.int 0))))) (sRet (sP (sC (.int 0)))) sNext) (sRet (sP (s2 gAdd (sC (.int 1)) (sCall gMaxL (aCons (fFrz (sLc (iZA (s1 (gFld 0 2) (sVar 0))) (tzN 1) bYes (sMethD 0 s_Tree_depth N_Tree_depth (sVar 1) aNil) [1])) aNil))))))
def R_Tree_depth : Nat → SS
  | 0 => (sBad)
  | n + 1 => (B_Tree_depth ((R_Tree_depth n)))
def S_Tree_depth (n : Nat) : SS := (R_Tree_depth n)
theorem okB_Tree_depth {n : Nat} (hn : 1 ≤ n) {s_Tree_depth : SS} (h_Tree_depth : FnD P w K mg base (TT K) n (He.fAd K ("Tree", some "depth")) 1 N_Tree_depth w_Tree_depth s_Tree_depth) : FnD P w K mg base (TT K) (n + 2) (He.fAd K ("Tree", some "depth")) 1 N_Tree_depth w_Tree_depth (B_Tree_depth s_Tree_depth) :=
  fnD_D (df_Tree_depth c) sc_Tree_depth rfl (fun _ _ _ _ _ _ us hl => match us, hl with | [_], _ => rfl) fun cdv A outer s H E hr tk nd hu =>
    (ss_cons (st_if (db_t (db_cmp (op_eqP hu) o2_eq gEq_nx (de_callB call_lenAll cd_len gLen_nx rfl (fr_len KX G c) (by decide +kernel) (da_cons (de_fldF 0 2 (de_var 0) (fd_Tree_parts KX G c)) da_nil)) de_int (by rfl))) (ss_one (st_ret (de_o de_int))) ss_nil) (ss_one (st_ret (de_o (de_op op_addAll o2_add gAdd_nx de_int (de_callB (cr_max rfl) cd_maxL gMaxL_nx rfl (fr_max KX G c) (by decide +kernel) (da_cons (df_e (df_lc [("part", 1)] rfl nd (dia_any (de_fldF 0 2 (de_var 0) (fd_Tree_parts KX G c))) (blkOk_by (own := [("part", 1)]) (N := N_Tree_depth) (sc := defScope st_Tree_depth) (by decide +kernel)) (fun _ _ _ _ _ => (dz_name 1 nd)) (fun _ _ _ _ _ => dbs_nil) (fun _ _ _ _ _ => (df_meth0 (h_Tree_depth) (cls_Tree KX G c) (me_Tree_depth KX G c) (show ("depth" : Str) ∉ clN 0 by decide +kernel) (hr.mono (by omega)) takes0 (de_var 1))))) da_nil)))))))
theorem okR_Tree_depth : ∀ n : Nat, FnD P w K mg base (TT K) (1 + 2 * n) (He.fAd K ("Tree", some "depth")) 1 N_Tree_depth w_Tree_depth (S_Tree_depth n)
  | 0 => (fnD_D (df_Tree_depth c) sc_Tree_depth rfl (fun _ _ _ _ _ _ us hl => match us, hl with | [_], _ => rfl) fun _ _ _ _ _ _ _ _ _ _ => ss_badW : FnD P w K mg base (TT K) 1 _ _ _ _ sBad).mono (by omega)
  | n + 1 => by
    have h0 := okR_Tree_depth n
    exact (okB_Tree_depth (n := 1 + 2 * n) KX G c tb (by omega) h0).mono (by omega)
theorem ok_Tree_depth (n : Nat) : FnD P w K mg base (TT K) (1 + 2 * n) (He.fAd K ("Tree", some "depth")) 1 N_Tree_depth w_Tree_depth (S_Tree_depth n) := (okR_Tree_depth KX G c tb n)
abbrev fuel_Tree_depth : Nat := 10
/-! ### _law_depth -/
def w_law_depth : List Nat := ([1] ++ ([2] ++ (([3] ++ (([1] ++ [2]) ++ [])) ++ [])))
def L_law_depth0 : SS := (sIfS (tP (pV (s2 gGt (sVar 0) (sVar 2)))) (sSeq (sSet 1 (sP (s2 gAdd (sVar 1) (sC (.int 1))))) (sSet 2 (sP (s2 gMul (sC (.int 2)) (sVar 2))))) sNext)
def S_law_depth : SS := (sSeq (sSet 1 (sP (sC (.int 0)))) (sSeq (sSet 2 (sP (sC (.int 8)))) (sSeq (sFor (DL.iRng1 (aCons (sC (.int 12)) aNil)) (gOf (tzN 3)) L_law_depth0) (sRet (sP (sVar 1))))))
theorem ok_law_depth : FnD P w K mg base (TT K) 1 (He.fAd K ("_law_depth", none)) 1 N_law_depth w_law_depth S_law_depth :=
  fnD_D (df_law_depth c) sc_law_depth rfl (fun _ _ _ _ _ _ us hl => match us, hl with | [_], _ => rfl) fun cdv A outer s H E hr tk nd hu =>
    (ss_cons (st_set 1 nd (de_o de_int)) (ss_cons (st_set 2 nd (de_o de_int)) (ss_cons (st_for (passes_of rfl) rfl (di_range1 (da_cons de_int da_nil) (hm := fr_range KX G c)) (dg_of (dz_name 3 nd)) (ss_one (st_if (db_t (db_cmp (op_gtP hu) o2_ord gOrd_nx (de_var 0) (de_var 2) (by rfl))) (ss_cons (st_set 1 nd (de_o (de_op op_addAll o2_add gAdd_nx (de_var 1) de_int))) (ss_one (st_set 2 nd (de_o (de_op op_mulAll o2_mul gMul_nx de_int (de_var 2)))))) ss_nil))) (ss_one (st_ret (de_o (de_var 1)))))))
/-! ### _law_ints -/
def w_law_ints : List Nat := ((([] ++ []) ++ ([] ++ [])) ++ (([2] ++ ([] ++ [])) ++ []))
def L_law_ints0 : SS := (sIfS (tP (pNot (pV (fFrz (sCallD S_law_is_int N_law_is_int (aCons (s2 gIx (sVar 0) (sVar 2)) aNil)))))) (sRet (sP (sC (.bl false)))) sNext)
def S_law_ints : SS := (sSeq (sIfS (tP (pV (s2 gEq (sVar 1) (sC (.str (cs "list")))))) (sIfS (tP (pNot (pV (s1 (gIsT .lst) (sVar 0))))) (sRet (sP (sC (.bl false)))) sNext) (sIfS (tP (pNot (pV (s1 (gIsT .tup) (sVar 0))))) (sRet (sP (sC (.bl false)))) sNext)) (sSeq (sFor (DL.iRng1 (aCons (sCall gLen (aCons (sVar 0) aNil)) aNil)) (gOf (tzN 2)) L_law_ints0) (sRet (sP (sC (.bl true))))))
theorem ok_law_ints : FnD P w K mg base (TT K) 2 (He.fAd K ("_law_ints", none)) 2 N_law_ints w_law_ints S_law_ints :=
  fnD_D (df_law_ints c) sc_law_ints rfl (fun _ _ _ _ _ _ us hl => match us, hl with | [_, _], _ => rfl) fun cdv A outer s H E hr tk nd hu =>
    (ss_cons (st_if (db_t (db_cmp (op_eqP hu) o2_eq gEq_nx (de_var 1) de_str (by rfl))) (ss_one (st_if (db_t (db_not (db_val (de_isT .lst (de_var 0) (by decide) rfl (fr_isinstance KX G c) rfl (fr_list KX G c) (by decide +kernel))))) (ss_one (st_ret (de_o de_bl))) ss_nil)) (ss_one (st_if (db_t (db_not (db_val (de_isT .tup (de_var 0) (by decide) rfl (fr_isinstance KX G c) rfl (fr_tuple KX G c) (by decide +kernel))))) (ss_one (st_ret (de_o de_bl))) ss_nil))) (ss_cons (st_for (passes_of rfl) rfl (di_range1 (da_cons (de_callB call_lenAll cd_len gLen_nx rfl (fr_len KX G c) (by decide +kernel) (da_cons (de_var 0) da_nil)) da_nil) (hm := fr_range KX G c)) (dg_of (dz_name 2 nd)) (ss_one (st_if (db_t (db_not (db_val (df_e (df_call (ok_law_is_int KX G c tb) (gl_law_is_int KX G c) (hr.mono (by decide)) tk (da_cons (de_ix (de_var 0) (de_var 2)) da_nil) (aLen_cons aLen_nil)))))) (ss_one (st_ret (de_o de_bl))) ss_nil))) (ss_one (st_ret (de_o de_bl)))))
/-! ### _law_is_list -/
def w_law_is_list : List Nat := []
def S_law_is_list : SS := (sRet (sP (vAnd (fFrz (sCallD S_law_ints N_law_ints (aCons (sVar 0) (aCons (sC (.str (cs "list"))) aNil)))) (s2 gEq (sVar 0) (sVar 1)))))
theorem ok_law_is_list : FnD P w K mg base (TT K) 3 (He.fAd K ("_law_is_list", none)) 2 N_law_is_list w_law_is_list S_law_is_list :=
  fnD_D (df_law_is_list c) sc_law_is_list rfl (fun _ _ _ _ _ _ us hl => match us, hl with | [_, _], _ => rfl) fun cdv A outer s H E hr tk nd hu =>
    (ss_one (st_ret (de_o (de_and (df_e (df_call (ok_law_ints KX G c tb) (gl_law_ints KX G c) (hr.mono (by decide)) tk (da_cons (de_var 0) (da_cons de_str da_nil)) (aLen_cons (aLen_cons aLen_nil)))) (de_one (de_cmp (op_eqP hu) o2_eq gEq_nx (de_var 0) (de_var 1) (by rfl)))))))
/-! ### _law_meets -/
def w_law_meets : List Nat := []
def S_law_meets : SS := (sRet (sP (vAnd (s2 gLt (s2 gIx (sVar 0) (sC (.int 0))) (s2 gIx (sVar 1) (sC (.int 2)))) (vAnd (s2 gLt (s2 gIx (sVar 1) (sC (.int 0))) (s2 gIx (sVar 0) (sC (.int 2)))) (vAnd (s2 gLt (s2 gIx (sVar 0) (sC (.int 1))) (s2 gIx (sVar 1) (sC (.int 3)))) (s2 gLt (s2 gIx (sVar 1) (sC (.int 1))) (s2 gIx (sVar 0) (sC (.int 3)))))))))
theorem ok_law_meets : FnD P w K mg base (TT K) 1 (He.fAd K ("_law_meets", none)) 2 N_law_meets w_law_meets S_law_meets :=
  fnD_D (df_law_meets c) sc_law_meets rfl (fun _ _ _ _ _ _ us hl => match us, hl with | [_, _], _ => rfl) fun cdv A outer s H E hr tk nd hu =>
    (ss_one (st_ret (de_o (de_and (de_cmp (op_ltP hu) o2_ord gOrd_nx (de_ix (de_var 0) de_int) (de_ix (de_var 1) de_int) (by rfl)) (de_and (de_cmp (op_ltP hu) o2_ord gOrd_nx (de_ix (de_var 1) de_int) (de_ix (de_var 0) de_int) (by rfl)) (de_and (de_cmp (op_ltP hu) o2_ord gOrd_nx (de_ix (de_var 0) de_int) (de_ix (de_var 1) de_int) (by rfl)) (de_one (de_cmp (op_ltP hu) o2_ord gOrd_nx (de_ix (de_var 1) de_int) (de_ix (de_var 0) de_int) (by rfl)))))))))
/-! ### law -/
def w_law : List Nat := ([1] ++ ([2] ++ ([3] ++ ([4] ++ (([5] ++ ([6] ++ (([6] ++ []) ++ []))) ++ ([4] ++ ([7] ++ ([8] ++ (([] ++ []) ++ ([] ++ (([] ++ []) ++ ([9] ++ (([10] ++ ([11] ++ ([12] ++ ([13] ++ (([] ++ []) ++ ([] ++ ([] ++ []))))))) ++ [])))))))))))))
def L_law0 : SS := (sSeq (sSet 6 (sP (fFrz (sCallD S_law_box_of N_law_box_of (aCons (s2 gIx (sVar 2) (s2 gMul (sC (.int 2)) (sVar 5))) (aCons (s2 gIx (sVar 2) (s2 gAdd (s2 gMul (sC (.int 2)) (sVar 5)) (sC (.int 1)))) aNil)))))) (sSeq (sIfS (tP (pV (s2 gEq (s2 gMod (s2 gIx (sVar 2) (s2 gMul (sC (.int 2)) (sVar 5))) (sC (.int 7))) (sC (.int 3))))) (sSet 6 (sP (sCall gTup (aCons (sC (.int 2)) (aCons (sC (.int 3)) (aCons (sC (.int 3)) (aCons (sC (.int 4)) aNil))))))) sNext) (sDrop (sAppend (plV 4) (sP (sCall gTup (aCons (s2 gMod (s2 gAdd (s2 gMul (sC (.int 7)) (sVar 5)) (s2 gIx (sVar 2) (sC (.int 82)))) (sC (.int 4099))) (aCons (fFrz (sCallD S_law_scaled N_law_scaled (aCons (sVar 6) (aCons (sVar 1) aNil)))) aNil))))))))
def L_law1 : SS := (sSeq (sSet 11 (sP (fFrz (sCallD S_law_scaled N_law_scaled (aCons (sVar 10) (aCons (sVar 1) aNil)))))) (zFrz 4 (sSeq (sSet 12 (sP (fFrz (sCallF hSorted (aCons (fFrz (sLc (iZA (sVar 4)) (tzN 14) (pV (fFrz (sCallD S_law_meets N_law_meets (aCons (s2 gIx (sVar 14) (sC (.int 1))) (aCons (sVar 11) aNil))))) (fZ (s2 gIx (sVar 14) (sC (.int 0)))) [14])) aNil))))) (sSeq (sSet 13 (fO (sMethD 0 S_Tree_find N_Tree_find (sVar 8) (aCons (sVar 11) aNil)))) (sSeq (sIfS (tP (pNot (pV (fFrz (sCallD S_law_is_list N_law_is_list (aCons (sVar 13) (aCons (sVar 12) aNil))))))) (sRet (sP (sC (.bl false)))) sNext) (sSeq (sDrop (sAppend (plV 13) (sP (sC (.int 1))))) (sIfS (tP (pNot (pV (fFrz (sCallD S_law_is_list N_law_is_list (aCons (fFrz (sMethD 0 S_Tree_find N_Tree_find (sVar 8) (aCons (sVar 11) aNil))) (aCons (sVar 12) aNil))))))) (sRet (sP (sC (.bl false)))) sNext)))))))
def S_law : SS := (sSeq (sSet 1 (sP (fFrz (sCallD S_law_scale N_law_scale (aCons (fFrz (sCallD S_law_cell N_law_cell (aCons (sVar 0) (aCons (sC (.int 0)) aNil)))) aNil))))) (sSeq (sSet 2 (sP (fFrz (sCallD S_law_draws N_law_draws (aCons (fFrz (sCallD S_law_cell N_law_cell (aCons (sVar 0) (aCons (sC (.int 1)) aNil)))) (aCons (sC (.int 84)) aNil)))))) (sSeq (sSet 3 (sP (s2 gIx (fFrz (sCallF hLst (aCons (s2 gMod (s2 gIx (sVar 2) (sC (.int 82))) (sC (.int 41))) (aCons (sC (.int 8)) (aCons (sC (.int 9)) (aCons (sC (.int 16)) (aCons (sC (.int 17)) (aCons (sC (.int 33)) aNil)))))))) (s2 gMod (s2 gIx (sVar 2) (sC (.int 83))) (sC (.int 6)))))) (sSeq (sSet 4 (fO (sCallF hLst aNil))) (sSeq (sFor (DL.iRng1 (aCons (sVar 3) aNil)) (gOf (tzN 5)) L_law0) (zFrz 4 (sSeq (sSet 4 (sP (fFrz (sRev (sVar 4))))) (sSeq (sSet 7 (fO (sCallF hListOf (aCons (sVar 4) aNil)))) (sSeq (sSet 8 (sMakeI 0 (S_Tree_init fuel_Tree_init) N_Tree_init w_Tree_init (arCons (rPl (plV 7)) arNil))) (sSeq (sIfS (tP (pV (s2 gNe (sVar 7) (sVar 4)))) (sRet (sP (sC (.bl false)))) sNext) (sSeq (sDrop (sAppend (plV 7) (sP (sCall gTup (aCons (sC (.int 9999)) (aCons (sCall gTup (aCons (sC (.int 0)) (aCons (sC (.int 0)) (aCons (sC (.int 1)) (aCons (sC (.int 1)) aNil))))) aNil)))))) (zFrz 8 (sSeq (sIfS (tP (pNot (pV (fFrz (sCallD S_law_is_number N_law_is_number (aCons (fFrz (sMethD 0 (S_Tree_depth fuel_Tree_depth) N_Tree_depth (sVar 8) aNil)) (aCons (fFrz (sCallD S_law_depth N_law_depth (aCons (sVar 3) aNil))) aNil))))))) (sRet (sP (sC (.bl false)))) sNext) (sSeq (sSet 9 (sP (s2 gAdd (fFrz (sCallD S_law_boxes N_law_boxes (aCons (fFrz (sCallD S_law_cell N_law_cell (aCons (sVar 0) (aCons (sC (.int 2)) aNil)))) (aCons (sC (.int 6)) aNil)))) (fFrz (sCallF hLst (aCons (sCall gTup (aCons (s1 vNeg (sC (.int 90))) (aCons (s1 vNeg (sC (.int 90))) (aCons (sC (.int 90)) (aCons (sC (.int 90)) aNil))))) (aCons (sCall gTup (aCons (sC (.int 50)) (aCons (sC (.int 50)) (aCons (sC (.int 51)) (aCons (sC (.int 51)) aNil))))) (aCons (sCall gTup (aCons (sC (.int 2)) (aCons (sC (.int 3)) (aCons (sC (.int 3)) (aCons (sC (.int 4)) aNil))))) aNil)))))))) (zFrz 13 (sSeq (sFor (iZ (sVar 9)) (gOf (tzN 10)) L_law1) (sRet (sP (sC (.bl true))))))))))))))))))))
theorem okF_law {fd : FuncData} (F : FunD K "law" "law" (defArgs st_law) (defBody st_law) (defScope st_law) [] [] (He.fAd K ("law", none)) fd) : FnOk P w K mg base (L2.CX P w) 25 (He.fAd K ("law", none)) fd ["script"] (spD K (TT K) 1 N_law w_law S_law) :=
  fnOk_D F sc_law rfl fun cdv A outer s H E hr tk nd hu =>
    (ss_cons (st_set 1 nd (de_o (df_e (df_call (ok_law_scale KX G c tb) (gl_law_scale KX G c) (hr.mono (by decide)) tk (da_cons (df_e (df_call (ok_law_cell KX G c tb) (gl_law_cell KX G c) (hr.mono (by decide)) tk (da_cons (de_var 0) (da_cons de_int da_nil)) (aLen_cons (aLen_cons aLen_nil)))) da_nil) (aLen_cons aLen_nil))))) (ss_cons (st_set 2 nd (de_o (df_e (df_call (ok_law_draws KX G c tb) (gl_law_draws KX G c) (hr.mono (by decide)) tk (da_cons (df_e (df_call (ok_law_cell KX G c tb) (gl_law_cell KX G c) (hr.mono (by decide)) tk (da_cons (de_var 0) (da_cons de_int da_nil)) (aLen_cons (aLen_cons aLen_nil)))) (da_cons de_int da_nil)) (aLen_cons (aLen_cons aLen_nil)))))) (ss_cons (st_set 3 nd (de_o (de_ix (df_e (df_lst (da_cons (de_op op_mod o2_mod gMod_nx (de_ix (de_var 2) de_int) de_int) (da_cons de_int (da_cons de_int (da_cons de_int (da_cons de_int (da_cons de_int da_nil)))))))) (de_op op_mod o2_mod gMod_nx (de_ix (de_var 2) de_int) de_int)))) (ss_cons (st_set 4 nd (df_o (df_lst da_nil))) (ss_cons (st_for (passes_of rfl) rfl (di_range1 (da_cons (de_var 3) da_nil) (hm := fr_range KX G c)) (dg_of (dz_name 5 nd)) (ss_cons (st_set 6 nd (de_o (df_e (df_call (ok_law_box_of KX G c tb) (gl_law_box_of KX G c) (hr.mono (by decide)) tk (da_cons (de_ix (de_var 2) (de_op op_mulAll o2_mul gMul_nx de_int (de_var 5))) (da_cons (de_ix (de_var 2) (de_op op_addAll o2_add gAdd_nx (de_op op_mulAll o2_mul gMul_nx de_int (de_var 5)) de_int)) da_nil)) (aLen_cons (aLen_cons aLen_nil)))))) (ss_cons (st_if (db_t (db_cmp (op_eqP hu) o2_eq gEq_nx (de_op op_mod o2_mod gMod_nx (de_ix (de_var 2) (de_op op_mulAll o2_mul gMul_nx de_int (de_var 5))) de_int) de_int (by rfl))) (ss_one (st_set 6 nd (de_o (de_tup (da_cons de_int (da_cons de_int (da_cons de_int (da_cons de_int da_nil)))))))) ss_nil) (ss_one (st_expr (do_append (pl_var 4) (de_m (de_tup (da_cons (de_op op_mod o2_mod gMod_nx (de_op op_addAll o2_add gAdd_nx (de_op op_mulAll o2_mul gMul_nx de_int (de_var 5)) (de_ix (de_var 2) de_int)) de_int) (da_cons (df_e (df_call (ok_law_scaled KX G c tb) (gl_law_scaled KX G c) (hr.mono (by decide)) tk (da_cons (de_var 6) (da_cons (de_var 1) da_nil)) (aLen_cons (aLen_cons aLen_nil)))) da_nil)))))))))) (ss_frz 4 (ss_cons (st_set 4 nd (de_o (df_e (df_rev (de_var 4))))) (ss_cons (st_set 7 nd (df_o (df_callT call_list_of cf_list hListOf_nx rfl (fr_list KX G c) (by decide +kernel) (da_cons (de_var 4) da_nil)))) (ss_cons (st_set 8 nd (do_make (ok_Tree_init KX G c tb (fuel_Tree_init)) (mk_Tree KX G c) (gl_Tree KX G c) (hr.mono (by decide)) tk (dar_cons (dr_pl (pl_var 7)) dar_nil) (arLen_cons arLen_nil) (by decide) (by decide))) (ss_cons (st_if (db_t (db_cmp (op_neP hu) o2_ne gNe_nx (de_var 7) (de_var 4) (by rfl))) (ss_one (st_ret (de_o de_bl))) ss_nil) (ss_cons (st_expr (do_append (pl_var 7) (de_m (de_tup (da_cons de_int (da_cons (de_tup (da_cons de_int (da_cons de_int (da_cons de_int (da_cons de_int da_nil))))) da_nil)))))) (ss_frz 8 (ss_cons (st_if (db_t (db_not (db_val (df_e (df_call (ok_law_is_number KX G c tb) (gl_law_is_number KX G c) (hr.mono (by decide)) tk (da_cons (df_e (df_meth0 (ok_Tree_depth KX G c tb (fuel_Tree_depth)) (cls_Tree KX G c) (me_Tree_depth KX G c) (show ("depth" : Str) ∉ clN 0 by decide +kernel) (hr.mono (by decide)) tk (de_var 8))) (da_cons (df_e (df_call (ok_law_depth KX G c tb) (gl_law_depth KX G c) (hr.mono (by decide)) tk (da_cons (de_var 3) da_nil) (aLen_cons aLen_nil))) da_nil)) (aLen_cons (aLen_cons aLen_nil))))))) (ss_one (st_ret (de_o de_bl))) ss_nil) (ss_cons (st_set 9 nd (de_o (de_op op_addAll o2_add gAdd_nx (df_e (df_call (ok_law_boxes KX G c tb) (gl_law_boxes KX G c) (hr.mono (by decide)) tk (da_cons (df_e (df_call (ok_law_cell KX G c tb) (gl_law_cell KX G c) (hr.mono (by decide)) tk (da_cons (de_var 0) (da_cons de_int da_nil)) (aLen_cons (aLen_cons aLen_nil)))) (da_cons de_int da_nil)) (aLen_cons (aLen_cons aLen_nil)))) (df_e (df_lst (da_cons (de_tup (da_cons (de_neg de_int) (da_cons (de_neg de_int) (da_cons de_int (da_cons de_int da_nil))))) (da_cons (de_tup (da_cons de_int (da_cons de_int (da_cons de_int (da_cons de_int da_nil))))) (da_cons (de_tup (da_cons de_int (da_cons de_int (da_cons de_int (da_cons de_int da_nil))))) da_nil)))))))) (ss_frz 13 (ss_cons (st_for (passes_of rfl) rfl (di_any (de_var 9)) (dg_of (dz_name 10 nd)) (ss_cons (st_set 11 nd (de_o (df_e (df_call (ok_law_scaled KX G c tb) (gl_law_scaled KX G c) (hr.mono (by decide)) tk (da_cons (de_var 10) (da_cons (de_var 1) da_nil)) (aLen_cons (aLen_cons aLen_nil)))))) (ss_frz 4 (ss_cons (st_set 12 nd (de_o (df_e (df_callB (cr_sortedD hu) cf_sorted hSorted_nx rfl (fr_sorted KX G c) (by decide +kernel) (da_cons (df_e (df_lc [("row", 14)] rfl nd (dia_any (de_var 4)) (blkOk_by (own := [("row", 14)]) (N := N_law) (sc := defScope st_law) (by decide +kernel)) (fun _ _ _ _ _ => (dz_name 14 nd)) (fun _ _ _ _ _ => (dbs_one (db_val (df_e (df_call (ok_law_meets KX G c tb) (gl_law_meets KX G c) (hr.mono (by decide)) takes0 (da_cons (de_ix (de_var 14) de_int) (da_cons (de_var 11) da_nil)) (aLen_cons (aLen_cons aLen_nil))))))) (fun _ _ _ _ _ => (de_f (de_ix (de_var 14) de_int))))) da_nil))))) (ss_cons (st_set 13 nd (df_o (df_meth (ok_Tree_find KX G c tb) (cls_Tree KX G c) (me_Tree_find KX G c) (show ("find" : Str) ∉ clN 0 by decide +kernel) (hr.mono (by decide)) tk (de_var 8) (da_cons (de_var 11) da_nil) (aLen_cons aLen_nil)))) (ss_cons (st_if (db_t (db_not (db_val (df_e (df_call (ok_law_is_list KX G c tb) (gl_law_is_list KX G c) (hr.mono (by decide)) tk (da_cons (de_var 13) (da_cons (de_var 12) da_nil)) (aLen_cons (aLen_cons aLen_nil))))))) (ss_one (st_ret (de_o de_bl))) ss_nil) (ss_cons (st_expr (do_append (pl_var 13) (de_m de_int))) (ss_one (st_if (db_t (db_not (db_val (df_e (df_call (ok_law_is_list KX G c tb) (gl_law_is_list KX G c) (hr.mono (by decide)) tk (da_cons (df_e (df_meth (ok_Tree_find KX G c tb) (cls_Tree KX G c) (me_Tree_find KX G c) (show ("find" : Str) ∉ clN 0 by decide +kernel) (hr.mono (by decide)) tk (de_var 8) (da_cons (de_var 11) da_nil) (aLen_cons aLen_nil))) (da_cons (de_var 12) da_nil)) (aLen_cons (aLen_cons aLen_nil))))))) (ss_one (st_ret (de_o de_bl))) ss_nil))))))))) (ss_one (st_ret (de_o de_bl)))))))))))))))))))
end
theorem law_end {l : PySem.W.OpenLaw} {w : World} {mg : Str → Option Value} {h : Heap} {K : PySem.W.Frag} {ts : List He.Tab} {ex : PySem.W.Frag → Bool} {a : Addr} (KX : K.In h) (G : h.Ns mainGlobals mg) (c : He.SaysX fa fn ts tf ex w h K) (hfa : mg ("law" : Str) = some (.ref a))
    (hS : ∀ ns : List Int, ns.length ≤ 63 → (∀ z ∈ ns, Builtin.Int.intBits z ≤ 1048576) → ∃ ds, S_law (ini N_law [scr ns]) = .rt (.z (.bl true)) ds) : LamX.LawAtS l w K (L2.CX l.prog w) 25 63 "script" mg a h := by
  have e := hfa.symm.trans (gl_law KX G c.t.d)
  cases e
  exact law_at KX c rfl (df_law c.t.d) (fun _ _ _ _ _ _ us hl => match us, hl with | [_], _ => rfl) rfl (fun F KB GB tb => okF_law KB GB c.t.d tb F) hS
abbrev RWW : PySem.W.OpenRow := PySem.W.OpenLaw.row PySem.Challenge.rw_reticle_k32_trees_find_boxes
abbrev hk : PySem.W.Hook := He.hookX 6 fa fn [] tf exB
def ob (s : PySem.W.SharedT) : He.AlX := He.obsX 6 fa fn [] tf exB (HandSHeadRun.getT s)
theorem ob_eq (s : PySem.W.SharedT) : ob s = hk.obs s.abs := He.obsX_eq (HandSHeadRun.getT_eq s)
def loose0 : List PySem.Str := ["__name__", "is_box", "overlap", "hull", "LEAF_SIZE", "Tree", "_law_cell", "_law_draws", "_law_is_int", "_law_ints", "_law_is_list", "_law_is_number", "_law_box_of", "_law_boxes", "_law_scale", "_law_scaled", "_law_meets", "_law_depth"]
def loose : List PySem.Str := loose0
end L_k32
set_option Elab.async false
set_option linter.all false
set_option maxRecDepth 100000
set_option maxHeartbeats 4000000
namespace L_k32
open PySem PySem.Spec PyProof.Rows L2 DL
theorem law_cell_ex (ns : List Int) (k : Nat) : ∃ ds, S_law_cell (ini N_law_cell [.z (.ro (ns.map .int)), .z (.int k)]) = .rt (.z (.int (ns.getD k 0))) ds := by
  by_cases h : k < ns.length
  · simp [S_law_cell, ini, h, atI, ixN, ofO]
  · simp [S_law_cell, ini, h]
theorem draws_step (cell : Int) (n i : Nat) (acc : List Int) (left : Int) (k m : Option OV) (hi : i < 100000) (hl : acc.length = i) (hd : ∀ d ∈ acc, 0 ≤ d ∧ d < 4096) :
    ∃ (acc' : List Int) (left' : Int) (k' m' : Option OV), L_law_draws0 [some (.z (.int cell)), some (.z (.int n)), some (.l (iz acc)), some (.z (.int left)), some (.z (.int i)), m] = .nx [some (.z (.int cell)), some (.z (.int n)), some (.l (iz acc')), some (.z (.int left')), k', m'] ∧ acc'.length = i + 1 ∧ ∀ d ∈ acc', 0 ≤ d ∧ d < 4096 := by
  have hlen : (iz acc).length < sizeLine := by rw [sizeLine_eq]; simp [iz]; omega
  have hp : gPow (.z (.int 10)) (.z (.int 18)) = .ok (.z (.int 1000000000000000000)) := rfl
  generalize hP : (1000000000000000000 : Int) = big at hp
  have hif : ∀ a : Bool, andR (pV (s2 gGt (sVar 3) (sC (.int 0)))) [some (.z (.int cell)), some (.z (.int n)), some (.l (iz acc)), some (.z (.int left)), some (.z (.int i)), m] (.ok a) = .ok (a && decide (0 < left)) := fun a => andR_b _ _ _ _ (by simp)
  by_cases hc : (decide (big ≤ cell) && decide (0 < left)) = true
  · refine ⟨acc ++ [left % 4096], left / 4096, some (.z (.int i)), m, ?_, by simp [hl], ?_⟩
    · unfold L_law_draws0
      simp only [sIfS_ap, tP_ap, pAnd_ap, pV_ap, s2_ap, sVar_0, sC_ap, ap2_ok, hp, gGe_ii, pvR_ok, hif, tpR_ok, hc, ifO_t]
      rw [sSeq_ap, sDrop_ap, sAppend_ap (os := iz acc) (os' := iz acc) (o := .z (.int (left % 4096))) rfl rfl rfl hlen]
      simp [gDiv_ii, iz]
    · intro d hd'
      rcases List.mem_append.mp hd' with h | h
      · exact hd d h
      · rw [List.mem_singleton.mp h]; exact pmod _ _ (by decide)
  · have hc : (decide (big ≤ cell) && decide (0 < left)) = false := by simpa using hc
    have b1 := pmod (cell * 48271 + ((i : Int) + 1) * 69621) 2147483647 (by decide)
    generalize e1 : (cell * 48271 + ((i : Int) + 1) * 69621) % 2147483647 = m1 at b1
    have b2 := pmod (m1 * m1 + m1 * 16807 + (i : Int) * 7919) 2147483629 (by decide)
    generalize e2 : (m1 * m1 + m1 * 16807 + (i : Int) * 7919) % 2147483629 = m2 at b2
    generalize e3 : (m2 * m2 + cell + 13 * (i : Int)) % 2147483587 = m3
    refine ⟨acc ++ [m3 / 7 % 4096], left, some (.z (.int i)), some (.z (.int m3)), ?_, by simp [hl], ?_⟩
    · have s1 : small m1 = true := by simp [small]; omega
      have s2' : small m2 = true := by simp [small]; omega
      have c1 : small 48271 = true := by decide
      have c2 : small 69621 = true := by decide
      have c3 : small 16807 = true := by decide
      have c4 : small 7919 = true := by decide
      have c5 : small 13 = true := by decide
      unfold L_law_draws0
      simp only [sIfS_ap, tP_ap, pAnd_ap, pV_ap, s2_ap, sVar_0, sC_ap, ap2_ok, hp, gGe_ii, pvR_ok, hif, tpR_ok, hc, ifO_f]
      rw [sSeq_ap]
      simp only [sSet_ap, sP_ap, s2_ap, sCall_ap, aCons_ap, aNil_ap, sVar_0, sVar_s, sC_ap, ap2_ok, consR_ok, gR_ok, gMul_r _ _ c1, gMul_r _ _ c2, gAdd_ii, gInt_i, gMod_ii _ _ (show (0 : Int) < 2147483647 by decide), e1, zR_ok, foR_ok, setO_ok, th_nx, List.set_cons_succ, List.set_cons_zero]
      rw [sSeq_ap]
      simp only [sSet_ap, sP_ap, s2_ap, sCall_ap, aCons_ap, aNil_ap, sVar_0, sVar_s, sC_ap, ap2_ok, consR_ok, gR_ok, gMul_l _ _ s1, gMul_r _ _ c3, gMul_r _ _ c4, gAdd_ii, gInt_i, gMod_ii _ _ (show (0 : Int) < 2147483629 by decide), e2, zR_ok, foR_ok, setO_ok, th_nx, List.set_cons_succ, List.set_cons_zero]
      rw [sSeq_ap]
      simp only [sSet_ap, sP_ap, s2_ap, sCall_ap, aCons_ap, aNil_ap, sVar_0, sVar_s, sC_ap, ap2_ok, consR_ok, gR_ok, gMul_l _ _ s2', gMul_l _ _ c5, gAdd_ii, gInt_i, gMod_ii _ _ (show (0 : Int) < 2147483587 by decide), e3, zR_ok, foR_ok, setO_ok, th_nx, List.set_cons_succ, List.set_cons_zero]
      rw [sDrop_ap, sAppend_ap (os := iz acc) (os' := iz acc) (o := .z (.int (m3 / 7 % 4096))) rfl rfl rfl hlen]
      simp [iz]
    · intro d hd'
      rcases List.mem_append.mp hd' with h | h
      · exact hd d h
      · rw [List.mem_singleton.mp h]; exact pmod _ _ (by decide)
theorem law_draws_ex (cell : Int) (n : Nat) (hn : n ≤ 100000) : ∃ xs : List Int, xs.length = n ∧ (∀ d ∈ xs, 0 ≤ d ∧ d < 4096) ∧ ∃ ds, S_law_draws (ini N_law_draws [.z (.int cell), .z (.int n)]) = .rt (.l (iz xs)) ds := by
  have hb : big62 (n : Int) = true := by simp [big62]; omega
  obtain ⟨ds', h1, acc, left, k', m', rfl, hacc, hd⟩ := loop_inv0 (g := gOf (tzN 4)) (b := L_law_draws0)
    (fun i ds => ∃ (acc : List Int) (left : Int) (k m : Option OV), ds = [some (.z (.int cell)), some (.z (.int n)), some (.l (iz acc)), some (.z (.int left)), k, m] ∧ acc.length = i ∧ ∀ d ∈ acc, 0 ≤ d ∧ d < 4096)
    (rng 0 n) [some (.z (.int cell)), some (.z (.int n)), some (.l []), some (.z (.int cell)), none, none] ⟨[], cell, none, none, rfl, rfl, by simp⟩ (by
      rintro i x ds hx ⟨acc, left, k, m, rfl, hl, hd⟩
      obtain ⟨hi, rfl⟩ := rng_get hx
      have hi' : i < 100000 := by omega
      obtain ⟨acc', left', k', m', e, h1, h2⟩ := draws_step cell n i acc left k m hi' hl hd
      refine ⟨_, _, by rw [gOf_ap, tzN_ap, Int.zero_add]; rfl, .inl e, acc', left', k', m', rfl, h1, h2⟩)
  rw [rng_len] at hacc
  refine ⟨acc, by rw [hacc]; simp, hd, ?_⟩
  simp [S_law_draws, ini, rg1R_ok _ hb, gfR, h1]
end L_k32
set_option Elab.async false
set_option linter.all false
set_option maxRecDepth 100000
set_option maxHeartbeats 4000000
namespace L_k32
open PySem PySem.Spec PyProof.Rows L2 DL
structure Bx where
  a : Int
  b : Int
  c : Int
  d : Int
def Bx.D (x : Bx) : DL.D := .tup [.int x.a, .int x.b, .int x.c, .int x.d]
def Bx.ok (x : Bx) : Prop := x.a < x.c ∧ x.b < x.d
def Bx.okb (x : Bx) : Bool := decide (x.a < x.c) && decide (x.b < x.d)
def ov (x y : Bx) : Bx := ⟨max x.a y.a, max x.b y.b, min x.c y.c, min x.d y.d⟩
def meets (x w : Bx) : Bool := decide (x.a < w.c) && (decide (w.a < x.c) && (decide (x.b < w.d) && decide (w.b < x.d)))
theorem line4 (r : OV) (n : Nat) (h : n ≤ 100 := by decide) : line n r = .ok r := by unfold line; rw [if_pos (by rw [sizeLine_eq]; omega)]
theorem is_box_ex (x : Bx) : ∃ ds, S_is_box (ini N_is_box [.z x.D]) = .rt (.z (.bl x.okb)) ds := by
  by_cases h : x.a < x.c <;> simp [S_is_box, ini, Bx.D, Bx.okb, atI, ixN, h]
theorem overlap_ex (x y : Bx) : ∃ ds, S_overlap (ini N_overlap [.z x.D, .z y.D]) = .rt (.z (if (ov x y).okb then (ov x y).D else .non)) ds := by
  obtain ⟨ds, h⟩ := is_box_ex (ov x y)
  have e : DL.D.tup [DL.D.int (max x.a y.a), DL.D.int (max x.b y.b), DL.D.int (min x.c y.c), DL.D.int (min x.d y.d)] = (ov x y).D := rfl
  have e0 : ini N_overlap [.z x.D, .z y.D] = [some (.z x.D), some (.z y.D), none] := rfl
  rw [e0]
  cases hb : (ov x y).okb with
  | true => simp [S_overlap, Bx.D, atI, ixN, zs, line4]; rw [e]; simp [h, hb]; rfl
  | false => simp [S_overlap, Bx.D, atI, ixN, zs, line4]; rw [e]; simp [h, hb]
theorem meets_ex (x w : Bx) : ∃ ds, S_law_meets (ini N_law_meets [.z x.D, .z w.D]) = .rt (.z (.bl (meets x w))) ds := by
  by_cases h1 : x.a < w.c <;> by_cases h2 : w.a < x.c <;> by_cases h3 : x.b < w.d <;> simp [S_law_meets, ini, Bx.D, meets, atI, ixN, h1, h2, h3]
/-- boxes that are boxes: they meet where their common part is a box -/
theorem meets_ov (x w : Bx) (hx : x.ok) (hw : w.ok) : (ov x w).okb = meets x w := by
  have a1 : (ov x w).okb = true ↔ (max x.a w.a < min x.c w.c ∧ max x.b w.b < min x.d w.d) := by
    unfold Bx.okb; rw [Bool.and_eq_true, decide_eq_true_eq, decide_eq_true_eq]; exact Iff.rfl
  have a2 : meets x w = true ↔ (x.a < w.c ∧ w.a < x.c ∧ x.b < w.d ∧ w.b < x.d) := by
    unfold meets; simp only [Bool.and_eq_true, decide_eq_true_eq]
  unfold Bx.ok at hx hw
  rw [Bool.eq_iff_iff, a1, a2]
  omega
theorem box_of_ex (d m : Int) : ∃ x : Bx, x.ok ∧ (-90 ≤ x.a ∧ -90 ≤ x.b ∧ x.c ≤ 90 ∧ x.d ≤ 90) ∧ ∃ ds, S_law_box_of (ini N_law_box_of [.z (.int d), .z (.int m)]) = .rt (.z x.D) ds := by
  have h1 := pmod d 11 (by decide)
  have h2 := pmod (d / 11) 11 (by decide)
  have h3 := pmod (d / 121) 6 (by decide)
  have h4 := pmod m 6 (by decide)
  refine ⟨⟨d % 11 - 2, d / 11 % 11 - 2, d % 11 - 2 + 1 + d / 121 % 6, d / 11 % 11 - 2 + 1 + m % 6⟩, ⟨by show d % 11 - 2 < d % 11 - 2 + 1 + d / 121 % 6; omega, by show d / 11 % 11 - 2 < d / 11 % 11 - 2 + 1 + m % 6; omega⟩, ⟨by show -90 ≤ d % 11 - 2; omega, by show -90 ≤ d / 11 % 11 - 2; omega, by show d % 11 - 2 + 1 + d / 121 % 6 ≤ 90; omega, by show d / 11 % 11 - 2 + 1 + m % 6 ≤ 90; omega⟩, ?_⟩
  simp [S_law_box_of, ini, gMod_ii, gDiv_ii, zs, line4, Bx.D]
theorem scale_ex (cell : Int) : ∃ s t : Int, 1 ≤ s ∧ s ≤ 1000000000 ∧ ∃ ds, S_law_scale (ini N_law_scale [.z (.int cell)]) = .rt (.z (.tup [.int s, .int t])) ds := by
  have p9 : gPow (.z (.int 10)) (.z (.int 9)) = .ok (.z (.int 1000000000)) := rfl
  have p18 : gPow (.z (.int 10)) (.z (.int 18)) = .ok (.z (.int 1000000000000000000)) := rfl
  have p17 : gPow (.z (.int 10)) (.z (.int 17)) = .ok (.z (.int 100000000000000000)) := rfl
  have e0 : ini N_law_scale [.z (.int cell)] = [some (.z (.int cell)), none] := rfl
  have c5 : small 5 = true := by decide
  rw [e0]
  by_cases h1 : cell % 5 = 1
  · exact ⟨1, _, by decide, by decide, by simp [S_law_scale, gMod_ii, gDiv_ii, h1, zs, line4]; rfl⟩
  · by_cases h2 : cell % 5 = 2
    · have := pmod (cell / 5) 1000000000 (by decide)
      exact ⟨1 + cell / 5 % 1000000000, _, by omega, by omega, by simp [S_law_scale, gMod_ii, gDiv_ii, h1, h2, zs, line4, p9, p18, p17, gMul_l _ _ c5]; rfl⟩
    · exact ⟨1, 0, by decide, by decide, by simp [S_law_scale, gMod_ii, h1, h2, zs, line4]⟩
def Bx.sc (x : Bx) (s t : Int) : Bx := ⟨x.a * s + t, x.b * s + t, x.c * s + t, x.d * s + t⟩
theorem Bx.sc_ok {x : Bx} (h : x.ok) {s t : Int} (hs : 1 ≤ s) : (x.sc s t).ok := by
  have h1 : x.a * s < x.c * s := Int.mul_lt_mul_of_pos_right h.1 (by omega)
  have h2 : x.b * s < x.d * s := Int.mul_lt_mul_of_pos_right h.2 (by omega)
  exact ⟨by show x.a * s + t < x.c * s + t; omega, by show x.b * s + t < x.d * s + t; omega⟩
theorem scaled_ex (x : Bx) (s t : Int) (hs : 1 ≤ s) (hs2 : s ≤ 1000000000) : ∃ ds, S_law_scaled (ini N_law_scaled [.z x.D, .z (.tup [.int s, .int t])]) = .rt (.z (x.sc s t).D) ds := by
  have ss : small s = true := by simp [small]; omega
  have e0 : ini N_law_scaled [.z x.D, .z (.tup [.int s, .int t])] = [some (.z x.D), some (.z (.tup [.int s, .int t])), none] := rfl
  have ex : x.D = .tup ([x.a, x.b, x.c, x.d].map DL.D.int) := rfl
  rw [e0]
  have hc := compL_map (g := tzN 2) (t := bYes) (fe := fZ (s2 gAdd (s2 gMul (sVar 2) (s2 gIx (sVar 1) (sC (.int 0)))) (s2 gIx (sVar 1) (sC (.int 1))))) (dsw := [some (.z x.D), some (.z (.tup [.int s, .int t])), none]) DL.D.int (fun i => .z (.int (i * s + t))) [x.a, x.b, x.c, x.d] fun i _ => ⟨_, rfl, rfl, by simp [atI, ixN, gMul_r _ _ ss]⟩
  rw [ex] at hc ⊢
  have e1 : (D.lst [D.int (x.a * s + t), D.int (x.b * s + t), D.int (x.c * s + t), D.int (x.d * s + t)]) = .lst ([x.a * s + t, x.b * s + t, x.c * s + t, x.d * s + t].map .int) := rfl
  simp [S_law_scaled]
  simp at hc
  rw [hc]
  simp [gTupOf, OV.lst?, sizeLine_eq, Bx.sc, Bx.D]
end L_k32
set_option Elab.async false
set_option linter.all false
set_option maxRecDepth 100000
set_option maxHeartbeats 4000000
namespace L_k32
open PySem PySem.Spec PyProof.Rows L2 DL
abbrev Row := Int × Bx
def rD (r : Row) : DL.D := .tup [.int r.1, r.2.D]
def mn (xs : List Int) : Int := xs.min?.getD 0
def mx (xs : List Int) : Int := xs.max?.getD 0
def hull (bs : List Bx) : Bx := ⟨mn (bs.map (·.a)), mn (bs.map (·.b)), mx (bs.map (·.c)), mx (bs.map (·.d))⟩
theorem minL {xs : List Int} (h : xs ≠ []) : gMinL [.z (.lst (xs.map .int))] = .ok (.z (.int (mn xs))) := by
  obtain ⟨m, e, _⟩ := min_some h
  unfold gMinL
  rw [gL1_z (ints_map xs), e, mn, e]
  rfl
theorem maxL {xs : List Int} (h : xs ≠ []) : gMaxL [.z (.lst (xs.map .int))] = .ok (.z (.int (mx xs))) := by
  obtain ⟨m, e, _⟩ := max_some h
  unfold gMaxL
  rw [gL1_z (ints_map xs), e, mx, e]
  rfl
theorem mn_le {xs : List Int} {x : Int} (h : x ∈ xs) : mn xs ≤ x := by
  obtain ⟨m, e, _, h2⟩ := min_some (List.ne_nil_of_mem h)
  rw [mn, e]; exact h2 x h
theorem le_mx {xs : List Int} {x : Int} (h : x ∈ xs) : x ≤ mx xs := by
  obtain ⟨m, e, _, h2⟩ := max_some (List.ne_nil_of_mem h)
  rw [mx, e]; exact h2 x h
theorem hull_a (bs : List Bx) : (hull bs).a = mn (bs.map (·.a)) := rfl
theorem hull_b (bs : List Bx) : (hull bs).b = mn (bs.map (·.b)) := rfl
theorem hull_c (bs : List Bx) : (hull bs).c = mx (bs.map (·.c)) := rfl
theorem hull_d (bs : List Bx) : (hull bs).d = mx (bs.map (·.d)) := rfl
theorem meets_iff (x w : Bx) : meets x w = true ↔ (x.a < w.c ∧ w.a < x.c ∧ x.b < w.d ∧ w.b < x.d) := by
  unfold meets; simp only [Bool.and_eq_true, decide_eq_true_eq]
/-- a box's part that meets a window, meets in the hull -/
theorem hull_meets {bs : List Bx} {x w : Bx} (h : x ∈ bs) (hm : meets x w = true) : meets (hull bs) w = true := by
  have a1 := mn_le (List.mem_map.mpr ⟨x, h, rfl⟩ : x.a ∈ bs.map (·.a))
  have a2 := mn_le (List.mem_map.mpr ⟨x, h, rfl⟩ : x.b ∈ bs.map (·.b))
  have a3 := le_mx (List.mem_map.mpr ⟨x, h, rfl⟩ : x.c ∈ bs.map (·.c))
  have a4 := le_mx (List.mem_map.mpr ⟨x, h, rfl⟩ : x.d ∈ bs.map (·.d))
  rw [meets_iff] at hm ⊢
  rw [hull_a, hull_b, hull_c, hull_d]
  omega
theorem hull_ok {bs : List Bx} (hne : bs ≠ []) (h : ∀ x ∈ bs, x.ok) : (hull bs).ok := by
  cases bs with
  | nil => exact absurd rfl hne
  | cons x bs =>
    have hx := h x (List.mem_cons_self ..)
    have a1 := mn_le (List.mem_map.mpr ⟨x, List.mem_cons_self .., rfl⟩ : x.a ∈ (x :: bs).map (·.a))
    have a2 := mn_le (List.mem_map.mpr ⟨x, List.mem_cons_self .., rfl⟩ : x.b ∈ (x :: bs).map (·.b))
    have a3 := le_mx (List.mem_map.mpr ⟨x, List.mem_cons_self .., rfl⟩ : x.c ∈ (x :: bs).map (·.c))
    have a4 := le_mx (List.mem_map.mpr ⟨x, List.mem_cons_self .., rfl⟩ : x.d ∈ (x :: bs).map (·.d))
    unfold Bx.ok at hx ⊢
    rw [hull_a, hull_b, hull_c, hull_d]
    omega
theorem hull_lc {bs : List Bx} {f : Bx → Int} {j : Int} {x0 x1 x2 x3 : Option OV} (hf : ∀ b : Bx, atI [DL.D.int b.a, .int b.b, .int b.c, .int b.d] j = some (.int (f b))) (hl : bs.length ≤ 1000) :
    lcEnd (compL (tzN 5) bYes (fZ (s2 gIx (sVar 5) (sC (.int j)))) [some (.z (.lst (bs.map Bx.D))), x0, x1, x2, x3, none] (bs.map Bx.D)) = .ok (.l ((bs.map f).map fun i => .z (.int i))) := by
  rw [compL_map Bx.D (fun b => .z (.int (f b))) bs fun b _ => ⟨_, rfl, rfl, by simp [Bx.D, hf]⟩, lcEnd_ok, if_pos (by rw [sizeLine_eq, List.length_map]; omega), List.map_map]
  rfl
theorem pz (xs : List Int) : pures (xs.map fun i => OV.z (.int i)) = xs.map .int := iz_pure xs
theorem hull_ex (bs : List Bx) (hne : bs ≠ []) (hl : bs.length ≤ 1000) : ∃ ds, S_hull (ini N_hull [.z (.lst (bs.map Bx.D))]) = .rt (.z (hull bs).D) ds := by
  have e0 : ini N_hull [.z (.lst (bs.map Bx.D))] = [some (.z (.lst (bs.map Bx.D))), none, none, none, none, none] := rfl
  rw [e0]
  have n1 : ∀ f : Bx → Int, bs.map f ≠ [] := fun f h => hne (List.map_eq_nil_iff.mp h)
  have q0 := fun x0 x1 x2 x3 => hull_lc (bs := bs) (f := (·.a)) (j := 0) (x0 := x0) (x1 := x1) (x2 := x2) (x3 := x3) (fun b => rfl) hl
  have q1 := fun x0 x1 x2 x3 => hull_lc (bs := bs) (f := (·.b)) (j := 1) (x0 := x0) (x1 := x1) (x2 := x2) (x3 := x3) (fun b => rfl) hl
  have q2 := fun x0 x1 x2 x3 => hull_lc (bs := bs) (f := (·.c)) (j := 2) (x0 := x0) (x1 := x1) (x2 := x2) (x3 := x3) (fun b => rfl) hl
  have q3 := fun x0 x1 x2 x3 => hull_lc (bs := bs) (f := (·.d)) (j := 3) (x0 := x0) (x1 := x1) (x2 := x2) (x3 := x3) (fun b => rfl) hl
  have e4 : DL.D.tup [.int (mn (bs.map (·.a))), .int (mn (bs.map (·.b))), .int (mx (bs.map (·.c))), .int (mx (bs.map (·.d)))] = (hull bs).D := rfl
  unfold S_hull
  simp only [sSeq_ap, sSet_ap, sP_ap, sCall_ap, aCons_ap, aNil_ap, fFrz_ap, sLc_ap, iZA_ap, sVar_0, izaR_lst, lcR_ok, wipeD_c, wipeD_n, List.set_cons_succ, List.set_cons_zero, q0, q1, q2, q3, frzR_ok, pure_l, pz, consR_ok, gR_ok, minL (n1 _), maxL (n1 _), zR_ok, foR_ok, setO_ok, th_nx, sRet_ap, sVar_s, gTup_ap, zs, Option.map_some, List.length_cons, List.length_nil, line4 _ _ (by decide : 0 + 1 + 1 + 1 + 1 ≤ 100), retO_ok, e4]
  exact ⟨_, rfl⟩
end L_k32
set_option Elab.async false
set_option linter.all false
set_option maxRecDepth 100000
set_option maxHeartbeats 4000000
namespace L_k32
open PySem PySem.Spec PyProof.Rows L2 DL
/-- a tree of these rows, that deep -/
inductive Tr : DL.D → List Row → Nat → Prop
  | empty : Tr (.obj 0 [.lst [], .non, .lst []]) [] 0
  | leaf (rows : List Row) : rows ≠ [] → rows.length ≤ 8 → Tr (.obj 0 [.lst (rows.map rD), (hull (rows.map (·.2))).D, .lst []]) rows 0
  | node (rows : List Row) (l r : DL.D) (la lb : List Row) (da db : Nat) : 8 < rows.length → (la ++ lb).Perm rows → la.length = (rows.length + 1) / 2 → Tr l la da → Tr r lb db → Tr (.obj 0 [.lst [], (hull (rows.map (·.2))).D, .lst [l, r]]) rows (1 + max da db)
theorem rows_lc {i j : Nat} {dsw : DS} (rows : List Row) {f : Row → OV} {fe : SF} (hl : rows.length ≤ 1000) (h : ∀ r : Row, fe ((dsw.set i (some (.z (.int r.1)))).set j (some (.z r.2.D))) = .ok (f r)) :
    lcEnd (compL (tzTup 2 (tzCons (tzN i) (tzCons (tzN j) tzNil))) bYes fe dsw (rows.map rD)) = .ok (.l (rows.map f)) := by
  rw [compL_map rD f rows fun r _ => ⟨_, rfl, rfl, h r⟩, lcEnd_ok, if_pos (by rw [sizeLine_eq, List.length_map]; omega)]
theorem line2 (r : OV) : line 2 r = .ok r := line4 r 2
theorem line3 (r : OV) : line 3 r = .ok r := line4 r 3
theorem mm (rows : List Row) : (rows.map fun r => OV.z (rD r)) = (rows.map rD).map .z := by rw [List.map_map]; rfl
theorem mb (rows : List Row) : (rows.map fun r => OV.z r.2.D) = ((rows.map (·.2)).map Bx.D).map .z := by rw [List.map_map, List.map_map]; rfl
/-- the fields a tree's making has set before it is divided -/
def pre (rows : List Row) : List OV := [.l ((rows.map rD).map .z), .z (hull (rows.map (·.2))).D, .l []]
theorem init_ex (sd si : SS) (rows : List Row) (ro : OV) (hr : izaR (.ok ro) = .ok (rows.map rD)) (hl : rows.length ≤ 1000)
    (hd : 8 < rows.length → ∃ fs ds, sd (ini N_Tree_divide [.o 0 (pre rows)]) = .nx ds ∧ ds[0]? = some (some (.o 0 fs)) ∧ ∃ d, Tr (OV.o 0 fs).pure rows d) :
    ∃ fs x y, B_Tree_init sd si (ini N_Tree_init [.o 0 [], ro]) = .nx [some (.o 0 fs), some ro, x, y] ∧ ∃ d, Tr (OV.o 0 fs).pure rows d := by
  have e0 : ini N_Tree_init [.o 0 [], ro] = [some (.o 0 []), some ro, none, none] := rfl
  rw [e0]
  have c1 := rows_lc (i := 2) (j := 3) (dsw := [some (.o 0 []), some ro, none, none]) (f := fun r => .z (rD r)) (fe := fZ (sCall DL.gTup (aCons (sVar 2) (aCons (sVar 3) aNil)))) rows hl (fun r => by simp [zs, line2, rD])
  have c2 := fun (x : Option OV) => rows_lc (i := 2) (j := 3) (dsw := [x, some ro, none, none]) (f := fun r => .z r.2.D) (fe := fZ (sVar 3)) rows hl (fun r => by simp)
  rw [mm] at c1
  simp only [mb] at c2
  generalize hrz : ((rows.map rD).map OV.z) = rz at c1
  have lz : rz.length = rows.length := by rw [← hrz]; simp
  have iz0 : izaR (.ok (.l rz)) = .ok (rows.map rD) := by rw [← hrz]; exact izaR_l _
  unfold B_Tree_init
  rw [sSeq_ap, sFSet_to [] [.l rz] (o := .l rz) (ds' := [some (.o 0 []), some ro, none, none]) (by simp only [fO_ap, sLc_ap, iZA_ap, sVar_s, sVar_0, hr, lcR_ok, wipeD_c, wipeD_n, List.set_cons_succ, List.set_cons_zero, c1, foR_ok]) rfl (by simp) (by simp) rfl, th_nx]
  rw [sSeq_ap, sFSet_to [.l rz] [.l rz, .z .non] (o := .z .non) (ds' := [some (.o 0 [.l rz]), some ro, none, none]) (by simp) rfl (by simp) (by simp) rfl, th_nx]
  rw [sSeq_ap, sFSet_to [.l rz, .z .non] [.l rz, .z .non, .l []] (o := .l []) (ds' := [some (.o 0 [.l rz, .z .non]), some ro, none, none]) (by simp [gfR]) rfl (by simp) (by simp) rfl, th_nx]
  simp only [List.set_cons_zero]
  by_cases hne : rows = []
  · subst hne
    have : rz = [] := by rw [← hrz]; rfl
    subst this
    refine ⟨[.l [], .z .non, .l []], none, none, ?_, 0, ?_⟩
    · simp [ofO]
    · simp; exact .empty
  · have hpos : (0 : Int) < rows.length := by have := List.length_pos_iff.mpr hne; omega
    have hne2 : rows.map (·.2) ≠ [] := fun h => hne (List.map_eq_nil_iff.mp h)
    obtain ⟨dsh, hh⟩ := hull_ex (rows.map (·.2)) hne2 (by simp; omega)
    have st : (sIfS (tP (pV (s2 gGt (sCall gLen (aCons (s1 (gFld 0 0) (sVar 0)) aNil)) (sC (.int 0))))) (sFSet 0 1 (fO (sCallD S_hull N_hull (aCons (fFrz (sLc (iZA (s1 (gFld 0 0) (sVar 0))) (tzTup 2 (tzCons (tzN 2) (tzCons (tzN 3) tzNil))) bYes (fZ (sVar 3)) [2, 3])) aNil))) (plV 0)) sNext) [some (.o 0 [.l rz, .z .non, .l []]), some ro, none, none] = .nx [some (.o 0 [.l rz, .z (hull (rows.map (·.2))).D, .l []]), some ro, none, none] := by
      have t1 : (s2 gGt (sCall gLen (aCons (s1 (gFld 0 0) (sVar 0)) aNil)) (sC (.int 0))) [some (.o 0 [.l rz, .z .non, .l []]), some ro, none, none] = .ok (.z (.bl true)) := by
        simp [ofO, lz]; omega
      rw [sIfS_ap, tP_ap, pV_ap, t1, pvR_ok, tpR_ok, ifO_t]
      rw [sFSet_to [.l rz, .z .non, .l []] [.l rz, .z (hull (rows.map (·.2))).D, .l []] (o := .z (hull (rows.map (·.2))).D) (ds' := [some (.o 0 [.l rz, .z .non, .l []]), some ro, none, none]) ?_ rfl (by simp) (by simp) rfl]
      · rfl
      · simp only [fO_ap, sCallD_ap, aCons_ap, aNil_ap, fFrz_ap, sLc_ap, iZA_ap, s1_ap, sVar_0, ap1_ok, gFld_o, List.getElem?_cons_zero, ofO_s, id, iz0, lcR_ok, wipeD_c, wipeD_n, List.set_cons_succ, List.set_cons_zero, c2, frzR_ok, pure_l, pures_mz, consR_ok, cdR_ok, List.all_cons, List.all_nil, isZ_z, List.map_cons, List.map_nil, frzO_z, hh, Bool.and_true, resF_rt_t, foR_ok]
    rw [sSeq_ap, st, th_nx]
    by_cases h8 : 8 < rows.length
    · obtain ⟨fs, ds, q1, q2, d, q3⟩ := hd h8
      refine ⟨fs, none, none, ?_, d, q3⟩
      have t2 : (s2 gGt (sCall gLen (aCons (s1 (gFld 0 0) (sVar 0)) aNil)) (sC (.int 8))) [some (.o 0 [.l rz, .z (hull (rows.map (·.2))).D, .l []]), some ro, none, none] = .ok (.z (.bl true)) := by
        simp [ofO, lz]; omega
      rw [sIfS_ap, tP_ap, pV_ap, t2, pvR_ok, tpR_ok, ifO_t, sDrop_ap]
      have e9 : pre rows = [.l rz, .z (hull (rows.map (·.2))).D, .l []] := by unfold pre; rw [hrz]
      rw [e9] at q1
      rw [sMethI0_ap (o := .o 0 [.l rz, .z (hull (rows.map (·.2))).D, .l []]) (o' := .o 0 fs) rfl rfl (by decide) q1 q2]
      rfl
    · have t2 : (s2 gGt (sCall gLen (aCons (s1 (gFld 0 0) (sVar 0)) aNil)) (sC (.int 8))) [some (.o 0 [.l rz, .z (hull (rows.map (·.2))).D, .l []]), some ro, none, none] = .ok (.z (.bl false)) := by
        simp [ofO, lz]; omega
      refine ⟨[.l rz, .z (hull (rows.map (·.2))).D, .l []], none, none, ?_, 0, ?_⟩
      · rw [sIfS_ap, tP_ap, pV_ap, t2, pvR_ok, tpR_ok, ifO_f]
        rfl
      · rw [← hrz]
        simp only [pure_o, pures_c, pure_l, pures_mz, pures_n, pure_z]
        exact .leaf rows hne (by omega)
end L_k32
set_option Elab.async false
set_option linter.all false
set_option maxRecDepth 100000
set_option maxHeartbeats 4000000
namespace L_k32
open PySem PySem.Spec PyProof.Rows L2 DL
def kD (kf : Bx → Int) (r : Row) : DL.D := .tup [.int (kf r.2), .int r.1, r.2.D]
def unB : DL.D → Bx
  | .tup [.int a, .int b, .int c, .int d] => ⟨a, b, c, d⟩
  | _ => ⟨0, 0, 0, 0⟩
def unK : DL.D → Row
  | .tup [_, .int n, b] => (n, unB b)
  | _ => (0, ⟨0, 0, 0, 0⟩)
theorem unK_kD (kf : Bx → Int) (r : Row) : unK (kD kf r) = r := rfl
theorem sortOk_k (kf : Bx → Int) (rows : List Row) : sortOk (rows.map (kD kf)) = true := by
  have h1 : ∀ r s : Row, (kD kf r).alike (kD kf s) = true := fun r s => rfl
  simp [sortOk, isTN, kD, okd, Bx.D]
  exact fun a b _ c d _ => h1 (a, b) (c, d)
theorem half_ex (si : SS) (rows : List Row) (kf : Bx → Int) (fe : SF) (j : Int) (st st' : OV)
    (hl : rows.length ≤ 1000) : True := trivial
theorem divide_ex (sd si : SS) (rows : List Row) (h8 : 8 < rows.length) (hl : rows.length ≤ 1000)
    (hi : ∀ rows' : List Row, rows'.length ≤ (rows.length + 1) / 2 → ∃ fs x y, si (ini N_Tree_init [.o 0 [], .z (.lst (rows'.map rD))]) = .nx [some (.o 0 fs), some (.z (.lst (rows'.map rD))), x, y] ∧ ∃ d, Tr (OV.o 0 fs).pure rows' d) :
    ∃ fs ds, B_Tree_divide sd si (ini N_Tree_divide [.o 0 (pre rows)]) = .nx ds ∧ ds[0]? = some (some (.o 0 fs)) ∧ ∃ d, Tr (OV.o 0 fs).pure rows d := by
  have e0 : ini N_Tree_divide [.o 0 (pre rows)] = [some (.o 0 (pre rows)), none, none, none, none, none, none, none] := rfl
  rw [e0]
  unfold pre
  generalize hH : hull (rows.map (·.2)) = hb
  generalize hrz : ((rows.map rD).map OV.z) = rz
  have lz : rz.length = rows.length := by rw [← hrz]; simp
  have iz0 : izaR (.ok (.l rz)) = .ok (rows.map rD) := by rw [← hrz]; exact izaR_l _
  -- the ranks
  have ck : ∀ (w : Option OV) (j1 j2 : Int) (kf : Bx → Int), (∀ b : Bx, ∃ u v, atI [DL.D.int b.a, .int b.b, .int b.c, .int b.d] j1 = some (.int u) ∧ atI [DL.D.int b.a, .int b.b, .int b.c, .int b.d] j2 = some (.int v) ∧ kf b = u + v) →
      ∃ zs : List Row, zs.Perm rows ∧ sSet 2 (sP (fFrz (sCallF hSorted (aCons (fFrz (sLc (iZA (s1 (gFld 0 0) (sVar 0))) (tzTup 2 (tzCons (tzN 5) (tzCons (tzN 6) tzNil))) bYes (fZ (sCall DL.gTup (aCons (s2 gAdd (s2 gIx (sVar 6) (sC (.int j1))) (s2 gIx (sVar 6) (sC (.int j2)))) (aCons (sVar 5) (aCons (sVar 6) aNil))))) [5, 6])) aNil)))) [some (.o 0 [.l rz, .z hb.D, .l []]), w, none, none, none, none, none, none] = .nx [some (.o 0 [.l rz, .z hb.D, .l []]), w, some (.z (.lst (zs.map (kD kf)))), none, none, none, none, none] := by
    intro w j1 j2 kf hk
    have c1 := rows_lc (i := 5) (j := 6) (dsw := [some (.o 0 [.l rz, .z hb.D, .l []]), w, none, none, none, none, none, none]) (f := fun r => .z (kD kf r)) (fe := fZ (sCall DL.gTup (aCons (s2 gAdd (s2 gIx (sVar 6) (sC (.int j1))) (s2 gIx (sVar 6) (sC (.int j2)))) (aCons (sVar 5) (aCons (sVar 6) aNil))))) rows hl (fun r => by
      obtain ⟨u, v, h1, h2, h3⟩ := hk r.2
      simp [zs, line3, kD, Bx.D, h1, h2, h3])
    have e1 : (rows.map fun r => OV.z (kD kf r)) = (rows.map (kD kf)).map .z := by rw [List.map_map]; rfl
    rw [e1] at c1
    obtain ⟨zs, p, e⟩ := perm_back (unK_kD kf) (List.mergeSort_perm (rows.map (kD kf)) DL.D.le)
    refine ⟨zs, p, ?_⟩
    simp only [sSet_ap, sP_ap, fFrz_ap, sCallF_ap, aCons_ap, aNil_ap, sLc_ap, iZA_ap, s1_ap, sVar_0, ap1_ok, gFld_o, List.getElem?_cons_zero, ofO_s, id, iz0, lcR_ok, wipeD_c, wipeD_n, List.set_cons_succ, List.set_cons_zero, c1, frzR_ok, pure_l, pures_mz, consR_ok, gfR_ok (hSorted_z (sortOk_k kf rows)), e, zR_ok, foR_ok, setO_ok]
  have hw : ∃ b : Bool, sSet 1 (sP (s2 gGe (s2 gSub (s2 gIx (s1 (gFld 0 1) (sVar 0)) (sC (.int 2))) (s2 gIx (s1 (gFld 0 1) (sVar 0)) (sC (.int 0)))) (s2 gSub (s2 gIx (s1 (gFld 0 1) (sVar 0)) (sC (.int 3))) (s2 gIx (s1 (gFld 0 1) (sVar 0)) (sC (.int 1)))))) [some (.o 0 [.l rz, .z hb.D, .l []]), none, none, none, none, none, none, none] = .nx [some (.o 0 [.l rz, .z hb.D, .l []]), some (.z (.bl b)), none, none, none, none, none, none] := by
    refine ⟨decide (hb.d - hb.b ≤ hb.c - hb.a), ?_⟩
    simp [ofO, Bx.D, atI, ixN]
  obtain ⟨b, hw⟩ := hw
  unfold B_Tree_divide
  rw [sSeq_ap, hw, th_nx, sSeq_ap]
  -- whichever rank
  have hrank : ∃ (zs : List Row) (kf : Bx → Int), zs.Perm rows ∧ (sIfS (tP (pV (sVar 1))) (sSet 2 (sP (fFrz (sCallF hSorted (aCons (fFrz (sLc (iZA (s1 (gFld 0 0) (sVar 0))) (tzTup 2 (tzCons (tzN 5) (tzCons (tzN 6) tzNil))) bYes (fZ (sCall DL.gTup (aCons (s2 gAdd (s2 gIx (sVar 6) (sC (.int 0))) (s2 gIx (sVar 6) (sC (.int 2)))) (aCons (sVar 5) (aCons (sVar 6) aNil))))) [5, 6])) aNil))))) (sSet 2 (sP (fFrz (sCallF hSorted (aCons (fFrz (sLc (iZA (s1 (gFld 0 0) (sVar 0))) (tzTup 2 (tzCons (tzN 5) (tzCons (tzN 6) tzNil))) bYes (fZ (sCall DL.gTup (aCons (s2 gAdd (s2 gIx (sVar 6) (sC (.int 1))) (s2 gIx (sVar 6) (sC (.int 3)))) (aCons (sVar 5) (aCons (sVar 6) aNil))))) [5, 6])) aNil)))))) [some (.o 0 [.l rz, .z hb.D, .l []]), some (.z (.bl b)), none, none, none, none, none, none] = .nx [some (.o 0 [.l rz, .z hb.D, .l []]), some (.z (.bl b)), some (.z (.lst (zs.map (kD kf)))), none, none, none, none, none] := by
    cases b with
    | true =>
      obtain ⟨zs, p, e⟩ := ck (some (.z (.bl true))) 0 2 (fun b => b.a + b.c) fun b => ⟨b.a, b.c, rfl, rfl, rfl⟩
      exact ⟨zs, _, p, by rw [sIfS_ap, tP_ap, pV_ap, sVar_s, sVar_0, pvR_ok, tpR_ok, ifO_t, e]⟩
    | false =>
      obtain ⟨zs, p, e⟩ := ck (some (.z (.bl false))) 1 3 (fun b => b.b + b.d) fun b => ⟨b.b, b.d, rfl, rfl, rfl⟩
      exact ⟨zs, _, p, by rw [sIfS_ap, tP_ap, pV_ap, sVar_s, sVar_0, pvR_ok, tpR_ok, ifO_f, e]⟩
  obtain ⟨zs, kf, pz', er⟩ := hrank
  rw [er, th_nx, sSeq_ap]
  have lzs : zs.length = rows.length := pz'.length_eq
  -- the rows in that order
  have c3 : lcEnd (compL (tzTup 3 (tzCons (tzN 7) (tzCons (tzN 5) (tzCons (tzN 6) tzNil)))) bYes (fZ (sCall DL.gTup (aCons (sVar 5) (aCons (sVar 6) aNil)))) [some (.o 0 [.l rz, .z hb.D, .l []]), some (.z (.bl b)), some (.z (.lst (zs.map (kD kf)))), none, none, none, none, none] (zs.map (kD kf))) = .ok (.l ((zs.map rD).map .z)) := by
    rw [compL_map (kD kf) (fun r => .z (rD r)) zs fun r _ => ⟨_, rfl, rfl, by simp [DL.zs, line2, rD]⟩, lcEnd_ok, if_pos (by rw [sizeLine_eq, List.length_map]; omega), List.map_map]
    rfl
  have s3 : sSet 3 (sP (fFrz (sLc (iZA (sVar 2)) (tzTup 3 (tzCons (tzN 7) (tzCons (tzN 5) (tzCons (tzN 6) tzNil)))) bYes (fZ (sCall DL.gTup (aCons (sVar 5) (aCons (sVar 6) aNil)))) [7, 5, 6]))) [some (.o 0 [.l rz, .z hb.D, .l []]), some (.z (.bl b)), some (.z (.lst (zs.map (kD kf)))), none, none, none, none, none] = .nx [some (.o 0 [.l rz, .z hb.D, .l []]), some (.z (.bl b)), some (.z (.lst (zs.map (kD kf)))), some (.z (.lst (zs.map rD))), none, none, none, none] := by
    simp only [sSet_ap, sP_ap, fFrz_ap, sLc_ap, iZA_ap, sVar_s, sVar_0, izaR_lst, lcR_ok, wipeD_c, wipeD_n, List.set_cons_succ, List.set_cons_zero, c3, frzR_ok, pure_l, pures_mz, zR_ok, foR_ok, setO_ok]
  rw [s3, th_nx, sSeq_ap]
  generalize hk : (zs.length + 1) / 2 = k
  have hdiv : ((zs.length : Int) + 1) / 2 = (k : Int) := by omega
  have hkl : k ≤ (zs.map rD).length := by rw [List.length_map]; omega
  have s4 : sSet 4 (sP (s2 gDiv (s2 gAdd (sCall gLen (aCons (sVar 3) aNil)) (sC (.int 1))) (sC (.int 2)))) [some (.o 0 [.l rz, .z hb.D, .l []]), some (.z (.bl b)), some (.z (.lst (zs.map (kD kf)))), some (.z (.lst (zs.map rD))), none, none, none, none] = .nx [some (.o 0 [.l rz, .z hb.D, .l []]), some (.z (.bl b)), some (.z (.lst (zs.map (kD kf)))), some (.z (.lst (zs.map rD))), some (.z (.int k)), none, none, none] := by
    simp [gDiv_ii, hdiv]
  rw [s4, th_nx, sSeq_ap]
  obtain ⟨f1, x1, y1, i1, d1, t1⟩ := hi (zs.take k) (by rw [List.length_take]; omega)
  obtain ⟨f2, x2, y2, i2, d2, t2⟩ := hi (zs.drop k) (by rw [List.length_drop]; omega)
  have sl1 : sSl (sVar 3) pNo (pSo (sVar 4)) [some (.o 0 [.l rz, .z hb.D, .l []]), some (.z (.bl b)), some (.z (.lst (zs.map (kD kf)))), some (.z (.lst (zs.map rD))), some (.z (.int k)), none, none, none] = .ok (.z (.lst ((zs.take k).map rD))) := by
    rw [sSl_at (o := .z (.lst (zs.map rD))) (lo := none) (hi := some (k : Int)) (by simp) rfl (pSo_at (by simp)), gSlt_lst, cutD_hi _ k rfl hkl, List.map_take]
  have sl2 : sSl (sVar 3) (pSo (sVar 4)) pNo [some (.o 0 [.l rz, .z hb.D, .l []]), some (.z (.bl b)), some (.z (.lst (zs.map (kD kf)))), some (.z (.lst (zs.map rD))), some (.z (.int k)), none, none, none] = .ok (.z (.lst ((zs.drop k).map rD))) := by
    rw [sSl_at (o := .z (.lst (zs.map rD))) (lo := some (k : Int)) (hi := none) (by simp) (pSo_at (by simp)) rfl, gSlt_lst, cutD_lo _ k rfl hkl, List.map_drop]
  have m1 : mkR 0 si N_Tree_init (.ok [.z (.lst ((zs.take k).map rD))]) = .ok (.o 0 f1) := mkR_at rfl (by simpa using i1) rfl
  have m2 : mkR 0 si N_Tree_init (.ok [.z (.lst ((zs.drop k).map rD))]) = .ok (.o 0 f2) := mkR_at rfl (by simpa using i2) rfl
  rw [sFSet_to [.l rz, .z hb.D, .l []] [.l rz, .z hb.D, .l [.z (OV.o 0 f1).pure, .z (OV.o 0 f2).pure]] (o := .l [.z (OV.o 0 f1).pure, .z (OV.o 0 f2).pure]) (ds' := [some (.o 0 [.l rz, .z hb.D, .l []]), some (.z (.bl b)), some (.z (.lst (zs.map (kD kf)))), some (.z (.lst (zs.map rD))), some (.z (.int k)), none, none, none]) (by
    simp only [fO_ap, sCallF_ap, aCons_ap, aNil_ap, fFrz_ap, sMakeD_ap, sl1, sl2, consR_ok, m1, m2, frzR_ok]
    simp [gfR, DL.zs, sizeLine_eq]) rfl (by simp) (by simp) rfl, th_nx]
  rw [sFSet_to [.l rz, .z hb.D, .l [.z (OV.o 0 f1).pure, .z (OV.o 0 f2).pure]] [.l [], .z hb.D, .l [.z (OV.o 0 f1).pure, .z (OV.o 0 f2).pure]] (o := .l []) (ds' := [some (.o 0 [.l rz, .z hb.D, .l [.z (OV.o 0 f1).pure, .z (OV.o 0 f2).pure]]), some (.z (.bl b)), some (.z (.lst (zs.map (kD kf)))), some (.z (.lst (zs.map rD))), some (.z (.int k)), none, none, none]) (by simp [gfR]) rfl (by simp) (by simp) rfl]
  refine ⟨_, _, rfl, rfl, 1 + max d1 d2, ?_⟩
  rw [pure_o]
  simp only [pures_c, pure_l, pures_n, pure_z]
  rw [← hH]
  exact .node rows _ _ (zs.take k) (zs.drop k) d1 d2 h8 (by rw [List.take_append_drop]; exact pz') (by rw [List.length_take]; omega) t1 t2
end L_k32
set_option Elab.async false
set_option linter.all false
set_option maxRecDepth 100000
set_option maxHeartbeats 4000000
namespace L_k32
open PySem PySem.Spec PyProof.Rows L2 DL
theorem S_init_s (n : Nat) : S_Tree_init (n + 1) = B_Tree_init (S_Tree_divide n) (S_Tree_init n) := rfl
theorem S_divide_s (n : Nat) : S_Tree_divide (n + 1) = B_Tree_divide (S_Tree_divide n) (S_Tree_init n) := rfl
theorem S_depth_s (n : Nat) : S_Tree_depth (n + 1) = B_Tree_depth (S_Tree_depth n) := rfl
theorem S_collect_s (n : Nat) : S_Tree_collect (n + 1) = B_Tree_collect (S_Tree_collect n) := rfl
theorem tree_ex : ∀ (k n : Nat) (rows : List Row) (ro : OV), izaR (.ok ro) = .ok (rows.map rD) → rows.length ≤ 8 * 2 ^ k → rows.length ≤ 1000 → 2 * k + 1 ≤ n →
    ∃ fs x y, S_Tree_init n (ini N_Tree_init [.o 0 [], ro]) = .nx [some (.o 0 fs), some ro, x, y] ∧ ∃ d, Tr (OV.o 0 fs).pure rows d
  | 0, n + 1, rows, ro, hr, hk, hl, hn => by
    rw [S_init_s]
    exact init_ex _ _ rows ro hr hl fun h => by simp at hk; omega
  | k + 1, n + 2, rows, ro, hr, hk, hl, hn => by
    rw [S_init_s, S_divide_s]
    exact init_ex _ _ rows ro hr hl fun h => divide_ex _ _ rows h hl fun rows' h' => tree_ex k n rows' _ (by simp) (by rw [Nat.pow_succ] at hk; omega) (by omega) (by omega)
/-- how deep a tree of n rows is -/
def dep (n : Nat) : Nat := if n ≤ 8 then 0 else if n ≤ 16 then 1 else if n ≤ 32 then 2 else 3
theorem tr_dep {t : DL.D} {rows : List Row} {d : Nat} (h : Tr t rows d) : rows.length ≤ 64 → d = dep rows.length := by
  induction h with
  | empty => intro _; rfl
  | leaf rows h1 h2 => intro _; simp [dep, h2]
  | node rows l r la lb da db h8 p e _ _ ih1 ih2 =>
    intro h
    have := p.length_eq
    rw [List.length_append] at this
    rw [ih1 (by omega), ih2 (by omega)]
    have e2 : lb.length = rows.length / 2 := by omega
    rw [e, e2]
    generalize rows.length = n at h h8
    unfold dep
    by_cases h1 : n ≤ 16
    · rw [if_pos (by omega), if_pos (by omega), if_neg (by omega), if_pos h1]; rfl
    · by_cases h2 : n ≤ 32
      · rw [if_neg (by omega), if_pos (by omega), if_neg (show ¬ n ≤ 8 by omega), if_neg h1, if_pos h2]
        by_cases h3 : n / 2 ≤ 8
        · rw [if_pos h3]; rfl
        · rw [if_neg h3, if_pos (by omega)]; rfl
      · rw [if_neg (by omega), if_neg (by omega), if_pos (by omega), if_neg (show ¬ n ≤ 8 by omega), if_neg h1, if_neg h2, if_neg (by omega)]
        by_cases h3 : n / 2 ≤ 16
        · rw [if_pos h3]; rfl
        · rw [if_neg h3, if_pos (by omega)]; rfl
/-! depth() -/
theorem depth_ex {t : DL.D} {rows : List Row} {d : Nat} (h : Tr t rows d) : ∀ n, d + 1 ≤ n → ∃ ds, S_Tree_depth n (ini N_Tree_depth [.z t]) = .rt (.z (.int d)) ds := by
  induction h with
  | empty => intro n hn; obtain ⟨m, rfl⟩ : ∃ m, n = m + 1 := ⟨n - 1, by omega⟩; exact ⟨_, by rw [S_depth_s]; simp [B_Tree_depth, ini, ofO]; rfl⟩
  | leaf rows h1 h2 => intro n hn; obtain ⟨m, rfl⟩ : ∃ m, n = m + 1 := ⟨n - 1, by omega⟩; exact ⟨_, by rw [S_depth_s]; simp [B_Tree_depth, ini, ofO]; rfl⟩
  | node rows l r la lb da db h8 p e tl tr ih1 ih2 =>
    intro n hn
    obtain ⟨m, rfl⟩ : ∃ m, n = m + 1 := ⟨n - 1, by omega⟩
    obtain ⟨ds1, q1⟩ := ih1 m (by omega)
    obtain ⟨ds2, q2⟩ := ih2 m (by omega)
    have o1 : isC 0 (.z l) = true := by cases tl <;> rfl
    have o2 : isC 0 (.z r) = true := by cases tr <;> rfl
    have m1 : mdR 0 (S_Tree_depth m) N_Tree_depth (.ok (.z l)) (.ok []) = .ok (.z (.int da)) := by simp [mdR, o1, q1]
    have m2 : mdR 0 (S_Tree_depth m) N_Tree_depth (.ok (.z r)) (.ok []) = .ok (.z (.int db)) := by simp [mdR, o2, q2]
    generalize ht : DL.D.obj 0 [.lst [], (hull (rows.map (·.2))).D, .lst [l, r]] = t
    have f2 : gFld 0 2 (.z t) = .ok (.z (.lst [l, r])) := by rw [← ht]; simp
    have c : compL (tzN 1) bYes (sMethD 0 (S_Tree_depth m) N_Tree_depth (sVar 1) aNil) [some (.z t), none] [l, r] = .ok [.z (.int da), .z (.int db)] := by
      simp [compL, R.bind, m1, m2]
    have e1 : DL.D.lst [.int da, .int db] = .lst (([(da : Int), (db : Int)]).map .int) := rfl
    have hm : mx [(da : Int), (db : Int)] = (max da db : Nat) := by
      obtain ⟨m, e, h1, h2⟩ := max_some (xs := [(da : Int), (db : Int)]) (by simp)
      rw [mx, e]
      simp at h1 h2 ⊢
      omega
    refine ⟨[some (.z t), none], ?_⟩
    rw [S_depth_s]
    have e0 : ini N_Tree_depth [.z t] = [some (.z t), none] := rfl
    rw [e0]
    simp [B_Tree_depth, f2, c, sizeLine_eq]
    rw [e1, maxL (by simp), hm]
    simp
end L_k32
set_option Elab.async false
set_option linter.all false
set_option maxRecDepth 100000
set_option maxHeartbeats 4000000
namespace L_k32
open PySem PySem.Spec PyProof.Rows L2 DL
theorem isNR_D (neg : Bool) (b : Bx) : isNR neg (.ok (.z b.D)) = .ok (.z (.bl (neg != false))) := rfl
/-- a call that comes back with nothing -/
def Back (o : Out) (ds : DS) : Prop := o = .nx ds ∨ o = .rt (.z .non) ds
theorem sMethI_p {c i : Nat} {S : SS} {N : List Str} {wl : List Nat} {f g : SE} {ds ds' : DS} {a b : DL.D} {o o' : OV} (h1 : f ds = .ok (.z a)) (hc : isC c (.z a) = true) (h2 : g ds = .ok (.z b)) (h3 : ds[i]? = some (some o)) (h4 : 2 ∉ wl) (h5 : Back (S (ini N [.z a, .z b, o])) ds') (h6 : ds'[2]? = some (some o')) :
    sMethI c S N wl (rPu f) (arCons (rPu g) (arCons (rPl (plV i)) arNil)) ds = .ok (.z .non, ds.set i (some o')) := by
  have ha : DL.atS ds ⟨i, []⟩ = some o := by unfold DL.atS; rw [h3]; rfl
  have hp : DL.putS ds ⟨i, []⟩ o' = ds.set i (some o') := by unfold DL.putS; rw [h3]; rfl
  rcases h5 with h5 | h5 <;>
  simp only [sMethI, rPu, rPl, plV, h1, h2, h3, R.bind, isCr, hc, if_true, arCons, arNil, callI, plOf, List.all_nil, isZ, arOs, arO, ha, hp, Option.bind_some, Option.map_some, h5, outI, Nat.zero_add, Nat.reduceAdd, h6, if_neg h4]
def hits (w : Bx) (rows : List Row) : List Int := (rows.filter fun r => meets r.2 w).map (·.1)
theorem hits_perm {w : Bx} {a b : List Row} (h : a.Perm b) : (hits w a).Perm (hits w b) := (h.filter _).map _
theorem coll_row (s : SS) (t : OV) (w : Bx) (acc : List Int) (r : Row) (x y z : Option OV) (hr : r.2.ok) (hw : w.ok) (hl : acc.length < 100000) :
    L_Tree_collect0 s [some t, some (.z w.D), some (.l (iz acc)), some (.z (.int r.1)), some (.z r.2.D), z] = .nx [some t, some (.z w.D), some (.l (iz (acc ++ hits w [r]))), some (.z (.int r.1)), some (.z r.2.D), z] := by
  obtain ⟨ds, h⟩ := overlap_ex r.2 w
  rw [meets_ov _ _ hr hw] at h
  have hlen : (iz acc).length < sizeLine := by rw [sizeLine_eq]; simp [iz]; omega
  unfold L_Tree_collect0
  cases hm : meets r.2 w with
  | true =>
    rw [hm] at h
    have t1 : (gIsN true (fFrz (sCallD S_overlap N_overlap (aCons (sVar 4) (aCons (sVar 1) aNil))))) [some t, some (.z w.D), some (.l (iz acc)), some (.z (.int r.1)), some (.z r.2.D), z] = .ok (.z (.bl true)) := by
      simp [h, isNR_D]
    rw [sIfS_ap, tP_ap, pV_ap, t1, pvR_ok, tpR_ok, ifO_t, sDrop_ap, sAppend_ap (os := iz acc) (os' := iz acc) (o := .z (.int r.1)) (ds' := [some t, some (.z w.D), some (.l (iz acc)), some (.z (.int r.1)), some (.z r.2.D), z]) rfl (by simp) rfl hlen]
    simp [hits, hm, iz]
  | false =>
    rw [hm] at h
    have t1 : (gIsN true (fFrz (sCallD S_overlap N_overlap (aCons (sVar 4) (aCons (sVar 1) aNil))))) [some t, some (.z w.D), some (.l (iz acc)), some (.z (.int r.1)), some (.z r.2.D), z] = .ok (.z (.bl false)) := by
      simp [h]
    rw [sIfS_ap, tP_ap, pV_ap, t1, pvR_ok, tpR_ok, ifO_f]
    simp [hits, hm]
theorem coll_rows (s : SS) (t : OV) (w : Bx) (hw : w.ok) : ∀ (rows : List Row) (acc : List Int) (x y z : Option OV), (∀ r ∈ rows, r.2.ok) → acc.length + rows.length < 100000 →
    ∃ x' y', loopL (gOf (tzTup 2 (tzCons (tzN 3) (tzCons (tzN 4) tzNil)))) (L_Tree_collect0 s) (rows.map rD) [some t, some (.z w.D), some (.l (iz acc)), x, y, z] = .nx [some t, some (.z w.D), some (.l (iz (acc ++ hits w rows))), x', y', z]
  | [], acc, x, y, z, _, _ => ⟨x, y, by simp [loopL, hits]⟩
  | r :: rows, acc, x, y, z, hr, hl => by
    simp only [List.length_cons] at hl
    have hh : (hits w [r]).length ≤ 1 := by unfold hits; rw [List.length_map]; exact List.length_filter_le _ _
    obtain ⟨x', y', e⟩ := coll_rows s t w hw rows (acc ++ hits w [r]) (some (.z (.int r.1))) (some (.z r.2.D)) z (fun q hq => hr q (List.mem_cons_of_mem _ hq)) (by rw [List.length_append]; omega)
    refine ⟨x', y', ?_⟩
    rw [List.map_cons, loopL]
    have tg : gOf (tzTup 2 (tzCons (tzN 3) (tzCons (tzN 4) tzNil))) (.z (rD r)) [some t, some (.z w.D), some (.l (iz acc)), x, y, z] = some [some t, some (.z w.D), some (.l (iz acc)), some (.z (.int r.1)), some (.z r.2.D), z] := by simp [rD]
    simp only [tg]
    rw [coll_row s t w acc r x y z (hr r (List.mem_cons_self ..)) hw (by omega)]
    simp only [e]
    rw [List.append_assoc]
    congr 6
    unfold hits
    rw [← List.map_append, ← List.filter_append]
    rfl
theorem collect_ex {t : DL.D} {rows : List Row} {d : Nat} (h : Tr t rows d) (w : Bx) (hw : w.ok) : (∀ r ∈ rows, r.2.ok) → rows.length ≤ 1000 → ∀ (n : Nat) (acc : List Int), d + 1 ≤ n → acc.length ≤ 1000 * (64 - d) → d ≤ 60 →
    ∃ hs x y z, hs.Perm (hits w rows) ∧ Back (S_Tree_collect n (ini N_Tree_collect [.z t, .z w.D, .l (iz acc)])) [some (.z t), some (.z w.D), some (.l (iz (acc ++ hs))), x, y, z] := by
  have key : ∀ (t : DL.D) (bs : List Bx) (fs : List DL.D), t = .obj 0 fs → fs[1]? = some (hull bs).D → bs ≠ [] → (∀ b ∈ bs, b.ok) → ∀ (acc : List Int) (k : Out),
      (meets (hull bs) w = true → k = k) → (pOr (pV (gIsN false (s1 (gFld 0 1) (sVar 0)))) (pV (gIsN false (fFrz (sCallD S_overlap N_overlap (aCons (s1 (gFld 0 1) (sVar 0)) (aCons (sVar 1) aNil))))))) [some (.z t), some (.z w.D), some (.l (iz acc)), none, none, none] = .ok (!meets (hull bs) w) := by
    intro t bs fs ht hf hne hok acc k _
    subst ht
    obtain ⟨ds, h⟩ := overlap_ex (hull bs) w
    rw [meets_ov _ _ (hull_ok hne hok) hw] at h
    have f1 : gFld 0 1 (.z (.obj 0 fs)) = .ok (.z (hull bs).D) := by simp [hf]
    cases hm : meets (hull bs) w with
    | true => rw [hm] at h; simp [f1, h, isNR_D]
    | false => rw [hm] at h; simp [f1, h, isNR_D]
  induction h with
  | empty =>
    intro hr hl n acc hn ha hd
    obtain ⟨m, rfl⟩ : ∃ m, n = m + 1 := ⟨n - 1, by omega⟩
    refine ⟨[], none, none, none, .refl _, .inr ?_⟩
    rw [S_collect_s]
    simp [B_Tree_collect, ini]
  | leaf rows h1 h2 =>
    intro hr hl n acc hn ha hd
    obtain ⟨m, rfl⟩ : ∃ m, n = m + 1 := ⟨n - 1, by omega⟩
    have hne : rows.map (·.2) ≠ [] := fun h => h1 (List.map_eq_nil_iff.mp h)
    have hok : ∀ b ∈ rows.map (·.2), b.ok := fun b hb => by
      obtain ⟨r, hr', rfl⟩ := List.mem_map.mp hb
      exact hr r hr'
    have kk := key _ (rows.map (·.2)) [.lst (rows.map rD), (hull (rows.map (·.2))).D, .lst []] rfl rfl hne hok acc .bad fun _ => rfl
    generalize ht : DL.D.obj 0 [.lst (rows.map rD), (hull (rows.map (·.2))).D, .lst []] = t at kk
    have f0 : gFld 0 0 (.z t) = .ok (.z (.lst (rows.map rD))) := by rw [← ht]; simp
    have f2 : gFld 0 2 (.z t) = .ok (.z (.lst [])) := by rw [← ht]; simp
    have e0 : ini N_Tree_collect [.z t, .z w.D, .l (iz acc)] = [some (.z t), some (.z w.D), some (.l (iz acc)), none, none, none] := rfl
    rw [S_collect_s, e0]
    unfold B_Tree_collect
    rw [sSeq_ap, sIfS_ap, tP_ap, kk, tpR_ok]
    cases hm : meets (hull (rows.map (·.2))) w with
    | false =>
      refine ⟨[], none, none, none, ?_, .inr ?_⟩
      · have : hits w rows = [] := by
          unfold hits
          rw [List.filter_eq_nil_iff.mpr fun r hr' => ?_]
          · rfl
          · intro hmr
            rw [hull_meets (List.mem_map.mpr ⟨r, hr', rfl⟩) hmr] at hm
            cases hm
        rw [this]
      · simp
    | true =>
      obtain ⟨x', y', e⟩ := coll_rows (S_Tree_collect m) (.z t) w hw rows acc none none none hr (by omega)
      refine ⟨hits w rows, x', y', none, .refl _, .inl ?_⟩
      simp [f0, f2, e, loopL]
  | node rows l r la lb da db h8 p e tl tr ih1 ih2 =>
    intro hr hl n acc hn ha hd
    obtain ⟨m, rfl⟩ : ∃ m, n = m + 1 := ⟨n - 1, by omega⟩
    have pl := p.length_eq
    rw [List.length_append] at pl
    have hne : rows.map (·.2) ≠ [] := fun h => by
      have := List.map_eq_nil_iff.mp h
      rw [this] at h8; simp at h8
    have hok : ∀ b ∈ rows.map (·.2), b.ok := fun b hb => by
      obtain ⟨r, hr', rfl⟩ := List.mem_map.mp hb
      exact hr r hr'
    have hra : ∀ r ∈ la, r.2.ok := fun r h => hr r (p.mem_iff.mp (List.mem_append_left _ h))
    have hrb : ∀ r ∈ lb, r.2.ok := fun r h => hr r (p.mem_iff.mp (List.mem_append_right _ h))
    have hlen : ∀ xs : List Row, xs.length ≤ 1000 → (hits w xs).length ≤ 1000 := fun xs h => by
      unfold hits; rw [List.length_map]; exact Nat.le_trans (List.length_filter_le _ _) h
    have kk := key _ (rows.map (·.2)) [.lst [], (hull (rows.map (·.2))).D, .lst [l, r]] rfl rfl hne hok acc .bad fun _ => rfl
    generalize ht : DL.D.obj 0 [.lst [], (hull (rows.map (·.2))).D, .lst [l, r]] = t at kk
    have f0 : gFld 0 0 (.z t) = .ok (.z (.lst [])) := by rw [← ht]; simp
    have f2 : gFld 0 2 (.z t) = .ok (.z (.lst [l, r])) := by rw [← ht]; simp
    have e0 : ini N_Tree_collect [.z t, .z w.D, .l (iz acc)] = [some (.z t), some (.z w.D), some (.l (iz acc)), none, none, none] := rfl
    rw [S_collect_s, e0]
    unfold B_Tree_collect
    rw [sSeq_ap, sIfS_ap, tP_ap, kk, tpR_ok]
    cases hm : meets (hull (rows.map (·.2))) w with
    | false =>
      refine ⟨[], none, none, none, ?_, .inr ?_⟩
      · have : hits w rows = [] := by
          unfold hits
          rw [List.filter_eq_nil_iff.mpr fun r hr' => ?_]
          · rfl
          · intro hmr
            rw [hull_meets (List.mem_map.mpr ⟨r, hr', rfl⟩) hmr] at hm
            cases hm
        rw [this]
      · simp
    | true =>
      have o1 : isC 0 (.z l) = true := by cases tl <;> rfl
      have o2 : isC 0 (.z r) = true := by cases tr <;> rfl
      have a1 : acc.length ≤ 1000 * (64 - da) := by
        have := Nat.le_max_left da db
        have : 1000 * (64 - (1 + max da db)) ≤ 1000 * (64 - da) := Nat.mul_le_mul_left _ (by omega)
        omega
      obtain ⟨h1, x1, y1, z1, p1, b1⟩ := ih1 hra (by omega) m acc (by omega) a1 (by omega)
      have l1 : h1.length ≤ 1000 := by rw [p1.length_eq]; exact hlen la (by omega)
      have a2 : (acc ++ h1).length ≤ 1000 * (64 - db) := by
        have := Nat.le_max_right da db
        have : 1000 * (64 - (1 + max da db)) + 1000 ≤ 1000 * (64 - db) := by omega
        rw [List.length_append]; omega
      obtain ⟨h2, x2, y2, z2, p2, b2⟩ := ih2 hrb (by omega) m (acc ++ h1) (by omega) a2 (by omega)
      refine ⟨h1 ++ h2, none, none, some (.z r), ?_, .inl ?_⟩
      · have := (p1.append p2).trans (by unfold hits; rw [← List.map_append, ← List.filter_append] : ((hits w la) ++ (hits w lb)).Perm (hits w (la ++ lb)))
        exact this.trans (hits_perm p)
      · have q1 := sMethI_p (c := 0) (i := 2) (S := S_Tree_collect m) (N := N_Tree_collect) (wl := w_Tree_collect) (f := sVar 5) (g := sVar 1) (ds := [some (.z t), some (.z w.D), some (.l (iz acc)), none, none, some (.z l)]) (a := l) (b := w.D) (o := .l (iz acc)) (o' := .l (iz (acc ++ h1))) (by simp) o1 (by simp) rfl (by decide) b1 rfl
        have q2 := sMethI_p (c := 0) (i := 2) (S := S_Tree_collect m) (N := N_Tree_collect) (wl := w_Tree_collect) (f := sVar 5) (g := sVar 1) (ds := [some (.z t), some (.z w.D), some (.l (iz (acc ++ h1))), none, none, some (.z r)]) (a := r) (b := w.D) (o := .l (iz (acc ++ h1))) (o' := .l (iz (acc ++ h1 ++ h2))) (by simp) o2 (by simp) rfl (by decide) b2 rfl
        simp only [List.set_cons_succ, List.set_cons_zero] at q1 q2
        simp only [Bool.not_true, ifO_f, sNext_ap, th_nx, sSeq_ap, sFor_ap, iZ_ap, s1_ap, sVar_0, ap1_ok, f0, f2, izR_lst, forO_ok, loopL, gOf_ap, tzN_ap, List.set_cons_succ, List.set_cons_zero, L_Tree_collect1, sDrop_ap, q1, dropO_ok, q2, List.append_assoc]
end L_k32
set_option Elab.async false
set_option linter.all false
set_option maxRecDepth 100000
set_option maxHeartbeats 4000000
namespace L_k32
open PySem PySem.Spec PyProof.Rows L2 DL
theorem find_ex {t : DL.D} {rows : List Row} {d : Nat} (h : Tr t rows d) (w : Bx) (hw : w.ok) (hr : ∀ r ∈ rows, r.2.ok) (hl : rows.length ≤ 1000) (hd : d ≤ 9) : ∃ ds, S_Tree_find (ini N_Tree_find [.z t, .z w.D]) = .rt (.l (iz (srt (hits w rows)))) ds := by
  obtain ⟨hs, x, y, z, p, b⟩ := collect_ex h w hw hr hl 10 [] (by omega) (by simp) (by omega)
  have o1 : isC 0 (.z t) = true := by cases h <;> rfl
  have e0 : ini N_Tree_find [.z t, .z w.D] = [some (.z t), some (.z w.D), none] := rfl
  have q1 := sMethI_p (c := 0) (i := 2) (S := S_Tree_collect fuel_Tree_collect) (N := N_Tree_collect) (wl := w_Tree_collect) (f := sVar 0) (g := sVar 1) (ds := [some (.z t), some (.z w.D), some (.l [])]) (a := t) (b := w.D) (o := .l []) (o' := .l (iz hs)) (by simp) o1 (by simp) rfl (by decide) b rfl
  simp only [List.set_cons_succ, List.set_cons_zero] at q1
  rw [e0]
  unfold S_Tree_find
  have s1 : sSet 2 (fO (sCallF hLst aNil)) [some (.z t), some (.z w.D), none] = .nx [some (.z t), some (.z w.D), some (.l [])] := by simp [gfR]
  rw [sSeq_ap, s1, th_nx, sSeq_ap, sDrop_ap, q1, dropO_ok, th_nx]
  have e2 : frzAt 2 [some (.z t), some (.z w.D), some (.l (iz hs))] = [some (.z t), some (.z w.D), some (.z (.lst (hs.map .int)))] := by
    simp [frzAt, pz]
  rw [zFrz_ap, e2, sRet_ap, fO_ap, sCallF_ap]
  simp only [aCons_ap, aNil_ap, sVar_s, sVar_0, consR_ok, gfR_sorted_ints, foR_ok, retO_ok]
  rw [srt_perm p]
  exact ⟨_, rfl⟩
theorem is_int_ex (i : Int) : ∃ ds, S_law_is_int (ini N_law_is_int [.z (.int i)]) = .rt (.z (.bl true)) ds := by
  simp [S_law_is_int, ini, gIsT, OV.ty?, D.ty?, isT]
theorem is_number_ex (i : Int) : ∃ ds, S_law_is_number (ini N_law_is_number [.z (.int i), .z (.int i)]) = .rt (.z (.bl true)) ds := by
  obtain ⟨ds, h⟩ := is_int_ex i
  have e0 : ini N_law_is_number [.z (.int i), .z (.int i)] = [some (.z (.int i)), some (.z (.int i))] := rfl
  rw [e0]
  simp [S_law_is_number, h]
theorem ints_ex (xs : List Int) (hl : xs.length ≤ 100000) : ∃ ds, S_law_ints (ini N_law_ints [.z (.lst (xs.map .int)), .z (.str (cs "list"))]) = .rt (.z (.bl true)) ds := by
  have e0 : ini N_law_ints [.z (.lst (xs.map .int)), .z (.str (cs "list"))] = [some (.z (.lst (xs.map .int))), some (.z (.str (cs "list"))), none] := rfl
  rw [e0]
  have hb : big62 (xs.length : Int) = true := by simp [big62]; omega
  obtain ⟨ds', h1, z, rfl⟩ := loop_inv0 (g := gOf (tzN 2)) (b := L_law_ints0) (fun _ ds => ∃ z : Option OV, ds = [some (.z (.lst (xs.map .int))), some (.z (.str (cs "list"))), z]) (rng 0 xs.length) [some (.z (.lst (xs.map .int))), some (.z (.str (cs "list"))), none] ⟨none, rfl⟩ (by
    rintro j x ds hx ⟨z, rfl⟩
    obtain ⟨hj, rfl⟩ := rng_get hx
    have hj' : j < xs.length := by omega
    obtain ⟨dsi, hi⟩ := is_int_ex xs[j]
    refine ⟨_, [some (.z (.lst (xs.map .int))), some (.z (.str (cs "list"))), some (.z (.int j))], by rw [gOf_ap, tzN_ap, Int.zero_add], .inl ?_, some (.z (.int j)), rfl⟩
    have ix : gIx (.z (.lst (xs.map .int))) (.z (.int j)) = .ok (.z (.int xs[j])) := gIx_lst (k := j) rfl (by simp [hj'])
    simp only [List.set_cons_succ, List.set_cons_zero]
    simp only [L_law_ints0, sIfS_ap, tP_ap, pNot_ap, pV_ap, fFrz_ap, sCallD_ap, aCons_ap, aNil_ap, s2_ap, sVar_s, sVar_0, ap2_ok, ix, consR_ok, cdR_ok, List.all_cons, List.all_nil, isZ_z, Bool.and_true, List.map_cons, List.map_nil, frzO_z, hi, resF_rt_t, frzR_ok, pure_z, pvR_ok, notR_ok, Bool.not_true, tpR_ok, ifO_f, sNext_ap])
  simp [S_law_ints, gIsT, OV.ty?, D.ty?, isT, ofO, rg1R_ok _ hb, h1]
theorem is_list_ex (xs : List Int) (hl : xs.length ≤ 100000) : ∃ ds, S_law_is_list (ini N_law_is_list [.z (.lst (xs.map .int)), .z (.lst (xs.map .int))]) = .rt (.z (.bl true)) ds := by
  obtain ⟨ds, h⟩ := ints_ex xs hl
  have e0 : ini N_law_is_list [.z (.lst (xs.map .int)), .z (.lst (xs.map .int))] = [some (.z (.lst (xs.map .int))), some (.z (.lst (xs.map .int)))] := rfl
  rw [e0]
  have he : gEq (.z (.lst (xs.map .int))) (.z (.lst (xs.map .int))) = .ok (.z (.bl true)) := gEq_refl rfl (by simp [okd])
  simp [S_law_is_list, h, he]
theorem law_depth_ex (n : Nat) (hn : n ≤ 64) : ∃ ds, S_law_depth (ini N_law_depth [.z (.int n)]) = .rt (.z (.int (dep n))) ds := by
  have e0 : ini N_law_depth [.z (.int n)] = [some (.z (.int n)), none, none, none] := rfl
  rw [e0]
  obtain ⟨ds', h1, d, k, rfl, h2, h3, h4⟩ := loop_inv0 (g := gOf (tzN 3)) (b := L_law_depth0) (fun i ds => ∃ (d : Nat) (k : Option OV), ds = [some (.z (.int n)), some (.z (.int d)), some (.z (.int (8 * 2 ^ d : Nat))), k] ∧ (d = 0 ∨ 8 * 2 ^ d < 2 * n) ∧ (n ≤ 8 * 2 ^ d ∨ d = i) ∧ d ≤ i) (rng 0 12) [some (.z (.int n)), some (.z (.int 0)), some (.z (.int 8)), none] ⟨0, none, rfl, .inl rfl, .inr rfl, Nat.le_refl _⟩ (by
    rintro j x ds hx ⟨d, k, rfl, h2, h3, h4⟩
    obtain ⟨hj, rfl⟩ := rng_get hx
    have c2 : small 2 = true := by decide
    by_cases h : 8 * 2 ^ d < n
    · refine ⟨_, [some (.z (.int n)), some (.z (.int (d + 1 : Nat))), some (.z (.int (8 * 2 ^ (d + 1) : Nat))), some (.z (.int j))], by rw [gOf_ap, tzN_ap, Int.zero_add], .inl ?_, d + 1, _, rfl, .inr (by rw [Nat.pow_succ]; omega), .inr (by omega), by omega⟩
      have e1 : (2 : Int) * ((8 * 2 ^ d : Nat) : Int) = ((8 * 2 ^ (d + 1) : Nat) : Int) := by rw [Nat.pow_succ]; omega
      have hlt : ((8 * 2 ^ d : Nat) : Int) < (n : Int) := by omega
      generalize ((8 * 2 ^ d : Nat) : Int) = r at e1 hlt
      simp [L_law_depth0, hlt, gMul_l _ _ c2, e1]
    · refine ⟨_, [some (.z (.int n)), some (.z (.int d)), some (.z (.int (8 * 2 ^ d : Nat))), some (.z (.int j))], by rw [gOf_ap, tzN_ap, Int.zero_add], .inl ?_, d, _, rfl, h2, .inl (by omega), by omega⟩
      have hlt : ¬ ((8 * 2 ^ d : Nat) : Int) < (n : Int) := by omega
      generalize ((8 * 2 ^ d : Nat) : Int) = r at hlt
      simp [L_law_depth0, hlt])
  have hdep : d = dep n := by
    have h12 : (rng 0 12).length = 12 := rfl
    rw [h12] at h3 h4
    have hd : n ≤ 8 * 2 ^ d := by
      rcases h3 with h | h
      · exact h
      · rw [h]; omega
    unfold dep
    have p3 : 3 ≤ d → 8 * 2 ^ 3 ≤ 8 * 2 ^ d := fun h => Nat.mul_le_mul_left _ (Nat.pow_le_pow_right (by omega) h)
    rcases Nat.lt_or_ge d 4 with h | h
    · have : d = 0 ∨ d = 1 ∨ d = 2 ∨ d = 3 := by omega
      rcases this with rfl | rfl | rfl | rfl <;> simp at hd h2 ⊢ <;> (repeat' split) <;> omega
    · have : 8 * 2 ^ 4 ≤ 8 * 2 ^ d := Nat.mul_le_mul_left _ (Nat.pow_le_pow_right (by omega) h)
      omega
  have hb : big62 12 = true := by decide
  simp [S_law_depth, rg1R_ok _ hb, h1, hdep]
end L_k32
set_option Elab.async false
set_option linter.all false
set_option maxRecDepth 100000
set_option maxHeartbeats 4000000
namespace L_k32
open PySem PySem.Spec PyProof.Rows L2 DL
theorem compL_ex {α : Type} {g : SZ} {t : SB} {fe : SF} {dsw : DS} (enc : α → DL.D) (P : OV → Prop) : ∀ (xs : List α), (∀ x ∈ xs, ∃ ds1 o, g (enc x) dsw = some ds1 ∧ t ds1 = .ok true ∧ fe ds1 = .ok o ∧ P o) → ∃ os, compL g t fe dsw (xs.map enc) = .ok os ∧ os.length = xs.length ∧ ∀ o ∈ os, P o
  | [], _ => ⟨[], rfl, rfl, by simp⟩
  | x :: xs, h => by
    obtain ⟨ds1, o, h1, h2, h3, h4⟩ := h x (List.mem_cons_self ..)
    obtain ⟨os, e, l, p⟩ := compL_ex enc P xs fun y hy => h y (List.mem_cons_of_mem _ hy)
    refine ⟨o :: os, ?_, by simp [l], by simpa using ⟨h4, p⟩⟩
    rw [List.map_cons, compL]
    simp [h1, h2, h3, e, R.bind]
theorem ex_map {α β : Type} {f : α → β} {Q : α → Prop} : ∀ {os : List β}, (∀ o ∈ os, ∃ a, Q a ∧ o = f a) → ∃ as : List α, os = as.map f ∧ ∀ a ∈ as, Q a
  | [], _ => ⟨[], rfl, by simp⟩
  | o :: os, h => by
    obtain ⟨a, q, rfl⟩ := h o (List.mem_cons_self ..)
    obtain ⟨as, rfl, p⟩ := ex_map fun y hy => h y (List.mem_cons_of_mem _ hy)
    exact ⟨a :: as, rfl, by simpa using ⟨q, p⟩⟩
theorem boxes_ex (cell : Int) : ∃ bs : List Bx, (∀ b ∈ bs, b.ok) ∧ bs.length ≤ 6 ∧ ∃ ds, S_law_boxes (ini N_law_boxes [.z (.int cell), .z (.int 6)]) = .rt (.l ((bs.map Bx.D).map .z)) ds := by
  obtain ⟨xs, hl, hb, ds, hd⟩ := law_draws_ex cell 13 (by decide)
  have e0 : ini N_law_boxes [.z (.int cell), .z (.int 6)] = [some (.z (.int cell)), some (.z (.int 6)), none, none] := rfl
  have c2 : small 2 = true := by decide
  have hd : S_law_draws (ini N_law_draws [.z (.int cell), .z (.int 13)]) = .rt (.l (iz xs)) ds := hd
  have s1 : sSet 2 (sP (fFrz (sCallD S_law_draws N_law_draws (aCons (sVar 0) (aCons (s2 gAdd (s2 gMul (sC (.int 2)) (sVar 1)) (sC (.int 1))) aNil))))) [some (.z (.int cell)), some (.z (.int 6)), none, none] = .nx [some (.z (.int cell)), some (.z (.int 6)), some (.z (.lst (xs.map .int))), none] := by
    simp [gMul_l _ _ c2, hd, pz]
  have h12 : xs[12]? = some xs[12] := by simp [hl]
  have b12 := hb xs[12] (List.getElem_mem _)
  have r12 := pmod xs[12] 7 (by decide)
  obtain ⟨m, hm⟩ : ∃ m : Nat, xs[12] % 7 = m := ⟨(xs[12] % 7).toNat, by omega⟩
  have hm6 : m ≤ 6 := by omega
  have ix12 : gIx (.z (.lst (xs.map .int))) (.z (.int 12)) = .ok (.z (.int xs[12])) := gIx_lst (k := 12) rfl (by rw [List.getElem?_map, h12]; rfl)
  obtain ⟨os, he, hlen, hP⟩ := compL_ex (g := tzN 3) (t := bYes) (fe := sCallD S_law_box_of N_law_box_of (aCons (s2 gIx (sVar 2) (s2 gMul (sC (.int 2)) (sVar 3))) (aCons (s2 gIx (sVar 2) (s2 gAdd (s2 gMul (sC (.int 2)) (sVar 3)) (sC (.int 1)))) aNil))) (dsw := [some (.z (.int cell)), some (.z (.int 6)), some (.z (.lst (xs.map .int))), none]) (fun k : Nat => DL.D.int (k : Int)) (fun o => ∃ b : Bx, b.ok ∧ o = .z b.D) (List.range m) (fun k hk => by
    have hk' := List.mem_range.mp hk
    have a1 : 2 * k < xs.length := by omega
    have a2 : 2 * k + 1 < xs.length := by omega
    have i1 : gIx (.z (.lst (xs.map .int))) (.z (.int (2 * (k : Int)))) = .ok (.z (.int xs[2 * k])) := gIx_lst (k := 2 * k) (by omega) (by simp [a1])
    have i2 : gIx (.z (.lst (xs.map .int))) (.z (.int (2 * (k : Int) + 1))) = .ok (.z (.int xs[2 * k + 1])) := gIx_lst (k := 2 * k + 1) (by omega) (by simp [a2])
    obtain ⟨b, hb1, _, dsb, hb2⟩ := box_of_ex xs[2 * k] xs[2 * k + 1]
    refine ⟨_, .z b.D, rfl, rfl, ?_, b, hb1, rfl⟩
    simp only [List.set_cons_succ, List.set_cons_zero, sCallD_ap, aCons_ap, aNil_ap, s2_ap, sVar_s, sVar_0, sC_ap, ap2_ok, gMul_l _ _ c2, i1, gAdd_ii, i2, consR_ok, cdR_ok, List.all_cons, List.all_nil, isZ_z, Bool.and_true, List.map_cons, List.map_nil, frzO_z, hb2, resF_rt_t])
  obtain ⟨bs, rfl, hok⟩ := ex_map (f := fun b : Bx => OV.z b.D) hP
  refine ⟨bs, hok, by rw [List.length_map, List.length_range] at hlen; omega, ?_⟩
  have hb6 : big62 (m : Int) = true := by simp [big62]; omega
  rw [e0]
  unfold S_law_boxes
  rw [sSeq_ap, s1, th_nx]
  have hrng : rng 0 (m : Int) = (List.range m).map fun k : Nat => DL.D.int (k : Int) := rng_0 m
  have e1 : (bs.map fun b : Bx => OV.z b.D) = (bs.map Bx.D).map .z := by rw [List.map_map]; rfl
  have hsz : ((bs.map Bx.D).map OV.z).length ≤ sizeLine := by rw [← e1, sizeLine_eq, hlen, List.length_range]; omega
  have gm : gMod (.z (.int xs[12])) (.z (.int 7)) = .ok (.z (.int m)) := by rw [gMod_ii _ _ (by decide), hm]
  have g2 : gMul (.z (.int 2)) (.z (.int 6)) = .ok (.z (.int 12)) := rfl
  have g3 : gAdd (.z (.int 6)) (.z (.int 1)) = .ok (.z (.int 7)) := rfl
  simp only [sRet_ap, fO_ap, sLc_ap, iRng1_ap, aCons_ap, aNil_ap, s2_ap, sVar_s, sVar_0, sC_ap, ap2_ok, g2, ix12, g3, gm, consR_ok, rg1R_ok _ hb6, hrng, lcR_ok, wipeD_c, wipeD_n, List.set_cons_succ, List.set_cons_zero, he, lcEnd_ok, if_pos hsz, foR_ok, retO_ok, e1]
  exact ⟨_, rfl⟩
theorem sMakeI1 {c i : Nat} {S : SS} {N : List Str} {wl : List Nat} {ds ds' : DS} {o o' : OV} {c' : Nat} {fs : List OV} (h3 : ds[i]? = some (some o)) (h4 : 1 ∉ wl) (h5 : S (ini N [.o c [], o]) = .nx ds') (h6 : ds'[0]? = some (some (.o c' fs))) (h7 : ds'[1]? = some (some o')) :
    sMakeI c S N wl (arCons (rPl (plV i)) arNil) ds = .ok (.o c' fs, ds.set i (some o')) := by
  have ha : DL.atS ds ⟨i, []⟩ = some o := by unfold DL.atS; rw [h3]; rfl
  have hp : DL.putS ds ⟨i, []⟩ o' = ds.set i (some o') := by unfold DL.putS; rw [h3]; rfl
  simp only [sMakeI, rPl, plV, h3, R.bind, arCons, arNil, plOf, List.all_nil, if_true, arOs, arO, ha, Option.bind_some, Option.map_some, h5, makeI, h6, Nat.zero_add, h7, if_neg h4, hp]
end L_k32
set_option Elab.async false
set_option linter.all false
set_option maxRecDepth 100000
set_option maxHeartbeats 4000000
namespace L_k32
open PySem PySem.Spec PyProof.Rows L2 DL
def exB4 : List Bx := [⟨-90, -90, 90, 90⟩, ⟨50, 50, 51, 51⟩, ⟨2, 3, 3, 4⟩]
/-- a turn of the making of the rows -/
theorem law0_ex (s0 s3 : Option OV) (s t : Int) (hs : 1 ≤ s) (hs2 : s ≤ 1000000000) (xs : List Int) (hl : xs.length = 84) (rows : List Row) (k : Nat) (hk : k ≤ 40) (hr : rows.length = k) (b : Option OV) :
    ∃ (r : Row) (b' : Option OV), r.2.ok ∧ L_law0 [s0, some (.z (.tup [.int s, .int t])), some (.z (.lst (xs.map .int))), s3, some (.l ((rows.map rD).map .z)), some (.z (.int k)), b, none, none, none, none, none, none, none, none] =
      .nx [s0, some (.z (.tup [.int s, .int t])), some (.z (.lst (xs.map .int))), s3, some (.l (((rows ++ [r]).map rD).map .z)), some (.z (.int k)), b', none, none, none, none, none, none, none, none] := by
  have c2 : small 2 = true := by decide
  have c7 : small 7 = true := by decide
  have a1 : 2 * k < xs.length := by omega
  have a2 : 2 * k + 1 < xs.length := by omega
  have i1 : gIx (.z (.lst (xs.map .int))) (.z (.int (2 * (k : Int)))) = .ok (.z (.int xs[2 * k])) := gIx_lst (k := 2 * k) (by omega) (by simp [a1])
  have i2 : gIx (.z (.lst (xs.map .int))) (.z (.int (2 * (k : Int) + 1))) = .ok (.z (.int xs[2 * k + 1])) := gIx_lst (k := 2 * k + 1) (by omega) (by simp [a2])
  have i82 : gIx (.z (.lst (xs.map .int))) (.z (.int 82)) = .ok (.z (.int (xs[82]'(by omega)))) := gIx_lst (k := 82) rfl (by rw [List.getElem?_map, List.getElem?_eq_getElem (by omega)]; rfl)
  obtain ⟨bx, hb1, _, dsb, hb2⟩ := box_of_ex xs[2 * k] xs[2 * k + 1]
  have s1 : sSet 6 (sP (fFrz (sCallD S_law_box_of N_law_box_of (aCons (s2 gIx (sVar 2) (s2 gMul (sC (.int 2)) (sVar 5))) (aCons (s2 gIx (sVar 2) (s2 gAdd (s2 gMul (sC (.int 2)) (sVar 5)) (sC (.int 1)))) aNil))))) [s0, some (.z (.tup [.int s, .int t])), some (.z (.lst (xs.map .int))), s3, some (.l ((rows.map rD).map .z)), some (.z (.int k)), b, none, none, none, none, none, none, none, none] = .nx [s0, some (.z (.tup [.int s, .int t])), some (.z (.lst (xs.map .int))), s3, some (.l ((rows.map rD).map .z)), some (.z (.int k)), some (.z bx.D), none, none, none, none, none, none, none, none] := by
    simp only [sSet_ap, sP_ap, fFrz_ap, sCallD_ap, aCons_ap, aNil_ap, s2_ap, sVar_s, sVar_0, sC_ap, ap2_ok, gMul_l _ _ c2, i1, gAdd_ii, i2, consR_ok, cdR_ok, List.all_cons, List.all_nil, isZ_z, Bool.and_true, List.map_cons, List.map_nil, frzO_z, hb2, resF_rt_t, frzR_ok, pure_z, zR_ok, foR_ok, setO_ok, List.set_cons_succ, List.set_cons_zero]
  have s2 : ∃ b2 : Bx, b2.ok ∧ (sIfS (tP (pV (DL.s2 gEq (DL.s2 gMod (DL.s2 gIx (sVar 2) (DL.s2 gMul (sC (.int 2)) (sVar 5))) (sC (.int 7))) (sC (.int 3))))) (sSet 6 (sP (sCall DL.gTup (aCons (sC (.int 2)) (aCons (sC (.int 3)) (aCons (sC (.int 3)) (aCons (sC (.int 4)) aNil))))))) sNext) [s0, some (.z (.tup [.int s, .int t])), some (.z (.lst (xs.map .int))), s3, some (.l ((rows.map rD).map .z)), some (.z (.int k)), some (.z bx.D), none, none, none, none, none, none, none, none] = .nx [s0, some (.z (.tup [.int s, .int t])), some (.z (.lst (xs.map .int))), s3, some (.l ((rows.map rD).map .z)), some (.z (.int k)), some (.z b2.D), none, none, none, none, none, none, none, none] := by
    have t1 : (DL.s2 gEq (DL.s2 gMod (DL.s2 gIx (sVar 2) (DL.s2 gMul (sC (.int 2)) (sVar 5))) (sC (.int 7))) (sC (.int 3))) [s0, some (.z (.tup [.int s, .int t])), some (.z (.lst (xs.map .int))), s3, some (.l ((rows.map rD).map .z)), some (.z (.int k)), some (.z bx.D), none, none, none, none, none, none, none, none] = .ok (.z (.bl (decide (xs[2 * k] % 7 = 3)))) := by
      simp only [s2_ap, sVar_s, sVar_0, sC_ap, ap2_ok, gMul_l _ _ c2, i1, gMod_ii _ _ (show (0 : Int) < 7 by decide), gEq_ii]
    rw [sIfS_ap, tP_ap, pV_ap, t1, pvR_ok, tpR_ok]
    by_cases h : xs[2 * k] % 7 = 3
    · refine ⟨⟨2, 3, 3, 4⟩, ⟨by decide, by decide⟩, ?_⟩
      rw [decide_eq_true h, ifO_t]
      simp [zs, line4]
      rfl
    · refine ⟨bx, hb1, ?_⟩
      rw [decide_eq_false h, ifO_f]
      rfl
  obtain ⟨b2, hb2ok, s2⟩ := s2
  obtain ⟨dsc, hsc⟩ := scaled_ex b2 s t hs hs2
  refine ⟨((7 * (k : Int) + xs[82]'(by omega)) % 4099, b2.sc s t), some (.z b2.D), Bx.sc_ok hb2ok hs, ?_⟩
  unfold L_law0
  rw [sSeq_ap, s1, th_nx, sSeq_ap, s2, th_nx, sDrop_ap]
  rw [sAppend_ap (os := (rows.map rD).map .z) (os' := (rows.map rD).map .z) (o := .z (rD ((7 * (k : Int) + xs[82]'(by omega)) % 4099, b2.sc s t))) (ds' := [s0, some (.z (.tup [.int s, .int t])), some (.z (.lst (xs.map .int))), s3, some (.l ((rows.map rD).map .z)), some (.z (.int k)), some (.z b2.D), none, none, none, none, none, none, none, none]) rfl (by
    simp only [sP_ap, sCall_ap, aCons_ap, aNil_ap, s2_ap, sVar_s, sVar_0, sC_ap, ap2_ok, gMul_l _ _ c7, i82, gAdd_ii, gMod_ii _ _ (show (0 : Int) < 4099 by decide), fFrz_ap, sCallD_ap, consR_ok, cdR_ok, List.all_cons, List.all_nil, isZ_z, Bool.and_true, List.map_cons, List.map_nil, frzO_z, hsc, resF_rt_t, frzR_ok, pure_z, gR_ok, gTup_ap, DL.zs, Option.map_some, List.length_cons, List.length_nil, line4 _ _ (show 0 + 1 + 1 ≤ 100 by decide), zR_ok, foR_ok]
    rfl) rfl (by rw [sizeLine_eq]; simp; omega), dropO_ok]
  simp
/-- a turn of the asking -/
theorem law1_ex (s0 u2 s3 s5 s6 s7 : Option OV) (s t : Int) (hs : 1 ≤ s) (hs2 : s ≤ 1000000000) (rows : List Row) (hr : ∀ r ∈ rows, r.2.ok) (hl : rows.length ≤ 1000) (tr : DL.D) (d : Nat) (ht : Tr tr rows d) (hd : d ≤ 9) (s9 : Option OV) (sm : Bx) (hsm : sm.ok) (a b c : Option OV) :
    ∃ a' b' c', L_law1 [s0, some (.z (.tup [.int s, .int t])), u2, s3, some (.z (.lst (rows.map rD))), s5, s6, s7, some (.z tr), s9, some (.z sm.D), a, b, c, none] = .nx [s0, some (.z (.tup [.int s, .int t])), u2, s3, some (.z (.lst (rows.map rD))), s5, s6, s7, some (.z tr), s9, some (.z sm.D), a', b', c', none] := by
  obtain ⟨dsc, hsc⟩ := scaled_ex sm s t hs hs2
  have hwok := Bx.sc_ok (t := t) hsm hs
  generalize hw : sm.sc s t = w at hsc hwok
  obtain ⟨dsf, hf⟩ := find_ex ht w hwok hr hl hd
  have o1 : isC 0 (.z tr) = true := by cases ht <;> rfl
  have hlen : (hits w rows).length ≤ 1000 := by unfold hits; rw [List.length_map]; exact Nat.le_trans (List.length_filter_le _ _) hl
  have slen : (srt (hits w rows)).length ≤ 1000 := by unfold srt; rw [List.length_mergeSort]; exact hlen
  obtain ⟨dsl, hll⟩ := is_list_ex (srt (hits w rows)) (by omega)
  generalize hx : srt (hits w rows) = ys at hf hll slen
  refine ⟨some (.z w.D), some (.z (.lst (ys.map .int))), some (.l (iz (ys ++ [1]))), ?_⟩
  have t1 : sSet 11 (sP (fFrz (sCallD S_law_scaled N_law_scaled (aCons (sVar 10) (aCons (sVar 1) aNil))))) [s0, some (.z (.tup [.int s, .int t])), u2, s3, some (.z (.lst (rows.map rD))), s5, s6, s7, some (.z tr), s9, some (.z sm.D), a, b, c, none] = .nx [s0, some (.z (.tup [.int s, .int t])), u2, s3, some (.z (.lst (rows.map rD))), s5, s6, s7, some (.z tr), s9, some (.z sm.D), some (.z w.D), b, c, none] := by
    simp only [sSet_ap, sP_ap, fFrz_ap, sCallD_ap, aCons_ap, aNil_ap, sVar_s, sVar_0, consR_ok, cdR_ok, List.all_cons, List.all_nil, isZ_z, Bool.and_true, List.map_cons, List.map_nil, frzO_z, hsc, resF_rt_t, frzR_ok, pure_z, zR_ok, foR_ok, setO_ok, List.set_cons_succ, List.set_cons_zero]
  unfold L_law1
  rw [sSeq_ap, t1, th_nx]
  have e1 : frzAt 4 [s0, some (.z (.tup [.int s, .int t])), u2, s3, some (.z (.lst (rows.map rD))), s5, s6, s7, some (.z tr), s9, some (.z sm.D), some (.z w.D), b, c, none] = [s0, some (.z (.tup [.int s, .int t])), u2, s3, some (.z (.lst (rows.map rD))), s5, s6, s7, some (.z tr), s9, some (.z sm.D), some (.z w.D), b, c, none] := by simp [frzAt]
  rw [zFrz_ap, e1]
  have c1 : lcEnd (compL (tzN 14) (pV (fFrz (sCallD S_law_meets N_law_meets (aCons (s2 gIx (sVar 14) (sC (.int 1))) (aCons (sVar 11) aNil))))) (fZ (s2 gIx (sVar 14) (sC (.int 0)))) [s0, some (.z (.tup [.int s, .int t])), u2, s3, some (.z (.lst (rows.map rD))), s5, s6, s7, some (.z tr), s9, some (.z sm.D), some (.z w.D), b, c, none] (rows.map rD)) = .ok (.l (iz (hits w rows))) := by
    rw [compL_filter rD (fun r => meets r.2 w) (fun r => .z (.int r.1)) rows fun r _ => by
      obtain ⟨dm, hm⟩ := meets_ex r.2 w
      have j0 : gIx (.z (rD r)) (.z (.int 0)) = .ok (.z (.int r.1)) := rfl
      have j1 : gIx (.z (rD r)) (.z (.int 1)) = .ok (.z r.2.D) := rfl
      refine ⟨_, rfl, ?_, fun _ => ?_⟩
      · simp only [List.set_cons_succ, List.set_cons_zero, pV_ap, fFrz_ap, sCallD_ap, aCons_ap, aNil_ap, s2_ap, sVar_s, sVar_0, sC_ap, ap2_ok, j1, consR_ok, cdR_ok, List.all_cons, List.all_nil, isZ_z, Bool.and_true, List.map_cons, List.map_nil, frzO_z, hm, resF_rt_t, frzR_ok, pure_z, pvR_ok]
      · simp only [List.set_cons_succ, List.set_cons_zero, fZ_ap, s2_ap, sVar_s, sVar_0, sC_ap, ap2_ok, j0, zR_ok]]
    have e2 : ((rows.filter fun r => meets r.2 w).map fun r => OV.z (.int r.1)) = iz (hits w rows) := by unfold hits iz; rw [List.map_map]; rfl
    rw [e2, lcEnd_ok, if_pos (by rw [sizeLine_eq]; simp [iz]; omega)]
  have t2 : sSet 12 (sP (fFrz (sCallF hSorted (aCons (fFrz (sLc (iZA (sVar 4)) (tzN 14) (pV (fFrz (sCallD S_law_meets N_law_meets (aCons (s2 gIx (sVar 14) (sC (.int 1))) (aCons (sVar 11) aNil))))) (fZ (s2 gIx (sVar 14) (sC (.int 0)))) [14])) aNil)))) [s0, some (.z (.tup [.int s, .int t])), u2, s3, some (.z (.lst (rows.map rD))), s5, s6, s7, some (.z tr), s9, some (.z sm.D), some (.z w.D), b, c, none] = .nx [s0, some (.z (.tup [.int s, .int t])), u2, s3, some (.z (.lst (rows.map rD))), s5, s6, s7, some (.z tr), s9, some (.z sm.D), some (.z w.D), some (.z (.lst (ys.map .int))), c, none] := by
    simp only [sSet_ap, sP_ap, fFrz_ap, sCallF_ap, aCons_ap, aNil_ap, sLc_ap, iZA_ap, sVar_s, sVar_0, izaR_lst, lcR_ok, wipeD_c, wipeD_n, List.set_cons_succ, List.set_cons_zero, c1, frzR_ok, pure_l, pz, consR_ok, gfR_sorted_ints, hx, zR_ok, foR_ok, setO_ok]
  rw [sSeq_ap, t2, th_nx]
  have mf : mdR 0 S_Tree_find N_Tree_find (.ok (.z tr)) (.ok [.z w.D]) = .ok (.l (iz ys)) := by simp [mdR, o1, hf]
  have t3 : sSet 13 (fO (sMethD 0 S_Tree_find N_Tree_find (sVar 8) (aCons (sVar 11) aNil))) [s0, some (.z (.tup [.int s, .int t])), u2, s3, some (.z (.lst (rows.map rD))), s5, s6, s7, some (.z tr), s9, some (.z sm.D), some (.z w.D), some (.z (.lst (ys.map .int))), c, none] = .nx [s0, some (.z (.tup [.int s, .int t])), u2, s3, some (.z (.lst (rows.map rD))), s5, s6, s7, some (.z tr), s9, some (.z sm.D), some (.z w.D), some (.z (.lst (ys.map .int))), some (.l (iz ys)), none] := by
    simp only [sSet_ap, fO_ap, sMethD_ap, aCons_ap, aNil_ap, sVar_s, sVar_0, consR_ok, mf, foR_ok, setO_ok, List.set_cons_succ, List.set_cons_zero]
  rw [sSeq_ap, t3, th_nx]
  have q4 : (fFrz (sCallD S_law_is_list N_law_is_list (aCons (sVar 13) (aCons (sVar 12) aNil)))) [s0, some (.z (.tup [.int s, .int t])), u2, s3, some (.z (.lst (rows.map rD))), s5, s6, s7, some (.z tr), s9, some (.z sm.D), some (.z w.D), some (.z (.lst (ys.map .int))), some (.l (iz ys)), none] = .ok (.z (.bl true)) := by
    simp only [fFrz_ap, sCallD_ap, aCons_ap, aNil_ap, sVar_s, sVar_0, consR_ok, cdR_ok, List.all_cons, List.all_nil, isZ_z, isZ_l, Bool.false_and, List.map_cons, List.map_nil, frzO_z, frzO_l, pz, hll, resF_rt _ _ _ (flat_bl true), frzR_ok, pure_z]
  rw [sSeq_ap, sIfS_ap, tP_ap, pNot_ap, pV_ap, q4, pvR_ok, notR_ok, Bool.not_true, tpR_ok, ifO_f, sNext_ap, th_nx]
  rw [sSeq_ap, sDrop_ap, sAppend_ap (os := iz ys) (os' := iz ys) (o := .z (.int 1)) (ds' := [s0, some (.z (.tup [.int s, .int t])), u2, s3, some (.z (.lst (rows.map rD))), s5, s6, s7, some (.z tr), s9, some (.z sm.D), some (.z w.D), some (.z (.lst (ys.map .int))), some (.l (iz ys)), none]) rfl (by simp) rfl (by rw [sizeLine_eq]; simp [iz]; omega), dropO_ok, th_nx]
  simp only [List.set_cons_succ, List.set_cons_zero]
  have q5 : (fFrz (sCallD S_law_is_list N_law_is_list (aCons (fFrz (sMethD 0 S_Tree_find N_Tree_find (sVar 8) (aCons (sVar 11) aNil))) (aCons (sVar 12) aNil)))) [s0, some (.z (.tup [.int s, .int t])), u2, s3, some (.z (.lst (rows.map rD))), s5, s6, s7, some (.z tr), s9, some (.z sm.D), some (.z w.D), some (.z (.lst (ys.map .int))), some (.l (iz ys ++ [.z (.int 1)])), none] = .ok (.z (.bl true)) := by
    simp only [fFrz_ap, sCallD_ap, sMethD_ap, aCons_ap, aNil_ap, sVar_s, sVar_0, consR_ok, mf, frzR_ok, pure_l, pz, cdR_ok, List.all_cons, List.all_nil, isZ_z, Bool.and_true, List.map_cons, List.map_nil, frzO_z, hll, resF_rt_t, pure_z]
  rw [sIfS_ap, tP_ap, pNot_ap, pV_ap, q5, pvR_ok, notR_ok, Bool.not_true, tpR_ok, ifO_f, sNext_ap]
  simp [iz]
end L_k32
set_option Elab.async false
set_option linter.all false
set_option maxRecDepth 100000
set_option maxHeartbeats 4000000
namespace L_k32
open PySem PySem.Spec PyProof.Rows L2 DL
theorem many_ex (s0 s1 : Option OV) (xs : List Int) (hl : xs.length = 84) (hb : ∀ d ∈ xs, 0 ≤ d ∧ d < 4096) (r : DS) : ∃ m : Nat, m ≤ 40 ∧ sSet 3 (sP (s2 gIx (fFrz (sCallF hLst (aCons (s2 gMod (s2 gIx (sVar 2) (sC (.int 82))) (sC (.int 41))) (aCons (sC (.int 8)) (aCons (sC (.int 9)) (aCons (sC (.int 16)) (aCons (sC (.int 17)) (aCons (sC (.int 33)) aNil)))))))) (s2 gMod (s2 gIx (sVar 2) (sC (.int 83))) (sC (.int 6))))) (s0 :: s1 :: some (.z (.lst (xs.map .int))) :: none :: r) = .nx (s0 :: s1 :: some (.z (.lst (xs.map .int))) :: some (.z (.int m)) :: r) := by
  have i82 : gIx (.z (.lst (xs.map .int))) (.z (.int 82)) = .ok (.z (.int (xs[82]'(by omega)))) := gIx_lst (k := 82) rfl (by rw [List.getElem?_map, List.getElem?_eq_getElem (by omega)]; rfl)
  have i83 : gIx (.z (.lst (xs.map .int))) (.z (.int 83)) = .ok (.z (.int (xs[83]'(by omega)))) := gIx_lst (k := 83) rfl (by rw [List.getElem?_map, List.getElem?_eq_getElem (by omega)]; rfl)
  have b1 := pmod (xs[82]'(by omega)) 41 (by decide)
  have b2 := pmod (xs[83]'(by omega)) 6 (by decide)
  have m82 := gMod_ii (xs[82]'(by omega)) 41 (by decide)
  have m83 := gMod_ii (xs[83]'(by omega)) 6 (by decide)
  generalize xs[82]'(by omega) % 41 = u at b1 m82
  generalize xs[83]'(by omega) % 6 = v at b2 m83
  obtain ⟨p, rfl⟩ : ∃ p : Nat, u = p := ⟨u.toNat, by omega⟩
  obtain ⟨q, rfl⟩ : ∃ q : Nat, v = q := ⟨v.toNat, by omega⟩
  have hz : hLst [.z (.int p), .z (.int 8), .z (.int 9), .z (.int 16), .z (.int 17), .z (.int 33)] = .ok [.int p, .int 8, .int 9, .int 16, .int 17, .int 33] := by simp [DL.zs, sizeLine_eq]
  have key : ∃ m : Nat, m ≤ 40 ∧ gIx (.z (.lst [.int p, .int 8, .int 9, .int 16, .int 17, .int 33])) (.z (.int q)) = .ok (.z (.int m)) := by
    have : q = 0 ∨ q = 1 ∨ q = 2 ∨ q = 3 ∨ q = 4 ∨ q = 5 := by omega
    rcases this with rfl | rfl | rfl | rfl | rfl | rfl
    · exact ⟨p, by omega, rfl⟩
    · exact ⟨8, by omega, rfl⟩
    · exact ⟨9, by omega, rfl⟩
    · exact ⟨16, by omega, rfl⟩
    · exact ⟨17, by omega, rfl⟩
    · exact ⟨33, by omega, rfl⟩
  obtain ⟨m, hm, hk⟩ := key
  refine ⟨m, hm, ?_⟩
  simp only [sSet_ap, sP_ap, s2_ap, fFrz_ap, sCallF_ap, aCons_ap, aNil_ap, sVar_s, sVar_0, sC_ap, ap2_ok, i82, i83, m82, m83, consR_ok, gfR_ok hz, frzR_ok, pure_l, pures_mz, hk, zR_ok, foR_ok, setO_ok, List.set_cons_succ, List.set_cons_zero]
theorem spec (ns : List Int) (hl : ns.length ≤ 63) (hb : ∀ z ∈ ns, Builtin.Int.intBits z ≤ 1048576) : ∃ ds, S_law (ini N_law [scr ns]) = .rt (.z (.bl true)) ds := by
  have e0 : ini N_law [scr ns] = [some (scr ns), none, none, none, none, none, none, none, none, none, none, none, none, none, none] := rfl
  rw [e0]
  obtain ⟨dc0, hc0⟩ := law_cell_ex ns 0
  obtain ⟨dc1, hc1⟩ := law_cell_ex ns 1
  obtain ⟨dc2, hc2⟩ := law_cell_ex ns 2
  have hc0 : S_law_cell (ini N_law_cell [scr ns, .z (.int 0)]) = .rt (.z (.int (ns.getD 0 0))) dc0 := hc0
  have hc1 : S_law_cell (ini N_law_cell [scr ns, .z (.int 1)]) = .rt (.z (.int (ns.getD 1 0))) dc1 := hc1
  have hc2 : S_law_cell (ini N_law_cell [scr ns, .z (.int 2)]) = .rt (.z (.int (ns.getD 2 0))) dc2 := hc2
  obtain ⟨s, t, hs, hs2, dsc, hsc⟩ := scale_ex (ns.getD 0 0)
  obtain ⟨xs, hxl, hxb, dsd, hd⟩ := law_draws_ex (ns.getD 1 0) 84 (by decide)
  have hd : S_law_draws (ini N_law_draws [.z (.int (ns.getD 1 0)), .z (.int 84)]) = .rt (.l (iz xs)) dsd := hd
  obtain ⟨bs, hbok, hbl, dsb, hbx⟩ := boxes_ex (ns.getD 2 0)
  have fz : frzO (scr ns) = scr ns := frzO_z _
  have zz : isZ (scr ns) = true := rfl
  generalize scr ns = sc at hc0 hc1 hc2 fz zz
  generalize ns.getD 0 0 = n0 at hc0 hsc
  generalize ns.getD 1 0 = n1 at hc1 hd
  generalize ns.getD 2 0 = n2 at hc2 hbx
  unfold S_law
  have t1 : sSet 1 (sP (fFrz (sCallD S_law_scale N_law_scale (aCons (fFrz (sCallD S_law_cell N_law_cell (aCons (sVar 0) (aCons (sC (.int 0)) aNil)))) aNil)))) [some sc, none, none, none, none, none, none, none, none, none, none, none, none, none, none] = .nx [some sc, some (.z (.tup [.int s, .int t])), none, none, none, none, none, none, none, none, none, none, none, none, none] := by
    simp only [sSet_ap, sP_ap, fFrz_ap, sCallD_ap, aCons_ap, aNil_ap, sVar_0, sC_ap, consR_ok, cdR_ok, List.all_cons, List.all_nil, isZ_z, zz, Bool.and_true, List.map_cons, List.map_nil, frzO_z, fz, hc0, resF_rt_t, frzR_ok, pure_z, hsc, zR_ok, foR_ok, setO_ok, List.set_cons_succ, List.set_cons_zero]
  rw [sSeq_ap, t1, th_nx]
  have t2 : sSet 2 (sP (fFrz (sCallD S_law_draws N_law_draws (aCons (fFrz (sCallD S_law_cell N_law_cell (aCons (sVar 0) (aCons (sC (.int 1)) aNil)))) (aCons (sC (.int 84)) aNil))))) [some sc, some (.z (.tup [.int s, .int t])), none, none, none, none, none, none, none, none, none, none, none, none, none] = .nx [some sc, some (.z (.tup [.int s, .int t])), some (.z (.lst (xs.map .int))), none, none, none, none, none, none, none, none, none, none, none, none] := by
    simp only [sSet_ap, sP_ap, fFrz_ap, sCallD_ap, aCons_ap, aNil_ap, sVar_0, sC_ap, consR_ok, cdR_ok, List.all_cons, List.all_nil, isZ_z, zz, Bool.and_true, List.map_cons, List.map_nil, frzO_z, fz, hc1, resF_rt_t, frzR_ok, pure_z, pure_l, pz, hd, zR_ok, foR_ok, setO_ok, List.set_cons_succ, List.set_cons_zero]
  rw [sSeq_ap, t2, th_nx]
  obtain ⟨m, hm, t3⟩ := many_ex (some sc) (some (.z (.tup [.int s, .int t]))) xs hxl hxb [none, none, none, none, none, none, none, none, none, none, none]
  rw [sSeq_ap, t3, th_nx]
  have t4 : sSet 4 (fO (sCallF hLst aNil)) [some sc, some (.z (.tup [.int s, .int t])), some (.z (.lst (xs.map .int))), some (.z (.int m)), none, none, none, none, none, none, none, none, none, none, none] = .nx [some sc, some (.z (.tup [.int s, .int t])), some (.z (.lst (xs.map .int))), some (.z (.int m)), some (.l []), none, none, none, none, none, none, none, none, none, none] := by simp [gfR]
  rw [sSeq_ap, t4, th_nx]
  have hbm : big62 (m : Int) = true := by simp [big62]; omega
  obtain ⟨ds', h1, rows0, k', b', rfl, hrl, hrok⟩ := loop_inv0 (g := gOf (tzN 5)) (b := L_law0)
    (fun i ds => ∃ (rows : List Row) (k b : Option OV), ds = [some sc, some (.z (.tup [.int s, .int t])), some (.z (.lst (xs.map .int))), some (.z (.int m)), some (.l ((rows.map rD).map .z)), k, b, none, none, none, none, none, none, none, none] ∧ rows.length = i ∧ ∀ r ∈ rows, r.2.ok)
    (rng 0 m) [some sc, some (.z (.tup [.int s, .int t])), some (.z (.lst (xs.map .int))), some (.z (.int m)), some (.l []), none, none, none, none, none, none, none, none, none, none] ⟨[], none, none, rfl, rfl, by simp⟩ (by
    rintro i x ds hx ⟨rows, k, b, rfl, hr, hok⟩
    obtain ⟨hi, rfl⟩ := rng_get hx
    obtain ⟨r, b', h1, h2⟩ := law0_ex (some sc) (some (.z (.int m))) s t hs hs2 xs hxl rows i (by omega) hr b
    refine ⟨_, _, by rw [gOf_ap, tzN_ap, Int.zero_add]; rfl, .inl h2, rows ++ [r], _, _, rfl, by simp [hr], fun q hq => ?_⟩
    rcases List.mem_append.mp hq with h | h
    · exact hok q h
    · rw [List.mem_singleton.mp h]; exact h1)
  rw [rng_len] at hrl
  have hrm : rows0.length = m := by omega
  have t5 : (sFor (DL.iRng1 (aCons (sVar 3) aNil)) (gOf (tzN 5)) L_law0) [some sc, some (.z (.tup [.int s, .int t])), some (.z (.lst (xs.map .int))), some (.z (.int m)), some (.l []), none, none, none, none, none, none, none, none, none, none] = .nx [some sc, some (.z (.tup [.int s, .int t])), some (.z (.lst (xs.map .int))), some (.z (.int m)), some (.l ((rows0.map rD).map .z)), k', b', none, none, none, none, none, none, none, none] := by
    simp only [sFor_ap, iRng1_ap, aCons_ap, aNil_ap, sVar_s, sVar_0, consR_ok, rg1R_ok _ hbm, forO_ok, h1]
  rw [sSeq_ap, t5, th_nx]
  have e6 : frzAt 4 [some sc, some (.z (.tup [.int s, .int t])), some (.z (.lst (xs.map .int))), some (.z (.int m)), some (.l ((rows0.map rD).map .z)), k', b', none, none, none, none, none, none, none, none] = [some sc, some (.z (.tup [.int s, .int t])), some (.z (.lst (xs.map .int))), some (.z (.int m)), some (.z (.lst (rows0.map rD))), k', b', none, none, none, none, none, none, none, none] := by simp only [frzAt_s, frzAt_0, pure_l, pures_mz]
  rw [zFrz_ap, e6]
  generalize hrows : rows0.reverse = rows
  have hlr : rows.length = m := by rw [← hrows, List.length_reverse, hrm]
  have hrok' : ∀ r ∈ rows, r.2.ok := fun r hr => hrok r (by rw [← hrows, List.mem_reverse] at hr; exact hr)
  have er : (rows0.map rD).reverse = rows.map rD := by rw [← hrows, List.map_reverse]
  have t6 : sSet 4 (sP (fFrz (sRev (sVar 4)))) [some sc, some (.z (.tup [.int s, .int t])), some (.z (.lst (xs.map .int))), some (.z (.int m)), some (.z (.lst (rows0.map rD))), k', b', none, none, none, none, none, none, none, none] = .nx [some sc, some (.z (.tup [.int s, .int t])), some (.z (.lst (xs.map .int))), some (.z (.int m)), some (.z (.lst (rows.map rD))), k', b', none, none, none, none, none, none, none, none] := by
    have : sRev (sVar 4) [some sc, some (.z (.tup [.int s, .int t])), some (.z (.lst (xs.map .int))), some (.z (.int m)), some (.z (.lst (rows0.map rD))), k', b', none, none, none, none, none, none, none, none] = .ok (.l ((rows.map rD).map .z)) := by
      rw [← er]; rfl
    simp only [sSet_ap, sP_ap, fFrz_ap, this, frzR_ok, pure_l, pures_mz, zR_ok, foR_ok, setO_ok, List.set_cons_succ, List.set_cons_zero]
  rw [sSeq_ap, t6, th_nx]
  generalize hrz : (rows.map rD).map OV.z = rz
  have t7 : sSet 7 (fO (sCallF hListOf (aCons (sVar 4) aNil))) [some sc, some (.z (.tup [.int s, .int t])), some (.z (.lst (xs.map .int))), some (.z (.int m)), some (.z (.lst (rows.map rD))), k', b', none, none, none, none, none, none, none, none] = .nx [some sc, some (.z (.tup [.int s, .int t])), some (.z (.lst (xs.map .int))), some (.z (.int m)), some (.z (.lst (rows.map rD))), k', b', some (.l rz), none, none, none, none, none, none, none] := by
    have : hListOf [.z (.lst (rows.map rD))] = .ok (rows.map rD) := by rfl
    simp only [sSet_ap, fO_ap, sCallF_ap, aCons_ap, aNil_ap, sVar_s, sVar_0, consR_ok, gfR_ok this, hrz, foR_ok, setO_ok, List.set_cons_succ, List.set_cons_zero]
  rw [sSeq_ap, t7, th_nx]
  obtain ⟨fs, x, y, htree, d, htr⟩ := tree_ex 3 10 rows (.l rz) (by rw [← hrz]; exact izaR_l _) (by omega) (by omega) (by omega)
  have hdep := tr_dep htr (by omega)
  have hd9 : d ≤ 9 := by rw [hdep]; unfold dep; (repeat' split) <;> omega
  have t8 : sSet 8 (sMakeI 0 (S_Tree_init fuel_Tree_init) N_Tree_init w_Tree_init (arCons (rPl (plV 7)) arNil)) [some sc, some (.z (.tup [.int s, .int t])), some (.z (.lst (xs.map .int))), some (.z (.int m)), some (.z (.lst (rows.map rD))), k', b', some (.l rz), none, none, none, none, none, none, none] = .nx [some sc, some (.z (.tup [.int s, .int t])), some (.z (.lst (xs.map .int))), some (.z (.int m)), some (.z (.lst (rows.map rD))), k', b', some (.l rz), some (.o 0 fs), none, none, none, none, none, none] := by
    rw [sSet_ap, sMakeI1 (o := .l rz) (o' := .l rz) rfl (by decide) htree rfl rfl]
    rfl
  rw [sSeq_ap, t8, th_nx]
  have t9 : (s2 gNe (sVar 7) (sVar 4)) [some sc, some (.z (.tup [.int s, .int t])), some (.z (.lst (xs.map .int))), some (.z (.int m)), some (.z (.lst (rows.map rD))), k', b', some (.l rz), some (.o 0 fs), none, none, none, none, none, none] = .ok (.z (.bl false)) := by
    simp only [s2_ap, sVar_s, sVar_0, ap2_ok]
    exact gNe_refl (by rw [← hrz, pure_l, pures_mz, pure_z]) (by rw [← hrz, pure_l, pures_mz]; simp [okd, rD, Bx.D])
  rw [sSeq_ap, sIfS_ap, tP_ap, pV_ap, t9, pvR_ok, tpR_ok, ifO_f, sNext_ap, th_nx]
  have hrzl : rz.length = m := by rw [← hrz]; simp [hlr]
  rw [sSeq_ap, sDrop_ap, sAppend_ap (os := rz) (os' := rz) (o := .z (.tup [.int 9999, .tup [.int 0, .int 0, .int 1, .int 1]])) (ds' := [some sc, some (.z (.tup [.int s, .int t])), some (.z (.lst (xs.map .int))), some (.z (.int m)), some (.z (.lst (rows.map rD))), k', b', some (.l rz), some (.o 0 fs), none, none, none, none, none, none]) rfl (by simp [zs, line4]) rfl (by rw [sizeLine_eq, hrzl]; omega), dropO_ok, th_nx]
  simp only [List.set_cons_succ, List.set_cons_zero]
  generalize hq : rz ++ [OV.z (.tup [.int 9999, .tup [.int 0, .int 0, .int 1, .int 1]])] = rq
  generalize htd : (OV.o 0 fs).pure = tr at htr
  have e10 : frzAt 8 [some sc, some (.z (.tup [.int s, .int t])), some (.z (.lst (xs.map .int))), some (.z (.int m)), some (.z (.lst (rows.map rD))), k', b', some (.l rq), some (.o 0 fs), none, none, none, none, none, none] = [some sc, some (.z (.tup [.int s, .int t])), some (.z (.lst (xs.map .int))), some (.z (.int m)), some (.z (.lst (rows.map rD))), k', b', some (.l rq), some (.z tr), none, none, none, none, none, none] := by simp only [frzAt_s, frzAt_0, htd]
  rw [zFrz_ap, e10]
  obtain ⟨dsp, hdp⟩ := depth_ex htr 10 (by omega)
  obtain ⟨dsq, hdq⟩ := law_depth_ex m (by omega)
  rw [hlr] at hdep
  rw [← hdep] at hdq
  obtain ⟨dsr, hnum⟩ := is_number_ex (d : Int)
  have o1 : isC 0 (.z tr) = true := by cases htr <;> rfl
  have md : mdR 0 (S_Tree_depth fuel_Tree_depth) N_Tree_depth (.ok (.z tr)) (.ok []) = .ok (.z (.int d)) := by
    have : S_Tree_depth fuel_Tree_depth (ini N_Tree_depth [.z tr]) = .rt (.z (.int d)) dsp := hdp
    simp [mdR, o1, this]
  have q10 : (fFrz (sCallD S_law_is_number N_law_is_number (aCons (fFrz (sMethD 0 (S_Tree_depth fuel_Tree_depth) N_Tree_depth (sVar 8) aNil)) (aCons (fFrz (sCallD S_law_depth N_law_depth (aCons (sVar 3) aNil))) aNil)))) [some sc, some (.z (.tup [.int s, .int t])), some (.z (.lst (xs.map .int))), some (.z (.int m)), some (.z (.lst (rows.map rD))), k', b', some (.l rq), some (.z tr), none, none, none, none, none, none] = .ok (.z (.bl true)) := by
    simp only [fFrz_ap, sCallD_ap, sMethD_ap, aCons_ap, aNil_ap, sVar_s, sVar_0, md, consR_ok, cdR_ok, List.all_cons, List.all_nil, isZ_z, Bool.and_true, List.map_cons, List.map_nil, frzO_z, hdq, resF_rt_t, frzR_ok, pure_z, hnum]
  rw [sSeq_ap, sIfS_ap, tP_ap, pNot_ap, pV_ap, q10, pvR_ok, notR_ok, Bool.not_true, tpR_ok, ifO_f, sNext_ap, th_nx]
  have t11 : sSet 9 (sP (s2 gAdd (fFrz (sCallD S_law_boxes N_law_boxes (aCons (fFrz (sCallD S_law_cell N_law_cell (aCons (sVar 0) (aCons (sC (.int 2)) aNil)))) (aCons (sC (.int 6)) aNil)))) (fFrz (sCallF hLst (aCons (sCall DL.gTup (aCons (s1 vNeg (sC (.int 90))) (aCons (s1 vNeg (sC (.int 90))) (aCons (sC (.int 90)) (aCons (sC (.int 90)) aNil))))) (aCons (sCall DL.gTup (aCons (sC (.int 50)) (aCons (sC (.int 50)) (aCons (sC (.int 51)) (aCons (sC (.int 51)) aNil))))) (aCons (sCall DL.gTup (aCons (sC (.int 2)) (aCons (sC (.int 3)) (aCons (sC (.int 3)) (aCons (sC (.int 4)) aNil))))) aNil))))))) [some sc, some (.z (.tup [.int s, .int t])), some (.z (.lst (xs.map .int))), some (.z (.int m)), some (.z (.lst (rows.map rD))), k', b', some (.l rq), some (.z tr), none, none, none, none, none, none] = .nx [some sc, some (.z (.tup [.int s, .int t])), some (.z (.lst (xs.map .int))), some (.z (.int m)), some (.z (.lst (rows.map rD))), k', b', some (.l rq), some (.z tr), some (.z (.lst ((bs ++ exB4).map Bx.D))), none, none, none, none, none] := by
    have n90 : vNeg (.z (.int 90)) = .ok (.z (.int (-90))) := rfl
    have hz : hLst [.z (Bx.D ⟨-90, -90, 90, 90⟩), .z (Bx.D ⟨50, 50, 51, 51⟩), .z (Bx.D ⟨2, 3, 3, 4⟩)] = .ok (exB4.map Bx.D) := by simp [DL.zs, sizeLine_eq, exB4]
    have g1 : DL.gTup [.z (.int (-90)), .z (.int (-90)), .z (.int 90), .z (.int 90)] = .ok (.z (Bx.D ⟨-90, -90, 90, 90⟩)) := by simp [DL.zs, line4, Bx.D]
    have g2 : DL.gTup [.z (.int 50), .z (.int 50), .z (.int 51), .z (.int 51)] = .ok (.z (Bx.D ⟨50, 50, 51, 51⟩)) := by simp [DL.zs, line4, Bx.D]
    have g3 : DL.gTup [.z (.int 2), .z (.int 3), .z (.int 3), .z (.int 4)] = .ok (.z (Bx.D ⟨2, 3, 3, 4⟩)) := by simp [DL.zs, line4, Bx.D]
    have ga : gAdd (.z (.lst (bs.map Bx.D))) (.z (.lst (exB4.map Bx.D))) = .ok (.z (.lst ((bs ++ exB4).map Bx.D))) := by
      have : gAdd (.z (.lst (bs.map Bx.D))) (.z (.lst (exB4.map Bx.D))) = line ((bs.map Bx.D).length + (exB4.map Bx.D).length) (.z (.lst ((bs.map Bx.D) ++ (exB4.map Bx.D)))) := rfl
      rw [this, line4 _ _ (by rw [List.length_map, List.length_map]; simp [exB4]; omega), List.map_append]
    simp only [sSet_ap, sP_ap, s2_ap, fFrz_ap, sCallD_ap, sCallF_ap, sCall_ap, s1_ap, aCons_ap, aNil_ap, sVar_s, sVar_0, sC_ap, ap1_ok, n90, consR_ok, gR_ok, g1, g2, g3, gfR_ok hz, cdR_ok, List.all_cons, List.all_nil, isZ_z, zz, Bool.and_true, List.map_cons, List.map_nil, frzO_z, fz, hc2, resF_rt_t, frzR_ok, pure_z, hbx, pure_l, pures_mz, ap2_ok, ga, zR_ok, foR_ok, setO_ok, List.set_cons_succ, List.set_cons_zero]
  rw [sSeq_ap, t11, th_nx]
  have e12 : frzAt 13 [some sc, some (.z (.tup [.int s, .int t])), some (.z (.lst (xs.map .int))), some (.z (.int m)), some (.z (.lst (rows.map rD))), k', b', some (.l rq), some (.z tr), some (.z (.lst ((bs ++ exB4).map Bx.D))), none, none, none, none, none] = [some sc, some (.z (.tup [.int s, .int t])), some (.z (.lst (xs.map .int))), some (.z (.int m)), some (.z (.lst (rows.map rD))), k', b', some (.l rq), some (.z tr), some (.z (.lst ((bs ++ exB4).map Bx.D))), none, none, none, none, none] := by simp only [frzAt_s, frzAt_0n]
  rw [zFrz_ap, e12, sSeq_ap]
  obtain ⟨ds', h2, a1, a2, a3, a4, rfl⟩ := loop_inv0 (g := gOf (tzN 10)) (b := L_law1)
    (fun _ ds => ∃ a1 a2 a3 a4 : Option OV, ds = [some sc, some (.z (.tup [.int s, .int t])), some (.z (.lst (xs.map .int))), some (.z (.int m)), some (.z (.lst (rows.map rD))), k', b', some (.l rq), some (.z tr), some (.z (.lst ((bs ++ exB4).map Bx.D))), a1, a2, a3, a4, none])
    ((bs ++ exB4).map Bx.D) [some sc, some (.z (.tup [.int s, .int t])), some (.z (.lst (xs.map .int))), some (.z (.int m)), some (.z (.lst (rows.map rD))), k', b', some (.l rq), some (.z tr), some (.z (.lst ((bs ++ exB4).map Bx.D))), none, none, none, none, none] ⟨none, none, none, none, rfl⟩ (by
    rintro j x ds hx ⟨a1, a2, a3, a4, rfl⟩
    rw [List.getElem?_map] at hx
    cases hg : (bs ++ exB4)[j]? with
    | none => rw [hg] at hx; cases hx
    | some sm =>
      rw [hg] at hx
      obtain rfl : sm.D = x := Option.some.inj hx
      have hsm : sm.ok := by
        rcases List.mem_append.mp (List.mem_of_getElem? hg) with h | h
        · exact hbok sm h
        · have : sm = ⟨-90, -90, 90, 90⟩ ∨ sm = ⟨50, 50, 51, 51⟩ ∨ sm = ⟨2, 3, 3, 4⟩ := by simpa [exB4] using h
          rcases this with rfl | rfl | rfl <;> exact ⟨by decide, by decide⟩
      obtain ⟨a', b'', c', e⟩ := law1_ex (some sc) (some (.z (.lst (xs.map .int)))) (some (.z (.int m))) k' b' (some (.l rq)) s t hs hs2 rows hrok' (by omega) tr d htr hd9 (some (.z (.lst ((bs ++ exB4).map Bx.D)))) sm hsm a2 a3 a4
      exact ⟨_, _, by rw [gOf_ap, tzN_ap]; rfl, .inl e, _, _, _, _, rfl⟩)
  have t13 : sFor (iZ (sVar 9)) (gOf (tzN 10)) L_law1 [some sc, some (.z (.tup [.int s, .int t])), some (.z (.lst (xs.map .int))), some (.z (.int m)), some (.z (.lst (rows.map rD))), k', b', some (.l rq), some (.z tr), some (.z (.lst ((bs ++ exB4).map Bx.D))), none, none, none, none, none] = .nx [some sc, some (.z (.tup [.int s, .int t])), some (.z (.lst (xs.map .int))), some (.z (.int m)), some (.z (.lst (rows.map rD))), k', b', some (.l rq), some (.z tr), some (.z (.lst ((bs ++ exB4).map Bx.D))), a1, a2, a3, a4, none] := by
    simp only [sFor_ap, iZ_ap, sVar_s, sVar_0, izR_lst, forO_ok, h2]
  rw [t13, th_nx]
  simp only [sRet_ap, sP_ap, sC_ap, zR_ok, foR_ok, retO_ok]
  exact ⟨_, rfl⟩
end L_k32
set_option Elab.async false
set_option linter.all false
set_option maxRecDepth 100000
set_option maxHeartbeats 0
namespace L_k32
open PySem PySem.Spec PyProof.Rows L2 DL
theorem run (w : World) : HandSHeadRun.RunEq RWW (PySem.W.view RWW.prog [20]) hk ob 3000 loose w := by
  intro os
  kernel_rfl
end L_k32
open PySem PySem.W PySem.Calls PyProof.Rows in
theorem PySem.Challenge.cw_reticle_k32_trees_find_boxes_holds : PySem.Challenge.rw_reticle_k32_trees_find_boxes.Holds := by
  w_on; o_law
  refine HandSHeadRun.head_any (r := OpenLaw.row PySem.Challenge.rw_reticle_k32_trees_find_boxes) (q := view (OpenLaw.row PySem.Challenge.rw_reticle_k32_trees_find_boxes).prog [20]) (H := L_k32.hk) (ob := L_k32.ob) (M := 3000) (loose := L_k32.loose) (d := HandSHeadRun.topDef (OpenLaw.row PySem.Challenge.rw_reticle_k32_trees_find_boxes).prog 20) (kwd := []) L_k32.ob_eq
    (by kernel_rfl) (fun s => by kernel_rfl) L_k32.run (by kernel_rfl) (by kernel_rfl) (by kernel_rfl) (by rfl) (by first | assumption | decide +kernel) (by decide +kernel) ⟨rfl, rfl, rfl, rfl, rfl, by decide +kernel⟩ ?hw ?hc
  case hw => w_witness2
  case hc =>
    refine LamX.walk_ofTsE (l := PySem.Challenge.rw_reticle_k32_trees_find_boxes) (n := 63) (k := 25) (x := "script") (CX := fun w => L2.CX (PySem.Challenge.rw_reticle_k32_trees_find_boxes).prog w) rfl (by decide) (by kernel_rfl) ⟨rfl, by decide, by decide⟩ ?F (fun _ _ _ _ _ h => DL.cx_no h)
    intro w mg fa h Y G hmg0
    obtain ⟨K, KX, c⟩ := Y
    have hmg : mg ("law" : PySem.Str) = some (.ref fa) := by
      have e : (HandSHeadRun.topDef (OpenLaw.row PySem.Challenge.rw_reticle_k32_trees_find_boxes).prog 20).name = ("law" : PySem.Str) := by kernel_rfl
      rw [← e]
      exact hmg0
    exact ⟨K, KX, L_k32.law_end KX G c hmg L_k32.spec⟩
