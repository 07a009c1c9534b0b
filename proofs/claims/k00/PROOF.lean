import PyProof.Rows.All
import Wide.All
import OpenK.AllK
import Wide.FinOn
import KE.KStateDown
import HandS.ForMost
import HandS.ForExc
import HandS.Lambda
import HandS.Head0
import HandS.Head1
import HandS.Head2
import HandS.HeadEnd
import HandS.HeadHook1
import HandS.HeadHook2
import HandS.HeadHook3
import HandS.HeadHook4
import HandS.HeadWalk
import HandS.Words
import HandS.WordsExc
import HandS.Defaults
import HandS.Wide
import HandS.IsInst
import HandS.SortInts
import HandS.Flow
import HandS.TupMul
import HandS.TupLe
import KE.KTupSum
import PyProof.TupleOfSeq
import HandS.Style
import HandS.TupAny
import KE.GoesEnum
import KE.GoesMore
import HandS.Deep
import HandS.ExcIs
import HandS.Zip
import HandS.SortOrd
import PySem.Challenge.RW_powersalike_k00_whole_heaps_and_their_su
set_option Elab.async false
set_option linter.all false
set_option maxRecDepth 100000
set_option maxHeartbeats 0
namespace L3
open PySem PySem.Spec PyProof.Rows L2

/-- values; fl: a list that nothing will change any more -/
inductive D where
  | none
  | bool (b : Bool)
  | int (i : Int)
  | str (s : Str)
  | tuple (xs : List D)
  | list (xs : List D)
  | fl (xs : List D)
  | dict (ks : List (D × D))
mutual
def D.p : D → PyData
  | .none => .none
  | .bool b => .bool b
  | .int i => .int i
  | .str x => .str x
  | .tuple xs => .tuple (D.pL xs)
  | .list xs => .list (D.pL xs)
  | .fl xs => .list (D.pL xs)
  | .dict _ => .dict []
def D.pL : List D → List PyData
  | [] => []
  | d :: ds => d.p :: D.pL ds
end
theorem D.pL_map : ∀ ds : List D, D.pL ds = ds.map D.p
  | [] => by simp [D.pL]
  | d :: ds => by simp [D.pL, D.pL_map ds]
/-- == of values; what the model can compare -/
def D.eqv (x y : D) : Bool := PyData.eqv x.p y.p
def D.sh (x : D) : Bool := SeqAt.shaped x.p
/-! ### values by heap and footprint -/
def SqR (K : PySem.W.Frag) (H : Hp) (a : Addr) (xs : List V) : Prop :=
  (∃ o, H a = some (.frz o (.lst xs))) ∨
    ∃ (o : Obj) (its : Array Value) (n : Nat), K.lookup a = some o ∧ o.cls = .type "list" ∧ o.dict = none ∧ o.data = .seq its n ∧ its.size ≤ sizeLine ∧ Vals xs its.toList
theorem SqR.sq {K : PySem.W.Frag} {H : Hp} {a : Addr} {xs : List V} (h : SqR K H a xs) : SqL K H a xs := h.elim (fun h => .inl (.inr h)) .inr
mutual
inductive Rp (K : PySem.W.Frag) (H : Hp) : D → V → List Addr → Prop
  | non : Rp K H .none .non []
  | bl (b : Bool) : Rp K H (.bool b) (.bl b) []
  | int (i : Int) : Rp K H (.int i) (.int i) []
  | str (x : Str) : Rp K H (.str x) (.str x) []
  | tup {a : Addr} {vs : List V} {ds : List D} {F : List Addr} : SqT K H a vs → RpL K H ds vs F → Rp K H (.tuple ds) (.ref a) F
  | lst {a : Addr} {vs : List V} {ds : List D} {F : List Addr} : H a = some (.lst vs) → RpL K H ds vs F → Rp K H (.list ds) (.ref a) (a :: F)
  | fl {a : Addr} {vs : List V} {ds : List D} {F : List Addr} : SqR K H a vs → RpL K H ds vs F → Rp K H (.fl ds) (.ref a) F
inductive RpL (K : PySem.W.Frag) (H : Hp) : List D → List V → List Addr → Prop
  | nil : RpL K H [] [] []
  | cons {d : D} {v : V} {F : List Addr} {ds : List D} {vs : List V} {G : List Addr} : Rp K H d v F → RpL K H ds vs G → RpL K H (d :: ds) (v :: vs) (F ++ G)
end
def isL : HO → Prop
  | .lst _ => True
  | .dK _ => True
  | .dT _ => True
  | .set _ _ => True
  | .tbl _ => True
  | _ => False
/-- all that is tracked stays, but tables and the lists at A -/
def Fr (A : Addr → Prop) (H H' : Hp) : Prop := ∀ a o, H a = some o → (∀ ps : Array Value, o ≠ .tbl ps ∨ True) → (A a → ¬ isL o) → H' a = some o
theorem Fr.refl {A : Addr → Prop} {H : Hp} : Fr A H H := fun _ _ h _ _ => h
theorem Fr.trans {A B : Addr → Prop} {H H1 H2 : Hp} (h : Fr A H H1) (h' : Fr B H1 H2) (i : ∀ a o, H a = some o → isL o → B a → A a) : Fr A H H2 := fun a o e n l =>
  h' a o (h a o e n l) n fun b z => l (i a o e z b) z
theorem Fr.mono {A B : Addr → Prop} {H H1 : Hp} (h : Fr A H H1) (i : ∀ a, A a → B a) : Fr B H H1 := fun a o e n l => h a o e n fun z => l (i a z)
theorem Fr.new {A : Addr → Prop} {H : Hp} {p : Addr} {o : HO} (n : H p = none) : Fr A H (upd H p o) := fun a u e _ _ => by
  rw [upd_ne (ne_of_none e n)]
  exact e
theorem Fr.write {A : Addr → Prop} {H : Hp} {p : Addr} {o u : HO} (e : H p = some u) (l : isL u) (hA : A p) : Fr A H (upd H p o) := fun a z ea _ q => by
  by_cases h : a = p
  · subst h
    rw [e] at ea
    cases ea
    exact absurd l (q hA)
  · rw [upd_ne h]
    exact ea
theorem sqT_frm {A : Addr → Prop} {K : PySem.W.Frag} {H H' : Hp} {a : Addr} {vs : List V} (h : SqT K H a vs) (f : Fr A H H') : SqT K H' a vs := by
  rcases h with (h | ⟨o, h⟩) | h
  · exact .inl (.inl (f _ _ h (fun ps => by simp) (fun _ => id)))
  · exact .inl (.inr ⟨o, f _ _ h (fun ps => by simp) (fun _ => id)⟩)
  · exact .inr h
theorem sqR_frm {A : Addr → Prop} {K : PySem.W.Frag} {H H' : Hp} {a : Addr} {vs : List V} (h : SqR K H a vs) (f : Fr A H H') : SqR K H' a vs := by
  rcases h with ⟨o, h⟩ | h
  · exact .inl ⟨o, f _ _ h (fun ps => by simp) (fun _ => id)⟩
  · exact .inr h
mutual
theorem Rp.frm {A : Addr → Prop} {K : PySem.W.Frag} {H H' : Hp} : ∀ {d : D} {v : V} {F : List Addr}, Rp K H d v F → Fr A H H' → (∀ a ∈ F, ¬ A a) → Rp K H' d v F
  | _, _, _, .non, _, _ => .non
  | _, _, _, .bl b, _, _ => .bl b
  | _, _, _, .int i, _, _ => .int i
  | _, _, _, .str x, _, _ => .str x
  | _, _, _, .tup h r, f, n => .tup (sqT_frm h f) (r.frm f n)
  | _, _, _, .lst h r, f, n => .lst (f _ _ h (fun ps => .inr trivial) (fun z => absurd z (n _ List.mem_cons_self))) (r.frm f fun a m => n a (List.mem_cons_of_mem _ m))
  | _, _, _, .fl h r, f, n => .fl (sqR_frm h f) (r.frm f n)
theorem RpL.frm {A : Addr → Prop} {K : PySem.W.Frag} {H H' : Hp} : ∀ {ds : List D} {vs : List V} {F : List Addr}, RpL K H ds vs F → Fr A H H' → (∀ a ∈ F, ¬ A a) → RpL K H' ds vs F
  | _, _, _, .nil, _, _ => .nil
  | _, _, _, .cons h r, f, n => .cons (h.frm f fun a m => n a (List.mem_append_left _ m)) (r.frm f fun a m => n a (List.mem_append_right _ m))
end
mutual
theorem Rp.trk {K : PySem.W.Frag} {H : Hp} : ∀ {d : D} {v : V} {F : List Addr}, Rp K H d v F → ∀ a ∈ F, ∃ vs, H a = some (.lst vs)
  | _, _, _, .non, a, m => by cases m
  | _, _, _, .bl b, a, m => by cases m
  | _, _, _, .int i, a, m => by cases m
  | _, _, _, .str x, a, m => by cases m
  | _, _, _, .tup h r, a, m => r.trk a m
  | _, _, _, .lst h r, a, m => by
    rcases List.mem_cons.mp m with e | m
    · exact ⟨_, e ▸ h⟩
    · exact r.trk a m
  | _, _, _, .fl h r, a, m => r.trk a m
theorem RpL.trk {K : PySem.W.Frag} {H : Hp} : ∀ {ds : List D} {vs : List V} {F : List Addr}, RpL K H ds vs F → ∀ a ∈ F, ∃ vs, H a = some (.lst vs)
  | _, _, _, .nil, a, m => by cases m
  | _, _, _, .cons h r, a, m => by
    rcases List.mem_append.mp m with m | m
    · exact h.trk a m
    · exact r.trk a m
end
mutual
def imm : D → Bool
  | .list _ => false
  | .dict _ => false
  | .fl xs => immL xs
  | .tuple xs => immL xs
  | .none => true
  | .bool _ => true
  | .int _ => true
  | .str _ => true
def immL : List D → Bool
  | [] => true
  | d :: ds => imm d && immL ds
end
def flat : D → Bool
  | .list xs => immL xs
  | d => imm d
mutual
theorem Rp.imm0 {K : PySem.W.Frag} {H : Hp} : ∀ {d : D} {v : V} {F : List Addr}, Rp K H d v F → imm d = true → F = []
  | _, _, _, .non, _ => rfl
  | _, _, _, .bl b, _ => rfl
  | _, _, _, .int i, _ => rfl
  | _, _, _, .str x, _ => rfl
  | _, _, _, .tup h r, e => r.imm0 (by simpa [imm] using e)
  | _, _, _, .lst h r, e => by simp [imm] at e
  | _, _, _, .fl h r, e => r.imm0 (by simpa [imm] using e)
theorem RpL.imm0 {K : PySem.W.Frag} {H : Hp} : ∀ {ds : List D} {vs : List V} {F : List Addr}, RpL K H ds vs F → immL ds = true → F = []
  | _, _, _, .nil, _ => rfl
  | _, _, _, .cons h r, e => by
    simp only [immL, Bool.and_eq_true] at e
    rw [h.imm0 e.1, r.imm0 e.2]
    rfl
end
mutual
theorem Rp.dp {K : PySem.W.Frag} {H : Hp} : ∀ {d : D} {v : V} {F : List Addr}, Rp K H d v F → Dp K H v d.p
  | _, _, _, .non => by rw [D.p]; exact .non
  | _, _, _, .bl b => by rw [D.p]; exact .bl b
  | _, _, _, .int i => by rw [D.p]; exact .int i
  | _, _, _, .str x => by rw [D.p]; exact .str x
  | _, _, _, .tup h r => by rw [D.p]; exact .tup h r.dp
  | _, _, _, .lst h r => by rw [D.p]; exact .lst (SqL.of h) r.dp
  | _, _, _, .fl h r => by rw [D.p]; exact .lst h.sq r.dp
theorem RpL.dp {K : PySem.W.Frag} {H : Hp} : ∀ {ds : List D} {vs : List V} {F : List Addr}, RpL K H ds vs F → DpAll K H vs (D.pL ds)
  | _, _, _, .nil => by rw [D.pL]; exact .nil
  | _, _, _, .cons h r => by rw [D.pL]; exact .cons h.dp r.dp
end
theorem RpL.len {K : PySem.W.Frag} {H : Hp} : ∀ {ds : List D} {vs : List V} {F : List Addr}, RpL K H ds vs F → vs.length = ds.length
  | _, _, _, .nil => rfl
  | _, _, _, .cons _ r => by simp [r.len]
theorem RpL.app {K : PySem.W.Frag} {H : Hp} : ∀ {ds es : List D} {vs us : List V} {F G : List Addr}, RpL K H ds vs F → RpL K H es us G → RpL K H (ds ++ es) (vs ++ us) (F ++ G)
  | _, _, _, _, _, _, .nil, s => s
  | _, _, _, _, _, _, .cons h r, s => by
    rw [List.append_assoc]
    exact .cons h (r.app s)
theorem RpL.one {K : PySem.W.Frag} {H : Hp} {d : D} {v : V} {F : List Addr} (h : Rp K H d v F) : RpL K H [d] [v] F := by
  have q := RpL.cons h .nil
  rwa [List.append_nil] at q
theorem RpL.get {K : PySem.W.Frag} {H : Hp} : ∀ {ds : List D} {vs : List V} {F : List Addr} {i : Nat} {v : V}, RpL K H ds vs F → vs[i]? = some v → ∃ d G, ds[i]? = some d ∧ Rp K H d v G ∧ ∀ a ∈ G, a ∈ F
  | _, _, _, _, _, .nil, e => by simp at e
  | _, _, _, 0, _, .cons h r, e => by
    simp at e
    subst e
    exact ⟨_, _, rfl, h, fun a m => List.mem_append_left _ m⟩
  | _, _, _, i + 1, _, .cons h r, e => by
    obtain ⟨d, G, e1, e2, e3⟩ := r.get (i := i) (by simpa using e)
    exact ⟨d, G, by simpa using e1, e2, fun a m => List.mem_append_right _ (e3 a m)⟩
theorem RpL.getD {K : PySem.W.Frag} {H : Hp} {ds : List D} {vs : List V} {F : List Addr} {i : Nat} {d : D} (r : RpL K H ds vs F) (e : ds[i]? = some d) : ∃ v G, vs[i]? = some v ∧ Rp K H d v G ∧ ∀ a ∈ G, a ∈ F := by
  have hi : i < vs.length := by
    rw [r.len]
    exact (List.getElem?_eq_some_iff.mp e).1
  obtain ⟨d', G, e1, e2, e3⟩ := r.get (List.getElem?_eq_getElem hi)
  rw [e] at e1
  cases e1
  exact ⟨_, G, List.getElem?_eq_getElem hi, e2, e3⟩
end L3

namespace L3
open PySem PySem.Spec PyProof.Rows L2

/-! ### slots by value -/
inductive SV where
  | un | ow (d : D) | pa (d : D) | pr (d : D) | fr (d : D)
  /-- the script; a list of lambdas, by their numbers and places; the tables of the code objects; the error in hand -/
  | sc (ns : List Int) | fn (ks : List (Nat × Addr × Addr)) | tb | ex (n : Str)
def SV.get : SV → Option D
  | .un => none
  | .ow d => some d
  | .pa d => some d
  | .pr d => some d
  | .fr d => some d
  | _ => none
def SV.own : SV → Bool
  | .ow _ => true
  | .pa _ => true
  | .fn _ => true
  | .tb => true
  | _ => false
def SV.put : SV → D → SV
  | .ow _, d => .ow d
  | .pa _, d => .pa d
  | s, _ => s
abbrev Rho := List SV
/-- a def's run: its context, the heap at entry, the arguments with their footprints, which may be changed, which the answer may share, what is wished of exceptions -/
structure FC where
  X : Cx
  H0 : Hp
  v0 : List V
  P0 : Nat → List Addr
  mt : List Nat
  al : List Nat
  E : XK
  EX : Str → Rho → Prop
  T : List (Addr × Str) := []
  lam : List (Arguments × Expr × Scope) := []
  lq : Str := ""
  cl : List (Str × Addr) := []
  exA : Addr := 0
  exN : Str := ""
abbrev FC.K (C : FC) : PySem.W.Frag := C.X.K
/-- a lambda's own object at f -/
def LamO (f : Addr) (o : Obj) : HO := .ext fun h => h.get? f = some o
abbrev lamObj (q : Str) (d : Arguments × Expr × Scope) (cl : List (Str × Addr)) (pm : Value) (c : Addr) (ctv : Value) : Obj := PySem.W.kla_obj "<lambda>" q d.1 d.2.1 d.2.2 (cloFrom cl d.2.2.names []) pm c ctv
def LamV (C : FC) (H : Hp) (k : Nat × Addr × Addr) (v : V) : Prop := v = .ref k.2.1 ∧ ∃ d pm ctv, C.lam[k.1]? = some d ∧ H k.2.1 = some (LamO k.2.1 (lamObj C.lq d C.cl pm k.2.2 ctv)) ∧ H k.2.2 = some (LamX.CodeO k.2.2 C.lq)
def LamL (C : FC) (H : Hp) : List (Nat × Addr × Addr) → List V → Prop
  | [], [] => True
  | k :: ks, v :: vs => LamV C H k v ∧ LamL C H ks vs
  | _, _ => False
theorem LamV.frm {C : FC} {A : Addr → Prop} {H H' : Hp} (f : Fr A H H') {k : Nat × Addr × Addr} {v : V} (h : LamV C H k v) : LamV C H' k v := by
  obtain ⟨e, d, pm, ctv, h1, h2, h3⟩ := h
  exact ⟨e, d, pm, ctv, h1, f _ _ h2 (fun ps => .inr trivial) (fun _ z => z), f _ _ h3 (fun ps => .inr trivial) fun _ z => z⟩
theorem LamL.frm {C : FC} {A : Addr → Prop} {H H' : Hp} (f : Fr A H H') : ∀ {ks : List (Nat × Addr × Addr)} {vs : List V}, LamL C H ks vs → LamL C H' ks vs
  | [], [], _ => trivial
  | _ :: _, _ :: _, ⟨h, r⟩ => ⟨h.frm f, LamL.frm f r⟩
  | [], _ :: _, h => h.elim
  | _ :: _, [], h => h.elim
theorem LamL.app {C : FC} {H : Hp} {k : Nat × Addr × Addr} {v : V} (h : LamV C H k v) : ∀ {ks : List (Nat × Addr × Addr)} {vs : List V}, LamL C H ks vs → LamL C H (ks ++ [k]) (vs ++ [v])
  | [], [], _ => ⟨h, trivial⟩
  | _ :: _, _ :: _, ⟨h', r⟩ => ⟨h', LamL.app h r⟩
  | [], _ :: _, h => h.elim
  | _ :: _, [], h => h.elim
theorem LamL.len {C : FC} {H : Hp} : ∀ {ks : List (Nat × Addr × Addr)} {vs : List V}, LamL C H ks vs → vs.length = ks.length
  | [], [], _ => rfl
  | _ :: _, _ :: _, ⟨_, r⟩ => by simp [LamL.len r]
  | [], _ :: _, h => h.elim
  | _ :: _, [], h => h.elim
theorem LamL.get {C : FC} {H : Hp} {k : Nat × Addr × Addr} : ∀ {ks : List (Nat × Addr × Addr)} {vs : List V} {i : Nat}, LamL C H ks vs → ks[i]? = some k → ∃ v, vs[i]? = some v ∧ LamV C H k v
  | _ :: _, _ :: _, 0, ⟨h, r⟩, e => by simp at e; subst e; exact ⟨_, rfl, h⟩
  | _ :: _, _ :: _, i + 1, ⟨h, r⟩, e => LamL.get (i := i) r (by simpa using e)
  | [], [], _, _, e => by simp at e
  | [], _ :: _, _, h, _ => h.elim
  | _ :: _, [], _, h, _ => h.elim
theorem SqR.frm {K : PySem.W.Frag} {A : Addr → Prop} {H H' : Hp} {a : Addr} {xs : List V} (f : Fr A H H') (h : SqR K H a xs) : SqR K H' a xs :=
  h.imp (fun ⟨o, e⟩ => ⟨o, f _ _ e (fun ps => .inr trivial) fun _ z => z⟩) id
def ScA (K : PySem.W.Frag) (H : Hp) (a : Addr) (ns : List Int) (F : List Addr) : Prop := (SqR K H a (ns.map V.int) ∧ F = []) ∨ (H a = some (.lst (ns.map V.int)) ∧ F = [a])
theorem ScA.sq {K : PySem.W.Frag} {H : Hp} {a : Addr} {ns : List Int} {F : List Addr} (h : ScA K H a ns F) : SqL K H a (ns.map V.int) := h.elim (fun h => h.1.sq) fun h => .inl (.inl h.1)
theorem ScA.of {K : PySem.W.Frag} {H : Hp} {a : Addr} {ns : List Int} (h : SqL K H a (ns.map V.int)) : ∃ F, ScA K H a ns F ∧ F.Nodup := by
  rcases h with (h | h) | h
  · exact ⟨[a], .inr ⟨h, rfl⟩, List.nodup_cons.mpr ⟨List.not_mem_nil, List.nodup_nil⟩⟩
  · exact ⟨[], .inl ⟨.inl h, rfl⟩, List.nodup_nil⟩
  · exact ⟨[], .inl ⟨.inr h, rfl⟩, List.nodup_nil⟩
theorem ScA.frm {K : PySem.W.Frag} {A : Addr → Prop} {H H' : Hp} {a : Addr} {ns : List Int} {F : List Addr} (h : ScA K H a ns F) (f : Fr A H H') (n : ∀ b ∈ F, ¬ A b) : ScA K H' a ns F := by
  rcases h with ⟨h, e⟩ | ⟨h, e⟩
  · exact .inl ⟨h.frm f, e⟩
  · subst e
    exact .inr ⟨f _ _ h (fun ps => .inr trivial) (fun z => absurd z (n a List.mem_cons_self)), rfl⟩
theorem ScA.trk {K : PySem.W.Frag} {H : Hp} {a : Addr} {ns : List Int} {F : List Addr} (h : ScA K H a ns F) : ∀ b ∈ F, ∃ u, H b = some u ∧ isL u := fun b hb => by
  rcases h with ⟨h, e⟩ | ⟨h, e⟩
  · subst e; cases hb
  · subst e
    rw [List.mem_singleton.mp hb]
    exact ⟨_, h, trivial⟩
theorem tabs_frm {T : List (Addr × Str)} {A : Addr → Prop} {H H' : Hp} (f : Fr A H H') (n : ∀ p ∈ T, ¬ A p.1) (t : LamX.Tabs T H) : LamX.Tabs T H' := fun p hp => by
  obtain ⟨ps, h1, h2, h3⟩ := t p hp
  refine ⟨ps, f _ _ h1 (fun ps => .inr trivial) (fun z => absurd z (n p hp)), h2, fun pos cv hc => ?_⟩
  obtain ⟨c, e1, e2⟩ := h3 pos cv hc
  exact ⟨c, e1, f _ _ e2 (fun ps => .inr trivial) fun _ z => z⟩
def SOk (C : FC) (H : Hp) (i : Nat) (s : SV) (o : Option (Option V)) (F : List Addr) : Prop := match s with
  | .un => F = []
  | .ow d => ∃ v, o = some (some v) ∧ Rp C.K H d v F ∧ F.Nodup ∧ ∀ a ∈ F, C.H0 a = none
  | .pa d => i ∈ C.mt ∧ ∃ v, o = some (some v) ∧ C.v0[i]? = some v ∧ Rp C.K H d v F ∧ F.Nodup ∧ ∀ a ∈ F, a ∈ C.P0 i ∨ C.H0 a = none
  | .pr d => ∃ v, o = some (some v) ∧ Rp C.K H d v F ∧ F = C.P0 i
  | .fr d => ∃ v, o = some (some v) ∧ Rp C.K H d v F
  | .sc ns => ∃ a, o = some (some (.ref a)) ∧ ScA C.K H a ns F ∧ F = C.P0 i
  | .fn ks => ∃ a vs, o = some (some (.ref a)) ∧ H a = some (.lst vs) ∧ LamL C H ks vs ∧ F = [a] ∧ C.H0 a = none
  | .tb => F = C.T.map (·.1) ∧ LamX.Tabs C.T H
  | .ex n => o = some (some (.ref C.exA)) ∧ n = C.exN ∧ F = []
theorem SOk.frm {C : FC} {A : Addr → Prop} {H H' : Hp} {i : Nat} {s : SV} {o : Option (Option V)} {F : List Addr} (h : SOk C H i s o F) (f : Fr A H H') (n : ∀ a ∈ F, ¬ A a) : SOk C H' i s o F := by
  cases s with
  | un => exact h
  | ow x => obtain ⟨v, h1, h2, h3⟩ := h; exact ⟨v, h1, h2.frm f n, h3⟩
  | pa x => obtain ⟨hm, v, h1, h0, h2, h3⟩ := h; exact ⟨hm, v, h1, h0, h2.frm f n, h3⟩
  | pr x => obtain ⟨v, h1, h2, h3⟩ := h; exact ⟨v, h1, h2.frm f n, h3⟩
  | fr x => obtain ⟨v, h1, h2⟩ := h; exact ⟨v, h1, h2.frm f n⟩
  | sc ns => obtain ⟨a, h1, h2, h3⟩ := h; exact ⟨a, h1, h2.frm f n, h3⟩
  | fn ks =>
    obtain ⟨a, vs, h1, h2, h3, h4, h5⟩ := h
    subst h4
    exact ⟨a, vs, h1, f _ _ h2 (fun ps => .inr trivial) (fun z => absurd z (n a List.mem_cons_self)), h3.frm f, rfl, h5⟩
  | tb =>
    obtain ⟨h1, h2⟩ := h
    subst h1
    exact ⟨rfl, tabs_frm f (fun p hp => n p.1 (List.mem_map_of_mem hp)) h2⟩
  | ex m => exact h
structure SR (C : FC) (ρ : Rho) (Fs : Nat → List Addr) (σ : L2.St) (H : Hp) : Prop where
  len : σ.length = ρ.length
  ok : ∀ i s, ρ[i]? = some s → SOk C H i s σ[i]? (Fs i)
  out : ∀ i, ρ[i]? = none → Fs i = []
  sep : ∀ i j s, i ≠ j → ρ[i]? = some s → s.own = true → ∀ a ∈ Fs i, a ∉ Fs j
  frm : Fr (fun a => ∃ i ∈ C.mt, a ∈ C.P0 i) C.H0 H
  dom : ∀ a, H a = none → C.H0 a = none
def Own (ρ : Rho) (i : Nat) : Prop := ∃ s, ρ[i]? = some s ∧ s.own = true
def Md (mod : List Nat) (ρ : Rho) (Fs : Nat → List Addr) (a : Addr) : Prop := ∃ i ∈ mod, Own ρ i ∧ a ∈ Fs i
structure Stp (mod : List Nat) (ρ : Rho) (Fs : Nat → List Addr) (H : Hp) (ρ' : Rho) (Fs' : Nat → List Addr) (H' : Hp) : Prop where
  fr : Fr (Md mod ρ Fs) H H'
  same : ∀ i, i ∉ mod → Fs' i = Fs i
  own : ∀ i a, Own ρ' i → a ∈ Fs' i → H a = none ∨ ∃ j, (j = i ∨ j ∈ mod) ∧ Own ρ j ∧ a ∈ Fs j
  dom : ∀ a, H' a = none → H a = none
  src : ∀ i a, a ∈ Fs' i → H a = none ∨ ∃ j, a ∈ Fs j
theorem Stp.refl {mod : List Nat} {ρ : Rho} {Fs : Nat → List Addr} {H : Hp} : Stp mod ρ Fs H ρ Fs H := ⟨.refl, fun _ _ => rfl, fun i a o m => .inr ⟨i, .inl rfl, o, m⟩, fun _ h => h, fun i _ m => .inr ⟨i, m⟩⟩
theorem Stp.trans {m1 m2 : List Nat} {ρ ρ1 ρ2 : Rho} {Fs Fs1 Fs2 : Nat → List Addr} {H H1 H2 : Hp} (x : Stp m1 ρ Fs H ρ1 Fs1 H1) (y : Stp m2 ρ1 Fs1 H1 ρ2 Fs2 H2) : Stp (m1 ++ m2) ρ Fs H ρ2 Fs2 H2 where
  fr := (x.fr.mono fun a ⟨i, hi, z⟩ => ⟨i, List.mem_append_left _ hi, z⟩).trans y.fr fun a o e _ ⟨i, hi, ow, ha⟩ => by
    rcases x.own i a ow ha with n | ⟨j, hj, oj, aj⟩
    · rw [e] at n; cases n
    · rcases hj with rfl | hj
      · exact ⟨j, List.mem_append_right _ hi, oj, aj⟩
      · exact ⟨j, List.mem_append_left _ hj, oj, aj⟩
  same := fun i hi => by
    rw [y.same i fun z => hi (List.mem_append_right _ z), x.same i fun z => hi (List.mem_append_left _ z)]
  own := fun i a ow ha => by
    rcases y.own i a ow ha with n | ⟨j, hj, oj, aj⟩
    · exact .inl (x.dom a n)
    · rcases x.own j a oj aj with n | ⟨j', hj', oj', aj'⟩
      · exact .inl n
      · refine .inr ⟨j', ?_, oj', aj'⟩
        rcases hj' with rfl | hj'
        · rcases hj with rfl | hj
          · exact .inl rfl
          · exact .inr (List.mem_append_right _ hj)
        · exact .inr (List.mem_append_left _ hj')
  dom := fun a h => x.dom a (y.dom a h)
  src := fun i a h => (y.src i a h).elim (fun n => .inl (x.dom a n)) fun ⟨j, hj⟩ => x.src j a hj
theorem Stp.mono {m1 m2 : List Nat} {ρ ρ1 : Rho} {Fs Fs1 : Nat → List Addr} {H H1 : Hp} (x : Stp m1 ρ Fs H ρ1 Fs1 H1) (h : ∀ i ∈ m1, i ∈ m2) : Stp m2 ρ Fs H ρ1 Fs1 H1 :=
  ⟨x.fr.mono fun a ⟨i, hi, z⟩ => ⟨i, h i hi, z⟩, fun i hi => x.same i fun z => hi (h i z), fun i a o m => (x.own i a o m).imp id fun ⟨j, hj, z⟩ => ⟨j, hj.imp id (h j), z⟩, x.dom, x.src⟩
/-- only new objects -/
theorem Stp.new {ρ : Rho} {Fs : Nat → List Addr} {H H' : Hp} (f : Fr (fun _ => False) H H') (d : ∀ a, H' a = none → H a = none) : Stp [] ρ Fs H ρ Fs H' :=
  ⟨f.mono fun _ z => z.elim, fun _ _ => rfl, fun i a o m => .inr ⟨i, .inl rfl, o, m⟩, d, fun i _ m => .inr ⟨i, m⟩⟩
theorem upd_dom {H : Hp} {p : Addr} {o : HO} : ∀ a, upd H p o a = none → H a = none := fun a h => by
  by_cases e : a = p
  · subst e; rw [upd_same] at h; cases h
  · rwa [upd_ne e] at h
/-- slots stand while only new objects come -/
theorem SR.new {C : FC} {ρ : Rho} {Fs : Nat → List Addr} {σ : L2.St} {H H' : Hp} (s : SR C ρ Fs σ H) (f : Fr (fun _ => False) H H') (d : ∀ a, H' a = none → H a = none) : SR C ρ Fs σ H' := by
  refine ⟨s.len, fun i t e => ?_, s.out, s.sep, s.frm.trans f fun _ _ _ _ z => z.elim, fun a h => s.dom a (d a h)⟩
  exact (s.ok i t e).frm f fun _ _ z => z
/-- a slot's value -/
theorem SR.val {C : FC} {ρ : Rho} {Fs : Nat → List Addr} {σ : L2.St} {H : Hp} (s : SR C ρ Fs σ H) {i : Nat} {t : SV} {d : D} (e : ρ[i]? = some t) (g : t.get = some d) : ∃ v, σ[i]? = some (some v) ∧ Rp C.K H d v (Fs i) := by
  have q := s.ok i t e
  cases t with
  | un => cases g
  | ow x => cases g; obtain ⟨v, h1, h2, h3⟩ := q; exact ⟨v, h1, h2⟩
  | pa x => cases g; obtain ⟨hm, v, h1, h0, h2, h3⟩ := q; exact ⟨v, h1, h2⟩
  | pr x => cases g; obtain ⟨v, h1, h2, h3⟩ := q; exact ⟨v, h1, h2⟩
  | fr x => cases g; obtain ⟨v, h1, h2⟩ := q; exact ⟨v, h1, h2⟩
  | _ => cases g
theorem SOk.trk {C : FC} {H : Hp} {i : Nat} {t : SV} {o : Option (Option V)} {F : List Addr} (h : SOk C H i t o F) : ∀ a ∈ F, ∃ u, H a = some u ∧ isL u := fun a ha => by
  have key : ∀ {d : D} {v : V}, Rp C.K H d v F → ∃ u, H a = some u ∧ isL u := fun r => by
    obtain ⟨vs, e⟩ := r.trk a ha
    exact ⟨_, e, trivial⟩
  cases t with
  | un => have h : F = [] := h; subst h; cases ha
  | ow x => obtain ⟨v, h1, h2, h3⟩ := h; exact key h2
  | pa x => obtain ⟨hm, v, h1, h0, h2, h3⟩ := h; exact key h2
  | pr x => obtain ⟨v, h1, h2, h3⟩ := h; exact key h2
  | fr x => obtain ⟨v, h1, h2⟩ := h; exact key h2
  | sc ns => obtain ⟨_, h1, h2, h3⟩ := h; exact h2.trk a ha
  | fn ks =>
    obtain ⟨b, vs, h1, h2, h3, h4, h5⟩ := h
    subst h4
    rw [List.mem_singleton.mp ha]
    exact ⟨_, h2, trivial⟩
  | tb =>
    obtain ⟨h1, h2⟩ := h
    subst h1
    obtain ⟨p, hp, rfl⟩ := List.mem_map.mp ha
    obtain ⟨ps, e, _⟩ := h2 p hp
    exact ⟨_, e, trivial⟩
  | ex m => obtain ⟨_, _, h3⟩ := h; subst h3; cases ha
theorem SR.trk {C : FC} {ρ : Rho} {Fs : Nat → List Addr} {σ : L2.St} {H : Hp} (s : SR C ρ Fs σ H) {a : Addr} {i : Nat} (hi : a ∈ Fs i) : ∃ u, H a = some u ∧ isL u := by
  rcases hs : ρ[i]? with _ | t
  · rw [s.out i hs] at hi; exact (List.not_mem_nil hi).elim
  · exact (s.ok i t hs).trk a hi
theorem LamL.at {C C' : FC} {H : Hp} (hl : C'.lam = C.lam) (hq : C'.lq = C.lq) (hc : C'.cl = C.cl) : ∀ {ks : List (Nat × Addr × Addr)} {vs : List V}, LamL C H ks vs → LamL C' H ks vs
  | [], [], _ => trivial
  | _ :: _, _ :: _, ⟨⟨e, d, pm, ctv, h1, h2, h3⟩, r⟩ => ⟨⟨e, d, pm, ctv, by rw [hl]; exact h1, by rw [hq, hc]; exact h2, by rw [hq]; exact h3⟩, LamL.at hl hq hc r⟩
  | [], _ :: _, h => h.elim
  | _ :: _, [], h => h.elim
/-- what a result may share -/
structure Res (ns0 ns1 : List Nat) (H : Hp) (Fs' : Nat → List Addr) (d : D) (F : List Addr) : Prop where
  ali : ∀ a ∈ F, (H a = none ∧ ∀ i, a ∉ Fs' i) ∨ ∃ i ∈ ns0 ++ ns1, a ∈ Fs' i
  shl : ns0 = [] → flat d = true → ∀ a ∈ F, H a = none ∧ ∀ i, a ∉ Fs' i
  nd : ns0 = [] → (ns1 = [] ∨ flat d = true) → F.Nodup
theorem Res.nil {ns0 ns1 : List Nat} {H : Hp} {Fs' : Nat → List Addr} {d : D} : Res ns0 ns1 H Fs' d [] :=
  ⟨fun _ m => (List.not_mem_nil m).elim, fun _ _ _ m => (List.not_mem_nil m).elim, fun _ _ => List.nodup_nil⟩
theorem Res.imm {ns0 ns1 : List Nat} {H H' : Hp} {K : PySem.W.Frag} {Fs' : Nat → List Addr} {d : D} {v : V} {F : List Addr} (h : Rp K H' d v F) (e : imm d = true) : Res ns0 ns1 H Fs' d F := by
  rw [h.imm0 e]
  exact .nil

/-! ### judgements -/
abbrev EXT := Str → Rho → Prop
abbrev WE := Rho → (D → Rho → Prop) → EXT → Prop
abbrev WT := Rho → (Bool → Rho → Prop) → EXT → Prop
abbrev WA := Rho → (List D → Rho → Prop) → EXT → Prop
/-- an expression, by values -/
def rdE (C : FC) (ns0 ns1 mod : List Nat) (w : WE) : TE := fun σ H Q => ∃ ρ Fs q, SR C ρ Fs σ H ∧ w ρ q C.EX ∧
  ∀ d ρ' v F H' Fs', q d ρ' → SR C ρ' Fs' σ H' → Stp mod ρ Fs H ρ' Fs' H' → Rp C.K H' d v F → Res ns0 ns1 H Fs' d F → Q v H'
structure JE (C : FC) (e : Expr) (ns0 ns1 mod : List Nat) (w : WE) : Prop where
  pe : PE C.X e (rdE C ns0 ns1 mod w)
def rdT (C : FC) (mod : List Nat) (w : WT) : TT := fun σ H Q => ∃ ρ Fs q, SR C ρ Fs σ H ∧ w ρ q C.EX ∧
  ∀ b ρ' H' Fs', q b ρ' → SR C ρ' Fs' σ H' → Stp mod ρ Fs H ρ' Fs' H' → Q b H'
structure JT (C : FC) (e : Expr) (mod : List Nat) (w : WT) : Prop where
  pt : PT C.X e (rdT C mod w)
theorem PE.imp {X : Cx} {e : Expr} {t t' : TE} (h : PE X e t) (i : ∀ σ H Q, t' σ H Q → t σ H Q) : PE X e t' := ⟨fun pins s σ H Q I q => h.run pins s σ H Q I (i σ H Q q)⟩
theorem PT.imp {X : Cx} {e : Expr} {t t' : TT} (h : PT X e t) (i : ∀ σ H Q, t' σ H Q → t σ H Q) : PT X e t' := ⟨fun pins s σ H Q I q => h.run pins s σ H Q I (i σ H Q q)⟩
theorem PW.imp {X : Cx} {e : Expr} {t t' : TT} (h : PW X e t) (i : ∀ σ H Q, t' σ H Q → t σ H Q) : PW X e t' := ⟨fun whole pins s σ H Q I q => h.run whole pins s σ H Q I (i σ H Q q)⟩
theorem PA.imp {X : Cx} {e : List Expr} {t t' : TA} (h : PA X e t) (i : ∀ σ H Q, t' σ H Q → t σ H Q) : PA X e t' := ⟨fun pos pins s σ H Q I q => h.run pos pins s σ H Q I (i σ H Q q)⟩
theorem PS.imp {X : Cx} {e : Stmt} {t t' : TS} (h : PS X e t) (i : ∀ Dn σ H, t' Dn σ H → t Dn σ H) : PS X e t' := ⟨fun pins s σ H Dn I q => h.run pins s σ H Dn I (i Dn σ H q)⟩
theorem PSs.imp {X : Cx} {e : List Stmt} {t t' : TS} (h : PSs X e t) (i : ∀ Dn σ H, t' Dn σ H → t Dn σ H) : PSs X e t' := ⟨fun pins s σ H Dn I q => h.run pins s σ H Dn I (i Dn σ H q)⟩
/-- more sharing, more change may be said -/
theorem JE.mono {C : FC} {e : Expr} {a b m a' b' m' : List Nat} {w : WE} (h : JE C e a b m w) (ha : ∀ i ∈ a, i ∈ a') (hb : ∀ i ∈ b, i ∈ b') (hm : ∀ i ∈ m, i ∈ m') : JE C e a' b' m' w :=
  ⟨PE.imp h.pe fun σ H Q ⟨ρ, Fs, q, s, hw, k⟩ => ⟨ρ, Fs, q, s, hw, fun d ρ' v F H' Fs' h1 h2 h3 h4 h5 => k d ρ' v F H' Fs' h1 h2 (h3.mono hm) h4
    ⟨fun x hx => (h5.ali x hx).imp id fun ⟨i, hi, z⟩ => ⟨i, List.mem_append.mpr ((List.mem_append.mp hi).imp (ha i) (hb i)), z⟩,
     fun e0 => h5.shl (by cases a with | nil => rfl | cons x r => exact absurd (ha x List.mem_cons_self) (by rw [e0]; exact List.not_mem_nil)),
     fun e0 e1 => h5.nd (by cases a with | nil => rfl | cons x r => exact absurd (ha x List.mem_cons_self) (by rw [e0]; exact List.not_mem_nil)) (e1.imp (fun z => by cases b with | nil => rfl | cons x r => exact absurd (hb x List.mem_cons_self) (by rw [z]; exact List.not_mem_nil)) id)⟩⟩⟩

/-! ### leaves -/
section
variable {C : FC} {a b c : Expr} {pos p p2 : Pos}
def wC (d : D) : WE := fun ρ q _ => q d ρ
def wVar (i : Nat) : WE := fun ρ q _ => match ρ[i]? with
  | some s => (match s.get with | some d => q d ρ | none => False)
  | none => False
theorem je_c {e : Expr} {d : D} {v : V} (h : PE C.X e (tC v)) (r : ∀ H, Rp C.K H d v []) : JE C e [] [] [] (wC d) :=
  ⟨PE.imp h fun σ H Q ⟨ρ, Fs, q, s, hw, k⟩ => k d ρ v [] H Fs hw s .refl (r H) .nil⟩
theorem je_int {i : Int} {j} : JE C (.Constant (.int i) j pos) [] [] [] (wC (.int i)) := je_c pe_int fun _ => .int i
theorem je_bl {i : Bool} {j} : JE C (.Constant (.bool i) j pos) [] [] [] (wC (.bool i)) := je_c pe_bl fun _ => .bl i
theorem je_non {j} : JE C (.Constant .none j pos) [] [] [] (wC .none) := je_c pe_non fun _ => .non
theorem je_str {x : Str} {j} : JE C (.Constant (.str x) j pos) [] [] [] (wC (.str x)) := je_c pe_str fun _ => .str x
theorem je_var {i : Nat} {x : Str} (hN : C.X.N[i]? = some x) (hv : Vis C.X.env.scope x) (hd : (x == ("__debug__" : Str)) = false := by decide) (hcd : (x == ("__classdict__" : Str)) = false := by decide) :
    JE C (.Name x pos) [i] [i] [] (wVar i) := by
  refine ⟨PE.imp (pe_var hN hv hd hcd) fun σ H Q ⟨ρ, Fs, q, s, hw, k⟩ => ?_⟩
  unfold wVar at hw
  cases e : ρ[i]? with
  | none => rw [e] at hw; exact hw.elim
  | some t =>
    rw [e] at hw
    cases g : t.get with
    | none => simp only [g] at hw
    | some d =>
      simp only [g] at hw
      obtain ⟨v, h1, h2⟩ := s.val e g
      exact ⟨v, h1, k d ρ v (Fs i) H Fs hw s .refl h2 ⟨fun x hx => .inr ⟨i, by simp, hx⟩, (fun z => by cases z), (fun z => by cases z)⟩⟩
/-- a constant of the module -/
theorem je_globI {x : Str} {i : Int} (hg : Gl C.X x) (hm : ∃ t, C.X.mg x = some (.int i t)) (hdb : (x == ("__debug__" : Str)) = false := by decide) : JE C (.Name x pos) [] [] [] (wC (.int i)) := by
  obtain ⟨t, hm⟩ := hm
  exact je_c (pe_glob (v := .int i) hg hm ⟨_, rfl⟩ hdb) fun _ => .int i
theorem je_globS {x : Str} {z : Str} (hg : Gl C.X x) (hm : ∃ t, C.X.mg x = some (.str z t)) (hdb : (x == ("__debug__" : Str)) = false := by decide) : JE C (.Name x pos) [] [] [] (wC (.str z)) := by
  obtain ⟨t, hm⟩ := hm
  exact je_c (pe_glob (v := .str z) hg hm ⟨_, rfl⟩ hdb) fun _ => .str z
end
end L3

namespace L3
open PySem PySem.Spec PyProof.Rows L2

/-! ### two operands -/
/-- the first operand's sharing survives what the second does -/
theorem keep2 {C : FC} {a0 a1 m2 : List Nat} {ρ1 ρ2 : Rho} {Fs1 Fs2 : Nat → List Addr} {σ : L2.St} {H H1 H2 : Hp} {x : D} {v : V} {F : List Addr}
    (s1 : SR C ρ1 Fs1 σ H1) (st : Stp m2 ρ1 Fs1 H1 ρ2 Fs2 H2) (r : Rp C.K H1 x v F) (k : Res a0 a1 H Fs1 x F) (dj : ∀ i ∈ a0 ++ a1, i ∉ m2) :
    Rp C.K H2 x v F ∧ ∀ a ∈ F, (H a = none ∧ ∀ i, a ∉ Fs2 i) ∨ ∃ i ∈ a0 ++ a1, a ∈ Fs2 i := by
  have hF : ∀ a ∈ F, ¬ Md m2 ρ1 Fs1 a := fun a ha ⟨j, hj, ⟨t, e, o⟩, hja⟩ => by
    rcases k.ali a ha with ⟨_, n⟩ | ⟨i, hi, hia⟩
    · exact n j hja
    · by_cases e2 : j = i
      · subst e2; exact dj _ hi hj
      · exact s1.sep j i t e2 e o a hja hia
  refine ⟨r.frm st.fr hF, fun a ha => ?_⟩
  rcases k.ali a ha with ⟨n0, n⟩ | ⟨i, hi, hia⟩
  · refine .inl ⟨n0, fun i hi => ?_⟩
    obtain ⟨vs, ht⟩ := r.trk a ha
    rcases st.src i a hi with z | ⟨j, hj⟩
    · rw [ht] at z; cases z
    · exact n j hj
  · exact .inr ⟨i, hi, by rw [st.same i (dj i hi)]; exact hia⟩
/-- a result of the operator itself: it shares what its operands share, or is new -/
structure OpRes (F G : List Addr) (H2 : Hp) (d : D) (F' : List Addr) : Prop where
  ali : ∀ a ∈ F', H2 a = none ∨ a ∈ F ∨ a ∈ G
  shl : flat d = true → ∀ a ∈ F', H2 a = none
  nd : flat d = true → F'.Nodup
/-- f on two values, seen from the machine -/
abbrev F2 := D → D → (D → Prop) → Prop
def Op2 (K : PySem.W.Frag) (r : R2) (f : F2) : Prop := ∀ (x y : D) (v u : V) (F G : List Addr) (H : Hp) (q : D → Prop) (Q : VK), Rp K H x v F → Rp K H y u G → f x y q →
  (∀ d v' F' H', q d → Fr (fun _ => False) H H' → (∀ a, H' a = none → H a = none) → Rp K H' d v' F' → OpRes F G H d F' → Q v' H') → r v u H Q
def w2 (f : F2) (wa wb : WE) : WE := fun ρ q E => wa ρ (fun x ρ1 => wb ρ1 (fun y ρ2 => f x y fun d => q d ρ2) E) E
def dj (a b : List Nat) : Bool := a.all fun i => !b.contains i
theorem dj_ok {a b : List Nat} (h : dj a b = true) : ∀ i ∈ a, i ∉ b := fun i hi z => by
  have q := List.all_eq_true.mp h i hi
  simp [z] at q
theorem bin_run {C : FC} {a0 a1 m1 b0 b1 m2 : List Nat} {wa wb : WE} {r : R2} {f : F2} (ho : Op2 C.K r f) (d : dj (a0 ++ a1) m2 = true) :
    ∀ σ H Q, rdE C [] (1000 :: (a0 ++ a1 ++ (b0 ++ b1))) (m1 ++ m2) (w2 f wa wb) σ H Q → (fun σ H Q => rdE C a0 a1 m1 wa σ H fun x H1 => rdE C b0 b1 m2 wb σ H1 fun y H2 => r x y H2 Q) σ H Q := by
  rintro σ H Q ⟨ρ, Fs, q, s, hw, k⟩
  refine ⟨ρ, Fs, _, s, hw, fun x ρ1 v F H1 Fs1 h1 s1 t1 r1 k1 => ⟨ρ1, Fs1, _, s1, h1, fun y ρ2 u G H2 Fs2 h2 s2 t2 r2 k2 => ?_⟩⟩
  obtain ⟨r1', k1'⟩ := keep2 s1 t2 r1 k1 (dj_ok d)
  refine ho x y v u F G H2 _ Q r1' r2 h2 fun z v' F' H' hq fr dm rz oz => ?_
  have t12 := t1.trans t2
  have t3 : Stp (m1 ++ m2) ρ Fs H ρ2 Fs2 H' := (t12.trans (Stp.new fr dm)).mono (by simp)
  have fresh : ∀ a, H2 a = none → H a = none ∧ ∀ i, a ∉ Fs2 i := fun a n => ⟨t12.dom a n, fun i hi => by
    obtain ⟨u, hu, _⟩ := s2.trk hi
    rw [hu] at n; cases n⟩
  refine k z ρ2 v' F' H' Fs2 hq (s2.new fr dm) t3 rz ⟨fun a ha => ?_, fun _ fl a ha => fresh a (oz.shl fl a ha), fun _ h => ?_⟩
  · rcases oz.ali a ha with n | h | h
    · exact .inl (fresh a n)
    · exact (k1' a h).imp id fun ⟨i, hi, z⟩ => ⟨i, by simp only [List.nil_append, List.mem_cons, List.mem_append] at hi ⊢; exact .inr (.inl hi), z⟩
    · rcases k2.ali a h with ⟨n, n'⟩ | ⟨i, hi, z⟩
      · exact .inl ⟨t1.dom a n, n'⟩
      · exact .inr ⟨i, by simp only [List.nil_append, List.mem_cons, List.mem_append] at hi ⊢; exact .inr (.inr hi), z⟩
  · rcases h with h | h
    · cases h
    · exact oz.nd h
/-- the same for an operator that hands back a part of what it got -/
def Op2A (K : PySem.W.Frag) (r : R2) (f : F2) : Prop := ∀ (x y : D) (v u : V) (F G : List Addr) (H : Hp) (q : D → Prop) (Q : VK), Rp K H x v F → Rp K H y u G → f x y q →
  (∀ d v' F' , q d → Rp K H d v' F' → (∀ a ∈ F', a ∈ F) → Q v' H) → r v u H Q
theorem binA_run {C : FC} {a0 a1 m1 b0 b1 m2 : List Nat} {wa wb : WE} {r : R2} {f : F2} (ho : Op2A C.K r f) (d : dj (a0 ++ a1) m2 = true) :
    ∀ σ H Q, rdE C (1000 :: (a0 ++ a1)) [] (m1 ++ m2) (w2 f wa wb) σ H Q → (fun σ H Q => rdE C a0 a1 m1 wa σ H fun x H1 => rdE C b0 b1 m2 wb σ H1 fun y H2 => r x y H2 Q) σ H Q := by
  rintro σ H Q ⟨ρ, Fs, q, s, hw, k⟩
  refine ⟨ρ, Fs, _, s, hw, fun x ρ1 v F H1 Fs1 h1 s1 t1 r1 k1 => ⟨ρ1, Fs1, _, s1, h1, fun y ρ2 u G H2 Fs2 h2 s2 t2 r2 k2 => ?_⟩⟩
  obtain ⟨r1', k1'⟩ := keep2 s1 t2 r1 k1 (dj_ok d)
  refine ho x y v u F G H2 _ Q r1' r2 h2 fun z v' F' hq rz oz => ?_
  refine k z ρ2 v' F' H2 Fs2 hq s2 (t1.trans t2) rz ⟨fun a ha => ?_, (fun z => by cases z), (fun z => by cases z)⟩
  exact (k1' a (oz a ha)).imp id fun ⟨i, hi, z⟩ => ⟨i, by rw [List.append_nil]; exact List.mem_cons_of_mem _ hi, z⟩
section
variable {C : FC} {a b c : Expr} {pos p p2 : Pos} {a0 a1 m1 b0 b1 m2 : List Nat} {wa wb wc : WE}
theorem je_op {op : Operator} {r : R2} {f : F2} (hr : OpR C.X (binaryOp op) r) (ho : Op2 C.K r f) (ha : JE C a a0 a1 m1 wa) (hb : JE C b b0 b1 m2 wb) (d : dj (a0 ++ a1) m2 = true := by decide) :
    JE C (.BinOp a op b pos) [] (1000 :: (a0 ++ a1 ++ (b0 ++ b1))) (m1 ++ m2) (w2 f wa wb) := ⟨PE.imp (pe_op hr ha.pe hb.pe) (fun σ H Q h => bin_run (b0 := b0) (b1 := b1) (m2 := m2) ho d σ H Q h)⟩
theorem je_cmp {op : CmpOp} {r : R2} {f : F2} (hr : OpR C.X (compareOp op) r) (ho : Op2 C.K r f) (ha : JE C a a0 a1 m1 wa) (hb : JE C b b0 b1 m2 wb) (hm : behindInMarks op b = false) (d : dj (a0 ++ a1) m2 = true := by decide) :
    JE C (.Compare a [op] [b] pos) [] (1000 :: (a0 ++ a1 ++ (b0 ++ b1))) (m1 ++ m2) (w2 f wa wb) := ⟨PE.imp (pe_cmpR hr ha.pe hb.pe hm) (fun σ H Q h => bin_run ho d σ H Q h)⟩
theorem je_ix {r : R2} {f : F2} (hr : IxR C.X r) (ho : Op2A C.K r f) (ha : JE C a a0 a1 m1 wa) (hb : JE C b b0 b1 m2 wb) (hs : PlainIx b) (d : dj (a0 ++ a1) m2 = true := by decide) :
    JE C (.Subscript a b pos) (1000 :: (a0 ++ a1)) [] (m1 ++ m2) (w2 f wa wb) := ⟨PE.imp (pe_ix hr ha.pe hb.pe hs) (fun σ H Q h => binA_run ho d σ H Q h)⟩
end

/-! ### the operators on values -/
theorem OpRes.tupl {K : PySem.W.Frag} {F G F' : List Addr} {H2 H' : Hp} {ds : List D} {v : V} (r : Rp K H' (.tuple ds) v F') (h : ∀ a ∈ F', H2 a = none ∨ a ∈ F ∨ a ∈ G) : OpRes F G H2 (.tuple ds) F' :=
  have z : flat (.tuple ds) = true → F' = [] := fun fl => r.imm0 fl
  ⟨h, (fun fl a m => by rw [z fl] at m; cases m), fun fl => by rw [z fl]; exact List.nodup_nil⟩
theorem OpRes.nil {F G : List Addr} {H2 : Hp} {d : D} : OpRes F G H2 d [] := ⟨fun _ m => (List.not_mem_nil m).elim, fun _ _ m => (List.not_mem_nil m).elim, fun _ => List.nodup_nil⟩
def fI (g : Int → Int → Int) (P : Int → Int → Prop) : F2 := fun x y q => match x, y with
  | .int i, .int j => P i j ∧ q (.int (g i j))
  | _, _ => False
def fB (g : Int → Int → Bool) : F2 := fun x y q => match x, y with
  | .int i, .int j => q (.bool (g i j))
  | _, _ => False
theorem op2_I {K : PySem.W.Frag} {g : Int → Int → Int} {P P' : Int → Int → Prop} (h : ∀ i j, P i j → P' i j) : Op2 K (rI P' fun i j => .int (g i j)) (fI g P) := by
  intro x y v u F G H q Q rx ry hf k
  cases x <;> cases y <;> first | exact hf.elim | skip
  cases rx; cases ry
  exact ⟨_, _, rfl, rfl, h _ _ hf.1, k _ _ [] H hf.2 .refl (fun _ h => h) (.int _) .nil⟩
theorem op2_I0 {K : PySem.W.Frag} {g : Int → Int → Int} : Op2 K (rI0 fun i j => .int (g i j)) (fI g fun _ _ => True) := by
  intro x y v u F G H q Q rx ry hf k
  cases x <;> cases y <;> first | exact hf.elim | skip
  cases rx; cases ry
  exact ⟨_, _, rfl, rfl, k _ _ [] H hf.2 .refl (fun _ h => h) (.int _) .nil⟩
theorem op2_B {K : PySem.W.Frag} {g : Int → Int → Bool} : Op2 K (rI0 fun i j => .bl (g i j)) (fB g) := by
  intro x y v u F G H q Q rx ry hf k
  cases x <;> cases y <;> first | exact hf.elim | skip
  cases rx; cases ry
  exact ⟨_, _, rfl, rfl, k _ _ [] H hf .refl (fun _ h => h) (.bl _) .nil⟩
end L3

namespace L3
open PySem PySem.Spec PyProof.Rows L2

/-! ### + - * // % ** -/
def mOk (i j : Int) : Prop := CMulW i j ∨ CMul i j
theorem mOk.ok {i j : Int} (h : mOk i j) : IntMulOk i j := h.elim (fun h => h.ok) fun h => h.ok
theorem op_mulM {X : Cx} : OpR X (binaryOp .Mult) (rI mOk fun i j => .int (i * j)) := opI fun _ _ _ _ _ _ _ hc q => mul_int q hc.ok
def dOk (_ j : Int) : Prop := 0 < j ∧ j.natAbs.log2 < 9000
def pOk (i j : Int) : Prop := 0 ≤ j ∧ j ≤ 1000000 ∧ i.natAbs < 2 ^ 64
def fAdd : F2 := fun x y q => match x, y with
  | .int i, .int j => q (.int (i + j))
  | .str a, .str b => a.length + b.length ≤ sizeLine ∧ q (.str (a ++ b))
  | .tuple xs, .tuple ys => xs.length + ys.length ≤ sizeLine ∧ q (.tuple (xs ++ ys))
  | .list xs, .list ys => xs.length + ys.length ≤ sizeLine ∧ q (.list (xs ++ ys))
  | .fl xs, .list ys => xs.length + ys.length ≤ sizeLine ∧ q (.list (xs ++ ys))
  | .list xs, .fl ys => xs.length + ys.length ≤ sizeLine ∧ q (.list (xs ++ ys))
  | .fl xs, .fl ys => xs.length + ys.length ≤ sizeLine ∧ q (.list (xs ++ ys))
  | _, _ => False
/-- l + l of lists known by what stands there -/
def rCatS (K : PySem.W.Frag) : R2 := fun x y H Q => ∃ a b xs ys, x = .ref a ∧ y = .ref b ∧ SqL K H a xs ∧ SqL K H b ys ∧ xs.length + ys.length ≤ sizeLine ∧ ∀ p, H p = none → Q (.ref p) (upd H p (.lst (xs ++ ys)))
theorem op_catS {X : Cx} : OpR X (binaryOp .Add) (rCatS X.K) := by
  rintro pins s σ H x y v u Q I rx ry ⟨a, b, xs, ys, rfl, rfl, ha, hb, hz, q⟩
  cases rx
  cases ry
  obtain ⟨its, r1, p1, _⟩ := I.list ha
  obtain ⟨its2, r2, p2, _⟩ := I.list hb
  obtain ⟨⟨c1, d1, t1, l1⟩, n1, h1, e1, g1, f1⟩ := id p1
  obtain ⟨⟨c2, d2, t2, l2⟩, n2, h2, e2, g2, f2⟩ := id p2
  simp only at e1 g1 f1 e2 g2 f2
  subst e1 f1 e2 f2 g1 g2
  have hl : (its ++ its2).length = xs.length + ys.length := by rw [List.length_append, ← r1.length, ← r2.length]
  have ea : its.toArray ++ its2.toArray = (its ++ its2).toArray := by simp
  refine concat_meets ⟨_, h1, rfl⟩ ⟨_, h2, rfl⟩ noFill_list_add seq_list_add PySem.F.slot_list_add PySem.F.entry_list_add (PySem.F.args_list_add_2 _ _)
    (PyProof.Rows.list_addW a b its.toArray its2.toArray n1 n2 none none l1 l2 (by rw [List.size_toArray, List.size_toArray, ← List.length_append, hl]; exact hz)) ⟨h1, h2, ?_⟩
  rw [ea]
  exact ⟨.ref _, _, I.lnew (t' := s.toks) (r1.append r2) (by rw [List.length_append]; exact hz), rfl, q _ I.fresh⟩
/-- () + t is t -/
def rCatT0 (K : PySem.W.Frag) : R2 := fun x y H Q => ∃ a b ys, x = .ref a ∧ y = .ref b ∧ SqT K H a [] ∧ SqT K H b ys ∧ Q (.ref b) H
theorem op_catT0 {X : Cx} : OpR X (binaryOp .Add) (rCatT0 X.K) := by
  intro pins s σ H x y v u Q I rx ry h
  obtain ⟨a, b, ys, rfl, rfl, ha, hb, q⟩ := h
  cases rx
  cases ry
  obtain ⟨its, r1, p1, _⟩ := I.tuple ha
  obtain ⟨its2, r2, p2, _⟩ := I.tuple hb
  cases r1
  obtain ⟨⟨cls, dd, data, sl⟩, ho, hc, n, hd⟩ := id p1
  obtain ⟨⟨cls2, dd2, data2, sl2⟩, ho2, hc2, n2, hd2⟩ := id p2
  simp only at hc hd hc2 hd2
  subst hc hd hc2 hd2
  exact concat_meets ⟨_, ho, rfl⟩ ⟨_, ho2, rfl⟩ noFill_tuple_add seq_tuple_add PySem.F.slot_tuple_add PySem.F.entry_tuple_add (PySem.F.args_tuple_add_2 _ _)
    (PyProof.Rows.tuple_addW0 a b _ its2.toArray n n2 dd dd2 sl sl2 (by rfl)) ⟨ho, ho2, ⟨.ref b, H, I, rfl, q⟩⟩
abbrev rAdd4 (K : PySem.W.Frag) : R2 := fun x y H Q => ((((rI0 fun i j => .int (i + j)) x y H Q ∨ (∃ i j, x = .str i ∧ y = .str j ∧ i.length + j.length ≤ sizeLine ∧ Q (.str (i ++ j)) H)) ∨ rCatT K x y H Q) ∨ rCatS K x y H Q) ∨ rCatT0 K x y H Q
theorem op_add4 {X : Cx} : OpR X (binaryOp .Add) (rAdd4 X.K) := (((op_add.or op_add_str).or op_catT).or op_catS).or op_catT0
theorem fresh_tup {K : PySem.W.Frag} {H : Hp} {p : Addr} {vs : List V} {ds : List D} {F : List Addr} (n : H p = none) (r : RpL K H ds vs F) : Rp K (upd H p (.tup vs)) (.tuple ds) (.ref p) F :=
  .tup (SqT.of upd_same) (r.frm (A := fun _ => False) (Fr.new n) fun _ _ z => z)
theorem fresh_lst {K : PySem.W.Frag} {H : Hp} {p : Addr} {vs : List V} {ds : List D} {F : List Addr} (n : H p = none) (r : RpL K H ds vs F) : Rp K (upd H p (.lst vs)) (.list ds) (.ref p) (p :: F) :=
  .lst upd_same (r.frm (A := fun _ => False) (Fr.new n) fun _ _ z => z)
theorem immL_app : ∀ {xs ys : List D}, immL (xs ++ ys) = (immL xs && immL ys)
  | [], _ => by simp [immL]
  | x :: xs, ys => by simp [immL, immL_app (xs := xs) (ys := ys), Bool.and_assoc]
theorem cat_lst {K : PySem.W.Frag} {H : Hp} {a b : Addr} {vs us : List V} {ds es : List D} {F F0 G G0 : List Addr} {q : D → Prop} {Q : VK} (h : SqL K H a vs) (h' : SqL K H b us) (r : RpL K H ds vs F0) (r' : RpL K H es us G0) (hF : ∀ a ∈ F0, a ∈ F) (hG : ∀ a ∈ G0, a ∈ G)
    (hf : ds.length + es.length ≤ sizeLine ∧ q (.list (ds ++ es))) (k : ∀ d v' F' H', q d → Fr (fun _ => False) H H' → (∀ a, H' a = none → H a = none) → Rp K H' d v' F' → OpRes F G H d F' → Q v' H') : rAdd4 K (.ref a) (.ref b) H Q := by
  have hl : vs.length + us.length ≤ sizeLine := by rw [r.len, r'.len]; exact hf.1
  refine .inl (.inr ⟨_, _, _, _, rfl, rfl, h, h', hl, fun p n => ?_⟩)
  have rr := r.app r'
  refine k (.list (ds ++ es)) _ (p :: (F0 ++ G0)) _ hf.2 (Fr.new n) upd_dom (fresh_lst n rr) ⟨fun a m => ?_, fun fl a m => ?_, fun fl => ?_⟩
  · rcases List.mem_cons.mp m with e | m
    · subst e; exact .inl n
    · exact .inr ((List.mem_append.mp m).imp (hF _) (hG _))
  · rw [rr.imm0 (by simpa [flat] using fl)] at m
    rcases List.mem_cons.mp m with e | m
    · subst e; exact n
    · cases m
  · rw [rr.imm0 (by simpa [flat] using fl)]; simp
theorem op2_add {K : PySem.W.Frag} : Op2 K (rAdd4 K) fAdd := by
  intro x y v u F G H q Q rx ry hf k
  cases rx with
  | non => cases ry <;> exact hf.elim
  | bl b => cases ry <;> exact hf.elim
  | int i => cases ry with
    | int j => exact .inl (.inl (.inl (.inl ⟨_, _, rfl, rfl, k _ _ [] H hf .refl (fun _ h => h) (.int _) .nil⟩)))
    | _ => exact hf.elim
  | str i => cases ry with
    | str j => exact .inl (.inl (.inl (.inr ⟨_, _, rfl, rfl, hf.1, k _ _ [] H hf.2 .refl (fun _ h => h) (.str _) .nil⟩)))
    | _ => exact hf.elim
  | @tup a vs ds F0 h r => cases ry with
    | @tup b us es G0 h' r' =>
      have hl : vs.length + us.length ≤ sizeLine := by rw [r.len, r'.len]; exact hf.1
      cases ds with
      | nil =>
        cases r
        exact .inr ⟨_, _, _, rfl, rfl, h, h', k (.tuple es) _ G H hf.2 .refl (fun _ h => h) (.tup h' r') (.tupl (.tup h' r') fun a m => .inr (.inr m))⟩
      | cons d0 dr =>
        have hne : vs ≠ [] := fun z => by subst z; cases r
        refine .inl (.inl (.inr ⟨_, _, _, _, rfl, rfl, h, h', hne, hl, fun z => ?_, fun z p n => ?_⟩))
        · subst z
          cases r'
          have hq : q (.tuple (d0 :: dr)) := by simpa using hf.2
          exact k _ _ F H hq .refl (fun _ h => h) (.tup h r) (.tupl (.tup h r) fun a m => .inr (.inl m))
        · have rr := r.app r'
          exact k (.tuple ((d0 :: dr) ++ es)) _ (F ++ G) _ hf.2 (Fr.new n) upd_dom (fresh_tup n rr) (.tupl (fresh_tup n rr) fun a m => .inr (List.mem_append.mp m))
    | _ => exact hf.elim
  | @lst a vs ds F0 h r => cases ry with
    | @lst b us es G0 h' r' => exact cat_lst (SqL.of h) (SqL.of h') r r' (fun a m => List.mem_cons_of_mem _ m) (fun a m => List.mem_cons_of_mem _ m) hf k
    | @fl b us es G0 h' r' => exact cat_lst (SqL.of h) h'.sq r r' (fun a m => List.mem_cons_of_mem _ m) (fun a m => m) hf k
    | _ => exact hf.elim
  | @fl a vs ds F0 h r => cases ry with
    | @lst b us es G0 h' r' => exact cat_lst h.sq (SqL.of h') r r' (fun a m => m) (fun a m => List.mem_cons_of_mem _ m) hf k
    | @fl b us es G0 h' r' => exact cat_lst h.sq h'.sq r r' (fun a m => m) (fun a m => m) hf k
    | _ => exact hf.elim
abbrev fSub : F2 := fI (fun i j => i - j) fun _ _ => True
theorem op2_sub {K : PySem.W.Frag} : Op2 K (rI0 fun i j => .int (i - j)) fSub := op2_I0
abbrev fDiv : F2 := fI (fun i j => i / j) dOk
theorem op2_div {K : PySem.W.Frag} : Op2 K (rI CDivW fun i j => .int (i / j)) fDiv := op2_I fun _ _ h => h
abbrev fDivN : F2 := fI (fun i j => i.fdiv j) fun _ j => j ≠ 0 ∧ j.natAbs < 1073741824
theorem op2_divN {K : PySem.W.Frag} : Op2 K (rI CDivN fun i j => .int (i.fdiv j)) fDivN := op2_I fun _ _ h => h
abbrev fMod : F2 := fI (fun i j => i % j) fun _ j => 0 < j
theorem op2_mod {K : PySem.W.Frag} : Op2 K (rI (fun _ j => 0 < j) fun i j => .int (i % j)) fMod := op2_I fun _ _ h => h
abbrev fPow : F2 := fI (fun i j => i ^ j.toNat) pOk
theorem op2_pow {K : PySem.W.Frag} : Op2 K (rI CPow fun i j => .int (i ^ j.toNat)) fPow := op2_I fun _ _ h => h
/-- ints, and a list or a tuple so often -/
def fMul : F2 := fun x y q => match x, y with
  | .int i, .int j => mOk i j ∧ q (.int (i * j))
  | .list xs, .int k => immL xs = true ∧ (-(2 ^ 63) ≤ k ∧ k < 2 ^ 63) ∧ xs.length * k.toNat ≤ sizeLine ∧ q (.list (List.replicate k.toNat xs).flatten)
  | _, _ => False
abbrev rMul2 : R2 := fun x y H Q => (rI mOk fun i j => .int (i * j)) x y H Q ∨ rRep x y H Q
theorem op_mul2 {X : Cx} : OpR X (binaryOp .Mult) rMul2 := op_mulM.or op_rep
theorem RpL.imm {K : PySem.W.Frag} {H : Hp} : ∀ {ds : List D} {vs : List V} {F : List Addr}, RpL K H ds vs F → immL ds = true → RpL K H ds vs [] := fun r e => by
  have h := r.imm0 e
  subst h
  exact r
theorem rep_rp {K : PySem.W.Frag} {H : Hp} {ds : List D} {vs : List V} (r : RpL K H ds vs []) : ∀ n : Nat, RpL K H (List.replicate n ds).flatten (List.replicate n vs).flatten []
  | 0 => .nil
  | n + 1 => by
    rw [List.replicate_succ, List.replicate_succ, List.flatten_cons, List.flatten_cons]
    exact r.app (rep_rp r n)
theorem op2_mul {K : PySem.W.Frag} : Op2 K rMul2 fMul := by
  intro x y v u F G H q Q rx ry hf k
  cases rx with
  | non => cases ry <;> exact hf.elim
  | bl b => cases ry <;> exact hf.elim
  | int i => cases ry with
    | int j => exact .inl ⟨_, _, rfl, rfl, hf.1, k _ _ [] H hf.2 .refl (fun _ h => h) (.int _) .nil⟩
    | _ => exact hf.elim
  | str i => cases ry <;> exact hf.elim
  | tup h r => cases ry <;> exact hf.elim
  | @lst a vs ds F0 h r => cases ry with
    | int j =>
      obtain ⟨e, ⟨l1, l2⟩, hz, hq⟩ := hf
      have r0 := r.imm e
      refine .inr ⟨_, _, _, rfl, rfl, h, l1, l2, by rw [r.len]; exact hz, fun p n => ?_⟩
      have rr := rep_rp r0 j.toNat
      refine k _ _ [p] _ hq (Fr.new n) upd_dom (fresh_lst n rr) ⟨fun a m => ?_, fun fl a m => ?_, fun fl => by simp⟩
      · rcases List.mem_cons.mp m with e | m
        · subst e; exact .inl n
        · cases m
      · rcases List.mem_cons.mp m with e | m
        · subst e; exact n
        · cases m
    | _ => exact hf.elim
  | fl h r => cases ry <;> exact hf.elim

/-! ### comparisons -/
abbrev fLt : F2 := fB fun i j => decide (i < j)
abbrev fLe : F2 := fB fun i j => decide (i ≤ j)
abbrev fGt : F2 := fB fun i j => decide (j < i)
abbrev fGe : F2 := fB fun i j => decide (j ≤ i)
theorem op2_lt {K : PySem.W.Frag} : Op2 K (rI0 fun i j => .bl (decide (i < j))) fLt := op2_B
theorem op2_le {K : PySem.W.Frag} : Op2 K (rI0 fun i j => .bl (decide (i ≤ j))) fLe := op2_B
theorem op2_gt {K : PySem.W.Frag} : Op2 K (rI0 fun i j => .bl (decide (j < i))) fGt := op2_B
theorem op2_ge {K : PySem.W.Frag} : Op2 K (rI0 fun i j => .bl (decide (j ≤ i))) fGe := op2_B
def fEq : F2 := fun x y q => x.sh = true ∧ y.sh = true ∧ q (.bool (x.eqv y))
def fNe : F2 := fun x y q => x.sh = true ∧ y.sh = true ∧ q (.bool (!x.eqv y))
theorem op2_eq {K : PySem.W.Frag} : Op2 K (rEqD K) fEq := fun x y v u F G H q Q rx ry hf k => ⟨x.p, y.p, rx.dp, ry.dp, hf.1, hf.2.1, k _ _ [] H hf.2.2 .refl (fun _ h => h) (.bl _) .nil⟩
theorem op2_ne {K : PySem.W.Frag} : Op2 K (rNeD K) fNe := fun x y v u F G H q Q rx ry hf k => ⟨x.p, y.p, rx.dp, ry.dp, hf.1, hf.2.1, k _ _ [] H hf.2.2 .refl (fun _ h => h) (.bl _) .nil⟩
def isNone : D → Bool
  | .none => true
  | _ => false
theorem rp_non {K : PySem.W.Frag} {H : Hp} {x : D} {v : V} {F : List Addr} (r : Rp K H x v F) : decide (v = .non) = isNone x := by
  cases r <;> rfl
def fIsN : F2 := fun x y q => y = .none ∧ q (.bool (isNone x))
def fNotN : F2 := fun x y q => y = .none ∧ q (.bool (!isNone x))
theorem op2_isN {K : PySem.W.Frag} : Op2 K (fun x y H Q => y = .non ∧ Q (.bl (decide (x = .non))) H) fIsN := fun x y v u F G H q Q rx ry hf k => by
  obtain ⟨e, hf⟩ := hf
  subst e
  cases ry
  refine ⟨rfl, ?_⟩
  rw [rp_non rx]
  exact k _ _ [] H hf .refl (fun _ h => h) (.bl _) .nil
theorem op2_notN {K : PySem.W.Frag} : Op2 K (fun x y H Q => y = .non ∧ Q (.bl (!decide (x = .non))) H) fNotN := fun x y v u F G H q Q rx ry hf k => by
  obtain ⟨e, hf⟩ := hf
  subst e
  cases ry
  refine ⟨rfl, ?_⟩
  rw [rp_non rx]
  exact k _ _ [] H hf .refl (fun _ h => h) (.bl _) .nil
def fIsB : F2 := fun x y q => match x, y with
  | .bool a, .bool b => q (.bool (decide (a = b)))
  | _, _ => False
def fNotB : F2 := fun x y q => match x, y with
  | .bool a, .bool b => q (.bool (!decide (a = b)))
  | _, _ => False
theorem op2_isB {K : PySem.W.Frag} : Op2 K (fun x y H Q => ∃ a b, x = .bl a ∧ y = .bl b ∧ Q (.bl (decide (a = b))) H) fIsB := by
  intro x y v u F G H q Q rx ry hf k
  cases x <;> cases y <;> first | exact hf.elim | skip
  cases rx; cases ry
  exact ⟨_, _, rfl, rfl, k _ _ [] H hf .refl (fun _ h => h) (.bl _) .nil⟩
theorem op2_notB {K : PySem.W.Frag} : Op2 K (fun x y H Q => ∃ a b, x = .bl a ∧ y = .bl b ∧ Q (.bl (!decide (a = b))) H) fNotB := by
  intro x y v u F G H q Q rx ry hf k
  cases x <;> cases y <;> first | exact hf.elim | skip
  cases rx; cases ry
  exact ⟨_, _, rfl, rfl, k _ _ [] H hf .refl (fun _ h => h) (.bl _) .nil⟩
/-! ### items -/
def fIx : F2 := fun x y q => match x, y with
  | .list xs, .int i => ∃ d, atI xs i = some d ∧ q d
  | .tuple xs, .int i => ∃ d, atI xs i = some d ∧ q d
  | .fl xs, .int i => ∃ d, atI xs i = some d ∧ q d
  | .str z, .int i => z.length ≤ sizeLine ∧ ∃ c, atI z.cps.toList i = some c ∧ q (.str ⟨#[c]⟩)
  | _, _ => False
theorem atI_rp {K : PySem.W.Frag} {H : Hp} {ds : List D} {vs : List V} {F : List Addr} {i : Int} {d : D} (r : RpL K H ds vs F) (e : atI ds i = some d) : ∃ v G, atI vs i = some v ∧ Rp K H d v G ∧ ∀ a ∈ G, a ∈ F := by
  unfold atI at e ⊢
  rw [r.len]
  cases h : ixN ds.length i with
  | none => rw [h] at e; cases e
  | some j =>
    rw [h] at e
    exact r.getD e
theorem op2_ix {K : PySem.W.Frag} : Op2A K (rIx K) fIx := by
  intro x y v u F G H q Q rx ry hf k
  cases rx with
  | non => cases ry <;> exact hf.elim
  | bl b => cases ry <;> exact hf.elim
  | int i => cases ry <;> exact hf.elim
  | str z => cases ry with
    | int i =>
      obtain ⟨hz, c, hc, hq⟩ := hf
      exact .inr (.inr ⟨_, _, c, rfl, rfl, hz, hc, k _ _ [] hq (.str _) (fun _ h => nomatch h)⟩)
    | _ => exact hf.elim
  | tup h r => cases ry with
    | int i =>
      obtain ⟨d, hd, hq⟩ := hf
      obtain ⟨w, G', e1, e2, e3⟩ := atI_rp r hd
      exact .inr (.inl ⟨_, _, _, w, rfl, rfl, h, e1, k d w G' hq e2 e3⟩)
    | _ => exact hf.elim
  | lst h r => cases ry with
    | int i =>
      obtain ⟨d, hd, hq⟩ := hf
      obtain ⟨w, G', e1, e2, e3⟩ := atI_rp r hd
      exact .inl ⟨_, _, _, w, rfl, rfl, SqL.of h, e1, k d w G' hq e2 fun a m => List.mem_cons_of_mem _ (e3 a m)⟩
    | _ => exact hf.elim
  | fl h r => cases ry with
    | int i =>
      obtain ⟨d, hd, hq⟩ := hf
      obtain ⟨w, G', e1, e2, e3⟩ := atI_rp r hd
      exact .inl ⟨_, _, _, w, rfl, rfl, h.sq, e1, k d w G' hq e2 e3⟩
    | _ => exact hf.elim
end L3

namespace L3
open PySem PySem.Spec PyProof.Rows L2

/-! ### tests -/
structure JW (C : FC) (e : Expr) (mod : List Nat) (w : WT) : Prop where
  pw : PW C.X e (rdT C mod w)
theorem JW.jt {C : FC} {e : Expr} {mod : List Nat} {w : WT} (h : JW C e mod w) : JT C e mod w := ⟨h.pw.pt⟩
def asB : D → (Bool → Prop) → Prop
  | .bool b, q => q b
  | _, _ => False
def wB (w : WE) : WT := fun ρ q E => w ρ (fun d ρ' => asB d fun b => q b ρ') E
def wtAnd (w u : WT) : WT := fun ρ q E => w ρ (fun b ρ1 => if b = true then u ρ1 q E else q false ρ1) E
def wtOr (w u : WT) : WT := fun ρ q E => w ρ (fun b ρ1 => if b = true then q true ρ1 else u ρ1 q E) E
def wtNot (w : WT) : WT := fun ρ q E => w ρ (fun b ρ1 => q (!b) ρ1) E
def wOfT (w : WT) : WE := fun ρ q E => w ρ (fun b ρ1 => q (.bool b) ρ1) E
def wIf (t : WT) (a b : WE) : WE := fun ρ q E => t ρ (fun c ρ1 => if c = true then a ρ1 q E else b ρ1 q E) E
theorem asB_rp {K : PySem.W.Frag} {H : Hp} {d : D} {v : V} {F : List Addr} {q : Bool → Prop} (r : Rp K H d v F) (h : asB d q) : ∃ b, d = .bool b ∧ v = .bl b ∧ q b := by
  cases r <;> first | exact h.elim | exact ⟨_, rfl, rfl, h⟩
section
variable {C : FC} {a b c : Expr} {rest : List Expr} {pos p p2 : Pos} {a0 a1 m1 b0 b1 m2 m3 : List Nat} {wa wb wc : WE} {ta tb tc : WT}
theorem valT_run {C : FC} {a0 a1 m1 : List Nat} {wa : WE} : ∀ σ H Q, rdT C m1 (wB wa) σ H Q → tB (rdE C a0 a1 m1 wa) σ H Q := by
  rintro σ H Q ⟨ρ, Fs, q, s, hw, k⟩
  refine ⟨ρ, Fs, _, s, hw, fun d ρ1 v F H1 Fs1 h1 s1 t1 r1 k1 => ?_⟩
  obtain ⟨b, rfl, rfl, h2⟩ := asB_rp r1 h1
  exact ⟨b, rfl, k b ρ1 H1 Fs1 h2 s1 t1⟩
theorem jt_val (h : JE C a a0 a1 m1 wa) (he : ∀ whole, isTrue a C.X.env whole = (do let v ← whole; standAt a.pos; holding [v] (truthy v)) := by intro _; rfl) : JT C a m1 (wB wa) := ⟨PT.imp (pt_val h.pe he) valT_run⟩
theorem jt_cmp {op : CmpOp} {r : R2} {f : F2} (hr : OpR C.X (compareOp op) r) (ho : Op2 C.K r f) (ha : JE C a a0 a1 m1 wa) (hb : JE C b b0 b1 m2 wb) (hm : behindInMarks op b = false) (d : dj (a0 ++ a1) m2 = true := by decide) :
    JT C (.Compare a [op] [b] pos) (m1 ++ m2) (wB (w2 f wa wb)) := by
  refine ⟨PT.imp (pt_cmpR hr ha.pe hb.pe hm) fun σ H Q h => ?_⟩
  obtain ⟨ρ, Fs, q, s, hw, k⟩ := h
  have z := bin_run (C := C) (a0 := a0) (a1 := a1) (m1 := m1) (b0 := b0) (b1 := b1) (m2 := m2) (wa := wa) (wb := wb) ho d σ H (fun x H' => ∃ k, x = .bl k ∧ Q k H') ⟨ρ, Fs, _, s, hw, fun d ρ1 v F H1 Fs1 h1 s1 t1 r1 k1 => ?_⟩
  · exact z
  · obtain ⟨b, rfl, rfl, h2⟩ := asB_rp r1 h1
    exact ⟨b, rfl, k b ρ1 H1 Fs1 h2 s1 t1⟩
theorem and_run {C : FC} {m1 m2 : List Nat} {ta tb : WT} : ∀ σ H Q, rdT C (m1 ++ m2) (wtAnd ta tb) σ H Q → tAnd (rdT C m1 ta) (rdT C m2 tb) σ H Q := by
  rintro σ H Q ⟨ρ, Fs, q, s, hw, k⟩
  refine ⟨ρ, Fs, _, s, hw, fun b ρ1 H1 Fs1 h1 s1 t1 => ?_⟩
  cases b with
  | true => exact ⟨ρ1, Fs1, _, s1, h1, fun b ρ2 H2 Fs2 h2 s2 t2 => k b ρ2 H2 Fs2 h2 s2 (t1.trans t2)⟩
  | false => exact k false ρ1 H1 Fs1 h1 s1 (t1.mono (by simp +contextual))
theorem or_run {C : FC} {m1 m2 : List Nat} {ta tb : WT} : ∀ σ H Q, rdT C (m1 ++ m2) (wtOr ta tb) σ H Q → tOr (rdT C m1 ta) (rdT C m2 tb) σ H Q := by
  rintro σ H Q ⟨ρ, Fs, q, s, hw, k⟩
  refine ⟨ρ, Fs, _, s, hw, fun b ρ1 H1 Fs1 h1 s1 t1 => ?_⟩
  cases b with
  | false => exact ⟨ρ1, Fs1, _, s1, h1, fun b ρ2 H2 Fs2 h2 s2 t2 => k b ρ2 H2 Fs2 h2 s2 (t1.trans t2)⟩
  | true => exact k true ρ1 H1 Fs1 h1 s1 (t1.mono (by simp +contextual))
theorem jw_and1 (h : JT C a m1 ta) : JW C (.BoolOp .And [a] pos) m1 ta := ⟨pw_and1 h.pt⟩
theorem jw_or1 (h : JT C a m1 ta) : JW C (.BoolOp .Or [a] pos) m1 ta := ⟨pw_or1 h.pt⟩
theorem jw_and (h : JT C a m1 ta) (h' : JW C (.BoolOp .And (b :: rest) pos) m2 tb) : JW C (.BoolOp .And (a :: b :: rest) pos) (m1 ++ m2) (wtAnd ta tb) := ⟨PW.imp (pw_and h.pt h'.pw) and_run⟩
theorem jw_or (h : JT C a m1 ta) (h' : JW C (.BoolOp .Or (b :: rest) pos) m2 tb) : JW C (.BoolOp .Or (a :: b :: rest) pos) (m1 ++ m2) (wtOr ta tb) := ⟨PW.imp (pw_or h.pt h'.pw) or_run⟩
theorem jt_not (h : JT C a m1 ta) : JT C (.UnaryOp .Not a pos) m1 (wtNot ta) := ⟨PT.imp (pt_not h.pt) fun σ H Q ⟨ρ, Fs, q, s, hw, k⟩ => ⟨ρ, Fs, _, s, hw, fun b ρ1 H1 Fs1 h1 s1 t1 => k (!b) ρ1 H1 Fs1 h1 s1 t1⟩⟩
/-- as values -/
theorem je_one {op} (h : JE C a a0 a1 m1 wa) : JE C (.BoolOp op [a] pos) a0 a1 m1 wa := ⟨pe_one h.pe⟩
def wAndV (wa wb : WE) : WE := fun ρ q E => wa ρ (fun d ρ1 => asB d fun c => if c = true then wb ρ1 q E else q (.bool false) ρ1) E
def wOrV (wa wb : WE) : WE := fun ρ q E => wa ρ (fun d ρ1 => asB d fun c => if c = true then q (.bool true) ρ1 else wb ρ1 q E) E
def wNotV (wa : WE) : WE := fun ρ q E => wa ρ (fun d ρ1 => asB d fun c => q (.bool (!c)) ρ1) E
theorem res_after {C : FC} {b0 b1 m1 : List Nat} {ρ ρ1 : Rho} {Fs Fs1 Fs2 : Nat → List Addr} {H H1 : Hp} {d : D} {F : List Addr} (t : Stp m1 ρ Fs H ρ1 Fs1 H1) (k : Res b0 b1 H1 Fs2 d F) : Res b0 b1 H Fs2 d F :=
  ⟨fun a m => (k.ali a m).imp (fun z => ⟨t.dom a z.1, z.2⟩) id, fun e f a m => ⟨t.dom a (k.shl e f a m).1, (k.shl e f a m).2⟩, k.nd⟩
theorem je_and (h : JE C a a0 a1 m1 wa) (h' : JE C (.BoolOp .And (b :: rest) pos) b0 b1 m2 wb) : JE C (.BoolOp .And (a :: b :: rest) pos) b0 b1 (m1 ++ m2) (wAndV wa wb) := by
  refine ⟨PE.imp (pe_and h.pe h'.pe) ?_⟩
  rintro σ H Q ⟨ρ, Fs, q, s, hw, k⟩
  refine ⟨ρ, Fs, _, s, hw, fun d ρ1 v F H1 Fs1 h1 s1 t1 r1 k1 => ?_⟩
  obtain ⟨c, rfl, rfl, h2⟩ := asB_rp r1 h1
  refine ⟨c, rfl, ?_⟩
  cases c with
  | true => exact ⟨ρ1, Fs1, _, s1, h2, fun d ρ2 v F H2 Fs2 h2 s2 t2 r2 k2 => k d ρ2 v F H2 Fs2 h2 s2 (t1.trans t2) r2 (res_after (C := C) t1 k2)⟩
  | false => exact k _ ρ1 _ [] H1 Fs1 h2 s1 (t1.mono (by simp +contextual)) (.bl false) .nil
theorem je_or (h : JE C a a0 a1 m1 wa) (h' : JE C (.BoolOp .Or (b :: rest) pos) b0 b1 m2 wb) : JE C (.BoolOp .Or (a :: b :: rest) pos) b0 b1 (m1 ++ m2) (wOrV wa wb) := by
  refine ⟨PE.imp (pe_or h.pe h'.pe) ?_⟩
  rintro σ H Q ⟨ρ, Fs, q, s, hw, k⟩
  refine ⟨ρ, Fs, _, s, hw, fun d ρ1 v F H1 Fs1 h1 s1 t1 r1 k1 => ?_⟩
  obtain ⟨c, rfl, rfl, h2⟩ := asB_rp r1 h1
  refine ⟨c, rfl, ?_⟩
  cases c with
  | false => exact ⟨ρ1, Fs1, _, s1, h2, fun d ρ2 v F H2 Fs2 h2 s2 t2 r2 k2 => k d ρ2 v F H2 Fs2 h2 s2 (t1.trans t2) r2 (res_after (C := C) t1 k2)⟩
  | true => exact k _ ρ1 _ [] H1 Fs1 h2 s1 (t1.mono (by simp +contextual)) (.bl true) .nil
theorem je_not (h : JE C a a0 a1 m1 wa) : JE C (.UnaryOp .Not a pos) [] [] m1 (wNotV wa) := by
  refine ⟨PE.imp (pe_not h.pe) ?_⟩
  rintro σ H Q ⟨ρ, Fs, q, s, hw, k⟩
  refine ⟨ρ, Fs, _, s, hw, fun d ρ1 v F H1 Fs1 h1 s1 t1 r1 k1 => ?_⟩
  obtain ⟨c, rfl, rfl, h2⟩ := asB_rp r1 h1
  exact ⟨c, rfl, k _ ρ1 _ [] H1 Fs1 h2 s1 t1 (.bl _) .nil⟩
theorem je_if (ht : JT C c m1 tc) (ha : JE C a a0 a1 m2 wa) (hb : JE C b b0 b1 m3 wb) : JE C (.IfExp c a b pos) (a0 ++ b0) (a1 ++ b1) (m1 ++ (m2 ++ m3)) (wIf tc wa wb) := by
  refine ⟨PE.imp (pe_ifExp ht.pt (ha.mono (a' := a0 ++ b0) (b' := a1 ++ b1) (m' := m2 ++ m3) (by simp +contextual) (by simp +contextual) (by simp +contextual)).pe (hb.mono (a' := a0 ++ b0) (b' := a1 ++ b1) (m' := m2 ++ m3) (by simp +contextual) (by simp +contextual) (by simp +contextual)).pe) ?_⟩
  rintro σ H Q ⟨ρ, Fs, q, s, hw, k⟩
  refine ⟨ρ, Fs, _, s, hw, fun c ρ1 H1 Fs1 h1 s1 t1 => ?_⟩
  cases c with
  | true => exact ⟨ρ1, Fs1, _, s1, h1, fun d ρ2 v F H2 Fs2 h2 s2 t2 r2 k2 => k d ρ2 v F H2 Fs2 h2 s2 (t1.trans t2) r2 (res_after (C := C) t1 k2)⟩
  | false => exact ⟨ρ1, Fs1, _, s1, h1, fun d ρ2 v F H2 Fs2 h2 s2 t2 r2 k2 => k d ρ2 v F H2 Fs2 h2 s2 (t1.trans t2) r2 (res_after (C := C) t1 k2)⟩
def wNeg (wa : WE) : WE := fun ρ q E => wa ρ (fun d ρ1 => match d with | .int i => q (.int (-i)) ρ1 | _ => False) E
theorem je_neg (h : JE C a a0 a1 m1 wa) : JE C (.UnaryOp .USub a pos) [] [] m1 (wNeg wa) := by
  refine ⟨PE.imp (pe_un un_neg h.pe) ?_⟩
  rintro σ H Q ⟨ρ, Fs, q, s, hw, k⟩
  refine ⟨ρ, Fs, _, s, hw, fun d ρ1 v F H1 Fs1 h1 s1 t1 r1 k1 => ?_⟩
  cases r1 <;> first | exact h1.elim | skip
  exact ⟨_, rfl, k _ ρ1 _ [] H1 Fs1 h1 s1 t1 (.int _) .nil⟩
end
end L3

namespace L3
open PySem PySem.Spec PyProof.Rows L2

/-! ### a < b < c -/
def wChain (g g' : Int → Int → Bool) (wa wb wc : WE) : WE := fun ρ q E => wa ρ (fun x ρ1 => wb ρ1 (fun y ρ2 => match x, y with
  | .int i, .int j => if g i j = true then wc ρ2 (fun u ρ3 => match u with | .int l => q (.bool (g' j l)) ρ3 | _ => False) E else q (.bool false) ρ2
  | _, _ => False) E) E
section
variable {C : FC} {a b c : Expr} {pos : Pos} {a0 a1 m1 b0 b1 m2 c0 c1 m3 : List Nat} {wa wb wc : WE}
theorem chain_run {g g' : Int → Int → Bool} :
    ∀ σ H Q, rdE C [] [] (m1 ++ (m2 ++ m3)) (wChain g g' wa wb wc) σ H Q → tChain (rI0 fun i j => .bl (g i j)) (rI0 fun i j => .bl (g' i j)) (rdE C a0 a1 m1 wa) (rdE C b0 b1 m2 wb) (rdE C c0 c1 m3 wc) σ H Q := by
  rintro σ H Q ⟨ρ, Fs, q, s, hw, k⟩
  refine ⟨ρ, Fs, _, s, hw, fun x ρ1 v F H1 Fs1 h1 s1 t1 r1 k1 => ⟨ρ1, Fs1, _, s1, h1, fun y ρ2 u G H2 Fs2 h2 s2 t2 r2 k2 => ?_⟩⟩
  cases x <;> cases y <;> first | exact h2.elim | skip
  cases r1; cases r2
  have t12 := t1.trans t2
  refine ⟨_, _, rfl, rfl, _, rfl, ?_⟩
  rename_i i j
  have h2 : if g i j = true then wc ρ2 (fun u ρ3 => match u with | .int l => q (.bool (g' j l)) ρ3 | _ => False) C.EX else q (.bool false) ρ2 := h2
  cases e : g i j with
  | false =>
    rw [e] at h2
    exact k _ ρ2 _ [] H2 Fs2 h2 s2 (t12.mono (by simp +contextual [or_imp])) (.bl false) .nil
  | true =>
    rw [e] at h2
    refine ⟨ρ2, Fs2, _, s2, h2, fun u' ρ3 v3 F3 H3 Fs3 h3 s3 t3 r3 k3 => ?_⟩
    cases r3 <;> first | exact h3.elim | skip
    exact ⟨_, _, rfl, rfl, k _ ρ3 _ [] H3 Fs3 h3 s3 ((t12.trans t3).mono (by simp +contextual [or_imp])) (.bl _) .nil⟩
theorem je_chain {op op' : CmpOp} {g g' : Int → Int → Bool} (ho : OpR C.X (compareOp op) (rI0 fun i j => .bl (g i j))) (ho' : OpR C.X (compareOp op') (rI0 fun i j => .bl (g' i j))) (ha : JE C a a0 a1 m1 wa) (hb : JE C b b0 b1 m2 wb) (hc : JE C c c0 c1 m3 wc)
    (hm : lastMarks [op, op'] [b, c] = false := by with_unfolding_all rfl) : JE C (.Compare a [op, op'] [b, c] pos) [] [] (m1 ++ (m2 ++ m3)) (wChain g g' wa wb wc) :=
  ⟨PE.imp (pe_chain ho ho' ha.pe hb.pe hc.pe hm) chain_run⟩
theorem jt_chain {op op' : CmpOp} {g g' : Int → Int → Bool} (ho : OpR C.X (compareOp op) (rI0 fun i j => .bl (g i j))) (ho' : OpR C.X (compareOp op') (rI0 fun i j => .bl (g' i j))) (ha : JE C a a0 a1 m1 wa) (hb : JE C b b0 b1 m2 wb) (hc : JE C c c0 c1 m3 wc)
    (hm : lastMarks [op, op'] [b, c] = false := by with_unfolding_all rfl) : JT C (.Compare a [op, op'] [b, c] pos) (m1 ++ (m2 ++ m3)) (wB (wChain g g' wa wb wc)) := by
  refine ⟨PT.imp (pt_chain ho ho' ha.pe hb.pe hc.pe hm) fun σ H Q h => ?_⟩
  obtain ⟨ρ, Fs, q, s, hw, k⟩ := h
  refine chain_run σ H (fun x H' => ∃ k, x = .bl k ∧ Q k H') ⟨ρ, Fs, _, s, hw, fun d ρ1 v F H1 Fs1 h1 s1 t1 r1 k1 => ?_⟩
  obtain ⟨b, rfl, rfl, h2⟩ := asB_rp r1 h1
  exact ⟨b, rfl, k b ρ1 H1 Fs1 h2 s1 t1⟩
end

/-! ### arguments -/
inductive AK where
  | tmp (n0 n1 : List Nat) | pl (i : Nat)
def AK.ns : AK → List Nat
  | .tmp a b => a ++ b
  | .pl i => []
/-- how the arguments lie behind them all -/
def ArgR (C : FC) (H H' : Hp) (Fs' : Nat → List Addr) (σ : L2.St) (ρ' : Rho) : List AK → List D → List V → List (List Addr) → Prop
  | [], [], [], [] => True
  | .tmp n0 n1 :: ks, d :: ds, v :: vs, F :: Fa => Rp C.K H' d v F ∧ Res n0 n1 H Fs' d F ∧ ArgR C H H' Fs' σ ρ' ks ds vs Fa
  | .pl i :: ks, d :: ds, v :: vs, F :: Fa => (σ[i]? = some (some v) ∧ (∃ s, ρ'[i]? = some s ∧ s.get = some d) ∧ Rp C.K H' d v F ∧ F = Fs' i) ∧ ArgR C H H' Fs' σ ρ' ks ds vs Fa
  | _, _, _, _ => False
def allNew : List AK → Bool
  | [] => true
  | .tmp [] [] :: ks => allNew ks
  | _ => false
def rdA (C : FC) (ks : List AK) (mod : List Nat) (w : WA) : TA := fun σ H Q => ∃ ρ Fs q, SR C ρ Fs σ H ∧ w ρ q C.EX ∧
  ∀ ds ρ' vs Fa H' Fs', q ds ρ' → SR C ρ' Fs' σ H' → Stp mod ρ Fs H ρ' Fs' H' → ArgR C H H' Fs' σ ρ' ks ds vs Fa → (allNew ks = true → Fa.flatten.Nodup) → Q vs H'
structure JA (C : FC) (es : List Expr) (ks : List AK) (mod : List Nat) (w : WA) : Prop where
  pa : PA C.X es (rdA C ks mod w)
def waNil : WA := fun ρ q _ => q [] ρ
def waCons (wa : WE) (wr : WA) : WA := fun ρ q E => wa ρ (fun x ρ1 => wr ρ1 (fun xs ρ2 => q (x :: xs) ρ2) E) E
def hasV (ρ : Rho) (i : Nat) : Prop := match ρ[i]? with
  | some s => s.get.isSome = true
  | none => False
def waPl (i : Nat) (wr : WA) : WA := fun ρ q E => hasV ρ i ∧ wr ρ (fun xs ρ2 => match ρ2[i]? with
  | some s => (match s.get with | some d => q (d :: xs) ρ2 | none => False)
  | none => False) E
theorem res_keep {C : FC} {a0 a1 m2 : List Nat} {ρ1 ρ2 : Rho} {Fs1 Fs2 : Nat → List Addr} {σ : L2.St} {H H1 H2 : Hp} {x : D} {v : V} {F : List Addr}
    (s1 : SR C ρ1 Fs1 σ H1) (st : Stp m2 ρ1 Fs1 H1 ρ2 Fs2 H2) (r : Rp C.K H1 x v F) (k : Res a0 a1 H Fs1 x F) (dj : ∀ i ∈ a0 ++ a1, i ∉ m2) : Res a0 a1 H Fs2 x F :=
  ⟨(keep2 s1 st r k dj).2, fun e f a m => by
    refine ⟨(k.shl e f a m).1, fun i hi => ?_⟩
    obtain ⟨vs, ht⟩ := r.trk a m
    rcases st.src i a hi with z | ⟨j, hj⟩
    · rw [ht] at z; cases z
    · exact (k.shl e f a m).2 j hj, k.nd⟩
section
variable {C : FC} {a b c : Expr} {es : List Expr} {pos p p2 : Pos} {a0 a1 m1 b0 b1 m2 m3 : List Nat} {wa wb wc : WE} {wr : WA} {ks : List AK}
theorem ja_nil : JA C [] [] [] waNil := ⟨PA.imp pa_nil fun σ H Q ⟨ρ, Fs, q, s, hw, k⟩ => k [] ρ [] [] H Fs hw s .refl trivial fun _ => List.nodup_nil⟩
theorem argR_after {C : FC} {m1 : List Nat} {ρ ρ1 ρ' : Rho} {Fs Fs1 Fs' : Nat → List Addr} {σ : L2.St} {H H1 H' : Hp} (t : Stp m1 ρ Fs H ρ1 Fs1 H1) : ∀ {ks : List AK} {ds : List D} {vs : List V} {Fa : List (List Addr)}, ArgR C H1 H' Fs' σ ρ' ks ds vs Fa → ArgR C H H' Fs' σ ρ' ks ds vs Fa
  | [], [], [], [], h => h
  | .tmp n0 n1 :: ks, d :: ds, v :: vs, F :: Fa, h => ⟨h.1, res_after (C := C) t h.2.1, argR_after t h.2.2⟩
  | .pl i :: ks, d :: ds, v :: vs, F :: Fa, h => ⟨h.1, argR_after t h.2⟩
  | [], _ :: _, _, _, h => h.elim
  | [], [], _ :: _, _, h => h.elim
  | [], [], [], _ :: _, h => h.elim
  | .tmp _ _ :: _, [], _, _, h => h.elim
  | .tmp _ _ :: _, _ :: _, [], _, h => h.elim
  | .tmp _ _ :: _, _ :: _, _ :: _, [], h => h.elim
  | .pl _ :: _, [], _, _, h => h.elim
  | .pl _ :: _, _ :: _, [], _, h => h.elim
  | .pl _ :: _, _ :: _, _ :: _, [], h => h.elim
theorem argR_new {C : FC} {H H' : Hp} {Fs' : Nat → List Addr} {σ : L2.St} {ρ' : Rho} : ∀ {ks : List AK} {ds : List D} {vs : List V} {Fa : List (List Addr)}, ArgR C H H' Fs' σ ρ' ks ds vs Fa → allNew ks = true → ∀ a ∈ Fa.flatten, H a = none
  | [], [], [], [], _, _, a, m => by simp at m
  | .tmp n0 n1 :: ks, d :: ds, v :: vs, F :: Fa, h, e, a, m => by
    cases n0 with
    | cons _ _ => simp [allNew] at e
    | nil => cases n1 with
      | cons _ _ => simp [allNew] at e
      | nil =>
        rw [List.flatten_cons] at m
        rcases List.mem_append.mp m with m | m
        · rcases h.2.1.ali a m with z | ⟨i, hi, _⟩
          · exact z.1
          · simp at hi
        · exact argR_new h.2.2 (by simpa [allNew] using e) a m
  | .pl i :: ks, _, _, _, h, e, a, m => by simp [allNew] at e
  | [], _ :: _, _, _, h, _, _, _ => h.elim
  | [], [], _ :: _, _, h, _, _, _ => h.elim
  | [], [], [], _ :: _, h, _, _, _ => h.elim
  | .tmp _ _ :: _, [], _, _, h, _, _, _ => h.elim
  | .tmp _ _ :: _, _ :: _, [], _, h, _, _, _ => h.elim
  | .tmp _ _ :: _, _ :: _, _ :: _, [], h, _, _, _ => h.elim
theorem ja_cons (h : JE C a a0 a1 m1 wa) (hr : JA C es ks m2 wr) (d : dj (a0 ++ a1) m2 = true := by decide) (hs : starEach (a :: es) C.X.env = (false, eval a C.X.env) :: starEach es C.X.env := by rfl) :
    JA C (a :: es) (.tmp a0 a1 :: ks) (m1 ++ m2) (waCons wa wr) := by
  refine ⟨PA.imp (pa_cons h.pe hr.pa hs) ?_⟩
  rintro σ H Q ⟨ρ, Fs, q, s, hw, k⟩
  refine ⟨ρ, Fs, _, s, hw, fun x ρ1 v F H1 Fs1 h1 s1 t1 r1 k1 => ⟨ρ1, Fs1, _, s1, h1, fun ds ρ2 vs Fa H2 Fs2 h2 s2 t2 r2 n2 => ?_⟩⟩
  refine k (x :: ds) ρ2 (v :: vs) (F :: Fa) H2 Fs2 h2 s2 (t1.trans t2) ⟨(keep2 s1 t2 r1 k1 (dj_ok d)).1, res_keep s1 t2 r1 k1 (dj_ok d), argR_after t1 r2⟩ fun e => ?_
  cases a0 with
  | cons _ _ => simp [allNew] at e
  | nil => cases a1 with
    | cons _ _ => simp [allNew] at e
    | nil =>
      have e' : allNew ks = true := by simpa [allNew] using e
      rw [List.flatten_cons, List.nodup_append]
      refine ⟨k1.nd rfl (.inl rfl), n2 e', fun a ha b hb z => ?_⟩
      subst z
      obtain ⟨vs, ht⟩ := r1.trk a ha
      rw [argR_new r2 e' a hb] at ht
      cases ht
theorem ja_pl {i : Nat} {x : Str} (hr : JA C es ks m2 wr) (hN : C.X.N[i]? = some x) (hv : Vis C.X.env.scope x) (hs : starEach (.Name x p :: es) C.X.env = (false, eval (.Name x p) C.X.env) :: starEach es C.X.env := by rfl) (hd : (x == ("__debug__" : Str)) = false := by decide) (hcd : (x == ("__classdict__" : Str)) = false := by decide) :
    JA C (.Name x p :: es) (.pl i :: ks) m2 (waPl i wr) := by
  refine ⟨PA.imp (pa_cons (pe_var hN hv hd hcd) hr.pa hs) ?_⟩
  rintro σ H Q ⟨ρ, Fs, q, s, hw, k⟩
  obtain ⟨h0, hw⟩ := hw
  have hv : ∃ v, σ[i]? = some (some v) := by
    unfold hasV at h0
    cases e : ρ[i]? with
    | none => rw [e] at h0; exact h0.elim
    | some t =>
      simp only [e] at h0
      obtain ⟨d, g⟩ := Option.isSome_iff_exists.mp h0
      obtain ⟨v, hv, _⟩ := s.val e g
      exact ⟨v, hv⟩
  obtain ⟨v, hv⟩ := hv
  refine ⟨v, hv, ρ, Fs, _, s, hw, fun ds ρ2 vs Fa H2 Fs2 h2 s2 t2 r2 n2 => ?_⟩
  cases e : ρ2[i]? with
  | none => simp only [e] at h2
  | some t =>
    simp only [e] at h2
    cases g : t.get with
    | none => simp only [g] at h2
    | some d =>
      simp only [g] at h2
      obtain ⟨v', h1, hr⟩ := s2.val e g
      rw [hv] at h1
      cases h1
      exact k (d :: ds) ρ2 (v :: vs) (Fs2 i :: Fa) H2 Fs2 h2 s2 t2 ⟨⟨hv, ⟨t, e, g⟩, hr, rfl⟩, r2⟩ fun e => by simp [allNew] at e
end
end L3

namespace L3
open PySem PySem.Spec PyProof.Rows L2

def AK.all : AK → List Nat
  | .tmp a b => a ++ b
  | .pl i => [i]
def ksNs : List AK → List Nat
  | [] => []
  | k :: ks => k.all ++ ksNs ks
theorem ksNs_new : ∀ {ks : List AK}, ksNs ks = [] → allNew ks = true
  | [], _ => rfl
  | .tmp [] [] :: ks, h => by
    have : ksNs ks = [] := by simpa [ksNs, AK.all] using h
    simpa [allNew] using ksNs_new this
  | .tmp (_ :: _) _ :: ks, h => by simp [ksNs, AK.all] at h
  | .tmp [] (_ :: _) :: ks, h => by simp [ksNs, AK.all] at h
  | .pl i :: ks, h => by simp [ksNs, AK.all] at h
theorem argR_rpl {C : FC} {H H' : Hp} {Fs' : Nat → List Addr} {σ : L2.St} {ρ' : Rho} : ∀ {ks : List AK} {ds : List D} {vs : List V} {Fa : List (List Addr)}, ArgR C H H' Fs' σ ρ' ks ds vs Fa → RpL C.K H' ds vs Fa.flatten
  | [], [], [], [], _ => .nil
  | .tmp n0 n1 :: ks, d :: ds, v :: vs, F :: Fa, h => by rw [List.flatten_cons]; exact .cons h.1 (argR_rpl h.2.2)
  | .pl i :: ks, d :: ds, v :: vs, F :: Fa, h => by rw [List.flatten_cons]; exact .cons h.1.2.2.1 (argR_rpl h.2)
  | [], _ :: _, _, _, h => h.elim
  | [], [], _ :: _, _, h => h.elim
  | [], [], [], _ :: _, h => h.elim
  | .tmp _ _ :: _, [], _, _, h => h.elim
  | .tmp _ _ :: _, _ :: _, [], _, h => h.elim
  | .tmp _ _ :: _, _ :: _, _ :: _, [], h => h.elim
  | .pl _ :: _, [], _, _, h => h.elim
  | .pl _ :: _, _ :: _, [], _, h => h.elim
  | .pl _ :: _, _ :: _, _ :: _, [], h => h.elim
theorem argR_ali {C : FC} {H H' : Hp} {Fs' : Nat → List Addr} {σ : L2.St} {ρ' : Rho} : ∀ {ks : List AK} {ds : List D} {vs : List V} {Fa : List (List Addr)}, ArgR C H H' Fs' σ ρ' ks ds vs Fa →
    ∀ a ∈ Fa.flatten, (H a = none ∧ ∀ i, a ∉ Fs' i) ∨ ∃ i ∈ ksNs ks, a ∈ Fs' i
  | [], [], [], [], _, a, m => by simp at m
  | .tmp n0 n1 :: ks, d :: ds, v :: vs, F :: Fa, h, a, m => by
    rw [List.flatten_cons] at m
    rcases List.mem_append.mp m with m | m
    · exact (h.2.1.ali a m).imp id fun ⟨i, hi, z⟩ => ⟨i, List.mem_append_left _ hi, z⟩
    · exact (argR_ali h.2.2 a m).imp id fun ⟨i, hi, z⟩ => ⟨i, List.mem_append_right _ hi, z⟩
  | .pl i :: ks, d :: ds, v :: vs, F :: Fa, h, a, m => by
    rw [List.flatten_cons] at m
    rcases List.mem_append.mp m with m | m
    · exact .inr ⟨i, List.mem_append_left _ (by simp [AK.all]), by rw [← h.1.2.2.2]; exact m⟩
    · exact (argR_ali h.2 a m).imp id fun ⟨i, hi, z⟩ => ⟨i, List.mem_append_right _ hi, z⟩
  | [], _ :: _, _, _, h, _, _ => h.elim
  | [], [], _ :: _, _, h, _, _ => h.elim
  | [], [], [], _ :: _, h, _, _ => h.elim
  | .tmp _ _ :: _, [], _, _, h, _, _ => h.elim
  | .tmp _ _ :: _, _ :: _, [], _, h, _, _ => h.elim
  | .tmp _ _ :: _, _ :: _, _ :: _, [], h, _, _ => h.elim
  | .pl _ :: _, [], _, _, h, _, _ => h.elim
  | .pl _ :: _, _ :: _, [], _, h, _, _ => h.elim
  | .pl _ :: _, _ :: _, _ :: _, [], h, _, _ => h.elim
/-- what is new to the heap lies in no slot -/
theorem SR.notIn {C : FC} {ρ : Rho} {Fs : Nat → List Addr} {σ : L2.St} {H : Hp} (s : SR C ρ Fs σ H) {a : Addr} (n : H a = none) : ∀ i, a ∉ Fs i := fun i hi => by
  obtain ⟨u, hu, _⟩ := s.trk hi
  rw [hu] at n; cases n
def wTup (wr : WA) : WE := fun ρ q E => wr ρ (fun ds ρ1 => ds.length ≤ sizeLine ∧ q (.tuple ds) ρ1) E
def wLst (wr : WA) : WE := fun ρ q E => wr ρ (fun ds ρ1 => ds.length ≤ sizeLine ∧ q (.list ds) ρ1) E
section
variable {C : FC} {a b c : Expr} {es : List Expr} {pos p p2 : Pos} {a0 a1 m1 b0 b1 m2 m3 : List Nat} {wa wb wc : WE} {wr : WA} {ks : List AK}
theorem je_tup {x1} (h : JA C es ks m1 wr) : JE C (.Tuple es x1 pos) [] (ksNs ks) m1 (wTup wr) := by
  refine ⟨PE.imp (pe_tup h.pa) ?_⟩
  rintro σ H Q ⟨ρ, Fs, q, s, hw, k⟩
  refine ⟨ρ, Fs, _, s, hw, fun ds ρ1 vs Fa H1 Fs1 h1 s1 t1 r1 n1 => ?_⟩
  have rr := argR_rpl r1
  refine ⟨by rw [rr.len]; exact h1.1, fun p n => ?_⟩
  have hr := fresh_tup (vs := vs) n rr
  refine k _ ρ1 _ _ _ Fs1 h1.2 (s1.new (Fr.new n) upd_dom) ((t1.trans (Stp.new (Fr.new n) upd_dom)).mono (by simp)) hr ⟨fun a m => ?_, fun _ fl a m => ?_, fun _ e => ?_⟩
  · exact (argR_ali r1 a m).imp id fun ⟨i, hi, z⟩ => ⟨i, by simpa using hi, z⟩
  · rw [hr.imm0 fl] at m; cases m
  · rcases e with e | fl
    · exact n1 (ksNs_new e)
    · rw [hr.imm0 fl]; exact List.nodup_nil
theorem je_lst (h : JA C es ks m1 wr) : JE C (.List es pos) [] (ksNs ks) m1 (wLst wr) := by
  refine ⟨PE.imp (pe_lst h.pa) ?_⟩
  rintro σ H Q ⟨ρ, Fs, q, s, hw, k⟩
  refine ⟨ρ, Fs, _, s, hw, fun ds ρ1 vs Fa H1 Fs1 h1 s1 t1 r1 n1 => ?_⟩
  have rr := argR_rpl r1
  refine ⟨by rw [rr.len]; exact h1.1, fun p n => ?_⟩
  have hp : H p = none ∧ ∀ i, p ∉ Fs1 i := ⟨t1.dom p n, s1.notIn n⟩
  have np : p ∉ Fa.flatten := fun z => by
    obtain ⟨us, ht⟩ := rr.trk p z
    rw [n] at ht; cases ht
  refine k _ ρ1 _ _ _ Fs1 h1.2 (s1.new (Fr.new n) upd_dom) ((t1.trans (Stp.new (Fr.new n) upd_dom)).mono (by simp)) (fresh_lst (vs := vs) n rr) ⟨fun a m => ?_, fun _ fl a m => ?_, fun _ e => ?_⟩
  · rcases List.mem_cons.mp m with z | m
    · subst z; exact .inl hp
    · exact (argR_ali r1 a m).imp id fun ⟨i, hi, z⟩ => ⟨i, by simpa using hi, z⟩
  · rw [rr.imm0 fl] at m
    rcases List.mem_cons.mp m with z | m
    · subst z; exact hp
    · cases m
  · rcases e with e | fl
    · exact List.nodup_cons.mpr ⟨np, n1 (ksNs_new e)⟩
    · rw [rr.imm0 fl]; simp
end

/-! ### promises of defs by values -/
/-- the def answers q, or raises as x says (by the class's name) -/
abbrev FS := List D → (D → Prop) → (Str → Prop) → Prop
def ArgF (K : PySem.W.Frag) (H : Hp) : List D → List V → List (List Addr) → Prop
  | [], [], [] => True
  | d :: ds, v :: vs, F :: Fa => Rp K H d v F ∧ ArgF K H ds vs Fa
  | _, _, _ => False
/-- a def that changes none of its arguments; al: the arguments whose lists the answer may share -/
def SpP (K : PySem.W.Frag) (mg : Str → Option Value) (np : Nat) (al : List Nat) (S : FS) : Sp := fun vs H Q E => ∃ ds Fa q x, ds.length = np ∧ ArgF K H ds vs Fa ∧ S ds q x ∧
  (∀ r v F H', q r → Fr (fun _ => False) H H' → (∀ a, H' a = none → H a = none) → Rp K H' r v F → (∀ a ∈ F, H a = none ∨ ∃ i ∈ al, a ∈ Fa.getD i []) → (al = [] → F.Nodup) → Q v H') ∧
  (∀ n H' cls, x n → Fr (fun _ => False) H H' → (∀ a, H' a = none → H a = none) → mg n = some cls → E cls none H')
abbrev FSH := D → List D → (D → D → Prop) → (Str → D → Prop) → Prop
/-- a def that changes its first argument, a list -/
def SpH (K : PySem.W.Frag) (mg : Str → Option Value) (np : Nat) (al : List Nat) (S : FSH) : Sp := fun vs H Q E => ∃ h v0 F0 ds vr Fa q x, vs = v0 :: vr ∧ ds.length = np ∧ Rp K H h v0 F0 ∧ F0.Nodup ∧ ArgF K H ds vr Fa ∧ (∀ a ∈ F0, ∀ F ∈ Fa, a ∉ F) ∧ S h ds q x ∧
  (∀ r h' v F F' H', q r h' → Fr (fun a => a ∈ F0) H H' → (∀ a, H' a = none → H a = none) → Rp K H' h' v0 F' → F'.Nodup → (∀ a ∈ F', a ∈ F0 ∨ H a = none) → Rp K H' r v F →
    (∀ a ∈ F, (H a = none ∧ a ∉ F') ∨ ∃ i ∈ al, a ∈ Fa.getD i []) → (al = [] → F.Nodup) → Q v H') ∧
  (∀ n h' F' H' cls, x n h' → Fr (fun a => a ∈ F0) H H' → (∀ a, H' a = none → H a = none) → Rp K H' h' v0 F' → F'.Nodup → (∀ a ∈ F', a ∈ F0 ∨ H a = none) → mg n = some cls → E cls none H')
theorem ArgF.len {K : PySem.W.Frag} {H : Hp} : ∀ {ds : List D} {vs : List V} {Fa : List (List Addr)}, ArgF K H ds vs Fa → vs.length = ds.length
  | [], [], [], _ => rfl
  | _ :: _, _ :: _, _ :: _, h => by simp [ArgF.len h.2]
  | [], _ :: _, _, h => h.elim
  | [], [], _ :: _, h => h.elim
  | _ :: _, [], _, h => h.elim
  | _ :: _, _ :: _, [], h => h.elim
theorem argR_argF {C : FC} {H H' : Hp} {Fs' : Nat → List Addr} {σ : L2.St} {ρ' : Rho} : ∀ {ks : List AK} {ds : List D} {vs : List V} {Fa : List (List Addr)}, ArgR C H H' Fs' σ ρ' ks ds vs Fa → ArgF C.K H' ds vs Fa
  | [], [], [], [], _ => trivial
  | .tmp n0 n1 :: ks, d :: ds, v :: vs, F :: Fa, h => ⟨h.1, argR_argF h.2.2⟩
  | .pl i :: ks, d :: ds, v :: vs, F :: Fa, h => ⟨h.1.2.2.1, argR_argF h.2⟩
  | [], _ :: _, _, _, h => h.elim
  | [], [], _ :: _, _, h => h.elim
  | [], [], [], _ :: _, h => h.elim
  | .tmp _ _ :: _, [], _, _, h => h.elim
  | .tmp _ _ :: _, _ :: _, [], _, h => h.elim
  | .tmp _ _ :: _, _ :: _, _ :: _, [], h => h.elim
  | .pl _ :: _, [], _, _, h => h.elim
  | .pl _ :: _, _ :: _, [], _, h => h.elim
  | .pl _ :: _, _ :: _, _ :: _, [], h => h.elim
/-- the sharing of the i-th argument -/
def ksAt (ks : List AK) (i : Nat) : List Nat := match ks[i]? with
  | some k => k.all
  | none => []
theorem argR_at {C : FC} {H H' : Hp} {Fs' : Nat → List Addr} {σ : L2.St} {ρ' : Rho} : ∀ {ks : List AK} {ds : List D} {vs : List V} {Fa : List (List Addr)}, ArgR C H H' Fs' σ ρ' ks ds vs Fa →
    ∀ i, ∀ a ∈ Fa.getD i [], (H a = none ∧ ∀ j, a ∉ Fs' j) ∨ ∃ j ∈ ksAt ks i, a ∈ Fs' j
  | [], [], [], [], _, i, a, m => by simp at m
  | .tmp n0 n1 :: ks, d :: ds, v :: vs, F :: Fa, h, 0, a, m => by
    have m : a ∈ F := by simpa using m
    exact h.2.1.ali a m
  | .tmp n0 n1 :: ks, d :: ds, v :: vs, F :: Fa, h, i + 1, a, m => by
    have m : a ∈ Fa.getD i [] := by simpa using m
    have q := argR_at h.2.2 i a m
    simpa [ksAt] using q
  | .pl j :: ks, d :: ds, v :: vs, F :: Fa, h, 0, a, m => by
    have m : a ∈ F := by simpa using m
    exact .inr ⟨j, by simp [ksAt, AK.all], by rw [← h.1.2.2.2]; exact m⟩
  | .pl j :: ks, d :: ds, v :: vs, F :: Fa, h, i + 1, a, m => by
    have m : a ∈ Fa.getD i [] := by simpa using m
    have q := argR_at h.2 i a m
    simpa [ksAt] using q
  | [], _ :: _, _, _, h, _, _, _ => h.elim
  | [], [], _ :: _, _, h, _, _, _ => h.elim
  | [], [], [], _ :: _, h, _, _, _ => h.elim
  | .tmp _ _ :: _, [], _, _, h, _, _, _ => h.elim
  | .tmp _ _ :: _, _ :: _, [], _, h, _, _, _ => h.elim
  | .tmp _ _ :: _, _ :: _, _ :: _, [], h, _, _, _ => h.elim
  | .pl _ :: _, [], _, _, h, _, _, _ => h.elim
  | .pl _ :: _, _ :: _, [], _, h, _, _, _ => h.elim
  | .pl _ :: _, _ :: _, _ :: _, [], h, _, _, _ => h.elim
/-- what a context must bear -/
structure Ck (C : FC) : Prop where
  calm : C.X.calm = true
  nd : C.X.N.Nodup
  pas : Passes (L2.CX C.X.prog C.X.w) C.X C.E
  hE : ∀ n ρ Fs σ H cls, C.EX n ρ → SR C ρ Fs σ H → C.X.mg n = some cls → C.E cls none H
def wCall (S : FS) (wr : WA) : WE := fun ρ q E => wr ρ (fun ds ρ1 => S ds (fun r => q r ρ1) fun n => E n ρ1) E
def alNs (ks : List AK) : List Nat → List Nat
  | [] => []
  | i :: al => 1000 :: (ksAt ks i ++ alNs ks al)
theorem alNs_mem {ks : List AK} {j i : Nat} : ∀ {al : List Nat}, i ∈ al → j ∈ ksAt ks i → j ∈ alNs ks al
  | k :: al, hi, hj => by
    rcases List.mem_cons.mp hi with e | hi
    · subst e; exact List.mem_cons_of_mem _ (List.mem_append_left _ hj)
    · exact List.mem_cons_of_mem _ (List.mem_append_right _ (alNs_mem hi hj))
section
variable {C : FC} {e : Expr} {es : List Expr} {pos p : Pos} {m1 : List Nat} {wr : WA} {ks : List AK} {x : Str} {f : Addr} {fd : FuncData} {ps : List Str} {k np : Nat} {al : List Nat} {S : FS}
theorem je_call (ck : Ck C) (G : FnOk C.X.prog C.X.w C.X.K C.X.mg C.X.base (L2.CX C.X.prog C.X.w) k f fd ps (SpP C.X.K C.X.mg np al S)) (hr : Room k C.X.A) (hg : Gl C.X x) (hm : C.X.mg x = some (.ref f)) (hk : PySem.W.keepIn C.X.K (.ref f) = true) (hb : Binds C.X.K fd ps [])
    (ha : JA C (e :: es) ks m1 wr) (hl : ks.length = np := by rfl)
    (hdb : (x == ("__debug__" : Str)) = false := by decide) (he : starEach (e :: es) C.X.env = (false, eval e C.X.env) :: starEach es C.X.env := by rfl) (hpl : (backTo pos (starEach es C.X.env)).any (·.1) = false := by rfl) :
    JE C (.Call (.Name x p) (e :: es) [] pos) (alNs ks al) [] m1 (wCall S wr) := by
  refine ⟨PE.imp (pe_call G hr hg hm hk hb .nil ck.pas ha.pa hdb he hpl) ?_⟩
  rintro σ H Q ⟨ρ, Fs, q, s, hw, k⟩
  refine ⟨ρ, Fs, _, s, hw, fun ds ρ1 vs Fa H1 Fs1 h1 s1 t1 r1 n1 => ?_⟩
  show SpP C.X.K C.X.mg np al S (vs ++ []) H1 Q C.E
  rw [List.append_nil]
  have lk : ∀ {ks : List AK} {ds : List D} {vs : List V} {Fa : List (List Addr)}, ArgR C H H1 Fs1 σ ρ1 ks ds vs Fa → ds.length = ks.length := by
    intro ks
    induction ks with
    | nil => intro ds vs Fa h; cases ds with
      | nil => rfl
      | cons _ _ => exact h.elim
    | cons kk ks ih => intro ds vs Fa h; cases ds with
      | nil => cases kk <;> exact h.elim
      | cons d ds => cases vs with
        | nil => cases kk <;> exact h.elim
        | cons v vs => cases Fa with
          | nil => cases kk <;> exact h.elim
          | cons F Fa => cases kk with
            | tmp _ _ => simp [ih h.2.2]
            | pl _ => simp [ih h.2]
  refine ⟨ds, Fa, _, _, (lk r1).trans hl, argR_argF r1, h1, fun r v F H2 hq fr dm rr ra rn => ?_, fun n H2 cls hx fr dm hm => ?_⟩
  · refine k r ρ1 v F H2 Fs1 hq (s1.new fr dm) ((t1.trans (Stp.new fr dm)).mono (by simp)) rr ⟨fun a m => ?_, fun e0 _ a m => ?_, fun e0 _ => ?_⟩
    · rcases ra a m with z | ⟨i, hi, z⟩
      · exact .inl ⟨t1.dom a z, s1.notIn z⟩
      · rcases argR_at r1 i a z with y | ⟨j, hj, y⟩
        · exact .inl y
        · exact .inr ⟨j, by rw [List.append_nil]; exact alNs_mem hi hj, y⟩
    · cases al with
      | cons _ _ => simp [alNs] at e0
      | nil => rcases ra a m with z | ⟨i, hi, z⟩
               · exact ⟨t1.dom a z, s1.notIn z⟩
               · cases hi
    · cases al with
      | cons _ _ => simp [alNs] at e0
      | nil => exact rn rfl
  · exact ck.hE n ρ1 Fs1 σ H2 cls hx (s1.new fr dm) hm
end

/-! ### a slot's list is changed -/
def pst (Fs : Nat → List Addr) (i : Nat) (F : List Addr) : Nat → List Addr := fun j => if j = i then F else Fs j
theorem pst_same {Fs : Nat → List Addr} {i : Nat} {F : List Addr} : pst Fs i F i = F := if_pos rfl
theorem pst_ne {Fs : Nat → List Addr} {i j : Nat} {F : List Addr} (h : j ≠ i) : pst Fs i F j = Fs j := if_neg h
theorem SR.nodup {C : FC} {ρ : Rho} {Fs : Nat → List Addr} {σ : L2.St} {H : Hp} (s : SR C ρ Fs σ H) {i : Nat} {t : SV} (e : ρ[i]? = some t) (o : t.own = true) (ng : t ≠ .tb) : (Fs i).Nodup := by
  have q := s.ok i t e
  cases t with
  | ow x => obtain ⟨v, h1, h2, h3, _⟩ := q; exact h3
  | pa x => obtain ⟨_, v, h1, h0, h2, h3, _⟩ := q; exact h3
  | un => cases o
  | pr x => cases o
  | fr x => cases o
  | sc x => cases o
  | fn ks => obtain ⟨b, vs, h1, h2, h3, h4, h5⟩ := q; rw [h4]; exact List.nodup_cons.mpr ⟨List.not_mem_nil, List.nodup_nil⟩
  | tb => exact absurd rfl ng
  | ex n => cases o
theorem SR.put {C : FC} {ρ : Rho} {Fs : Nat → List Addr} {σ : L2.St} {H H' : Hp} {i : Nat} {t : SV} {h' : D} {v : V} {F' : List Addr} (s : SR C ρ Fs σ H) (e : ρ[i]? = some t) (o : t.own = true) (hv : σ[i]? = some (some v)) {d0 : D} (gd : t.get = some d0)
    (fr : Fr (fun a => a ∈ Fs i) H H') (dm : ∀ a, H' a = none → H a = none) (r : Rp C.K H' h' v F') (nd : F'.Nodup) (sub : ∀ a ∈ F', a ∈ Fs i ∨ H a = none) :
    SR C (ρ.set i (t.put h')) (pst Fs i F') σ H' ∧ Stp [i] ρ Fs H (ρ.set i (t.put h')) (pst Fs i F') H' := by
  have hi : i < ρ.length := (List.getElem?_eq_some_iff.mp e).1
  have own : Own ρ i := ⟨t, e, o⟩
  have ks : ∀ j, j ≠ i → ∀ a ∈ Fs j, a ∉ Fs i := fun j hj a ha z => s.sep i j t (Ne.symm hj) e o a z ha
  refine ⟨⟨by rw [List.length_set]; exact s.len, fun j u hu => ?_, fun j hj => ?_, fun j k u hjk hu ou a ha => ?_, s.frm.trans fr fun a ob ea la ha => ?_, fun a h => s.dom a (dm a h)⟩,
    ⟨fr.mono fun a ha => ⟨i, List.mem_singleton.mpr rfl, own, ha⟩, fun j hj => pst_ne (by simpa using hj), fun j a ⟨u, hu, ou⟩ ha => ?_, dm, fun j a ha => ?_⟩⟩
  · by_cases hj : j = i
    · subst hj
      rw [List.getElem?_set_self hi] at hu
      cases hu
      have q := s.ok j t e
      rw [pst_same]
      cases t with
      | ow x =>
        obtain ⟨v0, h1, h2, h3, h4⟩ := q
        exact ⟨v, hv, r, nd, fun a ha => (sub a ha).elim (h4 a) (s.dom a)⟩
      | pa x =>
        obtain ⟨hm, v0, h1, h0, h2, h3, h4⟩ := q
        rw [hv] at h1
        cases h1
        exact ⟨hm, v, hv, h0, r, nd, fun a ha => (sub a ha).elim (h4 a) fun z => .inr (s.dom a z)⟩
      | un => cases o
      | pr x => cases o
      | fr x => cases o
      | _ => cases gd
    · rw [List.getElem?_set_ne (Ne.symm hj)] at hu
      rw [pst_ne hj]
      exact (s.ok j u hu).frm fr (ks j hj)
  · by_cases hji : j = i
    · subst hji
      rw [List.getElem?_set_self hi] at hj
      cases hj
    · rw [pst_ne hji]
      rw [List.getElem?_set_ne (Ne.symm hji)] at hj
      exact s.out j hj
  · by_cases hj : j = i
    · subst hj
      rw [pst_same] at ha
      rw [pst_ne (Ne.symm hjk)]
      rcases sub a ha with z | z
      · exact s.sep j k t hjk e o a z
      · exact s.notIn z k
    · rw [pst_ne hj] at ha
      rw [List.getElem?_set_ne (Ne.symm hj)] at hu
      by_cases hk : k = i
      · subst hk
        rw [pst_same]
        intro z
        rcases sub a z with y | y
        · exact ks j hj a ha y
        · exact s.notIn y j ha
      · rw [pst_ne hk]
        exact s.sep j k u hjk hu ou a ha
  · have q := s.ok i t e
    cases t with
    | ow x =>
      obtain ⟨v0, h1, h2, h3, h4⟩ := q
      rw [h4 a ha] at ea; cases ea
    | pa x =>
      obtain ⟨hm, v0, h1, h0, h2, h3, h4⟩ := q
      rcases h4 a ha with z | z
      · exact ⟨i, hm, z⟩
      · rw [z] at ea; cases ea
    | un => cases o
    | pr x => cases o
    | fr x => cases o
    | _ => cases gd
  · by_cases hj : j = i
    · subst hj
      rw [pst_same] at ha
      rcases sub a ha with z | z
      · exact .inr ⟨j, .inl rfl, own, z⟩
      · exact .inl z
    · rw [pst_ne hj] at ha
      rw [List.getElem?_set_ne (Ne.symm hj)] at hu
      exact .inr ⟨j, .inl rfl, ⟨u, hu, ou⟩, ha⟩
  · by_cases hj : j = i
    · subst hj
      rw [pst_same] at ha
      exact (sub a ha).elim (fun z => .inr ⟨j, z⟩) .inl
    · rw [pst_ne hj] at ha
      exact .inr ⟨j, ha⟩
/-- the owned slot i with its data -/
def withOwn (ρ : Rho) (i : Nat) (k : SV → D → Prop) : Prop := match ρ[i]? with
  | some s => s.own = true ∧ (match s.get with | some h => k s h | none => False)
  | none => False
theorem withOwn_ok {ρ : Rho} {i : Nat} {k : SV → D → Prop} (h : withOwn ρ i k) : ∃ s d, ρ[i]? = some s ∧ s.own = true ∧ s.get = some d ∧ k s d := by
  unfold withOwn at h
  cases e : ρ[i]? with
  | none => simp only [e] at h
  | some s =>
    simp only [e] at h
    obtain ⟨o, h⟩ := h
    cases g : s.get with
    | none => simp only [g] at h
    | some d => simp only [g] at h; exact ⟨s, d, rfl, o, g, h⟩
theorem ksAt_ns : ∀ {ks : List AK} {i j : Nat}, j ∈ ksAt ks i → j ∈ ksNs ks
  | [], i, j, h => by simp [ksAt] at h
  | k :: ks, 0, j, h => List.mem_append_left _ (by simpa [ksAt] using h)
  | k :: ks, i + 1, j, h => List.mem_append_right _ (ksAt_ns (i := i) (by simpa [ksAt] using h))
def wCallH (S : FSH) (i : Nat) (wr : WA) : WE := fun ρ q E => hasV ρ i ∧ wr ρ (fun ds ρ1 => withOwn ρ1 i fun s h => S h ds (fun r h' => q r (ρ1.set i (s.put h'))) fun n h' => E n (ρ1.set i (s.put h'))) E
theorem SR.has {C : FC} {ρ : Rho} {Fs : Nat → List Addr} {σ : L2.St} {H : Hp} (s : SR C ρ Fs σ H) {i : Nat} (h0 : hasV ρ i) : ∃ v, σ[i]? = some (some v) := by
  unfold hasV at h0
  cases e : ρ[i]? with
  | none => rw [e] at h0; exact h0.elim
  | some t =>
    simp only [e] at h0
    obtain ⟨d, g⟩ := Option.isSome_iff_exists.mp h0
    obtain ⟨v, hv, _⟩ := s.val e g
    exact ⟨v, hv⟩
theorem argR_len {C : FC} {H H' : Hp} {Fs' : Nat → List Addr} {σ : L2.St} {ρ' : Rho} : ∀ {ks : List AK} {ds : List D} {vs : List V} {Fa : List (List Addr)}, ArgR C H H' Fs' σ ρ' ks ds vs Fa → ds.length = ks.length := by
  intro ks
  induction ks with
  | nil => intro ds vs Fa h; cases ds with
    | nil => rfl
    | cons _ _ => exact h.elim
  | cons kk ks ih => intro ds vs Fa h; cases ds with
    | nil => cases kk <;> exact h.elim
    | cons d ds => cases vs with
      | nil => cases kk <;> exact h.elim
      | cons v vs => cases Fa with
        | nil => cases kk <;> exact h.elim
        | cons F Fa => cases kk with
          | tmp _ _ => simp [ih h.2.2]
          | pl _ => simp [ih h.2]
section
variable {C : FC} {es : List Expr} {pos p p0 : Pos} {m1 : List Nat} {wr : WA} {ks : List AK} {x y : Str} {f : Addr} {fd : FuncData} {ps : List Str} {k np i : Nat} {al : List Nat} {S : FSH}
theorem je_callH (ck : Ck C) (G : FnOk C.X.prog C.X.w C.X.K C.X.mg C.X.base (L2.CX C.X.prog C.X.w) k f fd ps (SpH C.X.K C.X.mg np al S)) (hr : Room k C.X.A) (hg : Gl C.X x) (hm : C.X.mg x = some (.ref f)) (hk : PySem.W.keepIn C.X.K (.ref f) = true) (hb : Binds C.X.K fd ps [])
    (hN : C.X.N[i]? = some y) (hv : Vis C.X.env.scope y) (ha : JA C es ks m1 wr) (hl : ks.length = np := by rfl) (dd : dj (ksNs ks) [i] = true := by decide)
    (hdb : (x == ("__debug__" : Str)) = false := by decide) (hd : (y == ("__debug__" : Str)) = false := by decide) (hcd : (y == ("__classdict__" : Str)) = false := by decide)
    (hs : starEach (.Name y p0 :: es) C.X.env = (false, eval (.Name y p0) C.X.env) :: starEach es C.X.env := by rfl) (hpl : (backTo pos (starEach es C.X.env)).any (·.1) = false := by rfl) :
    JE C (.Call (.Name x p) (.Name y p0 :: es) [] pos) (alNs ks al) [] (m1 ++ [i]) (wCallH S i wr) := by
  refine ⟨PE.imp (pe_call G hr hg hm hk hb .nil ck.pas (pa_cons (pe_var hN hv hd hcd) ha.pa hs) hdb hs hpl) ?_⟩
  rintro σ H Q ⟨ρ, Fs, q, s, ⟨h0, hw⟩, k⟩
  obtain ⟨v, hvi⟩ := s.has h0
  refine ⟨v, hvi, ρ, Fs, _, s, hw, fun ds ρ1 vs Fa H1 Fs1 h1 s1 t1 r1 n1 => ?_⟩
  show SpH C.X.K C.X.mg np al S ((v :: vs) ++ []) H1 Q C.E
  rw [List.append_nil]
  obtain ⟨t, h, e, o, g, h1⟩ := withOwn_ok h1
  obtain ⟨v', e1, rv⟩ := s1.val e g
  rw [hvi] at e1
  cases e1
  have ddj := dj_ok dd
  have atF : ∀ F ∈ Fa, ∀ a ∈ F, (H a = none ∧ ∀ j, a ∉ Fs1 j) ∨ ∃ j ∈ ksNs ks, a ∈ Fs1 j := fun F hF a ha => argR_ali r1 a (List.mem_flatten.mpr ⟨F, hF, ha⟩)
  refine ⟨h, v, Fs1 i, ds, vs, Fa, _, _, rfl, (argR_len r1).trans hl, rv, s1.nodup e o (fun z => by rw [z] at g; cases g), argR_argF r1, fun a ha F hF z => ?_, h1, fun r h' v2 F F' H2 hq fr dm rh nd sub rr ra rn => ?_, fun n h' F' H2 cls hx fr dm rh nd sub hm => ?_⟩
  · rcases atF F hF a z with ⟨_, n⟩ | ⟨j, hj, z⟩
    · exact n i ha
    · exact s1.sep i j t (fun e => ddj j hj (by simp [e])) e o a ha z
  · obtain ⟨s2, t2⟩ := s1.put e o hvi g fr dm rh nd sub
    refine k r _ v2 F H2 _ hq s2 (t1.trans t2) rr ⟨fun a m => ?_, fun e0 _ a m => ?_, fun e0 _ => ?_⟩
    · rcases ra a m with ⟨z, z'⟩ | ⟨i', hi, z⟩
      · exact .inl ⟨t1.dom a z, fun j hj => by
          by_cases e : j = i
          · subst e; rw [pst_same] at hj; exact z' hj
          · rw [pst_ne e] at hj; exact s1.notIn z j hj⟩
      · rcases argR_at r1 i' a z with ⟨y, y'⟩ | ⟨j, hj, y⟩
        · refine .inl ⟨y, fun j hj => ?_⟩
          by_cases e : j = i
          · subst e
            rw [pst_same] at hj
            rcases sub a hj with w | w
            · exact y' _ w
            · have tr : ∃ vs, H1 a = some (.lst vs) := (argR_rpl r1).trk a (List.mem_flatten.mpr (by
                have hlt : i' < Fa.length := by
                  by_cases hlt : i' < Fa.length
                  · exact hlt
                  · rw [List.getD_eq_getElem?_getD, List.getElem?_eq_none (by omega)] at z
                    simp at z
                exact ⟨Fa[i'], List.getElem_mem hlt, by
                  rw [List.getD_eq_getElem?_getD, List.getElem?_eq_getElem hlt] at z
                  exact z⟩))
              obtain ⟨us, tr⟩ := tr
              rw [w] at tr; cases tr
          · rw [pst_ne e] at hj; exact y' j hj
        · have hji : j ≠ i := fun e => by
            have : j ∈ ksNs ks := ksAt_ns hj
            exact ddj j this (by simp [e])
          exact .inr ⟨j, by rw [List.append_nil]; exact alNs_mem hi hj, by rw [pst_ne hji]; exact y⟩
    · cases al with
      | cons _ _ => simp [alNs] at e0
      | nil => rcases ra a m with ⟨z, z'⟩ | ⟨i', hi, z⟩
               · exact ⟨t1.dom a z, fun j hj => by
                   by_cases e : j = i
                   · subst e; rw [pst_same] at hj; exact z' hj
                   · rw [pst_ne e] at hj; exact s1.notIn z j hj⟩
               · cases hi
    · cases al with
      | cons _ _ => simp [alNs] at e0
      | nil => exact rn rfl
  · obtain ⟨s2, t2⟩ := s1.put e o hvi g fr dm rh nd sub
    exact ck.hE n _ _ σ H2 cls hx s2 hm
end
end L3

namespace L3
open PySem PySem.Spec PyProof.Rows L2

/-! ### statements -/
structure WEnds where
  nx : Rho → Prop
  rt : D → Rho → Prop
  bk : Rho → Prop
  ct : Rho → Prop
  ex : Str → Rho → Prop
abbrev WS := Rho → WEnds → Prop
/-- what a def hands back: new, not in what is changed; or a part of what it may share -/
structure RetR (C : FC) (Fs' : Nat → List Addr) (F : List Addr) : Prop where
  ali : ∀ a ∈ F, (C.H0 a = none ∧ ∀ i ∈ C.mt, a ∉ Fs' i) ∨ ∃ i ∈ C.al, a ∈ C.P0 i
  nd : C.al = [] → F.Nodup
structure EOk (C : FC) (mod : List Nat) (ρ : Rho) (Fs : Nat → List Addr) (H : Hp) (W : WEnds) (De : Ends) : Prop where
  nx : ∀ ρ' Fs' σ' H', W.nx ρ' → SR C ρ' Fs' σ' H' → Stp mod ρ Fs H ρ' Fs' H' → De.nx σ' H'
  bk : ∀ ρ' Fs' σ' H', W.bk ρ' → SR C ρ' Fs' σ' H' → Stp mod ρ Fs H ρ' Fs' H' → De.bk σ' H'
  ct : ∀ ρ' Fs' σ' H', W.ct ρ' → SR C ρ' Fs' σ' H' → Stp mod ρ Fs H ρ' Fs' H' → De.ct σ' H'
  rt : ∀ d ρ' v F σ' Fs' H', W.rt d ρ' → SR C ρ' Fs' σ' H' → Rp C.K H' d v F → RetR C Fs' F → De.rt v H'
def rdS (C : FC) (mod : List Nat) (w : WS) : TS := fun De σ H => ∃ ρ Fs W, SR C ρ Fs σ H ∧ w ρ W ∧ W.ex = C.EX ∧ EOk C mod ρ Fs H W De
structure JS (C : FC) (st : Stmt) (mod : List Nat) (w : WS) : Prop where
  ps : PS C.X st (rdS C mod w)
structure JSs (C : FC) (st : List Stmt) (mod : List Nat) (w : WS) : Prop where
  ps : PSs C.X st (rdS C mod w)
theorem EOk.after {C : FC} {m1 m2 : List Nat} {ρ ρ1 : Rho} {Fs Fs1 : Nat → List Addr} {H H1 : Hp} {W : WEnds} {De : Ends} (k : EOk C (m1 ++ m2) ρ Fs H W De) (t : Stp m1 ρ Fs H ρ1 Fs1 H1) : EOk C m2 ρ1 Fs1 H1 W De :=
  ⟨fun ρ' Fs' σ' H' a b c => k.nx ρ' Fs' σ' H' a b (t.trans c), fun ρ' Fs' σ' H' a b c => k.bk ρ' Fs' σ' H' a b (t.trans c), fun ρ' Fs' σ' H' a b c => k.ct ρ' Fs' σ' H' a b (t.trans c), k.rt⟩
theorem EOk.mono {C : FC} {m1 m2 : List Nat} {ρ : Rho} {Fs : Nat → List Addr} {H : Hp} {W : WEnds} {De : Ends} (k : EOk C m2 ρ Fs H W De) (h : ∀ i ∈ m1, i ∈ m2) : EOk C m1 ρ Fs H W De :=
  ⟨fun ρ' Fs' σ' H' a b c => k.nx ρ' Fs' σ' H' a b (c.mono h), fun ρ' Fs' σ' H' a b c => k.bk ρ' Fs' σ' H' a b (c.mono h), fun ρ' Fs' σ' H' a b c => k.ct ρ' Fs' σ' H' a b (c.mono h), k.rt⟩
def wsSeq (w u : WS) : WS := fun ρ W => w ρ { W with nx := fun ρ1 => u ρ1 W }
def wsNil : WS := fun ρ W => W.nx ρ
def wsIf (t : WT) (w u : WS) : WS := fun ρ W => t ρ (fun b ρ1 => if b = true then w ρ1 W else u ρ1 W) W.ex
section
variable {C : FC} {st : Stmt} {rest sa sb : List Stmt} {m1 m2 m3 : List Nat} {w u : WS} {tc : WT} {c : Expr} {pos : Pos}
theorem jss_nil : JSs C [] [] wsNil := ⟨PSs.imp pss_nil fun De σ H ⟨ρ, Fs, W, s, hw, _, k⟩ => k.nx ρ Fs σ H hw s .refl⟩
theorem jss_one (h : JS C st m1 w) : JSs C [st] m1 w := ⟨pss_one h.ps⟩
theorem jss_cons (h : JS C st m1 w) (h' : JSs C rest m2 u) : JSs C (st :: rest) (m1 ++ m2) (wsSeq w u) := by
  refine ⟨PSs.imp (pss_cons h.ps h'.ps) ?_⟩
  rintro De σ H ⟨ρ, Fs, W, s, hw, ex, k⟩
  have k1 := k.mono (m1 := m1) (fun i hi => List.mem_append_left _ hi)
  exact ⟨ρ, Fs, _, s, hw, ex, ⟨fun ρ1 Fs1 σ1 H1 h1 s1 t1 => ⟨ρ1, Fs1, W, s1, h1, ex, k.after t1⟩, k1.bk, k1.ct, k1.rt⟩⟩
theorem js_if (hc : JT C c m1 tc) (ha : JSs C sa m2 w) (hb : JSs C sb m3 u) : JS C (.If c sa sb pos) (m1 ++ (m2 ++ m3)) (wsIf tc w u) := by
  refine ⟨PS.imp (ps_if hc.pt ha.ps hb.ps) ?_⟩
  rintro De σ H ⟨ρ, Fs, W, s, hw, ex, k⟩
  unfold wsIf at hw
  rw [ex] at hw
  refine ⟨ρ, Fs, _, s, hw, fun b ρ1 H1 Fs1 h1 s1 t1 => ?_⟩
  have k1 := k.after t1
  cases b with
  | true => exact ⟨ρ1, Fs1, W, s1, h1, ex, k1.mono fun i hi => List.mem_append_left _ hi⟩
  | false => exact ⟨ρ1, Fs1, W, s1, h1, ex, k1.mono fun i hi => List.mem_append_right _ hi⟩
def wsPass : WS := fun ρ W => W.nx ρ
theorem js_pass : JS C (.Pass pos) [] wsPass := ⟨PS.imp ps_pass fun De σ H ⟨ρ, Fs, W, s, hw, _, k⟩ => k.nx ρ Fs σ H hw s .refl⟩
def wsBreak : WS := fun ρ W => W.bk ρ
theorem js_break : JS C (.Break pos) [] wsBreak := ⟨PS.imp ps_break fun De σ H ⟨ρ, Fs, W, s, hw, _, k⟩ => k.bk ρ Fs σ H hw s .refl⟩
def wsCont : WS := fun ρ W => W.ct ρ
theorem js_cont : JS C (.Continue pos) [] wsCont := ⟨PS.imp ps_continue fun De σ H ⟨ρ, Fs, W, s, hw, _, k⟩ => k.ct ρ Fs σ H hw s .refl⟩
end
/-! ### a slot is set -/
/-- a slot's new content, whatever stood there -/
theorem SR.setS {C : FC} {ρ : Rho} {Fs : Nat → List Addr} {σ : L2.St} {H : Hp} {i : Nat} {u : SV} {v : V} {F : List Addr} (s : SR C ρ Fs σ H) (hi : i < ρ.length)
    (ok : SOk C H i u (some (some v)) F) (sp : ∀ j t, j ≠ i → ρ[j]? = some t → (t.own = true ∨ u.own = true) → ∀ a ∈ F, a ∉ Fs j) : SR C (ρ.set i u) (pst Fs i F) (σ.set i (some v)) H := by
  refine ⟨by rw [List.length_set, List.length_set]; exact s.len, fun j t hj => ?_, fun j hj => ?_, fun j k t hjk hj ot a ha => ?_, s.frm, s.dom⟩
  · by_cases e : j = i
    · subst e
      rw [List.getElem?_set_self hi] at hj
      cases hj
      rw [pst_same, List.getElem?_set_self (by rw [s.len]; exact hi)]
      exact ok
    · rw [List.getElem?_set_ne (Ne.symm e)] at hj
      rw [pst_ne e, List.getElem?_set_ne (Ne.symm e)]
      exact s.ok j t hj
  · by_cases e : j = i
    · subst e
      rw [List.getElem?_set_self hi] at hj
      cases hj
    · rw [pst_ne e]
      rw [List.getElem?_set_ne (Ne.symm e)] at hj
      exact s.out j hj
  · by_cases e : j = i
    · subst e
      rw [List.getElem?_set_self hi] at hj
      cases hj
      rw [pst_same] at ha
      rw [pst_ne (Ne.symm hjk)]
      cases hk : ρ[k]? with
      | none => rw [s.out k hk]; exact List.not_mem_nil
      | some tk => exact sp k tk (Ne.symm hjk) hk (.inr ot) a ha
    · rw [pst_ne e] at ha
      rw [List.getElem?_set_ne (Ne.symm e)] at hj
      by_cases e2 : k = i
      · subst e2
        rw [pst_same]
        intro z
        exact sp j t e hj (.inl ot) a z ha
      · rw [pst_ne e2]
        exact s.sep j k t hjk hj ot a ha
theorem stp_set {ρ : Rho} {Fs : Nat → List Addr} {H H0 : Hp} {m : List Nat} {ρ0 : Rho} {Fs0 : Nat → List Addr} {i : Nat} {u : SV} {F : List Addr} (hi : i < ρ.length) (t : Stp m ρ0 Fs0 H0 ρ Fs H)
    (nw : u.own = true → ∀ a ∈ F, H0 a = none) (sr : ∀ a ∈ F, H0 a = none ∨ ∃ j, a ∈ Fs j) : Stp (m ++ [i]) ρ0 Fs0 H0 (ρ.set i u) (pst Fs i F) H := by
  refine ⟨t.fr.mono fun a ⟨j, hj, z⟩ => ⟨j, List.mem_append_left _ hj, z⟩, fun j hj => ?_, fun j a ⟨w, hw, ow⟩ ha => ?_, t.dom, fun j a ha => ?_⟩
  · have e : j ≠ i := fun e => hj (by simp [e])
    rw [pst_ne e]
    exact t.same j fun z => hj (List.mem_append_left _ z)
  · by_cases e : j = i
    · subst e
      rw [List.getElem?_set_self hi] at hw
      cases hw
      rw [pst_same] at ha
      exact .inl (nw ow a ha)
    · rw [List.getElem?_set_ne (Ne.symm e)] at hw
      rw [pst_ne e] at ha
      exact (t.own j a ⟨w, hw, ow⟩ ha).imp id fun ⟨k, hk, z⟩ => ⟨k, hk.imp id (List.mem_append_left _), z⟩
  · by_cases e : j = i
    · subst e
      rw [pst_same] at ha
      rcases sr a ha with z | ⟨k, hk⟩
      · exact .inl z
      · exact t.src k a hk
    · rw [pst_ne e] at ha
      exact t.src j a ha
/-- x = e: new data (a list's own items ints, texts ..), or what holds no list -/
def wsSet (i : Nat) (wa : WE) : WS := fun ρ W => wa ρ (fun d ρ1 => (i < ρ1.length ∧ (imm d || flat d) = true) ∧ W.nx (ρ1.set i (.ow d))) W.ex
/-- the same, e known to make new things alone -/
def wsSetF (i : Nat) (wa : WE) : WS := fun ρ W => wa ρ (fun d ρ1 => i < ρ1.length ∧ W.nx (ρ1.set i (.ow d))) W.ex
def wsSetI (i : Nat) (wa : WE) : WS := fun ρ W => wa ρ (fun d ρ1 => (i < ρ1.length ∧ imm d = true) ∧ W.nx (ρ1.set i (.ow d))) W.ex
def frz (ns : List Nat) (ρ : Rho) : Rho := ns.foldl (fun (ρ : Rho) (j : Nat) => match ρ[j]? with
  | some (.ow d) => ρ.set j (.fr d)
  | some (.pa d) => ρ.set j (.fr d)
  | _ => ρ) ρ
section
variable {C : FC} {e : Expr} {a0 a1 m1 : List Nat} {wa : WE} {pos pos' : Pos} {i : Nat} {x : Str}
theorem set_run {C : FC} {a0 a1 m1 : List Nat} {wa : WE} {i : Nat} {P : D → Prop} (hP : ∀ (d : D) (ρ1 : Rho) (v : V) (F : List Addr) (H H1 : Hp) (Fs1 : Nat → List Addr), P d → Rp C.K H1 d v F → Res a0 a1 H Fs1 d F → F.Nodup ∧ ∀ a ∈ F, H a = none ∧ ∀ j, a ∉ Fs1 j) :
    ∀ De σ H, rdS C (m1 ++ [i]) (fun ρ W => wa ρ (fun d ρ1 => (i < ρ1.length ∧ P d) ∧ W.nx (ρ1.set i (.ow d))) W.ex) De σ H → tAsg (rdE C a0 a1 m1 wa) (gName i) De σ H := by
  rintro De σ H ⟨ρ, Fs, W, s, hw, ex, k⟩
  rw [ex] at hw
  refine ⟨ρ, Fs, _, s, hw, fun d ρ1 v F H1 Fs1 h1 s1 t1 r1 k1 => ?_⟩
  obtain ⟨⟨hi, hp⟩, hn⟩ := h1
  obtain ⟨nd, fr⟩ := hP d ρ1 v F H H1 Fs1 hp r1 k1
  refine k.nx (ρ1.set i (.ow d)) (pst Fs1 i F) _ H1 hn (s1.setS (u := .ow d) hi ⟨v, rfl, r1, nd, fun a ha => s.dom a (fr a ha).1⟩ fun j t _ _ _ a ha => (fr a ha).2 j) (stp_set hi t1 (fun _ a ha => (fr a ha).1) fun a ha => .inl (fr a ha).1)
theorem js_set (hN : C.X.N.Nodup) (hi : C.X.N[i]? = some x) (hx : Loc C.X.env.scope x) (he : JE C e [] a1 m1 wa) (hs : swapsWith e (some (.Name x pos')) pos.line C.X.env = pure false := by rfl)
    (hf : C.X.fn x = true ∨ C.X.env.scope.names.lookup x = some .local := by first | exact .inl rfl | exact .inr rfl | assumption) : JS C (.Assign [.Name x pos'] e pos) (m1 ++ [i]) (wsSet i wa) := by
  refine ⟨PS.imp (ps_set hN hi hx he.pe hs hf) (set_run (P := fun d => (imm d || flat d) = true) fun d ρ1 v F H H1 Fs1 hp r1 k1 => ?_)⟩
  rcases Bool.or_eq_true_iff.mp hp with z | z
  · rw [r1.imm0 z]
    exact ⟨List.nodup_nil, fun a m => by cases m⟩
  · exact ⟨k1.nd rfl (.inr z), k1.shl rfl z⟩
theorem js_setF (hN : C.X.N.Nodup) (hi : C.X.N[i]? = some x) (hx : Loc C.X.env.scope x) (he : JE C e [] [] m1 wa) (hs : swapsWith e (some (.Name x pos')) pos.line C.X.env = pure false := by rfl)
    (hf : C.X.fn x = true ∨ C.X.env.scope.names.lookup x = some .local := by first | exact .inl rfl | exact .inr rfl | assumption) : JS C (.Assign [.Name x pos'] e pos) (m1 ++ [i]) (wsSetF i wa) := by
  refine ⟨PS.imp (ps_set hN hi hx he.pe hs hf) fun De σ H h => set_run (a0 := []) (a1 := []) (m1 := m1) (wa := wa) (i := i) (P := fun d => True) (fun d ρ1 v F H H1 Fs1 hp r1 k1 => ?_) De σ H ?_⟩
  · refine ⟨k1.nd rfl (.inl rfl), fun a m => ?_⟩
    rcases k1.ali a m with z | ⟨j, hj, _⟩
    · exact z
    · simp at hj
  · obtain ⟨ρ, Fs, W, s, hw, ex, k⟩ := h
    exact ⟨ρ, Fs, W, s, by simpa [wsSetF] using hw, ex, k⟩
theorem js_setI (hN : C.X.N.Nodup) (hi : C.X.N[i]? = some x) (hx : Loc C.X.env.scope x) (he : JE C e a0 a1 m1 wa) (hs : swapsWith e (some (.Name x pos')) pos.line C.X.env = pure false := by rfl)
    (hf : C.X.fn x = true ∨ C.X.env.scope.names.lookup x = some .local := by first | exact .inl rfl | exact .inr rfl | assumption) : JS C (.Assign [.Name x pos'] e pos) (m1 ++ [i]) (wsSetI i wa) := by
  refine ⟨PS.imp (ps_set hN hi hx he.pe hs hf) (set_run (P := fun d => imm d = true) fun d ρ1 v F H H1 Fs1 hp r1 k1 => ?_)⟩
  rw [r1.imm0 hp]
  exact ⟨List.nodup_nil, fun a m => by cases m⟩
end
end L3

namespace L3
open PySem PySem.Spec PyProof.Rows L2

/-! ### return, raise, a statement of its own -/
def wsRetI (wa : WE) : WS := fun ρ W => wa ρ (fun d ρ1 => imm d = true ∧ W.rt d ρ1) W.ex
def wsRetC (wa : WE) : WS := fun ρ W => wa ρ (fun d ρ1 => (imm d || flat d) = true ∧ W.rt d ρ1) W.ex
def wsRetF (wa : WE) : WS := fun ρ W => wa ρ (fun d ρ1 => W.rt d ρ1) W.ex
def wsRetO (i : Nat) : WS := fun ρ W => match ρ[i]? with
  | some (.ow d) => W.rt d ρ
  | _ => False
def allPr (ns : List Nat) (ρ : Rho) : Prop := ∀ i ∈ ns, ∃ d, ρ[i]? = some (.pr d)
def wsRetA (ns : List Nat) (wa : WE) : WS := fun ρ W => wa ρ (fun d ρ1 => (ρ1[1000]? = none ∧ allPr ns ρ1) ∧ W.rt d ρ1) W.ex
def wsRetN : WS := fun ρ W => W.rt .none ρ
def wsDrop (wa : WE) : WS := fun ρ W => wa ρ (fun _ ρ1 => W.nx ρ1) W.ex
section
variable {C : FC} {e : Expr} {a0 a1 m1 : List Nat} {wa : WE} {pos pos' p : Pos} {i : Nat} {x : Str}
theorem js_retI (he : JE C e a0 a1 m1 wa) : JS C (.Return (some e) pos) m1 (wsRetI wa) := by
  refine ⟨PS.imp (ps_ret he.pe) ?_⟩
  rintro De σ H ⟨ρ, Fs, W, s, hw, ex, k⟩
  unfold wsRetI at hw
  rw [ex] at hw
  refine ⟨ρ, Fs, _, s, hw, fun d ρ1 v F H1 Fs1 h1 s1 t1 r1 k1 => ?_⟩
  refine k.rt d ρ1 v F σ Fs1 H1 h1.2 s1 r1 ?_
  rw [r1.imm0 h1.1]
  exact ⟨(fun a m => by cases m), fun _ => List.nodup_nil⟩
theorem js_retC (he : JE C e [] a1 m1 wa) : JS C (.Return (some e) pos) m1 (wsRetC wa) := by
  refine ⟨PS.imp (ps_ret he.pe) ?_⟩
  rintro De σ H ⟨ρ, Fs, W, s, hw, ex, k⟩
  unfold wsRetC at hw
  rw [ex] at hw
  refine ⟨ρ, Fs, _, s, hw, fun d ρ1 v F H1 Fs1 h1 s1 t1 r1 k1 => ?_⟩
  refine k.rt d ρ1 v F σ Fs1 H1 h1.2 s1 r1 ?_
  rcases Bool.or_eq_true_iff.mp h1.1 with z | z
  · rw [r1.imm0 z]
    exact ⟨(fun a m => by cases m), fun _ => List.nodup_nil⟩
  · exact ⟨fun a m => .inl ⟨s.dom a (k1.shl rfl z a m).1, fun j _ => (k1.shl rfl z a m).2 j⟩, fun _ => k1.nd rfl (.inr z)⟩
theorem js_retF (he : JE C e [] [] m1 wa) : JS C (.Return (some e) pos) m1 (wsRetF wa) := by
  refine ⟨PS.imp (ps_ret he.pe) ?_⟩
  rintro De σ H ⟨ρ, Fs, W, s, hw, ex, k⟩
  unfold wsRetF at hw
  rw [ex] at hw
  refine ⟨ρ, Fs, _, s, hw, fun d ρ1 v F H1 Fs1 h1 s1 t1 r1 k1 => ?_⟩
  refine k.rt d ρ1 v F σ Fs1 H1 h1 s1 r1 ⟨fun a m => .inl ?_, fun _ => k1.nd rfl (.inl rfl)⟩
  rcases k1.ali a m with z | ⟨j, hj, _⟩
  · exact ⟨s.dom a z.1, fun j _ => z.2 j⟩
  · simp at hj
theorem js_retO (hN : C.X.N[i]? = some x) (hv : Vis C.X.env.scope x) (hm : i ∉ C.mt) (hd : (x == ("__debug__" : Str)) = false := by decide) (hcd : (x == ("__classdict__" : Str)) = false := by decide) : JS C (.Return (some (.Name x p)) pos) [] (wsRetO i) := by
  refine ⟨PS.imp (ps_ret (pe_var hN hv hd hcd)) ?_⟩
  rintro De σ H ⟨ρ, Fs, W, s, hw, ex, k⟩
  unfold wsRetO at hw
  cases e : ρ[i]? with
  | none => rw [e] at hw; exact hw.elim
  | some t =>
    rw [e] at hw
    cases t with
    | ow d =>
      obtain ⟨v, h1, h2, h3, h4⟩ := s.ok i _ e
      refine ⟨v, h1, k.rt d ρ v (Fs i) σ Fs H hw s h2 ⟨fun a m => .inl ⟨h4 a m, fun j hj => ?_⟩, fun _ => h3⟩⟩
      exact s.sep i j _ (fun z => hm (z ▸ hj)) e rfl a m
    | _ => exact hw.elim
theorem js_retA (he : JE C e a0 a1 m1 wa) (hal : ∀ i ∈ a0 ++ a1, i = 1000 ∨ i ∈ C.al) (hne : C.al ≠ []) : JS C (.Return (some e) pos) m1 (wsRetA ((a0 ++ a1).filter (· ≠ 1000)) wa) := by
  refine ⟨PS.imp (ps_ret he.pe) ?_⟩
  rintro De σ H ⟨ρ, Fs, W, s, hw, ex, k⟩
  unfold wsRetA at hw
  rw [ex] at hw
  refine ⟨ρ, Fs, _, s, hw, fun d ρ1 v F H1 Fs1 h1 s1 t1 r1 k1 => ?_⟩
  refine k.rt d ρ1 v F σ Fs1 H1 h1.2 s1 r1 ⟨fun a m => ?_, fun z => absurd z hne⟩
  rcases k1.ali a m with z | ⟨j, hj, z⟩
  · exact .inl ⟨s.dom a z.1, fun j _ => z.2 j⟩
  · by_cases e : j = 1000
    · subst e
      rw [s1.out _ h1.1.1] at z
      cases z
    · obtain ⟨d', e'⟩ := h1.1.2 j (List.mem_filter.mpr ⟨hj, by simpa using e⟩)
      obtain ⟨v', _, _, h3⟩ := s1.ok j _ e'
      rw [h3] at z
      exact .inr ⟨j, (hal j hj).resolve_left e, z⟩
theorem js_retN : JS C (.Return none pos) [] wsRetN := ⟨PS.imp ps_retN fun De σ H ⟨ρ, Fs, W, s, hw, _, k⟩ => k.rt .none ρ .non [] σ Fs H hw s .non ⟨fun a m => (by cases m), fun _ => List.nodup_nil⟩⟩
theorem js_expr (he : JE C e a0 a1 m1 wa) (hs : swapsWith e none pos.line C.X.env = pure false := by rfl) : JS C (.Expr e pos) m1 (wsDrop wa) := by
  refine ⟨PS.imp (ps_expr he.pe hs) ?_⟩
  rintro De σ H ⟨ρ, Fs, W, s, hw, ex, k⟩
  unfold wsDrop at hw
  rw [ex] at hw
  exact ⟨ρ, Fs, _, s, hw, fun d ρ1 v F H1 Fs1 h1 s1 t1 r1 k1 => k.nx ρ1 Fs1 σ H1 h1 s1 t1⟩
end
/-! ### raise X() -/
section
variable {X : Cx} {C : Addr} {bmB : List Value} {B newId initId : String}
theorem pmk_own0 {x : Str} {p pos : Pos} (F : ExcBaseFacts B newId initId bmB) (q : PySem.W.excIn X.K C bmB newId = true) (gC : X.mg x = some (.ref C)) (kC : PySem.W.keepIn X.K (.ref C) = true) (r : Raises X (.ref C)) (hg : Gl X x)
    (hdb : (x == ("__debug__" : Str)) = false := by decide) : PMk X (.Call (.Name x p) [] [] pos) (fun _ H Q => Q (.ref C) none H) := by
  intro pins s σ H Q I h
  refine wpAny_Call_Name_kw (ld_glob I hg gC ?_ hdb)
  refine PySem.W.callWith_K0 I.kIn kC ?_
  show wpAny _ _ (call (.ref C) []) _ _ _
  obtain ⟨bm, N, nm, qn, bs, hdct, sn, sub, ab, col, dd, k0, k1, k2, k3, k5, mN, hC, hN, hni, T⟩ := exc_obj I.kIn q
  refine wpAny_call_exc_subT F T hC hN hni (fun h' e hm => ?_) (by show 0 ≤ sizeLine; exact Nat.zero_le _)
  exact mk_of I hm r h (I.hok.gone hm.new)
end
/-- an own error class at C -/
structure Err (K : PySem.W.Frag) (mg : Str → Option Value) (x : Str) (C : Addr) : Prop where
  mg : mg x = some (.ref C)
  q : PySem.W.excIn K C He.veBase "ValueError.__new__" = true
  kp : PySem.W.keepIn K (.ref C) = true
  sub : PySem.W.subIn K (.ref C) (.type "BaseException") = some true
  ty : PySem.W.typeIn K (.ref C) = some (.type "type")
def wsRaise (n : Str) : WS := fun ρ W => W.ex n ρ
theorem js_raise {C : FC} {x : Str} {Ca : Addr} {p p2 pos : Pos} (ck : Ck C) (tk : Takes C.X (fun cls d _ H => C.E cls d H)) (E : Err C.X.K C.X.mg x Ca) (hg : Gl C.X x) (hdb : (x == ("__debug__" : Str)) = false := by decide) :
    JS C (.Raise (some (.Call (.Name x p) [] [] p2)) none pos) [] (wsRaise x) := by
  refine ⟨PS.imp (ps_raise ck.calm tk (pmk_own0 PySem.F.excBase_ValueError E.q E.mg E.kp (raises_own E.sub E.ty) hg hdb)) ?_⟩
  rintro De σ H ⟨ρ, Fs, W, s, hw, ex, k⟩
  unfold wsRaise at hw
  rw [ex] at hw
  exact ck.hE x ρ Fs σ H _ hw s E.mg

/-! ### a def by its body -/
abbrev fcOf (P : Program) (w : World) (K : PySem.W.Frag) (mg : Str → Option Value) (base : Heap) (N : List Str) (qual : Str) (scope : Scope) (f : Addr) (cd : Value) (A : Around) (outer : List Env) (s : Shared) (H : Hp) (E : XK) (vs : List V) (P0 : Nat → List Addr) (mt al : List Nat) (EX : EXT) : FC where
  X := cxOf (L2.CX P w) P w K mg base N qual scope f cd A outer s H E
  H0 := H
  v0 := vs
  P0 := P0
  mt := mt
  al := al
  E := E
  EX := EX
def rho0 (N : List Str) (ds : List D) : Rho := ds.map .pr ++ List.replicate (N.length - ds.length) .un
theorem ArgF.get {K : PySem.W.Frag} {H : Hp} : ∀ {ds : List D} {vs : List V} {Fa : List (List Addr)} {i : Nat} {d : D}, ArgF K H ds vs Fa → ds[i]? = some d → ∃ v, vs[i]? = some v ∧ Rp K H d v (Fa.getD i [])
  | [], [], [], i, d, _, e => by simp at e
  | _ :: _, _ :: _, _ :: _, 0, d, h, e => by
    simp at e
    subst e
    exact ⟨_, rfl, by simpa using h.1⟩
  | _ :: ds, _ :: vs, _ :: Fa, i + 1, d, h, e => by
    obtain ⟨v, e1, r⟩ := ArgF.get (i := i) h.2 (by simpa using e)
    exact ⟨v, by simpa using e1, by simpa using r⟩
  | [], _ :: _, _, _, _, h, _ => h.elim
  | [], [], _ :: _, _, _, h, _ => h.elim
  | _ :: _, [], _, _, _, h, _ => h.elim
  | _ :: _, _ :: _, [], _, _, h, _ => h.elim
theorem ArgF.fl {K : PySem.W.Frag} {H : Hp} : ∀ {ds : List D} {vs : List V} {Fa : List (List Addr)}, ArgF K H ds vs Fa → Fa.length = ds.length
  | [], [], [], _ => rfl
  | _ :: _, _ :: _, _ :: _, h => by simp [ArgF.fl h.2]
  | [], _ :: _, _, h => h.elim
  | [], [], _ :: _, h => h.elim
  | _ :: _, [], _, h => h.elim
  | _ :: _, _ :: _, [], h => h.elim
section
variable {P : Program} {w : World} {K : PySem.W.Frag} {mg : Str → Option Value} {base : Heap} {x qual : Str} {params : Arguments} {body : List Stmt} {scope : Scope} {f : Addr} {fd : FuncData} {N ps : List Str} {k np : Nat} {al : List Nat}
theorem fn_pure {S : FS} {wb : WS} (F : FunD K x qual params body scope [] [] f fd) (Sc : FnScope N ps scope) (hnp : ps.length = np)
    (hb : ∀ (cdv : Value) (A : Around) (outer : List Env) (s : Shared) (H : Hp) (E : XK) (vs : List V) (P0 : Nat → List Addr) (EX : EXT), Ck (fcOf P w K mg base N qual scope f cdv A outer s H E vs P0 [] al EX) →
      Room k (fcOf P w K mg base N qual scope f cdv A outer s H E vs P0 [] al EX).X.A → ∃ mod, JSs (fcOf P w K mg base N qual scope f cdv A outer s H E vs P0 [] al EX) body mod wb)
    (vc : ∀ ds q xx, ds.length = np → S ds q xx → wb (rho0 N ds) ⟨fun _ => q .none, fun d _ => q d, fun _ => False, fun _ => False, fun n _ => xx n⟩) :
    FnOk P w K mg base (L2.CX P w) (k + 1) f fd ps (SpP K mg np al S) := by
  refine F.ok Sc (fun vs H Q E h => ?_) (fun cdv A outer s H vs Q E hr h => ?_)
  · obtain ⟨ds, Fa, q, xx, hl, ha, _⟩ := h
    rw [ha.len, hl, hnp]
  · obtain ⟨ds, Fa, q, xx, hl, ha, hS, hq, hx⟩ := h
    have ck : Ck (fcOf P w K mg base N qual scope f cdv A outer s H E vs (fun i => Fa.getD i []) [] al (fun n _ => xx n)) := by
      refine ⟨rfl, Sc.nd, passes_call (takes_of rfl rfl rfl rfl) (fun _ _ _ _ h => h), fun n ρ Fs σ H' cls h1 h2 h3 => ?_⟩
      exact hx n H' cls h1 (h2.frm.mono fun a ⟨i, hi, _⟩ => by cases hi) h2.dom h3
    have hN : N.length ≥ ps.length := by have := congrArg List.length Sc.pre; rw [List.length_take] at this; omega
    refine ⟨_, (hb cdv A outer s H E vs (fun i => Fa.getD i []) (fun n _ => xx n) ck hr).choose_spec.ps, rho0 N ds, fun i => Fa.getD i [], _, ?_, vc ds q xx hl hS, rfl, ?_⟩
    · refine ⟨?_, fun i t e => ?_, fun i e => ?_, fun i j t _ e o => ?_, .refl, fun _ h => h⟩
      · unfold L2.start rho0
        simp [ha.len]
      · unfold rho0 at e
        by_cases hi : i < ds.length
        · rw [List.getElem?_append_left (by simpa using hi), List.getElem?_map] at e
          cases ed : ds[i]? with
          | none => rw [ed] at e; cases e
          | some d =>
            rw [ed] at e
            cases e
            obtain ⟨v, e1, r⟩ := ha.get ed
            refine ⟨v, ?_, r, rfl⟩
            unfold L2.start
            rw [List.getElem?_append_left (by rw [List.length_map, ha.len]; exact hi), List.getElem?_map, e1]
            rfl
        · rw [List.getElem?_append_right (by simp; omega), List.getElem?_replicate] at e
          split at e
          · cases e
            show Fa.getD i [] = []
            rw [List.getD_eq_getElem?_getD, List.getElem?_eq_none (by rw [ha.fl]; omega)]
            rfl
          · cases e
      · rw [List.getD_eq_getElem?_getD, List.getElem?_eq_none]
        · rfl
        · rw [ha.fl]
          have := List.getElem?_eq_none_iff.mp e
          unfold rho0 at this
          simp at this
          omega
      · unfold rho0 at e
        rcases List.mem_append.mp (List.mem_of_getElem? e) with m | m
        · obtain ⟨d, _, rfl⟩ := List.mem_map.mp m
          cases o
        · rw [List.eq_of_mem_replicate m] at o
          cases o
    · refine ⟨fun ρ' Fs' σ' H' h1 s1 t1 => ?_, fun _ _ _ _ h => h.elim, fun _ _ _ _ h => h.elim, fun d ρ' v F σ' Fs' H' h1 s1 r1 k1 => ?_⟩
      · exact hq .none .non [] H' h1 (s1.frm.mono fun a ⟨i, hi, _⟩ => by cases hi) s1.dom .non (fun a m => by cases m) fun _ => List.nodup_nil
      · exact hq d v F H' h1 (s1.frm.mono fun a ⟨i, hi, _⟩ => by cases hi) s1.dom r1 (fun a m => (k1.ali a m).imp (fun z => z.1) id) k1.nd

/-- the changed argument -/
def paOf (ρ : Rho) (k : D → Prop) : Prop := match (ρ[0]? : Option SV) with
  | some (SV.pa h) => k h
  | _ => False
def rhoH (N : List Str) (h : D) (ds : List D) : Rho := .pa h :: (ds.map .pr ++ List.replicate (N.length - (ds.length + 1)) .un)
theorem paOf_ok {ρ : Rho} {k : D → Prop} (h : paOf ρ k) : ∃ d, ρ[0]? = some (.pa d) ∧ k d := by
  unfold paOf at h
  split at h
  · exact ⟨_, by assumption, h⟩
  · exact h.elim
theorem fn_hand {S : FSH} {wb : WS} (F : FunD K x qual params body scope [] [] f fd) (Sc : FnScope N ps scope) (hnp : ps.length = np + 1)
    (hb : ∀ (cdv : Value) (A : Around) (outer : List Env) (s : Shared) (H : Hp) (E : XK) (vs : List V) (P0 : Nat → List Addr) (EX : EXT), Ck (fcOf P w K mg base N qual scope f cdv A outer s H E vs P0 [0] (al.map (· + 1)) EX) →
      Room k (fcOf P w K mg base N qual scope f cdv A outer s H E vs P0 [0] (al.map (· + 1)) EX).X.A → ∃ mod, JSs (fcOf P w K mg base N qual scope f cdv A outer s H E vs P0 [0] (al.map (· + 1)) EX) body mod wb)
    (vc : ∀ h ds q xx, ds.length = np → S h ds q xx → wb (rhoH N h ds) ⟨fun ρ => paOf ρ (q .none), fun d ρ => paOf ρ (q d), fun _ => False, fun _ => False, fun n ρ => paOf ρ (xx n)⟩) :
    FnOk P w K mg base (L2.CX P w) (k + 1) f fd ps (SpH K mg np al S) := by
  refine F.ok Sc (fun vs H Q E h => ?_) (fun cdv A outer s H vs Q E hr h => ?_)
  · obtain ⟨h, v0, F0, ds, vr, Fa, q, xx, rfl, hl, _, _, ha, _⟩ := h
    rw [List.length_cons, ha.len, hl, hnp]
  · obtain ⟨h, v0, F0, ds, vr, Fa, q, xx, rfl, hl, rh, ndh, ha, sph, hS, hq, hx⟩ := h
    generalize hP : (fun i => (F0 :: Fa).getD i []) = P0
    have p0 : P0 0 = F0 := by rw [← hP]; rfl
    have pS : ∀ i, P0 (i + 1) = Fa.getD i [] := fun i => by rw [← hP]; simp
    have out : ∀ {H' : Hp} {ρ : Rho} {Fs : Nat → List Addr} {σ : L2.St} {d : D}, SR (fcOf P w K mg base N qual scope f cdv A outer s H E (v0 :: vr) P0 [0] (al.map (· + 1)) (fun n ρ => paOf ρ (xx n))) ρ Fs σ H' → ρ[0]? = some (.pa d) →
        Fr (fun a => a ∈ F0) H H' ∧ (∀ a, H' a = none → H a = none) ∧ Rp K H' d v0 (Fs 0) ∧ (Fs 0).Nodup ∧ (∀ a ∈ Fs 0, a ∈ F0 ∨ H a = none) := fun {H' ρ Fs σ d} s1 e => by
      obtain ⟨_, v, _, h0, h2, h3, h4⟩ := s1.ok 0 _ e
      have h0 : some v0 = some v := h0
      cases h0
      refine ⟨s1.frm.mono fun a ⟨i, hi, z⟩ => ?_, s1.dom, h2, h3, fun a ha => ?_⟩
      · have hi : i = 0 := by simpa using hi
        subst hi
        rw [← p0]
        exact z
      · have := h4 a ha
        rw [← p0]
        exact this
    have ck : Ck (fcOf P w K mg base N qual scope f cdv A outer s H E (v0 :: vr) P0 [0] (al.map (· + 1)) (fun n ρ => paOf ρ (xx n))) := by
      refine ⟨rfl, Sc.nd, passes_call (takes_of rfl rfl rfl rfl) (fun _ _ _ _ h => h), fun n ρ Fs σ H' cls h1 h2 h3 => ?_⟩
      obtain ⟨d', e, h1⟩ := paOf_ok h1
      obtain ⟨o1, o2, o3, o4, o5⟩ := out h2 e
      exact hx n d' (Fs 0) H' cls h1 o1 o2 o3 o4 o5 h3
    have hN : N.length ≥ ps.length := by have := congrArg List.length Sc.pre; rw [List.length_take] at this; omega
    refine ⟨_, (hb cdv A outer s H E (v0 :: vr) P0 (fun n ρ => paOf ρ (xx n)) ck hr).choose_spec.ps, rhoH N h ds, P0, _, ?_, vc h ds q xx hl hS, rfl, ?_⟩
    · refine ⟨?_, fun i t e => ?_, fun i e => ?_, fun i j t hij e o a ha' => ?_, .refl, fun _ h => h⟩
      · unfold L2.start rhoH
        simp [ha.len]
      · cases i with
        | zero =>
          have e : some (SV.pa h) = some t := e
          cases e
          exact ⟨by simp, v0, rfl, rfl, by rw [p0]; exact rh, by rw [p0]; exact ndh, fun a m => .inl m⟩
        | succ i =>
          have e : (ds.map SV.pr ++ List.replicate (N.length - (ds.length + 1)) .un)[i]? = some t := e
          by_cases hi : i < ds.length
          · rw [List.getElem?_append_left (by simpa using hi), List.getElem?_map] at e
            cases ed : ds[i]? with
            | none => rw [ed] at e; cases e
            | some d =>
              rw [ed] at e
              cases e
              obtain ⟨v, e1, r⟩ := ha.get ed
              refine ⟨v, ?_, by rw [pS]; exact r, rfl⟩
              show (L2.start N (v0 :: vr))[i + 1]? = _
              unfold L2.start
              rw [List.getElem?_append_left (by simp [ha.len]; exact hi), List.getElem?_map, List.getElem?_cons_succ, e1]
              rfl
          · rw [List.getElem?_append_right (by simp; omega), List.getElem?_replicate] at e
            split at e
            · cases e
              show P0 (i + 1) = []
              rw [pS, List.getD_eq_getElem?_getD, List.getElem?_eq_none (by rw [ha.fl]; omega)]
              rfl
            · cases e
      · cases i with
        | zero => cases e
        | succ i =>
          rw [pS, List.getD_eq_getElem?_getD, List.getElem?_eq_none]
          · rfl
          · rw [ha.fl]
            have := List.getElem?_eq_none_iff.mp e
            unfold rhoH at this
            simp at this
            omega
      · cases i with
        | zero =>
          rw [p0] at ha'
          cases j with
          | zero => exact absurd rfl hij
          | succ j =>
            rw [pS]
            intro z
            by_cases hj : j < Fa.length
            · rw [List.getD_eq_getElem?_getD, List.getElem?_eq_getElem hj] at z
              exact sph a ha' _ (List.getElem_mem hj) z
            · rw [List.getD_eq_getElem?_getD, List.getElem?_eq_none (by omega)] at z
              cases z
        | succ i =>
          have e : (ds.map SV.pr ++ List.replicate (N.length - (ds.length + 1)) .un)[i]? = some t := e
          rcases List.mem_append.mp (List.mem_of_getElem? e) with m | m
          · obtain ⟨d, _, rfl⟩ := List.mem_map.mp m
            cases o
          · rw [List.eq_of_mem_replicate m] at o
            cases o
    · refine ⟨fun ρ' Fs' σ' H' h1 s1 t1 => ?_, fun _ _ _ _ h => h.elim, fun _ _ _ _ h => h.elim, fun d ρ' v F σ' Fs' H' h1 s1 r1 k1 => ?_⟩
      · obtain ⟨d', e, h1⟩ := paOf_ok h1
        obtain ⟨o1, o2, o3, o4, o5⟩ := out s1 e
        exact hq .none d' .non [] (Fs' 0) H' h1 o1 o2 o3 o4 o5 .non (fun a m => by cases m) fun _ => List.nodup_nil
      · obtain ⟨d', e, h1⟩ := paOf_ok h1
        obtain ⟨o1, o2, o3, o4, o5⟩ := out s1 e
        refine hq d d' v F (Fs' 0) H' h1 o1 o2 o3 o4 o5 r1 (fun a m => ?_) fun z => k1.nd (by rw [z]; rfl)
        rcases k1.ali a m with z | ⟨i, hi, z⟩
        · exact .inl ⟨z.1, z.2 0 (by simp)⟩
        · obtain ⟨i', hi', rfl⟩ := List.mem_map.mp hi
          have z : a ∈ P0 (i' + 1) := z
          rw [pS] at z
          exact .inr ⟨i', hi', z⟩
end
end L3

namespace L3
open PySem PySem.Spec PyProof.Rows L2

/-! ### what a loop walks, by values -/
structure Walk (K : PySem.W.Frag) (J : It) (ds : List D) (F : List Addr) (Sd : Hp → Prop) : Prop where
  go : ∀ i d H, Sd H → ds[i]? = some d → J.go i H ∧ ∀ x H', J.yld i H x H' → Fr (fun _ => False) H H' ∧ (∀ a, H' a = none → H a = none) ∧ ∃ G, Rp K H' d x G ∧ ∀ a ∈ G, a ∈ F
  stop : ∀ i H, Sd H → ds.length ≤ i → J.stop i H
  keep : ∀ H H' (A : Addr → Prop), Sd H → Fr A H H' → (∀ a ∈ F, ¬ A a) → Sd H'
abbrev WI := Rho → (List D → Rho → Prop) → EXT → Prop
def rdI (C : FC) (ns mod : List Nat) (w : WI) : TI := fun σ H R => ∃ ρ Fs q, SR C ρ Fs σ H ∧ w ρ q C.EX ∧
  ∀ ds ρ' J F Sd H' Fs', q ds ρ' → SR C ρ' Fs' σ H' → Stp mod ρ Fs H ρ' Fs' H' → Walk C.K J ds F Sd → Sd H' → (∀ a ∈ F, (∃ o, H' a = some o) ∧ ((∀ i, a ∉ Fs' i) ∨ ∃ i ∈ ns, a ∈ Fs' i)) → R J H'
structure JI (C : FC) (tg iter : Expr) (ns mod : List Nat) (w : WI) : Prop where
  pi : PI C.X tg iter (rdI C ns mod w)
theorem PI.imp {X : Cx} {tg e : Expr} {t t' : TI} (h : PI X tg e t) (i : ∀ σ H Q, t' σ H Q → t σ H Q) : PI X tg e t' := ⟨fun pins s σ H Q I q => h.run pins s σ H Q I (i σ H Q q)⟩
def wiList (wa : WE) : WI := fun ρ q E => wa ρ (fun d ρ1 => match d with | .list ds => q ds ρ1 | .fl ds => q ds ρ1 | _ => False) E
def wiTup (wa : WE) : WI := fun ρ q E => wa ρ (fun d ρ1 => match d with | .tuple ds => q ds ρ1 | _ => False) E
theorem res_alias {a0 a1 : List Nat} {K : PySem.W.Frag} {H H1 : Hp} {Fs : Nat → List Addr} {d : D} {v : V} {F : List Addr} (r : Rp K H1 d v F) (k : Res a0 a1 H Fs d F) : ∀ a ∈ F, (∃ o, H1 a = some o) ∧ ((∀ i, a ∉ Fs i) ∨ ∃ i ∈ a0 ++ a1, a ∈ Fs i) := fun a m =>
  ⟨(r.trk a m).imp' _ fun _ h => h, (k.ali a m).imp (fun z => z.2) id⟩
section
variable {C : FC} {tg e a b : Expr} {a0 a1 m1 b0 b1 m2 : List Nat} {wa wb : WE} {p pos : Pos}
theorem ji_list (h : JE C e a0 a1 m1 wa) : JI C tg e (a0 ++ a1) m1 (wiList wa) := by
  refine ⟨PI.imp (pi_list h.pe) ?_⟩
  rintro σ H R ⟨ρ, Fs, q, s, hw, k⟩
  refine ⟨ρ, Fs, _, s, hw, fun d ρ1 v F H1 Fs1 h1 s1 t1 r1 k1 => ?_⟩
  have al := res_alias r1 k1
  cases r1 <;> first | exact h1.elim | skip
  · rename_i a vs ds F hl r
    refine ⟨a, rfl, ⟨vs, SqL.of hl⟩, k ds ρ1 (Itl C.K a) (a :: F) (fun H => H a = some (.lst vs) ∧ RpL C.K H ds vs F) H1 Fs1 h1 s1 t1 ⟨fun i d H hs hd => ?_, fun i H hs hi => ?_, fun H H' A hs f n => ?_⟩ ⟨hl, r⟩ al⟩
    · obtain ⟨v, G, e1, e2, e3⟩ := hs.2.getD hd
      refine ⟨⟨vs, v, SqL.of hs.1, e1⟩, fun x H' ⟨eH, hx⟩ => ?_⟩
      subst eH
      have := hx vs (SqL.of hs.1)
      rw [e1] at this
      cases this
      exact ⟨.refl, fun _ h => h, G, e2, fun a m => List.mem_cons_of_mem _ (e3 a m)⟩
    · exact ⟨vs, SqL.of hs.1, by rw [hs.2.len]; exact hi⟩
    · exact ⟨f _ _ hs.1 (fun ps => .inr trivial) (fun z => absurd z (n _ List.mem_cons_self)), hs.2.frm f fun a m => n a (List.mem_cons_of_mem _ m)⟩
  · rename_i a vs ds hl r
    refine ⟨a, rfl, ⟨vs, hl.sq⟩, k ds ρ1 (Itl C.K a) F (fun H => SqR C.K H a vs ∧ RpL C.K H ds vs F) H1 Fs1 h1 s1 t1 ⟨fun i d H hs hd => ?_, fun i H hs hi => ?_, fun H H' A hs f n => ?_⟩ ⟨hl, r⟩ al⟩
    · obtain ⟨v, G, e1, e2, e3⟩ := hs.2.getD hd
      refine ⟨⟨vs, v, hs.1.sq, e1⟩, fun x H' ⟨eH, hx⟩ => ?_⟩
      subst eH
      have := hx vs hs.1.sq
      rw [e1] at this
      cases this
      exact ⟨.refl, fun _ h => h, G, e2, e3⟩
    · exact ⟨vs, hs.1.sq, by rw [hs.2.len]; exact hi⟩
    · exact ⟨sqR_frm hs.1 f, hs.2.frm f n⟩
theorem ji_tup (h : JE C e a0 a1 m1 wa) : JI C tg e (a0 ++ a1) m1 (wiTup wa) := by
  refine ⟨PI.imp (pi_tup h.pe) ?_⟩
  rintro σ H R ⟨ρ, Fs, q, s, hw, k⟩
  refine ⟨ρ, Fs, _, s, hw, fun d ρ1 v F H1 Fs1 h1 s1 t1 r1 k1 => ?_⟩
  have al := res_alias r1 k1
  cases r1 <;> first | exact h1.elim | skip
  rename_i a vs ds hl r
  refine ⟨a, rfl, ⟨vs, hl⟩, k ds ρ1 (Itt C.K a) F (fun H => SqT C.K H a vs ∧ RpL C.K H ds vs F) H1 Fs1 h1 s1 t1 ⟨fun i d H hs hd => ?_, fun i H hs hi => ?_, fun H H' A hs f n => ?_⟩ ⟨hl, r⟩ al⟩
  · obtain ⟨v, G, e1, e2, e3⟩ := hs.2.getD hd
    refine ⟨⟨vs, v, hs.1, e1⟩, fun x H' ⟨eH, hx⟩ => ?_⟩
    subst eH
    have := hx vs hs.1
    rw [e1] at this
    cases this
    exact ⟨.refl, fun _ h => h, G, e2, e3⟩
  · exact ⟨vs, hs.1, by rw [hs.2.len]; exact hi⟩
  · exact ⟨sqT_frm hs.1 f, hs.2.frm f n⟩
/-- lo, lo + 1, .. (n of them) -/
def rngL (lo : Int) (n : Nat) : List D := (List.range n).map fun i => .int (lo + (i : Nat))
theorem rngL_len {lo : Int} {n : Nat} : (rngL lo n).length = n := by simp [rngL]
theorem walk_rng {K : PySem.W.Frag} {lo : Int} {n : Nat} : Walk K (Itr lo n) (rngL lo n) [] fun _ => True where
  go := fun i d H _ hd => by
    have hi : i < n := by have := (List.getElem?_eq_some_iff.mp hd).1; rwa [rngL_len] at this
    refine ⟨hi, fun x H' ⟨eH, ex⟩ => ?_⟩
    subst eH ex
    unfold rngL at hd
    rw [List.getElem?_map, List.getElem?_range hi] at hd
    cases hd
    exact ⟨.refl, fun _ h => h, [], .int _, fun _ m => m⟩
  stop := fun i H _ hi => by rw [rngL_len] at hi; exact hi
  keep := fun _ _ _ _ _ _ => trivial
def wiR1 (wr : WA) : WI := fun ρ q E => wr ρ (fun ds ρ1 => match ds with
  | [.int j] => (-(2 ^ 62) ≤ j ∧ j < 2 ^ 62) ∧ q (rngL 0 j.toNat) ρ1
  | _ => False) E
def wiR2 (wr : WA) : WI := fun ρ q E => wr ρ (fun ds ρ1 => match ds with
  | [.int i, .int j] => (-(2 ^ 62) ≤ i ∧ i < 2 ^ 62 ∧ -(2 ^ 62) ≤ j ∧ j < 2 ^ 62) ∧ q (rngL i (j - i).toNat) ρ1
  | _ => False) E
theorem argR1 {C : FC} {H H' : Hp} {Fs' : Nat → List Addr} {σ : L2.St} {ρ' : Rho} {ks : List AK} {d : D} {vs : List V} {Fa : List (List Addr)} (h : ArgR C H H' Fs' σ ρ' ks [d] vs Fa) : ∃ v F, vs = [v] ∧ Fa = [F] ∧ Rp C.K H' d v F := by
  have h := argR_argF h
  match vs, Fa, h with
  | [v], [F], h => exact ⟨v, F, rfl, rfl, h.1⟩
  | [], _, h => exact h.elim
  | [_], [], h => exact h.elim
  | _ :: _ :: _, [], h => exact h.elim
  | [_], _ :: _ :: _, h => exact h.2.elim
  | _ :: _ :: _, _ :: _, h => exact h.2.elim
theorem argR2 {C : FC} {H H' : Hp} {Fs' : Nat → List Addr} {σ : L2.St} {ρ' : Rho} {ks : List AK} {d e : D} {vs : List V} {Fa : List (List Addr)} (h : ArgR C H H' Fs' σ ρ' ks [d, e] vs Fa) : ∃ v u F G, vs = [v, u] ∧ Fa = [F, G] ∧ Rp C.K H' d v F ∧ Rp C.K H' e u G := by
  have h := argR_argF h
  match vs, Fa, h with
  | [v, u], [F, G], h => exact ⟨v, u, F, G, rfl, rfl, h.1, h.2.1⟩
  | [], _, h => exact h.elim
  | [_], [], h => exact h.elim
  | [_], _ :: _, h => exact h.2.elim
  | _ :: _ :: _, [], h => exact h.elim
  | _ :: _ :: _, [_], h => exact h.2.elim
  | [_, _], _ :: _ :: _ :: _, h => exact h.2.2.elim
  | _ :: _ :: _ :: _, _ :: _ :: _, h => exact h.2.2.elim
variable {wr : WA} {ks : List AK}
theorem ji_r1 (hg : Gl C.X "range") (hm : C.X.mg "range" = none) (ha : JA C [a] ks m1 wr) (hs : starEach [a] C.X.env = [(false, eval a C.X.env)] := by rfl) : JI C tg (.Call (.Name "range" p) [a] [] pos) [] m1 (wiR1 wr) := by
  refine ⟨PI.imp (pi_range1 hg hm ha.pa hs) ?_⟩
  rintro σ H R ⟨ρ, Fs, q, s, hw, k⟩
  refine ⟨ρ, Fs, _, s, hw, fun ds ρ1 vs Fa H1 Fs1 h1 s1 t1 r1 n1 => ?_⟩
  split at h1
  · obtain ⟨v, F, rfl, rfl, rv⟩ := argR1 r1
    cases rv
    exact ⟨_, rfl, h1.1.1, h1.1.2, k _ ρ1 _ [] _ H1 Fs1 h1.2 s1 t1 walk_rng trivial fun a m => by cases m⟩
  · exact h1.elim
theorem ji_r2 (hg : Gl C.X "range") (hm : C.X.mg "range" = none) (ha : JA C [a, b] ks m1 wr) (hs : starEach [a, b] C.X.env = [(false, eval a C.X.env), (false, eval b C.X.env)] := by rfl) (hs2 : starEach [b] C.X.env = [(false, eval b C.X.env)] := by rfl) :
    JI C tg (.Call (.Name "range" p) [a, b] [] pos) [] m1 (wiR2 wr) := by
  refine ⟨PI.imp (pi_range2 hg hm ha.pa hs hs2) ?_⟩
  rintro σ H R ⟨ρ, Fs, q, s, hw, k⟩
  refine ⟨ρ, Fs, _, s, hw, fun ds ρ1 vs Fa H1 Fs1 h1 s1 t1 r1 n1 => ?_⟩
  unfold wiR2 at hw
  split at h1
  · obtain ⟨v, u, F, G, rfl, rfl, rv, ru⟩ := argR2 r1
    cases rv
    cases ru
    exact ⟨_, _, rfl, h1.1, k _ ρ1 _ [] _ H1 Fs1 h1.2 s1 t1 walk_rng trivial fun a m => by cases m⟩
  · exact h1.elim
end
/-! ### targets -/
abbrev WG := D → Rho → (Rho → Prop) → Prop
/-- a target that takes what holds no list; is: the slots it sets -/
structure JG (C : FC) (tg : Expr) (is : List Nat) (t : TG) (g : WG) : Prop where
  pg : PG C.X tg t
  ok : ∀ d v ρ Fs σ H q Q, SR C ρ Fs σ H → Rp C.K H d v [] → g d ρ q →
    (∀ ρ' Fs' σ', q ρ' → SR C ρ' Fs' σ' H → (∀ i, i ∉ is → Fs' i = Fs i ∧ σ'[i]? = σ[i]? ∧ ρ'[i]? = ρ[i]?) → (∀ i ∈ is, Fs' i = []) → σ'.length = σ.length → Q σ' H) → t v σ H Q
def gNm (i : Nat) : WG := fun d ρ q => (i < ρ.length ∧ imm d = true) ∧ q (ρ.set i (.ow d))
theorem jg_name {C : FC} {i : Nat} {x : Str} {pos : Pos} (hN : C.X.N.Nodup) (hi : C.X.N[i]? = some x) (hx : Loc C.X.env.scope x) (hf : C.X.fn x = true ∨ C.X.env.scope.names.lookup x = some .local := by first | exact .inl rfl | exact .inr rfl | assumption) :
    JG C (.Name x pos) [i] (gName i) (gNm i) := by
  refine ⟨pg_name hN hi hx hf, fun d v ρ Fs σ H q Q s r hg k => ?_⟩
  obtain ⟨⟨hl, hm⟩, hq⟩ := hg
  refine k _ (pst Fs i []) _ hq (s.setS (u := .ow d) hl ⟨v, rfl, r, List.nodup_nil, fun a m => by cases m⟩ fun j t _ _ _ a m => by cases m) (fun j hj => ?_) (fun j hj => ?_) (by rw [List.length_set])
  · have e : j ≠ i := by simpa using hj
    exact ⟨pst_ne e, List.getElem?_set_ne (Ne.symm e), List.getElem?_set_ne (Ne.symm e)⟩
  · have e : j = i := by simpa using hj
    subst e
    exact pst_same
/-- a, b, .. = a tuple -/
def gTp (gs : List D → Rho → (Rho → Prop) → Prop) : WG := fun d ρ q => match d with
  | .tuple ds => gs ds ρ q
  | _ => False
structure JGs (C : FC) (ts : List Expr) (is : List Nat) (t : TGs) (g : List D → Rho → (Rho → Prop) → Prop) : Prop where
  pg : PGs C.X ts t
  ok : ∀ ds vs ρ Fs σ H q Q, SR C ρ Fs σ H → RpL C.K H ds vs [] → g ds ρ q →
    (∀ ρ' Fs' σ', q ρ' → SR C ρ' Fs' σ' H → (∀ i, i ∉ is → Fs' i = Fs i ∧ σ'[i]? = σ[i]? ∧ ρ'[i]? = ρ[i]?) → (∀ i ∈ is, Fs' i = []) → σ'.length = σ.length → Q σ' H) → t vs σ H Q
  ln : ∀ ds ρ q, g ds ρ q → ds.length = ts.length
def ggNil : List D → Rho → (Rho → Prop) → Prop := fun ds ρ q => match ds with
  | [] => q ρ
  | _ => False
def ggCons (g : WG) (gs : List D → Rho → (Rho → Prop) → Prop) : List D → Rho → (Rho → Prop) → Prop := fun ds ρ q => match ds with
  | d :: ds => g d ρ fun ρ1 => gs ds ρ1 q
  | _ => False
theorem jgs_nil {C : FC} : JGs C [] [] gNil ggNil := by
  refine ⟨pgs_nil, fun ds vs ρ Fs σ H q Q s r hg k => ?_, fun ds ρ q h => ?_⟩
  · cases ds with
    | nil => cases r; exact ⟨rfl, k ρ Fs σ hg s (fun _ _ => ⟨rfl, rfl, rfl⟩) (fun _ m => by cases m) rfl⟩
    | cons _ _ => exact hg.elim
  · cases ds with
    | nil => rfl
    | cons _ _ => exact h.elim
theorem jgs_cons {C : FC} {e : Expr} {es : List Expr} {is js : List Nat} {t : TG} {u : TGs} {g : WG} {gs : List D → Rho → (Rho → Prop) → Prop} (h : JG C e is t g) (h' : JGs C es js u gs) (hg : ∀ d ρ (q : Rho → Prop) , g d ρ q → ∃ ρ1, q ρ1)
    (hs : (assignEach (e :: es) C.X.env).map (·.2) = assign e C.X.env :: (assignEach es C.X.env).map (·.2) := by rfl) : JGs C (e :: es) (is ++ js) (gCons t u) (ggCons g gs) := by
  have ht := h.ok
  have hu := h'.ok
  refine ⟨pgs_cons h.pg h'.pg hs, fun ds vs ρ Fs σ H q Q s r hgs k => ?_, fun ds ρ q hh => ?_⟩
  · cases ds with
    | nil => exact hgs.elim
    | cons d ds =>
      generalize hF : ([] : List Addr) = F0 at r
      cases r with
      | cons r1 r2 =>
        rename_i v F vs G
        have e0 := List.append_eq_nil_iff.mp hF.symm
        have r1 : Rp C.K H d v [] := e0.1 ▸ r1
        have r2 : RpL C.K H ds vs [] := e0.2 ▸ r2
        refine ⟨v, vs, rfl, ht d v ρ Fs σ H _ _ s r1 hgs fun ρ1 Fs1 σ1 h1 s1 k1 n1 l1 => ?_⟩
        refine hu ds vs ρ1 Fs1 σ1 H _ _ s1 r2 h1 fun ρ2 Fs2 σ2 h2 s2 k2 n2 l2 => ?_
        refine k ρ2 Fs2 σ2 h2 s2 (fun i hi => ?_) (fun i hi => ?_) (l2.trans l1)
        · have a := k1 i fun z => hi (List.mem_append_left _ z)
          have b := k2 i fun z => hi (List.mem_append_right _ z)
          exact ⟨b.1.trans a.1, b.2.1.trans a.2.1, b.2.2.trans a.2.2⟩
        · by_cases z : i ∈ js
          · exact n2 i z
          · rw [(k2 i z).1]
            exact n1 i ((List.mem_append.mp hi).resolve_right z)
  · cases ds with
    | nil => exact hh.elim
    | cons d ds =>
      obtain ⟨ρ1, h1⟩ := hg d ρ _ hh
      simp [h'.ln ds ρ1 q h1]
theorem jg_tup {C : FC} {es : List Expr} {k : Nat} {is : List Nat} {t : TGs} {gs : List D → Rho → (Rho → Prop) → Prop} {pos : Pos} (hc : C.X.calm = true) (h : JGs C es is t gs)
    (hn : (assignEach es C.X.env).length = es.length := by rfl) (hst : (assignEach es C.X.env).findIdx? (·.1) = none := by rfl) : JG C (.Tuple es k pos) is (gTup C.X.K es.length t) (gTp gs) := by
  have ht := h.ok
  refine ⟨pg_tup hc h.pg hn hst, fun d v ρ Fs σ H q Q s r hg k => ?_⟩
  unfold gTp at hg
  split at hg
  · rename_i ds
    generalize hF : ([] : List Addr) = F0 at r
    cases r with
    | tup hl r =>
      subst hF
      exact ⟨_, _, rfl, hl, by rw [r.len]; exact h.ln ds ρ q hg, ht ds _ ρ Fs σ H q Q s r hg k⟩
  · exact hg.elim
theorem gNm_hg {i : Nat} : ∀ d ρ (q : Rho → Prop), gNm i d ρ q → ∃ ρ1, q ρ1 := fun _ _ _ h => ⟨_, h.2⟩
end L3

namespace L3
open PySem PySem.Spec PyProof.Rows L2

/-! ### for -/
def loopW (g : WG) (w : WS) : List D → Rho → WEnds → Prop
  | [], ρ, W => W.nx ρ
  | d :: ds, ρ, W => imm d = true ∧ g d ρ fun ρ1 => w ρ1 { W with nx := fun ρ2 => loopW g w ds ρ2 W, ct := fun ρ2 => loopW g w ds ρ2 W, bk := W.nx }
def wsFor (wi : WI) (g : WG) (w : WS) : WS := fun ρ W => wi ρ (fun ds ρ1 => loopW g w ds ρ1 W) W.ex
/-- what the walked things share stays apart from what the turns change -/
def Apart (ns : List Nat) (H1 : Hp) (Fs : Nat → List Addr) (F : List Addr) : Prop := ∀ a ∈ F, (∃ o, H1 a = some o) ∧ ((∀ i, a ∉ Fs i) ∨ ∃ i ∈ ns, a ∈ Fs i)
theorem Apart.step {C : FC} {ns mod : List Nat} {ρ ρ' : Rho} {Fs Fs' : Nat → List Addr} {σ : L2.St} {H H' : Hp} {F : List Addr} (x : Apart ns H Fs F) (s : SR C ρ Fs σ H) (t : Stp mod ρ Fs H ρ' Fs' H') (d : dj ns mod = true) :
    (∀ a ∈ F, ¬ Md mod ρ Fs a) ∧ ∀ a ∈ F, (∀ i, a ∉ Fs' i) ∨ ∃ i ∈ ns, a ∈ Fs' i := by
  have dd := dj_ok d
  refine ⟨fun a ha ⟨j, hj, ⟨u, e, o⟩, hja⟩ => ?_, fun a ha => ?_⟩
  · rcases (x a ha).2 with n | ⟨i, hi, hia⟩
    · exact n j hja
    · by_cases e2 : j = i
      · subst e2; exact dd _ hi hj
      · exact s.sep j i u e2 e o a hja hia
  · obtain ⟨⟨o, ho⟩, h⟩ := x a ha
    rcases h with n | ⟨i, hi, hia⟩
    · refine .inl fun i hi => ?_
      rcases t.src i a hi with z | ⟨j, hj⟩
      · rw [ho] at z; cases z
      · exact n j hj
    · exact .inr ⟨i, hi, by rw [t.same i (dd i hi)]; exact hia⟩
/-- a target's step -/
theorem stp_target {is : List Nat} {ρ ρ' : Rho} {Fs Fs' : Nat → List Addr} {H : Hp} (k : ∀ i, i ∉ is → Fs' i = Fs i ∧ ρ'[i]? = ρ[i]?) (n : ∀ i ∈ is, Fs' i = []) : Stp is ρ Fs H ρ' Fs' H := by
  refine ⟨.refl, fun i hi => (k i hi).1, fun i a ⟨u, e, o⟩ ha => ?_, fun _ h => h, fun i a ha => ?_⟩
  · by_cases hi : i ∈ is
    · rw [n i hi] at ha; cases ha
    · exact .inr ⟨i, .inl rfl, ⟨u, by rw [← (k i hi).2]; exact e, o⟩, by rw [← (k i hi).1]; exact ha⟩
  · by_cases hi : i ∈ is
    · rw [n i hi] at ha; cases ha
    · exact .inr ⟨i, by rw [← (k i hi).1]; exact ha⟩
section
variable {C : FC} {tg iter : Expr} {body : List Stmt} {ns m1 m2 is : List Nat} {wi : WI} {t : TG} {g : WG} {w : WS} {pos : Pos}
theorem js_for (hp : PassesOwn (model C.X.prog C.X.w) C.X.A C.X.env C.X.xe) (hc : C.X.calm = true) (hi : JI C tg iter ns m1 wi) (hg : JG C tg is t g) (hb : JSs C body m2 w) (d : dj ns (is ++ m2) = true := by decide)
    (hs : ∀ x, foldedSetIterable iter C.X.env x = pure x := by intro _; rfl) : JS C (.For tg iter body [] pos) (m1 ++ (is ++ m2)) (wsFor wi g w) := by
  have ht := hg.ok
  refine ⟨PS.imp (ps_for hp hc hi.pi hg.pg hb.ps hs) ?_⟩
  rintro De σ H ⟨ρ, Fs, W, s, hw, ex, k⟩
  unfold wsFor at hw
  rw [ex] at hw
  refine ⟨ρ, Fs, _, s, hw, fun ds ρ1 J F Sd H1 Fs1 h1 s1 t1 wk sd al => ?_⟩
  refine ⟨fun i m σ' H' => m = ds.length - i ∧ i ≤ ds.length ∧ ∃ ρ' Fs', SR C ρ' Fs' σ' H' ∧ Stp (is ++ m2) ρ1 Fs1 H1 ρ' Fs' H' ∧ Sd H' ∧ loopW g w (ds.drop i) ρ' W, ⟨ds.length, by simp, Nat.zero_le _, ρ1, Fs1, s1, .refl, sd, by simpa using h1⟩, ?_⟩
  rintro i m σ' H' ⟨rfl, hi, ρ', Fs', s', t', sd', h'⟩
  by_cases hlt : i < ds.length
  · rw [List.drop_eq_getElem_cons hlt] at h'
    obtain ⟨himm, h'⟩ := h'
    have hd : ds[i]? = some ds[i] := List.getElem?_eq_getElem hlt
    obtain ⟨hgo, hy⟩ := wk.go i _ H' sd' hd
    have al1 : Apart ns H1 Fs1 F := al
    have al2 : Apart ns H' Fs' F := fun a ha => by
      obtain ⟨o, ho⟩ := (al a ha).1
      refine ⟨?_, (al1.step s1 t' d).2 a ha⟩
      cases e : H' a with
      | some o' => exact ⟨o', rfl⟩
      | none => have := t'.dom a e; rw [ho] at this; cases this
    refine .inr ⟨hgo, fun σ2 H2 => ∃ ρ2 Fs2, SR C ρ2 Fs2 σ2 H2 ∧ Stp (is ++ m2) ρ1 Fs1 H1 ρ2 Fs2 H2 ∧ Sd H2 ∧ loopW g w (ds.drop (i + 1)) ρ2 W, fun σ2 H2 ⟨ρ2, Fs2, a, b, c, e⟩ => ⟨ds.length - (i + 1), by omega, rfl, hlt, ρ2, Fs2, a, b, c, e⟩, fun x H2 y => ?_⟩
    obtain ⟨fr, dm, G, rx, _⟩ := hy x H2 y
    have hG := rx.imm0 himm
    subst hG
    have s2 := s'.new fr dm
    have t2 : Stp (is ++ m2) ρ1 Fs1 H1 ρ' Fs' H2 := (t'.trans (Stp.new fr dm)).mono (by simp)
    have sd2 : Sd H2 := wk.keep H' H2 _ sd' fr fun _ _ z => z
    refine ht _ x ρ' Fs' σ' H2 _ _ s2 rx h' fun ρ3 Fs3 σ3 h3 s3 k3 n3 _ => ?_
    have t3 : Stp (is ++ m2) ρ1 Fs1 H1 ρ3 Fs3 H2 := (t2.trans (stp_target (is := is) (fun i hi => ⟨(k3 i hi).1, (k3 i hi).2.2⟩) n3)).mono (by simp +contextual [or_imp])
    have al3 : Apart ns H2 Fs3 F := fun a ha => by
      obtain ⟨o, ho⟩ := (al a ha).1
      refine ⟨?_, (al1.step s1 t3 d).2 a ha⟩
      cases e : H2 a with
      | some o' => exact ⟨o', rfl⟩
      | none => have := t3.dom a e; rw [ho] at this; cases this
    have dm2 : dj ns m2 = true := by
      unfold dj at d ⊢
      rw [List.all_eq_true] at d ⊢
      intro j hj
      have := d j hj
      simp at this ⊢
      exact this.2
    refine ⟨ρ3, Fs3, _, s3, h3, ex, ⟨fun ρ4 Fs4 σ4 H4 h4 s4 t4 => ?_, fun ρ4 Fs4 σ4 H4 h4 s4 t4 => ?_, fun ρ4 Fs4 σ4 H4 h4 s4 t4 => ?_, k.rt⟩⟩
    · exact ⟨ρ4, Fs4, s4, (t3.trans t4).mono (by simp +contextual [or_imp]), wk.keep H2 H4 _ sd2 t4.fr (al3.step s3 t4 dm2).1, h4⟩
    · exact k.nx ρ4 Fs4 σ4 H4 h4 s4 ((t1.trans (t3.trans t4)).mono (by simp +contextual [or_imp]))
    · exact ⟨ρ4, Fs4, s4, (t3.trans t4).mono (by simp +contextual [or_imp]), wk.keep H2 H4 _ sd2 t4.fr (al3.step s3 t4 dm2).1, h4⟩
  · have e : i = ds.length := by omega
    subst e
    rw [List.drop_length] at h'
    exact .inl ⟨wk.stop _ H' sd' (Nat.le_refl _), k.nx ρ' Fs' σ' H' h' s' (t1.trans t')⟩
/-! ### while -/
/-- n turns at most -/
def whileW (t : WT) (w : WS) : Nat → Rho → WEnds → Prop
  | 0, _, _ => False
  | n + 1, ρ, W => t ρ (fun b ρ1 => if b = true then w ρ1 { W with nx := fun ρ2 => whileW t w n ρ2 W, ct := fun ρ2 => whileW t w n ρ2 W, bk := W.nx } else W.nx ρ1) W.ex
def wsWhile (t : WT) (w : WS) : WS := fun ρ W => ∃ n, whileW t w n ρ W
theorem js_while {c : Expr} {tc : WT} (hp : PassesOwn (model C.X.prog C.X.w) C.X.A C.X.env C.X.xe) (hc : JT C c m1 tc) (hb : JSs C body m2 w) : JS C (.While c body [] pos) (m1 ++ m2) (wsWhile tc w) := by
  refine ⟨PS.imp (ps_while hp hc.pt hb.ps) ?_⟩
  rintro De σ H ⟨ρ, Fs, W, s, ⟨n, hw⟩, ex, k⟩
  refine ⟨fun m σ' H' => ∃ ρ' Fs', SR C ρ' Fs' σ' H' ∧ Stp (m1 ++ m2) ρ Fs H ρ' Fs' H' ∧ whileW tc w m ρ' W, ⟨n, ρ, Fs, s, .refl, hw⟩, ?_⟩
  rintro m σ' H' ⟨ρ', Fs', s', t', h'⟩
  cases m with
  | zero => exact h'.elim
  | succ m =>
    unfold whileW at h'
    rw [ex] at h'
    refine ⟨ρ', Fs', _, s', h', fun b ρ1 H1 Fs1 h1 s1 t1 => ?_⟩
    have t2 : Stp (m1 ++ m2) ρ Fs H ρ1 Fs1 H1 := (t'.trans t1).mono (by simp +contextual [or_imp])
    cases b with
    | true =>
      refine ⟨fun σ2 H2 => ∃ ρ2 Fs2, SR C ρ2 Fs2 σ2 H2 ∧ Stp (m1 ++ m2) ρ Fs H ρ2 Fs2 H2 ∧ whileW tc w m ρ2 W, fun σ2 H2 h => ⟨m, Nat.lt_succ_self _, h⟩, ?_⟩
      refine ⟨ρ1, Fs1, _, s1, h1, (by first | rfl | exact ex), ⟨fun ρ4 Fs4 σ4 H4 h4 s4 t4 => ⟨ρ4, Fs4, s4, (t2.trans t4).mono (by simp +contextual [or_imp]), h4⟩, fun ρ4 Fs4 σ4 H4 h4 s4 t4 => k.nx ρ4 Fs4 σ4 H4 h4 s4 ((t2.trans t4).mono (by simp +contextual [or_imp])), fun ρ4 Fs4 σ4 H4 h4 s4 t4 => ⟨ρ4, Fs4, s4, (t2.trans t4).mono (by simp +contextual [or_imp]), h4⟩, k.rt⟩⟩
    | false => exact k.nx ρ1 Fs1 σ' H1 h1 s1 t2
end
end L3

namespace L3
open PySem PySem.Spec PyProof.Rows L2

/-! ### the same slots in another context -/
theorem SOk.at {C C' : FC} {H : Hp} {i : Nat} {t : SV} {o : Option (Option V)} {F : List Addr} (q : SOk C H i t o F) (hK : C'.K = C.K) (h0 : C'.H0 = C.H0) (hv : C'.v0 = C.v0) (hP : C'.P0 = C.P0) (hm : C'.mt = C.mt) (hT : C'.T = C.T) (hl : C'.lam = C.lam) (hq : C'.lq = C.lq) (hc : C'.cl = C.cl) (hx : C'.exA = C.exA ∧ C'.exN = C.exN) : SOk C' H i t o F := by
  cases t with
  | fn ks =>
    obtain ⟨a, vs, h1, h2, h3, h4, h5⟩ := q
    exact ⟨a, vs, h1, h2, h3.at hl hq hc, h4, by rw [h0]; exact h5⟩
  | _ =>
    unfold SOk at q ⊢
    simp only [hK, h0, hv, hP, hm, hT, hx.1, hx.2]
    exact q
theorem SR.at {C C' : FC} {ρ : Rho} {Fs : Nat → List Addr} {σ : L2.St} {H : Hp} (s : SR C ρ Fs σ H) (hK : C'.K = C.K) (h0 : C'.H0 = C.H0) (hv : C'.v0 = C.v0) (hP : C'.P0 = C.P0) (hm : C'.mt = C.mt) (hT : C'.T = C.T := by rfl) (hl : C'.lam = C.lam := by rfl) (hq : C'.lq = C.lq := by rfl) (hc : C'.cl = C.cl := by rfl) (hx : C'.exA = C.exA ∧ C'.exN = C.exN := by exact ⟨rfl, rfl⟩) : SR C' ρ Fs σ H := by
  refine ⟨s.len, fun i t e => ?_, s.out, s.sep, by rw [hm, hP, h0]; exact s.frm, by rw [h0]; exact s.dom⟩
  exact (s.ok i t e).at hK h0 hv hP hm hT hl hq hc hx
/-- the context within a comprehension's block (nothing is let out) -/
abbrev FC.in (C : FC) (X' : Cx) : FC := { C with X := X', E := fun _ _ _ => False, EX := fun _ _ => False }
theorem Ck.in {C : FC} {s : Shared} {H : Hp} {scope : Scope} {cenv : Env} {fp : List Addr} (ck : Ck C) : Ck (C.in (C.X.blk s H scope cenv fp)) :=
  ⟨ck.calm, ck.nd, passL, fun _ _ _ _ _ _ h => h.elim⟩
section
variable {C : FC} {e : Expr} {X' : Cx} {a b m : List Nat}
theorem rdE_in (hK : X'.K = C.X.K) {w : WE} {σ : L2.St} {H : Hp} {Q : VK} (h : rdE (C.in C.X) a b m w σ H Q) : rdE (C.in X') a b m w σ H Q := by
  obtain ⟨ρ, Fs, q, s, hw, k⟩ := h
  exact ⟨ρ, Fs, q, s.at hK rfl rfl rfl rfl, hw, fun d ρ' v F H' Fs' h1 s1 t1 r1 k1 => k d ρ' v F H' Fs' h1 (s1.at hK.symm rfl rfl rfl rfl) t1 (by have : (C.in X').K = (C.in C.X).K := hK; rwa [this] at r1) k1⟩
theorem rdT_in (hK : X'.K = C.X.K) {w : WT} {σ : L2.St} {H : Hp} {Q : Bool → Hp → Prop} (h : rdT (C.in C.X) m w σ H Q) : rdT (C.in X') m w σ H Q := by
  obtain ⟨ρ, Fs, q, s, hw, k⟩ := h
  exact ⟨ρ, Fs, q, s.at hK rfl rfl rfl rfl, hw, fun b ρ' H' Fs' h1 s1 t1 => k b ρ' H' Fs' h1 (s1.at hK.symm rfl rfl rfl rfl) t1⟩
end
structure JTs (C : FC) (ifs : List Expr) (mod : List Nat) (w : WT) : Prop where
  pt : PTs C.X ifs (rdT C mod w)
def wtYes : WT := fun ρ q _ => q true ρ
theorem jts_nil {C : FC} : JTs C [] [] wtYes := ⟨⟨fun pins s σ H Q I ⟨ρ, Fs, q, sr, hw, k⟩ => (pts_nil (X := C.X)).run pins s σ H Q I (k true ρ H Fs hw sr .refl)⟩⟩
theorem jts_one {C : FC} {c : Expr} {m : List Nat} {w : WT} (h : JT C c m w) : JTs C [c] m w := ⟨pts_one h.pt⟩
theorem PTs.imp {X : Cx} {e : List Expr} {t t' : TT} (h : PTs X e t) (i : ∀ σ H Q, t' σ H Q → t σ H Q) : PTs X e t' := ⟨fun pins s σ H Q I q => h.run pins s σ H Q I (i σ H Q q)⟩

/-! ### slots forgotten -/
def unS (ρ : Rho) : List Nat → Rho
  | [] => ρ
  | v :: vs => (unS ρ vs).set v .un
def unF (Fs : Nat → List Addr) (is : List Nat) : Nat → List Addr := fun j => if j ∈ is then [] else Fs j
theorem unS_len {ρ : Rho} : ∀ {is : List Nat}, (unS ρ is).length = ρ.length
  | [] => rfl
  | v :: vs => by unfold unS; rw [List.length_set, unS_len]
theorem unS_out {ρ : Rho} {j : Nat} : ∀ {is : List Nat}, j ∉ is → (unS ρ is)[j]? = ρ[j]?
  | [], _ => rfl
  | v :: vs, h => by
    unfold unS
    rw [List.getElem?_set_ne (fun e => h (by simp [e])), unS_out fun z => h (List.mem_cons_of_mem _ z)]
theorem unS_in {ρ : Rho} {j : Nat} {t : SV} : ∀ {is : List Nat}, j ∈ is → (unS ρ is)[j]? = some t → t = .un
  | v :: vs, h, e => by
    unfold unS at e
    by_cases hv : v = j
    · subst hv
      by_cases hl : v < (unS ρ vs).length
      · rw [List.getElem?_set_self hl] at e; cases e; rfl
      · rw [List.getElem?_eq_none (by simpa using hl)] at e; cases e
    · rw [List.getElem?_set_ne hv] at e
      exact unS_in ((List.mem_cons.mp h).resolve_left (Ne.symm hv)) e
theorem SR.un {C : FC} {ρ : Rho} {Fs : Nat → List Addr} {σ σ' : L2.St} {H : Hp} {is : List Nat} (s : SR C ρ Fs σ H) (hl : σ'.length = σ.length) (h : ∀ j, j ∉ is → σ'[j]? = σ[j]?) : SR C (unS ρ is) (unF Fs is) σ' H := by
  refine ⟨by rw [hl, s.len, unS_len], fun j t e => ?_, fun j e => ?_, fun j k t hjk e o a ha => ?_, s.frm, s.dom⟩
  · by_cases hj : j ∈ is
    · have := unS_in hj e
      subst this
      show unF Fs is j = []
      exact if_pos hj
    · rw [unS_out hj] at e
      have q := s.ok j t e
      rw [h j hj, show unF Fs is j = Fs j from if_neg hj]
      exact q
  · by_cases hj : j ∈ is
    · exact if_pos hj
    · rw [unS_out hj] at e
      rw [show unF Fs is j = Fs j from if_neg hj]
      exact s.out j e
  · by_cases hj : j ∈ is
    · have := unS_in hj e
      subst this
      cases o
    · rw [unS_out hj] at e
      rw [show unF Fs is j = Fs j from if_neg hj] at ha
      by_cases hk : k ∈ is
      · rw [show unF Fs is k = [] from if_pos hk]; exact List.not_mem_nil
      · rw [show unF Fs is k = Fs k from if_neg hk]
        exact s.sep j k t hjk e o a ha
theorem wipe_ext {σ σ' : L2.St} : ∀ {is : List Nat}, σ'.length = σ.length → (∀ j, j ∉ is → σ'[j]? = σ[j]?) → wipe σ' is = wipe σ is := by
  intro is hl h
  apply List.ext_getElem?
  intro j
  have look : ∀ (τ : L2.St) (is : List Nat), (wipe τ is)[j]? = if j ∈ is then (if j < τ.length then some none else none) else τ[j]? := by
    intro τ is
    induction is with
    | nil => simp [wipe]
    | cons v vs ih =>
      unfold wipe
      by_cases hv : v = j
      · subst hv
        rw [if_pos List.mem_cons_self]
        by_cases hl : v < τ.length
        · rw [if_pos hl, List.getElem?_set_self (by rw [wipe_length]; exact hl)]
        · rw [if_neg hl, List.getElem?_eq_none (by simpa [wipe_length] using hl)]
      · rw [List.getElem?_set_ne hv, ih]
        by_cases hj : j ∈ vs
        · rw [if_pos hj, if_pos (List.mem_cons_of_mem _ hj)]
        · rw [if_neg hj, if_neg (by simp [hj, Ne.symm hv])]
  rw [look, look, hl]
  split
  · rfl
  · exact h j (by assumption)
theorem wipe_out' {σ : L2.St} {j : Nat} {is : List Nat} (h : j ∉ is) : (wipe σ is)[j]? = σ[j]? := wipe_out h
/-- a list that lies in no slot is written -/
theorem SR.wr {C : FC} {ρ : Rho} {Fs : Nat → List Addr} {σ : L2.St} {H : Hp} {p : Addr} {u o : HO} (s : SR C ρ Fs σ H) (e : H p = some u) (l : isL u) (n : ∀ j, p ∉ Fs j) (h0 : C.H0 p = none) : SR C ρ Fs σ (upd H p o) := by
  have f : Fr (fun a => a = p) H (upd H p o) := Fr.write e l rfl
  have nn : ∀ j, ∀ a ∈ Fs j, ¬ a = p := fun j a ha z => n j (z ▸ ha)
  refine ⟨s.len, fun i t e => ?_, s.out, s.sep, s.frm.trans f fun a o ha _ z => ?_, fun a h => s.dom a (upd_dom a h)⟩
  · exact (s.ok i t e).frm f (nn i)
  · rw [z, h0] at ha; cases ha
end L3

namespace L3
open PySem PySem.Spec PyProof.Rows L2

/-! ### [e for x in xs if t] -/
def NE : EXT := fun _ _ => False
def wLcL (g : WG) (t : WT) (w : WE) (is : List Nat) : List D → List D → Rho → (List D → Rho → Prop) → Prop
  | [], acc, ρ, q => q acc ρ
  | d :: ds, acc, ρ, q => imm d = true ∧ g d ρ fun ρ1 => t ρ1 (fun b ρ2 => if b = true then w ρ2 (fun y ρ3 => acc.length < sizeLine ∧ wLcL g t w is ds (acc ++ [y]) (unS ρ3 is) q) NE else wLcL g t w is ds acc (unS ρ2 is) q) NE
def lcNs (b is : List Nat) : List Nat := if b.isEmpty then [] else 1000 :: b.filter fun i => !is.contains i
def wLc (wi : WI) (g : WG) (t : WT) (w : WE) (is : List Nat) : WE := fun ρ q E => wi ρ (fun ds ρ1 => wLcL g t w is ds [] (unS ρ1 is) fun acc ρ2 => q (.list acc) ρ2) E
/-- what has been made so far -/
structure Acc (C : FC) (ns : List Nat) (H1 H : Hp) (Fs : Nat → List Addr) (Dl : Addr) (acc : List D) (vs : List V) (Fa : List Addr) : Prop where
  at_ : H Dl = some (.lst vs)
  rp : RpL C.K H acc vs Fa
  out : ∀ j, Dl ∉ Fs j
  ali : ∀ a ∈ Fa, (a ≠ Dl ∧ H1 a = none ∧ ∀ j, a ∉ Fs j) ∨ ∃ j ∈ ns, a ∈ Fs j
  nd : ns = [] → Fa.Nodup
theorem Acc.ne {C : FC} {ns : List Nat} {H1 H : Hp} {Fs : Nat → List Addr} {Dl : Addr} {acc : List D} {vs : List V} {Fa : List Addr} (x : Acc C ns H1 H Fs Dl acc vs Fa) : ∀ a ∈ Fa, a ≠ Dl := fun a ha e => by
  subst e
  rcases x.ali a ha with ⟨n, _⟩ | ⟨j, _, h⟩
  · exact n rfl
  · exact x.out j h
/-- it stands through a step -/
theorem Acc.step {C : FC} {ns mod : List Nat} {ρ ρ' : Rho} {Fs Fs' : Nat → List Addr} {σ : L2.St} {H1 H H' : Hp} {Dl : Addr} {acc : List D} {vs : List V} {Fa : List Addr} (x : Acc C ns H1 H Fs Dl acc vs Fa) (s : SR C ρ Fs σ H) (t : Stp mod ρ Fs H ρ' Fs' H') (d : dj ns mod = true) : Acc C ns H1 H' Fs' Dl acc vs Fa := by
  have dd := dj_ok d
  have tr : ∀ a ∈ Fa, ∃ us, H a = some (.lst us) := x.rp.trk
  have nm : ∀ a ∈ Fa, ¬ Md mod ρ Fs a := fun a ha ⟨j, hj, ⟨u, e, o⟩, hja⟩ => by
    rcases x.ali a ha with ⟨_, _, n⟩ | ⟨i, hi, hia⟩
    · exact n j hja
    · by_cases e2 : j = i
      · subst e2; exact dd _ hi hj
      · exact s.sep j i u e2 e o a hja hia
  have keepN : ∀ a, (∃ us, H a = some (.lst us)) → (∀ j, a ∉ Fs j) → ∀ j, a ∉ Fs' j := fun a ⟨us, ht⟩ n j hj => by
    rcases t.src j a hj with z | ⟨k, hk⟩
    · rw [ht] at z; cases z
    · exact n k hk
  refine ⟨t.fr _ _ x.at_ (fun ps => by simp) (fun ⟨j, _, _, z⟩ => absurd z (x.out j)), x.rp.frm t.fr nm, keepN _ ⟨vs, x.at_⟩ x.out, fun a ha => ?_, x.nd⟩
  rcases x.ali a ha with ⟨n1, n2, n3⟩ | ⟨i, hi, hia⟩
  · exact .inl ⟨n1, n2, keepN a (tr a ha) n3⟩
  · exact .inr ⟨i, hi, by rw [t.same i (dd i hi)]; exact hia⟩
theorem stp_un {is : List Nat} {ρ : Rho} {Fs : Nat → List Addr} {H : Hp} : Stp is ρ Fs H (unS ρ is) (unF Fs is) H :=
  stp_target (fun i hi => ⟨if_neg hi, unS_out hi⟩) fun i hi => if_pos hi
section
variable {C : FC} {elt tg iter : Expr} {ifs : List Expr} {scope : Scope} {own : List (Str × Nat)} {ns m1 mt me b0 b1 : List Nat} {wi : WI} {t : TG} {g : WG} {wt : WT} {w : WE} {pos : Pos}
theorem lc_run (d3 : dj (own.map (·.2)) (mt ++ me) = true) (d1 : dj ns (own.map (·.2) ++ (mt ++ me)) = true) (d2 : dj (lcNs (b0 ++ b1) (own.map (·.2))) (own.map (·.2) ++ (mt ++ me)) = true)
    (ht : ∀ d v ρ Fs σ H q Q, SR (C.in C.X) ρ Fs σ H → Rp C.K H d v [] → g d ρ q →
      (∀ ρ' Fs' σ', q ρ' → SR (C.in C.X) ρ' Fs' σ' H → (∀ i, i ∉ own.map (·.2) → Fs' i = Fs i ∧ σ'[i]? = σ[i]? ∧ ρ'[i]? = ρ[i]?) → (∀ i ∈ own.map (·.2), Fs' i = []) → σ'.length = σ.length → Q σ' H) → t v σ H Q) :
    ∀ σ H Q, rdE C [] (lcNs (b0 ++ b1) (own.map (·.2))) (m1 ++ (own.map (·.2) ++ (mt ++ me))) (wLc wi g wt w (own.map (·.2))) σ H Q →
      tLc (rdI C ns m1 wi) t (rdT (C.in C.X) mt wt) (rdE (C.in C.X) b0 b1 me w) (own.map (·.2)) σ H Q := by
  generalize own.map (·.2) = is at *
  generalize hns : lcNs (b0 ++ b1) is = ne at *
  rintro σ H Q ⟨ρ, Fs, q, s, hw, k⟩
  refine ⟨ρ, Fs, _, s, hw, fun ds ρ1 J F Sd H1 Fs1 h1 s1 t1 wk sd al Dl hD => ?_⟩
  have ddn : dj ne mt = true ∧ dj ne me = true ∧ dj ne is = true := by
    unfold dj at d2 ⊢
    simp only [List.all_eq_true] at d2 ⊢
    refine ⟨fun j hj => ?_, fun j hj => ?_, fun j hj => ?_⟩ <;> (have := d2 j hj; simp at this ⊢)
    · exact this.2.1
    · exact this.2.2
    · exact this.1
  -- the state between turns
  have s1w : SR C (unS ρ1 is) (unF Fs1 is) (wipe σ is) H1 := s1.un (wipe_length σ is) fun j hj => wipe_out' hj
  have hD0 : C.H0 Dl = none := s1.dom Dl hD
  have s1D : SR C (unS ρ1 is) (unF Fs1 is) (wipe σ is) (upd H1 Dl (.lst [])) := s1w.new (Fr.new hD) upd_dom
  have t1D : Stp (is ++ (mt ++ me)) ρ1 Fs1 H1 (unS ρ1 is) (unF Fs1 is) (upd H1 Dl (.lst [])) := (stp_un.trans (Stp.new (Fr.new hD) upd_dom)).mono (by simp +contextual [or_imp])
  refine ⟨fun i m H' => m = ds.length - i ∧ i ≤ ds.length ∧ ∃ ρ' Fs' acc vs Fa, SR C ρ' Fs' (wipe σ is) H' ∧ (∀ j ∈ is, ∀ u, ρ'[j]? = some u → u = .un) ∧ Stp (is ++ (mt ++ me)) ρ1 Fs1 H1 ρ' Fs' H' ∧ Sd H' ∧ Acc C ne H1 H' Fs' Dl acc vs Fa ∧
      wLcL g wt w is (ds.drop i) acc ρ' (fun acc ρ2 => q (.list acc) ρ2), ⟨ds.length, by simp, Nat.zero_le _, unS ρ1 is, unF Fs1 is, [], [], [], s1D, fun j hj u e => unS_in hj e, t1D, wk.keep H1 _ (fun _ => False) sd (Fr.new hD) (fun _ _ z => z),
      ⟨upd_same, .nil, s1w.notIn hD, (fun a m => by cases m), fun _ => List.nodup_nil⟩, by simpa using h1⟩, ?_⟩
  rintro i m H' ⟨rfl, hi, ρ', Fs', acc, vs, Fa, s', un', t', sd', ac, h'⟩
  by_cases hlt : i < ds.length
  · rw [List.drop_eq_getElem_cons hlt] at h'
    obtain ⟨himm, h'⟩ := h'
    have hd : ds[i]? = some ds[i] := List.getElem?_eq_getElem hlt
    obtain ⟨hgo, hy⟩ := wk.go i _ H' sd' hd
    refine .inr ⟨hgo, fun H2 => ∃ ρ2 Fs2 acc2 vs2 Fa2, SR C ρ2 Fs2 (wipe σ is) H2 ∧ (∀ j ∈ is, ∀ u, ρ2[j]? = some u → u = .un) ∧ Stp (is ++ (mt ++ me)) ρ1 Fs1 H1 ρ2 Fs2 H2 ∧ Sd H2 ∧ Acc C ne H1 H2 Fs2 Dl acc2 vs2 Fa2 ∧
      wLcL g wt w is (ds.drop (i + 1)) acc2 ρ2 (fun acc ρ2 => q (.list acc) ρ2), fun H2 ⟨ρ2, Fs2, acc2, vs2, Fa2, z⟩ => ⟨ds.length - (i + 1), by omega, rfl, hlt, ρ2, Fs2, acc2, vs2, Fa2, z⟩, fun x H2 y => ?_⟩
    obtain ⟨fr, dm, G, rx, _⟩ := hy x H2 y
    have hG := rx.imm0 himm
    subst hG
    have s2 : SR C ρ' Fs' (wipe σ is) H2 := s'.new fr dm
    have tn : Stp [] ρ' Fs' H' ρ' Fs' H2 := Stp.new fr dm
    have ac2 := ac.step s' tn (by simp [dj])
    refine ht _ x ρ' Fs' (wipe σ is) H2 _ _ (s2.at rfl rfl rfl rfl rfl) rx h' fun ρ3 Fs3 σ3 h3 s3 k3 n3 l3 => ?_
    have wip : wipe σ3 is = wipe σ is := by
      have e1 : wipe σ3 is = wipe (wipe σ is) is := wipe_ext l3 fun j hj => (k3 j hj).2.1
      rw [e1]
      exact wipe_ext (wipe_length σ is) fun j hj => wipe_out' hj
    refine ⟨wip, ?_⟩
    have wl : (wipe σ is).length = σ3.length := by rw [← wip, wipe_length]
    have wo : ∀ j, j ∉ is → (wipe σ is)[j]? = σ3[j]? := fun j hj => by rw [← wip, wipe_out' hj]
    have tg : Stp is ρ' Fs' H2 ρ3 Fs3 H2 := stp_target (fun i hi => ⟨(k3 i hi).1, (k3 i hi).2.2⟩) n3
    have ac3 := ac2.step s2 tg ddn.2.2
    have s3c : SR C ρ3 Fs3 σ3 H2 := s3.at rfl rfl rfl rfl rfl
    have sd2 : Sd H2 := wk.keep H' H2 _ sd' fr fun _ _ z => z
    have t3 : Stp (is ++ (mt ++ me)) ρ1 Fs1 H1 ρ3 Fs3 H2 := ((t'.trans tn).trans tg).mono (by simp +contextual [or_imp])
    refine ⟨ρ3, Fs3, _, s3, h3, fun b ρ4 H4 Fs4 h4 s4 t4 => ?_⟩
    have s4c : SR C ρ4 Fs4 σ3 H4 := s4.at rfl rfl rfl rfl rfl
    have ac4 := ac3.step s3c t4 ddn.1
    have t4' : Stp (is ++ (mt ++ me)) ρ1 Fs1 H1 ρ4 Fs4 H4 := (t3.trans t4).mono (by simp +contextual [or_imp])
    have al1 : Apart ns H1 Fs1 F := al
    cases b with
    | false =>
      dsimp only
      rw [if_neg Bool.false_ne_true]
      have tu : Stp is ρ4 Fs4 H4 (unS ρ4 is) (unF Fs4 is) H4 := stp_un
      have t5 : Stp (is ++ (mt ++ me)) ρ1 Fs1 H1 (unS ρ4 is) (unF Fs4 is) H4 := (t4'.trans tu).mono (by simp +contextual [or_imp])
      refine ⟨unS ρ4 is, unF Fs4 is, acc, vs, Fa, s4c.un wl wo, fun j hj u e => unS_in hj e, t5, ?_, ac4.step s4c tu ddn.2.2, h4⟩
      exact wk.keep H1 H4 _ sd (t4'.fr) (al1.step s1 t4' d1).1
    | true =>
      dsimp only
      rw [if_pos rfl]
      refine ⟨ρ4, Fs4, _, s4, h4, fun yd ρ5 yv Fy H5 Fs5 h5 s5 t5 ry ky => ?_⟩
      have s5c : SR C ρ5 Fs5 σ3 H5 := s5.at rfl rfl rfl rfl rfl
      have ac5 := ac4.step s4c t5 ddn.2.1
      have t5' : Stp (is ++ (mt ++ me)) ρ1 Fs1 H1 ρ5 Fs5 H5 := (t4'.trans t5).mono (by simp +contextual [or_imp])
      have tu : Stp is ρ5 Fs5 H5 (unS ρ5 is) (unF Fs5 is) H5 := stp_un
      have t6 : Stp (is ++ (mt ++ me)) ρ1 Fs1 H1 (unS ρ5 is) (unF Fs5 is) H5 := (t5'.trans tu).mono (by simp +contextual [or_imp])
      have ac6 := ac5.step s5c tu ddn.2.2
      have s6 : SR C (unS ρ5 is) (unF Fs5 is) (wipe σ is) H5 := s5c.un wl wo
      have nDy : Dl ∉ Fy := fun z => by
        rcases ky.ali Dl z with ⟨n, _⟩ | ⟨j, _, h⟩
        · rw [ac4.at_] at n; cases n
        · exact ac5.out j h
      have fD : Fr (fun a => a = Dl) H5 (upd H5 Dl (.lst (vs ++ [yv]))) := Fr.write ac6.at_ trivial rfl
      have ry : Rp C.K H5 yd yv Fy := ry
      refine ⟨vs, ac6.at_, by rw [ac6.rp.len]; exact h5.1, unS ρ5 is, unF Fs5 is, acc ++ [yd], vs ++ [yv], Fa ++ Fy, s6.wr ac6.at_ trivial ac6.out hD0, fun j hj u e => unS_in hj e, ?_, ?_, ⟨upd_same, (ac6.rp.app (RpL.one ry)).frm fD ?_, ac6.out, fun a m => ?_, fun e => ?_⟩, h5.2⟩
      · refine ⟨fun a o ea na la => ?_, t6.same, t6.own, fun a h => t6.dom a (upd_dom a h), t6.src⟩
        rw [upd_ne (ne_of_none ea hD)]
        exact t6.fr a o ea na la
      · refine wk.keep H5 _ _ (wk.keep H1 H5 _ sd t5'.fr (al1.step s1 t5' d1).1) fD fun a ha z => ?_
        obtain ⟨o, ho⟩ := (al a ha).1
        rw [z, hD] at ho
        cases ho
      · intro a m z
        subst z
        rcases List.mem_append.mp m with m | m
        · exact ac6.ne _ m rfl
        · exact nDy m
      · rcases List.mem_append.mp m with m | m
        · exact ac6.ali a m
        · rcases ky.ali a m with ⟨n1, n2⟩ | ⟨j, hj, h⟩
          · refine .inl ⟨fun z => nDy (z ▸ m), t4'.dom a n1, fun j hj => ?_⟩
            by_cases hji : j ∈ is
            · rw [show unF Fs5 is j = [] from if_pos hji] at hj; cases hj
            · rw [show unF Fs5 is j = Fs5 j from if_neg hji] at hj; exact n2 j hj
          · by_cases hji : j ∈ is
            · have e3 : Fs3 j = [] := n3 j hji
              have hm := dj_ok d3 j hji
              rw [t5.same j (fun z => hm (List.mem_append_right _ z)), t4.same j (fun z => hm (List.mem_append_left _ z)), e3] at h
              cases h
            · exact .inr ⟨j, by
                rw [← hns]
                unfold lcNs
                rw [if_neg (by intro z; rw [List.isEmpty_iff] at z; rw [z] at hj; cases hj)]
                exact List.mem_cons_of_mem _ (List.mem_filter.mpr ⟨hj, by simpa using hji⟩), by rw [show unF Fs5 is j = Fs5 j from if_neg hji]; exact h⟩
      · have eb : b0 = [] ∧ b1 = [] := by
          rw [← hns] at e
          unfold lcNs at e
          split at e
          · rename_i z
            exact List.append_eq_nil_iff.mp (List.isEmpty_iff.mp z)
          · cases e
        refine List.nodup_append.mpr ⟨ac6.nd e, ky.nd eb.1 (.inl eb.2), fun a ha b hb z => ?_⟩
        subst z
        rcases ky.ali a hb with ⟨n1, _⟩ | ⟨j, hj, _⟩
        · obtain ⟨us, tr⟩ := ac4.rp.trk a ha
          rw [n1] at tr
          cases tr
        · rw [eb.1, eb.2] at hj
          cases hj
  · have e : i = ds.length := by omega
    subst e
    rw [List.drop_length] at h'
    refine .inl ⟨wk.stop _ H' sd' (Nat.le_refl _), ?_⟩
    have sF : SR C ρ' Fs' σ H' := by
      refine ⟨by rw [← wipe_length σ is]; exact s'.len, fun j u e => ?_, s'.out, s'.sep, s'.frm, s'.dom⟩
      by_cases hj : j ∈ is
      · have q := s'.ok j u e
        have := un' j hj u e
        subst this
        exact q
      · rw [← wipe_out' (σ := σ) hj]
        exact s'.ok j u e
    have nD := ac.out
    refine k _ ρ' (.ref Dl) (Dl :: Fa) H' Fs' h' sF (t1.trans t') (.lst ac.at_ ac.rp) ⟨fun a m => ?_, fun _ fl a m => ?_, fun _ e => ?_⟩
    · rcases List.mem_cons.mp m with z | m
      · subst z; exact .inl ⟨t1.dom _ hD, nD⟩
      · rcases ac.ali a m with ⟨_, n1, n2⟩ | ⟨j, hj, h⟩
        · exact .inl ⟨t1.dom a n1, n2⟩
        · exact .inr ⟨j, by simpa using hj, h⟩
    · rw [ac.rp.imm0 (by simpa [flat] using fl)] at m
      have : a = Dl := by simpa using m
      subst this
      exact ⟨t1.dom _ hD, nD⟩
    · rcases e with e | fl
      · exact List.nodup_cons.mpr ⟨fun z => ac.ne _ z rfl, ac.nd e⟩
      · rw [ac.rp.imm0 (by simpa [flat] using fl)]; simp
end
end L3

namespace L3
open PySem PySem.Spec PyProof.Rows L2

section
variable {C : FC} {elt tg iter : Expr} {ifs : List Expr} {scope : Scope} {own : List (Str × Nat)} {ns m1 mt me b0 b1 : List Nat} {wi : WI} {t : TG} {g : WG} {wt : WT} {w : WE} {pos pos' spos : Pos} {i : Nat} {x : Str}
abbrev blkX (C : FC) (scope : Scope) (s : Shared) (H : Hp) (Ca : Addr) (cl : List (Str × Addr)) (fp : List Addr) : FC := C.in (C.X.blk s H scope (compEnvC scope cl Ca C.X.env) fp)
theorem jg_in (hg : ∀ s H Ca cl fp, JG (blkX C scope s H Ca cl fp) tg (own.map (·.2)) t g) : ∀ d v ρ Fs σ H q Q, SR (C.in C.X) ρ Fs σ H → Rp C.K H d v [] → g d ρ q →
      (∀ ρ' Fs' σ', q ρ' → SR (C.in C.X) ρ' Fs' σ' H → (∀ i, i ∉ own.map (·.2) → Fs' i = Fs i ∧ σ'[i]? = σ[i]? ∧ ρ'[i]? = ρ[i]?) → (∀ i ∈ own.map (·.2), Fs' i = []) → σ'.length = σ.length → Q σ' H) → t v σ H Q :=
  fun d v ρ Fs σ H q Q s r h k => (hg C.X.s_0 C.X.H_0 0 [] []).ok d v ρ Fs σ H q Q (s.at rfl rfl rfl rfl rfl) r h fun ρ' Fs' σ' h1 s1 => k ρ' Fs' σ' h1 (s1.at rfl rfl rfl rfl rfl)
/-- [elt for tg in iter if ..] -/
theorem je_lc (hc : C.X.calm = true) (hN : C.X.N.Nodup) (hi : JI C tg iter ns m1 wi) (ok : BlkOk C.X.N C.X.env.scope scope own)
    (hg : ∀ s H Ca cl fp, JG (blkX C scope s H Ca cl fp) tg (own.map (·.2)) t g) (ht : ∀ s H Ca cl fp, JTs (blkX C scope s H Ca cl fp) ifs mt wt) (he : ∀ s H Ca cl fp, JE (blkX C scope s H Ca cl fp) elt b0 b1 me w)
    (d3 : dj (own.map (·.2)) (mt ++ me) = true := by decide +kernel) (d1 : dj ns (own.map (·.2) ++ (mt ++ me)) = true := by decide +kernel) (d2 : dj (lcNs (b0 ++ b1) (own.map (·.2))) (own.map (·.2) ++ (mt ++ me)) = true := by decide +kernel)
    (hs : ∀ x, foldedSetIterable iter C.X.env x = pure x := by intro _; rfl) :
    JE C (.ListComp elt [⟨tg, iter, ifs, 0⟩] scope pos) [] (lcNs (b0 ++ b1) (own.map (·.2))) (m1 ++ (own.map (·.2) ++ (mt ++ me))) (wLc wi g wt w (own.map (·.2))) :=
  ⟨PE.imp (pe_lc hc hN hi.pi ok (fun s H Ca cl fp => (hg s H Ca cl fp).pg) (fun s H Ca cl fp => PTs.imp (ht s H Ca cl fp).pt fun σ H' Q h => rdT_in (C := C) (X' := C.X.blk s H scope (compEnvC scope cl Ca C.X.env) fp) rfl h) (fun s H Ca cl fp => PE.imp (he s H Ca cl fp).pe fun σ H' Q h => rdE_in (C := C) (X' := C.X.blk s H scope (compEnvC scope cl Ca C.X.env) fp) rfl h) hs) (lc_run d3 d1 d2 (jg_in hg))⟩
/-- x = [..], x a local on the same line -/
theorem js_setLc (hc : C.X.calm = true) (hN : C.X.N.Nodup) (hy : C.X.N[i]? = some x) (hyl : C.X.env.scope.names.lookup x = some .local)
    (hsw : swapsWith (.ListComp elt [⟨tg, iter, ifs, 0⟩] scope pos) (some (.Name x pos')) spos.line C.X.env = pure true)
    (hi : JI C tg iter ns m1 wi) (ok : BlkOk C.X.N C.X.env.scope scope own)
    (hg : ∀ s H Ca cl fp, JG (blkX C scope s H Ca cl fp) tg (own.map (·.2)) t g) (ht : ∀ s H Ca cl fp, JTs (blkX C scope s H Ca cl fp) ifs mt wt) (he : ∀ s H Ca cl fp, JE (blkX C scope s H Ca cl fp) elt b0 b1 me w)
    (d3 : dj (own.map (·.2)) (mt ++ me) = true := by decide +kernel) (d1 : dj ns (own.map (·.2) ++ (mt ++ me)) = true := by decide +kernel) (d2 : dj (lcNs (b0 ++ b1) (own.map (·.2))) (own.map (·.2) ++ (mt ++ me)) = true := by decide +kernel)
    (hs : ∀ x, foldedSetIterable iter C.X.env x = pure x := by intro _; rfl) :
    JS C (.Assign [.Name x pos'] (.ListComp elt [⟨tg, iter, ifs, 0⟩] scope pos) spos) ((m1 ++ (own.map (·.2) ++ (mt ++ me))) ++ [i]) (wsSet i (wLc wi g wt w (own.map (·.2)))) := by
  refine ⟨PS.imp (ps_setLc hc hN hy hyl hsw hi.pi ok (fun s H Ca cl fp => (hg s H Ca cl fp).pg) (fun s H Ca cl fp => PTs.imp (ht s H Ca cl fp).pt fun σ H' Q h => rdT_in (C := C) (X' := C.X.blk s H scope (compEnvC scope cl Ca C.X.env) fp) rfl h) (fun s H Ca cl fp => PE.imp (he s H Ca cl fp).pe fun σ H' Q h => rdE_in (C := C) (X' := C.X.blk s H scope (compEnvC scope cl Ca C.X.env) fp) rfl h) hs) fun De σ H h => ?_⟩
  have z : tAsg (rdE C [] (lcNs (b0 ++ b1) (own.map (·.2))) (m1 ++ (own.map (·.2) ++ (mt ++ me))) (wLc wi g wt w (own.map (·.2)))) (gName i) De σ H := set_run (C := C) (a0 := []) (a1 := lcNs (b0 ++ b1) (own.map (·.2))) (m1 := m1 ++ (own.map (·.2) ++ (mt ++ me))) (wa := wLc wi g wt w (own.map (·.2))) (i := i) (P := fun d => (imm d || flat d) = true) (fun d ρ1 v F H H1 Fs1 hp r1 k1 => by
    rcases Bool.or_eq_true_iff.mp hp with z | z
    · rw [r1.imm0 z]
      exact ⟨List.nodup_nil, fun a m => by cases m⟩
    · exact ⟨k1.nd rfl (.inr z), k1.shl rfl z⟩) De σ H (by
      obtain ⟨ρ, Fs, W, s, hw, ex, k⟩ := h
      exact ⟨ρ, Fs, W, s, hw, ex, k⟩)
  exact lc_run d3 d1 d2 (jg_in hg) σ H _ z
/-- the same where new lists are made within -/
theorem js_setLcF (hc : C.X.calm = true) (hN : C.X.N.Nodup) (hy : C.X.N[i]? = some x) (hyl : C.X.env.scope.names.lookup x = some .local)
    (hsw : swapsWith (.ListComp elt [⟨tg, iter, ifs, 0⟩] scope pos) (some (.Name x pos')) spos.line C.X.env = pure true)
    (hi : JI C tg iter ns m1 wi) (ok : BlkOk C.X.N C.X.env.scope scope own)
    (hg : ∀ s H Ca cl fp, JG (blkX C scope s H Ca cl fp) tg (own.map (·.2)) t g) (ht : ∀ s H Ca cl fp, JTs (blkX C scope s H Ca cl fp) ifs mt wt) (he : ∀ s H Ca cl fp, JE (blkX C scope s H Ca cl fp) elt [] [] me w)
    (d3 : dj (own.map (·.2)) (mt ++ me) = true := by decide +kernel) (d1 : dj ns (own.map (·.2) ++ (mt ++ me)) = true := by decide +kernel)
    (hs : ∀ x, foldedSetIterable iter C.X.env x = pure x := by intro _; rfl) :
    JS C (.Assign [.Name x pos'] (.ListComp elt [⟨tg, iter, ifs, 0⟩] scope pos) spos) ((m1 ++ (own.map (·.2) ++ (mt ++ me))) ++ [i]) (wsSetF i (wLc wi g wt w (own.map (·.2)))) := by
  refine ⟨PS.imp (ps_setLc hc hN hy hyl hsw hi.pi ok (fun s H Ca cl fp => (hg s H Ca cl fp).pg) (fun s H Ca cl fp => PTs.imp (ht s H Ca cl fp).pt fun σ H' Q h => rdT_in (C := C) (X' := C.X.blk s H scope (compEnvC scope cl Ca C.X.env) fp) rfl h) (fun s H Ca cl fp => PE.imp (he s H Ca cl fp).pe fun σ H' Q h => rdE_in (C := C) (X' := C.X.blk s H scope (compEnvC scope cl Ca C.X.env) fp) rfl h) hs) fun De σ H h => ?_⟩
  have z : tAsg (rdE C [] [] (m1 ++ (own.map (·.2) ++ (mt ++ me))) (wLc wi g wt w (own.map (·.2)))) (gName i) De σ H := set_run (C := C) (a0 := []) (a1 := []) (m1 := m1 ++ (own.map (·.2) ++ (mt ++ me))) (wa := wLc wi g wt w (own.map (·.2))) (i := i) (P := fun d => True) (fun d ρ1 v F H H1 Fs1 hp r1 k1 => by
    refine ⟨k1.nd rfl (.inl rfl), fun a m => ?_⟩
    rcases k1.ali a m with z | ⟨j, hj, _⟩
    · exact z
    · simp at hj) De σ H (by
      obtain ⟨ρ, Fs, W, s, hw, ex, k⟩ := h
      exact ⟨ρ, Fs, W, s, by simpa [wsSetF] using hw, ex, k⟩)
  exact lc_run (b0 := []) (b1 := []) d3 d1 (by rfl) (jg_in hg) σ H _ z
end

/-! ### built-in functions, by values -/
/-- what a built-in makes of its arguments; al: whether the answer may be a part of them -/
abbrev FB := List D → (D → Prop) → Prop
def CallV (X : Cx) (f : Value) (b : FB) : Prop := ∃ r : List V → Hp → VK → Prop, CallR X f r ∧ ∀ (ds : List D) (vs : List V) (Fa : List (List Addr)) (H : Hp) (q : D → Prop) (Q : VK), ArgF X.K H ds vs Fa → b ds q →
  (∀ d v F H', q d → Fr (fun _ => False) H H' → (∀ a, H' a = none → H a = none) → Rp X.K H' d v F → OpRes Fa.flatten [] H d F → Q v H') → r vs H Q
def wBf (b : FB) (wr : WA) : WE := fun ρ q E => wr ρ (fun ds ρ1 => b ds fun d => q d ρ1) E
section
variable {C : FC} {e : Expr} {es : List Expr} {p pos : Pos} {x : Str} {id T : String} {r : List V → Hp → VK → Prop} {b : FB} {ks : List AK} {m1 : List Nat} {wr : WA}
def CallW (X : Cx) (r : List V → Hp → VK → Prop) (b : FB) : Prop := ∀ (ds : List D) (vs : List V) (Fa : List (List Addr)) (H : Hp) (q : D → Prop) (Q : VK), ArgF X.K H ds vs Fa → b ds q →
  (∀ d v F H', q d → Fr (fun _ => False) H H' → (∀ a, H' a = none → H a = none) → Rp X.K H' d v F → OpRes Fa.flatten [] H d F → Q v H') → r vs H Q
theorem bf_run (hc : CallW C.X r b) : ∀ σ H Q, rdE C [] (1000 :: ksNs ks) m1 (wBf b wr) σ H Q → tCB r (rdA C ks m1 wr) σ H Q := by
  rintro σ H Q ⟨ρ, Fs, q, s, hw, k⟩
  refine ⟨ρ, Fs, _, s, hw, fun ds ρ1 vs Fa H1 Fs1 h1 s1 t1 r1 n1 => ?_⟩
  refine hc ds vs Fa H1 _ Q (argR_argF r1) h1 fun d v F H2 hq fr dm rr oz => ?_
  have fresh : ∀ a, H1 a = none → H a = none ∧ ∀ i, a ∉ Fs1 i := fun a n => ⟨t1.dom a n, s1.notIn n⟩
  refine k d ρ1 v F H2 Fs1 hq (s1.new fr dm) ((t1.trans (Stp.new fr dm)).mono (by simp)) rr ⟨fun a m => ?_, fun _ fl a m => fresh a (oz.shl fl a m), fun _ h => ?_⟩
  · rcases oz.ali a m with n | n | n
    · exact .inl (fresh a n)
    · exact (argR_ali r1 a n).imp id fun ⟨i, hi, z⟩ => ⟨i, by simpa using .inr hi, z⟩
    · cases n
  · rcases h with h | h
    · cases h
    · exact oz.nd h
theorem je_bf (hc : CallV C.X (.builtin id) b) (hg : Gl C.X x) (hm : C.X.mg x = none) (hv : bootBuiltins x = some (.builtin id)) (ha : JA C (e :: es) ks m1 wr) (hn : x ≠ "__name__" := by decide) (hdb : (x == ("__debug__" : Str)) = false := by decide)
    (he : starEach (e :: es) C.X.env = (false, eval e C.X.env) :: starEach es C.X.env := by rfl) (hpl : (backTo pos (starEach es C.X.env)).any (·.1) = false := by rfl) : JE C (.Call (.Name x p) (e :: es) [] pos) [] (1000 :: ksNs ks) m1 (wBf b wr) :=
  let ⟨_, h1, h2⟩ := hc
  ⟨PE.imp (pe_callB h1 hg hm hv ha.pa hn hdb he hpl) (bf_run h2)⟩
theorem je_bt (hc : CallV C.X (.type T) b) (hg : Gl C.X x) (hm : C.X.mg x = none) (hv : bootBuiltins x = some (.type T)) (ha : JA C (e :: es) ks m1 wr) (hn : x ≠ "__name__" := by decide) (hdb : (x == ("__debug__" : Str)) = false := by decide)
    (he : starEach (e :: es) C.X.env = (false, eval e C.X.env) :: starEach es C.X.env := by rfl) (hpl : (backTo pos (starEach es C.X.env)).any (·.1) = false := by rfl) : JE C (.Call (.Name x p) (e :: es) [] pos) [] (1000 :: ksNs ks) m1 (wBf b wr) :=
  let ⟨_, h1, h2⟩ := hc
  ⟨PE.imp (pe_callTy h1 hg hm hv ha.pa hn hdb he hpl) (bf_run h2)⟩
end
end L3

namespace L3
open PySem PySem.Spec PyProof.Rows L2

theorem argF1 {K : PySem.W.Frag} {H : Hp} {d : D} {vs : List V} {Fa : List (List Addr)} (h : ArgF K H [d] vs Fa) : ∃ v F, vs = [v] ∧ Fa = [F] ∧ Rp K H d v F := by
  match vs, Fa, h with
  | [v], [F], h => exact ⟨v, F, rfl, rfl, h.1⟩
  | [], _, h => exact h.elim
  | [_], [], h => exact h.elim
  | _ :: _ :: _, [], h => exact h.elim
  | [_], _ :: _ :: _, h => exact h.2.elim
  | _ :: _ :: _, _ :: _, h => exact h.2.elim
theorem argF2 {K : PySem.W.Frag} {H : Hp} {d e : D} {vs : List V} {Fa : List (List Addr)} (h : ArgF K H [d, e] vs Fa) : ∃ v u F G, vs = [v, u] ∧ Fa = [F, G] ∧ Rp K H d v F ∧ Rp K H e u G := by
  match vs, Fa, h with
  | [v, u], [F, G], h => exact ⟨v, u, F, G, rfl, rfl, h.1, h.2.1⟩
  | [], _, h => exact h.elim
  | [_], [], h => exact h.elim
  | [_], _ :: _, h => exact h.2.elim
  | _ :: _ :: _, [], h => exact h.elim
  | _ :: _ :: _, [_], h => exact h.2.elim
  | [_, _], _ :: _ :: _ :: _, h => exact h.2.2.elim
  | _ :: _ :: _ :: _, _ :: _ :: _, h => exact h.2.2.elim
/-- the one argument d -/
def on1 (f : D → (D → Prop) → Prop) : FB := fun ds q => match ds with
  | [d] => f d q
  | _ => False
def on2 (f : F2) : FB := fun ds q => match ds with
  | [d, e] => f d e q
  | _ => False
def bLen : FB := on1 fun d q => match d with
  | .list xs => q (.int xs.length)
  | .tuple xs => q (.int xs.length)
  | .fl xs => q (.int xs.length)
  | .str s => s.length ≤ sizeLine ∧ q (.int s.length)
  | _ => False
section
variable {X : Cx}
theorem on1_ok {K : PySem.W.Frag} {H : Hp} {f : D → (D → Prop) → Prop} {ds : List D} {vs : List V} {Fa : List (List Addr)} {q : D → Prop} (h : ArgF K H ds vs Fa) (hb : on1 f ds q) : ∃ d v F, ds = [d] ∧ vs = [v] ∧ Fa = [F] ∧ Rp K H d v F ∧ f d q := by
  unfold on1 at hb
  split at hb
  · obtain ⟨v, F, e1, e2, r⟩ := argF1 h
    exact ⟨_, v, F, rfl, e1, e2, r, hb⟩
  · exact hb.elim
theorem on2_ok {K : PySem.W.Frag} {H : Hp} {f : F2} {ds : List D} {vs : List V} {Fa : List (List Addr)} {q : D → Prop} (h : ArgF K H ds vs Fa) (hb : on2 f ds q) : ∃ d e v u F G, ds = [d, e] ∧ vs = [v, u] ∧ Fa = [F, G] ∧ Rp K H d v F ∧ Rp K H e u G ∧ f d e q := by
  unfold on2 at hb
  split at hb
  · obtain ⟨v, u, F, G, e1, e2, r, r'⟩ := argF2 h
    exact ⟨_, _, v, u, F, G, rfl, e1, e2, r, r', hb⟩
  · exact hb.elim
theorem cv_len : CallV X (.builtin "len") bLen := ⟨_, call_len_seq.or call_len_str, fun ds vs Fa H q Q h hb k => by
  obtain ⟨d, v, F, rfl, rfl, rfl, r, hb⟩ := on1_ok h hb
  cases r with
  | tup hl r => exact .inl ⟨_, _, rfl, .inr hl, by rw [r.len]; exact k _ _ [] H hb .refl (fun _ h => h) (.int _) .nil⟩
  | lst hl r => exact .inl ⟨_, _, rfl, .inl (SqL.of hl), by rw [r.len]; exact k _ _ [] H hb .refl (fun _ h => h) (.int _) .nil⟩
  | fl hl r => exact .inl ⟨_, _, rfl, .inl hl.sq, by rw [r.len]; exact k _ _ [] H hb .refl (fun _ h => h) (.int _) .nil⟩
  | str x => exact .inr ⟨_, rfl, hb.1, k _ _ [] H hb.2 .refl (fun _ h => h) (.int _) .nil⟩
  | _ => exact hb.elim⟩
def bAbs : FB := on1 fun d q => match d with
  | .int i => q (.int i.natAbs)
  | _ => False
theorem cv_abs : CallV X (.builtin "abs") bAbs := ⟨_, call_abs, fun ds vs Fa H q Q h hb k => by
  obtain ⟨d, v, F, rfl, rfl, rfl, r, hb⟩ := on1_ok h hb
  cases r with
  | int i =>
    refine ⟨i, rfl, ?_⟩
    have e : (if i < 0 then -i else i) = (i.natAbs : Int) := by split <;> omega
    rw [e]
    exact k _ _ [] H hb .refl (fun _ h => h) (.int _) .nil
  | _ => exact hb.elim⟩
def bInt : FB := on1 fun d q => match d with
  | .int i => q (.int i)
  | .bool b => q (.int (if b = true then 1 else 0))
  | _ => False
theorem cv_int : CallV X (.type "int") bInt := ⟨_, call_int1, fun ds vs Fa H q Q h hb k => by
  obtain ⟨d, v, F, rfl, rfl, rfl, r, hb⟩ := on1_ok h hb
  cases r with
  | int i => exact .inl ⟨i, rfl, k _ _ [] H hb .refl (fun _ h => h) (.int _) .nil⟩
  | bl b => exact .inr ⟨b, rfl, k _ _ [] H hb .refl (fun _ h => h) (.int _) .nil⟩
  | _ => exact hb.elim⟩
def bMax2 : FB := on2 fun x y q => match x, y with
  | .int i, .int j => q (.int (if j > i then j else i))
  | _, _ => False
def bMin2 : FB := on2 fun x y q => match x, y with
  | .int i, .int j => q (.int (if j < i then j else i))
  | _, _ => False
theorem cv_max2 (hc : X.calm = true) : CallV X (.builtin "max") bMax2 := ⟨_, call_max2 hc, fun ds vs Fa H q Q h hb k => by
  obtain ⟨d, e, v, u, F, G, rfl, rfl, rfl, r, r', hb⟩ := on2_ok h hb
  cases d <;> cases e <;> first | exact hb.elim | skip
  cases r; cases r'
  exact ⟨_, _, rfl, k _ _ [] H hb .refl (fun _ h => h) (.int _) .nil⟩⟩
theorem cv_min2 (hc : X.calm = true) : CallV X (.builtin "min") bMin2 := ⟨_, call_min2 hc, fun ds vs Fa H q Q h hb k => by
  obtain ⟨d, e, v, u, F, G, rfl, rfl, rfl, r, r', hb⟩ := on2_ok h hb
  cases d <;> cases e <;> first | exact hb.elim | skip
  cases r; cases r'
  exact ⟨_, _, rfl, k _ _ [] H hb .refl (fun _ h => h) (.int _) .nil⟩⟩
/-- the ints of a row of ints -/
def intsOf : List D → Option (List Int)
  | [] => some []
  | .int i :: ds => (intsOf ds).map (i :: ·)
  | _ => none
def boolsOf : List D → Option (List Bool)
  | [] => some []
  | .bool b :: ds => (boolsOf ds).map (b :: ·)
  | _ => none
theorem intsOf_map : ∀ (ns : List Int), intsOf (ns.map .int) = some ns
  | [] => rfl
  | n :: ns => by simp [intsOf, intsOf_map ns]
theorem boolsOf_map : ∀ (ns : List Bool), boolsOf (ns.map .bool) = some ns
  | [] => rfl
  | n :: ns => by simp [boolsOf, boolsOf_map ns]
theorem intsOf_eq : ∀ {ds : List D} {ns : List Int}, intsOf ds = some ns → ds = ns.map .int
  | [], ns, h => by cases h; rfl
  | .int i :: ds, ns, h => by
    simp only [intsOf, Option.map_eq_some_iff] at h
    obtain ⟨ms, h1, rfl⟩ := h
    rw [intsOf_eq h1]
    rfl
  | .none :: _, _, h => by cases h
  | .bool _ :: _, _, h => by cases h
  | .str _ :: _, _, h => by cases h
  | .list _ :: _, _, h => by cases h
  | .fl _ :: _, _, h => by cases h
  | .tuple _ :: _, _, h => by cases h
  | .dict _ :: _, _, h => by cases h
theorem boolsOf_eq : ∀ {ds : List D} {ns : List Bool}, boolsOf ds = some ns → ds = ns.map .bool
  | [], ns, h => by cases h; rfl
  | .bool i :: ds, ns, h => by
    simp only [boolsOf, Option.map_eq_some_iff] at h
    obtain ⟨ms, h1, rfl⟩ := h
    rw [boolsOf_eq h1]
    rfl
  | .none :: _, _, h => by cases h
  | .int _ :: _, _, h => by cases h
  | .str _ :: _, _, h => by cases h
  | .list _ :: _, _, h => by cases h
  | .fl _ :: _, _, h => by cases h
  | .tuple _ :: _, _, h => by cases h
  | .dict _ :: _, _, h => by cases h
theorem rpl_ints {K : PySem.W.Frag} {H : Hp} : ∀ {ns : List Int} {vs : List V} {F : List Addr}, RpL K H (ns.map .int) vs F → vs = ns.map V.int ∧ F = []
  | [], _, _, .nil => ⟨rfl, rfl⟩
  | n :: ns, _, _, .cons (.int _) r => by
    obtain ⟨e1, e2⟩ := rpl_ints r
    rw [e1, e2]
    exact ⟨rfl, rfl⟩
theorem rpl_bools {K : PySem.W.Frag} {H : Hp} : ∀ {ns : List Bool} {vs : List V} {F : List Addr}, RpL K H (ns.map .bool) vs F → vs = ns.map V.bl ∧ F = []
  | [], _, _, .nil => ⟨rfl, rfl⟩
  | n :: ns, _, _, .cons (.bl _) r => by
    obtain ⟨e1, e2⟩ := rpl_bools r
    rw [e1, e2]
    exact ⟨rfl, rfl⟩
theorem ints_rpl {K : PySem.W.Frag} {H : Hp} : ∀ (ns : List Int), RpL K H (ns.map .int) (ns.map V.int) []
  | [] => .nil
  | n :: ns => .cons (F := []) (G := []) (.int n) (ints_rpl ns)
def onI (f : List Int → (D → Prop) → Prop) : D → (D → Prop) → Prop := fun d q => match d with
  | .list xs => (match intsOf xs with | some ns => f ns q | none => False)
  | .fl xs => (match intsOf xs with | some ns => f ns q | none => False)
  | _ => False
def onIT (f : List Int → (D → Prop) → Prop) : D → (D → Prop) → Prop := fun d q => match d with
  | .list xs => (match intsOf xs with | some ns => f ns q | none => False)
  | .tuple xs => (match intsOf xs with | some ns => f ns q | none => False)
  | .fl xs => (match intsOf xs with | some ns => f ns q | none => False)
  | _ => False
theorem onI_ok {K : PySem.W.Frag} {H : Hp} {f : List Int → (D → Prop) → Prop} {d : D} {v : V} {F : List Addr} {q : D → Prop} (r : Rp K H d v F) (h : onI f d q) : ∃ a ns, v = .ref a ∧ SqL K H a (ns.map V.int) ∧ f ns q := by
  unfold onI at h
  split at h
  · split at h
    · rename_i xs _ ns e
      have := intsOf_eq e
      subst this
      cases r with
      | lst hl r =>
        obtain ⟨e1, e2⟩ := rpl_ints r
        subst e1 e2
        exact ⟨_, ns, rfl, SqL.of hl, h⟩
    · exact h.elim
  · split at h
    · rename_i xs _ ns e
      have := intsOf_eq e
      subst this
      cases r with
      | fl hl r =>
        obtain ⟨e1, e2⟩ := rpl_ints r
        subst e1 e2
        exact ⟨_, ns, rfl, hl.sq, h⟩
    · exact h.elim
  · exact h.elim
theorem onIT_ok {K : PySem.W.Frag} {H : Hp} {f : List Int → (D → Prop) → Prop} {d : D} {v : V} {F : List Addr} {q : D → Prop} (r : Rp K H d v F) (h : onIT f d q) : ∃ a ns, v = .ref a ∧ (SqL K H a (ns.map V.int) ∨ SqT K H a (ns.map V.int)) ∧ f ns q := by
  unfold onIT at h
  split at h
  · split at h
    · rename_i xs _ ns e
      have := intsOf_eq e
      subst this
      cases r with
      | lst hl r =>
        obtain ⟨e1, e2⟩ := rpl_ints r
        subst e1 e2
        exact ⟨_, ns, rfl, .inl (SqL.of hl), h⟩
    · exact h.elim
  · split at h
    · rename_i xs _ ns e
      have := intsOf_eq e
      subst this
      cases r with
      | tup hl r =>
        obtain ⟨e1, e2⟩ := rpl_ints r
        subst e1 e2
        exact ⟨_, ns, rfl, .inr hl, h⟩
    · exact h.elim
  · split at h
    · rename_i xs _ ns e
      have := intsOf_eq e
      subst this
      cases r with
      | fl hl r =>
        obtain ⟨e1, e2⟩ := rpl_ints r
        subst e1 e2
        exact ⟨_, ns, rfl, .inl hl.sq, h⟩
    · exact h.elim
  · exact h.elim
/-- sum of a tuple of ints -/
def rSumT (K : PySem.W.Frag) : List V → Hp → VK → Prop := fun vs H Q => ∃ (a : Addr) (ns : List Int), vs = [V.ref a] ∧ SqT K H a (ns.map V.int) ∧ Q (.int ns.sum) H
theorem cr_sumT (hc : X.calm = true) : CallR X (.builtin "sum") (rSumT X.K) := by
  intro pins s σ H vs us Q I r h
  obtain ⟨a, ns, rfl, hs, q⟩ := h
  obtain ⟨its, rv, ht, hz⟩ := I.tuple hs
  rw [Vals.ref1 r]
  obtain ⟨xs, e⟩ := rv.ints.allInts.items
  have hn : numsOf (intItems xs).toList = ns := by
    rw [← e]
    exact rv.ints.numsOf
  rw [nums_intItems] at hn
  have ht2 : s.heap.IsTuple a (intItems xs) := by
    rw [← e]
    obtain ⟨o, h1, h2, n, h3⟩ := ht
    exact ⟨o, h1, h2, n, h3⟩
  refine PySem.W.ktm_sumG (I.ok.hd hc) ht2 fun h' tk t' hk => ?_
  rw [preSum_eq, List.take_of_length_le (by simp), hn]
  exact ⟨.int ns.sum, H, I.kept hk, ⟨_, rfl⟩, q⟩
def bSum : FB := on1 (onIT fun ns q => q (.int ns.sum))
theorem cv_sum (hc : X.calm = true) : CallV X (.builtin "sum") bSum := ⟨_, (cr_sum hc).or (cr_sumT hc), fun ds vs Fa H q Q h hb k => by
  obtain ⟨d, v, F, rfl, rfl, rfl, r, hb⟩ := on1_ok h hb
  obtain ⟨a, ns, rfl, hs, hq⟩ := onIT_ok r hb
  rcases hs with hs | hs
  · exact .inl ⟨a, ns, rfl, hs, k _ _ [] H hq .refl (fun _ h => h) (.int _) .nil⟩
  · exact .inr ⟨a, ns, rfl, hs, k _ _ [] H hq .refl (fun _ h => h) (.int _) .nil⟩⟩
def bMaxL : FB := on1 (onI fun ns q => 0 < ns.length ∧ ∀ m, m ∈ ns → (∀ y, y ∈ ns → y ≤ m) → q (.int m))
def bMinL : FB := on1 (onI fun ns q => 0 < ns.length ∧ ∀ m, m ∈ ns → (∀ y, y ∈ ns → m ≤ y) → q (.int m))
theorem cv_maxL (hc : X.calm = true) : CallV X (.builtin "max") bMaxL := ⟨_, cr_max hc, fun ds vs Fa H q Q h hb k => by
  obtain ⟨d, v, F, rfl, rfl, rfl, r, hb⟩ := on1_ok h hb
  obtain ⟨a, ns, rfl, hs, h0, hq⟩ := onI_ok r hb
  exact ⟨a, ns, rfl, hs, h0, fun m h1 h2 => k _ _ [] H (hq m h1 h2) .refl (fun _ h => h) (.int _) .nil⟩⟩
theorem cv_minL (hc : X.calm = true) : CallV X (.builtin "min") bMinL := ⟨_, cr_min hc, fun ds vs Fa H q Q h hb k => by
  obtain ⟨d, v, F, rfl, rfl, rfl, r, hb⟩ := on1_ok h hb
  obtain ⟨a, ns, rfl, hs, h0, hq⟩ := onI_ok r hb
  exact ⟨a, ns, rfl, hs, h0, fun m h1 h2 => k _ _ [] H (hq m h1 h2) .refl (fun _ h => h) (.int _) .nil⟩⟩
def onBl (f : List Bool → (D → Prop) → Prop) : D → (D → Prop) → Prop := fun d q => match d with
  | .list xs => (match boolsOf xs with | some ns => f ns q | none => False)
  | .fl xs => (match boolsOf xs with | some ns => f ns q | none => False)
  | _ => False
theorem onBl_ok {K : PySem.W.Frag} {H : Hp} {f : List Bool → (D → Prop) → Prop} {d : D} {v : V} {F : List Addr} {q : D → Prop} (r : Rp K H d v F) (h : onBl f d q) : ∃ a ns, v = .ref a ∧ SqL K H a (ns.map V.bl) ∧ f ns q := by
  unfold onBl at h
  split at h
  · split at h
    · rename_i xs _ ns e
      have := boolsOf_eq e
      subst this
      cases r with
      | lst hl r =>
        obtain ⟨e1, e2⟩ := rpl_bools r
        subst e1
        exact ⟨_, ns, rfl, SqL.of hl, h⟩
    · exact h.elim
  · split at h
    · rename_i xs _ ns e
      have := boolsOf_eq e
      subst this
      cases r with
      | fl hl r =>
        obtain ⟨e1, e2⟩ := rpl_bools r
        subst e1
        exact ⟨_, ns, rfl, hl.sq, h⟩
    · exact h.elim
  · exact h.elim
def bAll : FB := on1 (onBl fun bs q => q (.bool (bs.all id)))
def bAny : FB := on1 (onBl fun bs q => q (.bool (bs.any id)))
theorem cv_all (hc : X.calm = true) : CallV X (.builtin "all") bAll := ⟨_, cr_all hc, fun ds vs Fa H q Q h hb k => by
  obtain ⟨d, v, F, rfl, rfl, rfl, r, hb⟩ := on1_ok h hb
  obtain ⟨a, ns, rfl, hs, hq⟩ := onBl_ok r hb
  exact ⟨a, ns, rfl, hs, k _ _ [] H hq .refl (fun _ h => h) (.bl _) .nil⟩⟩
theorem cv_any (hc : X.calm = true) : CallV X (.builtin "any") bAny := ⟨_, cr_any hc, fun ds vs Fa H q Q h hb k => by
  obtain ⟨d, v, F, rfl, rfl, rfl, r, hb⟩ := on1_ok h hb
  obtain ⟨a, ns, rfl, hs, hq⟩ := onBl_ok r hb
  exact ⟨a, ns, rfl, hs, k _ _ [] H hq .refl (fun _ h => h) (.bl _) .nil⟩⟩
def bTup : FB := on1 fun d q => match d with
  | .list xs => q (.tuple xs)
  | .fl xs => q (.tuple xs)
  | .tuple xs => q (.tuple xs)
  | _ => False
def bLst : FB := on1 fun d q => match d with
  | .list xs => q (.list xs)
  | .fl xs => q (.list xs)
  | .tuple xs => q (.list xs)
  | _ => False
theorem cv_tup : CallV X (.type "tuple") bTup := ⟨_, call_tuple_of, fun ds vs Fa H q Q h hb k => by
  obtain ⟨d, v, F, rfl, rfl, rfl, r, hb⟩ := on1_ok h hb
  cases r with
  | tup hl r => exact ⟨_, _, rfl, .inr ⟨hl, k _ _ F H hb .refl (fun _ h => h) (.tup hl r) (.tupl (.tup hl r) fun a m => .inr (.inl (by simpa using m)))⟩⟩
  | lst hl r => exact ⟨_, _, rfl, .inl ⟨SqL.of hl, fun l n => k _ _ _ _ hb (Fr.new n) upd_dom (fresh_tup n r) (.tupl (fresh_tup n r) fun a m => .inr (.inl (by simpa using .inr m)))⟩⟩
  | fl hl r => exact ⟨_, _, rfl, .inl ⟨hl.sq, fun l n => k _ _ _ _ hb (Fr.new n) upd_dom (fresh_tup n r) (.tupl (fresh_tup n r) fun a m => .inr (.inl (by simpa using m)))⟩⟩
  | _ => exact hb.elim⟩
theorem opres_lst {K : PySem.W.Frag} {H : Hp} {G : List Addr} {l : Addr} {ds : List D} {vs : List V} {F F0 : List Addr} (n : H l = none) (r : RpL K H ds vs F) (hs : ∀ a ∈ F, a ∈ F0) : OpRes F0 G H (.list ds) (l :: F) := by
  refine ⟨fun a m => ?_, fun fl a m => ?_, fun fl => ?_⟩
  · rcases List.mem_cons.mp m with e | m
    · subst e; exact .inl n
    · exact .inr (.inl (hs a m))
  · rw [r.imm0 (by simpa [flat] using fl)] at m
    have : a = l := by simpa using m
    subst this
    exact n
  · rw [r.imm0 (by simpa [flat] using fl)]; simp
theorem cv_lst : CallV X (.type "list") bLst := ⟨_, call_list_of, fun ds vs Fa H q Q h hb k => by
  obtain ⟨d, v, F, rfl, rfl, rfl, r, hb⟩ := on1_ok h hb
  cases r with
  | tup hl r => exact ⟨_, _, rfl, .inr hl, fun l n => k _ _ _ _ hb (Fr.new n) upd_dom (fresh_lst n r) (opres_lst n r fun a m => by simpa using m)⟩
  | lst hl r => exact ⟨_, _, rfl, .inl (SqL.of hl), fun l n => k _ _ _ _ hb (Fr.new n) upd_dom (fresh_lst n r) (opres_lst n r fun a m => by simpa using .inr m)⟩
  | fl hl r => exact ⟨_, _, rfl, .inl hl.sq, fun l n => k _ _ _ _ hb (Fr.new n) upd_dom (fresh_lst n r) (opres_lst n r fun a m => by simpa using m)⟩
  | _ => exact hb.elim⟩
def bSortedL : FB := on1 (onI fun ns q => ∀ ms : List Int, ms.Perm ns → ms.Pairwise (· ≤ ·) → q (.list (ms.map .int)))
theorem cv_sortedL : CallV X (.builtin "sorted") bSortedL := ⟨_, cr_sortedI, fun ds vs Fa H q Q h hb k => by
  obtain ⟨d, v, F, rfl, rfl, rfl, r, hb⟩ := on1_ok h hb
  obtain ⟨a, ns, rfl, hs, hq⟩ := onI_ok r hb
  exact ⟨a, ns, rfl, hs, fun ms p h1 h2 n => k _ _ _ _ (hq ms h1 h2) (Fr.new n) upd_dom (fresh_lst n (ints_rpl ms)) (opres_lst (K := X.K) n (ints_rpl ms) fun a m => by cases m)⟩⟩
end
end L3

namespace L3
open PySem PySem.Spec PyProof.Rows L2

/-! ### lists changed -/
theorem RpL.set0 {K : PySem.W.Frag} {H : Hp} : ∀ {ds : List D} {vs : List V} {F : List Addr} {j : Nat} {y : D} {v : V}, RpL K H ds vs F → Rp K H y v [] → ∃ F', RpL K H (ds.set j y) (vs.set j v) F' ∧ List.Sublist F' F
  | _, _, _, _, _, _, .nil, _ => ⟨[], .nil, .refl _⟩
  | _, _, _, 0, _, _, .cons h r, q => ⟨_, .cons q r, by simp⟩
  | _, _, _, j + 1, _, _, .cons h r, q => by
    obtain ⟨F', h1, h2⟩ := r.set0 (j := j) q
    exact ⟨_, .cons h h1, List.Sublist.append (.refl _) h2⟩
/-- the owned list at slot i, written -/
theorem own_write {C : FC} {ρ : Rho} {Fs : Nat → List Addr} {σ : L2.St} {H : Hp} {i : Nat} {t : SV} {ds' : List D} {a : Addr} {vs vs' : List V} {F F' : List Addr} {d0 : D} (s : SR C ρ Fs σ H) (e : ρ[i]? = some t) (og : t.own = true ∧ t.get = some d0) (hv : σ[i]? = some (some (.ref a)))
    (hF : Fs i = a :: F) (ha : H a = some (.lst vs)) (r : RpL C.K H ds' vs' F') (sub : List.Sublist F' F) :
    SR C (ρ.set i (t.put (.list ds'))) (pst Fs i (a :: F')) σ (upd H a (.lst vs')) ∧ Stp [i] ρ Fs H (ρ.set i (t.put (.list ds'))) (pst Fs i (a :: F')) (upd H a (.lst vs')) := by
  obtain ⟨o, g⟩ := og
  have nd := s.nodup e o (fun z => by rw [z] at g; cases g)
  rw [hF] at nd
  have na : ∀ b ∈ F', b ≠ a := fun b hb z => (List.nodup_cons.mp nd).1 (z ▸ sub.subset hb)
  have fw : Fr (fun b => b = a) H (upd H a (.lst vs')) := Fr.write ha trivial rfl
  exact s.put e o hv g (fw.mono fun b z => by rw [hF, z]; exact List.mem_cons_self) upd_dom (.lst upd_same (r.frm fw na)) ((List.Sublist.cons_cons a sub).nodup nd) fun b hb => by
    rw [hF]
    rcases List.mem_cons.mp hb with z | z
    · exact .inl (z ▸ List.mem_cons_self)
    · exact .inl (List.mem_cons_of_mem _ (sub.subset z))
def withList (ρ : Rho) (i : Nat) (k : SV → List D → Prop) : Prop := withOwn ρ i fun s h => match h with
  | .list xs => k s xs
  | _ => False
theorem withList_ok {C : FC} {ρ : Rho} {Fs : Nat → List Addr} {σ : L2.St} {H : Hp} {i : Nat} {k : SV → List D → Prop} (s : SR C ρ Fs σ H) (h : withList ρ i k) :
    ∃ t xs a vs F, ρ[i]? = some t ∧ (t.own = true ∧ t.get = some (.list xs)) ∧ σ[i]? = some (some (.ref a)) ∧ Fs i = a :: F ∧ H a = some (.lst vs) ∧ RpL C.K H xs vs F ∧ k t xs := by
  obtain ⟨t, d, e, o, g, h⟩ := withOwn_ok h
  obtain ⟨v, hv, r⟩ := s.val e g
  cases d with
  | list xs =>
    have r' := r
    generalize hF : Fs i = F0 at r'
    cases r' with
    | lst ha r1 => exact ⟨t, xs, _, _, _, e, ⟨o, g⟩, hv, rfl, ha, r1, h⟩
  | _ => exact h.elim
def isLst (ρ : Rho) (i : Nat) : Prop := match (ρ[i]? : Option SV) with
  | some s => (match s.get with | some (.list _) => True | _ => False)
  | none => False
theorem rp_lst {K : PySem.W.Frag} {H : Hp} {xs : List D} {v : V} {F : List Addr} (r : Rp K H (.list xs) v F) : ∃ a vs F', v = .ref a ∧ F = a :: F' ∧ H a = some (.lst vs) ∧ RpL K H xs vs F' := by
  cases r with
  | lst ha r => exact ⟨_, _, _, rfl, rfl, ha, r⟩
theorem rp_int {K : PySem.W.Frag} {H : Hp} {i : Int} {v : V} {F : List Addr} (r : Rp K H (.int i) v F) : v = .int i ∧ F = [] := by
  cases r
  exact ⟨rfl, rfl⟩
theorem isLst_ok {C : FC} {ρ : Rho} {Fs : Nat → List Addr} {σ : L2.St} {H : Hp} {i : Nat} (s : SR C ρ Fs σ H) (h : isLst ρ i) : ∃ a vs, σ[i]? = some (some (.ref a)) ∧ H a = some (.lst vs) := by
  unfold isLst at h
  cases e : ρ[i]? with
  | none => simp only [e] at h
  | some t =>
    simp only [e] at h
    cases g : t.get with
    | none => simp only [g] at h
    | some d =>
      obtain ⟨v, hv, r⟩ := s.val e g
      cases d with
      | list xs =>
        obtain ⟨a, vs, F', rfl, _, ha, _⟩ := rp_lst r
        exact ⟨_, _, hv, ha⟩
      | _ => simp only [g] at h
def wsAppend (i : Nat) (wa : WE) : WS := fun ρ W => isLst ρ i ∧ wa ρ (fun y ρ1 => withList ρ1 i fun s xs => (imm y = true ∧ xs.length < sizeLine) ∧ W.nx (ρ1.set i (s.put (.list (xs ++ [y]))))) W.ex
def wsStore (i : Nat) (wk we : WE) : WS := fun ρ W => we ρ (fun y ρ1 => hasV ρ1 i ∧ wk ρ1 (fun k ρ2 => withList ρ2 i fun s xs => match k with
  | .int k => imm y = true ∧ ∃ j, ixN xs.length k = some j ∧ W.nx (ρ2.set i (s.put (.list (xs.set j y))))
  | _ => False) W.ex) W.ex
def wsAug (i : Nat) (g : Int → Int → Int) (wa : WE) : WS := fun ρ W => match (ρ[i]? : Option SV) with
  | some s => (match s.get with
    | some (.int a) => wa ρ (fun y ρ1 => match y with
      | .int b => (i < ρ1.length) ∧ W.nx (ρ1.set i (.ow (.int (g a b))))
      | _ => False) W.ex
    | _ => False)
  | none => False
section
variable {C : FC} {e k : Expr} {a0 a1 m1 b0 b1 m2 : List Nat} {wa wk : WE} {pos pos' p ap cp tp : Pos} {i : Nat} {x : Str}
theorem js_append (hN : C.X.N[i]? = some x) (hv : Vis C.X.env.scope x) (he : JE C e a0 a1 m1 wa)
    (hd : (x == ("__debug__" : Str)) = false := by decide) (hcd : (x == ("__classdict__" : Str)) = false := by decide)
    (hbase : attributeBase (.Name x p) "append" C.X.env (eval (.Name x p) C.X.env) = eval (.Name x p) C.X.env := by rfl) (hline : (ap.endLine == cp.line) = true := by rfl)
    (hfew : ((backTo cp (starEach [e] C.X.env)).all (fun x => !x.1) && (backToKw cp (keywordEach [] C.X.env)).all (fun x => x.1.isSome) && decide ([e].length + ([] : List Keyword).length + (if ([] : List Keyword).isEmpty then 0 else 1) < 30)) = true := by rfl)
    (hst : starEach [e] C.X.env = (false, eval e C.X.env) :: starEach [] C.X.env := by rfl) (hpl : (backTo cp (starEach [] C.X.env)).any (·.1) = false := by rfl)
    (hs : swapsWith (.Call (.Attribute (.Name x p) "append" ap) [e] [] cp) none pos.line C.X.env = pure false := by rfl) :
    JS C (.Expr (.Call (.Attribute (.Name x p) "append" ap) [e] [] cp) pos) (m1 ++ [i]) (wsAppend i wa) := by
  refine ⟨PS.imp (ps_expr (pe_bm PySem.F.plainAttrs_list PySem.F.slot_list_append PySem.F.type_list_append mt_append (pe_var hN hv hd hcd) (pa_cons he.pe pa_nil hst) hbase hfew hline hst hpl) hs) ?_⟩
  rintro De σ H ⟨ρ, Fs, W, s, ⟨h0, hw⟩, ex, kk⟩
  rw [ex] at hw
  obtain ⟨a0, vs0, hvi, ha0⟩ := isLst_ok s h0
  refine ⟨.ref a0, hvi, .inl ⟨rfl, _, SqL.of ha0⟩, ρ, Fs, _, s, hw, fun y ρ1 vy Fy H1 Fs1 h1 s1 t1 r1 k1 => ?_⟩
  · obtain ⟨t, xs, a, vs, F, e1, o, hv1, hF, ha, rx, ⟨him, hz⟩, hn⟩ := withList_ok s1 h1
    rw [hvi] at hv1
    cases hv1
    have r1' := r1.imm0 him
    subst r1'
    refine ⟨_, vs, vy, rfl, rfl, ha, by rw [rx.len]; exact hz, ?_⟩
    have rr := rx.app (RpL.one r1)
    rw [List.append_nil] at rr
    obtain ⟨s2, t2⟩ := own_write s1 e1 o hvi hF ha rr (.refl _)
    exact kk.nx _ _ σ _ hn s2 (t1.trans t2)
theorem js_store (hN : C.X.N[i]? = some x) (hv : Vis C.X.env.scope x) (he : JE C e a0 a1 m1 wa) (hk : JE C k b0 b1 m2 wk)
    (dd : dj (a0 ++ a1) m2 = true := by decide)
    (hd : (x == ("__debug__" : Str)) = false := by decide) (hcd : (x == ("__classdict__" : Str)) = false := by decide)
    (ha : ∀ v, assign (.Subscript (.Name x p) k tp) C.X.env v = (do
      let ov ← holding [v] (eval (.Name x p) C.X.env)
      let iv ← holding [v, ov] (eval k C.X.env)
      standAt tp
      holding [v, ov, iv] (setItem ov iv v)
      release [v, ov, iv] []) := by intro _; rfl)
    (hs : swapsWithSole [.Subscript (.Name x p) k tp] e pos.line C.X.env = pure false := by rfl) (hw : swappedStores [.Subscript (.Name x p) k tp] e C.X.env = pure none := by rfl)
    (h1 : (assignEach [.Subscript (.Name x p) k tp] C.X.env).map (·.2) = [assign (.Subscript (.Name x p) k tp) C.X.env] := by rfl) :
    JS C (.Assign [.Subscript (.Name x p) k tp] e pos) ((m1 ++ m2) ++ [i]) (wsStore i wk wa) := by
  refine ⟨PS.imp (ps_asg he.pe (pg_sub (pe_var hN hv hd hcd) hk.pe set_list ha) hs hw h1) ?_⟩
  rintro De σ H ⟨ρ, Fs, W, s, hw, ex, kk⟩
  unfold wsStore at hw
  rw [ex] at hw
  refine ⟨ρ, Fs, _, s, hw, fun y ρ1 vy Fy H1 Fs1 h1 s1 t1 r1 k1 => ?_⟩
  obtain ⟨h0, h1⟩ := h1
  obtain ⟨v, hvi⟩ := s1.has h0
  refine ⟨v, hvi, ρ1, Fs1, _, s1, h1, fun kd ρ2 vk Fk H2 Fs2 h2 s2 t2 r2 k2 => ?_⟩
  obtain ⟨t, xs, a, vs, F, e1, o, hv1, hF, ha, rx, h3⟩ := withList_ok s2 h2
  rw [hvi] at hv1
  cases hv1
  cases r2 <;> first | exact h3.elim | skip
  obtain ⟨him, j, hj, hn⟩ := h3
  have ry := (keep2 s1 t2 r1 k1 (dj_ok dd)).1
  have ry' := ry.imm0 him
  subst ry'
  refine ⟨a, vs, _, j, rfl, rfl, ha, by rw [rx.len]; exact hj, ?_⟩
  obtain ⟨F', rr, sub⟩ := rx.set0 (j := j) ry
  obtain ⟨s3, t3⟩ := own_write s2 e1 o hvi hF ha rr sub
  exact kk.nx _ _ σ _ hn s3 ((t1.trans t2).trans t3)
theorem js_aug {op : Operator} {g : Int → Int → Int} (ho : PIp C.X op (ipI g)) (hN : C.X.N.Nodup) (hi : C.X.N[i]? = some x) (hx : Loc C.X.env.scope x) (he : JE C e a0 a1 m1 wa)
    (hf : C.X.fn x = true ∨ C.X.env.scope.names.lookup x = some .local := by first | exact .inl rfl | exact .inr rfl | assumption) : JS C (.AugAssign (.Name x pos') op e pos) (m1 ++ [i]) (wsAug i g wa) := by
  refine ⟨PS.imp (ps_aug hN hi hx he.pe ho hf) ?_⟩
  rintro De σ H ⟨ρ, Fs, W, s, hw, ex, kk⟩
  unfold wsAug at hw
  cases e1 : ρ[i]? with
  | none => simp only [e1] at hw
  | some t =>
    simp only [e1] at hw
    cases g1 : t.get with
    | none => simp only [g1] at hw
    | some d =>
      obtain ⟨v, hv, r⟩ := s.val e1 g1
      cases d <;> (try simp only [g1] at hw)
      rename_i a
      rw [ex] at hw
      obtain ⟨rfl, _⟩ := rp_int r
      refine ⟨_, hv, ρ, Fs, _, s, hw, fun y ρ1 vy Fy H1 Fs1 h1 s1 t1 r1 k1 => ?_⟩
      cases y <;> first | exact h1.elim | skip
      cases r1
      refine ⟨_, _, rfl, rfl, ?_⟩
      exact kk.nx _ (pst Fs1 i []) _ H1 h1.2 (s1.setS (u := .ow (.int (g a _))) h1.1 ⟨_, rfl, .int _, List.nodup_nil, fun a m => by cases m⟩ fun j t _ _ _ a m => by cases m) (stp_set h1.1 t1 (fun _ a m => by cases m) fun a m => by cases m)
end
/-! ### isinstance(x, T), T a built-in class -/
def tyN : D → String
  | .none => "NoneType"
  | .bool _ => "bool"
  | .int _ => "int"
  | .str _ => "str"
  | .list _ => "list"
  | .fl _ => "list"
  | .tuple _ => "tuple"
  | .dict _ => "dict"
theorem rp_tyx {K : PySem.W.Frag} {H : Hp} {d : D} {v : V} {F : List Addr} (r : Rp K H d v F) : TyX K H v (.type (tyN d)) := by
  cases r with
  | non => exact .base .non
  | bl b => exact .base (.bl b)
  | int i => exact .base (.int i)
  | str x => exact .base (.str x)
  | tup h _ =>
    rcases h with (h | ⟨o, h⟩) | ⟨o, its, n, h1, h2, _⟩
    · exact .base (.tup h)
    · exact .fTuple h
    · exact .kTuple h1 h2
  | lst h _ => exact .base (.lst h)
  | fl h _ =>
    rcases h with ⟨o, h⟩ | ⟨o, its, n, h1, h2, _⟩
    · exact .base (.frz h)
    · exact .kList h1 h2
def wIs (b : D → Bool) (wa : WE) : WE := fun ρ q E => wa ρ (fun d ρ1 => q (.bool (b d)) ρ1) E
section
variable {C : FC} {e : Expr} {a0 a1 m1 : List Nat} {wa : WE} {pos p p2 : Pos} {T : String} {x : Str}
theorem je_is (he : JE C e a0 a1 m1 wa) (hg : Gl C.X "isinstance") (hm : C.X.mg "isinstance" = none) (gT : Gl C.X x) (mT : C.X.mg x = none) (bT : bootBuiltins x = some (.type T)) {b : D → Bool} (hk : ∀ d : D, kitB (tyN d) T = some (b d)) (hn : x ≠ "__name__" := by decide) (hdb : (x == ("__debug__" : Str)) = false := by decide)
    (hs : starEach [e, .Name x p2] C.X.env = (false, eval e C.X.env) :: starEach [.Name x p2] C.X.env := by rfl) (hs2 : starEach [.Name x p2] C.X.env = (false, eval (.Name x p2) C.X.env) :: starEach [] C.X.env := by rfl)
    (hpl : (backTo pos (starEach [.Name x p2] C.X.env)).any (·.1) = false := by rfl) : JE C (.Call (.Name "isinstance" p) [e, .Name x p2] [] pos) [] [] m1 (wIs b wa) := by
  refine ⟨PE.imp (pe_callB call_isi hg hm (by decide +kernel) (pa_cons he.pe (pa_cons (pe_bltn (v := .ty T) gT mT bT rfl hn hdb) pa_nil hs2) hs) (by decide) (by decide) hs hpl) ?_⟩
  rintro σ H Q ⟨ρ, Fs, q, s, hw, k⟩
  refine ⟨ρ, Fs, _, s, hw, fun d ρ1 v F H1 Fs1 h1 s1 t1 r1 k1 => ?_⟩
  exact ⟨v, .ty T, _, _, b d, rfl, .ty T, rp_tyx r1, kit_ty (hk d), k _ ρ1 _ [] H1 Fs1 h1 s1 t1 (.bl _) .nil⟩
end
/-- as plain cases -/
def dInt : D → Bool
  | .int _ => true
  | .bool _ => true
  | _ => false
def dBool : D → Bool
  | .bool _ => true
  | _ => false
def dStr : D → Bool
  | .str _ => true
  | _ => false
def dTup : D → Bool
  | .tuple _ => true
  | _ => false
def dLst : D → Bool
  | .fl _ => true
  | .list _ => true
  | _ => false
theorem isT_int (d : D) : kitB (tyN d) "int" = some (dInt d) := by cases d <;> (simp only [tyN, dInt]; decide +kernel)
theorem isT_bool (d : D) : kitB (tyN d) "bool" = some (dBool d) := by cases d <;> (simp only [tyN, dBool]; decide +kernel)
theorem isT_str (d : D) : kitB (tyN d) "str" = some (dStr d) := by cases d <;> (simp only [tyN, dStr]; decide +kernel)
theorem isT_tuple (d : D) : kitB (tyN d) "tuple" = some (dTup d) := by cases d <;> (simp only [tyN, dTup]; decide +kernel)
theorem isT_list (d : D) : kitB (tyN d) "list" = some (dLst d) := by cases d <;> (simp only [tyN, dLst]; decide +kernel)
end L3

namespace L3
open PySem PySem.Spec PyProof.Rows L2

/-! ### a, b = x, y -/
def okR (a0 a1 : List Nat) (d : D) : Prop := imm d = true ∨ (a0 = [] ∧ (a1 = [] ∨ flat d = true))
def cI : D → Bool := imm
def cC : D → Bool := fun d => imm d || flat d
def cF : D → Bool := fun _ => true
theorem cI_ok {a0 a1 : List Nat} : ∀ d, cI d = true → okR a0 a1 d := fun _ h => .inl h
theorem cC_ok {a1 : List Nat} : ∀ d, cC d = true → okR [] a1 d := fun d h => (Bool.or_eq_true_iff.mp h).imp id fun z => ⟨rfl, .inr z⟩
theorem cF_ok : ∀ d, cF d = true → okR [] [] d := fun _ _ => .inr ⟨rfl, .inl rfl⟩
/-- then the footprint is new, without a place twice -/
theorem okR_new {a0 a1 : List Nat} {K : PySem.W.Frag} {H H1 : Hp} {Fs : Nat → List Addr} {d : D} {v : V} {F : List Addr} (o : okR a0 a1 d) (r : Rp K H1 d v F) (k : Res a0 a1 H Fs d F) : F.Nodup ∧ ∀ a ∈ F, H a = none ∧ ∀ j, a ∉ Fs j := by
  rcases o with e | ⟨e0, e1⟩
  · rw [r.imm0 e]
    exact ⟨List.nodup_nil, fun a m => by cases m⟩
  · refine ⟨k.nd e0 e1, fun a m => ?_⟩
    rcases e1 with e1 | e1
    · rcases k.ali a m with z | ⟨j, hj, _⟩
      · exact z
      · subst e0 e1
        cases hj
    · exact k.shl e0 e1 a m
def wsPar2 (c1 c2 : D → Bool) (i j : Nat) (wa wb : WE) : WS := fun ρ W => wa ρ (fun d ρ1 => wb ρ1 (fun e ρ2 => ((i < ρ2.length ∧ j < ρ2.length) ∧ c1 d = true ∧ c2 e = true) ∧ W.nx ((ρ2.set i (.ow d)).set j (.ow e))) W.ex) W.ex
def wsPar3 (c1 c2 c3 : D → Bool) (i j l : Nat) (wa wb wc : WE) : WS := fun ρ W => wa ρ (fun d ρ1 => wb ρ1 (fun e ρ2 => wc ρ2 (fun f ρ3 => ((i < ρ3.length ∧ j < ρ3.length ∧ l < ρ3.length) ∧ c1 d = true ∧ c2 e = true ∧ c3 f = true) ∧ W.nx (((ρ3.set i (.ow d)).set j (.ow e)).set l (.ow f))) W.ex) W.ex) W.ex
section
variable {C : FC} {a b c : Expr} {a0 a1 m1 b0 b1 m2 c0 c1' m3 : List Nat} {wa wb wc : WE} {px py pz pt pos : Pos} {kt k2 : Nat} {pt2 : Pos} {i j l : Nat} {x y z : Str} {c1 c2 c3 : D → Bool}
theorem js_par2 (hc : C.X.calm = true) (hN : C.X.N.Nodup) (hi : C.X.N[i]? = some x) (hj : C.X.N[j]? = some y) (hij : i ≠ j) (hx : C.X.env.scope.names.lookup x = some .local) (hy : C.X.env.scope.names.lookup y = some .local)
    (ha : JE C a a0 a1 m1 wa) (hb : JE C b b0 b1 m2 wb) (h1 : ∀ d, c1 d = true → okR a0 a1 d) (h2 : ∀ d, c2 d = true → okR b0 b1 d) (d1 : dj (a0 ++ a1) m2 = true := by decide)
    (hw : swappedStores [.Tuple [.Name x px, .Name y py] kt pt] (.Tuple [a, b] k2 pt2) C.X.env = pure (some [x, y]) := by rfl)
    (hs : swapsWithSole [.Tuple [.Name x px, .Name y py] kt pt] (.Tuple [a, b] k2 pt2) pos.line C.X.env = pure false := by rfl)
    (he1 : starEach [a, b] C.X.env = (false, eval a C.X.env) :: starEach [b] C.X.env := by rfl) (he2 : starEach [b] C.X.env = (false, eval b C.X.env) :: starEach [] C.X.env := by rfl) :
    JS C (.Assign [.Tuple [.Name x px, .Name y py] kt pt] (.Tuple [a, b] k2 pt2) pos) ((m1 ++ m2) ++ [i, j]) (wsPar2 c1 c2 i j wa wb) := by
  refine ⟨PS.imp (ps_par hc hN hi hj hij hx hy (pa_cons ha.pe (pa_cons hb.pe pa_nil he2) he1) hw hs) ?_⟩
  rintro De σ H ⟨ρ, Fs, W, s, hw, ex, kk⟩
  unfold wsPar2 at hw
  rw [ex] at hw
  refine ⟨ρ, Fs, _, s, hw, fun d ρ1 v F H1 Fs1 q1 s1 t1 r1 k1 => ⟨ρ1, Fs1, _, s1, q1, fun e ρ2 u G H2 Fs2 q2 s2 t2 r2 k2 => ?_⟩⟩
  obtain ⟨⟨⟨li, lj⟩, e1, e2⟩, hn⟩ := q2
  have r1' := (keep2 s1 t2 r1 k1 (dj_ok d1)).1
  have k1' := res_keep s1 t2 r1 k1 (dj_ok d1)
  obtain ⟨nd1, f1⟩ := okR_new (h1 d e1) r1' k1'
  obtain ⟨nd2, f2⟩ := okR_new (h2 e e2) r2 k2
  have s3 := s2.setS (u := .ow d) li ⟨v, rfl, r1', nd1, fun a m => s.dom a (f1 a m).1⟩ fun j t _ _ _ a m => (f1 a m).2 j
  have lj' : j < (ρ2.set i (.ow d)).length := by rw [List.length_set]; exact lj
  have t12 := t1.trans t2
  have t3 : Stp ((m1 ++ m2) ++ [i]) ρ Fs H (ρ2.set i (.ow d)) (pst Fs2 i F) H2 := stp_set li t12 (fun _ a m => (f1 a m).1) fun a m => .inl (f1 a m).1
  have f2' : ∀ a ∈ G, ∀ k, a ∉ pst Fs2 i F k := fun a m k hk => by
    by_cases e : k = i
    · subst e
      rw [pst_same] at hk
      obtain ⟨us, tr⟩ := r1.trk a hk
      rw [(f2 a m).1] at tr
      cases tr
    · rw [pst_ne e] at hk
      exact (f2 a m).2 k hk
  have s4 := s3.setS (u := .ow e) lj' ⟨u, rfl, r2, nd2, fun a m => s1.dom a (f2 a m).1⟩ fun j t _ _ _ a m => f2' a m j
  have t4 : Stp (((m1 ++ m2) ++ [i]) ++ [j]) ρ Fs H ((ρ2.set i (.ow d)).set j (.ow e)) (pst (pst Fs2 i F) j G) H2 := stp_set lj' t3 (fun _ a m => t1.dom a (f2 a m).1) fun a m => .inl (t1.dom a (f2 a m).1)
  exact ⟨v, u, rfl, kk.nx _ _ _ H2 hn s4 (t4.mono (by simp))⟩
/-- any target of names, any value that holds no list -/
def wsAsg (g : WG) (wa : WE) : WS := fun ρ W => wa ρ (fun d ρ1 => imm d = true ∧ g d ρ1 W.nx) W.ex
theorem js_asg {tg : Expr} {is : List Nat} {t : TG} {g : WG} (ha : JE C a a0 a1 m1 wa) (hg : JG C tg is t g) (hs : swapsWithSole [tg] a pos.line C.X.env = pure false := by rfl) (hw : swappedStores [tg] a C.X.env = pure none := by rfl)
    (h1 : (assignEach [tg] C.X.env).map (·.2) = [assign tg C.X.env] := by rfl) : JS C (.Assign [tg] a pos) (m1 ++ is) (wsAsg g wa) := by
  refine ⟨PS.imp (ps_asg ha.pe hg.pg hs hw h1) ?_⟩
  rintro De σ H ⟨ρ, Fs, W, s, hw, ex, kk⟩
  unfold wsAsg at hw
  rw [ex] at hw
  refine ⟨ρ, Fs, _, s, hw, fun d ρ1 v F H1 Fs1 q1 s1 t1 r1 k1 => ?_⟩
  have e := r1.imm0 q1.1
  subst e
  exact hg.ok d v ρ1 Fs1 σ H1 _ _ s1 r1 q1.2 fun ρ2 Fs2 σ2 h2 s2 k2 n2 _ => kk.nx ρ2 Fs2 σ2 H1 h2 s2 (t1.trans (stp_target (is := is) (fun i hi => ⟨(k2 i hi).1, (k2 i hi).2.2⟩) n2))
end
/-! ### a list or a tuple is walked -/
def wiSeq (wa : WE) : WI := fun ρ q E => wa ρ (fun d ρ1 => match d with | .list ds => q ds ρ1 | .tuple ds => q ds ρ1 | .fl ds => q ds ρ1 | _ => False) E
def iSeqT (K : PySem.W.Frag) (tl : TE) : TI := fun σ H R => tl σ H fun x H1 => ∃ a, x = .ref a ∧ (((∃ xs, SqL K H1 a xs) ∧ R (Itl K a) H1) ∨ ((∃ xs, SqT K H1 a xs) ∧ R (Itt K a) H1))
theorem pi_seqT {X : Cx} {tg l : Expr} {tl : TE} (hl : PE X l tl) : PI X tg l (iSeqT X.K tl) := by
  refine ⟨fun pins s σ H R I0 h => ?_⟩
  refine thn (hl.run pins s σ H _ I0 h) fun v s1 ⟨y, Hy, Iy, ry, qy⟩ => ?_
  obtain ⟨a, ea, qy⟩ := qy
  subst ea
  cases ry
  have new : ∀ b ∈ [s1.heap.objs.size], FpOk X pins Hy b := fun b hb => by
    have eb : b = s1.heap.objs.size := by simpa using hb
    rw [eb]
    exact Iy.fpOk (Nat.le_refl _) (Iy.hok.fresh (Nat.le_refl _))
  rcases qy with ⟨⟨xs, hx⟩, hR⟩ | ⟨⟨xs, hx⟩, hR⟩
  · obtain ⟨its, rv, pl, _⟩ := Iy.list hx
    exact wpAny_pyIter_list pl.isList ⟨_, [s1.heap.objs.size], _, _, Hy, rfl, Iy.kept (t' := s1.toks) (fun b o e => Heap.get?_push_of_some _ e), turn_list a _, ⟨_, Heap.get?_push_size _ rfl, rfl, rfl⟩, new, hR⟩
  · obtain ⟨its, rv, pl, _⟩ := Iy.tuple hx
    exact wpAny_pyIter_tuple (show s1.heap.IsTuple a its.toArray from pl) ⟨_, [s1.heap.objs.size], _, _, Hy, rfl, Iy.kept (t' := s1.toks) (fun b o e => Heap.get?_push_of_some _ e), turn_tuple a _, ⟨_, Heap.get?_push_size _ rfl, rfl, rfl⟩, new, hR⟩
theorem walk_lst {K : PySem.W.Frag} {a : Addr} {ds : List D} {vs : List V} {F : List Addr} : Walk K (Itl K a) ds (a :: F) (fun H => H a = some (.lst vs) ∧ RpL K H ds vs F) := by
  refine ⟨fun i d H hs hd => ?_, fun i H hs hi => ⟨vs, SqL.of hs.1, by rw [hs.2.len]; exact hi⟩, fun H H' A hs f n => ⟨f _ _ hs.1 (fun ps => by simp) (fun z => absurd z (n _ List.mem_cons_self)), hs.2.frm f fun a m => n a (List.mem_cons_of_mem _ m)⟩⟩
  obtain ⟨v, G, e1, e2, e3⟩ := hs.2.getD hd
  refine ⟨⟨vs, v, SqL.of hs.1, e1⟩, fun x H' ⟨eH, hx⟩ => ?_⟩
  subst eH
  have := hx vs (SqL.of hs.1)
  rw [e1] at this
  cases this
  exact ⟨.refl, fun _ h => h, G, e2, fun a m => List.mem_cons_of_mem _ (e3 a m)⟩
theorem walk_tup {K : PySem.W.Frag} {a : Addr} {ds : List D} {vs : List V} {F : List Addr} : Walk K (Itt K a) ds F (fun H => SqT K H a vs ∧ RpL K H ds vs F) := by
  refine ⟨fun i d H hs hd => ?_, fun i H hs hi => ⟨vs, hs.1, by rw [hs.2.len]; exact hi⟩, fun H H' A hs f n => ⟨sqT_frm hs.1 f, hs.2.frm f n⟩⟩
  obtain ⟨v, G, e1, e2, e3⟩ := hs.2.getD hd
  refine ⟨⟨vs, v, hs.1, e1⟩, fun x H' ⟨eH, hx⟩ => ?_⟩
  subst eH
  have := hx vs hs.1
  rw [e1] at this
  cases this
  exact ⟨.refl, fun _ h => h, G, e2, e3⟩
theorem walk_fl {K : PySem.W.Frag} {a : Addr} {ds : List D} {vs : List V} {F : List Addr} : Walk K (Itl K a) ds F (fun H => SqR K H a vs ∧ RpL K H ds vs F) := by
  refine ⟨fun i d H hs hd => ?_, fun i H hs hi => ⟨vs, hs.1.sq, by rw [hs.2.len]; exact hi⟩, fun H H' A hs f n => ⟨sqR_frm hs.1 f, hs.2.frm f n⟩⟩
  obtain ⟨v, G, e1, e2, e3⟩ := hs.2.getD hd
  refine ⟨⟨vs, v, hs.1.sq, e1⟩, fun x H' ⟨eH, hx⟩ => ?_⟩
  subst eH
  have := hx vs hs.1.sq
  rw [e1] at this
  cases this
  exact ⟨.refl, fun _ h => h, G, e2, e3⟩
theorem ji_seq {C : FC} {tg e : Expr} {a0 a1 m1 : List Nat} {wa : WE} (h : JE C e a0 a1 m1 wa) : JI C tg e (a0 ++ a1) m1 (wiSeq wa) := by
  refine ⟨PI.imp (pi_seqT h.pe) ?_⟩
  rintro σ H R ⟨ρ, Fs, q, s, hw, k⟩
  refine ⟨ρ, Fs, _, s, hw, fun d ρ1 v F H1 Fs1 h1 s1 t1 r1 k1 => ?_⟩
  have al := res_alias r1 k1
  cases r1 <;> first | exact h1.elim | skip
  · rename_i a vs ds hl r
    exact ⟨a, rfl, .inr ⟨⟨vs, hl⟩, k ds ρ1 _ F _ H1 Fs1 h1 s1 t1 walk_tup ⟨hl, r⟩ al⟩⟩
  · rename_i a vs ds F hl r
    exact ⟨a, rfl, .inl ⟨⟨vs, SqL.of hl⟩, k ds ρ1 _ _ _ H1 Fs1 h1 s1 t1 walk_lst ⟨hl, r⟩ al⟩⟩
  · rename_i a vs ds hl r
    exact ⟨a, rfl, .inl ⟨⟨vs, hl.sq⟩, k ds ρ1 _ _ _ H1 Fs1 h1 s1 t1 walk_fl ⟨hl, r⟩ al⟩⟩
/-- a def of the text, where it stands, and its promise -/
def Has (P : Program) (w : World) (K : PySem.W.Frag) (mg : Str → Option Value) (base : Heap) (x : Str) (k : Nat) (ps : List Str) (sp : Sp) : Prop :=
  ∃ f fd, mg x = some (.ref f) ∧ PySem.W.keepIn K (.ref f) = true ∧ Binds K fd ps [] ∧ FnOk P w K mg base (L2.CX P w) k f fd ps sp
end L3

namespace L3
open PySem PySem.Spec PyProof.Rows L2

/-! ### slices -/
def cutL {α : Type} (xs : List α) (lo hi : Option Int) : List α := (xs.drop (HT.sIx xs.length 0 lo)).take (HT.sIx xs.length xs.length hi - HT.sIx xs.length 0 lo)
theorem RpL.drop {K : PySem.W.Frag} {H : Hp} : ∀ {ds : List D} {vs : List V} {F : List Addr} (n : Nat), RpL K H ds vs F → ∃ G, RpL K H (ds.drop n) (vs.drop n) G ∧ List.Sublist G F
  | _, _, F, 0, r => ⟨F, r, .refl _⟩
  | _, _, _, n + 1, .nil => ⟨[], .nil, .refl _⟩
  | _, _, _, n + 1, .cons (F := F) h r => by
    obtain ⟨G, g1, g2⟩ := r.drop n
    exact ⟨G, g1, g2.trans (List.sublist_append_right _ _)⟩
theorem RpL.take {K : PySem.W.Frag} {H : Hp} : ∀ {ds : List D} {vs : List V} {F : List Addr} (n : Nat), RpL K H ds vs F → ∃ G, RpL K H (ds.take n) (vs.take n) G ∧ List.Sublist G F
  | _, _, F, 0, r => ⟨[], .nil, List.nil_sublist _⟩
  | _, _, _, n + 1, .nil => ⟨[], .nil, .refl _⟩
  | _, _, _, n + 1, .cons (F := F) h r => by
    obtain ⟨G, g1, g2⟩ := r.take n
    exact ⟨F ++ G, .cons h g1, g2.append_left _⟩
theorem RpL.cut {K : PySem.W.Frag} {H : Hp} {ds : List D} {vs : List V} {F : List Addr} (r : RpL K H ds vs F) (lo hi : Option Int) : ∃ G, RpL K H (cutL ds lo hi) (cutV vs lo hi) G ∧ List.Sublist G F := by
  unfold cutL cutV
  rw [r.len]
  obtain ⟨G, g1, g2⟩ := r.drop (HT.sIx ds.length 0 lo)
  obtain ⟨G', h1, h2⟩ := g1.take (HT.sIx ds.length ds.length hi - HT.sIx ds.length 0 lo)
  exact ⟨G', h1, h2.trans g2⟩
theorem RpL.rev {K : PySem.W.Frag} {H : Hp} : ∀ {ds : List D} {vs : List V} {F : List Addr}, RpL K H ds vs F → ∃ G, RpL K H ds.reverse vs.reverse G ∧ ∀ a, a ∈ G ↔ a ∈ F
  | _, _, _, .nil => ⟨[], .nil, fun _ => .rfl⟩
  | _, _, _, .cons (F := F) h r => by
    obtain ⟨G, g1, g2⟩ := r.rev
    rw [List.reverse_cons, List.reverse_cons]
    refine ⟨G ++ F, g1.app (.one h), fun a => ?_⟩
    rw [List.mem_append, List.mem_append, g2]
    exact Or.comm
abbrev FSl := D → Option Int → Option Int → (D → Prop) → Prop
def fSl : FSl := fun x lo hi q => match x with
  | .list ds => q (.list (cutL ds lo hi))
  | .fl ds => q (.list (cutL ds lo hi))
  | .tuple ds => q (.tuple (cutL ds lo hi))
  | .str z => z.length ≤ sizeLine ∧ q (.str (Txt.slice z lo hi))
  | _ => False
abbrev rSl3 (K : PySem.W.Frag) : V → Option Int → Option Int → Hp → VK → Prop := fun x lo hi H Q => (rSlL K x lo hi H Q ∨ rSlA K x lo hi H Q) ∨ C8.rSlX x lo hi H Q
theorem sl_3 {X : Cx} : SlR X (rSl3 X.K) := (sl_list.or sl_tupA).or C8.sl_txt
theorem cut_all {α : Type} {xs : List α} {lo hi : Option Int} (h : HT.sIx xs.length 0 lo = 0 ∧ HT.sIx xs.length xs.length hi = xs.length) : cutL xs lo hi = xs := by
  unfold cutL
  rw [h.1, h.2]
  simp
theorem fresh_res {K : PySem.W.Frag} {H : Hp} {p : Addr} {F G F0 : List Addr} {ds : List D} {vs : List V} (n : H p = none) (r : RpL K H ds vs F) (s : ∀ a ∈ F, a ∈ F0) : OpRes F0 G H (.list ds) (p :: F) := by
  refine ⟨fun a m => ?_, fun fl a m => ?_, fun fl => ?_⟩
  · rcases List.mem_cons.mp m with e | m
    · subst e; exact .inl n
    · exact .inr (.inl (s a m))
  · rw [r.imm0 (by simpa [flat] using fl)] at m
    rcases List.mem_cons.mp m with e | m
    · subst e; exact n
    · cases m
  · rw [r.imm0 (by simpa [flat] using fl)]; simp
theorem sl_op {K : PySem.W.Frag} {x : D} {v : V} {F : List Addr} {H : Hp} {lo hi : Option Int} {q : D → Prop} {Q : VK} (rx : Rp K H x v F) (hf : fSl x lo hi q)
    (k : ∀ d v' F' H', q d → Fr (fun _ => False) H H' → (∀ a, H' a = none → H a = none) → Rp K H' d v' F' → OpRes F [] H d F' → Q v' H') : rSl3 K v lo hi H Q := by
  cases rx with
  | non => exact hf.elim
  | bl b => exact hf.elim
  | int i => exact hf.elim
  | str z => exact .inr ⟨z, rfl, hf.1, k _ _ [] H hf.2 .refl (fun _ h => h) (.str _) .nil⟩
  | @tup a vs ds F h r =>
    have hf : q (.tuple (cutL ds lo hi)) := hf
    refine .inl (.inr ⟨_, _, rfl, h, fun hw => ?_, fun hw p n => ?_⟩)
    · rw [cut_all (by rw [← r.len]; exact hw)] at hf
      exact k _ _ F H hf .refl (fun _ h => h) (.tup h r) (.tupl (.tup h r) fun a m => .inr (.inl m))
    · obtain ⟨G, g1, g2⟩ := r.cut lo hi
      exact k _ _ G _ hf (Fr.new n) upd_dom (fresh_tup n g1) (.tupl (fresh_tup n g1) fun a m => .inr (.inl (g2.subset m)))
  | @lst a vs ds F h r =>
    refine .inl (.inl ⟨_, _, rfl, SqL.of h, fun p n => ?_⟩)
    obtain ⟨G, g1, g2⟩ := r.cut lo hi
    exact k _ _ (p :: G) _ hf (Fr.new n) upd_dom (fresh_lst n g1) (fresh_res n g1 fun a m => List.mem_cons_of_mem _ (g2.subset m))
  | @fl a vs ds F h r =>
    refine .inl (.inl ⟨_, _, rfl, h.sq, fun p n => ?_⟩)
    obtain ⟨G, g1, g2⟩ := r.cut lo hi
    exact k _ _ (p :: G) _ hf (Fr.new n) upd_dom (fresh_lst n g1) (fresh_res n g1 fun a m => g2.subset m)
abbrev WO := Rho → (Option Int → Rho → Prop) → EXT → Prop
def rdO (C : FC) (mod : List Nat) (w : WO) : TO := fun σ H Q => ∃ ρ Fs q, SR C ρ Fs σ H ∧ w ρ q C.EX ∧ ∀ o ρ' H' Fs', q o ρ' → SR C ρ' Fs' σ H' → Stp mod ρ Fs H ρ' Fs' H' → Q o H'
structure JO (C : FC) (e : Option Expr) (mod : List Nat) (w : WO) : Prop where
  po : PO C.X e (rdO C mod w)
def woN : WO := fun ρ q _ => q none ρ
def woS (wa : WE) : WO := fun ρ q E => wa ρ (fun d ρ1 => match d with | .int i => q (some i) ρ1 | _ => False) E
theorem PO.imp {X : Cx} {e : Option Expr} {t t' : TO} (h : PO X e t) (i : ∀ σ H Q, t' σ H Q → t σ H Q) : PO X e t' := ⟨fun pins s σ H Q I q => h.run pins s σ H Q I (i σ H Q q)⟩
def wSl (we : WE) (wl wh : WO) : WE := fun ρ q E => we ρ (fun x ρ1 => wl ρ1 (fun lo ρ2 => wh ρ2 (fun hi ρ3 => fSl x lo hi fun d => q d ρ3) E) E) E
section
variable {C : FC} {e : Expr} {lo hi : Option Expr} {a0 a1 m1 m2 m3 : List Nat} {we : WE} {wl wh : WO} {pos p2 : Pos}
theorem jo_none : JO C none [] woN := ⟨PO.imp po_none fun σ H Q ⟨ρ, Fs, q, s, hw, k⟩ => k none ρ H Fs hw s .refl⟩
theorem jo_some (h : JE C e a0 a1 m1 we) : JO C (some e) m1 (woS we) := by
  refine ⟨PO.imp (po_some h.pe) ?_⟩
  rintro σ H Q ⟨ρ, Fs, q, s, hw, k⟩
  refine ⟨ρ, Fs, _, s, hw, fun d ρ1 v F H1 Fs1 h1 s1 t1 r1 k1 => ?_⟩
  cases d <;> first | exact h1.elim | skip
  cases r1
  exact ⟨_, rfl, k _ ρ1 H1 Fs1 h1 s1 t1⟩
theorem je_sl (h : JE C e a0 a1 m1 we) (hl : JO C lo m2 wl) (hu : JO C hi m3 wh) (d2 : dj (a0 ++ a1) m2 = true := by decide) (d3 : dj (a0 ++ a1) m3 = true := by decide) :
    JE C (.Subscript e (.Slice lo hi none p2) pos) [] (1000 :: (a0 ++ a1)) (m1 ++ (m2 ++ m3)) (wSl we wl wh) := by
  refine ⟨PE.imp (pe_slice sl_3 h.pe hl.po hu.po) ?_⟩
  rintro σ H Q ⟨ρ, Fs, q, s, hw, k⟩
  refine ⟨ρ, Fs, _, s, hw, fun x ρ1 v F H1 Fs1 h1 s1 t1 r1 k1 => ⟨ρ1, Fs1, _, s1, h1, fun lo ρ2 H2 Fs2 h2 s2 t2 => ⟨ρ2, Fs2, _, s2, h2, fun hi ρ3 H3 Fs3 h3 s3 t3 => ?_⟩⟩⟩
  have t23 := t2.trans t3
  have dd : ∀ i ∈ a0 ++ a1, i ∉ m2 ++ m3 := fun i hi z => (List.mem_append.mp z).elim (dj_ok d2 i hi) (dj_ok d3 i hi)
  obtain ⟨r1', k1'⟩ := keep2 s1 t23 r1 k1 dd
  have t13 := t1.trans t23
  have fresh : ∀ a, H3 a = none → H a = none ∧ ∀ i, a ∉ Fs3 i := fun a n => ⟨t13.dom a n, s3.notIn n⟩
  refine sl_op r1' h3 fun d v' F' H' hq fr dm rz oz => ?_
  refine k d ρ3 v' F' H' Fs3 hq (s3.new fr dm) ((t13.trans (Stp.new fr dm)).mono (by simp)) rz ⟨fun a ha => ?_, fun _ fl a ha => fresh a (oz.shl fl a ha), fun _ h => ?_⟩
  · rcases oz.ali a ha with n | h | h
    · exact .inl (fresh a n)
    · exact (k1' a h).imp id fun ⟨i, hi, z⟩ => ⟨i, by simp only [List.nil_append, List.mem_cons]; exact .inr hi, z⟩
    · cases h
  · rcases h with h | h
    · cases h
    · exact oz.nd h
/-- xs[::-1] of a list -/
def wRevL (we : WE) : WE := fun ρ q E => we ρ (fun x ρ1 => match x with | .list ds => q (.list ds.reverse) ρ1 | _ => False) E
theorem je_revL {j : Nat} {p1 p3 p4 : Pos} (h : JE C e a0 a1 m1 we) : JE C (.Subscript e (.Slice none none (some (.UnaryOp .USub (.Constant (.int 1) j p1) p3)) p4) pos) [] (1000 :: (a0 ++ a1)) m1 (wRevL we) := by
  refine ⟨PE.imp (pe_revL h.pe) ?_⟩
  rintro σ H Q ⟨ρ, Fs, q, s, hw, k⟩
  refine ⟨ρ, Fs, _, s, hw, fun x ρ1 v F H1 Fs1 h1 s1 t1 r1 k1 => ?_⟩
  cases x <;> first | exact h1.elim | skip
  rename_i ds
  have r1' := r1
  cases r1 with
  | @lst a vs _ F h r =>
    refine ⟨_, _, rfl, SqL.of h, fun p n => ?_⟩
    obtain ⟨G, g1, g2⟩ := r.rev
    have oz := fresh_res (G := []) n g1 (F0 := a :: F) fun b m => List.mem_cons_of_mem _ ((g2 b).mp m)
    refine k _ ρ1 _ (p :: G) _ Fs1 h1 (s1.new (Fr.new n) upd_dom) ((t1.trans (Stp.new (Fr.new n) upd_dom)).mono (by simp)) (fresh_lst n g1) ⟨fun b m => ?_, fun _ fl b m => ?_, fun _ z => ?_⟩
    · rcases oz.ali b m with z | z | z
      · exact .inl ⟨t1.dom b z, s1.notIn z⟩
      · exact (k1.ali b z).imp id fun ⟨i, hi, z⟩ => ⟨i, by simp only [List.nil_append, List.mem_cons]; exact .inr hi, z⟩
      · cases z
    · exact ⟨t1.dom b (oz.shl fl b m), s1.notIn (oz.shl fl b m)⟩
    · rcases z with z | z
      · cases z
      · exact oz.nd z
end
end L3

namespace L3
open PySem PySem.Spec PyProof.Rows L2

/-! ### enumerate of a list or a tuple -/
set_option maxHeartbeats 1000000 in
/-- enumerate(v), v told by how its walk begins -/
theorem new_en {v : Value} {o : Obj} {G : Heap → Prop} (B : Begins v o G) :
    Meets (Builtin.«enumerate.__new__» ⟨[.type "enumerate", v], []⟩) (fun _ R z => G z.heap ∧
      R (.ok (.ret (.ref (z.heap.push o).objs.size))) { z with heap := (z.heap.push o).push { cls := .type "enumerate", data := .fields #[.none, .bool false, .ref z.heap.objs.size, rawInt 0, .none, .none] } }) :=
  .of_wp fun pr wo Ar R z hz => by
    obtain ⟨hp, gg, dd, tt, oo⟩ := z
    obtain ⟨g1, hz⟩ := hz
    have sube := sub_enumerate
    have begin_ : ∀ {A' : Around} {E : Value → Shared → Prop} {Q : Value → Shared → Prop}, Q (.ref hp.objs.size) ⟨hp.push o, gg, dd, tt, oo⟩ → wpAny (model pr wo) A' (pyIter v) Q E ⟨hp, gg, dd, tt, oo⟩ :=
      fun q => B.iter pr wo _ _ ⟨hp, gg, dd, tt, oo⟩ _ g1 q
    wp_walk using begin_
    refine wpAny_stack_any fun st => wpAny_pure ?_
    split
    · rename_i cc _ _ _ _ _
      cases (cc == Value.type "enumerate")
      · wp_walk using begin_
        exact ⟨_, rfl, hz⟩
      · wp_walk using begin_
        exact ⟨_, rfl, hz⟩
    · wp_walk using begin_
      exact ⟨_, rfl, hz⟩
theorem call_en {prog : Program} {w : World} {A : Around} {E : Value → Shared → Prop} {s : Shared} {v : Value} {o : Obj} {G : Heap → Prop} {Q : Value → Shared → Prop} (B : Begins v o G) (g : G s.heap)
    (h : ∀ h', IsEnum h' (s.heap.objs.size + 1) s.heap.objs.size 0 .none → h'.get? s.heap.objs.size = some o → (∀ b u, s.heap.get? b = some u → h'.get? b = some u) → Q (.ref (s.heap.objs.size + 1)) { s with heap := h' }) :
    wpAny (model prog w) A (call (.type "enumerate") [v]) Q E s := by
  refine callType_new F.called_enumerate (by decide) (F.typeCall_enumerate_1 _) (F.newCall_enumerate_1 _) (fun ob => F.args_object_init_2 ob _) F.entry_enumerate_new (new_en B) ⟨g, ?_⟩
  have sz : (s.heap.push o).objs.size = s.heap.objs.size + 1 := Heap.size_push ..
  show _ ∧ _
  rw [sz]
  have he : IsEnum ((s.heap.push o).push { cls := .type "enumerate", data := .fields #[.none, .bool false, .ref s.heap.objs.size, rawInt 0, .none, .none] }) (s.heap.objs.size + 1) s.heap.objs.size 0 .none := by
    have hp := Heap.get?_push_size (s.heap.push o) (o := { cls := .type "enumerate", data := .fields #[.none, .bool false, .ref s.heap.objs.size, rawInt 0, .none, .none] }) rfl
    rw [sz] at hp
    exact hp
  exact ⟨⟨_, he, rfl⟩, h _ he (Heap.get?_push_of_some _ (Heap.get?_push_size _ B.free)) fun b u x => Heap.get?_push_of_some _ (Heap.get?_push_of_some _ x)⟩
/-- the tuple at a as it stands, the items in new pairs -/
def Iten (K : PySem.W.Frag) (a : Addr) : It :=
  ⟨fun i H => ∃ (xs : List V) (x : V), SqT K H a xs ∧ xs[i]? = some x, fun i H v H' => ∃ T x, v = .ref T ∧ H T = none ∧ H' = upd H T (.tup [.int (i : Nat), x]) ∧ ∀ xs, SqT K H a xs → xs[i]? = some x,
    fun i H => ∃ xs : List V, SqT K H a xs ∧ xs.length ≤ i⟩
theorem turn_en {P : Program} {w : World} {K : PySem.W.Frag} {elts : List Expr} {kk : Nat} {tpos : Pos} (a e it : Addr) :
    Turn P w K (.Tuple elts kk tpos) (Iten K a) [e, it] e (fun i h => (∃ old, IsEnum h e it ((i : Nat) : Int) old) ∧ h.IsTupleIter it a i ∧ e ≠ it) where
  mem := by simp
  obj := fun i h st b hb => by
    obtain ⟨⟨old, he⟩, ⟨o, ho, hc, hd⟩, _⟩ := st
    rcases (by simpa using hb : b = e ∨ b = it) with rfl | rfl
    · exact ⟨_, he, fun v q => nomatch q⟩
    · exact ⟨o, ho, fun v q => by rw [hd] at q; cases q⟩
  keep := fun i h h' st k => let ⟨⟨old, he⟩, hi, hne⟩ := st; ⟨⟨old, k e (by simp) _ he⟩, hi.at fun o q => k it (by simp) o q, hne⟩
  item := by
    intro X hP hw hK hc i pins s σ H E I hf st hg
    subst hP hw hK
    obtain ⟨⟨old, he⟩, hit, hne⟩ := st
    obtain ⟨xs, x, hq, hx⟩ := hg
    obtain ⟨its, rv, p, hz⟩ := I.tuple hq
    obtain ⟨u, hu, ru⟩ := rv.get hx
    have p : s.heap.IsTuple a its.toArray := p
    have hel : e < s.heap.objs.size := Heap.lt_size he
    have hil : it < s.heap.objs.size := by
      obtain ⟨_, q, _⟩ := hit
      exact Heap.lt_size q
    have nea : a ≠ e := fun z => by
      obtain ⟨o, q, c, _⟩ := p
      rw [z, show s.heap.get? e = _ from he] at q
      cases q
      have c : Value.type "tuple" = Value.type "enumerate" := c.symm
      injection c with c
      exact absurd c (by decide)
    have nia : a ≠ it := fun z => by
      obtain ⟨o, q, c, _⟩ := p
      obtain ⟨o', q', c', _⟩ := hit
      rw [z, q'] at q
      cases q
      have c : Value.type "tuple_iterator" = Value.type "tuple" := c'.symm.trans c
      injection c with c
      exact absurd c (by decide)
    have DD : Draws X.prog X.w X.A.in1 it [it, a] its.toArray.size (fun j v => its.toArray[j]? = some v) (fun j h => h.IsTupleIter it a j ∧ h.IsTuple a its.toArray) := Draws.tuple (show X.A.in1.handled = none from I.ok.hd hc) it a nia its.toArray
    have hlt : i < its.toArray.size := by
      have := (List.getElem?_eq_some_iff.mp hu).1
      simpa using this
    refine wpAny_pyNext_enum_itemD DD he ⟨hit, p⟩ hlt hne (by simp [hne, Ne.symm nea]) fun y h' tk hy ho hs' hT hsz hk => ?_
    have hy : u = y := by
      have : its.toArray[i]? = some y := hy
      rw [show its.toArray[i]? = some u by simpa using hu] at this
      exact Option.some.inj this
    subst hy
    refine ⟨_, rfl, wpAny_letOwnedTupleGo_enum (s := { s with heap := h', toks := tk + 1 }) ho fun h2 he2 sb => ?_⟩
    have hT2 : h2.get? s.heap.objs.size = some { cls := .type "tuple", data := .seq #[.int i tk, u] } := (sb.2 _ (Nat.ne_of_gt hel)).trans hT
    have nw : ObjOk X.prog X.w (upd H s.heap.objs.size (.tup [.int (i : Nat), x])) h2 s.heap.objs.size (.tup [.int (i : Nat), x]) :=
      ⟨by show 2 ≤ sizeLine; decide, [.int i tk, u], .cons ⟨_, rfl⟩ (.cons ru .nil), ⟨_, hT2, rfl, _, rfl⟩⟩
    have I1 : Inv X pins σ (upd H s.heap.objs.size (.tup [.int (i : Nat), x])) { s with heap := h2, toks := tk + 1 } :=
      I.turnedNew (ch := [e, it]) (fun b ob hb q => (sb.2 b (fun z => hb (by simp [z]))).trans (hk b ob (fun z => hb (by simp [z])) (fun z => hb (by simp [z])) q)) hf (Nat.le_refl _) nw
    refine ⟨.ref s.heap.objs.size, _, I1, rfl, ⟨_, x, rfl, I.hok.fresh (Nat.le_refl _), rfl, fun ys hy => by rw [I.tuple_inj hy hq]; exact hx⟩, ⟨⟨u, ?_⟩, hs'.1.at fun o q => (sb.2 it (Ne.symm hne)).trans q, hne⟩, fun b hb => ?_⟩
    · rw [show ((i + 1 : Nat) : Int) = (i : Int) + 1 by omega]
      exact he2
    · have lt : b < s.heap.objs.size := by
        rcases (by simpa using hb : b = e ∨ b = it) with rfl | rfl
        · exact hel
        · exact hil
      rw [upd_ne (Nat.ne_of_lt lt)]
      exact (hf b hb).1
  done := by
    intro X hP hw hK hc i pins s σ H E I hf st hg
    subst hP hw hK
    obtain ⟨⟨old, he⟩, hit, hne⟩ := st
    obtain ⟨xs, hq, hx⟩ := hg
    obtain ⟨its, rv, p, hz⟩ := I.tuple hq
    have p : s.heap.IsTuple a its.toArray := p
    obtain ⟨f0, f1, f2, f3, f4, f5⟩ := hf it (by simp)
    have nia : a ≠ it := fun z => by
      obtain ⟨o, q, c, _⟩ := p
      obtain ⟨o', q', c', _⟩ := hit
      rw [z, q'] at q
      cases q
      have c : Value.type "tuple_iterator" = Value.type "tuple" := c'.symm.trans c
      injection c with c
      exact absurd c (by decide)
    unfold pyNext
    have hT : s.TypeIs (.ref e) "enumerate" := ⟨_, he, rfl⟩
    refine wpAny_bind (wpAny_attempt (wpAny_callSpecial?_slot (name := Str.ofString "__next__") hT F.slot_enumerate_next (wpAny_call_entry F.slot_enumerate_next hT F.entry_enumerate_next ?_ (F.args_enumerate_next_1 _))))
    show wpAny _ _ (field (.ref e) 2 >>= _) _ _ _
    refine wpAny_bind (wpAny_field he rfl (x := .ref it) rfl ?_)
    have hl := rv.length
    refine wpAny_bind (wpAny_nextOf_tuple_end (I.ok.hd hc) hit p (by simp; omega) fun h' ex eb ho => ?_)
    obtain ⟨o, ho, c⟩ := ho
    refine wpAny_bind (wpAny_isInstance (T := "StopIteration") (b := true) ⟨o, ho, c⟩ isSubtype_stop ?_)
    exact wpAny_pure ⟨rfl, I.turned (t' := s.toks) (fun b o hb q => eb b o hb q) f0 f1 f3 f4 f5⟩
  self := fun A i s Q E st h => let ⟨⟨_, he⟩, _⟩ := st; wpAny_pyIter_enum he h
def iEnS (K : PySem.W.Frag) (ta : TA) : TI := fun σ H R => ta σ H fun vs H1 => ∃ a, vs = [.ref a] ∧ (((∃ xs, SqL K H1 a xs) ∧ R (Ite K a) H1) ∨ ((∃ xs, SqT K H1 a xs) ∧ R (Iten K a) H1))
theorem pi_enS {X : Cx} {e : Expr} {ta : TA} {p pos tpos : Pos} {elts : List Expr} {kk : Nat} (hg : Gl X "enumerate") (hm : X.mg "enumerate" = none) (ha : PA X [e] ta) (hs : starEach [e] X.env = [(false, eval e X.env)] := by rfl) :
    PI X (.Tuple elts kk tpos) (.Call (.Name "enumerate" p) [e] [] pos) (iEnS X.K ta) := by
  refine ⟨fun pins s σ H R I h => ?_⟩
  refine Call_ (ld_blt I hg hm boot_enumerate (PyProof.Rows.callWith_type1 (thn (ha.run pos pins s σ H _ I h) fun us s1 ⟨vs, H1, I1, r1, q1⟩ => ?_) hs rfl))
  obtain ⟨a, ex, q⟩ := q1
  subst ex
  cases r1 with
  | cons r rr =>
    cases rr
    cases r
    have fp : ∀ b ∈ [s1.heap.objs.size + 1, s1.heap.objs.size], FpOk X pins H1 b := fun b hb => by
      have hle : s1.heap.objs.size ≤ b := by
        rcases (by simpa using hb : b = s1.heap.objs.size + 1 ∨ b = s1.heap.objs.size) with rfl | rfl
        · exact Nat.le_add_right _ _
        · exact Nat.le_refl _
      exact I1.fpOk hle (I1.hok.fresh hle)
    rcases q with ⟨⟨xs, hq⟩, q⟩ | ⟨⟨xs, hq⟩, q⟩
    · obtain ⟨its, rv, p', hz⟩ := I1.list hq
      refine call_enumerate_list p'.isList fun h' he hit hsz hk => wpAny_pyIter_enum he ?_
      exact ⟨s1.heap.objs.size + 1, [s1.heap.objs.size + 1, s1.heap.objs.size], _, _, H1, rfl, I1.kept (t' := s1.toks) hk, turn_enum a (s1.heap.objs.size + 1) s1.heap.objs.size, ⟨⟨.none, he⟩, hit, Nat.succ_ne_self _⟩, fp, q⟩
    · obtain ⟨its, rv, p', hz⟩ := I1.tuple hq
      refine call_en (begins_tuple a its.toArray) (show s1.heap.IsTuple a its.toArray from p') fun h' he hit hk => wpAny_pyIter_enum he ?_
      exact ⟨s1.heap.objs.size + 1, [s1.heap.objs.size + 1, s1.heap.objs.size], _, _, H1, rfl, I1.kept (t' := s1.toks) hk, turn_en a (s1.heap.objs.size + 1) s1.heap.objs.size, ⟨⟨.none, he⟩, ⟨_, hit, rfl, rfl⟩, Nat.succ_ne_self _⟩, fp, q⟩
def enD (ds : List D) : List D := ds.zipIdx.map fun p => .tuple [.int (p.2 : Nat), p.1]
theorem enD_get {ds : List D} {i : Nat} {d : D} (e : (enD ds)[i]? = some d) : ∃ x, ds[i]? = some x ∧ d = .tuple [.int (i : Nat), x] := by
  unfold enD at e
  rw [List.getElem?_map, List.getElem?_zipIdx] at e
  cases h : ds[i]? with
  | none => rw [h] at e; cases e
  | some x =>
    rw [h] at e
    have e := Option.some.inj e
    subst e
    exact ⟨x, rfl, by simp⟩
theorem enD_len (ds : List D) : (enD ds).length = ds.length := by unfold enD; simp
def wiEn (wa : WE) : WI := fun ρ q E => wa ρ (fun d ρ1 => match d with | .list ds => q (enD ds) ρ1 | .tuple ds => q (enD ds) ρ1 | .fl ds => q (enD ds) ρ1 | _ => False) E
theorem walk_enL {K : PySem.W.Frag} {a : Addr} {ds : List D} {vs : List V} {F : List Addr} : Walk K (Ite K a) (enD ds) (a :: F) (fun H => H a = some (.lst vs) ∧ RpL K H ds vs F) := by
  refine ⟨fun i d H hs hd => ?_, fun i H hs hi => ⟨vs, SqL.of hs.1, by rw [hs.2.len, ← enD_len]; exact hi⟩, fun H H' A hs f n => ⟨f _ _ hs.1 (fun ps => by simp) (fun z => absurd z (n _ List.mem_cons_self)), hs.2.frm f fun a m => n a (List.mem_cons_of_mem _ m)⟩⟩
  obtain ⟨x, hx, ed⟩ := enD_get hd
  subst ed
  obtain ⟨v, G, e1, e2, e3⟩ := hs.2.getD hx
  refine ⟨⟨vs, v, SqL.of hs.1, e1⟩, fun y H' ⟨T, z, ey, hT, eH, hz⟩ => ?_⟩
  subst ey eH
  have := hz vs (SqL.of hs.1)
  rw [e1] at this
  cases this
  refine ⟨Fr.new hT, upd_dom, G, ?_, fun a m => List.mem_cons_of_mem _ (e3 a m)⟩
  have := RpL.cons (H := H) (.int (i : Int)) (.one e2)
  exact fresh_tup hT this
theorem walk_enT {K : PySem.W.Frag} {a : Addr} {ds : List D} {vs : List V} {F : List Addr} : Walk K (Iten K a) (enD ds) F (fun H => SqT K H a vs ∧ RpL K H ds vs F) := by
  refine ⟨fun i d H hs hd => ?_, fun i H hs hi => ⟨vs, hs.1, by rw [hs.2.len, ← enD_len]; exact hi⟩, fun H H' A hs f n => ⟨sqT_frm hs.1 f, hs.2.frm f n⟩⟩
  obtain ⟨x, hx, ed⟩ := enD_get hd
  subst ed
  obtain ⟨v, G, e1, e2, e3⟩ := hs.2.getD hx
  refine ⟨⟨vs, v, hs.1, e1⟩, fun y H' ⟨T, z, ey, hT, eH, hz⟩ => ?_⟩
  subst ey eH
  have := hz vs hs.1
  rw [e1] at this
  cases this
  refine ⟨Fr.new hT, upd_dom, G, ?_, e3⟩
  have := RpL.cons (H := H) (.int (i : Int)) (.one e2)
  exact fresh_tup hT this
theorem walk_enF {K : PySem.W.Frag} {a : Addr} {ds : List D} {vs : List V} {F : List Addr} : Walk K (Ite K a) (enD ds) F (fun H => SqR K H a vs ∧ RpL K H ds vs F) := by
  refine ⟨fun i d H hs hd => ?_, fun i H hs hi => ⟨vs, hs.1.sq, by rw [hs.2.len, ← enD_len]; exact hi⟩, fun H H' A hs f n => ⟨sqR_frm hs.1 f, hs.2.frm f n⟩⟩
  obtain ⟨x, hx, ed⟩ := enD_get hd
  subst ed
  obtain ⟨v, G, e1, e2, e3⟩ := hs.2.getD hx
  refine ⟨⟨vs, v, hs.1.sq, e1⟩, fun y H' ⟨T, z, ey, hT, eH, hz⟩ => ?_⟩
  subst ey eH
  have := hz vs hs.1.sq
  rw [e1] at this
  cases this
  refine ⟨Fr.new hT, upd_dom, G, ?_, e3⟩
  have := RpL.cons (H := H) (.int (i : Int)) (.one e2)
  exact fresh_tup hT this
theorem ji_en {C : FC} {elts : List Expr} {kk : Nat} {tpos p pos : Pos} {e : Expr} {a0 a1 m1 : List Nat} {wa : WE} (hg : Gl C.X "enumerate") (hm : C.X.mg "enumerate" = none) (h : JE C e a0 a1 m1 wa) (hs : starEach [e] C.X.env = [(false, eval e C.X.env)] := by rfl) :
    JI C (.Tuple elts kk tpos) (.Call (.Name "enumerate" p) [e] [] pos) (a0 ++ a1) m1 (wiEn wa) := by
  refine ⟨PI.imp (pi_enS hg hm (pa_cons h.pe pa_nil hs) hs) ?_⟩
  rintro σ H R ⟨ρ, Fs, q, s, hw, k⟩
  refine ⟨ρ, Fs, _, s, hw, fun d ρ1 v F H1 Fs1 h1 s1 t1 r1 k1 => ?_⟩
  have al := res_alias r1 k1
  show ∃ a, [v] = [V.ref a] ∧ _
  cases r1 <;> first | exact h1.elim | skip
  · rename_i a vs ds hl r
    exact ⟨a, rfl, .inr ⟨⟨vs, hl⟩, k (enD ds) ρ1 _ F _ H1 Fs1 h1 s1 t1 walk_enT ⟨hl, r⟩ al⟩⟩
  · rename_i a vs ds F hl r
    exact ⟨a, rfl, .inl ⟨⟨vs, SqL.of hl⟩, k (enD ds) ρ1 _ _ _ H1 Fs1 h1 s1 t1 walk_enL ⟨hl, r⟩ al⟩⟩
  · rename_i a vs ds hl r
    exact ⟨a, rfl, .inl ⟨⟨vs, hl.sq⟩, k (enD ds) ρ1 _ _ _ H1 Fs1 h1 s1 t1 walk_enF ⟨hl, r⟩ al⟩⟩
end L3

namespace L3
open PySem PySem.Spec PyProof.Rows L2

/-! ### the script -/
def wiSc (i n : Nat) : WI := fun ρ q _ => match ρ[i]? with
  | some (.sc ns) => q ((ns.take n).map fun z => .int z) ρ
  | _ => False
theorem ints_rp {K : PySem.W.Frag} {H : Hp} : ∀ {ns : List Int}, RpL K H (ns.map fun z => .int z) (ns.map V.int) []
  | [] => .nil
  | n :: ns => by
    have := RpL.cons (K := K) (H := H) (.int n) (ints_rp (ns := ns))
    exact this
theorem cut_take {xs : List V} {n : Nat} : cutV xs none (some (n : Int)) = xs.take n := by
  unfold cutV
  rw [HT.sIx_none, HT.sIx_nat, List.drop_zero, Nat.sub_zero]
  by_cases h : n ≤ xs.length
  · rw [Nat.min_eq_left h]
  · rw [Nat.min_eq_right (by omega), List.take_length, List.take_of_length_le (by omega)]
theorem ji_sc {C : FC} {tg : Expr} {i n j : Nat} {x : Str} {p p2 p3 pos : Pos} (hN : C.X.N[i]? = some x) (hv : Vis C.X.env.scope x) (hd : (x == ("__debug__" : Str)) = false := by decide) (hcd : (x == ("__classdict__" : Str)) = false := by decide) :
    JI C tg (.Subscript (.Name x p) (.Slice none (some (.Constant (.int (n : Int)) j p2)) none p3) pos) [] [] (wiSc i n) := by
  refine ⟨PI.imp (pi_list (pe_slice sl_list (pe_var hN hv hd hcd) po_none (po_some pe_int))) ?_⟩
  rintro σ H R ⟨ρ, Fs, q, s, hw, k⟩
  unfold wiSc at hw
  cases e : ρ[i]? with
  | none => rw [e] at hw; exact hw.elim
  | some t =>
    rw [e] at hw
    cases t <;> first | exact hw.elim | skip
    rename_i ns
    obtain ⟨a, h1, h2, h3⟩ := s.ok i _ e
    refine ⟨.ref a, h1, (n : Int), rfl, a, _, rfl, h2.sq, fun p hp => ?_⟩
    rw [cut_take]
    have e2 : (ns.map V.int).take n = (ns.take n).map V.int := by rw [List.map_take]
    rw [e2]
    refine ⟨p, rfl, ⟨_, SqL.of upd_same⟩, ?_⟩
    refine k _ ρ (Itl C.K p) (p :: []) (fun H' => H' p = some (.lst ((ns.take n).map V.int)) ∧ RpL C.K H' ((ns.take n).map fun z => .int z) ((ns.take n).map V.int) []) _ Fs hw (s.new (Fr.new hp) upd_dom) (Stp.new (Fr.new hp) upd_dom) walk_lst ⟨upd_same, ints_rp⟩ fun b hb => ?_
    rw [List.mem_singleton.mp hb]
    exact ⟨⟨_, upd_same⟩, .inl (s.notIn hp)⟩
/-- a def that reads the script -/
abbrev FSS := List Int → (D → Prop) → Prop
def SpS (K : PySem.W.Frag) (S : FSS) : Sp := fun vs H Q _ => ∃ ns a q, vs = [.ref a] ∧ (∃ F0, ScA K H a ns F0) ∧ S ns q ∧
  ∀ r v F H', q r → Fr (fun _ => False) H H' → (∀ a, H' a = none → H a = none) → Rp K H' r v F → (∀ a ∈ F, H a = none) → F.Nodup → Q v H'
def rhoS (N : List Str) (ns : List Int) : Rho := .sc ns :: List.replicate (N.length - 1) .un
theorem fn_script {P : Program} {w : World} {K : PySem.W.Frag} {mg : Str → Option Value} {base : Heap} {x qual : Str} {params : Arguments} {body : List Stmt} {scope : Scope} {f : Addr} {fd : FuncData} {N ps : List Str} {k : Nat} {S : FSS} {wb : WS}
    (F : FunD K x qual params body scope [] [] f fd) (Sc : FnScope N ps scope) (hnp : ps.length = 1)
    (hb : ∀ (cdv : Value) (A : Around) (outer : List Env) (s : Shared) (H : Hp) (E : XK) (vs : List V) (P0 : Nat → List Addr) (EX : EXT), Ck (fcOf P w K mg base N qual scope f cdv A outer s H E vs P0 [] [] EX) →
      Room k (fcOf P w K mg base N qual scope f cdv A outer s H E vs P0 [] [] EX).X.A → ∃ mod, JSs (fcOf P w K mg base N qual scope f cdv A outer s H E vs P0 [] [] EX) body mod wb)
    (vc : ∀ ns q, S ns q → wb (rhoS N ns) ⟨fun _ => q .none, fun d _ => q d, fun _ => False, fun _ => False, fun _ _ => False⟩) :
    FnOk P w K mg base (L2.CX P w) (k + 1) f fd ps (SpS K S) := by
  refine F.ok Sc (fun vs H Q E h => ?_) (fun cdv A outer s H vs Q E hr h => ?_)
  · obtain ⟨ns, a, q, rfl, _⟩ := h
    exact hnp.symm
  · obtain ⟨ns, a, q, rfl, ⟨F0, hs⟩, hS, hq⟩ := h
    have ck : Ck (fcOf P w K mg base N qual scope f cdv A outer s H E [.ref a] (fun i => if i = 0 then F0 else []) [] [] (fun _ _ => False)) :=
      ⟨rfl, Sc.nd, passes_call (takes_of rfl rfl rfl rfl) (fun _ _ _ _ h => h), fun n ρ Fs σ H' cls h1 h2 h3 => h1.elim⟩
    have hN : N.length ≥ 1 := by have := congrArg List.length Sc.pre; rw [List.length_take, hnp] at this; omega
    refine ⟨_, (hb cdv A outer s H E [.ref a] (fun i => if i = 0 then F0 else []) (fun _ _ => False) ck hr).choose_spec.ps, rhoS N ns, (fun i => if i = 0 then F0 else []), _, ⟨?_, fun i t e => ?_, fun i e => ?_, fun i j t _ e o b hb => ?_, .refl, fun _ h => h⟩, vc ns q hS, rfl, ?_⟩
    · unfold L2.start rhoS
      simp
    · cases i with
      | zero =>
        have e : some (SV.sc ns) = some t := e
        cases e
        exact ⟨a, rfl, hs, rfl⟩
      | succ i =>
        have e : (List.replicate (N.length - 1) SV.un)[i]? = some t := e
        rw [List.eq_of_mem_replicate (List.mem_of_getElem? e)]
        rfl
    · have : i ≠ 0 := fun z => by subst z; cases e
      exact if_neg this
    · unfold rhoS at e
      rcases List.mem_cons.mp (List.mem_of_getElem? e) with z | z
      · rw [z] at o; cases o
      · rw [List.eq_of_mem_replicate z] at o; cases o
    · refine ⟨fun ρ' Fs' σ' H' h1 s1 t1 => ?_, fun _ _ _ _ h => h.elim, fun _ _ _ _ h => h.elim, fun d ρ' v F σ' Fs' H' h1 s1 r1 k1 => ?_⟩
      · exact hq .none .non [] H' h1 (s1.frm.mono fun a ⟨i, hi, _⟩ => by cases hi) s1.dom .non (fun a m => by cases m) List.nodup_nil
      · exact hq d v F H' h1 (s1.frm.mono fun a ⟨i, hi, _⟩ => by cases hi) s1.dom r1 (fun a m => (k1.ali a m).elim (fun z => z.1) fun ⟨i, hi, _⟩ => by cases hi) (k1.nd rfl)
def wCallS (S : FSS) (i : Nat) : WE := fun ρ q _ => match ρ[i]? with
  | some (.sc ns) => S ns fun d => q d ρ
  | _ => False
theorem je_callS {C : FC} {x y : Str} {f : Addr} {fd : FuncData} {ps : List Str} {k i : Nat} {S : FSS} {p p0 pos : Pos} (ck : Ck C) (G : FnOk C.X.prog C.X.w C.X.K C.X.mg C.X.base (L2.CX C.X.prog C.X.w) k f fd ps (SpS C.X.K S)) (hr : Room k C.X.A) (hg : Gl C.X x) (hm : C.X.mg x = some (.ref f)) (hk : PySem.W.keepIn C.X.K (.ref f) = true) (hb : Binds C.X.K fd ps [])
    (hN : C.X.N[i]? = some y) (hv : Vis C.X.env.scope y) (hdb : (x == ("__debug__" : Str)) = false := by decide) (hd : (y == ("__debug__" : Str)) = false := by decide) (hcd : (y == ("__classdict__" : Str)) = false := by decide)
    (hs : starEach [.Name y p0] C.X.env = (false, eval (.Name y p0) C.X.env) :: starEach [] C.X.env := by rfl) (hpl : (backTo pos (starEach ([] : List Expr) C.X.env)).any (·.1) = false := by rfl) :
    JE C (.Call (.Name x p) [.Name y p0] [] pos) [] [] [] (wCallS S i) := by
  refine ⟨PE.imp (pe_call G hr hg hm hk hb .nil ck.pas (pa_cons (pe_var hN hv hd hcd) pa_nil hs) hdb hs hpl) ?_⟩
  rintro σ H Q ⟨ρ, Fs, q, s, hw, k⟩
  unfold wCallS at hw
  cases e : ρ[i]? with
  | none => rw [e] at hw; exact hw.elim
  | some t =>
    rw [e] at hw
    cases t <;> first | exact hw.elim | skip
    rename_i ns
    obtain ⟨a, h1, h2, h3⟩ := s.ok i _ e
    refine ⟨.ref a, h1, ?_⟩
    show SpS C.X.K S ([V.ref a] ++ []) H Q C.E
    refine ⟨ns, a, _, rfl, ⟨_, h2⟩, hw, fun r v F H' hq fr dm rr rn nd => ?_⟩
    have al : ∀ b ∈ F, H b = none ∧ ∀ j, b ∉ Fs j := fun b hb => ⟨rn b hb, s.notIn (rn b hb)⟩
    exact k r ρ v F H' Fs hq (s.new fr dm) (Stp.new fr dm) rr ⟨fun b hb => .inl (al b hb), fun _ _ b hb => al b hb, fun _ _ => nd⟩
/-- return [x, ..]: an own list at the head, else what holds no list -/
def wsRetHd (i : Nat) (wr : WA) : WS := fun ρ W => wr ρ (fun ds ρ1 => (∃ d, ρ1[i]? = some (.ow d)) ∧ immL ds.tail = true ∧ ds.length ≤ sizeLine ∧ W.rt (.list ds) ρ1) W.ex
theorem js_retHd {C : FC} {es : List Expr} {ks : List AK} {i : Nat} {m1 : List Nat} {wr : WA} {pos p2 : Pos} (h : JA C es (.pl i :: ks) m1 wr) (hm : i ∉ C.mt) : JS C (.Return (some (.List es p2)) pos) m1 (wsRetHd i wr) := by
  refine ⟨PS.imp (ps_ret (pe_lst h.pa)) ?_⟩
  rintro De σ H ⟨ρ, Fs, W, s, hw, ex, k⟩
  unfold wsRetHd at hw
  rw [ex] at hw
  refine ⟨ρ, Fs, _, s, hw, fun ds ρ1 vs Fa H1 Fs1 h1 s1 t1 r1 n1 => ?_⟩
  obtain ⟨⟨dd, hd⟩, him, hle, hW⟩ := h1
  have rr := argR_rpl r1
  refine ⟨by rw [rr.len]; exact hle, fun p n => ?_⟩
  cases ds with
  | nil => exact r1.elim
  | cons d0 ds =>
    cases vs with
    | nil => exact r1.elim
    | cons v0 vs =>
      cases Fa with
      | nil => exact r1.elim
      | cons F0 Fa =>
        obtain ⟨⟨_, _, r0, eF⟩, r2⟩ := r1
        have e2 : Fa.flatten = [] := (argR_rpl r2).imm0 him
        have eFa : (F0 :: Fa).flatten = Fs1 i := by rw [List.flatten_cons, e2, List.append_nil, eF]
        rw [eFa] at rr
        obtain ⟨v', _, _, nd, hz⟩ := s1.ok i _ hd
        refine k.rt _ ρ1 _ (p :: Fs1 i) σ Fs1 _ hW (s1.new (Fr.new n) upd_dom) (fresh_lst n rr) ⟨fun a m => ?_, fun _ => List.nodup_cons.mpr ⟨s1.notIn n i, nd⟩⟩
        rcases List.mem_cons.mp m with z | m
        · subst z
          exact .inl ⟨s1.dom a n, fun j _ => s1.notIn n j⟩
        · exact .inl ⟨hz a m, fun j hj => s1.sep i j _ (fun z => hm (z ▸ hj)) hd rfl a m⟩
end L3

namespace L3
open PySem PySem.Spec PyProof.Rows L2

/-! ### list.count, list.index -/
section
variable {X : Cx}
def rCntD (K : PySem.W.Frag) : V → List V → Hp → VK → Prop := fun x xs H Q => ∃ (a : Addr) (y : V) (d : PyData) (ds : List PyData), x = V.ref a ∧ xs = [y] ∧ Dp K H (V.ref a) (.list ds) ∧ Dp K H y d ∧
  SeqAt.shaped (.list ds) = true ∧ SeqAt.shaped d = true ∧ Q (.int (ds.countP (fun z => PyData.eqv z d) : Nat)) H
theorem mt_countD (hu : X.A.units + 65 < cLine) : MtR X "list.count" (rCntD X.K) := by
  intro pins s σ H x xs v us Q I rx rxs h
  obtain ⟨a, y, d, ds, rfl, rfl, hl, hy, sl, sd, q⟩ := h
  cases rx
  cases rxs with
  | cons ry rt =>
    rename_i uy ut
    cases rt
    obtain ⟨bs, r1⟩ := Dp.reads I d y uy hy ry
    have lay : PyData.canLayAll0 ds = true := SeqAt.canLay_of_shaped sl
    have room : X.A.units + 1 + min (PyData.depthAll ds) d.depth < cLine := room_in_shaped sd hu
    cases hl with
    | lst hs ha =>
      obtain ⟨its, rv, ⟨⟨cc, dd, data, sls⟩, n, ho, hc, hdn, hdt⟩, hlen⟩ := I.list hs
      simp only at hc hdt
      subst hc hdt
      obtain ⟨as, h4⟩ := Dp.readsAll I ds _ its ha rv
      have h4' : ReadsAll s.heap its.toArray.toList ds as := h4
      have eqs := SeqAt.items_eqAt (A := X.A) (vs := its.toArray) h4' r1 lay (SeqAt.canLay_of_shaped sd) room
      refine call_meets PySem.F.slot_list_count ⟨_, ho, rfl⟩ PySem.F.entry_list_count (PySem.F.args_list_count_2 _ _)
        (SeqAt.list_countAt a its.toArray n dd sls uy fun u => PyData.eqv (SeqAt.readOf s.heap u) d) ⟨ho, eqs, ?_⟩
      have mp : its.map (SeqAt.readOf s.heap) = ds := SeqAt.readsAll_map ds its as lay h4
      have ec : its.toArray.toList.countP (fun u => PyData.eqv (SeqAt.readOf s.heap u) d) = ds.countP (fun z => PyData.eqv z d) := by
        rw [← mp, List.countP_map]
        rfl
      refine ⟨.int (ds.countP (fun z => PyData.eqv z d) : Nat), H, I.tok _, ⟨s.toks, ?_⟩, q⟩
      rw [ec]
end
abbrev FLM := List D → D → (D → Prop) → Prop
def fCount : FLM := fun ds d q => ((D.list ds).sh = true ∧ d.sh = true) ∧ q (.int (ds.countP (fun z => z.eqv d) : Nat))
def fIndex : FLM := fun ds d q => ((D.list ds).sh = true ∧ d.sh = true) ∧ ∃ j, ds.findIdx? (fun z => z.eqv d) = some j ∧ q (.int (j : Nat))
def wLM (f : FLM) (wo we : WE) : WE := fun ρ q E => wo ρ (fun x ρ1 => match x with | .list ds => we ρ1 (fun d ρ2 => f ds d fun r => q r ρ2) E | .fl ds => we ρ1 (fun d ρ2 => f ds d fun r => q r ρ2) E | _ => False) E
/-- a list's method that answers with an int -/
def MetV (X : Cx) (id : String) (f : FLM) : Prop := ∃ r : V → List V → Hp → VK → Prop, MtR X id r ∧ ∀ (ds : List D) (d : D) (a : Addr) (v : V) (G : List Addr) (H : Hp) (q : D → Prop) (Q : VK), Dp X.K H (.ref a) (.list (D.pL ds)) → Rp X.K H d v G → f ds d q →
  (∀ i : Int, q (.int i) → Q (.int i) H) → r (.ref a) [v] H Q
theorem sh_list (ds : List D) : (D.list ds).sh = SeqAt.shaped (.list (D.pL ds)) := by unfold D.sh; rw [D.p]
theorem met_count {X : Cx} (hu : X.A.units + 65 < cLine) : MetV X "list.count" fCount :=
  ⟨_, mt_countD hu, fun ds d a v G H q Q h1 h2 ⟨⟨s1, s2⟩, hq⟩ k => ⟨a, v, d.p, D.pL ds, rfl, rfl, h1, h2.dp, by rw [← sh_list]; exact s1, s2, by rw [D.pL_map, List.countP_map]; exact k _ hq⟩⟩
theorem met_index {X : Cx} (hu : X.A.units + 65 < cLine) : MetV X "list.index" fIndex := by
  refine ⟨_, mt_indexD hu, fun ds d a v G H q Q h1 h2 ⟨⟨s1, s2⟩, j, hj, hq⟩ k => ?_⟩
  obtain ⟨hjl, hz, hno⟩ := List.findIdx?_eq_some_iff_getElem.mp hj
  refine ⟨a, v, d.p, D.pL ds, j, ds[j].p, rfl, rfl, h1, h2.dp, by rw [← sh_list]; exact s1, s2, by rw [D.pL_map, List.getElem?_map, List.getElem?_eq_getElem hjl]; rfl, hz, fun m z' hm hz' => ?_, k _ hq⟩
  rw [D.pL_map, List.getElem?_map] at hz'
  obtain ⟨y, hy, e'⟩ := Option.map_eq_some_iff.mp hz'
  obtain ⟨hml, e⟩ := List.getElem?_eq_some_iff.mp hy
  subst e e'
  have := hno m hm
  simp only [Bool.not_eq_true] at this
  exact this
section
variable {C : FC} {o e : Expr} {a0 a1 m1 b0 b1 m2 : List Nat} {wo we : WE} {ap cp : Pos} {name : Str} {id : String} {f : FLM}
theorem je_lm (hM : MetV C.X id f) (slot : Slot "list" name id) (hty : typeOf (.builtin id) = pure (.type "method_descriptor")) (ho : JE C o a0 a1 m1 wo) (he : JE C e b0 b1 m2 we) (dd : dj (a0 ++ a1) m2 = true := by decide)
    (hbase : attributeBase o name C.X.env (eval o C.X.env) = eval o C.X.env := by rfl) (hline : (ap.endLine == cp.line) = true := by rfl)
    (hfew : ((backTo cp (starEach [e] C.X.env)).all (fun x => !x.1) && (backToKw cp (keywordEach [] C.X.env)).all (fun x => x.1.isSome) && decide ([e].length + ([] : List Keyword).length + (if ([] : List Keyword).isEmpty then 0 else 1) < 30)) = true := by rfl)
    (hst : starEach [e] C.X.env = (false, eval e C.X.env) :: starEach [] C.X.env := by rfl) (hpl : (backTo cp (starEach ([] : List Expr) C.X.env)).any (·.1) = false := by rfl) :
    JE C (.Call (.Attribute o name ap) [e] [] cp) [] [] (m1 ++ m2) (wLM f wo we) := by
  obtain ⟨r, hm, hf⟩ := hM
  refine ⟨PE.imp (pe_bm PySem.F.plainAttrs_list slot hty hm ho.pe (pa_cons he.pe pa_nil hst) hbase hfew hline hst hpl) ?_⟩
  rintro σ H Q ⟨ρ, Fs, q, s, hw, k⟩
  refine ⟨ρ, Fs, _, s, hw, fun x ρ1 v F H1 Fs1 h1 s1 t1 r1 k1 => ?_⟩
  cases x <;> first | exact h1.elim | skip
  · rename_i ds
    have r1c := r1
    cases r1c with
    | @lst a vs _ F' hl rl =>
      refine ⟨.inl ⟨rfl, _, SqL.of hl⟩, ρ1, Fs1, _, s1, h1, fun d ρ2 u G H2 Fs2 h2 s2 t2 r2 k2 => ?_⟩
      have r1' := (keep2 s1 t2 r1 k1 (dj_ok dd)).1
      exact hf ds d a u G H2 _ Q (by have := r1'.dp; rwa [D.p] at this) r2 h2 fun i hq => k _ ρ2 _ [] H2 Fs2 hq s2 (t1.trans t2) (.int i) .nil
  · rename_i ds
    have r1c := r1
    cases r1c with
    | @fl a vs _ F' hl rl =>
      refine ⟨.inl ⟨rfl, _, hl.sq⟩, ρ1, Fs1, _, s1, h1, fun d ρ2 u G H2 Fs2 h2 s2 t2 r2 k2 => ?_⟩
      have r1' := (keep2 s1 t2 r1 k1 (dj_ok dd)).1
      exact hf ds d a u G H2 _ Q (by have := r1'.dp; rwa [D.p] at this) r2 h2 fun i hq => k _ ρ2 _ [] H2 Fs2 hq s2 (t1.trans t2) (.int i) .nil
end
end L3

namespace L3
open PySem PySem.Spec PyProof.Rows L2

/-! ### a lambda is made, and stays known -/
def tLamO (X : Cx) (T : List (Addr × Str)) (P : Addr) (d : Arguments × Expr × Scope) : TE := fun σ H Q => LamX.Tabs T H ∧ ∀ f c pm ctv H1, Fr (fun a => a = P) H H1 → (∀ a, H1 a = none → H a = none) → LamX.Tabs T H1 → H f = none →
  H1 f = some (LamO f (lamObj (X.env.qual ++ "<lambda>") d X.env.cells pm c ctv)) → H1 c = some (LamX.CodeO c (X.env.qual ++ "<lambda>")) → Q (.ref f) H1
theorem pe_lamO {X : Cx} {T : List (Addr × Str)} {co P : Addr} {d : Arguments × Expr × Scope} {pos : Pos} (TB : LamX.TabB X.base X.mg co P) (hcode : X.env.code = .ref co)
    (hm : (P, X.env.qual ++ "<lambda>") ∈ T) (hu : ∀ p ∈ T, p.1 = P → p.2 = X.env.qual ++ "<lambda>") (hdef : defaultsOf d.1 X.env = ([], [])) (L : LamX.LamS X.env.scope d.2.2) :
    PE X (.Lambda d.1 d.2.1 d.2.2 pos) (tLamO X T P d) := by
  refine ⟨fun pins s σ H Q I ⟨hT, h⟩ => ?_⟩
  obtain ⟨ps, hP, ht, ha⟩ := hT _ hm
  refine PySem.W.kla_eval hdef ?_
  have bmP : s.heap.BuiltinsAt X.mg P := TB.bm.keeps I.bk
  have atP : s.heap.get? P = some { cls := .none, data := .fields ps } := I.hok P _ hP
  have hfree := L.has I.ok
  cases hc : codeAmong pos ps.toList with
  | none =>
    refine PySem.W.kla_makeFunction (mg := X.mg) (c := co) (P := P) (ps := ps) (closure_ok hfree) I.ok.glob (I.mod.glob.keeps I.bk) hcode (TB.code.keeps I.bk) atP ht hc TB.gP bmP fun c ctv h' tk hx hge hlt hrec htb => ?_
    obtain ⟨c2, oc, vs, t, e2, hoc, hdt, hv⟩ := hrec
    cases e2
    have nC : H c = none := I.hok.fresh hge
    have nPc : P ≠ c := ne_of_none hP nC
    have I1 := LamX.inv_table (q := X.env.qual ++ "<lambda>") (t' := tk) (more := #[rawInt pos.line, rawInt pos.col, .ref c]) I hP (fun b o hb e => hx b o hb e) htb hge ⟨oc, vs, t, hoc, hdt, hv⟩
    have hf1 := I1.hok.fresh (Nat.le_refl h'.objs.size)
    have I2 := I1.laid (a := h'.objs.size) (o := LamO h'.objs.size (lamObj (X.env.qual ++ "<lambda>") d X.env.cells ((X.mg "__name__").getD .none) c ctv)) (h' := h'.push (lamObj (X.env.qual ++ "<lambda>") d X.env.cells ((X.mg "__name__").getD .none) c ctv)) (t' := tk)
      (fun b u e => Heap.get?_push_of_some _ e) (Nat.le_refl _) ⟨Heap.get?_push_size _ rfl, ⟨_, Heap.get?_push_size _ rfl⟩, fun h1 h2 a st => st _ a⟩
    have hf0 : H h'.objs.size = none := I.hok.fresh (Nat.le_trans hge (Nat.le_of_lt hlt))
    refine ⟨.ref h'.objs.size, _, I2, rfl, h h'.objs.size c _ ctv _ (fun b o e _ l => ?_) (fun b e => ?_) (fun p hp => ?_) hf0 upd_same ?_⟩
    · have n1 : b ≠ h'.objs.size := ne_of_none e hf0
      have n2 : b ≠ c := ne_of_none e nC
      have n3 : b ≠ P := fun z => by
        rw [z, hP] at e
        cases e
        exact l z trivial
      rw [upd_ne n1, upd_ne n2, upd_ne n3]
      exact e
    · have n1 : b ≠ h'.objs.size := fun z => by rw [z, upd_same] at e; cases e
      rw [upd_ne n1] at e
      have n2 : b ≠ c := fun z => by rw [z, upd_same] at e; cases e
      rw [upd_ne n2] at e
      have n3 : b ≠ P := fun z => by rw [z, upd_same] at e; cases e
      rw [upd_ne n3] at e
      exact e
    · have keep : ∀ b φ, H b = some (.ext φ) → upd (upd (upd H P (.tbl (ps ++ #[rawInt pos.line, rawInt pos.col, .ref c]))) c (LamX.CodeO c (X.env.qual ++ "<lambda>"))) h'.objs.size (LamO h'.objs.size (lamObj (X.env.qual ++ "<lambda>") d X.env.cells ((X.mg "__name__").getD .none) c ctv)) b = some (.ext φ) := fun b φ e => by
        rw [upd_ne (ne_of_none e hf0), upd_ne (ne_of_none e nC), upd_ne (fun z => by rw [z, hP] at e; cases e)]
        exact e
      by_cases hb : p.1 = P
      · rw [hu p hp hb, hb]
        refine ⟨_, by rw [upd_ne (ne_of_none hP hf0), upd_ne nPc, upd_same], by simpa using PySem.TriplesOk_snoc _ _ _ _ ht, fun p' cv hcv => ?_⟩
        have hcv : codeAmong p' (ps.toList ++ [rawInt pos.line, rawInt pos.col, .ref c]) = some cv := by simpa using hcv
        rcases LamX.among_app _ ht hcv with z | z
        · obtain ⟨c0, e1, e2⟩ := ha p' cv z
          exact ⟨c0, e1, keep _ _ e2⟩
        · exact ⟨c, z, by rw [upd_ne (ne_of_none (show upd (upd H P (.tbl (ps ++ #[rawInt pos.line, rawInt pos.col, .ref c]))) c (LamX.CodeO c (X.env.qual ++ "<lambda>")) c = some _ from upd_same) hf1), upd_same]⟩
      · obtain ⟨ps', a1, a2, a3⟩ := hT p hp
        refine ⟨ps', by rw [upd_ne (ne_of_none a1 hf0), upd_ne (ne_of_none a1 nC), upd_ne hb]; exact a1, a2, fun p' cv hcv => ?_⟩
        obtain ⟨c0, e1, e2⟩ := a3 p' cv hcv
        exact ⟨c0, e1, keep _ _ e2⟩
    · have : upd (upd H P (.tbl (ps ++ #[rawInt pos.line, rawInt pos.col, .ref c]))) c (LamX.CodeO c (X.env.qual ++ "<lambda>")) c = some (LamX.CodeO c (X.env.qual ++ "<lambda>")) := upd_same
      rw [upd_ne (ne_of_none this hf1)]
      exact this
  | some cv =>
    obtain ⟨c, e, hco⟩ := ha pos cv hc
    subst e
    refine PySem.W.kla_makeFunctionHit (mg := X.mg) (c := co) (P := P) (ps := ps) (closure_ok hfree) I.ok.glob (I.mod.glob.keeps I.bk) hcode (TB.code.keeps I.bk) atP ht hc bmP fun ctv h' tk hx hsz => ?_
    have I1 : Inv X pins σ H { s with heap := h', toks := tk } := I.kept hx
    have hf0 : H h'.objs.size = none := I1.hok.fresh (Nat.le_refl h'.objs.size)
    have I2 := I1.laid (a := h'.objs.size) (o := LamO h'.objs.size (lamObj (X.env.qual ++ "<lambda>") d X.env.cells ((X.mg "__name__").getD .none) c ctv)) (h' := h'.push (lamObj (X.env.qual ++ "<lambda>") d X.env.cells ((X.mg "__name__").getD .none) c ctv)) (t' := tk)
      (fun b u e => Heap.get?_push_of_some _ e) (Nat.le_refl _) ⟨Heap.get?_push_size _ rfl, ⟨_, Heap.get?_push_size _ rfl⟩, fun h1 h2 a st => st _ a⟩
    refine ⟨.ref h'.objs.size, _, I2, rfl, h h'.objs.size c _ ctv _ ((Fr.new (A := fun _ => False) hf0).mono fun _ z => False.elim z) upd_dom (hT.ext fun b o e => ?_) hf0 upd_same ?_⟩
    · rw [upd_ne (ne_of_none e hf0)]
      exact e
    · rw [upd_ne (ne_of_none hco hf0)]
      exact hco
/-- what the making of lambdas asks of the context, and the text of the k-th -/
structure LamC (C : FC) (k : Nat) (d : Arguments × Expr × Scope) : Prop where
  at_ : C.lam[k]? = some d
  cl : C.cl = C.X.env.cells
  lq : C.lq = C.X.env.qual ++ "<lambda>"
  df : defaultsOf d.1 C.X.env = ([], [])
  sc : LamX.LamS C.X.env.scope d.2.2
/-- the code's table -/
structure TabC (C : FC) (co P : Addr) : Prop where
  TB : LamX.TabB C.X.base C.X.mg co P
  code : C.X.env.code = .ref co
  mem : C.T = [(P, C.lq)]
section
variable {C : FC} {k z i : Nat} {d : Arguments × Expr × Scope} {co P : Addr} {lp lp2 pos pos' p ap cp : Pos} {x : Str}
/-- behind the making: the slots stand, the lambda is known -/
theorem lam_after {ρ : Rho} {Fs : Nat → List Addr} {σ : L2.St} {H H1 : Hp} (s : SR C ρ Fs σ H) (hz : ρ[z]? = some .tb) (tc : TabC C co P) (hm : z ∈ C.mt) (hP : C.P0 z = [P]) (fr : Fr (fun a => a = P) H H1) (dm : ∀ a, H1 a = none → H a = none) (tb : LamX.Tabs C.T H1) :
    SR C ρ Fs σ H1 ∧ Stp [z] ρ Fs H ρ Fs H1 := by
  have eF : Fs z = [P] := by
    obtain ⟨e, _⟩ := s.ok z _ hz
    rw [e, tc.mem] <;> rfl
  have ap : ∀ j, j ≠ z → ∀ a ∈ Fs j, ¬ a = P := fun j hj a ha e => s.sep z j _ (Ne.symm hj) hz rfl P (by rw [eF]; exact List.mem_singleton.mpr rfl) (e ▸ ha)
  refine ⟨⟨s.len, fun j t e => ?_, s.out, s.sep, s.frm.trans fr fun a o ha _ e => ?_, fun a h => s.dom a (dm a h)⟩, ⟨fr.mono fun a e => ⟨z, List.mem_singleton.mpr rfl, ⟨_, hz, rfl⟩, by rw [eF, e]; exact List.mem_singleton.mpr rfl⟩, fun _ _ => rfl, fun j a o ha => .inr ⟨j, .inl rfl, o, ha⟩, dm, fun j a ha => .inr ⟨j, ha⟩⟩⟩
  · by_cases hj : j = z
    · subst hj
      rw [hz] at e
      cases e
      obtain ⟨e1, _⟩ := s.ok j _ hz
      exact ⟨e1, tb⟩
    · exact (s.ok j t e).frm fr (ap j hj)
  · exact ⟨z, hm, by rw [hP, e]; exact List.mem_singleton.mpr rfl⟩
def hasTb (ρ : Rho) (z : Nat) : Prop := ρ[z]? = some .tb
/-- x = [lambda: ..] -/
def wsLam (i z k : Nat) : WS := fun ρ W => (hasTb ρ z ∧ i < ρ.length ∧ i ≠ z) ∧ ∀ f c, W.nx (ρ.set i (.fn [(k, f, c)]))
theorem js_lam (hN : C.X.N.Nodup) (hi : C.X.N[i]? = some x) (hx : Loc C.X.env.scope x) (lc : LamC C k d) (tc : TabC C co P) (hm : z ∈ C.mt) (hP : C.P0 z = [P])
    (hs : swapsWith (.List [.Lambda d.1 d.2.1 d.2.2 lp] lp2) (some (.Name x pos')) pos.line C.X.env = pure false := by rfl) (hf : C.X.fn x = true ∨ C.X.env.scope.names.lookup x = some .local := by first | exact .inl rfl | exact .inr rfl | assumption) 
    (hst : starEach [.Lambda d.1 d.2.1 d.2.2 lp] C.X.env = (false, eval (.Lambda d.1 d.2.1 d.2.2 lp) C.X.env) :: starEach [] C.X.env := by rfl) :
    JS C (.Assign [.Name x pos'] (.List [.Lambda d.1 d.2.1 d.2.2 lp] lp2) pos) [z, i] (wsLam i z k) := by
  refine ⟨PS.imp (ps_set hN hi hx (pe_lst (pa_cons (pe_lamO (T := C.T) tc.TB tc.code (by rw [tc.mem, lc.lq]; exact List.mem_singleton.mpr rfl) (fun p hp _ => by rw [tc.mem] at hp; rw [List.mem_singleton.mp hp]; exact lc.lq) lc.df lc.sc) pa_nil hst)) hs hf) ?_⟩
  rintro De σ H ⟨ρ, Fs, W, s, ⟨⟨hz, hl, hne⟩, hw⟩, ex, kk⟩
  obtain ⟨eF, tb⟩ := s.ok z _ hz
  refine ⟨tb, fun f c pm ctv H1 fr dm tb1 nf hf1 hc1 => ⟨by show 1 ≤ sizeLine; decide, fun q nq => ?_⟩⟩
  obtain ⟨s1, t1⟩ := lam_after s hz tc hm hP fr dm tb1
  have nq0 := dm q nq
  have s2 := s1.new (Fr.new (o := .lst [.ref f]) nq) upd_dom
  have t2 := t1.trans (Stp.new (ρ := ρ) (Fs := Fs) (Fr.new (o := .lst [.ref f]) nq) upd_dom)
  have s3 := s2.setS (u := .fn [(k, f, c)]) (v := .ref q) (F := [q]) hl ⟨q, [.ref f], rfl, upd_same, ⟨⟨rfl, d, pm, ctv, lc.at_, ?_, ?_⟩, trivial⟩, rfl, s.dom q nq0⟩ fun j t _ _ _ a ha => ?_
  · have t3 := stp_set (u := .fn [(k, f, c)]) (F := [q]) hl t2 (fun _ a ha => by rw [List.mem_singleton.mp ha]; exact nq0) fun a ha => by rw [List.mem_singleton.mp ha]; exact .inl nq0
    exact kk.nx _ _ _ _ (hw f c) s3 (t3.mono (by simp))
  · rw [upd_ne (ne_of_none hf1 nq), lc.lq, lc.cl]
    exact hf1
  · rw [upd_ne (ne_of_none hc1 nq), lc.lq]
    exact hc1
  · rw [List.mem_singleton.mp ha]
    exact s1.notIn nq j
/-- x.append(lambda: ..) -/
def wsLamA (i z k : Nat) : WS := fun ρ W => (hasTb ρ z ∧ i ≠ z) ∧ match ρ[i]? with
  | some (.fn ks) => ks.length < sizeLine ∧ ∀ f c, W.nx (ρ.set i (.fn (ks ++ [(k, f, c)])))
  | _ => False
theorem js_lamA (hN : C.X.N[i]? = some x) (hv : Vis C.X.env.scope x) (lc : LamC C k d) (tc : TabC C co P) (hm : z ∈ C.mt) (hP : C.P0 z = [P])
    (hd : (x == ("__debug__" : Str)) = false := by decide) (hcd : (x == ("__classdict__" : Str)) = false := by decide)
    (hbase : attributeBase (.Name x p) "append" C.X.env (eval (.Name x p) C.X.env) = eval (.Name x p) C.X.env := by rfl) (hline : (ap.endLine == cp.line) = true := by rfl)
    (hfew : ((backTo cp (starEach [.Lambda d.1 d.2.1 d.2.2 lp] C.X.env)).all (fun x => !x.1) && (backToKw cp (keywordEach [] C.X.env)).all (fun x => x.1.isSome) && decide ([Expr.Lambda d.1 d.2.1 d.2.2 lp].length + ([] : List Keyword).length + (if ([] : List Keyword).isEmpty then 0 else 1) < 30)) = true := by rfl)
    (hst : starEach [.Lambda d.1 d.2.1 d.2.2 lp] C.X.env = (false, eval (.Lambda d.1 d.2.1 d.2.2 lp) C.X.env) :: starEach [] C.X.env := by rfl) (hpl : (backTo cp (starEach ([] : List Expr) C.X.env)).any (·.1) = false := by rfl)
    (hs : swapsWith (.Call (.Attribute (.Name x p) "append" ap) [.Lambda d.1 d.2.1 d.2.2 lp] [] cp) none pos.line C.X.env = pure false := by rfl) :
    JS C (.Expr (.Call (.Attribute (.Name x p) "append" ap) [.Lambda d.1 d.2.1 d.2.2 lp] [] cp) pos) [z, i] (wsLamA i z k) := by
  refine ⟨PS.imp (ps_expr (pe_bm PySem.F.plainAttrs_list PySem.F.slot_list_append PySem.F.type_list_append mt_append (pe_var hN hv hd hcd) (pa_cons (pe_lamO (T := C.T) tc.TB tc.code (by rw [tc.mem, lc.lq]; exact List.mem_singleton.mpr rfl) (fun p hp _ => by rw [tc.mem] at hp; rw [List.mem_singleton.mp hp]; exact lc.lq) lc.df lc.sc) pa_nil hst) hbase hfew hline hst hpl) hs) ?_⟩
  rintro De σ H ⟨ρ, Fs, W, s, ⟨⟨hz, hne⟩, hw⟩, ex, kk⟩
  obtain ⟨eF, tb⟩ := s.ok z _ hz
  cases e : ρ[i]? with
  | none => rw [e] at hw; exact hw.elim
  | some t =>
    rw [e] at hw
    cases t <;> first | exact hw.elim | skip
    rename_i ks
    obtain ⟨hlen, hw⟩ := hw
    obtain ⟨a, vs, hv1, ha, hL, hF, h0⟩ := s.ok i _ e
    have hl : i < ρ.length := (List.getElem?_eq_some_iff.mp e).1
    refine ⟨.ref a, hv1, .inl ⟨rfl, _, SqL.of ha⟩, tb, fun f c pm ctv H1 fr dm tb1 nf hf1 hc1 => ?_⟩
    obtain ⟨s1, t1⟩ := lam_after s hz tc hm hP fr dm tb1
    obtain ⟨a', vs', hv1', ha', hL', hF', _⟩ := s1.ok i _ e
    rw [hv1] at hv1'
    cases hv1'
    refine ⟨a, vs', .ref f, rfl, rfl, ha', by rw [hL'.len]; exact hlen, ?_⟩
    have fw : Fr (fun b => b = a) H1 (upd H1 a (.lst (vs' ++ [.ref f]))) := Fr.write ha' trivial rfl
    have na : ∀ j, j ≠ i → ∀ b ∈ Fs j, ¬ b = a := fun j hj b hb z => s1.sep i j _ (Ne.symm hj) e rfl a (by rw [hF]; exact List.mem_singleton.mpr rfl) (z ▸ hb)
    have s2 : SR C (ρ.set i (.fn (ks ++ [(k, f, c)]))) Fs σ (upd H1 a (.lst (vs' ++ [.ref f]))) := by
      refine ⟨by rw [List.length_set]; exact s1.len, fun j t e' => ?_, fun j e' => ?_, fun j j' t hjj e' o b hb => ?_, s1.frm.trans fw fun b o hb _ z => ?_, fun b h => s1.dom b (upd_dom b h)⟩
      · by_cases hj : j = i
        · subst hj
          rw [List.getElem?_set_self hl] at e'
          cases e'
          refine ⟨a, _, hv1, upd_same, LamL.app ⟨rfl, d, pm, ctv, lc.at_, ?_, ?_⟩ (hL'.frm fw), hF, h0⟩
          · rw [lc.lq, lc.cl]
            exact fw _ _ hf1 (fun _ => .inr trivial) fun _ z => z
          · rw [lc.lq]
            exact fw _ _ hc1 (fun _ => .inr trivial) fun _ z => z
        · rw [List.getElem?_set_ne (Ne.symm hj)] at e'
          exact (s1.ok j t e').frm fw (na j hj)
      · by_cases hj : j = i
        · subst hj
          rw [List.getElem?_set_self hl] at e'
          cases e'
        · rw [List.getElem?_set_ne (Ne.symm hj)] at e'
          exact s1.out j e'
      · by_cases hj : j = i
        · subst hj
          exact s1.sep j j' _ hjj e rfl b hb
        · rw [List.getElem?_set_ne (Ne.symm hj)] at e'
          exact s1.sep j j' t hjj e' o b hb
      · rw [z, h0] at hb
        cases hb
    have t2 : Stp [i] ρ Fs H1 (ρ.set i (.fn (ks ++ [(k, f, c)]))) Fs (upd H1 a (.lst (vs' ++ [.ref f]))) := by
      refine ⟨fw.mono fun b z => ⟨i, List.mem_singleton.mpr rfl, ⟨_, e, rfl⟩, by rw [hF, z]; exact List.mem_singleton.mpr rfl⟩, fun _ _ => rfl, fun j b ⟨u, hu, o⟩ hb => ?_, upd_dom, fun j b hb => .inr ⟨j, hb⟩⟩
      refine .inr ⟨j, .inl rfl, ?_, hb⟩
      by_cases hj : j = i
      · subst hj
        exact ⟨_, e, rfl⟩
      · rw [List.getElem?_set_ne (Ne.symm hj)] at hu
        exact ⟨u, hu, o⟩
    exact kk.nx _ _ _ _ (hw f c) s2 ((t1.trans t2).mono (by simp))
end
end L3

namespace L3
open PySem PySem.Spec PyProof.Rows L2

/-! ### a lambda that is known is called, in the def that got it -/
abbrev gCx (X : Cx) (Ng : List Str) (qg : Str) (sg : Scope) (g : Addr) (cdg : Value) (s : Shared) (H : Hp) : Cx := cxOf C8.CX0 X.prog X.w X.K X.mg X.base Ng qg sg g cdg X.A X.stack s H C8.E0
theorem pe_act2 {X : Cx} {pins : List (Addr × Obj)} {σ : L2.St} {H : Hp} {s : Shared} {Ng : List Str} {qg : Str} {sg : Scope} {g f c : Addr} {cdg pm ctv : Value} {d : Arguments × Expr × Scope} {k i : Nat} {a : Str} {pn : List (Addr × Obj)} {xe : Value → Shared → Prop} {W : WX} {E : XK} {tb : TE} {p1 p2 : Pos}
    (I : Inv X pins σ H s) (L : LamX.LamS X.env.scope d.2.2) (hb0 : ∀ (q : Str) (cl : List (Str × Addr)) (pm cv ctv : Value), bindArgs (PySem.W.kla_fn "<lambda>" q d.1 d.2.1 d.2.2 cl pm cv ctv) ⟨[], []⟩ = pure [])
    (tk : Takes ((gCx X Ng qg sg g cdg s H).tr pn xe) W) (hr : Room (k + 1) (X.A.deeper (envOfC qg sg s.heap.objs.size g cdg)))
    (hbody : ∀ (A : Around) (outer : List Env) (s : Shared) (H : Hp), Room k (A.deeper (LamX.lamEnv X d.2.2 s.heap.objs.size f c)) → PE (LamX.lamCx X A outer s H E d.2.2 f c) d.2.1 tb)
    (hN : Ng[i]? = some a) (hv : Vis sg a) (hd : (a == ("__debug__" : Str)) = false := by decide) (hcd : (a == ("__classdict__" : Str)) = false := by decide) :
    PE ((gCx X Ng qg sg g cdg s H).tr pn xe) (.Call (.Name a p1) [] [] p2) (fun σZ HZ Q => σZ[i]? = some (some (.ref f)) ∧ HZ f = some (LamO f (lamObj (X.env.qual ++ "<lambda>") d X.env.cells pm c ctv)) ∧ HZ c = some (LamX.CodeO c (X.env.qual ++ "<lambda>")) ∧ (∀ cls e H', E cls e H' → W cls e σZ H') ∧ tb σ HZ Q) := by
  refine ⟨fun pinsZ sZ σZ HZ Q IZ ⟨hs, hfo, hco, hW, ht⟩ => ?_⟩
  refine wpAny_Call_Name_kw (thn ((pe_var (pos := p1) (i := i) hN hv hd hcd).run pinsZ sZ σZ HZ (fun v H1 => v = .ref f ∧ H1 = HZ) IZ ⟨.ref f, hs, rfl, rfl⟩) fun u s1 ⟨v, H1, I1, r1, ev, eH⟩ => ?_)
  subst ev
  subst eH
  obtain rfl : u = Value.ref f := r1
  obtain ⟨of1, _⟩ := I1.hok f _ hfo
  have of1 : s1.heap.get? f = some (lamObj (X.env.qual ++ "<lambda>") d X.env.cells pm c ctv) := of1
  refine PySem.W.callWith_F0 ⟨_, _, _, _, of1⟩ ?_
  have un : Un (frs X.stack) [] H H1 s.heap s1.heap := I1.base
  obtain ⟨⟨oc, vs, t, hoc, hdc, hvc⟩, _, _⟩ := I1.hok c _ hco
  have rc : codeAny (model X.prog X.w) (X.A.deeper (envOfC qg sg s.heap.objs.size g cdg)) (.call (.ref f) ⟨[], []⟩) (CR (L2.CX X.prog X.w) (envOfC qg sg s.heap.objs.size g cdg :: X.stack) X.prog X.w H1 s1 Q E) s1 := by
    refine PySem.W.kla_callFunE hr.depth of1 rfl L.co L.gen rfl ⟨c, oc, vs, t, rfl, hoc, hdc, hvc⟩ ?_
    rw [hb0]
    refine wpAny_pure (wpAny_newFunctionEnv (fun y hy => (L.own y hy).2) (fun y hy => absurd hy (by simp)) (fun h1 hns hsb => ⟨I1.nolimit.fresh _ hsb, ?_⟩) L.kind)
    show codeAny _ _ (.expr d.2.1 (LamX.lamEnv X d.2.2 s1.heap.objs.size f c)) _ _
    have kp : ∀ b o, s1.heap.get? b = some o → h1.get? b = some o := fun b o e => hsb.extBut b o (Nat.ne_of_lt (Heap.lt_size e)) (Heap.get?_push_of_some _ e)
    have J : Inv (LamX.lamCx X (X.A.deeper (envOfC qg sg s.heap.objs.size g cdg)) (envOfC qg sg s.heap.objs.size g cdg :: X.stack) s1 H1 E d.2.2 f c) [] σ H1 { s1 with heap := h1, toks := s1.toks + ([] : List (Str × Value)).length } :=
      LamX.lam_start2 I L I1.env0 hr.hd un hns kp
    refine PySem.W.kla_codeExpr (wpAny_mono ((hbody _ _ s1 H1 (hr.deeper _)).run [] _ _ H1 Q J ht) (fun v s' hq => ?_) fun e s' hq => hq)
    obtain ⟨w', H', J', rv, q⟩ := hq
    exact ⟨w', H', J'.os, J'.bare, J'.base, J'.hok, rv, q⟩
  refine wpAny_call (codeAny_mono rc fun r s' hq => ?_)
  cases r with
  | error e => exact tk e s' (XE.of_call I1 (fun cls e H' h => hW cls e H' h) hq)
  | ok fl =>
    cases fl with
    | ret u => exact I1.after hq
    | next => exact False.elim hq
    | brk => exact False.elim hq
    | cont => exact False.elim hq
/-! ### what the caller of known lambdas makes of them, one after the other -/
section
variable (St : Hp → Prop) (mg : Str → Option Value) (kn : Str → Bool) (word : Str → Int) (p : Addr)
def elGo : List (XK → Hp → VK → Prop) → List Int → Hp → VK → Prop
  | [], acc, H, Q => (St H ∧ H p = some (.lst (acc.map V.int)) ∧ acc.length ≤ 1000) ∧ Q (.ref p) H
  | t :: ts, acc, H, Q => (St H ∧ H p = some (.lst (acc.map V.int)) ∧ acc.length ≤ 1000) ∧ ∃ E : XK,
      t E H (fun _ H1 => H1 p = some (.lst (acc.map V.int)) ∧ ∀ H2, Fr (fun a => a = p) H1 H2 → (∀ a, H2 a = none → H1 a = none) → H2 p = some (.lst ((acc ++ [9]).map V.int)) → elGo ts (acc ++ [9]) H2 Q) ∧
      ∀ cls e H1, E cls e H1 → e = none ∧ ∃ n, mg n = some cls ∧ kn n = true ∧ H1 p = some (.lst (acc.map V.int)) ∧ ∀ H2, Fr (fun a => a = p) H1 H2 → (∀ a, H2 a = none → H1 a = none) → H2 p = some (.lst ((acc ++ [word n]).map V.int)) → elGo ts (acc ++ [word n]) H2 Q
end
/-! ### the def that calls a list of lambdas: found = []; for call in calls: word = 9; try: call() except LikeError as error: ..; found.append(word) -/
abbrev erN : List Str := ["calls", "found", "call", "word", "error", "flags"]
def rhoX (d : D) (n : Str) : Rho := [.un, .pr d, .un, .ow (.int 9), .ex n, .un]
/-- the except suite's context -/
abbrev chOf (X : Cx) (H : Hp) (p a : Addr) (n : Str) : FC where
  X := X
  H0 := H
  v0 := []
  P0 := fun i => if i = 1 then [p] else []
  mt := []
  al := []
  E := fun _ _ _ => False
  EX := fun _ _ => False
  exA := a
  exN := n
structure ErrC (X : Cx) (sg : Scope) (kn : Str → Bool) (word : Str → Int) (CL : Addr) (suite : List Stmt) (wsu : WS) : Prop where
  kn_ : ∀ n, kn n = true → ∃ D, X.mg n = some (.ref D) ∧ L2.ExcC X.K D ∧ PySem.W.exmOne X.K (.ref D) (.ref CL) = some true
  mgL : X.mg "LikeError" = some (.ref CL)
  loc : ∀ x ∈ erN, sg.names.lookup x = some .local
  glo : sg.names.lookup ("LikeError" : Str) = some .globalImplicit
  sem : ∀ n d, kn n = true → wsu (rhoX d n) ⟨fun ρ' => ρ'.length = 6 ∧ ρ'[1]? = some (.pr d) ∧ ρ'[3]? = some (.ow (.int (word n))), fun _ _ => False, fun _ => False, fun _ => False, fun _ _ => False⟩
section
variable {X : Cx} {pins : List (Addr × Obj)} {σ : L2.St} {H : Hp} {s : Shared} {qg : Str} {sg : Scope} {g CL : Addr} {cdg : Value} {k : Nat} {kn : Str → Bool} {word : Str → Int} {b0 : Stmt} {suite : List Stmt} {wsu : WS}
/-- what the try's body does: one of the known lambdas is called -/
def teAct (C : FC) (σ : L2.St) (tb : Nat → XK → TE) (W : WX) : TE := fun σZ HZ Q => ∃ (k : Nat × Addr × Addr) (v : V) (E : XK), LamV C HZ k v ∧ σZ[2]? = some (some v) ∧ (∀ cls e H', E cls e H' → W cls e σZ H') ∧ tb k.1 E σ HZ Q
/-- and its except suite -/
def tsAct (mg : Str → Option Value) (kn : Str → Bool) (word : Str → Int) : Addr → Value → Option Addr → TS := fun a cls e De σ H => e = none ∧ ∃ (n : Str) (p : Addr) (acc : List Int), mg n = some cls ∧ kn n = true ∧ σ.length = 6 ∧ σ[1]? = some (some (.ref p)) ∧ σ[3]? = some (some (.int 9)) ∧ σ[4]? = some (some (.ref a)) ∧ H p = some (.lst (acc.map V.int)) ∧
  ∀ σ' H', σ'.length = 6 → σ'[1]? = some (some (.ref p)) → σ'[3]? = some (some (.int (word n))) → Fr (fun _ => False) H H' → (∀ a, H' a = none → H a = none) → De.nx σ' H'
theorem ints_rp' {K : PySem.W.Frag} {H : Hp} {p : Addr} {acc : List Int} (h : H p = some (.lst (acc.map V.int))) : Rp K H (.list (acc.map fun z => .int z)) (.ref p) [p] := by
  have := Rp.lst (K := K) h (ints_rp (ns := acc))
  exact this
theorem suite_act {X' : Cx} (hmg : X'.mg = X.mg)
    {a : Addr} {cls : Value} {e : Option Addr} (h : ∀ (H : Hp) (p : Addr) (n : Str), e = none → X.mg n = some cls → kn n = true → ∃ m, JSs (chOf X' H p a n) (b0 :: suite) m wsu) (EC : ErrC X sg kn word CL (b0 :: suite) wsu) : PSs X' (b0 :: suite) (tsAct X.mg kn word a cls e) := by
  refine ⟨fun pins s σ H De I hh => ?_⟩
  obtain ⟨he, n, p, acc, hm, hk, hl, h1, h3, h4, hp, hw⟩ := hh
  refine ((h H p n he hm hk).choose_spec.ps.run pins s σ H De I ?_)
  have hs := EC.sem n (.list (acc.map fun z => .int z)) hk
  refine ⟨rhoX (.list (acc.map fun z => .int z)) n, fun i => if i = 1 then [p] else [], _, ⟨hl, fun i t e => ?_, fun i e => ?_, fun i j t hij e o b hb => ?_, .refl, fun _ h => h⟩, hs, rfl, ⟨fun ρ' Fs' σ' H' hn s1 t1 => ?_, fun _ _ _ _ z => z.elim, fun _ _ _ _ z => z.elim, fun _ _ _ _ _ _ _ z => z.elim⟩⟩
  · match i, e with
    | 0, e => cases e; rfl
    | 1, e => cases e; exact ⟨.ref p, h1, ints_rp' hp, rfl⟩
    | 2, e => cases e; rfl
    | 3, e => cases e; exact ⟨.int 9, h3, .int 9, List.nodup_nil, fun _ z => nomatch z⟩
    | 4, e => cases e; exact ⟨h4, rfl, rfl⟩
    | 5, e => cases e; rfl
    | i + 6, e => simp [rhoX] at e
  · have : i ≠ 1 := fun z => by subst z; cases e
    exact if_neg this
  · match i, e with
    | 0, e => cases e; cases o
    | 1, e => cases e; cases o
    | 2, e => cases e; cases o
    | 3, e => cases hb
    | 4, e => cases e; cases o
    | 5, e => cases e; cases o
    | i + 6, e => simp [rhoX] at e
  · obtain ⟨e6, e1, e3⟩ := hn
    obtain ⟨v1, g1, r1, f1⟩ := s1.ok 1 _ e1
    obtain ⟨v3, g3, r3, _⟩ := s1.ok 3 _ e3
    have f1 : Fs' 1 = [p] := f1
    rw [f1] at r1
    generalize Fs' 3 = G3 at r3
    cases r3
    have ev : v1 = .ref p := by
      cases r1
      rfl
    subst ev
    have I' : σ'.length = 6 := by
      rw [s1.len]
      exact e6
    refine hw σ' H' I' g1 g3 (s1.frm.mono fun b ⟨i, hi, _⟩ => nomatch hi) s1.dom
/-- the try statement -/
theorem try_act {C : FC} {tb : Nat → XK → TE} {p1 p2 p3 p4 p5 p6 : Pos} (hC : C.X = X)
    (I : Inv X pins σ H s) (hcl : C.cl = X.env.cells) (hlq : C.lq = X.env.qual ++ "<lambda>") (hr : Room (k + 1) (X.A.deeper (envOfC qg sg s.heap.objs.size g cdg)))
    (hlam : ∀ j d, C.lam[j]? = some d → LamX.LamS X.env.scope d.2.2 ∧ (∀ (q : Str) (cl : List (Str × Addr)) (pm cv ctv : Value), bindArgs (PySem.W.kla_fn "<lambda>" q d.1 d.2.1 d.2.2 cl pm cv ctv) ⟨[], []⟩ = pure []) ∧
      ∀ (E : XK) (f c : Addr) (A : Around) (outer : List Env) (s : Shared) (H : Hp), Room k (A.deeper (LamX.lamEnv X d.2.2 s.heap.objs.size f c)) → PE (LamX.lamCx X A outer s H E d.2.2 f c) d.2.1 (tb j E))
    (EC : ErrC X sg kn word CL (b0 :: suite) wsu)
    (hsu : ∀ (a : Addr) (oe : Obj) (cls : Value) (e : Option Addr) (pn : List (Addr × Obj)), Zc cls e oe → (∃ vs, oe.data = .fields vs) → ∀ (H1 : Hp) (p : Addr) (n : Str), e = none → X.mg n = some cls → kn n = true → ∃ m, JSs (chOf ((gCx X erN qg sg g cdg s H).nox.suite a ((a, oe) :: pn)) H1 p a n) (b0 :: suite) m wsu) :
    PS (gCx X erN qg sg g cdg s H).nox (.Try [.Expr (.Call (.Name "call" p1) [] [] p2) p3] [.ExceptHandler (some (.Name "LikeError" p4)) (some "error") (b0 :: suite) p5] [] [] p6)
      (fun De σZ HZ => tDrop (teAct C σ tb (wAs X.K (.ref CL) 4 (tsAct X.mg kn word) (fun _ _ _ _ => False) De)) De σZ HZ) := by
  refine ps_try_as (X := (gCx X erN qg sg g cdg s H).nox) (i := 4) (c := .ref CL) (tb := fun W => tDrop (teAct C σ tb W)) (ts := tsAct X.mg kn word) (Wout := fun _ _ _ _ => False) rfl rfl (show erN.Nodup by decide) rfl (EC.loc "error" (by decide)) ⟨EC.glo, by decide, .inl EC.mgL⟩ LamX.takes0 (fun W pn xe tk _ => ?_) (fun a oe cls e pn hz hf => ?_)
  · refine pss_one (ps_expr ⟨fun pinsZ sZ σZ HZ Q IZ hh => ?_⟩)
    obtain ⟨kk, v, E, ⟨ev, d, pm, ctv, hd, h1, h2⟩, h3, hW, ht⟩ := hh
    obtain ⟨L, hb, hbody⟩ := hlam _ _ hd
    subst ev
    rw [hcl, hlq] at h1
    rw [hlq] at h2
    exact (pe_act2 (i := 2) (a := "call") (p1 := p1) (p2 := p2) (tb := tb kk.1 E) I L hb tk hr (fun A outer s H r => hbody E kk.2.1 kk.2.2 A outer s H r) rfl (.inl (EC.loc "call" (by decide)))).run pinsZ sZ σZ HZ Q IZ ⟨h3, h1, h2, hW, ht⟩
  · exact suite_act (X := X) (X' := (gCx X erN qg sg g cdg s H).nox.suite a ((a, oe) :: pn)) (sg := sg) (CL := CL) rfl (fun H1 p n h0 h1 h2 => hsu a oe cls e pn hz hf H1 p n h0 h1 h2) EC
end
end L3

namespace L3
open PySem PySem.Spec PyProof.Rows L2

section
variable {X : Cx} {pins : List (Addr × Obj)} {σ : L2.St} {H : Hp} {s : Shared} {qg : Str} {sg : Scope} {g CL : Addr} {cdg : Value} {k : Nat} {kn : Str → Bool} {word : Str → Int} {b0 : Stmt} {suite : List Stmt} {wsu : WS}
/-- found.append(word), at the machine's level -/
def tApp (K : PySem.W.Frag) : TS := tDrop (tBM K "list" rAppend (tVar 1) (tCons (tVar 3) tNil))
theorem app_act {K : PySem.W.Frag} {De : Ends} {σ : L2.St} {H : Hp} {p : Addr} {acc : List Int} {z : Int} (h1 : σ[1]? = some (some (.ref p))) (h3 : σ[3]? = some (some (.int z))) (hp : H p = some (.lst (acc.map V.int))) (hl : acc.length ≤ 1000)
    (h : De.nx σ (upd H p (.lst ((acc ++ [z]).map V.int)))) : tApp K De σ H := by
  refine ⟨.ref p, h1, .inl ⟨rfl, _, SqL.of hp⟩, .int z, h3, p, _, .int z, rfl, rfl, hp, ?_, ?_⟩
  · rw [List.length_map]
    have : (1000 : Nat) < sizeLine := by decide
    omega
  · rw [List.map_append] at h
    exact h
/-- the body of such a def (q..: the places of the text) -/
abbrev errB (b0 : Stmt) (suite : List Stmt) (j9 : Nat) (q1 q2 q3 q4 q5 q6 q7 q8 q9 q10 q11 q12 q13 q14 q15 q16 q17 q18 q19 q20 q21 q22 q23 : Pos) : List Stmt :=
  [.Assign [.Name "found" q1] (.List [] q2) q3,
    .For (.Name "call" q4) (.Name "calls" q5) [.Assign [.Name "word" q6] (.Constant (.int 9) j9 q7) q8,
      .Try [.Expr (.Call (.Name "call" q9) [] [] q10) q11] [.ExceptHandler (some (.Name "LikeError" q12)) (some "error") (b0 :: suite) q13] [] [] q14,
      .Expr (.Call (.Attribute (.Name "found" q15) "append" q16) [.Name "word" q17] [] q18) q19] [] q20,
    .Return (some (.Name "found" q21)) q22]
theorem errs_body {C : FC} {tb : Nat → XK → TE} {q1 q2 q3 q4 q5 q6 q7 q8 q9 q10 q11 q12 q13 q14 q15 q16 q17 q18 q19 q20 q21 q22 q23 : Pos} {j9 : Nat} {a0 : Addr} {ks : List (Nat × Addr × Addr)} {vs : List V} {Q : VK} (hC : C.X = X)
    (I : Inv X pins σ H s) (hcl : C.cl = X.env.cells) (hlq : C.lq = X.env.qual ++ "<lambda>") (hr : Room (k + 1) (X.A.deeper (envOfC qg sg s.heap.objs.size g cdg)))
    (hlam : ∀ j d, C.lam[j]? = some d → LamX.LamS X.env.scope d.2.2 ∧ (∀ (q : Str) (cl : List (Str × Addr)) (pm cv ctv : Value), bindArgs (PySem.W.kla_fn "<lambda>" q d.1 d.2.1 d.2.2 cl pm cv ctv) ⟨[], []⟩ = pure []) ∧
      ∀ (E : XK) (f c : Addr) (A : Around) (outer : List Env) (s : Shared) (H : Hp), Room k (A.deeper (LamX.lamEnv X d.2.2 s.heap.objs.size f c)) → PE (LamX.lamCx X A outer s H E d.2.2 f c) d.2.1 (tb j E))
    (EC : ErrC X sg kn word CL (b0 :: suite) wsu)
    (hsu : ∀ (a : Addr) (oe : Obj) (cls : Value) (e : Option Addr) (pn : List (Addr × Obj)), Zc cls e oe → (∃ vs, oe.data = .fields vs) → ∀ (H1 : Hp) (p : Addr) (n : Str), e = none → X.mg n = some cls → kn n = true → ∃ m, JSs (chOf ((gCx X erN qg sg g cdg s H).nox.suite a ((a, oe) :: pn)) H1 p a n) (b0 :: suite) m wsu)
    (hmono : ∀ j E H Q Q', (∀ v H, Q v H → Q' v H) → tb j E σ H Q → tb j E σ H Q') (hline : (q16.endLine == q18.line) = true)
    (hlen : ks.length ≤ 900) (hS : H a0 = some (.lst vs)) (hL : LamL C H ks vs)
    (st : ∀ p, H p = none → elGo (fun H => H a0 = some (.lst vs) ∧ LamL C H ks vs) X.mg kn word p (ks.map fun kk E H' Q' => tb kk.1 E σ H' Q') [] (upd H p (.lst [])) Q) :
    ∃ t, PSs (gCx X erN qg sg g cdg s H).nox (errB b0 suite j9 q1 q2 q3 q4 q5 q6 q7 q8 q9 q10 q11 q12 q13 q14 q15 q16 q17 q18 q19 q20 q21 q22 q23) t ∧ t { nx := fun _ H' => Q .non H', rt := Q } (L2.start erN [.ref a0]) H := by
  have nd : erN.Nodup := by decide
  have loc : ∀ x ∈ erN, Vis sg x := fun x hx => .inl (EC.loc x hx)
  have hv : ∀ x ∈ erN, Loc (gCx X erN qg sg g cdg s H).nox.env.scope x := fun x hx => .inl (EC.loc x hx)
  refine ⟨_, pss_cons (ps_set (i := 1) nd rfl (hv "found" (by decide)) (pe_lst pa_nil)) (pss_cons (ps_for .never rfl (pi_list (pe_var (i := 0) rfl (loc "calls" (by decide)))) (pg_name (i := 2) nd rfl (hv "call" (by decide)))
    (pss_cons (ps_set (i := 3) nd rfl (hv "word" (by decide)) pe_int) (pss_cons (try_act (C := C) (tb := tb) hC I hcl hlq hr hlam EC hsu)
      (pss_one (ps_expr (pe_bm PySem.F.plainAttrs_list PySem.F.slot_list_append PySem.F.type_list_append mt_append (pe_var (i := 1) rfl (loc "found" (by decide))) (pa_cons (pe_var (i := 3) rfl (loc "word" (by decide))) pa_nil) rfl rfl hline)))))) (pss_one (ps_ret (pe_var (i := 1) rfl (loc "found" (by decide)))))), ?_⟩
  refine ⟨by show 0 ≤ sizeLine; exact Nat.zero_le _, fun p np => ?_⟩
  have hap : a0 ≠ p := ne_of_none hS np
  have st := st p np
  have hS1 : upd H p (.lst []) a0 = some (.lst vs) := by rw [upd_ne hap]; exact hS
  refine ⟨.ref a0, rfl, a0, rfl, ⟨vs, SqL.of hS1⟩, fun i m σ' H' => m = ks.length - i ∧ i ≤ ks.length ∧ σ'.length = 6 ∧ σ'[1]? = some (some (.ref p)) ∧ ∃ acc : List Int, acc.length = i ∧ elGo (fun H => H a0 = some (.lst vs) ∧ LamL C H ks vs) X.mg kn word p ((ks.drop i).map fun kk E H' Q' => tb kk.1 E σ H' Q') acc H' Q,
    ⟨ks.length, by simp, Nat.zero_le _, rfl, rfl, [], rfl, by simpa using st⟩, ?_⟩
  rintro i m σ' H' ⟨rfl, hi, l6, h1, acc, hacc, h⟩
  by_cases hlt : i < ks.length
  · rw [List.drop_eq_getElem_cons hlt, List.map_cons] at h
    obtain ⟨⟨⟨hS', hL'⟩, hp, hal⟩, E, hgo, hex⟩ := h
    obtain ⟨v, hv1, hv2⟩ := hL'.get (i := i) (List.getElem?_eq_getElem hlt)
    refine .inr ⟨⟨vs, v, SqL.of hS', hv1⟩, fun σ2 H2 => σ2.length = 6 ∧ σ2[1]? = some (some (.ref p)) ∧ ∃ acc : List Int, acc.length = i + 1 ∧ elGo (fun H => H a0 = some (.lst vs) ∧ LamL C H ks vs) X.mg kn word p ((ks.drop (i + 1)).map fun kk E H' Q' => tb kk.1 E σ H' Q') acc H2 Q,
      fun σ2 H2 ⟨a, b, c, d, e⟩ => ⟨ks.length - (i + 1), by omega, rfl, hlt, a, b, c, d, e⟩, fun x H2 ⟨eH, hx⟩ => ?_⟩
    subst eH
    have ex : x = v := by
      have := hx vs (SqL.of hS')
      rw [hv1] at this
      exact (Option.some.inj this).symm
    subst ex
    show tSeq _ _ _ _ _
    have s1 : ((σ'.set 2 (some x)).set 3 (some (.int 9)))[1]? = some (some (.ref p)) := by
      rw [List.getElem?_set_ne (by decide), List.getElem?_set_ne (by decide)]
      exact h1
    have s2 : ((σ'.set 2 (some x)).set 3 (some (.int 9)))[2]? = some (some x) := by
      rw [List.getElem?_set_ne (by decide), List.getElem?_set_self (by omega)]
    have s3 : ((σ'.set 2 (some x)).set 3 (some (.int 9)))[3]? = some (some (.int 9)) := by
      rw [List.getElem?_set_self (by rw [List.length_set]; omega)]
    have l3 : ((σ'.set 2 (some x)).set 3 (some (.int 9))).length = 6 := by simp [l6]
    generalize hσ3 : (σ'.set 2 (some x)).set 3 (some (.int 9)) = σ3 at s1 s2 s3 l3
    show tSeq _ _ _ ((σ'.set 2 (some x)).set 3 (some (.int 9))) H2
    rw [hσ3]
    refine ⟨ks[i], x, E, hv2, s2, fun cls e H1 hE => ?_, hmono _ _ _ _ _ (fun v1 H1 hh => ?_) hgo⟩
    · obtain ⟨e0, n, hn, hk, hp1, hnx⟩ := hex cls e H1 hE
      obtain ⟨D, hD, _, hexm⟩ := EC.kn_ n hk
      rw [hn] at hD
      cases hD
      refine ⟨true, hexm, fun _ a na => ?_, fun z => nomatch z⟩
      refine ⟨e0, n, p, acc, hn, hk, by simp [l3], ?_, ?_, ?_, hp1, fun σ' H' a b c fr dm => ?_⟩
      · rw [List.getElem?_set_ne (by decide)]; exact s1
      · rw [List.getElem?_set_ne (by decide)]; exact s3
      · rw [List.getElem?_set_self (by omega)]
      · have hp' : H' p = some (.lst (acc.map V.int)) := fr _ _ hp1 (fun _ => .inr trivial) fun z => z.elim
        refine app_act (p := p) (acc := acc) (z := word n) ?_ ?_ hp' hal ⟨?_, ?_, acc ++ [word n], by simp [hacc], hnx _ ?_ ?_ upd_same⟩
        · rw [List.getElem?_set_ne (by decide)]; exact b
        · rw [List.getElem?_set_ne (by decide)]; exact c
        · simp [a]
        · rw [List.getElem?_set_ne (by decide)]; exact b
        · exact Fr.trans (fr.mono fun _ z => z.elim) (Fr.write (A := fun a => a = p) hp' trivial rfl) fun _ _ _ _ z => z
        · exact fun b hb => dm b (upd_dom b hb)
    · obtain ⟨hp1, hnx⟩ := hh
      refine app_act (p := p) (acc := acc) (z := 9) s1 s3 hp1 hal ⟨l3, s1, acc ++ [9], by simp [hacc], hnx _ (Fr.write hp1 trivial rfl) (fun b hb => upd_dom b hb) upd_same⟩
  · have e : i = ks.length := by omega
    subst e
    rw [List.drop_length, List.map_nil] at h
    obtain ⟨⟨⟨hS', hL'⟩, hp, _⟩, hQ⟩ := h
    exact .inl ⟨⟨vs, SqL.of hS', by rw [hL'.len]; exact Nat.le_refl _⟩, .ref p, h1, hQ⟩
end
end L3

namespace L3
open PySem PySem.Spec PyProof.Rows L2

/-! ### a lambda's body, by values: the maker's slots, only the slot hi changed -/
def toL (hi i : Nat) : SV → SV
  | .ow d => if i = hi then .pa d else .pr d
  | .pa d => if i = hi then .pa d else .pr d
  | .pr d => .pr d
  | .fr d => .fr d
  | _ => .un
def rhoL (hi : Nat) (ρ : Rho) : Rho := ρ.mapIdx fun i t => toL hi i t
def fsL (ρ : Rho) (Fs : Nat → List Addr) : Nat → List Addr := fun i => match ρ[i]? with
  | some t => if t.get.isSome then Fs i else []
  | none => []
abbrev lamFC (C : FC) (X' : Cx) (hi : Nat) (H0 : Hp) (v0 : List V) (P0 : Nat → List Addr) (E : XK) (EX : EXT) : FC := { C with X := X', H0 := H0, v0 := v0, P0 := P0, mt := [hi], al := [], E := E, EX := EX }
theorem rhoL_get {hi i : Nat} {ρ : Rho} {t : SV} (e : (rhoL hi ρ)[i]? = some t) : ∃ u, ρ[i]? = some u ∧ t = toL hi i u := by
  unfold rhoL at e
  rw [List.getElem?_mapIdx] at e
  cases h : ρ[i]? with
  | none => rw [h] at e; cases e
  | some u => rw [h] at e; exact ⟨u, rfl, (Option.some.inj e).symm⟩
theorem fsL_sub {ρ : Rho} {Fs : Nat → List Addr} {i : Nat} : ∀ a ∈ fsL ρ Fs i, a ∈ Fs i := fun a h => by
  unfold fsL at h
  split at h
  · split at h
    · exact h
    · cases h
  · cases h
theorem fsL_at {ρ : Rho} {Fs : Nat → List Addr} {i : Nat} {t : SV} {d : D} (e : ρ[i]? = some t) (g : t.get = some d) : fsL ρ Fs i = Fs i := by
  unfold fsL
  rw [e]
  simp [g]
abbrev sv0 (σ : L2.St) : List V := σ.map fun o => o.getD .non
theorem sv0_at {σ : L2.St} {i : Nat} {v : V} (h : σ[i]? = some (some v)) : (sv0 σ)[i]? = some v := by
  simp [sv0, h]
theorem SR.lam {C : FC} {X' : Cx} {ρ : Rho} {Fs : Nat → List Addr} {σ : L2.St} {H : Hp} {hi : Nat} {E : XK} {EX : EXT} (s : SR C ρ Fs σ H) (hX : X'.K = C.X.K) : SR (lamFC C X' hi H (sv0 σ) (fsL ρ Fs) E EX) (rhoL hi ρ) (fsL ρ Fs) σ H := by
  have rpK : ∀ {d : D} {v : V} {F : List Addr}, Rp C.K H d v F → Rp (lamFC C X' hi H (sv0 σ) (fsL ρ Fs) E EX).K H d v F := fun r => by
    show Rp X'.K H _ _ _
    rw [hX]
    exact r
  refine ⟨by unfold rhoL; rw [List.length_mapIdx]; exact s.len, fun i t e => ?_, fun i e => ?_, fun i j t hij e o a ha => ?_, .refl, fun _ h => h⟩
  · obtain ⟨u, hu, et⟩ := rhoL_get e
    have q := s.ok i u hu
    subst et
    cases u with
    | un => show fsL ρ Fs i = []; unfold fsL; rw [hu]; rfl
    | ow d =>
      obtain ⟨v, h1, h2, h3, h4⟩ := q
      have eF : fsL ρ Fs i = Fs i := fsL_at hu rfl
      by_cases e0 : i = hi
      · subst e0
        rw [show toL i i (.ow d) = .pa d from if_pos rfl]
        exact ⟨List.mem_singleton.mpr rfl, v, h1, sv0_at h1, rpK (by rw [eF]; exact h2), by rw [eF]; exact h3, fun a m => .inl m⟩
      · rw [show toL hi i (.ow d) = .pr d from if_neg e0]
        exact ⟨v, h1, rpK (by rw [eF]; exact h2), rfl⟩
    | pa d =>
      obtain ⟨_, v, h1, _, h2, h3, h4⟩ := q
      have eF : fsL ρ Fs i = Fs i := fsL_at hu rfl
      by_cases e0 : i = hi
      · subst e0
        rw [show toL i i (.pa d) = .pa d from if_pos rfl]
        exact ⟨List.mem_singleton.mpr rfl, v, h1, sv0_at h1, rpK (by rw [eF]; exact h2), by rw [eF]; exact h3, fun a m => .inl m⟩
      · rw [show toL hi i (.pa d) = .pr d from if_neg e0]
        exact ⟨v, h1, rpK (by rw [eF]; exact h2), rfl⟩
    | pr d =>
      obtain ⟨v, h1, h2, _⟩ := q
      exact ⟨v, h1, rpK (by rw [fsL_at hu rfl]; exact h2), rfl⟩
    | fr d =>
      obtain ⟨v, h1, h2⟩ := q
      exact ⟨v, h1, rpK (by rw [fsL_at hu rfl]; exact h2)⟩
    | sc ns => show fsL ρ Fs i = []; unfold fsL; rw [hu]; rfl
    | fn ks => show fsL ρ Fs i = []; unfold fsL; rw [hu]; rfl
    | tb => show fsL ρ Fs i = []; unfold fsL; rw [hu]; rfl
    | ex n => show fsL ρ Fs i = []; unfold fsL; rw [hu]; rfl
  · unfold rhoL at e
    rw [List.getElem?_mapIdx] at e
    cases h : ρ[i]? with
    | none => unfold fsL; rw [h]
    | some u => rw [h] at e; cases e
  · obtain ⟨u, hu, et⟩ := rhoL_get e
    have ou : u.own = true := by
      subst et
      cases u <;> first | rfl | cases o
    intro z
    exact s.sep i j u hij hu ou a (fsL_sub a ha) (fsL_sub a z)
def onPa (ρ : Rho) (i : Nat) (k : D → Prop) : Prop := match ρ[i]? with
  | some (.pa h) => k h
  | _ => False
theorem onPa_ok {ρ : Rho} {i : Nat} {k : D → Prop} (h : onPa ρ i k) : ∃ d, ρ[i]? = some (.pa d) ∧ k d := by
  unfold onPa at h
  split at h
  · exact ⟨_, by assumption, h⟩
  · exact h.elim
theorem SR.unlam {C : FC} {X' : Cx} {ρ ρ' : Rho} {Fs Fs' : Nat → List Addr} {σ σ' : L2.St} {H H' : Hp} {hi : Nat} {E : XK} {EX : EXT} {t : SV} {d h' : D} (s : SR C ρ Fs σ H) (hX : X'.K = C.X.K) (e : ρ[hi]? = some t) (o : t.own = true) (g : t.get = some d)
    (s' : SR (lamFC C X' hi H (sv0 σ) (fsL ρ Fs) E EX) ρ' Fs' σ' H') (e' : ρ'[hi]? = some (.pa h')) :
    SR C (ρ.set hi (t.put h')) (pst Fs hi (Fs' hi)) σ H' ∧ Stp [hi] ρ Fs H (ρ.set hi (t.put h')) (pst Fs hi (Fs' hi)) H' := by
  obtain ⟨v, hv, _⟩ := s.val e g
  have eF : fsL ρ Fs hi = Fs hi := fsL_at e g
  obtain ⟨_, v', _, h0, h2, h3, h4⟩ := s'.ok hi _ e'
  have h0 : (sv0 σ)[hi]? = some v' := h0
  rw [sv0_at hv] at h0
  cases h0
  have h2 : Rp X'.K H' h' v (Fs' hi) := h2
  rw [hX] at h2
  refine s.put e o hv g (s'.frm.mono fun a ⟨i, hi', z⟩ => ?_) s'.dom h2 h3 fun a m => ?_
  · rw [List.mem_singleton.mp hi'] at z
    rw [← eF]
    exact z
  · rw [← eF]
    exact h4 a m
def lamRun (hi : Nat) (w : WE) (ρ : Rho) (q : Rho → Prop) (x : Str → Rho → Prop) : Prop := withOwn ρ hi fun t _ => w (rhoL hi ρ) (fun _ ρ' => onPa ρ' hi fun h' => q (ρ.set hi (t.put h'))) (fun n ρ' => onPa ρ' hi fun h' => x n (ρ.set hi (t.put h')))
def errGo (hi : Nat) (ws : List WE) (word : Str → Int) (kn : Str → Bool) : List (Nat × Addr × Addr) → Rho → List Int → (List Int → Rho → Prop) → Prop
  | [], ρ, acc, q => q acc ρ
  | k :: ks, ρ, acc, q => match ws[k.1]? with
    | some w => lamRun hi w ρ (fun ρ' => errGo hi ws word kn ks ρ' (acc ++ [9]) q) fun n ρ' => kn n = true ∧ errGo hi ws word kn ks ρ' (acc ++ [word n]) q
    | none => False
/-- the bodies' derivations -/
def Fam (C : FC) (hi k : Nat) (d : Arguments × Expr × Scope) (a b m : List Nat) (w : WE) : Prop := ∀ (A : Around) (outer : List Env) (s : Shared) (H : Hp) (E : XK) (f c : Addr) (H0 : Hp) (v0 : List V) (P0 : Nat → List Addr) (EX : EXT),
  Ck (lamFC C (LamX.lamCx C.X A outer s H E d.2.2 f c) hi H0 v0 P0 E EX) → Room k (A.deeper (LamX.lamEnv C.X d.2.2 s.heap.objs.size f c)) → JE (lamFC C (LamX.lamCx C.X A outer s H E d.2.2 f c) hi H0 v0 P0 E EX) d.2.1 a b m w
def tbJ (C : FC) (hi : Nat) (w : WE) (a b m : List Nat) (E : XK) : TE := fun σ H Q => ∃ v0 P0 EX, (∀ n ρ Fs σ' H' cls, EX n ρ → SR (lamFC C C.X hi H v0 P0 E EX) ρ Fs σ' H' → C.X.mg n = some cls → E cls none H') ∧ rdE (lamFC C C.X hi H v0 P0 E EX) a b m w σ H Q
def tbX (C : FC) (hi k : Nat) (ws : List WE) (j : Nat) (E : XK) : TE := fun σ H Q => ∃ d a b m w, ws[j]? = some w ∧ C.lam[j]? = some d ∧ Fam C hi k d a b m w ∧ tbJ C hi w a b m E σ H Q
theorem tbX_mono {C : FC} {hi k : Nat} {ws : List WE} {σ : L2.St} : ∀ j E H Q Q', (∀ v H, Q v H → Q' v H) → tbX C hi k ws j E σ H Q → tbX C hi k ws j E σ H Q' := by
  rintro j E H Q Q' hQ ⟨d, a, b, m, w, h1, h2, h3, v0, P0, EX, hE, ρ, Fs, q, s, hw, kk⟩
  exact ⟨d, a, b, m, w, h1, h2, h3, v0, P0, EX, hE, ρ, Fs, q, s, hw, fun d ρ' v F H' Fs' x1 x2 x3 x4 x5 => hQ _ _ (kk d ρ' v F H' Fs' x1 x2 x3 x4 x5)⟩
theorem tbX_pe {C : FC} {hi k : Nat} {ws : List WE} {j : Nat} {d : Arguments × Expr × Scope} (hd : C.lam[j]? = some d) (nd : C.X.N.Nodup) (E : XK) (f c : Addr) (A : Around) (outer : List Env) (s : Shared) (H : Hp) (hr : Room k (A.deeper (LamX.lamEnv C.X d.2.2 s.heap.objs.size f c))) :
    PE (LamX.lamCx C.X A outer s H E d.2.2 f c) d.2.1 (tbX C hi k ws j E) := by
  refine ⟨fun pins s' σ' H' Q I hh => ?_⟩
  obtain ⟨d', a, b, m, w, h1, h2, h3, v0, P0, EX, hE, ρ, Fs, q, sr, hw, kk⟩ := hh
  rw [hd] at h2
  cases h2
  have ck : Ck (lamFC C (LamX.lamCx C.X A outer s H E d.2.2 f c) hi H' v0 P0 E EX) :=
    ⟨rfl, nd, passes_call (takes_of rfl rfl rfl rfl) (fun _ _ _ _ h => h), fun n ρ Fs σ' H' cls x1 x2 x3 => hE n ρ Fs σ' H' cls x1 (x2.at rfl rfl rfl rfl rfl) x3⟩
  exact (h3 A outer s H E f c H' v0 P0 EX ck hr).pe.run pins s' σ' H' Q I ⟨ρ, Fs, q, sr.at rfl rfl rfl rfl rfl, hw, fun d ρ' v F H' Fs' x1 x2 x3 x4 x5 => kk d ρ' v F H' Fs' x1 (x2.at rfl rfl rfl rfl rfl) x3 x4 x5⟩
/-- a list that lies in no slot is changed -/
theorem SR.ext {C : FC} {ρ : Rho} {Fs : Nat → List Addr} {σ : L2.St} {H H' : Hp} {p : Addr} (s : SR C ρ Fs σ H) (fr : Fr (fun a => a = p) H H') (dm : ∀ a, H' a = none → H a = none) (np : ∀ i, p ∉ Fs i) (h0 : C.H0 p = none) : SR C ρ Fs σ H' :=
  ⟨s.len, fun i t e => (s.ok i t e).frm fr fun a ha z => np i (z ▸ ha), s.out, s.sep, s.frm.trans fr (fun a o ha _ z => by rw [z, h0] at ha; cases ha), fun a h => s.dom a (dm a h)⟩
theorem Stp.ext {m : List Nat} {ρ0 ρ : Rho} {Fs0 Fs : Nat → List Addr} {H0 H H' : Hp} {p : Addr} (t : Stp m ρ0 Fs0 H0 ρ Fs H) (fr : Fr (fun a => a = p) H H') (dm : ∀ a, H' a = none → H a = none) (h0 : H0 p = none) : Stp m ρ0 Fs0 H0 ρ Fs H' :=
  ⟨t.fr.trans fr (fun a o ha _ z => by rw [z, h0] at ha; cases ha), t.same, t.own, fun a h => t.dom a (dm a h), t.src⟩
theorem elGo_of {C : FC} {hi ic k : Nat} {ws : List WE} {kn : Str → Bool} {word : Str → Int} {p a0 : Addr} {ks : List (Nat × Addr × Addr)} {vs : List V} {σ : L2.St} {Q : VK} {q : List Int → Rho → Prop} {ρ0 : Rho} {Fs0 : Nat → List Addr} {Hs : Hp} (hne : ic ≠ hi) (h0 : C.H0 p = none) (hs0 : Hs p = none)
    (fam : ∀ (j : Nat) (w : WE), ws[j]? = some w → ∃ d a b m, C.lam[j]? = some d ∧ Fam C hi k d a b m w)
    (fin : ∀ acc ρ Fs H, q acc ρ → SR C ρ Fs σ H → Stp [hi] ρ0 Fs0 Hs ρ Fs H → H p = some (.lst (acc.map V.int)) → (∀ i, p ∉ Fs i) → Q (.ref p) H) :
    ∀ (ks' : List (Nat × Addr × Addr)) (ρ : Rho) (Fs : Nat → List Addr) (H : Hp) (acc : List Int), SR C ρ Fs σ H → Stp [hi] ρ0 Fs0 Hs ρ Fs H → ρ[ic]? = some (.fn ks) → σ[ic]? = some (some (.ref a0)) → H a0 = some (.lst vs) → H p = some (.lst (acc.map V.int)) → (∀ i, p ∉ Fs i) → acc.length + ks'.length ≤ 1000 → errGo hi ws word kn ks' ρ acc q →
      elGo (fun H => H a0 = some (.lst vs) ∧ LamL C H ks vs) C.X.mg kn word p (ks'.map fun kk E H' Q' => tbX C hi k ws kk.1 E σ H' Q') acc H Q := by
  have hst : ∀ {ρ : Rho} {Fs : Nat → List Addr} {H : Hp}, SR C ρ Fs σ H → ρ[ic]? = some (.fn ks) → σ[ic]? = some (some (.ref a0)) → H a0 = some (.lst vs) → LamL C H ks vs ∧ Fs ic = [a0] := fun s e h1 h2 => by
    obtain ⟨a, vs', e1, e2, e3, e4, _⟩ := s.ok ic _ e
    rw [h1] at e1
    cases e1
    rw [h2] at e2
    cases e2
    exact ⟨e3, e4⟩
  intro ks'
  induction ks' with
  | nil =>
    intro ρ Fs H acc s t e ea ha hp np hl h
    exact ⟨⟨⟨ha, (hst s e ea ha).1⟩, hp, by simpa using hl⟩, fin acc ρ Fs H h s t hp np⟩
  | cons kk ks' ih =>
    intro ρ Fs H acc s t e ea ha hp np hl h
    obtain ⟨hL, hF⟩ := hst s e ea ha
    simp only [List.length_cons] at hl
    refine ⟨⟨⟨ha, hL⟩, hp, by omega⟩, ?_⟩
    unfold errGo at h
    cases hw : ws[kk.1]? with
    | none => rw [hw] at h; exact h.elim
    | some w =>
      rw [hw] at h
      obtain ⟨u, d, eu, ou, gu, h⟩ := withOwn_ok h
      obtain ⟨ld, la, lb, lm, hld, hfam⟩ := fam _ _ hw
      have a0n : a0 ∉ Fs hi := fun z => s.sep ic hi _ hne e rfl a0 (by rw [hF]; exact List.mem_singleton.mpr rfl) z
      have next : ∀ {ρ' : Rho} {Fs' : Nat → List Addr} {σ' : L2.St} {H1 : Hp} {h' : D} {z : Int} {E : XK} {EX : EXT}, SR (lamFC C C.X hi H (sv0 σ) (fsL ρ Fs) E EX) ρ' Fs' σ' H1 → ρ'[hi]? = some (.pa h') → errGo hi ws word kn ks' (ρ.set hi (u.put h')) (acc ++ [z]) q →
          H1 p = some (.lst (acc.map V.int)) ∧ ∀ H2, Fr (fun a => a = p) H1 H2 → (∀ a, H2 a = none → H1 a = none) → H2 p = some (.lst ((acc ++ [z]).map V.int)) → elGo (fun H => H a0 = some (.lst vs) ∧ LamL C H ks vs) C.X.mg kn word p (ks'.map fun kk E H' Q' => tbX C hi k ws kk.1 E σ H' Q') (acc ++ [z]) H2 Q := by
        intro ρ' Fs' σ' H1 h' z E EX s' e' hg
        obtain ⟨s1, t1⟩ := s.unlam rfl eu ou gu s' e'
        have nm : ∀ b, b ∉ Fs hi → ¬ Md [hi] ρ Fs b := fun b hb ⟨i, hi', _, hm⟩ => by
          rw [List.mem_singleton.mp hi'] at hm
          exact hb hm
        have hp1 : H1 p = some (.lst (acc.map V.int)) := t1.fr _ _ hp (fun _ => .inr trivial) fun z => absurd z (nm p (np hi))
        have ha1 : H1 a0 = some (.lst vs) := t1.fr _ _ ha (fun _ => .inr trivial) fun z => absurd z (nm a0 a0n)
        have np1 : ∀ i, p ∉ pst Fs hi (Fs' hi) i := fun i hm => by
          rcases t1.src i p hm with z | ⟨j, z⟩
          · rw [hp] at z; cases z
          · exact np j z
        refine ⟨hp1, fun H2 fr dm hp2 => ?_⟩
        have hap : a0 ≠ p := fun z => np ic (by rw [hF, z]; exact List.mem_singleton.mpr rfl)
        refine ih _ _ H2 _ (s1.ext fr dm np1 h0) (((t.trans t1).mono (by simp)).ext fr dm hs0) (by rw [List.getElem?_set_ne (Ne.symm hne)]; exact e) ea (fr _ _ ha1 (fun _ => .inr trivial) fun z => absurd z hap) hp2 np1 (by simp; omega) hg
      refine ⟨fun cls ee H1 => ee = none ∧ ∃ n ρ' Fs' σ', (onPa ρ' hi fun h' => kn n = true ∧ errGo hi ws word kn ks' (ρ.set hi (u.put h')) (acc ++ [word n]) q) ∧ SR (lamFC C C.X hi H (sv0 σ) (fsL ρ Fs) (fun _ _ _ => False) (fun _ _ => False)) ρ' Fs' σ' H1 ∧ C.X.mg n = some cls, ?_, ?_⟩
      · refine ⟨ld, la, lb, lm, w, hw, hld, hfam, sv0 σ, fsL ρ Fs, _, fun n ρ' Fs' σ' H' cls x1 x2 x3 => ⟨rfl, n, ρ', Fs', σ', x1, x2.at rfl rfl rfl rfl rfl, x3⟩, rhoL hi ρ, fsL ρ Fs, _, s.lam rfl, h, fun d ρ' v F H' Fs' x1 x2 x3 x4 x5 => ?_⟩
        obtain ⟨h', e', hg⟩ := onPa_ok x1
        exact next x2 e' hg
      · rintro cls ee H1 ⟨e0, n, ρ', Fs', σ', x1, x2, x3⟩
        obtain ⟨h', e', hk, hg⟩ := onPa_ok x1
        obtain ⟨y1, y2⟩ := next x2 e' hg
        exact ⟨e0, n, x3, hk, y1, y2⟩
end L3

namespace L3
open PySem PySem.Spec PyProof.Rows L2

def wErrs (hi ic : Nat) (ws : List WE) (word : Str → Int) (kn : Str → Bool) : WE := fun ρ q _ => match ρ[ic]? with
  | some (.fn ks) => ks.length ≤ 900 ∧ errGo hi ws word kn ks ρ [] fun acc ρ' => q (.list (acc.map fun z => .int z)) ρ'
  | _ => False
/-- such a def, and the suite of its try -/
structure ErrD (C : FC) (sg : Scope) (g CL : Addr) (fd : FuncData) (b0 : Stmt) (suite : List Stmt) (wsu : WS) (kn : Str → Bool) (word : Str → Int) : Prop where
  bd : Binds C.X.K fd ["calls"] []
  sc : FnScope erN ["calls"] sg
  EC : ErrC C.X sg kn word CL (b0 :: suite) wsu
  su : ∀ (cdg : Value) (s : Shared) (H : Hp) (a : Addr) (oe : Obj) (cls : Value) (e : Option Addr) (pn : List (Addr × Obj)), Room 1 (gCx C.X erN "_law_errors" sg g cdg s H).A → Zc cls e oe → (∃ vs, oe.data = .fields vs) → ∀ (H1 : Hp) (p : Addr) (n : Str), e = none → C.X.mg n = some cls → kn n = true →
    ∃ m, JSs (chOf ((gCx C.X erN "_law_errors" sg g cdg s H).nox.suite a ((a, oe) :: pn)) H1 p a n) (b0 :: suite) m wsu
theorem je_errs {C : FC} {params : Arguments} {body : List Stmt} {sg : Scope} {g CL : Addr} {fd : FuncData} {b0 : Stmt} {suite : List Stmt} {wsu : WS} {kn : Str → Bool} {word : Str → Int} {hi ic k : Nat} {ws : List WE} {x : Str}
    {p p0 pos q1 q2 q3 q4 q5 q6 q7 q8 q9 q10 q11 q12 q13 q14 q15 q16 q17 q18 q19 q20 q21 q22 q23 : Pos} {j9 : Nat}
    (F : FunD C.X.K "_law_errors" "_law_errors" params body sg [] [] g fd) (hB : body = errB b0 suite j9 q1 q2 q3 q4 q5 q6 q7 q8 q9 q10 q11 q12 q13 q14 q15 q16 q17 q18 q19 q20 q21 q22 q23) (D : ErrD C sg g CL fd b0 suite wsu kn word)
    (hg : Gl C.X "_law_errors") (hm : C.X.mg "_law_errors" = some (.ref g)) (hr : Room (k + 3) C.X.A) (nd : C.X.N.Nodup) (hcl : C.cl = C.X.env.cells) (hlq : C.lq = C.X.env.qual ++ "<lambda>")
    (hlam : ∀ d ∈ C.lam, LamX.LamS C.X.env.scope d.2.2 ∧ ∀ (q : Str) (cl : List (Str × Addr)) (pm cv ctv : Value), bindArgs (PySem.W.kla_fn "<lambda>" q d.1 d.2.1 d.2.2 cl pm cv ctv) ⟨[], []⟩ = pure [])
    (fam : ∀ (j : Nat) (w : WE), ws[j]? = some w → ∃ d a b m, C.lam[j]? = some d ∧ Fam C hi (k + 1) d a b m w) (hne : ic ≠ hi) (hN : C.X.N[ic]? = some x) (hv : Vis C.X.env.scope x)
    (hline : (q16.endLine == q18.line) = true := by rfl) (hd : (x == ("__debug__" : Str)) = false := by decide) (hcd : (x == ("__classdict__" : Str)) = false := by decide)
    (hs : starEach [.Name x p0] C.X.env = (false, eval (.Name x p0) C.X.env) :: starEach [] C.X.env := by rfl) :
    JE C (.Call (.Name "_law_errors" p) [.Name x p0] [] pos) [] [] [hi] (wErrs hi ic ws word kn) := by
  subst hB
  refine ⟨⟨fun pins s σ H Q I ⟨ρ, Fs, q, sr, hw, kk⟩ => ?_⟩⟩
  unfold wErrs at hw
  cases e : ρ[ic]? with
  | none => rw [e] at hw; exact hw.elim
  | some t =>
    rw [e] at hw
    cases t <;> first | exact hw.elim | skip
    rename_i ks
    obtain ⟨hlen, hw⟩ := hw
    obtain ⟨a0, vs, ea, ha, hL, hF, h0⟩ := sr.ok ic _ e
    obtain ⟨oc, od, dV, kV, doc, pm, an, cdv, ct, osl, rfl, lk, hcg, _, _⟩ := F.ex
    refine wpAny_Call_Name_kw (ld_glob I hg hm ?_ (by decide))
    refine PySem.W.callWith_K (h₀ := C.X.base) I.ok.mod.kin F.kp ?_ (by rfl) (by rfl)
    rw [hs]
    show wpAny _ _ (spliced ((false, eval (.Name x p0) C.X.env) :: backTo pos (starEach [] C.X.env))) _ _ s
    refine Calls.spliced_cons (thn ((pe_var (pos := p0) (i := ic) hN hv hd hcd).run pins s σ H (fun v H1 => v = .ref a0 ∧ H1 = H) I ⟨.ref a0, ea, rfl, rfl⟩) fun u s1 ⟨v, H1, I1, r1, ev, eH⟩ => ?_)
    subst ev
    subst eH
    obtain rfl : u = Value.ref a0 := r1
    refine Calls.spliced_nil ⟨I1.kIn, ?_⟩
    have rc : codeAny (model C.X.prog C.X.w) C.X.A (.call (.ref g) ⟨[.ref a0], []⟩) (CR C8.CX0 C.X.stack C.X.prog C.X.w H1 s1 Q C8.E0) s1 := by
      refine LamX.run_ofS (k := k + 2) (N := erN) (ps := ["calls"]) (us := [.ref a0]) (vs := [.ref a0]) lk hcg D.sc hr I1.env0 (D.bd s1 [.ref a0] I1.kIn rfl) (.cons rfl .nil) rfl fun hr' => ?_
      have st : ∀ pp, H1 pp = none → elGo (fun H => H a0 = some (.lst vs) ∧ LamL C H ks vs) C.X.mg kn word pp (ks.map fun kk E H' Q' => tbX C hi (k + 1) ws kk.1 E σ H' Q') [] (upd H1 pp (.lst [])) Q := fun pp np => by
        have sr' := sr.new (Fr.new (o := .lst []) np) upd_dom
        have t' : Stp [hi] ρ Fs H1 ρ Fs (upd H1 pp (.lst [])) := (Stp.new (Fr.new (o := .lst []) np) upd_dom).mono (by simp)
        have hap : a0 ≠ pp := ne_of_none ha np
        refine elGo_of (p := pp) (Hs := H1) (ρ0 := ρ) (Fs0 := Fs) hne (sr.dom pp np) np fam (fun acc ρ' Fs' H' hq s' t' hp' np' => ?_) ks ρ Fs _ [] sr' t' e ea (by rw [upd_ne hap]; exact ha) upd_same (sr.notIn np) (by simp; omega) hw
        exact kk _ ρ' (.ref pp) [pp] H' Fs' hq s' t' (ints_rp' hp') ⟨fun a m => .inl (by rw [List.mem_singleton.mp m]; exact ⟨np, np'⟩), fun _ _ a m => by rw [List.mem_singleton.mp m]; exact ⟨np, np'⟩, fun _ _ => List.nodup_cons.mpr ⟨List.not_mem_nil, List.nodup_nil⟩⟩
      obtain ⟨t, ht, hq⟩ := errs_body (X := C.X) (C := C) (q1 := q1) (q2 := q2) (q3 := q3) (q4 := q4) (q5 := q5) (q6 := q6) (q7 := q7) (q8 := q8) (q9 := q9) (q10 := q10) (q11 := q11) (q12 := q12) (q13 := q13) (q14 := q14) (q15 := q15) (q16 := q16) (q17 := q17) (q18 := q18) (q19 := q19) (q20 := q20) (q21 := q21) (q22 := q22) (q23 := q23) (j9 := j9) (k := k + 1) (g := g) (cdg := cdv) (qg := "_law_errors") (tb := tbX C hi (k + 1) ws) (ks := ks) (vs := vs) (Q := Q) (a0 := a0) rfl I1 hcl hlq hr'
        (fun j d hd => ⟨(hlam d (List.mem_of_getElem? hd)).1, (hlam d (List.mem_of_getElem? hd)).2, fun E f c A outer s H r => tbX_pe hd nd E f c A outer s H r⟩) D.EC
        (fun a oe cls e pn hz hf H1 p n h0 h1 h2 => D.su cdv _ _ a oe cls e pn (hr'.mono (by omega)) hz hf H1 p n h0 h1 h2) (fun j E H Q Q' h => tbX_mono j E H Q Q' h) hline hlen ha hL st
      exact ⟨t, ht.nox, hq⟩
    refine wpAny_call (codeAny_mono rc fun r s2 hq => ?_)
    cases r with
    | error e => exact (show False from hq).elim
    | ok fl =>
      cases fl with
      | ret u => exact I1.after hq
      | next => exact False.elim hq
      | brk => exact False.elim hq
      | cont => exact False.elim hq
end L3

namespace L3
open PySem PySem.Spec PyProof.Rows L2

/-! ### isinstance of the error in hand -/
def wIsE (i : Nat) (f : Str → Bool) : WE := fun ρ q _ => match ρ[i]? with
  | some (.ex n) => q (.bool (f n)) ρ
  | _ => False
theorem je_isE {C : FC} {D Cy : Addr} {f : Str → Bool} {i : Nat} {x y : Str} {p p1 p2 pos : Pos} (hI : CallR C.X (.builtin "isinstance") (rIsE C.X.K D C.exA)) (hg : Gl C.X "isinstance") (hm : C.X.mg "isinstance" = none) (hN : C.X.N[i]? = some x) (hv : Vis C.X.env.scope x) (hgy : Gl C.X y) (hmy : C.X.mg y = some (.ref Cy))
    (hk : PySem.W.kitOne C.X.K (.ref D) (.ref Cy) = some (f C.exN)) (hd : (x == ("__debug__" : Str)) = false := by decide) (hcd : (x == ("__classdict__" : Str)) = false := by decide) (hdy : (y == ("__debug__" : Str)) = false := by decide)
    (hs : starEach [.Name x p1, .Name y p2] C.X.env = (false, eval (.Name x p1) C.X.env) :: starEach [.Name y p2] C.X.env := by rfl) (hs2 : starEach [.Name y p2] C.X.env = (false, eval (.Name y p2) C.X.env) :: starEach [] C.X.env := by rfl) (hpl : (backTo pos (starEach [.Name y p2] C.X.env)).any (·.1) = false := by rfl) :
    JE C (.Call (.Name "isinstance" p) [.Name x p1, .Name y p2] [] pos) [] [] [] (wIsE i f) := by
  refine ⟨PE.imp (pe_callB hI hg hm (by decide +kernel) (pa_cons (pe_var hN hv hd hcd) (pa_cons (pe_glob (v := .ref Cy) hgy hmy rfl hdy) pa_nil hs2) hs) (by decide) (by decide) hs hpl) ?_⟩
  rintro σ H Q ⟨ρ, Fs, q, s, hw, k⟩
  unfold wIsE at hw
  cases e : ρ[i]? with
  | none => rw [e] at hw; exact hw.elim
  | some t =>
    rw [e] at hw
    cases t <;> first | exact hw.elim | skip
    rename_i n
    obtain ⟨h1, h2, _⟩ := s.ok i _ e
    subst h2
    exact ⟨.ref C.exA, h1, .ref Cy, .ref Cy, f C.exN, rfl, fun u r => r, hk, k _ ρ (.bl (f C.exN)) [] H Fs hw s .refl (.bl _) .nil⟩
/-! ### the lambdas of a def -/
def FamL (C : FC) (hi k : Nat) : Nat → List WE → Prop
  | _, [] => True
  | j, w :: ws => (∃ d a b m, C.lam[j]? = some d ∧ Fam C hi k d a b m w) ∧ FamL C hi k (j + 1) ws
theorem FamL.get {C : FC} {hi k : Nat} {w : WE} : ∀ {ws : List WE} {j i : Nat}, FamL C hi k j ws → ws[i]? = some w → ∃ d a b m, C.lam[j + i]? = some d ∧ Fam C hi k d a b m w
  | _ :: _, j, 0, h, e => by cases e; exact h.1
  | _ :: ws, j, i + 1, h, e => by
    have := FamL.get (ws := ws) (j := j + 1) (i := i) h.2 (by simpa using e)
    rwa [show j + 1 + i = j + (i + 1) by omega] at this
  | [], _, _, _, e => by simp at e
theorem FamL.all {C : FC} {hi k : Nat} {ws : List WE} (h : FamL C hi k 0 ws) : ∀ (j : Nat) (w : WE), ws[j]? = some w → ∃ d a b m, C.lam[j]? = some d ∧ Fam C hi k d a b m w := fun j w e => by
  have := h.get e
  rwa [Nat.zero_add] at this
def AllL {α : Type} (P : α → Prop) : List α → Prop
  | [] => True
  | x :: xs => P x ∧ AllL P xs
theorem AllL.mem {α : Type} {P : α → Prop} : ∀ {xs : List α}, AllL P xs → ∀ x ∈ xs, P x
  | _ :: _, h, x, m => (List.mem_cons.mp m).elim (fun e => e ▸ h.1) fun m => AllL.mem h.2 x m
/-! ### where a lambda stands -/
def stAt (l : List Stmt) (i : Nat) : Stmt := l.getD i (.Pass ⟨0, 0, 0, 0⟩)
def kids : Stmt → List Stmt
  | .For _ _ b _ _ => b
  | .While _ b _ _ => b
  | .If _ b _ _ => b
  | .Try b _ _ _ _ => b
  | _ => []
def kids2 : Stmt → List Stmt
  | .If _ _ b _ => b
  | _ => []
def exOf : Stmt → Expr
  | .Assign _ e _ => e
  | .Expr e _ => e
  | .Return (some e) _ => e
  | .If e _ _ _ => e
  | _ => .Constant .none 0 ⟨0, 0, 0, 0⟩
def exArg (i : Nat) : Expr → Expr
  | .List es _ => es.getD i (.Constant .none 0 ⟨0, 0, 0, 0⟩)
  | .Call _ es _ _ => es.getD i (.Constant .none 0 ⟨0, 0, 0, 0⟩)
  | .Compare a _ bs _ => if i = 0 then a else bs.getD (i - 1) (.Constant .none 0 ⟨0, 0, 0, 0⟩)
  | .UnaryOp _ a _ => a
  | .BoolOp _ es _ => es.getD i (.Constant .none 0 ⟨0, 0, 0, 0⟩)
  | .BinOp a _ b _ => if i = 0 then a else b
  | e => e
def lamD : Expr → Arguments × Expr × Scope
  | .Lambda a b c _ => (a, b, c)
  | e => (⟨[], [], none, [], [], none, []⟩, e, ⟨.function, [], false, false, []⟩)
/-! ### the law itself -/
def spLaw (K : PySem.W.Frag) (P : Addr) (ok : List Int → Prop) : Sp := fun vs H Q _ => ∃ ns a, vs = [.ref a] ∧ SqL K H a (ns.map V.int) ∧ H P = some (.tbl #[]) ∧ ok ns ∧ ∀ H', Q (.bl true) H'
def rhoLaw (N : List Str) (ns : List Int) : Rho := .sc ns :: (List.replicate (N.length - 2) .un ++ [.tb])
abbrev fcLaw (P : Program) (w : World) (K : PySem.W.Frag) (mg : Str → Option Value) (base : Heap) (N : List Str) (qual : Str) (scope : Scope) (f : Addr) (cd : Value) (A : Around) (outer : List Env) (s : Shared) (H : Hp) (E : XK) (vs : List V) (F0 : List Addr) (z : Nat) (Pt : Addr) (lam : List (Arguments × Expr × Scope)) : FC where
  X := cxOf (L2.CX P w) P w K mg base N qual scope f cd A outer s H E
  H0 := H
  v0 := vs
  P0 := fun i => if i = 0 then F0 else if i = z then [Pt] else []
  mt := [z]
  al := []
  E := E
  EX := fun _ _ => False
  T := [(Pt, (envOfC qual scope s.heap.objs.size f cd).qual ++ "<lambda>")]
  lam := lam
  lq := (envOfC qual scope s.heap.objs.size f cd).qual ++ "<lambda>"
  cl := (envOfC qual scope s.heap.objs.size f cd).cells
theorem fn_law {P : Program} {w : World} {K : PySem.W.Frag} {mg : Str → Option Value} {base : Heap} {x qual : Str} {params : Arguments} {body : List Stmt} {scope : Scope} {f co Pt : Addr} {fd : FuncData} {N : List Str} {k z : Nat} {wb : WS} {lam : List (Arguments × Expr × Scope)} {ok : List Int → Prop} {y : Str}
    (F : FunD K x qual params body scope [] [] f fd) (Sc : FnScope N [y] scope) (hz : z + 1 = N.length) (hz0 : 0 < z) (TB : LamX.TabB base mg co Pt) (hco : fd.code = .ref co)
    (hb : ∀ (A : Around) (outer : List Env) (s : Shared) (H : Hp) (E : XK) (vs : List V) (F0 : List Addr), Ck (fcLaw P w K mg base N qual scope f (.ref co) A outer s H E vs F0 z Pt lam) → Room k (fcLaw P w K mg base N qual scope f (.ref co) A outer s H E vs F0 z Pt lam).X.A →
      TabC (fcLaw P w K mg base N qual scope f (.ref co) A outer s H E vs F0 z Pt lam) co Pt → ∃ mod, JSs (fcLaw P w K mg base N qual scope f (.ref co) A outer s H E vs F0 z Pt lam) body mod wb)
    (vc : ∀ ns, ok ns → wb (rhoLaw N ns) ⟨fun _ => False, fun d _ => d = .bool true, fun _ => False, fun _ => False, fun _ _ => False⟩) :
    FnOk P w K mg base (L2.CX P w) (k + 1) f fd [y] (spLaw K Pt ok) := by
  obtain ⟨oc, od, dV, kV, doc, pm, an, cdv, ct, osl, rfl, lk, hcd, _, _⟩ := F.ex
  have ec : cdv = .ref co := hco
  subst ec
  refine fn_of lk hcd Sc (fun vs H Q E h => ?_) fun A outer s H vs Q E hr h => ?_
  · obtain ⟨ns, a, rfl, _⟩ := h
    rfl
  · obtain ⟨ns, a, rfl, hs, hT, hok, hQ⟩ := h
    obtain ⟨F0, hsc, _⟩ := ScA.of hs
    have nP : Pt ∉ F0 := fun m => by
      obtain ⟨u, hu, _⟩ := hsc.trk Pt m
      rcases hsc with ⟨_, e⟩ | ⟨e1, e⟩
      · subst e; cases m
      · subst e
        rw [List.mem_singleton.mp m, e1] at hT
        cases hT
    have ck : Ck (fcLaw P w K mg base N qual scope f (.ref co) A outer s H E [.ref a] F0 z Pt lam) :=
      ⟨rfl, Sc.nd, passes_call (takes_of rfl rfl rfl rfl) (fun _ _ _ _ h => h), fun n ρ Fs σ H' cls h1 h2 h3 => h1.elim⟩
    have tc : TabC (fcLaw P w K mg base N qual scope f (.ref co) A outer s H E [.ref a] F0 z Pt lam) co Pt := ⟨TB, rfl, rfl⟩
    have at_ : ∀ i t, (rhoLaw N ns)[i]? = some t → (i = 0 ∧ t = .sc ns) ∨ (i = z ∧ t = .tb) ∨ (i ≠ 0 ∧ i ≠ z ∧ t = .un) := fun i t e => by
      cases i with
      | zero => cases e; exact .inl ⟨rfl, rfl⟩
      | succ i =>
        have e : (List.replicate (N.length - 2) SV.un ++ [.tb])[i]? = some t := e
        by_cases h : i < N.length - 2
        · rw [List.getElem?_append_left (by simpa using h)] at e
          exact .inr (.inr ⟨by omega, by omega, List.eq_of_mem_replicate (List.mem_of_getElem? e)⟩)
        · rw [List.getElem?_append_right (by simp; omega)] at e
          have : i - (List.replicate (N.length - 2) SV.un).length = 0 := by
            cases hh : i - (List.replicate (N.length - 2) SV.un).length with
            | zero => rfl
            | succ n => rw [hh] at e; cases e
          rw [this] at e
          cases e
          simp at this
          exact .inr (.inl ⟨by omega, rfl⟩)
    have ln : (rhoLaw N ns).length = N.length := by
      unfold rhoLaw
      simp
      omega
    refine ⟨_, (hb A outer s H E [.ref a] F0 ck hr tc).choose_spec.ps, rhoLaw N ns, (fun i => if i = 0 then F0 else if i = z then [Pt] else []), _, ⟨?_, fun i t e => ?_, fun i e => ?_, fun i j t hij e o b hb' => ?_, .refl, fun _ h => h⟩, vc ns hok, rfl, ?_⟩
    · rw [ln]
      unfold L2.start
      simp
      omega
    · rcases at_ i t e with ⟨rfl, rfl⟩ | ⟨rfl, rfl⟩ | ⟨h0, h1, rfl⟩
      · exact ⟨a, rfl, hsc, rfl⟩
      · refine ⟨?_, fun p hp => ?_⟩
        · show (if i = 0 then F0 else if i = i then [Pt] else []) = [Pt]
          rw [if_neg (by omega), if_pos rfl]
        · rw [List.mem_singleton.mp hp]
          exact .nil hT
      · show (if i = 0 then F0 else if i = z then [Pt] else []) = []
        rw [if_neg h0, if_neg h1]
    · have h : N.length ≤ i := by rw [← ln]; exact List.getElem?_eq_none_iff.mp e
      show (if i = 0 then F0 else if i = z then [Pt] else []) = []
      rw [if_neg (by omega), if_neg (by omega)]
    · rcases at_ i t e with ⟨rfl, rfl⟩ | ⟨rfl, rfl⟩ | ⟨h0, h1, rfl⟩
      · cases o
      · have hb' : b ∈ (if i = 0 then F0 else if i = i then [Pt] else []) := hb'
        rw [if_neg (by omega), if_pos rfl] at hb'
        rw [List.mem_singleton.mp hb']
        show Pt ∉ (if j = 0 then F0 else if j = i then [Pt] else [])
        by_cases hj : j = 0
        · rw [if_pos hj]
          exact nP
        · rw [if_neg hj, if_neg (fun z => hij z.symm)]
          exact List.not_mem_nil
      · cases o
    · refine ⟨fun _ _ _ _ h => h.elim, fun _ _ _ _ h => h.elim, fun _ _ _ _ h => h.elim, fun d ρ' v F σ' Fs' H' h1 s1 r1 k1 => ?_⟩
      subst h1
      cases r1
      exact hQ H'
end L3

namespace L3
open PySem PySem.Spec PyProof.Rows L2

/-! ### what the head tells of the error classes -/
def excB (K : PySem.W.Frag) (D : Addr) : Bool := He.eqO (PySem.W.findIn K (.ref D) "__getattribute__") (some (some (.builtin "BaseException.__getattribute__"))) && (He.eqO (PySem.W.findIn K (.ref D) "__getattr__") (some none) && (decide (PySem.W.subIn K (.ref D) (.type "BaseException") = some true) &&
  (PySem.W.hasDictIn K D && (He.eqO (PySem.W.findIn K (.ref D) "__class__") (some (some (.builtin "object.__class__"))) && (He.eqO (PySem.W.specialIn K (.builtin "object.__class__") "__get__") (some (some (.builtin "getset_descriptor.__get__"))) &&
  (decide (PySem.W.takesIn K (.builtin "object.__class__") = some true) && decide (PySem.W.mroIn K D (.type "object") = some true)))))))
theorem excB_ok {K : PySem.W.Frag} {D : Addr} (h : excB K D = true) : L2.ExcC K D := by
  unfold excB at h
  simp only [Bool.and_eq_true, decide_eq_true_eq] at h
  obtain ⟨h1, h2, h3, h4, h5, h6, h7, h8⟩ := h
  exact ⟨He.eqO_ok h1, He.eqO_ok h2, h3, h4, He.eqO_ok h5, He.eqO_ok h6, h7, h8⟩
def exB (xs : List Str) (K : PySem.W.Frag) : Bool := xs.all fun x => excB K (He.ga K x) && (decide (PySem.W.kitOne K (.ref (He.ga K x)) (.type "ValueError") = some true) && xs.all fun y => decide (PySem.W.kitOne K (.ref (He.ga K x)) (.ref (He.ga K y)) = some (decide (x = y))))
/-- the error classes, as the walk wants them -/
structure ErrF (K : PySem.W.Frag) (mg : Str → Option Value) (xs : List Str) (CL : Addr) : Prop where
  mgL : mg "LikeError" = some (.ref CL)
  ex : ∀ n ∈ xs, ∃ D, mg n = some (.ref D) ∧ L2.ExcC K D ∧ PySem.W.exmOne K (.ref D) (.ref CL) = some true ∧ PySem.W.kitOne K (.ref D) (.type "ValueError") = some true ∧ ∀ y ∈ xs, ∃ Cy, mg y = some (.ref Cy) ∧ PySem.W.kitOne K (.ref D) (.ref Cy) = some (decide (n = y))
theorem errF_of {K : PySem.W.Frag} {mg : Str → Option Value} {h : Heap} {xs : List Str} (X : K.In h) (G : h.Ns mainGlobals mg) (m : exB xs K = true) (hL : (He.Fa.glo "LikeError").ok K = true) (hg : ∀ n ∈ xs, (He.Fa.glo n).ok K = true) (hx : ∀ n ∈ xs, (He.Fa.exm n "LikeError" true).ok K = true) :
    ErrF K mg xs (He.ga K "LikeError") := by
  refine ⟨He.glo_ok X G hL, fun n hn => ?_⟩
  unfold exB at m
  have m1 := List.all_eq_true.mp m n hn
  simp only [Bool.and_eq_true, decide_eq_true_eq] at m1
  obtain ⟨a, b, c⟩ := m1
  exact ⟨_, He.glo_ok X G (hg n hn), excB_ok a, He.exm_ok (hx n hn), b, fun y hy => ⟨_, He.glo_ok X G (hg y hy), of_decide_eq_true (List.all_eq_true.mp c y hy)⟩⟩
theorem err_of {K : PySem.W.Frag} {mg : Str → Option Value} {h : Heap} {n : Str} (X : K.In h) (G : h.Ns mainGlobals mg) (hg : (He.Fa.glo n).ok K = true) (hx : (He.Fa.exc n).ok K = true) : ∃ C, Err K mg n C := by
  obtain ⟨a, b, c, d⟩ := He.exc_ok hx
  exact ⟨_, ⟨He.glo_ok X G hg, a, b, c, d⟩⟩
theorem units65 {k : Nat} {A : Around} (r : Room k A) : A.units + 65 < cLine := by
  have := r.un
  omega
def knOf (xs : List Str) (n : Str) : Bool := decide (n ∈ xs)
/-- the word of an error: its place among the flags -/
def wordOf (fs : List Str) (n : Str) : Int := match fs.findIdx? (fun y => decide (n = y)) with
  | some i => (i : Int)
  | none => -1
theorem eqv_bb (a b : Bool) : D.eqv (.bool a) (.bool b) = decide (a = b) := by cases a <;> cases b <;> simp [D.eqv, D.p, PyData.eqv]
theorem eqv_ii (a b : Int) : D.eqv (.int a) (.int b) = decide (a = b) := by
  simp only [D.eqv, D.p, PyData.eqv]
  by_cases h : a = b <;> simp [h]
mutual
/-- no dict within -/
def D.nod : D → Bool
  | .str x => PyData.strOk x
  | .tuple xs => D.nodL xs
  | .list xs => D.nodL xs
  | .fl xs => D.nodL xs
  | .dict _ => false
  | _ => true
def D.nodL : List D → Bool
  | [] => true
  | d :: ds => d.nod && D.nodL ds
end
mutual
theorem D.lay_p : ∀ d : D, d.nod = true → d.p.canLay0 = true
  | .none, _ => by simp [D.p, PyData.canLay0]
  | .bool _, _ => by simp [D.p, PyData.canLay0]
  | .int _, _ => by simp [D.p, PyData.canLay0]
  | .str _, h => by rw [D.p, PyData.canLay0]; exact h
  | .tuple xs, h => by rw [D.p, PyData.canLay0]; exact D.lay_pL xs (by simpa [D.nod] using h)
  | .list xs, h => by rw [D.p, PyData.canLay0]; exact D.lay_pL xs (by simpa [D.nod] using h)
  | .fl xs, h => by rw [D.p, PyData.canLay0]; exact D.lay_pL xs (by simpa [D.nod] using h)
  | .dict _, h => by simp [D.nod] at h
theorem D.lay_pL : ∀ ds : List D, D.nodL ds = true → PyData.canLayAll0 (D.pL ds) = true
  | [], _ => by simp [D.pL, PyData.canLayAll0]
  | d :: ds, h => by
    simp only [D.nodL, Bool.and_eq_true] at h
    simp [D.pL, PyData.canLayAll0, D.lay_p d h.1, D.lay_pL ds h.2]
end
theorem D.sh_of {d : D} (h : d.nod = true) (h2 : d.p.depth ≤ 64) : d.sh = true := by
  unfold D.sh SeqAt.shaped
  rw [D.lay_p d h, decide_eq_true h2]
  rfl
theorem depL_0 : ∀ ds : List D, (∀ d ∈ ds, d.p.depth = 0) → PyData.depthAll (D.pL ds) = 0
  | [], _ => by simp [D.pL, PyData.depthAll]
  | d :: ds, h => by simp [D.pL, PyData.depthAll, h d List.mem_cons_self, depL_0 ds fun x m => h x (List.mem_cons_of_mem _ m)]
theorem nodL_of : ∀ ds : List D, (∀ d ∈ ds, d.nod = true) → D.nodL ds = true
  | [], _ => by simp [D.nodL]
  | d :: ds, h => by simp [D.nodL, h d List.mem_cons_self, nodL_of ds fun x m => h x (List.mem_cons_of_mem _ m)]
theorem count_one {n : Str} : ∀ {fs : List Str}, fs.Nodup → n ∈ fs → fs.count n = 1
  | y :: r, nd, h => by
    obtain ⟨n1, n2⟩ := List.nodup_cons.mp nd
    rw [List.count_cons]
    rcases List.mem_cons.mp h with e | m
    · subst e
      rw [List.count_eq_zero_of_not_mem n1]
      simp
    · rw [count_one n2 m]
      have : ¬ y = n := fun z => n1 (z ▸ m)
      simp [this]
/-- the suite's flags, and its word -/
def wIsL : List Str → WA
  | [] => waNil
  | y :: r => waCons (wIsE 4 fun n => decide (n = y)) (wIsL r)
def wWord : WE := wIf (wB (w2 fEq (wLM fCount (wVar 5) (wC (.bool true))) (wC (.int 1)))) (wLM fIndex (wVar 5) (wC (.bool true))) (wNeg (wC (.int 1)))
def flD (n : Str) (fs : List Str) : List D := fs.map fun y => .bool (decide (n = y))
theorem wIsL_run {ρ : Rho} {n : Str} {q : List D → Rho → Prop} {E : EXT} (e : ρ[4]? = some (.ex n)) : ∀ (fs : List Str) (q : List D → Rho → Prop), q (flD n fs) ρ → wIsL fs ρ q E
  | [], q, h => h
  | y :: r, q, h => by
    unfold wIsL waCons wIsE
    rw [e]
    exact wIsL_run e (q := q) r _ h
theorem fl_count {n : Str} : ∀ {fs : List Str}, (flD n fs).countP (fun z => z.eqv (.bool true)) = fs.count n
  | [] => rfl
  | y :: r => by
    have ih := fl_count (n := n) (fs := r)
    unfold flD at ih ⊢
    rw [List.map_cons, List.countP_cons, ih, List.count_cons, eqv_bb]
    by_cases h : n = y
    · subst h; simp
    · have h' : ¬ y = n := fun z => h z.symm
      simp [h, h']
theorem fl_find {n : Str} : ∀ {fs : List Str}, (flD n fs).findIdx? (fun z => z.eqv (.bool true)) = fs.findIdx? fun y => decide (n = y)
  | [] => rfl
  | y :: r => by
    have ih := fl_find (n := n) (fs := r)
    unfold flD at ih ⊢
    rw [List.map_cons, List.findIdx?_cons, List.findIdx?_cons, ih, eqv_bb]
    simp
theorem shaped_fl (n : Str) (fs : List Str) : (D.list (flD n fs)).sh = true := by
  have key : ∀ d ∈ flD n fs, d.nod = true ∧ d.p.depth = 0 := fun d m => by
    obtain ⟨y, _, rfl⟩ := List.mem_map.mp m
    simp [D.nod, D.p, PyData.depth]
  refine D.sh_of (by rw [D.nod]; exact nodL_of _ fun d m => (key d m).1) ?_
  rw [D.p, PyData.depth, depL_0 _ fun d m => (key d m).2]
  decide
theorem wWord_run {ρ : Rho} {n : Str} {fs : List Str} {q : D → Rho → Prop} {E : EXT} (e : ρ[5]? = some (.ow (.list (flD n fs)))) (nd : fs.Nodup) (h : q (.int (wordOf fs n)) ρ) : wWord ρ q E := by
  have v5 : ∀ (k : D → Rho → Prop), k (.list (flD n fs)) ρ → wVar 5 ρ k E := fun k hk => by
    unfold wVar
    rw [e]
    exact hk
  have sb : (D.bool true).sh = true := D.sh_of rfl (by simp [D.p, PyData.depth])
  have si : ∀ i : Int, (D.int i).sh = true := fun i => D.sh_of rfl (by simp [D.p, PyData.depth])
  unfold wWord wIf wB w2
  show wVar 5 ρ _ E
  apply v5
  refine ⟨⟨shaped_fl n fs, sb⟩, si _, si _, ?_⟩
  rw [fl_count, eqv_ii]
  show (if decide ((fs.count n : Int) = 1) = true then _ else _)
  by_cases hm : n ∈ fs
  · have hc : fs.count n = 1 := count_one nd hm
    rw [hc, if_pos (by decide)]
    show wVar 5 ρ _ E
    apply v5
    refine ⟨⟨shaped_fl n fs, sb⟩, ?_⟩
    rw [fl_find]
    unfold wordOf at h
    cases hf : fs.findIdx? fun y => decide (n = y) with
    | none =>
      have := List.findIdx?_eq_none_iff.mp hf n hm
      simp at this
    | some j =>
      rw [hf] at h
      exact ⟨j, rfl, h⟩
  · have hc : fs.count n = 0 := List.count_eq_zero_of_not_mem hm
    rw [hc, if_neg (by decide)]
    unfold wordOf at h
    have hf : (fs.findIdx? fun y => decide (n = y)) = none := List.findIdx?_eq_none_iff.mpr fun x hx => by
      simp
      exact fun z => hm (z ▸ hx)
    rw [hf] at h
    exact h
theorem sem1 {fs : List Str} {n : Str} {d : D} (nd : fs.Nodup) (hl : fs.length ≤ sizeLine) : wsSeq (wsSetF 5 (wLst (wIsL fs))) (wsSetI 3 wWord) (rhoX d n) ⟨fun ρ => ρ.length = 6 ∧ ρ[1]? = some (.pr d) ∧ ρ[3]? = some (.ow (.int (wordOf fs n))), fun _ _ => False, fun _ => False, fun _ => False, fun _ _ => False⟩ := by
  refine wIsL_run (ρ := rhoX d n) (n := n) (q := fun _ _ => True) rfl fs _ ⟨by simp [flD]; exact hl, by show 5 < 6; decide, ?_⟩
  refine wWord_run (ρ := (rhoX d n).set 5 (.ow (.list (flD n fs)))) (n := n) (fs := fs) rfl nd ?_
  exact ⟨⟨by show 3 < 6; decide, rfl⟩, rfl, rfl, rfl⟩
theorem fl_app (n : Str) (fs gs : List Str) : flD n fs ++ flD n gs = flD n (fs ++ gs) := by simp [flD]
/-- the flags laid in two rows -/
theorem sem2 {fs gs : List Str} {n : Str} {d : D} (nd : (fs ++ gs).Nodup) (hl : (fs ++ gs).length ≤ sizeLine) : wsSeq (wsSetF 5 (wLst (wIsL fs))) (wsSeq (wsSet 5 (w2 fAdd (wVar 5) (wLst (wIsL gs)))) (wsSetI 3 wWord)) (rhoX d n) ⟨fun ρ => ρ.length = 6 ∧ ρ[1]? = some (.pr d) ∧ ρ[3]? = some (.ow (.int (wordOf (fs ++ gs) n))), fun _ _ => False, fun _ => False, fun _ => False, fun _ _ => False⟩ := by
  rw [List.length_append] at hl
  refine wIsL_run (ρ := rhoX d n) (n := n) (q := fun _ _ => True) rfl fs _ ⟨by simp [flD]; omega, by show 5 < 6; decide, ?_⟩
  refine wIsL_run (ρ := (rhoX d n).set 5 (.ow (.list (flD n fs)))) (n := n) (q := fun _ _ => True) rfl gs _ ⟨by simp [flD]; omega, ⟨by simp [flD]; omega, ⟨⟨by show 5 < 6; decide, ?_⟩, ?_⟩⟩⟩
  · rw [fl_app]
    have : ∀ l : List Str, immL (flD n l) = true := fun l => by
      unfold flD
      induction l with
      | nil => rfl
      | cons a r ih => rw [List.map_cons]; simpa [immL, imm] using ih
    simp [flat, this]
  · rw [fl_app]
    refine wWord_run (ρ := ((rhoX d n).set 5 (.ow (.list (flD n fs)))).set 5 (.ow (.list (flD n (fs ++ gs))))) (n := n) (fs := fs ++ gs) rfl nd ?_
    exact ⟨⟨by show 3 < 6; decide, rfl⟩, rfl, rfl, rfl⟩
end L3

namespace L3
open PySem PySem.Spec PyProof.Rows L2

/-! ### a list's item taken out; lists lengthened -/
theorem RpL.erase {K : PySem.W.Frag} {H : Hp} : ∀ {ds : List D} {vs : List V} {F : List Addr} {j : Nat}, RpL K H ds vs F → ∃ F', RpL K H (ds.eraseIdx j) (vs.eraseIdx j) F' ∧ List.Sublist F' F
  | _, _, _, _, .nil => ⟨[], .nil, .refl _⟩
  | _, _, _, 0, .cons h r => ⟨_, r, by simp⟩
  | _, _, _, j + 1, .cons h r => by
    obtain ⟨F', h1, h2⟩ := r.erase (j := j)
    exact ⟨_, .cons h h1, List.Sublist.append (.refl _) h2⟩
def wPopAt (i : Nat) (we : WE) : WE := fun ρ q E => isLst ρ i ∧ we ρ (fun k ρ1 => withList ρ1 i fun s xs => match k with
  | .int k => (-(2 ^ 63) ≤ k ∧ k < 2 ^ 63) ∧ ∃ j y, seqIndex? k xs.length = some j ∧ xs[j]? = some y ∧ imm y = true ∧ q y (ρ1.set i (s.put (.list (xs.eraseIdx j))))
  | _ => False) E
def wPop (i : Nat) : WE := fun ρ q E => withList ρ i fun s xs => ∃ y, xs.getLast? = some y ∧ imm y = true ∧ q y (ρ.set i (s.put (.list xs.dropLast)))
def wsExtend (i : Nat) (wa : WE) : WS := fun ρ W => isLst ρ i ∧ wa ρ (fun y ρ1 => withList ρ1 i fun s xs => match y with
  | .list ys => (immL ys = true ∧ xs.length + ys.length ≤ sizeLine) ∧ W.nx (ρ1.set i (s.put (.list (xs ++ ys))))
  | _ => False) W.ex
section
variable {C : FC} {e k : Expr} {a0 a1 m1 : List Nat} {wa : WE} {pos p ap cp : Pos} {i : Nat} {x : Str}
theorem je_popAt (hN : C.X.N[i]? = some x) (hv : Vis C.X.env.scope x) (he : JE C e a0 a1 m1 wa)
    (hd : (x == ("__debug__" : Str)) = false := by decide) (hcd : (x == ("__classdict__" : Str)) = false := by decide)
    (hbase : attributeBase (.Name x p) "pop" C.X.env (eval (.Name x p) C.X.env) = eval (.Name x p) C.X.env := by rfl) (hline : (ap.endLine == cp.line) = true := by rfl)
    (hfew : ((backTo cp (starEach [e] C.X.env)).all (fun x => !x.1) && (backToKw cp (keywordEach [] C.X.env)).all (fun x => x.1.isSome) && decide ([e].length + ([] : List Keyword).length + (if ([] : List Keyword).isEmpty then 0 else 1) < 30)) = true := by rfl)
    (hst : starEach [e] C.X.env = (false, eval e C.X.env) :: starEach [] C.X.env := by rfl) (hpl : (backTo cp (starEach ([] : List Expr) C.X.env)).any (·.1) = false := by rfl) :
    JE C (.Call (.Attribute (.Name x p) "pop" ap) [e] [] cp) [] [] (m1 ++ [i]) (wPopAt i wa) := by
  refine ⟨PE.imp (pe_bm PySem.F.plainAttrs_list PySem.F.slot_list_pop PySem.F.type_list_pop mt_popAt (pe_var hN hv hd hcd) (pa_cons he.pe pa_nil hst) hbase hfew hline hst hpl) ?_⟩
  rintro σ H Q ⟨ρ, Fs, q, s, ⟨h0, hw⟩, kk⟩
  obtain ⟨a0, vs0, hvi, ha0⟩ := isLst_ok s h0
  refine ⟨.ref a0, hvi, .inl ⟨rfl, _, SqL.of ha0⟩, ρ, Fs, _, s, hw, fun y ρ1 vy Fy H1 Fs1 h1 s1 t1 r1 k1 => ?_⟩
  obtain ⟨t, xs, a, vs, F, e1, o, hv1, hF, ha, rx, h2⟩ := withList_ok s1 h1
  rw [hvi] at hv1
  cases hv1
  cases r1 <;> first | exact h2.elim | skip
  obtain ⟨⟨g1, g2⟩, j, z, hj, hz, hi, hq⟩ := h2
  obtain ⟨u, G, hu, ru, _⟩ := rx.getD hz
  have := ru.imm0 hi
  subst this
  refine ⟨_, vs, _, j, u, rfl, rfl, ha, g1, g2, by rw [rx.len]; exact hj, hu, ?_⟩
  obtain ⟨F', rr, sub⟩ := rx.erase (j := j)
  obtain ⟨s2, t2⟩ := own_write s1 e1 o hvi hF ha rr sub
  have fw : Fr (fun b => b = a0) H1 (upd H1 a0 (.lst (vs.eraseIdx j))) := Fr.write ha trivial rfl
  exact kk z _ u [] _ _ hq s2 (t1.trans t2) (ru.frm fw fun _ m => (List.not_mem_nil m).elim) .nil
theorem je_pop (hN : C.X.N[i]? = some x) (hv : Vis C.X.env.scope x)
    (hd : (x == ("__debug__" : Str)) = false := by decide) (hcd : (x == ("__classdict__" : Str)) = false := by decide)
    (hbase : attributeBase (.Name x p) "pop" C.X.env (eval (.Name x p) C.X.env) = eval (.Name x p) C.X.env := by rfl) (hline : (ap.endLine == cp.line) = true := by rfl) :
    JE C (.Call (.Attribute (.Name x p) "pop" ap) [] [] cp) [] [] [i] (wPop i) := by
  refine ⟨PE.imp (pe_bm0 PySem.F.plainAttrs_list PySem.F.slot_list_pop PySem.F.type_list_pop mt_pop (pe_var hN hv hd hcd) hbase hline) ?_⟩
  rintro σ H Q ⟨ρ, Fs, q, s, hw, kk⟩
  obtain ⟨t, xs, a, vs, F, e1, o, hvi, hF, ha, rx, z, hz, hi, hq⟩ := withList_ok s hw
  have hz' : xs[xs.length - 1]? = some z := by rw [← List.getLast?_eq_getElem?]; exact hz
  obtain ⟨u, G, hu, ru, _⟩ := rx.getD hz'
  have := ru.imm0 hi
  subst this
  refine ⟨.ref a, hvi, .inl ⟨rfl, _, SqL.of ha⟩, _, vs, u, rfl, rfl, ha, by rw [rx.len]; exact hu, ?_⟩
  obtain ⟨F', rr, sub⟩ := rx.erase (j := xs.length - 1)
  have e2 : xs.eraseIdx (xs.length - 1) = xs.dropLast := by rw [List.eraseIdx_length_sub_one]
  have e3 : vs.eraseIdx (xs.length - 1) = vs.dropLast := by rw [← rx.len, List.eraseIdx_length_sub_one]
  rw [e2, e3] at rr
  obtain ⟨s2, t2⟩ := own_write s e1 o hvi hF ha rr sub
  have fw : Fr (fun b => b = a) H (upd H a (.lst vs.dropLast)) := Fr.write ha trivial rfl
  exact kk z _ u [] _ _ hq s2 t2 (ru.frm fw fun _ m => (List.not_mem_nil m).elim) .nil
theorem js_extend (hN : C.X.N[i]? = some x) (hv : Vis C.X.env.scope x) (he : JE C e a0 a1 m1 wa)
    (hd : (x == ("__debug__" : Str)) = false := by decide) (hcd : (x == ("__classdict__" : Str)) = false := by decide)
    (hbase : attributeBase (.Name x p) "extend" C.X.env (eval (.Name x p) C.X.env) = eval (.Name x p) C.X.env := by rfl) (hline : (ap.endLine == cp.line) = true := by rfl)
    (hfew : ((backTo cp (starEach [e] C.X.env)).all (fun x => !x.1) && (backToKw cp (keywordEach [] C.X.env)).all (fun x => x.1.isSome) && decide ([e].length + ([] : List Keyword).length + (if ([] : List Keyword).isEmpty then 0 else 1) < 30)) = true := by rfl)
    (hst : starEach [e] C.X.env = (false, eval e C.X.env) :: starEach [] C.X.env := by rfl) (hpl : (backTo cp (starEach [] C.X.env)).any (·.1) = false := by rfl)
    (hs : swapsWith (.Call (.Attribute (.Name x p) "extend" ap) [e] [] cp) none pos.line C.X.env = pure false := by rfl) :
    JS C (.Expr (.Call (.Attribute (.Name x p) "extend" ap) [e] [] cp) pos) (m1 ++ [i]) (wsExtend i wa) := by
  refine ⟨PS.imp (ps_expr (pe_bm PySem.F.plainAttrs_list PySem.F.slot_list_extend PySem.F.type_list_extend mt_extend (pe_var hN hv hd hcd) (pa_cons he.pe pa_nil hst) hbase hfew hline hst hpl) hs) ?_⟩
  rintro De σ H ⟨ρ, Fs, W, s, ⟨h0, hw⟩, ex, kk⟩
  rw [ex] at hw
  obtain ⟨a0, vs0, hvi, ha0⟩ := isLst_ok s h0
  refine ⟨.ref a0, hvi, .inl ⟨rfl, _, SqL.of ha0⟩, ρ, Fs, _, s, hw, fun y ρ1 vy Fy H1 Fs1 h1 s1 t1 r1 k1 => ?_⟩
  obtain ⟨t, xs, a, vs, F, e1, o, hv1, hF, ha, rx, h2⟩ := withList_ok s1 h1
  rw [hvi] at hv1
  cases hv1
  cases y <;> first | exact h2.elim | skip
  rename_i ys
  obtain ⟨⟨him, hz⟩, hn⟩ := h2
  obtain ⟨b, ws, G, rfl, rfl, hb, ry⟩ := rp_lst r1
  have hG := ry.imm0 him
  subst hG
  refine ⟨_, b, vs, ws, rfl, rfl, ha, hb, by rw [rx.len, ry.len]; exact hz, ?_⟩
  have rr := rx.app ry
  rw [List.append_nil] at rr
  obtain ⟨s2, t2⟩ := own_write s1 e1 o hvi hF ha rr (.refl _)
  exact kk.nx _ _ σ _ hn s2 (t1.trans t2)
end
end L3

namespace L3
open PySem PySem.Spec PyProof.Rows L2

/-! ### in, not in: a list or a tuple -/
def rInT (K : PySem.W.Frag) (neg : Bool) : R2 := fun x y H Q => ∃ d ds, Dp K H x d ∧ Dp K H y (.tuple ds) ∧ SeqAt.shaped d = true ∧ SeqAt.shaped (.tuple ds) = true ∧ Q (.bl (if neg = true then !(ds.any fun z => PyData.eqv z d) else ds.any fun z => PyData.eqv z d)) H
theorem room_inT {A : Around} {d : PyData} {ds : List PyData} (sd : SeqAt.shaped d = true) (hu : A.units + 65 < cLine) : A.units + 1 + min (PyData.depthAll ds) d.depth < cLine := by
  have := SeqAt.depth_of_shaped sd
  have := Nat.min_le_right (PyData.depthAll ds) d.depth
  omega
theorem op_inT {X : Cx} (hu : X.A.units + 65 < cLine) : OpR X (compareOp .In) (rInT X.K false) := by
  rintro pins s σ H x y v u Q I rx ry ⟨d, ds, hd, he, sd, se, q⟩
  obtain ⟨as, r1⟩ := Dp.reads I d x v hd rx
  obtain ⟨bs, r2⟩ := Dp.reads I (.tuple ds) y u he ry
  exact SeqAt.in_tuple_reads r2 r1 (by have := SeqAt.canLay_of_shaped se; simpa [PyData.canLay0] using this) (SeqAt.canLay_of_shaped sd) (room_inT sd hu) ⟨.bl _, H, I, rfl, q⟩
theorem op_notInT {X : Cx} (hu : X.A.units + 65 < cLine) : OpR X (compareOp .NotIn) (rInT X.K true) := by
  rintro pins s σ H x y v u Q I rx ry ⟨d, ds, hd, he, sd, se, q⟩
  obtain ⟨as, r1⟩ := Dp.reads I d x v hd rx
  obtain ⟨bs, r2⟩ := Dp.reads I (.tuple ds) y u he ry
  exact SeqAt.notIn_tuple_reads r2 r1 (by have := SeqAt.canLay_of_shaped se; simpa [PyData.canLay0] using this) (SeqAt.canLay_of_shaped sd) (room_inT sd hu) ⟨.bl _, H, I, rfl, q⟩
def inD (d : D) (ds : List D) : Bool := ds.any fun z => z.eqv d
def fIn : F2 := fun x y q => x.sh = true ∧ y.sh = true ∧ match y with
  | .list ds => q (.bool (inD x ds))
  | .fl ds => q (.bool (inD x ds))
  | .tuple ds => q (.bool (inD x ds))
  | _ => False
def fNotIn : F2 := fun x y q => x.sh = true ∧ y.sh = true ∧ match y with
  | .list ds => q (.bool (!inD x ds))
  | .fl ds => q (.bool (!inD x ds))
  | .tuple ds => q (.bool (!inD x ds))
  | _ => False
theorem inD_p (d : D) (ds : List D) : ((D.pL ds).any fun z => PyData.eqv z d.p) = inD d ds := by
  rw [D.pL_map, List.any_map]
  rfl
theorem op_in2 {X : Cx} (hu : X.A.units + 65 < cLine) : OpR X (compareOp .In) (fun x y H Q => rInD X.K x y H Q ∨ rInT X.K false x y H Q) := (op_inD hu).or (op_inT hu)
theorem op_notIn2 {X : Cx} (hu : X.A.units + 65 < cLine) : OpR X (compareOp .NotIn) (fun x y H Q => rNotInD X.K x y H Q ∨ rInT X.K true x y H Q) := (op_notInD hu).or (op_notInT hu)
theorem op2_in {K : PySem.W.Frag} : Op2 K (fun x y H Q => rInD K x y H Q ∨ rInT K false x y H Q) fIn := fun x y v u F G H q Q rx ry hf k => by
  obtain ⟨h1, h2, h3⟩ := hf
  have ry' := ry.dp
  cases y with
  | list ds => rw [D.p] at ry'; exact .inl ⟨x.p, D.pL ds, rx.dp, ry', h1, by unfold D.sh at h2; rwa [D.p] at h2, by rw [inD_p]; exact k _ _ [] H h3 .refl (fun _ h => h) (.bl _) .nil⟩
  | fl ds => rw [D.p] at ry'; exact .inl ⟨x.p, D.pL ds, rx.dp, ry', h1, by unfold D.sh at h2; rwa [D.p] at h2, by rw [inD_p]; exact k _ _ [] H h3 .refl (fun _ h => h) (.bl _) .nil⟩
  | tuple ds => rw [D.p] at ry'; exact .inr ⟨x.p, D.pL ds, rx.dp, ry', h1, by unfold D.sh at h2; rwa [D.p] at h2, by rw [inD_p]; exact k _ _ [] H h3 .refl (fun _ h => h) (.bl _) .nil⟩
  | _ => exact h3.elim
theorem op2_notIn {K : PySem.W.Frag} : Op2 K (fun x y H Q => rNotInD K x y H Q ∨ rInT K true x y H Q) fNotIn := fun x y v u F G H q Q rx ry hf k => by
  obtain ⟨h1, h2, h3⟩ := hf
  have ry' := ry.dp
  cases y with
  | list ds => rw [D.p] at ry'; exact .inl ⟨x.p, D.pL ds, rx.dp, ry', h1, by unfold D.sh at h2; rwa [D.p] at h2, by rw [inD_p]; exact k _ _ [] H h3 .refl (fun _ h => h) (.bl _) .nil⟩
  | fl ds => rw [D.p] at ry'; exact .inl ⟨x.p, D.pL ds, rx.dp, ry', h1, by unfold D.sh at h2; rwa [D.p] at h2, by rw [inD_p]; exact k _ _ [] H h3 .refl (fun _ h => h) (.bl _) .nil⟩
  | tuple ds => rw [D.p] at ry'; exact .inr ⟨x.p, D.pL ds, rx.dp, ry', h1, by unfold D.sh at h2; rwa [D.p] at h2, by rw [inD_p]; exact k _ _ [] H h3 .refl (fun _ h => h) (.bl _) .nil⟩
  | _ => exact h3.elim

/-! ### zip of two lists or two tuples -/
def zipD (xs ys : List D) : List D := (xs.zip ys).map fun p => .tuple [p.1, p.2]
theorem zipD_get {xs ys : List D} {i : Nat} {d : D} (e : (zipD xs ys)[i]? = some d) : ∃ x y, xs[i]? = some x ∧ ys[i]? = some y ∧ d = .tuple [x, y] := by
  unfold zipD at e
  rw [List.getElem?_map] at e
  cases h : (xs.zip ys)[i]? with
  | none => rw [h] at e; cases e
  | some p =>
    rw [h] at e
    obtain ⟨h1, h2⟩ := List.getElem?_zip_eq_some.mp h
    exact ⟨p.1, p.2, h1, h2, (Option.some.inj e).symm⟩
theorem zipD_len (xs ys : List D) : (zipD xs ys).length = min xs.length ys.length := by unfold zipD; simp
theorem pairR {K : PySem.W.Frag} {H : Hp} {T : Addr} {x y : D} {v u : V} {F G : List Addr} (n : H T = none) (r : Rp K H x v F) (r' : Rp K H y u G) : Rp K (upd H T (.tup [v, u])) (.tuple [x, y]) (.ref T) (F ++ G) :=
  fresh_tup n (.cons r (.one r'))
/-- a list that stands: tracked, with its place in the footprint, or one that nothing changes -/
def LsA (K : PySem.W.Frag) (H : Hp) (a : Addr) (vs : List V) (F : List Addr) : Prop := (H a = some (.lst vs) ∧ a ∈ F) ∨ SqR K H a vs
theorem LsA.sq {K : PySem.W.Frag} {H : Hp} {a : Addr} {vs : List V} {F : List Addr} (h : LsA K H a vs F) : SqL K H a vs := h.elim (fun h => SqL.of h.1) fun h => h.sq
theorem LsA.frm {K : PySem.W.Frag} {H H' : Hp} {A : Addr → Prop} {a : Addr} {vs : List V} {F : List Addr} (h : LsA K H a vs F) (f : Fr A H H') (n : ∀ b ∈ F, ¬ A b) : LsA K H' a vs F :=
  h.elim (fun h => .inl ⟨f _ _ h.1 (fun ps => .inr trivial) (fun z => absurd z (n _ h.2)), h.2⟩) fun h => .inr (sqR_frm h f)
theorem walk_zipS {K : PySem.W.Frag} {a b : Addr} {ds es : List D} {vs us : List V} {F G F0 G0 : List Addr} (hF : ∀ c ∈ F0, c ∈ F) (hG : ∀ c ∈ G0, c ∈ G) : Walk K (Itz K a b) (zipD ds es) (F ++ G) (fun H => (LsA K H a vs F ∧ RpL K H ds vs F0) ∧ (LsA K H b us G ∧ RpL K H es us G0)) := by
  refine ⟨fun i d H hs hd => ?_, fun i H hs hi => ⟨vs, us, hs.1.1.sq, hs.2.1.sq, ?_⟩, fun H H' A hs f n => ⟨⟨hs.1.1.frm f fun c m => n c (List.mem_append_left _ m), hs.1.2.frm f fun c m => n c (List.mem_append_left _ (hF c m))⟩, hs.2.1.frm f fun c m => n c (List.mem_append_right _ m), hs.2.2.frm f fun c m => n c (List.mem_append_right _ (hG c m))⟩⟩
  · obtain ⟨x, y, hx, hy, ed⟩ := zipD_get hd
    subst ed
    obtain ⟨v, G1, e1, e2, e3⟩ := hs.1.2.getD hx
    obtain ⟨u, G2, f1, f2, f3⟩ := hs.2.2.getD hy
    refine ⟨⟨vs, us, v, u, hs.1.1.sq, hs.2.1.sq, e1, f1⟩, fun z H' ⟨T, p, q, ey, hT, eH, hp, hq⟩ => ?_⟩
    subst ey eH
    have := hp vs hs.1.1.sq
    rw [e1] at this
    cases this
    have := hq us hs.2.1.sq
    rw [f1] at this
    cases this
    refine ⟨Fr.new hT, upd_dom, _, pairR hT e2 f2, fun c m => ?_⟩
    rcases List.mem_append.mp m with m | m
    · exact List.mem_append_left _ (hF c (e3 c m))
    · exact List.mem_append_right _ (hG c (f3 c m))
  · rw [hs.1.2.len, hs.2.2.len]
    rw [zipD_len] at hi
    omega
theorem walk_zipT {K : PySem.W.Frag} {a b : Addr} {ds es : List D} {vs us : List V} {F G : List Addr} : Walk K (RZ.ItzT K a b) (zipD ds es) (F ++ G) (fun H => (SqT K H a vs ∧ RpL K H ds vs F) ∧ (SqT K H b us ∧ RpL K H es us G)) := by
  refine ⟨fun i d H hs hd => ?_, fun i H hs hi => ⟨vs, us, hs.1.1, hs.2.1, ?_⟩, fun H H' A hs f n => ⟨⟨sqT_frm hs.1.1 f, ?_⟩, sqT_frm hs.2.1 f, ?_⟩⟩
  · obtain ⟨x, y, hx, hy, ed⟩ := zipD_get hd
    subst ed
    obtain ⟨v, G1, e1, e2, e3⟩ := hs.1.2.getD hx
    obtain ⟨u, G2, f1, f2, f3⟩ := hs.2.2.getD hy
    refine ⟨⟨vs, us, v, u, hs.1.1, hs.2.1, e1, f1⟩, fun z H' ⟨T, p, q, ey, hT, eH, hp, hq⟩ => ?_⟩
    subst ey eH
    have := hp vs hs.1.1
    rw [e1] at this
    cases this
    have := hq us hs.2.1
    rw [f1] at this
    cases this
    refine ⟨Fr.new hT, upd_dom, _, pairR hT e2 f2, fun c m => ?_⟩
    rcases List.mem_append.mp m with m | m
    · exact List.mem_append_left _ (e3 c m)
    · exact List.mem_append_right _ (f3 c m)
  · rw [hs.1.2.len, hs.2.2.len]
    rw [zipD_len] at hi
    omega
  · exact hs.1.2.frm f fun c m => n c (List.mem_append_left _ m)
  · exact hs.2.2.frm f fun c m => n c (List.mem_append_right _ m)
def wiZip (wa wb : WE) : WI := fun ρ q E => wa ρ (fun x ρ1 => wb ρ1 (fun y ρ2 => match x, y with
  | .list xs, .list ys => q (zipD xs ys) ρ2
  | .list xs, .fl ys => q (zipD xs ys) ρ2
  | .fl xs, .list ys => q (zipD xs ys) ρ2
  | .fl xs, .fl ys => q (zipD xs ys) ρ2
  | .tuple xs, .tuple ys => q (zipD xs ys) ρ2
  | _, _ => False) E) E
theorem ji_zip {C : FC} {elts : List Expr} {kk : Nat} {tpos p pos : Pos} {e e2 : Expr} {a0 a1 m1 b0 b1 m2 : List Nat} {wa wb : WE} (hg : Gl C.X "zip") (hm : C.X.mg "zip" = none) (h : JE C e a0 a1 m1 wa) (h' : JE C e2 b0 b1 m2 wb) (dd : dj (a0 ++ a1) m2 = true := by decide)
    (hs : starEach [e, e2] C.X.env = (false, eval e C.X.env) :: starEach [e2] C.X.env := by rfl) (hs2 : starEach [e2] C.X.env = (false, eval e2 C.X.env) :: starEach [] C.X.env := by rfl) (hpl : (backTo pos (starEach [e2] C.X.env)).any (·.1) = false := by rfl) :
    JI C (.Tuple elts kk tpos) (.Call (.Name "zip" p) [e, e2] [] pos) ((a0 ++ a1) ++ (b0 ++ b1)) (m1 ++ m2) (wiZip wa wb) := by
  refine ⟨PI.imp (RZ.pi_zipA hg hm (pa_cons h.pe (pa_cons h'.pe pa_nil hs2) hs) hs hpl) ?_⟩
  rintro σ H R ⟨ρ, Fs, q, s, hw, k⟩
  refine ⟨ρ, Fs, _, s, hw, fun x ρ1 v F H1 Fs1 h1 s1 t1 r1 k1 => ⟨ρ1, Fs1, _, s1, h1, fun y ρ2 u G H2 Fs2 h2 s2 t2 r2 k2 => ?_⟩⟩
  have al2 := res_alias r2 k2
  obtain ⟨r1', al1⟩ := keep2 s1 t2 r1 k1 (dj_ok dd)
  have al : ∀ c ∈ F ++ G, (∃ o, H2 c = some o) ∧ ((∀ i, c ∉ Fs2 i) ∨ ∃ i ∈ (a0 ++ a1) ++ (b0 ++ b1), c ∈ Fs2 i) := fun c m => by
    rcases List.mem_append.mp m with m | m
    · exact ⟨(r1'.trk c m).imp' _ fun _ h => h, (al1 c m).imp (fun z => z.2) fun ⟨i, hi, z⟩ => ⟨i, List.mem_append_left _ hi, z⟩⟩
    · exact ⟨(al2 c m).1, (al2 c m).2.imp id fun ⟨i, hi, z⟩ => ⟨i, List.mem_append_right _ hi, z⟩⟩
  show ∃ a b xs ys, [v, u] = [V.ref a, V.ref b] ∧ _
  cases r1' <;> first | exact h2.elim | skip
  · rename_i a vs ds hl r
    cases r2 <;> first | exact h2.elim | skip
    rename_i b us es hl2 r2
    exact ⟨a, b, vs, us, rfl, .inr ⟨hl, hl2, k _ ρ2 _ _ _ H2 Fs2 h2 s2 (t1.trans t2) walk_zipT ⟨⟨hl, r⟩, hl2, r2⟩ al⟩⟩
  · rename_i a vs ds F hl r
    cases r2 <;> first | exact h2.elim | skip
    · rename_i b us es G hl2 r2
      exact ⟨a, b, vs, us, rfl, .inl ⟨SqL.of hl, SqL.of hl2, k _ ρ2 _ _ _ H2 Fs2 h2 s2 (t1.trans t2) (walk_zipS (fun c m => List.mem_cons_of_mem _ m) fun c m => List.mem_cons_of_mem _ m) ⟨⟨.inl ⟨hl, List.mem_cons_self⟩, r⟩, .inl ⟨hl2, List.mem_cons_self⟩, r2⟩ al⟩⟩
    · rename_i b us es hl2 r2
      exact ⟨a, b, vs, us, rfl, .inl ⟨SqL.of hl, hl2.sq, k _ ρ2 _ _ _ H2 Fs2 h2 s2 (t1.trans t2) (walk_zipS (fun c m => List.mem_cons_of_mem _ m) fun c m => m) ⟨⟨.inl ⟨hl, List.mem_cons_self⟩, r⟩, .inr hl2, r2⟩ al⟩⟩
  · rename_i a vs ds hl r
    cases r2 <;> first | exact h2.elim | skip
    · rename_i b us es G hl2 r2
      exact ⟨a, b, vs, us, rfl, .inl ⟨hl.sq, SqL.of hl2, k _ ρ2 _ _ _ H2 Fs2 h2 s2 (t1.trans t2) (walk_zipS (fun c m => m) fun c m => List.mem_cons_of_mem _ m) ⟨⟨.inr hl, r⟩, .inl ⟨hl2, List.mem_cons_self⟩, r2⟩ al⟩⟩
    · rename_i b us es hl2 r2
      exact ⟨a, b, vs, us, rfl, .inl ⟨hl.sq, hl2.sq, k _ ρ2 _ _ _ H2 Fs2 h2 s2 (t1.trans t2) (walk_zipS (fun c m => m) fun c m => m) ⟨⟨.inr hl, r⟩, .inr hl2, r2⟩ al⟩⟩
end L3


/-! ### sorted of a tuple of ints -/
namespace L3S
open PySem PyProof.Rows SrtO
section
variable {prog : Program} {w : World} {A : Around} {E : Value → Shared → Prop} {s : Shared}
/-- the heap with the tuple's items laid in a new list -/
abbrev laidH (h : Heap) (vs : List Value) : Heap := (h.push (seqObj "list" #[] 0)).update h.objs.size (Obj.mapSeq (· ++ vs.toArray))
theorem collect_tup {l : Addr} {vs : List Value} {Q : List Value → Shared → Prop} (hl : s.heap.IsTuple l vs.toArray) (hz : vs.length ≤ sizeLine) (h : Q vs { s with heap := laidH s.heap vs }) :
    wpAny (model prog w) A (collect (.ref l)) Q E s := by
  obtain ⟨o, ho, hc, n, hd⟩ := id hl
  have h0 : (s.heap.push (seqObj "list" #[] 0)).get? s.heap.objs.size = some (seqObj "list" #[] 0) := Heap.get?_push_size _ rfl
  have hl' : (s.heap.push (seqObj "list" #[] 0)).get? l = some o := Heap.get?_push_of_some _ ho
  unfold collect
  refine wpAny_bind (wpAny_runValue (codeAny_builtin entry_proto_collect' (?_ : wpAny _ _ (newList [] >>= fun l0 => again (.builtin "list.__iadd__" ⟨[l0, .ref l], []⟩)) _ _ s)))
  refine wpAny_bind (wpAny_newList (wpAny_pure ⟨Code.quiet_builtin _ (by decide +kernel), codeAny_builtin entry_list_iadd' (?_ : wpAny _ _ (Builtin.List.listExtendWith (.ref s.heap.objs.size) (.ref l) (.ref s.heap.objs.size)) _ _ { s with heap := s.heap.push (seqObj "list" #[] 0) })⟩))
  unfold Builtin.List.listExtendWith
  refine wpAny_bind (wpAny_typeOf (T := "tuple") ⟨o, hl', hc⟩ ?_)
  rw [if_pos (by rw [show (Value.type "tuple" == Value.type "tuple") = true from rfl, Bool.or_true])]
  refine wpAny_bind (listItems_at hl' hd (wpAny_bind (listItems_at (n := 0) h0 rfl ?_)))
  rw [if_neg (by simp)]
  refine wpAny_bind (listUpdate_at (n := 0) h0 rfl (wpAny_pure ?_) (Nat.zero_le _) (by rw [Array.size_append, List.size_toArray]; show 0 + vs.length ≤ _; omega))
  show wpAny (model prog w) A (load s.heap.objs.size >>= fun o => match o.data with | .seq xs _ => pure xs.toList | _ => unsupported "internal:collect") Q E { s with heap := laidH s.heap vs }
  refine wpAny_bind (wpAny_load (get?_update_seq h0 _) ?_)
  show wpAny _ _ (pure (#[] ++ vs.toArray : Array Value).toList) Q E _
  rw [show (#[] ++ vs.toArray : Array Value).toList = vs by simp]
  exact wpAny_pure h
theorem sorted_tup {l : Addr} {vs : List Value} {ltv : Value → Value → Bool} {Q : Value → Shared → Prop} (O : Swo ltv) (hl : s.heap.IsTuple l vs.toArray) (hz : vs.length ≤ sizeLine)
    (hS : 2 ≤ vs.length → ∀ (h₁ : Heap) (a : Addr), h₁.get? a = some (seqObj "list" vs.toArray 0) → (∀ b o, s.heap.get? b = some o → b ≠ a ∧ h₁.get? b = some o) → SortableO prog w A.in1.in1 { s with heap := h₁ } a vs ltv)
    (h : ∀ out : List Value, Srtd ltv out → Stb ltv out vs → Q (.ref (s.heap.objs.size + 1)) { s with heap := sortedAll s.heap vs out.toArray }) : wpAny (model prog w) A (call (.builtin "sorted") [.ref l]) Q E s := by
  have hsz : (laidH s.heap vs).objs.size = s.heap.objs.size + 1 := by rw [Heap.size_update, size_push']
  have hL : ((laidH s.heap vs).push (seqObj "list" vs.toArray 0)).get? (s.heap.objs.size + 1) = some (seqObj "list" vs.toArray 0) := hsz ▸ Heap.get?_push_size _ rfl
  have keep : ∀ b o, s.heap.get? b = some o → b ≠ s.heap.objs.size + 1 ∧ ((laidH s.heap vs).push (seqObj "list" vs.toArray 0)).get? b = some o := fun b o q => by
    have lt := Heap.lt_size q
    exact ⟨Nat.ne_of_lt (Nat.lt_succ_of_lt lt), Heap.get?_push_of_some _ (by rw [Heap.get?_update_ne _ _ _ _ (Nat.ne_of_lt lt)]; exact Heap.get?_push_of_some _ q)⟩
  refine Calls.call_function_entry kind_sorted plain_sorted entry_sorted (args_sorted1 _) ?_
  unfold Builtin.«sorted»
  refine wpAny_bind (m := checkCount "sorted" 1 1 _) (wpAny_pure (wpAny_bind (collect_tup hl hz (wpAny_bind (wpAny_newList ?_ hz)))))
  show wpAny _ _ _ _ _ { s with heap := (laidH s.heap vs).push (seqObj "list" vs.toArray 0) }
  rw [hsz]
  exact wpAny_bind (wpAny_holding (wpAny_call_entry slot_list_sort ⟨_, hL, rfl⟩ entry_list_sort (list_sort_ord O hL hz (fun h2 => hS h2 _ _ hL keep) fun out hs hb => ⟨_, rfl, wpAny_pure ⟨_, rfl, h out hs hb⟩⟩) (args_list_sort _)))
end
end L3S
namespace L3
open PySem PySem.Spec PyProof.Rows L2
def rSortTI (K : PySem.W.Frag) : List V → Hp → VK → Prop := fun vs H Q => ∃ (a : Addr) (ns : List Int), vs = [V.ref a] ∧ SqT K H a (ns.map V.int) ∧ ∀ (ms : List Int) (p : Addr), ms.Perm ns → ms.Pairwise (· ≤ ·) → H p = none → Q (.ref p) (upd H p (.lst (ms.map V.int)))
theorem cr_sortTI {X : Cx} : CallR X (.builtin "sorted") (rSortTI X.K) := by
  rintro pins s σ H vs us Q I r ⟨a, ns, rfl, hs, q⟩
  obtain ⟨its, rv, hl, hz⟩ := I.tuple hs
  rw [Vals.ref1 r]
  have hi := rv.ints
  have hln : its.length ≤ sizeLine := by rw [← rv.length]; exact hz
  refine L3S.sorted_tup SrtO.swo_int hl hln (fun h2 h₁ a' _ _ => SrtO.ints_sortable hi h2) fun out h1 h2 => ?_
  obtain ⟨k1, k2, k3⟩ := SrtO.ints_out hi h1 h2
  obtain ⟨ep, he'⟩ := PyProof.Rows.sortedAll_at s.heap its out.toArray
  have hlen : ((out.map SrtO.iv).map V.int).length ≤ sizeLine := by rw [List.length_map, k2.length_eq]; rwa [List.length_map] at hz
  exact ⟨.ref _, upd H (s.heap.objs.size + 1) (.lst ((out.map SrtO.iv).map V.int)), I.laid (t' := s.toks) (fun _ _ => PyProof.Rows.sortedAll_old) (Nat.le_succ _) ⟨hlen, out, ep, vals_of_ints k1, he'⟩, rfl, q _ _ k2 k3 (I.hok.fresh (Nat.le_succ _))⟩
end L3
namespace L3
open PySem PySem.Spec PyProof.Rows L2
def bSorted : FB := on1 (onIT fun ns q => ∀ ms : List Int, ms.Perm ns → ms.Pairwise (· ≤ ·) → q (.list (ms.map .int)))
theorem cv_sorted {X : Cx} : CallV X (.builtin "sorted") bSorted := ⟨_, cr_sortedI.or cr_sortTI, fun ds vs Fa H q Q h hb k => by
  obtain ⟨d, v, F, rfl, rfl, rfl, r, hb⟩ := on1_ok h hb
  obtain ⟨a, ns, rfl, hs, hq⟩ := onIT_ok r hb
  rcases hs with hs | hs
  · exact .inl ⟨a, ns, rfl, hs, fun ms p h1 h2 n => k _ _ _ _ (hq ms h1 h2) (Fr.new n) upd_dom (fresh_lst n (ints_rpl ms)) (opres_lst (K := X.K) n (ints_rpl ms) fun a m => by cases m)⟩
  · exact .inr ⟨a, ns, rfl, hs, fun ms p h1 h2 n => k _ _ _ _ (hq ms h1 h2) (Fr.new n) upd_dom (fresh_lst n (ints_rpl ms)) (opres_lst (K := X.K) n (ints_rpl ms) fun a m => by cases m)⟩⟩
end L3
namespace L3
open PySem PySem.Spec PyProof.Rows L2
def fMulT : F2 := fun x y q => match x, y with
  | .tuple xs, .int k => immL xs = true ∧ xs ≠ [] ∧ (2 ≤ k ∧ k ≤ 1000 ∧ xs.length ≤ 1000) ∧ q (.tuple (List.replicate k.toNat xs).flatten)
  | _, _ => False
theorem op2_mulT {K : PySem.W.Frag} : Op2 K (rRepT K) fMulT := by
  intro x y v u F G H q Q rx ry hf k
  cases x <;> cases y <;> first | exact hf.elim | skip
  rename_i xs z
  cases rx with
  | tup h r =>
    cases ry
    obtain ⟨e, ne, ⟨h1, h2, h3⟩, hq⟩ := hf
    have r0 := r.imm e
    refine ⟨_, _, _, rfl, rfl, h, fun hz => ne ?_, h1, h2, by rw [r.len]; exact h3, fun p n => ?_⟩
    · have := r.len
      rw [hz] at this
      exact List.length_eq_zero_iff.mp this.symm
    · have rr := rep_rp r0 z.toNat
      exact k _ _ [] _ hq (Fr.new n) upd_dom (fresh_tup n rr) .nil
end L3

namespace L3
open PySem PySem.Spec PyProof.Rows L2

/-! ### a new list that nothing will change any more -/
theorem inv_frz {X : Cx} {pins : List (Addr × Obj)} {σ : L2.St} {H : Hp} {s : Shared} (I : Inv X pins σ H s) {a : Addr} {vs : List V} (h : H a = some (.lst vs)) : ∃ o, Inv X pins σ (upd H a (.frz o (.lst vs))) s := by
  obtain ⟨hz, its, n, r, e⟩ := I.hok a _ h
  have nn : ∀ {b : Addr}, H b = none → b ≠ a := fun z q => by rw [q, h] at z; cases z
  have no : ∀ {b : Addr} {u : HO}, H b = some u → (∀ xs, u ≠ .lst xs) → b ≠ a := fun z q e => by rw [e, h] at z; cases z; exact q _ rfl
  refine ⟨{ cls := .type "list", data := .seq its.toArray n }, I.ok, I.os, I.bare, ⟨I.base.keep, I.base.slot, fun b o q n hx => ?_, I.base.there, fun b xs q => ?_, fun b o u q => ?_, fun b ps q => ?_⟩, I.loc, I.cell, ?_, fun x c q => ?_, fun p hp => ?_, fun b u hb => ?_, I.len⟩
  · have := I.base.free b o q n hx
    rw [upd_ne (nn this)]; exact this
  · have := I.base.tups b xs q
    rw [upd_ne (no this fun _ z => nomatch z)]; exact this
  · have := I.base.frzs b o u q
    rw [upd_ne (no this fun _ z => nomatch z)]; exact this
  · obtain ⟨more, this⟩ := I.base.tbls b ps q
    exact ⟨more, by rw [upd_ne (no this fun _ z => nomatch z)]; exact this⟩
  · rw [upd_ne (nn I.free)]; exact I.free
  · rw [upd_ne (nn (I.freeC x c q))]; exact I.freeC x c q
  · obtain ⟨h1, h2, h3⟩ := I.pin p hp
    exact ⟨h1, by rw [upd_ne (nn h2)]; exact h2, h3⟩
  · by_cases ea : b = a
    · subst ea
      rw [upd_same] at hb
      cases hb
      exact ⟨e, hz, its, n, r, e⟩
    · rw [upd_ne ea] at hb
      exact (I.hok b u hb).stay (fun c v _ q => q) (fun c q => by rw [upd_ne (no q fun _ z => nomatch z)]; exact q) fun c xs q => by rw [upd_ne (no q fun _ z => nomatch z)]; exact q
def wFz (w : WE) : WE := fun ρ q E => w ρ (fun d ρ1 => match d with
  | .list ds => immL ds = true ∧ q (.fl ds) ρ1
  | d => q d ρ1) E
section
variable {C : FC} {e : Expr} {a1 m : List Nat} {w : WE}
theorem je_frz (h : JE C e [] a1 m w) : JE C e [] a1 m (wFz w) := by
  refine ⟨⟨fun pins s σ H Q I ⟨ρ, Fs, q, sr, hw, k⟩ => ?_⟩⟩
  refine thn (h.pe.run pins s σ H (fun v H' => (∃ a vs, v = .ref a ∧ H' a = some (.lst vs) ∧ ∀ o, Q v (upd H' a (.frz o (.lst vs)))) ∨ Q v H') I ⟨ρ, Fs, _, sr, hw, fun d ρ' v F H' Fs' hq s1 t1 r1 k1 => ?_⟩) fun u s' ⟨v, H', I', rv, hq⟩ => ?_
  · cases d with
    | list ds =>
      obtain ⟨him, hq⟩ := hq
      cases r1 with
      | @lst a vs _ F0 ha r =>
        have hF0 := r.imm0 him
        subst hF0
        obtain ⟨n0, n1⟩ := k1.shl rfl him a List.mem_cons_self
        refine .inl ⟨a, vs, rfl, ha, fun o => ?_⟩
        have fr : Fr (fun b => b = a) H' (upd H' a (.frz o (.lst vs))) := Fr.write ha trivial rfl
        have nF : ∀ i, ∀ b ∈ Fs' i, ¬ b = a := fun i b hb z => n1 i (z ▸ hb)
        have dm : ∀ b, upd H' a (.frz o (.lst vs)) b = none → H' b = none := upd_dom
        refine k (.fl ds) ρ' (.ref a) [] _ Fs' hq ⟨s1.len, fun i t et => (s1.ok i t et).frm fr (nF i), s1.out, s1.sep, ?_, fun b hb => s1.dom b (dm b hb)⟩ ⟨?_, t1.same, t1.own, fun b hb => t1.dom b (dm b hb), t1.src⟩ (.fl (.inl ⟨o, upd_same⟩) (r.frm fr fun b hb => (List.not_mem_nil hb).elim)) .nil
        · refine fun b u hb x y => ?_
          have hb' := s1.frm b u hb x y
          by_cases eb : b = a
          · subst eb
            have := sr.dom b n0
            rw [hb] at this
            cases this
          · rw [upd_ne eb]; exact hb'
        · refine fun b u hb x y => ?_
          have hb' := t1.fr b u hb x y
          have eb : b ≠ a := fun z => by subst z; rw [n0] at hb; cases hb
          rw [upd_ne eb]; exact hb'
    | _ => exact .inr (k _ ρ' v F H' Fs' hq s1 t1 r1 k1)
  · rcases hq with ⟨a, vs, rfl, ha, hq⟩ | hq
    · obtain ⟨o, I2⟩ := inv_frz I' ha
      exact ⟨_, _, I2, rv, hq o⟩
    · exact ⟨v, H', I', rv, hq⟩
def wVarFz (i : Nat) : WE := fun ρ q _ => match ρ[i]? with
  | some (.ow (.list ds)) => immL ds = true ∧ q (.fl ds) (ρ.set i (.ow (.fl ds)))
  | some s => (match s.get with
    | some d => imm d = true ∧ q d ρ
    | none => False)
  | none => False
theorem je_varFz {i : Nat} {x : Str} {pos : Pos} (hN : C.X.N[i]? = some x) (hv : Vis C.X.env.scope x) (hd : (x == ("__debug__" : Str)) = false := by decide) (hcd : (x == ("__classdict__" : Str)) = false := by decide) : JE C (.Name x pos) [] [] [i] (wVarFz i) := by
  refine ⟨⟨fun pins s σ H Q I ⟨ρ, Fs, q, sr, hw, k⟩ => ?_⟩⟩
  have plain : ∀ {t : SV} {d : D}, ρ[i]? = some t → t.get = some d → imm d = true → q d ρ → wpAny (model C.X.prog C.X.w) C.X.A (eval (.Name x pos) C.X.env) (EP C.X pins σ Q) C.X.xe s := fun {t d} e g hi hq => by
    obtain ⟨v, h1, h2⟩ := sr.val e g
    have := h2.imm0 hi
    rw [this] at h2
    exact (pe_var hN hv hd hcd).run pins s σ H Q I ⟨v, h1, k d ρ v [] H Fs hq sr .refl h2 .nil⟩
  unfold wVarFz at hw
  split at hw
  · rename_i ds e
    obtain ⟨hi, hq⟩ := hw
    obtain ⟨v, h1, h2⟩ := sr.val e rfl
    generalize hF : Fs i = F at h2
    cases h2 with
    | @lst a vs _ F0 ha r =>
      refine thn ((pe_var hN hv hd hcd).run pins s σ H (fun v H' => v = .ref a ∧ H' = H) I ⟨_, h1, rfl, rfl⟩) fun u s' ⟨v, H', I', rv, ev, eH⟩ => ?_
      subst ev eH
      obtain ⟨o, I2⟩ := inv_frz I' ha
      have hF0 := r.imm0 hi
      subst hF0
      have fr : Fr (fun b => b = a) H' (upd H' a (.frz o (.lst vs))) := Fr.write ha trivial rfl
      have rp : Rp C.K (upd H' a (.frz o (.lst vs))) (.fl ds) (.ref a) [] := .fl (.inl ⟨o, upd_same⟩) (r.frm fr fun b hb => (List.not_mem_nil hb).elim)
      obtain ⟨s2, t2⟩ := sr.put e rfl h1 rfl (fr.mono fun b z => by rw [hF, z]; exact List.mem_cons_self) upd_dom rp List.nodup_nil fun b hb => (List.not_mem_nil hb).elim
      exact ⟨_, _, I2, rv, k _ _ _ _ _ _ hq s2 t2 rp .nil⟩
  · rename_i t _ e
    split at hw
    · rename_i d g
      exact plain e g hw.1 hw.2
    · exact hw.elim
  · exact hw.elim
end
end L3

namespace L3
open PySem PySem.Spec PyProof.Rows L2

theorem D.sh_int (i : Int) : (D.int i).sh = true := D.sh_of rfl (by simp [D.p, PyData.depth])
/-! ### the words, each by a rule (so that no promise is unfolded by the way) -/
section
variable {ρ : Rho} {nx bk ct : Rho → Prop} {rt : D → Rho → Prop} {ex E : EXT} {q : D → Rho → Prop} {qa : List D → Rho → Prop} {qb : Bool → Rho → Prop} {w u : WS} {t t' : WT} {wa wb wc : WE} {wr : WA} {i j : Nat} {d : D} {f : F2} {P : Prop}
theorem r_seq (h : w ρ ⟨fun ρ1 => u ρ1 ⟨nx, rt, bk, ct, ex⟩, rt, bk, ct, ex⟩) : wsSeq w u ρ ⟨nx, rt, bk, ct, ex⟩ := h
theorem r_nil (h : nx ρ) : wsNil ρ ⟨nx, rt, bk, ct, ex⟩ := h
theorem r_if (h : t ρ (fun b ρ1 => if b = true then w ρ1 ⟨nx, rt, bk, ct, ex⟩ else u ρ1 ⟨nx, rt, bk, ct, ex⟩) ex) : wsIf t w u ρ ⟨nx, rt, bk, ct, ex⟩ := h
theorem r_ifNo (ht : ∀ qb : Bool → Rho → Prop, qb false ρ → t ρ qb ex) (h : nx ρ) : wsIf t w wsNil ρ ⟨nx, rt, bk, ct, ex⟩ := ht _ (by rw [if_neg Bool.false_ne_true]; exact h)
theorem r_drop (h : wa ρ (fun _ ρ1 => nx ρ1) ex) : wsDrop wa ρ ⟨nx, rt, bk, ct, ex⟩ := h
theorem r_raise {n : Str} (h : ex n ρ) : wsRaise n ρ ⟨nx, rt, bk, ct, ex⟩ := h
theorem r_set (h : wa ρ (fun d ρ1 => (i < ρ1.length ∧ (imm d || flat d) = true) ∧ nx (ρ1.set i (.ow d))) ex) : wsSet i wa ρ ⟨nx, rt, bk, ct, ex⟩ := h
theorem r_setF (h : wa ρ (fun d ρ1 => i < ρ1.length ∧ nx (ρ1.set i (.ow d))) ex) : wsSetF i wa ρ ⟨nx, rt, bk, ct, ex⟩ := h
theorem r_setI (h : wa ρ (fun d ρ1 => (i < ρ1.length ∧ imm d = true) ∧ nx (ρ1.set i (.ow d))) ex) : wsSetI i wa ρ ⟨nx, rt, bk, ct, ex⟩ := h
theorem r_par2 {c1 c2 : D → Bool} (h : wa ρ (fun d ρ1 => wb ρ1 (fun e ρ2 => ((i < ρ2.length ∧ j < ρ2.length) ∧ c1 d = true ∧ c2 e = true) ∧ nx ((ρ2.set i (.ow d)).set j (.ow e))) ex) ex) : wsPar2 c1 c2 i j wa wb ρ ⟨nx, rt, bk, ct, ex⟩ := h
theorem r_retI (h : wa ρ (fun d ρ1 => imm d = true ∧ rt d ρ1) ex) : wsRetI wa ρ ⟨nx, rt, bk, ct, ex⟩ := h
theorem r_asg {g : WG} (h : wa ρ (fun d ρ1 => imm d = true ∧ g d ρ1 nx) ex) : wsAsg g wa ρ ⟨nx, rt, bk, ct, ex⟩ := h
theorem r_for {wi : WI} {g : WG} (h : wi ρ (fun ds ρ1 => loopW g w ds ρ1 ⟨nx, rt, bk, ct, ex⟩) ex) : wsFor wi g w ρ ⟨nx, rt, bk, ct, ex⟩ := h
theorem r_c (h : q d ρ) : wC d ρ q E := h
theorem r_var {s : SV} (e : ρ[i]? = some s) (g : s.get = some d) (h : q d ρ) : wVar i ρ q E := by
  unfold wVar
  rw [e]
  dsimp only
  rw [g]
  exact h
theorem r_2 (h : wa ρ (fun x ρ1 => wb ρ1 (fun y ρ2 => f x y fun d => q d ρ2) E) E) : w2 f wa wb ρ q E := h
theorem r_B (h : wa ρ (fun d ρ1 => asB d fun b => qb b ρ1) E) : wB wa ρ qb E := h
theorem r_tAnd (h : t ρ (fun b ρ1 => if b = true then t' ρ1 qb E else qb false ρ1) E) : wtAnd t t' ρ qb E := h
theorem r_tOr (h : t ρ (fun b ρ1 => if b = true then qb true ρ1 else t' ρ1 qb E) E) : wtOr t t' ρ qb E := h
theorem r_tNot (h : t ρ (fun b ρ1 => qb (!b) ρ1) E) : wtNot t ρ qb E := h
theorem r_ifE (h : t ρ (fun c ρ1 => if c = true then wa ρ1 q E else wb ρ1 q E) E) : wIf t wa wb ρ q E := h
theorem r_call {S : FS} (h : wr ρ (fun ds ρ1 => S ds (fun r => q r ρ1) fun n => E n ρ1) E) : wCall S wr ρ q E := h
theorem r_callH {S : FSH} (h0 : hasV ρ i) (h : wr ρ (fun ds ρ1 => withOwn ρ1 i fun s h => S h ds (fun r h' => q r (ρ1.set i (s.put h'))) fun n h' => E n (ρ1.set i (s.put h'))) E) : wCallH S i wr ρ q E := ⟨h0, h⟩
theorem r_own {s : SV} {k : SV → D → Prop} (e : ρ[i]? = some s) (o : s.own = true) (g : s.get = some d) (h : k s d) : withOwn ρ i k := by
  unfold withOwn
  rw [e]
  exact ⟨o, by rw [g]; exact h⟩
theorem r_hasV {s : SV} (e : ρ[i]? = some s) (g : s.get = some d) : hasV ρ i := by
  unfold hasV
  rw [e]
  simp [g]
theorem r_acons (h : wa ρ (fun x ρ1 => wr ρ1 (fun xs ρ2 => qa (x :: xs) ρ2) E) E) : waCons wa wr ρ qa E := h
theorem r_anil (h : qa [] ρ) : waNil ρ qa E := h
theorem r_tup (h : wr ρ (fun ds ρ1 => ds.length ≤ sizeLine ∧ q (.tuple ds) ρ1) E) : wTup wr ρ q E := h
theorem r_lst (h : wr ρ (fun ds ρ1 => ds.length ≤ sizeLine ∧ q (.list ds) ρ1) E) : wLst wr ρ q E := h
theorem r_bf {b : FB} (h : wr ρ (fun ds ρ1 => b ds fun d => q d ρ1) E) : wBf b wr ρ q E := h
theorem r_neg (h : wa ρ (fun d ρ1 => match d with | .int i => q (.int (-i)) ρ1 | _ => False) E) : wNeg wa ρ q E := h
theorem r_and1 {a b : Nat} {p : Bool} {Q : Prop} (h1 : a < b) (h2 : p = true) (h : Q) : (a < b ∧ p = true) ∧ Q := ⟨⟨h1, h2⟩, h⟩
theorem r_and2 {a b c e : Nat} {p p' : Bool} {Q : Prop} (h1 : a < b) (h2 : c < e) (h3 : p = true) (h4 : p' = true) (h : Q) : ((a < b ∧ c < e) ∧ p = true ∧ p' = true) ∧ Q := ⟨⟨⟨h1, h2⟩, h3, h4⟩, h⟩
theorem r_and0 {a b : Nat} {Q : Prop} (h1 : a < b) (h : Q) : a < b ∧ Q := ⟨h1, h⟩
theorem r_andI {p : Bool} {Q : Prop} (h1 : p = true) (h : Q) : p = true ∧ Q := ⟨h1, h⟩
theorem r_andS {a b : Nat} {Q : Prop} (h1 : a ≤ b) (h : Q) : a ≤ b ∧ Q := ⟨h1, h⟩
theorem r_put {v : SV} {ρ' : Rho} (hi : i < ρ.length) (hP : P) (e : ρ.set i v = ρ') (h : nx ρ') : (i < ρ.length ∧ P) ∧ nx (ρ.set i v) := ⟨⟨hi, hP⟩, by rw [e]; exact h⟩
theorem r_put1 {v : SV} {ρ' : Rho} (hi : i < ρ.length) (e : ρ.set i v = ρ') (h : nx ρ') : i < ρ.length ∧ nx (ρ.set i v) := ⟨hi, by rw [e]; exact h⟩
theorem r_put2 {v v' : SV} {ρ' : Rho} (hi : i < ρ.length ∧ j < ρ.length) (hP : P) (e : (ρ.set i v).set j v' = ρ') (h : nx ρ') : ((i < ρ.length ∧ j < ρ.length) ∧ P) ∧ nx ((ρ.set i v).set j v') := ⟨⟨hi, hP⟩, by rw [e]; exact h⟩
theorem r_ite {p : Prop} [Decidable p] {A B : Prop} (a : p → A) (b : ¬ p → B) : if decide p = true then A else B := by
  by_cases h : p
  · rw [if_pos (decide_eq_true h)]; exact a h
  · rw [if_neg (by simpa using h)]; exact b h
theorem r_yes (h : qb true ρ) : wtYes ρ qb E := h
theorem r_itT {A B : Prop} (h : A) : if true = true then A else B := by rw [if_pos rfl]; exact h
theorem r_itF {A B : Prop} (h : B) : if false = true then A else B := by rw [if_neg Bool.false_ne_true]; exact h
theorem r_itNT {A B : Prop} (h : B) : if (!true) = true then A else B := by rw [if_neg (by decide)]; exact h
theorem r_itNF {A B : Prop} (h : A) : if (!false) = true then A else B := by rw [if_pos (by decide)]; exact h
theorem r_itn {p : Prop} [Decidable p] {A B : Prop} (a : ¬ p → A) (b : p → B) : if (!decide p) = true then A else B := by
  by_cases h : p
  · rw [decide_eq_true h, if_neg (by decide)]; exact b h
  · rw [decide_eq_false h, if_pos (by decide)]; exact a h
theorem r_gNm {k : Rho → Prop} {ρ' : Rho} (hi : i < ρ.length) (hd : imm d = true) (e : ρ.set i (.ow d) = ρ') (h : k ρ') : gNm i d ρ k := ⟨⟨hi, hd⟩, by rw [e]; exact h⟩
theorem r_asB {b : Bool} {k : Bool → Prop} (h : k b) : asB (.bool b) k := h
variable {k : D → Prop} {x y : Int}
theorem r_add (h : k (.int (x + y))) : fAdd (.int x) (.int y) k := h
theorem r_sub (h : k (.int (x - y))) : fSub (.int x) (.int y) k := ⟨trivial, h⟩
theorem r_mul (m : mOk x y) (h : k (.int (x * y))) : fMul (.int x) (.int y) k := ⟨m, h⟩
theorem r_div (m : dOk x y) (h : k (.int (x / y))) : fDiv (.int x) (.int y) k := ⟨m, h⟩
theorem r_mod (m : 0 < y) (h : k (.int (x % y))) : fMod (.int x) (.int y) k := ⟨m, h⟩
theorem r_pow (m : pOk x y) (h : k (.int (x ^ y.toNat))) : fPow (.int x) (.int y) k := ⟨m, h⟩
theorem r_lt (h : k (.bool (decide (x < y)))) : fLt (.int x) (.int y) k := h
theorem r_le (h : k (.bool (decide (x ≤ y)))) : fLe (.int x) (.int y) k := h
theorem r_gt (h : k (.bool (decide (y < x)))) : fGt (.int x) (.int y) k := h
theorem r_ge (h : k (.bool (decide (y ≤ x)))) : fGe (.int x) (.int y) k := h
theorem r_eqI (h : k (.bool (decide (x = y)))) : fEq (.int x) (.int y) k := ⟨D.sh_int _, D.sh_int _, by rw [eqv_ii]; exact h⟩
theorem r_neI (h : k (.bool (!decide (x = y)))) : fNe (.int x) (.int y) k := ⟨D.sh_int _, D.sh_int _, by rw [eqv_ii]; exact h⟩
theorem r_notN (h : k (.bool (!isNone d))) : fNotN d .none k := ⟨rfl, h⟩
theorem r_R1C {qi : List D → Rho → Prop} {z : Int} (h : (-(2 ^ 62) ≤ z ∧ z < 2 ^ 62) ∧ qi (rngL 0 z.toNat) ρ) : wiR1 (waCons (wC (.int z)) waNil) ρ qi E := h
theorem r_en {qi : List D → Rho → Prop} (h : wa ρ (fun d ρ1 => match d with | .list ds => qi (enD ds) ρ1 | .tuple ds => qi (enD ds) ρ1 | .fl ds => qi (enD ds) ρ1 | _ => False) E) : wiEn wa ρ qi E := h
theorem r_loop {g : WG} {I : Rho → Prop} (hn : ∀ ρ, I ρ → nx ρ) : ∀ (ds : List D), (∀ d ∈ ds, imm d = true) → (∀ d ∈ ds, ∀ ρ (K : Rho → Prop), I ρ → (∀ ρ', I ρ' → K ρ') → g d ρ (fun ρ1 => w ρ1 ⟨K, rt, nx, K, ex⟩)) → ∀ ρ, I ρ → loopW g w ds ρ ⟨nx, rt, bk, ct, ex⟩
  | [], _, _, ρ, hI => hn ρ hI
  | d :: ds, hi, hb, ρ, hI => by
    refine ⟨hi d List.mem_cons_self, ?_⟩
    exact hb d List.mem_cons_self ρ _ hI fun ρ' h' => r_loop hn ds (fun e m => hi e (List.mem_cons_of_mem _ m)) (fun e m => hb e (List.mem_cons_of_mem _ m)) ρ' h'
theorem r_callS {S : FSS} {ns : List Int} (e : ρ[i]? = some (.sc ns)) (h : S ns fun d => q d ρ) : wCallS S i ρ q E := by
  unfold wCallS
  rw [e]
  exact h
theorem r_gTp {gs : List D → Rho → (Rho → Prop) → Prop} {ds : List D} {k : Rho → Prop} (h : gs ds ρ k) : gTp gs (.tuple ds) ρ k := h
theorem r_ggC {g : WG} {gs : List D → Rho → (Rho → Prop) → Prop} {ds : List D} {k : Rho → Prop} (h : g d ρ fun ρ1 => gs ds ρ1 k) : ggCons g gs (d :: ds) ρ k := h
theorem r_ggN {k : Rho → Prop} (h : k ρ) : ggNil [] ρ k := h
theorem r_lam {z k : Nat} (hz : ρ[z]? = some .tb) (hi : i < ρ.length) (hne : i ≠ z) (h : ∀ f c, nx (ρ.set i (.fn [(k, f, c)]))) : wsLam i z k ρ ⟨nx, rt, bk, ct, ex⟩ := ⟨⟨hz, hi, hne⟩, h⟩
theorem r_lamA {z k : Nat} {ks : List (Nat × Addr × Addr)} (hz : ρ[z]? = some .tb) (hne : i ≠ z) (e : ρ[i]? = some (.fn ks)) (hl : ks.length < sizeLine) (h : ∀ f c, nx (ρ.set i (.fn (ks ++ [(k, f, c)])))) : wsLamA i z k ρ ⟨nx, rt, bk, ct, ex⟩ := by
  refine ⟨⟨hz, hne⟩, ?_⟩
  rw [e]
  exact ⟨hl, h⟩
theorem r_errs {hi ic : Nat} {ws : List WE} {word : Str → Int} {kn : Str → Bool} {ks : List (Nat × Addr × Addr)} (e : ρ[ic]? = some (.fn ks)) (hl : ks.length ≤ 900) (h : errGo hi ws word kn ks ρ [] fun acc ρ' => q (.list (acc.map fun z => .int z)) ρ') : wErrs hi ic ws word kn ρ q E := by
  unfold wErrs
  rw [e]
  exact ⟨hl, h⟩
theorem r_err {hi : Nat} {ws : List WE} {word : Str → Int} {kn : Str → Bool} {kk : Nat × Addr × Addr} {ks : List (Nat × Addr × Addr)} {acc : List Int} {qi : List Int → Rho → Prop} {s : SV} {w : WE} (e : ws[kk.1]? = some w) (es : ρ[hi]? = some s) (o : s.own = true) (g : s.get = some d)
    (h : w (rhoL hi ρ) (fun _ ρ' => onPa ρ' hi fun h' => errGo hi ws word kn ks (ρ.set hi (s.put h')) (acc ++ [9]) qi) (fun n ρ' => onPa ρ' hi fun h' => kn n = true ∧ errGo hi ws word kn ks (ρ.set hi (s.put h')) (acc ++ [word n]) qi)) : errGo hi ws word kn (kk :: ks) ρ acc qi := by
  unfold errGo
  rw [e]
  exact r_own es o g h
theorem r_err0 {hi : Nat} {ws : List WE} {word : Str → Int} {kn : Str → Bool} {acc : List Int} {qi : List Int → Rho → Prop} (h : qi acc ρ) : errGo hi ws word kn [] ρ acc qi := h
theorem r_onPa {k : D → Prop} (e : ρ[i]? = some (.pa d)) (h : k d) : onPa ρ i k := by
  unfold onPa
  rw [e]
  exact h
theorem r_lenL {xs : List D} (h : k (.int xs.length)) : bLen [.list xs] k := h
theorem r_lenT {xs : List D} (h : k (.int xs.length)) : bLen [.tuple xs] k := h
theorem r_ixL {xs : List D} {i : Int} {d : D} (e : atI xs i = some d) (h : k d) : fIx (.list xs) (.int i) k := ⟨d, e, h⟩
theorem r_ixT {xs : List D} {i : Int} {d : D} (e : atI xs i = some d) (h : k d) : fIx (.tuple xs) (.int i) k := ⟨d, e, h⟩
theorem r_negI (h : wa ρ (fun d ρ1 => match d with | .int i => q (.int (-i)) ρ1 | _ => False) E) : wNeg wa ρ q E := h
theorem r_negC {z : Int} (h : q (.int (-z)) ρ) : wNeg (wC (.int z)) ρ q E := h
theorem r_wh {n : Nat} (h : t ρ (fun b ρ1 => if b = true then w ρ1 ⟨fun ρ2 => whileW t w n ρ2 ⟨nx, rt, bk, ct, ex⟩, rt, nx, fun ρ2 => whileW t w n ρ2 ⟨nx, rt, bk, ct, ex⟩, ex⟩ else nx ρ1) ex) : whileW t w (n + 1) ρ ⟨nx, rt, bk, ct, ex⟩ := h
theorem r_while {n : Nat} (h : whileW t w n ρ ⟨nx, rt, bk, ct, ex⟩) : wsWhile t w ρ ⟨nx, rt, bk, ct, ex⟩ := ⟨n, h⟩
theorem r_append {s : SV} {xs : List D} (e : ρ[i]? = some s) (g : s.get = some (.list xs)) (h : wa ρ (fun y ρ1 => withList ρ1 i fun s xs => (imm y = true ∧ xs.length < sizeLine) ∧ nx (ρ1.set i (s.put (.list (xs ++ [y]))))) ex) : wsAppend i wa ρ ⟨nx, rt, bk, ct, ex⟩ := by
  refine ⟨?_, h⟩
  unfold isLst
  rw [e]
  dsimp only
  rw [g]
  trivial
theorem r_wlist {s : SV} {xs : List D} {k : SV → List D → Prop} (e : ρ[i]? = some s) (o : s.own = true) (g : s.get = some (.list xs)) (h : k s xs) : withList ρ i k := r_own e o g h
theorem r_sl {l h' : WO} (h : wa ρ (fun x ρ1 => l ρ1 (fun lo ρ2 => h' ρ2 (fun hi ρ3 => fSl x lo hi fun d => q d ρ3) E) E) E) : wSl wa l h' ρ q E := h
theorem r_oN {k : Option Int → Rho → Prop} (h : k none ρ) : woN ρ k E := h
theorem r_oS {k : Option Int → Rho → Prop} (h : wa ρ (fun d ρ1 => match d with | .int i => k (some i) ρ1 | _ => False) E) : woS wa ρ k E := h
theorem r_oSV {k : Option Int → Rho → Prop} {s : SV} {z : Int} (e : ρ[i]? = some s) (g : s.get = some (.int z)) (h : k (some z) ρ) : woS (wVar i) ρ k E := by
  unfold woS
  exact r_var e g h
theorem r_oSC {k : Option Int → Rho → Prop} {z : Int} (h : k (some z) ρ) : woS (wC (.int z)) ρ k E := h
theorem r_slL {xs : List D} {lo hi : Option Int} (h : k (.list (cutL xs lo hi))) : fSl (.list xs) lo hi k := h
theorem r_slT {xs : List D} {lo hi : Option Int} (h : k (.tuple (cutL xs lo hi))) : fSl (.tuple xs) lo hi k := h
theorem r_tupL {xs : List D} (h : k (.tuple xs)) : bTup [.list xs] k := h
theorem r_tupT {xs : List D} (h : k (.tuple xs)) : bTup [.tuple xs] k := h
theorem r_intB (h : k (.int x)) : bInt [.int x] k := h
end
theorem immL_mem : ∀ {ds : List D}, immL ds = true → ∀ d ∈ ds, imm d = true
  | d :: ds, h, e, m => by
    unfold immL at h
    obtain ⟨h1, h2⟩ := Bool.and_eq_true_iff.mp h
    rcases List.mem_cons.mp m with z | z
    · subst z; exact h1
    · exact immL_mem h2 e z
end L3

namespace L3
open PySem PySem.Spec PyProof.Rows L2

/-! ### small facts of plain numbers -/
theorem log2_lt {n k : Nat} (h : n < 2 ^ k) (hk : 0 < k) : n.log2 < k := by
  by_cases z : n = 0
  · subst z; simpa using hk
  · exact (Nat.log2_lt z).mpr h
theorem mOkL {i j : Int} (h1 : -(2 ^ 64) < i) (h2 : i < 2 ^ 64) : mOk i j := .inr (.inl ⟨h1, h2⟩)
theorem mOkR {i j : Int} (h1 : -(2 ^ 64) < j) (h2 : j < 2 ^ 64) : mOk i j := .inr (.inr ⟨h1, h2⟩)
theorem dOk64 {i j : Int} (h1 : 0 < j) (h2 : j < 2 ^ 64) : dOk i j := by
  refine ⟨h1, ?_⟩
  have : j.natAbs < 2 ^ 64 := by omega
  have := log2_lt this (by decide)
  omega
abbrev ilD (ns : List Int) : List D := ns.map fun z => .int z
theorem sh_str {x : Str} (h : PyData.strOk x = true) : (D.str x).sh = true := D.sh_of h (by simp [D.p, PyData.depth])
theorem sh_none : D.none.sh = true := D.sh_of rfl (by simp [D.p, PyData.depth])
theorem sh_bool (b : Bool) : (D.bool b).sh = true := D.sh_of rfl (by simp [D.p, PyData.depth])
mutual
/-- nothing within that is deeper than n -/
def D.dle : D → Nat → Bool
  | .tuple xs, n + 1 => D.dleL xs n
  | .list xs, n + 1 => D.dleL xs n
  | .fl xs, n + 1 => D.dleL xs n
  | .str x, _ => PyData.strOk x
  | .none, _ => true
  | .bool _, _ => true
  | .int _, _ => true
  | _, _ => false
def D.dleL : List D → Nat → Bool
  | [], _ => true
  | d :: ds, n => d.dle n && D.dleL ds n
end
mutual
theorem D.dle_ok : ∀ (d : D) (n : Nat), d.dle n = true → d.nod = true ∧ d.p.depth ≤ n
  | .none, n, _ => ⟨rfl, by simp [D.p, PyData.depth]⟩
  | .bool _, n, _ => ⟨rfl, by simp [D.p, PyData.depth]⟩
  | .int _, n, _ => ⟨rfl, by simp [D.p, PyData.depth]⟩
  | .str x, n, h => ⟨by rw [D.nod]; cases n <;> simpa [D.dle] using h, by simp [D.p, PyData.depth]⟩
  | .tuple xs, n + 1, h => by
    obtain ⟨h1, h2⟩ := D.dleL_ok xs n (by simpa [D.dle] using h)
    exact ⟨by rw [D.nod]; exact h1, by rw [D.p, PyData.depth]; omega⟩
  | .list xs, n + 1, h => by
    obtain ⟨h1, h2⟩ := D.dleL_ok xs n (by simpa [D.dle] using h)
    exact ⟨by rw [D.nod]; exact h1, by rw [D.p, PyData.depth]; omega⟩
  | .fl xs, n + 1, h => by
    obtain ⟨h1, h2⟩ := D.dleL_ok xs n (by simpa [D.dle] using h)
    exact ⟨by rw [D.nod]; exact h1, by rw [D.p, PyData.depth]; omega⟩
  | .tuple _, 0, h => by simp [D.dle] at h
  | .list _, 0, h => by simp [D.dle] at h
  | .fl _, 0, h => by simp [D.dle] at h
  | .dict _, _, h => by simp [D.dle] at h
theorem D.dleL_ok : ∀ (ds : List D) (n : Nat), D.dleL ds n = true → D.nodL ds = true ∧ PyData.depthAll (D.pL ds) ≤ n
  | [], n, _ => ⟨rfl, by simp [D.pL, PyData.depthAll]⟩
  | d :: ds, n, h => by
    rw [D.dleL, Bool.and_eq_true] at h
    obtain ⟨a1, a2⟩ := D.dle_ok d n h.1
    obtain ⟨b1, b2⟩ := D.dleL_ok ds n h.2
    exact ⟨by rw [D.nodL, a1, b1]; rfl, by rw [D.pL, PyData.depthAll]; exact Nat.max_le.mpr ⟨a2, b2⟩⟩
end
theorem D.sh_dle {d : D} (h : d.dle 60 = true) : d.sh = true := by
  obtain ⟨h1, h2⟩ := D.dle_ok d 60 h
  exact D.sh_of h1 (by omega)
theorem D.dleL_of {ds : List D} {n : Nat} (h : ∀ d ∈ ds, d.dle n = true) : D.dleL ds n = true := by
  induction ds with
  | nil => rfl
  | cons d ds ih => rw [D.dleL, h d List.mem_cons_self, ih fun x m => h x (List.mem_cons_of_mem _ m)]; rfl
theorem dleL_ints (ns : List Int) (n : Nat) : D.dleL (ilD ns) n = true := D.dleL_of fun d m => by
  obtain ⟨z, _, rfl⟩ := List.mem_map.mp m
  cases n <;> rfl
theorem sh_ints (ns : List Int) : (D.list (ilD ns)).sh = true := D.sh_dle (by rw [D.dle]; exact dleL_ints ns _)
theorem sh_intsT (ns : List Int) : (D.tuple (ilD ns)).sh = true := D.sh_dle (by rw [D.dle]; exact dleL_ints ns _)
theorem sh_intsF (ns : List Int) : (D.fl (ilD ns)).sh = true := D.sh_dle (by rw [D.dle]; exact dleL_ints ns _)
/-- rows one by one -/
def eqvL : List D → List D → Bool
  | [], [] => true
  | x :: xs, y :: ys => x.eqv y && eqvL xs ys
  | _, _ => false
theorem eqvL_p : ∀ xs ys : List D, PyData.eqvAll (D.pL xs) (D.pL ys) = eqvL xs ys
  | [], [] => by simp [D.pL, PyData.eqvAll, eqvL]
  | [], y :: ys => by simp [D.pL, PyData.eqvAll, eqvL]
  | x :: xs, [] => by simp [D.pL, PyData.eqvAll, eqvL]
  | x :: xs, y :: ys => by
    rw [D.pL, D.pL, PyData.eqvAll, eqvL_p xs ys]
    rfl
theorem eqv_tt (xs ys : List D) : D.eqv (.tuple xs) (.tuple ys) = eqvL xs ys := by unfold D.eqv; rw [D.p, D.p, PyData.eqv, eqvL_p]
theorem eqv_ll (xs ys : List D) : D.eqv (.list xs) (.list ys) = eqvL xs ys := by unfold D.eqv; rw [D.p, D.p, PyData.eqv, eqvL_p]
theorem eqv_lf (xs ys : List D) : D.eqv (.list xs) (.fl ys) = eqvL xs ys := by unfold D.eqv; rw [D.p, D.p, PyData.eqv, eqvL_p]
theorem eqv_fl (xs ys : List D) : D.eqv (.fl xs) (.list ys) = eqvL xs ys := by unfold D.eqv; rw [D.p, D.p, PyData.eqv, eqvL_p]
theorem eqv_ff (xs ys : List D) : D.eqv (.fl xs) (.fl ys) = eqvL xs ys := by unfold D.eqv; rw [D.p, D.p, PyData.eqv, eqvL_p]
theorem eqv_ss (x y : Str) : D.eqv (.str x) (.str y) = decide (x = y) := by
  unfold D.eqv
  rw [D.p, D.p, PyData.eqv]
  by_cases h : x = y <;> simp [h]
theorem eqvL_ints : ∀ ns ms : List Int, eqvL (ilD ns) (ilD ms) = decide (ns = ms)
  | [], [] => by simp [eqvL]
  | [], m :: ms => by simp [eqvL]
  | n :: ns, [] => by simp [eqvL]
  | n :: ns, m :: ms => by
    have := eqvL_ints ns ms
    simp only [ilD, List.map_cons, eqvL, eqv_ii] at this ⊢
    rw [this]
    by_cases h : n = m <;> by_cases h' : ns = ms <;> simp [h, h']
theorem eqvL_bools : ∀ ns ms : List Bool, eqvL (ns.map .bool) (ms.map .bool) = decide (ns = ms)
  | [], [] => by simp [eqvL]
  | [], m :: ms => by simp [eqvL]
  | n :: ns, [] => by simp [eqvL]
  | n :: ns, m :: ms => by
    have := eqvL_bools ns ms
    simp only [List.map_cons, eqvL, eqv_bb] at this ⊢
    rw [this]
    by_cases h : n = m <;> by_cases h' : ns = ms <;> simp [h, h']
theorem eqv_list (ns ms : List Int) : D.eqv (.list (ilD ns)) (.list (ilD ms)) = decide (ns = ms) := by rw [eqv_ll, eqvL_ints]
theorem eqv_tup (ns ms : List Int) : D.eqv (.tuple (ilD ns)) (.tuple (ilD ms)) = decide (ns = ms) := by rw [eqv_tt, eqvL_ints]
theorem shaped_ints (ns : List Int) : (D.list (ilD ns)).sh = true := sh_ints ns
theorem shaped_intsT (ns : List Int) : (D.tuple (ilD ns)).sh = true := sh_intsT ns
theorem shaped_int (i : Int) : (D.int i).sh = true := D.sh_of rfl (by simp [D.p, PyData.depth])
theorem shaped_none : D.none.sh = true := sh_none
theorem shaped_bool (b : Bool) : (D.bool b).sh = true := sh_bool b
theorem imm_ints : ∀ ns : List Int, immL (ilD ns) = true
  | [] => rfl
  | n :: ns => by
    have := imm_ints ns
    simpa [immL, imm] using this
theorem atI_nat {α : Type} {xs : List α} {i : Nat} {x : α} (h : xs[i]? = some x) : atI xs (i : Int) = some x := by
  have hl := (List.getElem?_eq_some_iff.mp h).1
  unfold atI ixN
  simp
  rw [if_pos (by omega)]
  simpa using h
/-! ### the drawing of numbers -/
def HandOk (h : D) : Prop := ∃ (cells : List Int) (pos : Nat) (big mix cnt : Int), h = .list [.list (ilD cells), .int (pos : Int), .int big, .int mix, .int cnt]
def drawW : WS :=
  (wsSeq (wsIf (wtAnd (wB (w2 fEq (w2 fIx (wVar 0) (wC (.int 2))) (wC (.int 0)))) (wB (w2 fLt (w2 fIx (wVar 0) (wC (.int 1))) (wBf bLen (waCons (w2 fIx (wVar 0) (wC (.int 0))) waNil))))) (wsSeq (wsSetI 2 (w2 fIx (w2 fIx (wVar 0) (wC (.int 0))) (w2 fIx (wVar 0) (wC (.int 1)))))
  (wsSeq (wsStore 0 (wC (.int 1)) (w2 fAdd (w2 fIx (wVar 0) (wC (.int 1))) (wC (.int 1))))
  (wsSeq (wsStore 0 (wC (.int 3)) (w2 fMod (wBf bInt (waCons (w2 fAdd (w2 fAdd (w2 fMul (w2 fIx (wVar 0) (wC (.int 3))) (wC (.int 48271))) (w2 fMul (w2 fMod (wVar 2) (wC (.int 2147483629))) (wC (.int 69621)))) (wC (.int 17))) waNil)) (wC (.int 2147483629))))
  (wsIf (wB (w2 fGe (wVar 2) (w2 fPow (wC (.int 10)) (wC (.int 15))))) (wsStore 0 (wC (.int 2)) (wVar 2)) wsNil)))) wsNil)
  (wsSeq (wsIf (wB (w2 fGt (w2 fIx (wVar 0) (wC (.int 2))) (wC (.int 0)))) (wsSeq (wsSet 3 (w2 fMod (wBf bInt (waCons (w2 fIx (wVar 0) (wC (.int 2))) waNil)) (wVar 1)))
  (wsSeq (wsStore 0 (wC (.int 2)) (w2 fDiv (wBf bInt (waCons (w2 fIx (wVar 0) (wC (.int 2))) waNil)) (wVar 1)))
  (wsRetI (wVar 3)))) wsNil)
  (wsSeq (wsStore 0 (wC (.int 4)) (w2 fAdd (w2 fIx (wVar 0) (wC (.int 4))) (wC (.int 1))))
  (wsSeq (wsSet 4 (w2 fMod (wBf bInt (waCons (w2 fMul (wBf bInt (waCons (w2 fAdd (w2 fIx (wVar 0) (wC (.int 3))) (w2 fMul (wC (.int 7919)) (w2 fIx (wVar 0) (wC (.int 4))))) waNil)) (wC (.int 40692))) waNil)) (wC (.int 2147483399))))
  (wsSeq (wsSet 4 (w2 fMod (wBf bInt (waCons (w2 fMul (wVar 4) (w2 fAdd (w2 fDiv (wVar 4) (wC (.int 1009))) (wC (.int 30011)))) waNil)) (wC (.int 2147483647))))
  (wsRetI (w2 fMod (wBf bInt (waCons (w2 fDiv (wVar 4) (wC (.int 32))) waNil)) (wVar 1))))))))
def S_draw : FSH := fun h ds q x => drawW (rhoH ["hand", "many", "cell", "digit", "number"] h ds) ⟨fun ρ => paOf ρ (q .none), fun d ρ => paOf ρ (q d), fun _ => False, fun _ => False, fun n ρ => paOf ρ (x n)⟩
def someW : WS :=
  (wsRetI (w2 fIx (wVar 1) (wCallH S_draw 0 (waCons (wBf bLen (waCons (wVar 1) waNil)) waNil))))
def S_some : FSH := fun h ds q x => someW (rhoH ["hand", "things"] h ds) ⟨fun ρ => paOf ρ (q .none), fun d ρ => paOf ρ (q d), fun _ => False, fun _ => False, fun n ρ => paOf ρ (x n)⟩

theorem shaped_lit {i : Int} : (D.int i).sh = true := shaped_int i
theorem ifT {c : Prop} [Decidable c] {a b : Prop} (h : c) (k : a) : if c then a else b := by rw [if_pos h]; exact k
theorem ifF {c : Prop} [Decidable c] {a b : Prop} (h : ¬ c) (k : b) : if c then a else b := by rw [if_neg h]; exact k
theorem bT {p : Prop} [Decidable p] (h : p) : decide p = true := decide_eq_true h
theorem bF {p : Prop} [Decidable p] (h : ¬ p) : ¬ decide p = true := by simpa using h
theorem eT {i j : Int} (h : i = j) : D.eqv (.int i) (.int j) = true := by rw [eqv_ii]; exact decide_eq_true h
theorem eF {i j : Int} (h : ¬ i = j) : ¬ D.eqv (.int i) (.int j) = true := by rw [eqv_ii]; simpa using h
/-- behind the refill: a digit is drawn -/
abbrev drawA : WS := (wsSeq (wsIf (wB (w2 fGt (w2 fIx (wVar 0) (wC (.int 2))) (wC (.int 0)))) (wsSeq (wsSet 3 (w2 fMod (wBf bInt (waCons (w2 fIx (wVar 0) (wC (.int 2))) waNil)) (wVar 1)))
  (wsSeq (wsStore 0 (wC (.int 2)) (w2 fDiv (wBf bInt (waCons (w2 fIx (wVar 0) (wC (.int 2))) waNil)) (wVar 1)))
  (wsRetI (wVar 3)))) wsNil)
  (wsSeq (wsStore 0 (wC (.int 4)) (w2 fAdd (w2 fIx (wVar 0) (wC (.int 4))) (wC (.int 1))))
  (wsSeq (wsSet 4 (w2 fMod (wBf bInt (waCons (w2 fMul (wBf bInt (waCons (w2 fAdd (w2 fIx (wVar 0) (wC (.int 3))) (w2 fMul (wC (.int 7919)) (w2 fIx (wVar 0) (wC (.int 4))))) waNil)) (wC (.int 40692))) waNil)) (wC (.int 2147483399))))
  (wsSeq (wsSet 4 (w2 fMod (wBf bInt (waCons (w2 fMul (wVar 4) (w2 fAdd (w2 fDiv (wVar 4) (wC (.int 1009))) (wC (.int 30011)))) waNil)) (wC (.int 2147483647))))
  (wsRetI (w2 fMod (wBf bInt (waCons (w2 fDiv (wVar 4) (wC (.int 32))) waNil)) (wVar 1)))))))
theorem s_drawA {cells : List Int} {pos : Nat} {big mix cnt m : Int} {c : SV} {q : D → D → Prop} {x : Str → D → Prop} (m0 : 0 < m) (m1 : m < 2 ^ 64) (k : ∀ (r : Int) (h' : D), HandOk h' → 0 ≤ r → r < m → q (.int r) h') :
    drawA [.pa (.list [.list (ilD cells), .int (pos : Int), .int big, .int mix, .int cnt]), .pr (.int m), c, .un, .un] ⟨fun ρ => paOf ρ (q .none), fun d ρ => paOf ρ (q d), fun _ => False, fun _ => False, fun n ρ => paOf ρ (x n)⟩ := by
  refine Exists.intro _ (And.intro rfl ?_)
  by_cases hb : 0 < big
  · refine ifT (bT hb) ?_
    have d1 := dOk64 (i := big) m0 m1
    (repeat (first | refine Exists.intro _ (And.intro rfl ?_) | (refine And.intro ?_ ?_; solve | rfl | exact shaped_int _ | exact shaped_none | exact shaped_bool _ | exact Nat.le_of_ble_eq_true rfl | exact And.intro (Nat.le_of_ble_eq_true rfl) rfl | exact And.intro (And.intro (Nat.le_of_ble_eq_true rfl) (Nat.le_of_ble_eq_true rfl)) (And.intro rfl rfl) | decide | (show (0 : Int) < _; decide) | exact mOkL (by decide) (by decide) | exact mOkR (by decide) (by decide) | exact dOk64 (by decide) (by decide) | assumption | (dsimp only [pOk]; decide) | (refine mOkL ?_ ?_ <;> (try dsimp only) <;> omega) | (refine mOkR ?_ ?_ <;> (try dsimp only) <;> omega) | (refine dOk64 ?_ ?_ <;> (try dsimp only) <;> omega) | ((try dsimp only) <;> omega))))
    exact k _ _ ⟨cells, pos, _, mix, cnt, rfl⟩ (Int.emod_nonneg _ (by omega)) (Int.emod_lt_of_pos _ m0)
  · refine ifF (bF hb) ?_
    have hn0 : 0 ≤ (mix + 7919 * (cnt + 1)) * 40692 % 2147483399 := Int.emod_nonneg _ (by decide)
    have hn1 : (mix + 7919 * (cnt + 1)) * 40692 % 2147483399 < 2147483399 := Int.emod_lt_of_pos _ (by decide)
    (repeat (first | refine Exists.intro _ (And.intro rfl ?_) | (refine And.intro ?_ ?_; solve | rfl | exact shaped_int _ | exact shaped_none | exact shaped_bool _ | exact Nat.le_of_ble_eq_true rfl | exact And.intro (Nat.le_of_ble_eq_true rfl) rfl | exact And.intro (And.intro (Nat.le_of_ble_eq_true rfl) (Nat.le_of_ble_eq_true rfl)) (And.intro rfl rfl) | decide | (show (0 : Int) < _; decide) | exact mOkL (by decide) (by decide) | exact mOkR (by decide) (by decide) | exact dOk64 (by decide) (by decide) | assumption | (dsimp only [pOk]; decide) | (refine mOkL ?_ ?_ <;> (try dsimp only) <;> omega) | (refine mOkR ?_ ?_ <;> (try dsimp only) <;> omega) | (refine dOk64 ?_ ?_ <;> (try dsimp only) <;> omega) | ((try dsimp only) <;> omega))))
    exact k _ _ ⟨cells, pos, _, mix, _, rfl⟩ (Int.emod_nonneg _ (by omega)) (Int.emod_lt_of_pos _ m0)
theorem s_draw {h : D} {m : Int} {q : D → D → Prop} {x : Str → D → Prop} (hh : HandOk h) (m0 : 0 < m) (m1 : m < 2 ^ 64) (k : ∀ (r : Int) (h' : D), HandOk h' → 0 ≤ r → r < m → q (.int r) h') : S_draw h [.int m] q x := by
  obtain ⟨cells, pos, big, mix, cnt, rfl⟩ := hh
  refine Exists.intro _ (And.intro rfl (And.intro (shaped_int _) (And.intro (shaped_int _) ?_)))
  have out : ∀ c, drawA [.pa (.list [.list (ilD cells), .int (pos : Int), .int big, .int mix, .int cnt]), .pr (.int m), c, .un, .un] ⟨fun ρ => paOf ρ (q .none), fun d ρ => paOf ρ (q d), fun _ => False, fun _ => False, fun n ρ => paOf ρ (x n)⟩ := fun c => s_drawA m0 m1 k
  by_cases hb : big = 0
  · refine ifT (eT hb) ?_
    (repeat (first | refine Exists.intro _ (And.intro rfl ?_) | (refine And.intro ?_ ?_; solve | rfl | exact shaped_int _ | exact shaped_none | exact shaped_bool _ | exact Nat.le_of_ble_eq_true rfl | exact And.intro (Nat.le_of_ble_eq_true rfl) rfl | exact And.intro (And.intro (Nat.le_of_ble_eq_true rfl) (Nat.le_of_ble_eq_true rfl)) (And.intro rfl rfl) | decide | (show (0 : Int) < _; decide) | exact mOkL (by decide) (by decide) | exact mOkR (by decide) (by decide) | exact dOk64 (by decide) (by decide) | assumption | (dsimp only [pOk]; decide) | (refine mOkL ?_ ?_ <;> (try dsimp only) <;> omega) | (refine mOkR ?_ ?_ <;> (try dsimp only) <;> omega) | (refine dOk64 ?_ ?_ <;> (try dsimp only) <;> omega) | ((try dsimp only) <;> omega))))
    by_cases hp : (pos : Int) < (cells.map (fun z => D.int z)).length
    · refine ifT (bT hp) ?_
      have hp' : pos < cells.length := by simpa using hp
      have hc : atI (ilD cells) (pos : Int) = some (.int cells[pos]) := atI_nat (by simp [ilD, hp'])
      (repeat (first | refine Exists.intro _ (And.intro rfl ?_) | (refine And.intro ?_ ?_; solve | rfl | exact shaped_int _ | exact shaped_none | exact shaped_bool _ | exact Nat.le_of_ble_eq_true rfl | exact And.intro (Nat.le_of_ble_eq_true rfl) rfl | exact And.intro (And.intro (Nat.le_of_ble_eq_true rfl) (Nat.le_of_ble_eq_true rfl)) (And.intro rfl rfl) | decide | (show (0 : Int) < _; decide) | exact mOkL (by decide) (by decide) | exact mOkR (by decide) (by decide) | exact dOk64 (by decide) (by decide) | assumption | (dsimp only [pOk]; decide) | (refine mOkL ?_ ?_ <;> (try dsimp only) <;> omega) | (refine mOkR ?_ ?_ <;> (try dsimp only) <;> omega) | (refine dOk64 ?_ ?_ <;> (try dsimp only) <;> omega) | ((try dsimp only) <;> omega))))
      refine Exists.intro _ (And.intro hc ?_)
      (repeat (first | refine Exists.intro _ (And.intro rfl ?_) | (refine And.intro ?_ ?_; solve | rfl | exact shaped_int _ | exact shaped_none | exact shaped_bool _ | exact Nat.le_of_ble_eq_true rfl | exact And.intro (Nat.le_of_ble_eq_true rfl) rfl | exact And.intro (And.intro (Nat.le_of_ble_eq_true rfl) (Nat.le_of_ble_eq_true rfl)) (And.intro rfl rfl) | decide | (show (0 : Int) < _; decide) | exact mOkL (by decide) (by decide) | exact mOkR (by decide) (by decide) | exact dOk64 (by decide) (by decide) | assumption | (dsimp only [pOk]; decide) | (refine mOkL ?_ ?_ <;> (try dsimp only) <;> omega) | (refine mOkR ?_ ?_ <;> (try dsimp only) <;> omega) | (refine dOk64 ?_ ?_ <;> (try dsimp only) <;> omega) | ((try dsimp only) <;> omega))))
      have out' : ∀ (b' mx : Int) c, drawA [.pa (.list [.list (ilD cells), .int ((pos + 1 : Nat) : Int), .int b', .int mx, .int cnt]), .pr (.int m), c, .un, .un] ⟨fun ρ => paOf ρ (q .none), fun d ρ => paOf ρ (q d), fun _ => False, fun _ => False, fun n ρ => paOf ρ (x n)⟩ := fun b' mx c => s_drawA m0 m1 k
      by_cases hge : (10 : Int) ^ 15 ≤ cells[pos]
      · refine ifT (bT hge) ?_
        exact And.intro rfl (And.intro rfl (And.intro rfl (Exists.intro 2 (And.intro rfl (out' _ _ _)))))
      · refine ifF (bF hge) ?_
        exact out' _ _ _
    · refine ifF (bF hp) ?_
      exact out _
  · refine ifF (eF hb) ?_
    refine ifF (by decide) ?_
    exact out _
theorem s_some {h : D} {ds : List D} {q : D → D → Prop} {x : Str → D → Prop} (hh : HandOk h) (m0 : ds ≠ []) (m1 : ds.length < 2 ^ 60) (hi : ∀ d ∈ ds, imm d = true) (k : ∀ (d h' : D), HandOk h' → d ∈ ds → q d h') : S_some h [.list ds] q x := by
  have hl : 0 < ds.length := List.length_pos_iff.mpr m0
  refine And.intro rfl (And.intro rfl ?_)
  refine s_draw (m := (ds.length : Int)) hh (by omega) (by omega) fun r h' hh' r0 r1 => ?_
  have hr : r.toNat < ds.length := by omega
  have e : atI ds r = some ds[r.toNat] := by
    have := atI_nat (xs := ds) (i := r.toNat) (List.getElem?_eq_getElem hr)
    rwa [Int.toNat_of_nonneg r0] at this
  exact Exists.intro _ (And.intro e (And.intro (hi _ (List.getElem_mem hr)) (k _ _ hh' (List.getElem_mem hr))))
/-- the hand, as it is made of a script -/
def handLc : WE := wLc (wiSc 0 60) (gNm 2) wtYes (w2 fMod (wBf bAbs (waCons (wBf bInt (waCons (wVar 2) waNil)) waNil)) (w2 fPow (wC (.int 10)) (wC (.int 36)))) [2]
theorem handLc_go {s0 : SV} {q : List D → Rho → Prop} (g : Int → Int) (hg : g = fun z => ((z.natAbs : Nat) : Int) % 10 ^ 36) : ∀ (ns acc : List Int), acc.length + ns.length ≤ 1000 → (q (ilD (acc ++ ns.map g)) [s0, .un, .un]) →
    wLcL (gNm 2) wtYes (w2 fMod (wBf bAbs (waCons (wBf bInt (waCons (wVar 2) waNil)) waNil)) (w2 fPow (wC (.int 10)) (wC (.int 36)))) [2] (ns.map fun z => .int z) (ilD acc) [s0, .un, .un] q
  | [], acc, _, h => by
    have e : q (ilD acc) [s0, .un, .un] := by simpa using h
    exact e
  | n :: ns, acc, hl, h => by
    simp only [List.length_cons] at hl
    refine And.intro rfl (And.intro (And.intro (Nat.le_of_ble_eq_true rfl) rfl) ?_)
    refine And.intro (And.intro (by decide) (And.intro (by decide) (by decide))) (And.intro (show (0 : Int) < 10 ^ 36 by decide) ?_)
    refine And.intro ?_ ?_
    · have : (1000 : Nat) < sizeLine := by decide
      simp [ilD]
      omega
    · have := handLc_go (s0 := s0) (q := q) g hg ns (acc ++ [g n]) (by simp; omega) (by simpa using h)
      subst hg
      have e : ilD (acc ++ [((n.natAbs : Nat) : Int) % 10 ^ 36]) = ilD acc ++ [.int (((n.natAbs : Nat) : Int) % 10 ^ 36)] := by simp [ilD]
      rw [e] at this
      exact this
def handW (c : Int) : WS :=
  (wsSeq (wsSet 1 handLc)
  (wsRetHd 1 (waPl 1 (waCons (wC (.int 0)) (waCons (wC (.int 0)) (waCons (w2 fAdd (wC (.int c)) (w2 fMul (wC (.int 31)) (wBf bLen (waCons (wVar 1) waNil)))) (waCons (wC (.int 0)) waNil)))))))
def S_handW (c : Int) : FSS := fun ns q => handW c (rhoS ["script", "cells", "cell"] ns) ⟨fun _ => q .none, fun d _ => q d, fun _ => False, fun _ => False, fun _ _ => False⟩
theorem s_hand {c : Int} {ns : List Int} {q : D → Prop} (k : ∀ h, HandOk h → q h) : S_handW c ns q := by
  refine handLc_go (s0 := .sc ns) _ rfl (ns.take 60) [] (by simp; omega) ?_
  refine And.intro (And.intro (Nat.le_of_ble_eq_true rfl) ?_) ?_
  · show (imm _ || immL _) = true
    rw [imm_ints, Bool.or_true]
  · refine And.intro rfl (And.intro (mOkL (by decide) (by decide)) (And.intro (Exists.intro _ rfl) (And.intro rfl (And.intro (show 5 ≤ sizeLine by decide) ?_))))
    exact k _ ⟨_, 0, 0, _, 0, rfl⟩
end L3

namespace L3
open PySem PySem.Spec PyProof.Rows L2

/-! ### comprehensions and loops over known values -/
def blD (bs : List Bool) : List D := bs.map .bool
theorem map_il {α : Type} {g : α → Int} {xs : List α} : (xs.map fun z => D.int (g z)) = ilD (xs.map g) := by simp [ilD]
theorem map_bl {α : Type} {g : α → Bool} {xs : List α} : (xs.map fun z => D.bool (g z)) = blD (xs.map g) := by simp [blD]
theorem ilD_len (ns : List Int) : (ilD ns).length = ns.length := by simp [ilD]
theorem ilD_app (a b : List Int) : ilD a ++ ilD b = ilD (a ++ b) := by simp [ilD]
theorem ilD_one (a : Int) : [D.int a] = ilD [a] := rfl
theorem ilD_nil : ([] : List D) = ilD [] := rfl
theorem ilD_imm {d : D} {ns : List Int} (h : d ∈ ilD ns) : imm d = true := by
  obtain ⟨z, _, rfl⟩ := List.mem_map.mp h
  rfl
theorem ilD_get {ns : List Int} {i : Nat} {z : Int} (h : ns[i]? = some z) : (ilD ns)[i]? = some (.int z) := by simp [ilD, h]
theorem rng_imm {lo : Int} {n : Nat} {d : D} (h : d ∈ rngL lo n) : imm d = true := by
  obtain ⟨z, _, rfl⟩ := List.mem_map.mp h
  rfl
theorem set_un {ρ : Rho} {i : Nat} {s : SV} (h : ρ[i]? = some s) : ρ.set i s = ρ := by
  obtain ⟨hi, e⟩ := List.getElem?_eq_some_iff.mp h
  rw [← e]
  exact List.set_getElem_self hi
section
variable {ρ : Rho} {w : WE} {i : Nat} {q : List D → Rho → Prop} {t : WT}
/-- [f d for d in ds] -/
theorem lc_map (f : D → D) (hi : i < ρ.length) (hu : ρ[i]? = some .un) : ∀ (ds acc : List D), acc.length + ds.length ≤ sizeLine → (∀ d ∈ ds, imm d = true) →
    (∀ d ∈ ds, ∀ q' : D → Rho → Prop, q' (f d) (ρ.set i (.ow d)) → w (ρ.set i (.ow d)) q' NE) → q (acc ++ ds.map f) ρ → wLcL (gNm i) wtYes w [i] ds acc ρ q
  | [], acc, _, _, _, h => by rw [List.map_nil, List.append_nil] at h; exact h
  | d :: ds, acc, hl, hm, hw, h => by
    refine ⟨hm d List.mem_cons_self, ⟨hi, hm d List.mem_cons_self⟩, ?_⟩
    show (if true = true then w (ρ.set i (.ow d)) _ NE else wLcL (gNm i) wtYes w [i] ds acc (unS (ρ.set i (.ow d)) [i]) q)
    rw [if_pos rfl]
    refine hw d List.mem_cons_self _ ⟨by rw [List.length_cons] at hl; omega, ?_⟩
    have e : unS (ρ.set i (.ow d)) [i] = ρ := by
      show (ρ.set i (.ow d)).set i .un = ρ
      rw [List.set_set]
      exact set_un hu
    rw [e]
    refine lc_map f hi hu ds (acc ++ [f d]) (by rw [List.length_cons] at hl; rw [List.length_append, List.length_singleton]; omega) (fun x m => hm x (List.mem_cons_of_mem _ m)) (fun x m => hw x (List.mem_cons_of_mem _ m)) ?_
    rw [List.append_assoc]
    exact h
/-- [f d for d in ds if p d] -/
theorem lc_filter (f : D → D) (p : D → Bool) (hi : i < ρ.length) (hu : ρ[i]? = some .un) : ∀ (ds acc : List D), acc.length + ds.length ≤ sizeLine → (∀ d ∈ ds, imm d = true) →
    (∀ d ∈ ds, ∀ q' : Bool → Rho → Prop, q' (p d) (ρ.set i (.ow d)) → t (ρ.set i (.ow d)) q' NE) →
    (∀ d ∈ ds, p d = true → ∀ q' : D → Rho → Prop, q' (f d) (ρ.set i (.ow d)) → w (ρ.set i (.ow d)) q' NE) → q (acc ++ (ds.filter p).map f) ρ → wLcL (gNm i) t w [i] ds acc ρ q
  | [], acc, _, _, _, _, h => by rw [List.filter_nil, List.map_nil, List.append_nil] at h; exact h
  | d :: ds, acc, hl, hm, ht, hw, h => by
    rw [List.length_cons] at hl
    have e : unS (ρ.set i (.ow d)) [i] = ρ := by
      show (ρ.set i (.ow d)).set i .un = ρ
      rw [List.set_set]
      exact set_un hu
    refine ⟨hm d List.mem_cons_self, ⟨hi, hm d List.mem_cons_self⟩, ?_⟩
    refine ht d List.mem_cons_self _ ?_
    by_cases hp : p d = true
    · rw [if_pos hp]
      refine hw d List.mem_cons_self hp _ ⟨by omega, ?_⟩
      rw [e]
      refine lc_filter f p hi hu ds (acc ++ [f d]) (by rw [List.length_append, List.length_singleton]; omega) (fun x m => hm x (List.mem_cons_of_mem _ m)) (fun x m => ht x (List.mem_cons_of_mem _ m)) (fun x m => hw x (List.mem_cons_of_mem _ m)) ?_
      rw [List.append_assoc]
      rwa [List.filter_cons_of_pos hp] at h
    · rw [if_neg hp, e]
      refine lc_filter f p hi hu ds acc (by omega) (fun x m => hm x (List.mem_cons_of_mem _ m)) (fun x m => ht x (List.mem_cons_of_mem _ m)) (fun x m => hw x (List.mem_cons_of_mem _ m)) ?_
      rwa [List.filter_cons_of_neg hp] at h
/-- over ints -/
theorem lc_ints {ns : List Int} (h : Int → D) (hi : i < ρ.length) (hu : ρ[i]? = some .un) (hl : ns.length ≤ sizeLine)
    (hw : ∀ z ∈ ns, ∀ q' : D → Rho → Prop, q' (h z) (ρ.set i (.ow (.int z))) → w (ρ.set i (.ow (.int z))) q' NE) (k : q (ns.map h) ρ) : wLcL (gNm i) wtYes w [i] (ilD ns) [] ρ q := by
  refine lc_map (fun d => match d with | .int z => h z | _ => .none) hi hu (ilD ns) [] (by rw [ilD_len]; exact (Nat.zero_add _).symm ▸ hl) (fun d m => ilD_imm m) (fun d m q' hq => ?_) ?_
  · obtain ⟨z, hz, rfl⟩ := List.mem_map.mp m
    exact hw z hz q' hq
  · rw [List.nil_append, ilD, List.map_map]
    exact k
theorem lc_intsF {ns : List Int} (h : Int → D) (p : Int → Bool) (hi : i < ρ.length) (hu : ρ[i]? = some .un) (hl : ns.length ≤ sizeLine)
    (ht : ∀ z ∈ ns, ∀ q' : Bool → Rho → Prop, q' (p z) (ρ.set i (.ow (.int z))) → t (ρ.set i (.ow (.int z))) q' NE)
    (hw : ∀ z ∈ ns, p z = true → ∀ q' : D → Rho → Prop, q' (h z) (ρ.set i (.ow (.int z))) → w (ρ.set i (.ow (.int z))) q' NE) (k : q ((ns.filter p).map h) ρ) : wLcL (gNm i) t w [i] (ilD ns) [] ρ q := by
  refine lc_filter (fun d => match d with | .int z => h z | _ => .none) (fun d => match d with | .int z => p z | _ => false) hi hu (ilD ns) [] (by rw [ilD_len]; exact (Nat.zero_add _).symm ▸ hl) (fun d m => ilD_imm m) (fun d m q' hq => ?_) (fun d m hp q' hq => ?_) ?_
  · obtain ⟨z, hz, rfl⟩ := List.mem_map.mp m
    exact ht z hz q' hq
  · obtain ⟨z, hz, rfl⟩ := List.mem_map.mp m
    exact hw z hz hp q' hq
  · rw [List.nil_append, ilD, List.filter_map, List.map_map]
    exact k
theorem lc_rng {lo : Int} {n : Nat} (h : Nat → D) (hi : i < ρ.length) (hu : ρ[i]? = some .un) (hl : n ≤ sizeLine)
    (hw : ∀ j < n, ∀ q' : D → Rho → Prop, q' (h j) (ρ.set i (.ow (.int (lo + (j : Nat))))) → w (ρ.set i (.ow (.int (lo + (j : Nat))))) q' NE) (k : q ((List.range n).map h) ρ) : wLcL (gNm i) wtYes w [i] (rngL lo n) [] ρ q := by
  refine lc_map (fun d => match d with | .int z => h (z - lo).toNat | _ => .none) hi hu (rngL lo n) [] (by rw [rngL_len]; exact (Nat.zero_add _).symm ▸ hl) (fun d m => rng_imm m) (fun d m q' hq => ?_) ?_
  · obtain ⟨j, hj, rfl⟩ := List.mem_map.mp m
    have e : (lo + (j : Nat) - lo).toNat = j := by omega
    have hq : q' (h (lo + (j : Nat) - lo).toNat) _ := hq
    rw [e] at hq
    exact hw j (List.mem_range.mp hj) q' hq
  · rw [List.nil_append, rngL, List.map_map]
    refine (congrArg (q · ρ) ?_).mp k
    refine List.map_congr_left fun j _ => ?_
    show h j = h (lo + (j : Nat) - lo).toNat
    rw [show (lo + (j : Nat) - lo).toNat = j by omega]
theorem lc_rngF {lo : Int} {n : Nat} (h : Nat → D) (p : Nat → Bool) (hi : i < ρ.length) (hu : ρ[i]? = some .un) (hl : n ≤ sizeLine)
    (ht : ∀ j < n, ∀ q' : Bool → Rho → Prop, q' (p j) (ρ.set i (.ow (.int (lo + (j : Nat))))) → t (ρ.set i (.ow (.int (lo + (j : Nat))))) q' NE)
    (hw : ∀ j < n, p j = true → ∀ q' : D → Rho → Prop, q' (h j) (ρ.set i (.ow (.int (lo + (j : Nat))))) → w (ρ.set i (.ow (.int (lo + (j : Nat))))) q' NE) (k : q (((List.range n).filter p).map h) ρ) : wLcL (gNm i) t w [i] (rngL lo n) [] ρ q := by
  have e : ∀ j : Nat, (lo + (j : Nat) - lo).toNat = j := fun j => by omega
  refine lc_filter (fun d => match d with | .int z => h (z - lo).toNat | _ => .none) (fun d => match d with | .int z => p (z - lo).toNat | _ => false) hi hu (rngL lo n) [] (by rw [rngL_len]; exact (Nat.zero_add _).symm ▸ hl) (fun d m => rng_imm m) (fun d m q' hq => ?_) (fun d m hp q' hq => ?_) ?_
  · obtain ⟨j, hj, rfl⟩ := List.mem_map.mp m
    refine ht j (List.mem_range.mp hj) q' ?_
    have hq : q' (p (lo + (j : Nat) - lo).toNat) _ := hq
    rwa [e] at hq
  · obtain ⟨j, hj, rfl⟩ := List.mem_map.mp m
    have hp : p (lo + (j : Nat) - lo).toNat = true := hp
    have hq : q' (h (lo + (j : Nat) - lo).toNat) _ := hq
    rw [e] at hp hq
    exact hw j (List.mem_range.mp hj) hp q' hq
  · rw [List.nil_append, rngL, List.filter_map, List.map_map]
    refine (congrArg (q · ρ) ?_).mp k
    have e1 : ∀ f : Nat → Bool, (∀ j, f j = p j) → (List.range n).filter p = (List.range n).filter f := fun f hf => by rw [funext hf]
    rw [e1 _ (fun j => by show p (lo + (j : Nat) - lo).toNat = p j; rw [e])]
    refine List.map_congr_left fun j _ => ?_
    show h j = h (lo + (j : Nat) - lo).toNat
    rw [e]
end
section
variable {ρ : Rho} {w : WS} {g : WG} {nx bk ct : Rho → Prop} {rt : D → Rho → Prop} {ex : EXT}
/-- a loop with what holds behind so many turns -/
theorem r_loopN (I : Nat → Rho → Prop) {ds : List D} (hi : ∀ d ∈ ds, imm d = true) (h0 : I 0 ρ)
    (hs : ∀ (j : Nat) (d : D), ds[j]? = some d → ∀ ρ (K : Rho → Prop), I j ρ → (∀ ρ', I (j + 1) ρ' → K ρ') → g d ρ fun ρ1 => w ρ1 ⟨K, rt, nx, K, ex⟩) (hn : ∀ ρ, I ds.length ρ → nx ρ) : loopW g w ds ρ ⟨nx, rt, bk, ct, ex⟩ := by
  have key : ∀ (es : List D) (j : Nat), j + es.length = ds.length → (∀ m : Nat, es[m]? = ds[j + m]?) → ∀ ρ, I j ρ → loopW g w es ρ ⟨nx, rt, bk, ct, ex⟩ := by
    intro es
    induction es with
    | nil =>
      intro j hl _ ρ hI
      rw [List.length_nil, Nat.add_zero] at hl
      exact hn ρ (hl ▸ hI)
    | cons d es ih =>
      intro j hl he ρ hI
      have e0 : ds[j]? = some d := by have := he 0; simpa using this.symm
      refine ⟨hi d (List.mem_of_getElem? e0), ?_⟩
      refine hs j d e0 ρ _ hI fun ρ' h' => ih (j + 1) (by rw [List.length_cons] at hl; omega) (fun m => ?_) ρ' h'
      have := he (m + 1)
      rw [List.getElem?_cons_succ] at this
      rw [this, show j + 1 + m = j + (m + 1) by omega]
  exact key ds 0 (Nat.zero_add _) (fun m => by rw [Nat.zero_add]) ρ h0
theorem rng_get {lo : Int} {n j : Nat} {d : D} (h : (rngL lo n)[j]? = some d) : j < n ∧ d = .int (lo + (j : Nat)) := by
  have hj : j < n := by have := (List.getElem?_eq_some_iff.mp h).1; rwa [rngL_len] at this
  refine ⟨hj, ?_⟩
  unfold rngL at h
  rw [List.getElem?_map, List.getElem?_range hj] at h
  exact (Option.some.inj h).symm
theorem r_loopR {i : Nat} (I : Nat → Rho → Prop) {lo : Int} {n : Nat} (h0 : I 0 ρ)
    (hs : ∀ j, j < n → ∀ ρ (K : Rho → Prop), I j ρ → (∀ ρ', I (j + 1) ρ' → K ρ') → gNm i (.int (lo + (j : Nat))) ρ fun ρ1 => w ρ1 ⟨K, rt, nx, K, ex⟩) (hn : ∀ ρ, I n ρ → nx ρ) : loopW (gNm i) w (rngL lo n) ρ ⟨nx, rt, bk, ct, ex⟩ := by
  refine r_loopN I (fun d m => rng_imm m) h0 (fun j d hd ρ K hI k => ?_) fun ρ h => hn ρ (by rwa [rngL_len] at h)
  obtain ⟨hj, rfl⟩ := rng_get hd
  exact hs j hj ρ K hI k
end
section
variable {k : D → Prop}
theorem r_sumL {ns : List Int} (h : k (.int ns.sum)) : bSum [.list (ilD ns)] k := by
  unfold bSum on1 onIT ilD
  dsimp only
  rw [intsOf_map]
  exact h
theorem r_sumT {ns : List Int} (h : k (.int ns.sum)) : bSum [.tuple (ilD ns)] k := by
  unfold bSum on1 onIT ilD
  dsimp only
  rw [intsOf_map]
  exact h
theorem r_allB {bs : List Bool} (h : k (.bool (bs.all id))) : bAll [.list (blD bs)] k := by
  unfold bAll on1 onBl blD
  dsimp only
  rw [boolsOf_map]
  exact h
theorem r_anyB {bs : List Bool} (h : k (.bool (bs.any id))) : bAny [.list (blD bs)] k := by
  unfold bAny on1 onBl blD
  dsimp only
  rw [boolsOf_map]
  exact h
theorem r_sortL {ns : List Int} (h : ∀ ms : List Int, ms.Perm ns → ms.Pairwise (· ≤ ·) → k (.list (ilD ms))) : bSorted [.list (ilD ns)] k := by
  unfold bSorted on1 onIT ilD
  dsimp only
  rw [intsOf_map]
  exact h
theorem r_sortT {ns : List Int} (h : ∀ ms : List Int, ms.Perm ns → ms.Pairwise (· ≤ ·) → k (.list (ilD ms))) : bSorted [.tuple (ilD ns)] k := by
  unfold bSorted on1 onIT ilD
  dsimp only
  rw [intsOf_map]
  exact h
end
theorem all_map_id {α : Type} (f : α → Bool) (xs : List α) : (xs.map f).all id = xs.all f := by simp [List.all_map]
theorem any_map_id {α : Type} (f : α → Bool) (xs : List α) : (xs.map f).any id = xs.any f := by simp [List.any_map]
/-! ### sorted lists of ints -/
theorem sorted_self {ns ms : List Int} (hp : ms.Perm ns) (hs : ms.Pairwise (· ≤ ·)) (h : ns.Pairwise (· ≤ ·)) : ms = ns := hp.eq_of_pairwise (fun a b _ _ h1 h2 => Int.le_antisymm h1 h2) hs h
theorem dOkP {i j : Int} (h1 : 0 < j) (h2 : j < 2 ^ 8000) : dOk i j := by
  refine ⟨h1, ?_⟩
  have : j.natAbs < 2 ^ 8000 := by omega
  have := log2_lt this (by decide)
  omega
end L3

namespace L3
open PySem PySem.Spec PyProof.Rows L2
section
variable {ρ : Rho} {nx bk ct : Rho → Prop} {rt : D → Rho → Prop} {ex E : EXT} {q : D → Rho → Prop} {qi : List D → Rho → Prop} {w : WE} {wa wb : WE} {i : Nat} {d : D} {k : D → Prop} {a b : Bool} {x y : Int} {b0 : D → Bool}
theorem r_is (h : wa ρ (fun d ρ1 => q (.bool (b0 d)) ρ1) E) : wIs b0 wa ρ q E := h
theorem r_andV (h : wa ρ (fun d ρ1 => asB d fun c => if c = true then wb ρ1 q E else q (.bool false) ρ1) E) : wAndV wa wb ρ q E := h
theorem r_orV (h : wa ρ (fun d ρ1 => asB d fun c => if c = true then q (.bool true) ρ1 else wb ρ1 q E) E) : wOrV wa wb ρ q E := h
theorem r_notV (h : wa ρ (fun d ρ1 => asB d fun c => q (.bool (!c)) ρ1) E) : wNotV wa ρ q E := h
theorem r_lc {wi : WI} {g : WG} {t : WT} {is : List Nat} (h : wi ρ (fun ds ρ1 => wLcL g t w is ds [] (unS ρ1 is) fun acc ρ2 => q (.list acc) ρ2) E) : wLc wi g t w is ρ q E := h
theorem r_unS0 {ρ' : Rho} {g : WG} {t : WT} {ds acc : List D} (e : ρ.set i .un = ρ') (h : wLcL g t w [i] ds acc ρ' qi) : wLcL g t w [i] ds acc (unS ρ [i]) qi := by
  show wLcL g t w [i] ds acc (ρ.set i .un) qi
  rw [e]; exact h
theorem r_iL (h : wa ρ (fun d ρ1 => match d with | .list ds => qi ds ρ1 | .fl ds => qi ds ρ1 | _ => False) E) : wiList wa ρ qi E := h
theorem r_iS (h : wa ρ (fun d ρ1 => match d with | .list ds => qi ds ρ1 | .tuple ds => qi ds ρ1 | .fl ds => qi ds ρ1 | _ => False) E) : wiSeq wa ρ qi E := h
theorem r_iT (h : wa ρ (fun d ρ1 => match d with | .tuple ds => qi ds ρ1 | _ => False) E) : wiTup wa ρ qi E := h
theorem r_rg1 {n : Int} (h1 : -(2 ^ 62) ≤ n ∧ n < 2 ^ 62) (h : qi (rngL 0 n.toNat) ρ) : (match ([.int n] : List D) with
  | [.int j] => (-(2 ^ 62) ≤ j ∧ j < 2 ^ 62) ∧ qi (rngL 0 j.toNat) ρ
  | _ => False) := ⟨h1, h⟩
theorem r_R1 (h : wa ρ (fun d ρ1 => match ([d] : List D) with
  | [.int j] => (-(2 ^ 62) ≤ j ∧ j < 2 ^ 62) ∧ qi (rngL 0 j.toNat) ρ1
  | _ => False) E) : wiR1 (waCons wa waNil) ρ qi E := h
theorem r_R2 (h : wa ρ (fun c ρ0 => wb ρ0 (fun d ρ1 => match ([c, d] : List D) with
  | [.int i, .int j] => (-(2 ^ 62) ≤ i ∧ i < 2 ^ 62 ∧ -(2 ^ 62) ≤ j ∧ j < 2 ^ 62) ∧ qi (rngL i (j - i).toNat) ρ1
  | _ => False) E) E) : wiR2 (waCons wa (waCons wb waNil)) ρ qi E := h
theorem r_isB (h : k (.bool (decide (a = b)))) : fIsB (.bool a) (.bool b) k := h
theorem r_notB (h : k (.bool (!decide (a = b)))) : fNotB (.bool a) (.bool b) k := h
theorem r_isN (h : k (.bool (isNone d))) : fIsN d .none k := ⟨rfl, h⟩
theorem r_lstL {xs : List D} (h : k (.list xs)) : bLst [.list xs] k := h
theorem r_lstT {xs : List D} (h : k (.list xs)) : bLst [.tuple xs] k := h
theorem r_absI (h : k (.int (x.natAbs : Int))) : bAbs [.int x] k := h
theorem r_addT {xs ys : List D} (h0 : xs.length + ys.length ≤ sizeLine) (h : k (.tuple (xs ++ ys))) : fAdd (.tuple xs) (.tuple ys) k := ⟨h0, h⟩
theorem r_addL {xs ys : List D} (h0 : xs.length + ys.length ≤ sizeLine) (h : k (.list (xs ++ ys))) : fAdd (.list xs) (.list ys) k := ⟨h0, h⟩
theorem r_eqL {xs ys : List Int} (h : k (.bool (decide (xs = ys)))) : fEq (.list (ilD xs)) (.list (ilD ys)) k := ⟨shaped_ints _, shaped_ints _, by rw [eqv_list]; exact h⟩
theorem r_neL {xs ys : List Int} (h : k (.bool (!decide (xs = ys)))) : fNe (.list (ilD xs)) (.list (ilD ys)) k := ⟨shaped_ints _, shaped_ints _, by rw [eqv_list]; exact h⟩
theorem r_eqT {xs ys : List Int} (h : k (.bool (decide (xs = ys)))) : fEq (.tuple (ilD xs)) (.tuple (ilD ys)) k := ⟨shaped_intsT _, shaped_intsT _, by rw [eqv_tup]; exact h⟩
theorem r_neT {xs ys : List Int} (h : k (.bool (!decide (xs = ys)))) : fNe (.tuple (ilD xs)) (.tuple (ilD ys)) k := ⟨shaped_intsT _, shaped_intsT _, by rw [eqv_tup]; exact h⟩
theorem r_ifS {c : Bool} {A B : Prop} (hT : c = true → A) (hF : c = false → B) : if c = true then A else B := by
  cases c with
  | true => rw [if_pos rfl]; exact hT rfl
  | false => rw [if_neg Bool.false_ne_true]; exact hF rfl
def fzK (q : D → Rho → Prop) (d : D) (ρ : Rho) : Prop := match d with
  | .list ds => immL ds = true ∧ q (.fl ds) ρ
  | d => q d ρ
theorem r_fz (h : w ρ (fun d ρ1 => fzK q d ρ1) E) : wFz w ρ q E := h
theorem r_fzI (hi : imm d = true) (h : q d ρ) : fzK q d ρ := by
  cases d with
  | list ds => simp [imm] at hi
  | _ => exact h
theorem r_fzL {ds : List D} (hi : immL ds = true) (h : q (.fl ds) ρ) : fzK q (.list ds) ρ := ⟨hi, h⟩
theorem r_immL {ds : List D} {Q : Prop} (h1 : immL ds = true) (h : Q) : immL ds = true ∧ Q := ⟨h1, h⟩
theorem r_vfzL {ds : List D} (e : ρ[i]? = some (.ow (.list ds))) (h1 : immL ds = true) (h : q (.fl ds) (ρ.set i (.ow (.fl ds)))) : wVarFz i ρ q E := by
  unfold wVarFz
  rw [e]
  exact ⟨h1, h⟩
theorem r_vfzP {d : D} (e : ρ[i]? = some (.pr d)) (h1 : imm d = true) (h : q d ρ) : wVarFz i ρ q E := by
  unfold wVarFz
  rw [e]
  exact ⟨h1, h⟩
theorem r_vfzF {ds : List D} (e : ρ[i]? = some (.ow (.fl ds))) (h1 : immL ds = true) (h : q (.fl ds) ρ) : wVarFz i ρ q E := by
  unfold wVarFz
  rw [e]
  exact ⟨h1, h⟩
theorem r_lenF {xs : List D} (h : k (.int xs.length)) : bLen [.fl xs] k := h
theorem r_tupF {xs : List D} (h : k (.tuple xs)) : bTup [.fl xs] k := h
theorem r_lstF {xs : List D} (h : k (.list xs)) : bLst [.fl xs] k := h
theorem r_slF {xs : List D} {lo hi : Option Int} (h : k (.list (cutL xs lo hi))) : fSl (.fl xs) lo hi k := h
theorem r_ixF {xs : List D} {i : Int} {d : D} (e : atI xs i = some d) (h : k d) : fIx (.fl xs) (.int i) k := ⟨d, e, h⟩
theorem r_addFL {xs ys : List D} (h0 : xs.length + ys.length ≤ sizeLine) (h : k (.list (xs ++ ys))) : fAdd (.fl xs) (.list ys) k := ⟨h0, h⟩
theorem r_addLF {xs ys : List D} (h0 : xs.length + ys.length ≤ sizeLine) (h : k (.list (xs ++ ys))) : fAdd (.list xs) (.fl ys) k := ⟨h0, h⟩
theorem r_addFF {xs ys : List D} (h0 : xs.length + ys.length ≤ sizeLine) (h : k (.list (xs ++ ys))) : fAdd (.fl xs) (.fl ys) k := ⟨h0, h⟩
theorem r_popAt {we : WE} (h0 : isLst ρ i) (h : we ρ (fun k ρ1 => withList ρ1 i fun s xs => match k with
  | .int k => (-(2 ^ 63) ≤ k ∧ k < 2 ^ 63) ∧ ∃ j y, seqIndex? k xs.length = some j ∧ xs[j]? = some y ∧ imm y = true ∧ q y (ρ1.set i (s.put (.list (xs.eraseIdx j))))
  | _ => False) E) : wPopAt i we ρ q E := ⟨h0, h⟩
theorem r_isLst {s : SV} {xs : List D} (e : ρ[i]? = some s) (g : s.get = some (.list xs)) : isLst ρ i := by
  unfold isLst
  rw [e]
  dsimp only
  rw [g]
  trivial
theorem r_sumF {ns : List Int} (h : k (.int ns.sum)) : bSum [.fl (ilD ns)] k := by
  unfold bSum on1 onIT ilD
  dsimp only
  rw [intsOf_map]
  exact h
theorem r_sortF {ns : List Int} (h : ∀ ms : List Int, ms.Perm ns → ms.Pairwise (· ≤ ·) → k (.list (ilD ms))) : bSorted [.fl (ilD ns)] k := by
  unfold bSorted on1 onIT ilD
  dsimp only
  rw [intsOf_map]
  exact h
theorem r_neLn {xs : List Int} (h : k (.bool (!decide (xs = [])))) : fNe (.list (ilD xs)) (.list []) k := ⟨sh_ints _, sh_ints [], by rw [show ([] : List D) = ilD [] from rfl, eqv_list]; exact h⟩
def chK (g g' : Int → Int → Bool) (wc : WE) (q : D → Rho → Prop) (E : EXT) (x y : D) (ρ : Rho) : Prop := match x, y with
  | .int i, .int j => if g i j = true then wc ρ (fun u ρ3 => match u with | .int l => q (.bool (g' j l)) ρ3 | _ => False) E else q (.bool false) ρ
  | _, _ => False
theorem r_chain {g g' : Int → Int → Bool} {wc : WE} (h : wa ρ (fun x ρ1 => wb ρ1 (fun y ρ2 => chK g g' wc q E x y ρ2) E) E) : wChain g g' wa wb wc ρ q E := h
theorem r_chC {g g' : Int → Int → Bool} {z : Int} (h : q (.bool (g x y && g' y z)) ρ) : chK g g' (wC (.int z)) q E (.int x) (.int y) ρ := by
  show if g x y = true then q (.bool (g' y z)) ρ else q (.bool false) ρ
  cases hg : g x y with
  | true => rw [hg] at h; exact h
  | false => rw [hg] at h; exact h
theorem r_chV {g g' : Int → Int → Bool} {z : Int} {s : SV} (e : ρ[i]? = some s) (gs : s.get = some (.int z)) (h : q (.bool (g x y && g' y z)) ρ) : chK g g' (wVar i) q E (.int x) (.int y) ρ := by
  show if g x y = true then wVar i ρ _ E else q (.bool false) ρ
  cases hg : g x y with
  | true => rw [hg] at h; rw [if_pos rfl]; refine r_var e gs ?_; exact h
  | false => rw [hg] at h; exact h
theorem r_retN (h : rt .none ρ) : wsRetN ρ ⟨nx, rt, bk, ct, ex⟩ := h
end
/-! ### ints from low to high -/
def isI : D → Bool
  | .int _ => true
  | _ => false
def wthn (d : D) (lo hi : Int) : Bool := match d with
  | .int i => decide (lo ≤ i) && decide (i ≤ hi)
  | _ => false
theorem wthn_int {d : D} {lo hi : Int} (h : wthn d lo hi = true) : ∃ i, d = .int i ∧ lo ≤ i ∧ i ≤ hi := by
  cases d with
  | int i => simp only [wthn, Bool.and_eq_true, decide_eq_true_eq] at h; exact ⟨i, rfl, h.1, h.2⟩
  | _ => simp [wthn] at h
theorem wthn_of {i lo hi : Int} (h1 : lo ≤ i) (h2 : i ≤ hi) : wthn (.int i) lo hi = true := by simp [wthn, h1, h2]
theorem wthn_all : ∀ {ds : List D} {lo hi : Int}, (ds.all fun d => wthn d lo hi) = true → ∃ ns : List Int, ds = ilD ns ∧ ∀ z ∈ ns, lo ≤ z ∧ z ≤ hi
  | [], _, _, _ => ⟨[], rfl, fun _ m => by cases m⟩
  | d :: ds, lo, hi, h => by
    rw [List.all_cons, Bool.and_eq_true] at h
    obtain ⟨i, rfl, h1, h2⟩ := wthn_int h.1
    obtain ⟨ns, rfl, hn⟩ := wthn_all h.2
    exact ⟨i :: ns, rfl, fun z m => (List.mem_cons.mp m).elim (fun e => e ▸ ⟨h1, h2⟩) (hn z)⟩
theorem wthn_allI {ns : List Int} {lo hi : Int} (h : ∀ z ∈ ns, lo ≤ z ∧ z ≤ hi) : ((ilD ns).all fun d => wthn d lo hi) = true := by
  rw [List.all_eq_true]
  intro d m
  obtain ⟨z, hz, rfl⟩ := List.mem_map.mp m
  exact wthn_of (h z hz).1 (h z hz).2
end L3

namespace L3
open PySem PySem.Spec PyProof.Rows L2
section
variable {ρ : Rho} {w : WE} {i : Nat} {q : List D → Rho → Prop}
/-- [w for .. in ds], the slots led on -/
theorem lc_inv (Q : D → Prop) (I : Rho → Prop) (hi : ∀ ρ, I ρ → i < ρ.length) : ∀ (ds acc : List D) (ρ : Rho), acc.length + ds.length ≤ sizeLine → (∀ d ∈ ds, imm d = true) → I ρ →
    (∀ d ∈ ds, ∀ ρ, I ρ → ∀ K : D → Rho → Prop, (∀ y ρ', Q y → I (ρ'.set i .un) → K y ρ') → w (ρ.set i (.ow d)) K NE) →
    (∀ es ρ', es.length = ds.length → (∀ y ∈ es, Q y) → I ρ' → q (acc ++ es) ρ') → wLcL (gNm i) wtYes w [i] ds acc ρ q
  | [], acc, ρ, _, _, hI, _, h => by have := h [] ρ rfl (fun y m => by cases m) hI; rwa [List.append_nil] at this
  | d :: ds, acc, ρ, hl, hm, hI, hw, h => by
    rw [List.length_cons] at hl
    refine ⟨hm d List.mem_cons_self, ⟨hi ρ hI, hm d List.mem_cons_self⟩, ?_⟩
    show (if true = true then w (ρ.set i (.ow d)) _ NE else wLcL (gNm i) wtYes w [i] ds acc (unS (ρ.set i (.ow d)) [i]) q)
    rw [if_pos rfl]
    refine hw d List.mem_cons_self ρ hI _ fun y ρ' hy hI' => ⟨by omega, ?_⟩
    refine lc_inv Q I hi ds (acc ++ [y]) (ρ'.set i .un) (by rw [List.length_append, List.length_singleton]; omega) (fun x m => hm x (List.mem_cons_of_mem _ m)) hI' (fun x m => hw x (List.mem_cons_of_mem _ m)) fun es ρ2 he hq hI2 => ?_
    rw [List.append_assoc]
    exact h (y :: es) ρ2 (by rw [List.length_cons, he, List.length_cons]) (fun x m => (List.mem_cons.mp m).elim (fun e => e ▸ hy) (hq x)) hI2
end
theorem ilD_of : ∀ {ds : List D} {P : Int → Prop}, (∀ d ∈ ds, ∃ z, d = .int z ∧ P z) → ∃ ns : List Int, ds = ilD ns ∧ ∀ z ∈ ns, P z
  | [], _, _ => ⟨[], rfl, fun _ m => by cases m⟩
  | d :: ds, P, h => by
    obtain ⟨z, rfl, hz⟩ := h d List.mem_cons_self
    obtain ⟨ns, rfl, hn⟩ := ilD_of (P := P) fun x m => h x (List.mem_cons_of_mem _ m)
    exact ⟨z :: ns, rfl, fun y m => (List.mem_cons.mp m).elim (fun e => e ▸ hz) (hn y)⟩
section
variable {ρ : Rho} {w : WS} {t : WT} {nx bk ct : Rho → Prop} {rt : D → Rho → Prop} {ex : EXT} {k : D → Prop}
/-- a while by what falls -/
theorem r_whileM (I : Nat → Rho → Prop) {m : Nat} (h0 : I m ρ)
    (hs : ∀ m ρ (K : Rho → Prop), I m ρ → (∀ m' ρ', m' < m → I m' ρ' → K ρ') → t ρ (fun b ρ1 => if b = true then w ρ1 ⟨K, rt, nx, K, ex⟩ else nx ρ1) ex) : wsWhile t w ρ ⟨nx, rt, bk, ct, ex⟩ := by
  have key : ∀ n m ρ, m < n → I m ρ → whileW t w n ρ ⟨nx, rt, bk, ct, ex⟩ := by
    intro n
    induction n with
    | zero => intro m ρ h; omega
    | succ n ih =>
      intro m ρ h hI
      refine r_wh ?_
      exact hs m ρ _ hI fun m' ρ' h' hI' => ih m' ρ' (by omega) hI'
  exact ⟨m + 1, key _ _ _ (Nat.lt_succ_self _) h0⟩
theorem r_nTT (h : k (.bool false)) : fNotB (.bool true) (.bool true) k := h
theorem r_nFT (h : k (.bool true)) : fNotB (.bool false) (.bool true) k := h
theorem r_nTF (h : k (.bool true)) : fNotB (.bool true) (.bool false) k := h
theorem r_nFF (h : k (.bool false)) : fNotB (.bool false) (.bool false) k := h
theorem r_iTT (h : k (.bool true)) : fIsB (.bool true) (.bool true) k := h
theorem r_iFT (h : k (.bool false)) : fIsB (.bool false) (.bool true) k := h
theorem r_iTF (h : k (.bool false)) : fIsB (.bool true) (.bool false) k := h
theorem r_iFF (h : k (.bool true)) : fIsB (.bool false) (.bool false) k := h
/-- what is the same on both sides -/
theorem r_eqS {x : Int} (h : k (.bool true)) : fEq (.int x) (.int x) k := r_eqI (by rw [decide_eq_true rfl]; exact h)
theorem r_neS {x : Int} (h : k (.bool false)) : fNe (.int x) (.int x) k := r_neI (by rw [decide_eq_true rfl]; exact h)
theorem r_eqTS {x : List Int} (h : k (.bool true)) : fEq (.tuple (ilD x)) (.tuple (ilD x)) k := r_eqT (by rw [decide_eq_true rfl]; exact h)
theorem r_neTS {x : List Int} (h : k (.bool false)) : fNe (.tuple (ilD x)) (.tuple (ilD x)) k := r_neT (by rw [decide_eq_true rfl]; exact h)
theorem r_eqLS {x : List Int} (h : k (.bool true)) : fEq (.list (ilD x)) (.list (ilD x)) k := r_eqL (by rw [decide_eq_true rfl]; exact h)
theorem r_neLS {x : List Int} (h : k (.bool false)) : fNe (.list (ilD x)) (.list (ilD x)) k := r_neL (by rw [decide_eq_true rfl]; exact h)
theorem sh_blD (bs : List Bool) : (D.list (blD bs)).sh = true := D.sh_dle (by
  rw [D.dle]
  exact D.dleL_of fun d m => by
    obtain ⟨z, _, rfl⟩ := List.mem_map.mp m
    rfl)
theorem r_neBS {bs : List Bool} (h : k (.bool false)) : fNe (.list (blD bs)) (.list (blD bs)) k := ⟨sh_blD bs, sh_blD bs, by
  rw [eqv_ll]
  unfold blD
  rw [eqvL_bools, decide_eq_true rfl]
  exact h⟩
theorem r_neBs {as bs : List Bool} (h : k (.bool (!decide (as = bs)))) : fNe (.list (blD as)) (.list (blD bs)) k := ⟨sh_blD as, sh_blD bs, by
  rw [eqv_ll]
  unfold blD
  rw [eqvL_bools]
  exact h⟩
theorem r_ifNoU (i : Nat) (ht : ∀ qb : Bool → Rho → Prop, qb false (ρ.set i .un) → t ρ qb ex) (h : nx (ρ.set i .un)) : wsIf t w wsNil ρ ⟨nx, rt, bk, ct, ex⟩ := ht _ (by rw [if_neg Bool.false_ne_true]; exact h)
theorem r_setFz {i n : Nat} {xs : List D} {Q : Prop} (h1 : immL xs = true) (hi : i < n) (h : Q) : immL xs = true ∧ (i < n ∧ imm (.fl xs) = true) ∧ Q := ⟨h1, ⟨hi, by rw [imm]; exact h1⟩, h⟩
theorem r_min2 {x y : Int} (h : k (.int (if y < x then y else x))) : bMin2 [.int x, .int y] k := h
theorem r_max2 {x y : Int} (h : k (.int (if x < y then y else x))) : bMax2 [.int x, .int y] k := h
end
theorem s_someF {h : D} {ds : List D} {q : D → D → Prop} {x : Str → D → Prop} (hh : HandOk h) (m0 : ds ≠ []) (m1 : ds.length < 2 ^ 60) (hi : ∀ d ∈ ds, imm d = true) (k : ∀ (d h' : D), HandOk h' → d ∈ ds → q d h') : S_some h [.fl ds] q x := by
  have hl : 0 < ds.length := List.length_pos_iff.mpr m0
  refine And.intro rfl (And.intro rfl ?_)
  refine s_draw (m := (ds.length : Int)) hh (by omega) (by omega) fun r h' hh' r0 r1 => ?_
  have hr : r.toNat < ds.length := by omega
  have e : atI ds r = some ds[r.toNat] := by
    have := atI_nat (xs := ds) (i := r.toNat) (List.getElem?_eq_getElem hr)
    rwa [Int.toNat_of_nonneg r0] at this
  exact Exists.intro _ (And.intro e (And.intro (hi _ (List.getElem_mem hr)) (k _ _ hh' (List.getElem_mem hr))))
theorem perm_pop {α : Type} : ∀ {xs : List α} {j : Nat} {y : α}, xs[j]? = some y → (y :: xs.eraseIdx j).Perm xs
  | [], j, y, h => by simp at h
  | x :: xs, 0, y, h => by simp at h; subst h; exact .refl _
  | x :: xs, j + 1, y, h => by
    have := perm_pop (xs := xs) (j := j) (by simpa using h)
    exact (List.Perm.swap x y _).trans (this.cons x)
theorem eraseIdx_ilD : ∀ (ns : List Int) (j : Nat), (ilD ns).eraseIdx j = ilD (ns.eraseIdx j)
  | [], j => by simp [ilD]
  | n :: ns, 0 => rfl
  | n :: ns, j + 1 => by
    have := eraseIdx_ilD ns j
    show D.int n :: (ilD ns).eraseIdx j = D.int n :: ilD (ns.eraseIdx j)
    rw [this]
end L3


namespace LW
open PySem PySem.Spec PyProof.Rows L2 L3
def top (i : Nat) : Stmt := PySem.Challenge.pw_powersalike_k00_whole_heaps_and_their_su.main.body.getD i (.Pass ⟨0, 0, 0, 0⟩)
def dd (n : Str) (i : Nat) : He.DefD := ⟨(n, none), n, n, defArgs (top i), defBody (top i), defScope (top i), [], []⟩
def fn : List He.DefD := [dd "is_integer" 9, dd "is_within" 10, dd "are_items" 11, dd "is_heap" 12, dd "check_heap" 13, dd "check_number" 14, dd "as_heap" 15, dd "heap_of" 16, dd "raw_power" 17, dd "raw_sum" 18, dd "power_sum" 19, dd "power_sums" 20, dd "ways_to_take" 21, dd "raw_taken" 22, dd "taken_sum" 23, dd "spread" 24, dd "_law_hand" 26, dd "_law_draw" 27, dd "_law_some" 28, dd "_law_power" 29, dd "_law_sum" 30, dd "_law_heap" 31, dd "_law_errors" 32, dd "_law_taken" 33, dd "law" 34]
def fa : List He.Fa := [.glo "is_integer", .glo "is_within", .glo "are_items", .glo "is_heap", .glo "check_heap", .glo "check_number", .glo "as_heap", .glo "heap_of", .glo "raw_power", .glo "raw_sum", .glo "power_sum", .glo "power_sums", .glo "ways_to_take", .glo "raw_taken", .glo "taken_sum", .glo "spread", .glo "_law_hand", .glo "_law_draw", .glo "_law_some", .glo "_law_power", .glo "_law_sum", .glo "_law_heap", .glo "_law_errors", .glo "_law_taken", .glo "law", .glo "LikeError", .glo "NoHeap", .glo "NoNumbers", .glo "NoNumber", .exc "LikeError", .exc "NoHeap", .exc "NoNumbers", .exc "NoNumber", .free "ValueError", .free "abs", .free "all", .free "bool", .free "int", .free "isinstance", .free "len", .free "list", .free "min", .free "range", .free "sorted", .free "sum", .free "tuple", .int "MOST_HEAP" 40, .int "MOST_ITEM" 100000, .int "MOST_POWER" 60, .exm "NoHeap" "LikeError" true, .exm "NoHeap" "NoHeap" true, .exm "NoHeap" "NoNumbers" false, .exm "NoHeap" "NoNumber" false, .exm "NoNumbers" "LikeError" true, .exm "NoNumbers" "NoHeap" false, .exm "NoNumbers" "NoNumbers" true, .exm "NoNumbers" "NoNumber" false, .exm "NoNumber" "LikeError" true, .exm "NoNumber" "NoHeap" false, .exm "NoNumber" "NoNumbers" false, .exm "NoNumber" "NoNumber" true]
def errs0 : List Str := ["NoHeap", "NoNumbers", "NoNumber"]
def tf : List He.Defn := [("law", none)]
abbrev R : PySem.W.OpenRow := PySem.W.OpenLaw.row PySem.Challenge.rw_powersalike_k00_whole_heaps_and_their_su
abbrev hk : PySem.W.Hook := He.hookX 4 fa fn [] tf (L3.exB errs0)
def ob (s : PySem.W.SharedT) : He.AlX := He.obsX 4 fa fn [] tf (L3.exB errs0) (HandSHeadRun.getT s)
theorem ob_eq (s : PySem.W.SharedT) : ob s = hk.obs s.abs := He.obsX_eq (HandSHeadRun.getT_eq s)
def names0 : List Str := ["LikeError", "NoHeap", "NoNumbers", "NoNumber", "MOST_HEAP", "MOST_ITEM", "MOST_POWER", "is_integer", "is_within", "are_items", "is_heap", "check_heap", "check_number", "as_heap", "heap_of", "raw_power", "raw_sum", "power_sum", "power_sums", "ways_to_take", "raw_taken", "taken_sum", "spread", "_law_hand", "_law_draw", "_law_some", "_law_power", "_law_sum", "_law_heap", "_law_errors", "_law_taken"]
def names : List Str := names0
theorem run (w : World) : HandSHeadRun.RunEq R (PySem.W.view R.prog [34]) hk ob 6000 names w := by
  intro os
  kernel_rfl
structure Fx (K : PySem.W.Frag) (mg : Str → Option Value) : Prop where
  b_ValueError : mg "ValueError" = none
  b_abs : mg "abs" = none
  b_all : mg "all" = none
  b_bool : mg "bool" = none
  b_int : mg "int" = none
  b_isinstance : mg "isinstance" = none
  b_len : mg "len" = none
  b_list : mg "list" = none
  b_min : mg "min" = none
  b_range : mg "range" = none
  b_sorted : mg "sorted" = none
  b_sum : mg "sum" = none
  b_tuple : mg "tuple" = none
  i_MOST_HEAP : ∃ t, mg "MOST_HEAP" = some (.int 40 t)
  i_MOST_ITEM : ∃ t, mg "MOST_ITEM" = some (.int 100000 t)
  i_MOST_POWER : ∃ t, mg "MOST_POWER" = some (.int 60 t)
  e_LikeError : ∃ C, Err K mg "LikeError" C
  e_NoHeap : ∃ C, Err K mg "NoHeap" C
  e_NoNumbers : ∃ C, Err K mg "NoNumbers" C
  e_NoNumber : ∃ C, Err K mg "NoNumber" C
  d_is_integer : ∃ f fd, FunD K "is_integer" "is_integer" (defArgs (top 9)) (defBody (top 9)) (defScope (top 9)) [] [] f fd ∧ mg "is_integer" = some (.ref f)
  d_is_within : ∃ f fd, FunD K "is_within" "is_within" (defArgs (top 10)) (defBody (top 10)) (defScope (top 10)) [] [] f fd ∧ mg "is_within" = some (.ref f)
  d_are_items : ∃ f fd, FunD K "are_items" "are_items" (defArgs (top 11)) (defBody (top 11)) (defScope (top 11)) [] [] f fd ∧ mg "are_items" = some (.ref f)
  d_is_heap : ∃ f fd, FunD K "is_heap" "is_heap" (defArgs (top 12)) (defBody (top 12)) (defScope (top 12)) [] [] f fd ∧ mg "is_heap" = some (.ref f)
  d_check_heap : ∃ f fd, FunD K "check_heap" "check_heap" (defArgs (top 13)) (defBody (top 13)) (defScope (top 13)) [] [] f fd ∧ mg "check_heap" = some (.ref f)
  d_check_number : ∃ f fd, FunD K "check_number" "check_number" (defArgs (top 14)) (defBody (top 14)) (defScope (top 14)) [] [] f fd ∧ mg "check_number" = some (.ref f)
  d_as_heap : ∃ f fd, FunD K "as_heap" "as_heap" (defArgs (top 15)) (defBody (top 15)) (defScope (top 15)) [] [] f fd ∧ mg "as_heap" = some (.ref f)
  d_heap_of : ∃ f fd, FunD K "heap_of" "heap_of" (defArgs (top 16)) (defBody (top 16)) (defScope (top 16)) [] [] f fd ∧ mg "heap_of" = some (.ref f)
  d_raw_power : ∃ f fd, FunD K "raw_power" "raw_power" (defArgs (top 17)) (defBody (top 17)) (defScope (top 17)) [] [] f fd ∧ mg "raw_power" = some (.ref f)
  d_raw_sum : ∃ f fd, FunD K "raw_sum" "raw_sum" (defArgs (top 18)) (defBody (top 18)) (defScope (top 18)) [] [] f fd ∧ mg "raw_sum" = some (.ref f)
  d_power_sum : ∃ f fd, FunD K "power_sum" "power_sum" (defArgs (top 19)) (defBody (top 19)) (defScope (top 19)) [] [] f fd ∧ mg "power_sum" = some (.ref f)
  d_power_sums : ∃ f fd, FunD K "power_sums" "power_sums" (defArgs (top 20)) (defBody (top 20)) (defScope (top 20)) [] [] f fd ∧ mg "power_sums" = some (.ref f)
  d_ways_to_take : ∃ f fd, FunD K "ways_to_take" "ways_to_take" (defArgs (top 21)) (defBody (top 21)) (defScope (top 21)) [] [] f fd ∧ mg "ways_to_take" = some (.ref f)
  d_raw_taken : ∃ f fd, FunD K "raw_taken" "raw_taken" (defArgs (top 22)) (defBody (top 22)) (defScope (top 22)) [] [] f fd ∧ mg "raw_taken" = some (.ref f)
  d_taken_sum : ∃ f fd, FunD K "taken_sum" "taken_sum" (defArgs (top 23)) (defBody (top 23)) (defScope (top 23)) [] [] f fd ∧ mg "taken_sum" = some (.ref f)
  d_spread : ∃ f fd, FunD K "spread" "spread" (defArgs (top 24)) (defBody (top 24)) (defScope (top 24)) [] [] f fd ∧ mg "spread" = some (.ref f)
  d__law_hand : ∃ f fd, FunD K "_law_hand" "_law_hand" (defArgs (top 26)) (defBody (top 26)) (defScope (top 26)) [] [] f fd ∧ mg "_law_hand" = some (.ref f)
  d__law_draw : ∃ f fd, FunD K "_law_draw" "_law_draw" (defArgs (top 27)) (defBody (top 27)) (defScope (top 27)) [] [] f fd ∧ mg "_law_draw" = some (.ref f)
  d__law_some : ∃ f fd, FunD K "_law_some" "_law_some" (defArgs (top 28)) (defBody (top 28)) (defScope (top 28)) [] [] f fd ∧ mg "_law_some" = some (.ref f)
  d__law_power : ∃ f fd, FunD K "_law_power" "_law_power" (defArgs (top 29)) (defBody (top 29)) (defScope (top 29)) [] [] f fd ∧ mg "_law_power" = some (.ref f)
  d__law_sum : ∃ f fd, FunD K "_law_sum" "_law_sum" (defArgs (top 30)) (defBody (top 30)) (defScope (top 30)) [] [] f fd ∧ mg "_law_sum" = some (.ref f)
  d__law_heap : ∃ f fd, FunD K "_law_heap" "_law_heap" (defArgs (top 31)) (defBody (top 31)) (defScope (top 31)) [] [] f fd ∧ mg "_law_heap" = some (.ref f)
  d__law_errors : ∃ f fd, FunD K "_law_errors" "_law_errors" (defArgs (top 32)) (defBody (top 32)) (defScope (top 32)) [] [] f fd ∧ mg "_law_errors" = some (.ref f)
  d__law_taken : ∃ f fd, FunD K "_law_taken" "_law_taken" (defArgs (top 33)) (defBody (top 33)) (defScope (top 33)) [] [] f fd ∧ mg "_law_taken" = some (.ref f)
  d_law : ∃ f fd, FunD K "law" "law" (defArgs (top 34)) (defBody (top 34)) (defScope (top 34)) [] [] f fd ∧ mg "law" = some (.ref f)
def errs : List Str := ["NoHeap", "NoNumbers", "NoNumber"]
abbrev N_is_integer : List Str := ["thing"]
theorem sc_is_integer : FnScope N_is_integer ["thing"] (defScope (top 9)) := ⟨rfl, rfl, rfl, by decide +kernel, rfl, by decide +kernel, by decide +kernel⟩
def wb_is_integer : WS :=
  (wsRetI (wAndV (wIs dInt (wVar 0)) (wNotV (wIs dBool (wVar 0)))))
def S_is_integer : FS := fun ds q x => wb_is_integer (rho0 N_is_integer ds) ⟨fun _ => q .none, fun d _ => q d, fun _ => False, fun _ => False, fun n _ => x n⟩
theorem h_is_integer {P : Program} {w : World} {base : Heap} {K : PySem.W.Frag} {mg : Str → Option Value} (X : Fx K mg) : Has P w K mg base "is_integer" 1 ["thing"] (SpP K mg 1 [] S_is_integer) := by
  obtain ⟨f, fd, F, m⟩ := X.d_is_integer
  refine ⟨f, fd, m, F.kp, F.bindsN (fun _ _ _ _ _ _ us hl => match us, hl with | [_], _ => rfl), fn_pure F sc_is_integer rfl (fun cdv A outer s H E vs P0 EX ck hr => ?_) (fun ds q xx hl z => z)⟩
  exact ⟨_, (jss_one (js_retI (je_and (je_is (je_var (i := 0) rfl (by first | exact .inl rfl | exact .inr (.inl rfl) | exact .inr (.inr rfl))) (by rfl) X.b_isinstance (by rfl) X.b_int (by decide +kernel) isT_int) (je_one (je_not (je_is (je_var (i := 0) rfl (by first | exact .inl rfl | exact .inr (.inl rfl) | exact .inr (.inr rfl))) (by rfl) X.b_isinstance (by rfl) X.b_bool (by decide +kernel) isT_bool))))))⟩
abbrev N_is_within : List Str := ["thing", "low", "high"]
theorem sc_is_within : FnScope N_is_within ["thing", "low", "high"] (defScope (top 10)) := ⟨rfl, rfl, rfl, by decide +kernel, rfl, by decide +kernel, by decide +kernel⟩
def wb_is_within : WS :=
  (wsRetI (wAndV (wCall S_is_integer (waCons (wVar 0) waNil)) (wChain (fun i j => decide (i ≤ j)) (fun i j => decide (i ≤ j)) (wVar 1) (wVar 0) (wVar 2))))
def S_is_within : FS := fun ds q x => wb_is_within (rho0 N_is_within ds) ⟨fun _ => q .none, fun d _ => q d, fun _ => False, fun _ => False, fun n _ => x n⟩
theorem h_is_within {P : Program} {w : World} {base : Heap} {K : PySem.W.Frag} {mg : Str → Option Value} (X : Fx K mg) : Has P w K mg base "is_within" 2 ["thing", "low", "high"] (SpP K mg 3 [] S_is_within) := by
  obtain ⟨f_is_integer, fd_is_integer, m_is_integer, k_is_integer, b_is_integer, G_is_integer⟩ := h_is_integer (P := P) (w := w) (base := base) X
  obtain ⟨f, fd, F, m⟩ := X.d_is_within
  refine ⟨f, fd, m, F.kp, F.bindsN (fun _ _ _ _ _ _ us hl => match us, hl with | [_, _, _], _ => rfl), fn_pure F sc_is_within rfl (fun cdv A outer s H E vs P0 EX ck hr => ?_) (fun ds q xx hl z => z)⟩
  exact ⟨_, (jss_one (js_retI (je_and (je_call ck (G_is_integer) (hr.mono (by decide)) (by rfl) m_is_integer k_is_integer b_is_integer (ja_cons (je_var (i := 0) rfl (by first | exact .inl rfl | exact .inr (.inl rfl) | exact .inr (.inr rfl))) ja_nil)) (je_one (je_chain op_le op_le (je_var (i := 1) rfl (by first | exact .inl rfl | exact .inr (.inl rfl) | exact .inr (.inr rfl))) (je_var (i := 0) rfl (by first | exact .inl rfl | exact .inr (.inl rfl) | exact .inr (.inr rfl))) (je_var (i := 2) rfl (by first | exact .inl rfl | exact .inr (.inl rfl) | exact .inr (.inr rfl))))))))⟩
abbrev N_are_items : List Str := ["thing", "one"]
theorem sc_are_items : FnScope N_are_items ["thing"] (defScope (top 11)) := ⟨rfl, rfl, rfl, by decide +kernel, rfl, by decide +kernel, by decide +kernel⟩
def wb_are_items : WS :=
  (wsSeq (wsIf (wtOr (wtNot (wB (wIs dTup (wVar 0)))) (wtNot (wB (wChain (fun i j => decide (i ≤ j)) (fun i j => decide (i ≤ j)) (wC (.int 1)) (wBf bLen (waCons (wVar 0) waNil)) (wC (.int 40)))))) (wsRetI (wC (.bool false))) wsNil)
  (wsRetI (wBf bAll (waCons (wLc (wiSeq (wVar 0)) (gNm 1) wtYes (wCall S_is_within (waCons (wVar 1) (waCons (wNeg (wC (.int 100000))) (waCons (wC (.int 100000)) waNil)))) [1]) waNil))))
def S_are_items : FS := fun ds q x => wb_are_items (rho0 N_are_items ds) ⟨fun _ => q .none, fun d _ => q d, fun _ => False, fun _ => False, fun n _ => x n⟩
theorem h_are_items {P : Program} {w : World} {base : Heap} {K : PySem.W.Frag} {mg : Str → Option Value} (X : Fx K mg) : Has P w K mg base "are_items" 3 ["thing"] (SpP K mg 1 [] S_are_items) := by
  obtain ⟨f_is_within, fd_is_within, m_is_within, k_is_within, b_is_within, G_is_within⟩ := h_is_within (P := P) (w := w) (base := base) X
  obtain ⟨f, fd, F, m⟩ := X.d_are_items
  refine ⟨f, fd, m, F.kp, F.bindsN (fun _ _ _ _ _ _ us hl => match us, hl with | [_], _ => rfl), fn_pure F sc_are_items rfl (fun cdv A outer s H E vs P0 EX ck hr => ?_) (fun ds q xx hl z => z)⟩
  exact ⟨_, (jss_cons (js_if (JW.jt (jw_or (jt_not (jt_val (je_is (je_var (i := 0) rfl (by first | exact .inl rfl | exact .inr (.inl rfl) | exact .inr (.inr rfl))) (by rfl) X.b_isinstance (by rfl) X.b_tuple (by decide +kernel) isT_tuple))) (jw_or1 (jt_not (jt_chain op_le op_le je_int (je_bf cv_len (by rfl) X.b_len (by decide +kernel) (ja_cons (je_var (i := 0) rfl (by first | exact .inl rfl | exact .inr (.inl rfl) | exact .inr (.inr rfl))) ja_nil)) (je_globI (by rfl) X.i_MOST_HEAP)))))) (jss_one (js_retI je_bl)) jss_nil)
    (jss_one (js_retI (je_bf (cv_all ck.calm) (by rfl) X.b_all (by decide +kernel) (ja_cons (je_lc (own := [("one", 1)]) rfl sc_are_items.nd (ji_seq (je_var (i := 0) rfl (by first | exact .inl rfl | exact .inr (.inl rfl) | exact .inr (.inr rfl)))) (blkOk_by (own := [("one", 1)]) (N := N_are_items) (sc := defScope (top 11)) (by decide +kernel)) (fun _ _ _ _ _ => (jg_name (i := 1) sc_are_items.nd rfl (by first | exact Or.inl rfl | exact Or.inr rfl))) (fun _ _ _ _ _ => jts_nil) (fun _ _ _ _ _ => (je_call (Ck.in ck) (G_is_within) (hr.mono (by decide)) (by rfl) m_is_within k_is_within b_is_within (ja_cons (je_var (i := 1) rfl (by first | exact .inl rfl | exact .inr (.inl rfl) | exact .inr (.inr rfl))) (ja_cons (je_neg (je_globI (by rfl) X.i_MOST_ITEM)) (ja_cons (je_globI (by rfl) X.i_MOST_ITEM) ja_nil)))))) ja_nil)))))⟩
abbrev N_is_heap : List Str := ["thing"]
theorem sc_is_heap : FnScope N_is_heap ["thing"] (defScope (top 12)) := ⟨rfl, rfl, rfl, by decide +kernel, rfl, by decide +kernel, by decide +kernel⟩
def wb_is_heap : WS :=
  (wsRetI (wAndV (wCall S_are_items (waCons (wVar 0) waNil)) (w2 fEq (wBf bLst (waCons (wVar 0) waNil)) (wBf bSorted (waCons (wVar 0) waNil)))))
def S_is_heap : FS := fun ds q x => wb_is_heap (rho0 N_is_heap ds) ⟨fun _ => q .none, fun d _ => q d, fun _ => False, fun _ => False, fun n _ => x n⟩
theorem h_is_heap {P : Program} {w : World} {base : Heap} {K : PySem.W.Frag} {mg : Str → Option Value} (X : Fx K mg) : Has P w K mg base "is_heap" 4 ["thing"] (SpP K mg 1 [] S_is_heap) := by
  obtain ⟨f_are_items, fd_are_items, m_are_items, k_are_items, b_are_items, G_are_items⟩ := h_are_items (P := P) (w := w) (base := base) X
  obtain ⟨f, fd, F, m⟩ := X.d_is_heap
  refine ⟨f, fd, m, F.kp, F.bindsN (fun _ _ _ _ _ _ us hl => match us, hl with | [_], _ => rfl), fn_pure F sc_is_heap rfl (fun cdv A outer s H E vs P0 EX ck hr => ?_) (fun ds q xx hl z => z)⟩
  exact ⟨_, (jss_one (js_retI (je_and (je_call ck (G_are_items) (hr.mono (by decide)) (by rfl) m_are_items k_are_items b_are_items (ja_cons (je_var (i := 0) rfl (by first | exact .inl rfl | exact .inr (.inl rfl) | exact .inr (.inr rfl))) ja_nil)) (je_one (je_cmp (op_eqD hr.units) op2_eq (je_bt cv_lst (by rfl) X.b_list (by decide +kernel) (ja_cons (je_var (i := 0) rfl (by first | exact .inl rfl | exact .inr (.inl rfl) | exact .inr (.inr rfl))) ja_nil)) (je_bf cv_sorted (by rfl) X.b_sorted (by decide +kernel) (ja_cons (je_var (i := 0) rfl (by first | exact .inl rfl | exact .inr (.inl rfl) | exact .inr (.inr rfl))) ja_nil)) (nomark _))))))⟩
abbrev N_check_heap : List Str := ["thing"]
theorem sc_check_heap : FnScope N_check_heap ["thing"] (defScope (top 13)) := ⟨rfl, rfl, rfl, by decide +kernel, rfl, by decide +kernel, by decide +kernel⟩
def wb_check_heap : WS :=
  (wsIf (wtNot (wB (wCall S_is_heap (waCons (wVar 0) waNil)))) (wsRaise "NoHeap") wsNil)
def S_check_heap : FS := fun ds q x => wb_check_heap (rho0 N_check_heap ds) ⟨fun _ => q .none, fun d _ => q d, fun _ => False, fun _ => False, fun n _ => x n⟩
theorem h_check_heap {P : Program} {w : World} {base : Heap} {K : PySem.W.Frag} {mg : Str → Option Value} (X : Fx K mg) : Has P w K mg base "check_heap" 5 ["thing"] (SpP K mg 1 [] S_check_heap) := by
  obtain ⟨f_is_heap, fd_is_heap, m_is_heap, k_is_heap, b_is_heap, G_is_heap⟩ := h_is_heap (P := P) (w := w) (base := base) X
  obtain ⟨f, fd, F, m⟩ := X.d_check_heap
  refine ⟨f, fd, m, F.kp, F.bindsN (fun _ _ _ _ _ _ us hl => match us, hl with | [_], _ => rfl), fn_pure F sc_check_heap rfl (fun cdv A outer s H E vs P0 EX ck hr => ?_) (fun ds q xx hl z => z)⟩
  exact ⟨_, (jss_one (js_if (jt_not (jt_val (je_call ck (G_is_heap) (hr.mono (by decide)) (by rfl) m_is_heap k_is_heap b_is_heap (ja_cons (je_var (i := 0) rfl (by first | exact .inl rfl | exact .inr (.inl rfl) | exact .inr (.inr rfl))) ja_nil)))) (jss_one (js_raise ck (takes_of rfl rfl rfl rfl) (X.e_NoHeap).choose_spec (by rfl))) jss_nil))⟩
abbrev N_check_number : List Str := ["thing", "low", "high"]
theorem sc_check_number : FnScope N_check_number ["thing", "low", "high"] (defScope (top 14)) := ⟨rfl, rfl, rfl, by decide +kernel, rfl, by decide +kernel, by decide +kernel⟩
def wb_check_number : WS :=
  (wsIf (wtNot (wB (wCall S_is_within (waCons (wVar 0) (waCons (wVar 1) (waCons (wVar 2) waNil)))))) (wsRaise "NoNumber") wsNil)
def S_check_number : FS := fun ds q x => wb_check_number (rho0 N_check_number ds) ⟨fun _ => q .none, fun d _ => q d, fun _ => False, fun _ => False, fun n _ => x n⟩
theorem h_check_number {P : Program} {w : World} {base : Heap} {K : PySem.W.Frag} {mg : Str → Option Value} (X : Fx K mg) : Has P w K mg base "check_number" 3 ["thing", "low", "high"] (SpP K mg 3 [] S_check_number) := by
  obtain ⟨f_is_within, fd_is_within, m_is_within, k_is_within, b_is_within, G_is_within⟩ := h_is_within (P := P) (w := w) (base := base) X
  obtain ⟨f, fd, F, m⟩ := X.d_check_number
  refine ⟨f, fd, m, F.kp, F.bindsN (fun _ _ _ _ _ _ us hl => match us, hl with | [_, _, _], _ => rfl), fn_pure F sc_check_number rfl (fun cdv A outer s H E vs P0 EX ck hr => ?_) (fun ds q xx hl z => z)⟩
  exact ⟨_, (jss_one (js_if (jt_not (jt_val (je_call ck (G_is_within) (hr.mono (by decide)) (by rfl) m_is_within k_is_within b_is_within (ja_cons (je_var (i := 0) rfl (by first | exact .inl rfl | exact .inr (.inl rfl) | exact .inr (.inr rfl))) (ja_cons (je_var (i := 1) rfl (by first | exact .inl rfl | exact .inr (.inl rfl) | exact .inr (.inr rfl))) (ja_cons (je_var (i := 2) rfl (by first | exact .inl rfl | exact .inr (.inl rfl) | exact .inr (.inr rfl))) ja_nil)))))) (jss_one (js_raise ck (takes_of rfl rfl rfl rfl) (X.e_NoNumber).choose_spec (by rfl))) jss_nil))⟩
abbrev N_as_heap : List Str := ["numbers", "found"]
theorem sc_as_heap : FnScope N_as_heap ["numbers"] (defScope (top 15)) := ⟨rfl, rfl, rfl, by decide +kernel, rfl, by decide +kernel, by decide +kernel⟩
def wb_as_heap : WS :=
  (wsSeq (wsSet 1 (wBf bTup (waCons (wBf bSorted (waCons (wVar 0) waNil)) waNil)))
  (wsSeq (wsIf (wtNot (wB (wCall S_are_items (waCons (wVar 1) waNil)))) (wsRaise "NoNumbers") wsNil)
  (wsRetI (wVar 1))))
def S_as_heap : FS := fun ds q x => wb_as_heap (rho0 N_as_heap ds) ⟨fun _ => q .none, fun d _ => q d, fun _ => False, fun _ => False, fun n _ => x n⟩
theorem h_as_heap {P : Program} {w : World} {base : Heap} {K : PySem.W.Frag} {mg : Str → Option Value} (X : Fx K mg) : Has P w K mg base "as_heap" 4 ["numbers"] (SpP K mg 1 [] S_as_heap) := by
  obtain ⟨f_are_items, fd_are_items, m_are_items, k_are_items, b_are_items, G_are_items⟩ := h_are_items (P := P) (w := w) (base := base) X
  obtain ⟨f, fd, F, m⟩ := X.d_as_heap
  refine ⟨f, fd, m, F.kp, F.bindsN (fun _ _ _ _ _ _ us hl => match us, hl with | [_], _ => rfl), fn_pure F sc_as_heap rfl (fun cdv A outer s H E vs P0 EX ck hr => ?_) (fun ds q xx hl z => z)⟩
  exact ⟨_, (jss_cons (js_set (i := 1) sc_as_heap.nd rfl (by first | exact Or.inl rfl | exact Or.inr rfl) (je_bt cv_tup (by rfl) X.b_tuple (by decide +kernel) (ja_cons (je_bf cv_sorted (by rfl) X.b_sorted (by decide +kernel) (ja_cons (je_var (i := 0) rfl (by first | exact .inl rfl | exact .inr (.inl rfl) | exact .inr (.inr rfl))) ja_nil)) ja_nil)))
    (jss_cons (js_if (jt_not (jt_val (je_call ck (G_are_items) (hr.mono (by decide)) (by rfl) m_are_items k_are_items b_are_items (ja_cons (je_var (i := 1) rfl (by first | exact .inl rfl | exact .inr (.inl rfl) | exact .inr (.inr rfl))) ja_nil)))) (jss_one (js_raise ck (takes_of rfl rfl rfl rfl) (X.e_NoNumbers).choose_spec (by rfl))) jss_nil)
    (jss_one (js_retI (je_var (i := 1) rfl (by first | exact .inl rfl | exact .inr (.inl rfl) | exact .inr (.inr rfl)))))))⟩
abbrev N_heap_of : List Str := ["numbers"]
theorem sc_heap_of : FnScope N_heap_of ["numbers"] (defScope (top 16)) := ⟨rfl, rfl, rfl, by decide +kernel, rfl, by decide +kernel, by decide +kernel⟩
def wb_heap_of : WS :=
  (wsSeq (wsIf (wtNot (wB (wCall S_are_items (waCons (wVar 0) waNil)))) (wsRaise "NoNumbers") wsNil)
  (wsRetI (wCall S_as_heap (waCons (wVar 0) waNil))))
def S_heap_of : FS := fun ds q x => wb_heap_of (rho0 N_heap_of ds) ⟨fun _ => q .none, fun d _ => q d, fun _ => False, fun _ => False, fun n _ => x n⟩
theorem h_heap_of {P : Program} {w : World} {base : Heap} {K : PySem.W.Frag} {mg : Str → Option Value} (X : Fx K mg) : Has P w K mg base "heap_of" 5 ["numbers"] (SpP K mg 1 [] S_heap_of) := by
  obtain ⟨f_are_items, fd_are_items, m_are_items, k_are_items, b_are_items, G_are_items⟩ := h_are_items (P := P) (w := w) (base := base) X
  obtain ⟨f_as_heap, fd_as_heap, m_as_heap, k_as_heap, b_as_heap, G_as_heap⟩ := h_as_heap (P := P) (w := w) (base := base) X
  obtain ⟨f, fd, F, m⟩ := X.d_heap_of
  refine ⟨f, fd, m, F.kp, F.bindsN (fun _ _ _ _ _ _ us hl => match us, hl with | [_], _ => rfl), fn_pure F sc_heap_of rfl (fun cdv A outer s H E vs P0 EX ck hr => ?_) (fun ds q xx hl z => z)⟩
  exact ⟨_, (jss_cons (js_if (jt_not (jt_val (je_call ck (G_are_items) (hr.mono (by decide)) (by rfl) m_are_items k_are_items b_are_items (ja_cons (je_var (i := 0) rfl (by first | exact .inl rfl | exact .inr (.inl rfl) | exact .inr (.inr rfl))) ja_nil)))) (jss_one (js_raise ck (takes_of rfl rfl rfl rfl) (X.e_NoNumbers).choose_spec (by rfl))) jss_nil)
    (jss_one (js_retI (je_call ck (G_as_heap) (hr.mono (by decide)) (by rfl) m_as_heap k_as_heap b_as_heap (ja_cons (je_var (i := 0) rfl (by first | exact .inl rfl | exact .inr (.inl rfl) | exact .inr (.inr rfl))) ja_nil)))))⟩
abbrev N_raw_power : List Str := ["number", "times", "found", "turn"]
theorem sc_raw_power : FnScope N_raw_power ["number", "times"] (defScope (top 17)) := ⟨rfl, rfl, rfl, by decide +kernel, rfl, by decide +kernel, by decide +kernel⟩
def wb_raw_power : WS :=
  (wsSeq (wsSet 2 (wC (.int 1)))
  (wsSeq (wsFor (wiR1 (waCons (wVar 1) waNil)) (gNm 3) (wsSet 2 (w2 fMul (wVar 2) (wVar 0))))
  (wsRetI (wVar 2))))
def S_raw_power : FS := fun ds q x => wb_raw_power (rho0 N_raw_power ds) ⟨fun _ => q .none, fun d _ => q d, fun _ => False, fun _ => False, fun n _ => x n⟩
theorem h_raw_power {P : Program} {w : World} {base : Heap} {K : PySem.W.Frag} {mg : Str → Option Value} (X : Fx K mg) : Has P w K mg base "raw_power" 1 ["number", "times"] (SpP K mg 2 [] S_raw_power) := by
  obtain ⟨f, fd, F, m⟩ := X.d_raw_power
  refine ⟨f, fd, m, F.kp, F.bindsN (fun _ _ _ _ _ _ us hl => match us, hl with | [_, _], _ => rfl), fn_pure F sc_raw_power rfl (fun cdv A outer s H E vs P0 EX ck hr => ?_) (fun ds q xx hl z => z)⟩
  exact ⟨_, (jss_cons (js_set (i := 2) sc_raw_power.nd rfl (by first | exact Or.inl rfl | exact Or.inr rfl) je_int)
    (jss_cons (js_for (passes_of rfl) rfl (ji_r1 (by rfl) X.b_range (ja_cons (je_var (i := 1) rfl (by first | exact .inl rfl | exact .inr (.inl rfl) | exact .inr (.inr rfl))) ja_nil)) (jg_name (i := 3) sc_raw_power.nd rfl (by first | exact Or.inl rfl | exact Or.inr rfl)) (jss_one (js_set (i := 2) sc_raw_power.nd rfl (by first | exact Or.inl rfl | exact Or.inr rfl) (je_op op_mul2 op2_mul (je_var (i := 2) rfl (by first | exact .inl rfl | exact .inr (.inl rfl) | exact .inr (.inr rfl))) (je_var (i := 0) rfl (by first | exact .inl rfl | exact .inr (.inl rfl) | exact .inr (.inr rfl)))))))
    (jss_one (js_retI (je_var (i := 2) rfl (by first | exact .inl rfl | exact .inr (.inl rfl) | exact .inr (.inr rfl)))))))⟩
abbrev N_raw_sum : List Str := ["heap", "k", "one"]
theorem sc_raw_sum : FnScope N_raw_sum ["heap", "k"] (defScope (top 18)) := ⟨rfl, rfl, rfl, by decide +kernel, rfl, by decide +kernel, by decide +kernel⟩
def wb_raw_sum : WS :=
  (wsRetI (wBf bSum (waCons (wLc (wiSeq (wVar 0)) (gNm 2) wtYes (wCall S_raw_power (waCons (wVar 2) (waCons (wVar 1) waNil))) [2]) waNil)))
def S_raw_sum : FS := fun ds q x => wb_raw_sum (rho0 N_raw_sum ds) ⟨fun _ => q .none, fun d _ => q d, fun _ => False, fun _ => False, fun n _ => x n⟩
theorem h_raw_sum {P : Program} {w : World} {base : Heap} {K : PySem.W.Frag} {mg : Str → Option Value} (X : Fx K mg) : Has P w K mg base "raw_sum" 2 ["heap", "k"] (SpP K mg 2 [] S_raw_sum) := by
  obtain ⟨f_raw_power, fd_raw_power, m_raw_power, k_raw_power, b_raw_power, G_raw_power⟩ := h_raw_power (P := P) (w := w) (base := base) X
  obtain ⟨f, fd, F, m⟩ := X.d_raw_sum
  refine ⟨f, fd, m, F.kp, F.bindsN (fun _ _ _ _ _ _ us hl => match us, hl with | [_, _], _ => rfl), fn_pure F sc_raw_sum rfl (fun cdv A outer s H E vs P0 EX ck hr => ?_) (fun ds q xx hl z => z)⟩
  exact ⟨_, (jss_one (js_retI (je_bf (cv_sum ck.calm) (by rfl) X.b_sum (by decide +kernel) (ja_cons (je_lc (own := [("one", 2)]) rfl sc_raw_sum.nd (ji_seq (je_var (i := 0) rfl (by first | exact .inl rfl | exact .inr (.inl rfl) | exact .inr (.inr rfl)))) (blkOk_by (own := [("one", 2)]) (N := N_raw_sum) (sc := defScope (top 18)) (by decide +kernel)) (fun _ _ _ _ _ => (jg_name (i := 2) sc_raw_sum.nd rfl (by first | exact Or.inl rfl | exact Or.inr rfl))) (fun _ _ _ _ _ => jts_nil) (fun _ _ _ _ _ => (je_call (Ck.in ck) (G_raw_power) (hr.mono (by decide)) (by rfl) m_raw_power k_raw_power b_raw_power (ja_cons (je_var (i := 2) rfl (by first | exact .inl rfl | exact .inr (.inl rfl) | exact .inr (.inr rfl))) (ja_cons (je_var (i := 1) rfl (by first | exact .inl rfl | exact .inr (.inl rfl) | exact .inr (.inr rfl))) ja_nil))))) ja_nil))))⟩
abbrev N_power_sum : List Str := ["heap", "k"]
theorem sc_power_sum : FnScope N_power_sum ["heap", "k"] (defScope (top 19)) := ⟨rfl, rfl, rfl, by decide +kernel, rfl, by decide +kernel, by decide +kernel⟩
def wb_power_sum : WS :=
  (wsSeq (wsDrop (wCall S_check_heap (waCons (wVar 0) waNil)))
  (wsSeq (wsDrop (wCall S_check_number (waCons (wVar 1) (waCons (wC (.int 0)) (waCons (wC (.int 60)) waNil)))))
  (wsRetI (wCall S_raw_sum (waCons (wVar 0) (waCons (wVar 1) waNil))))))
def S_power_sum : FS := fun ds q x => wb_power_sum (rho0 N_power_sum ds) ⟨fun _ => q .none, fun d _ => q d, fun _ => False, fun _ => False, fun n _ => x n⟩
theorem h_power_sum {P : Program} {w : World} {base : Heap} {K : PySem.W.Frag} {mg : Str → Option Value} (X : Fx K mg) : Has P w K mg base "power_sum" 6 ["heap", "k"] (SpP K mg 2 [] S_power_sum) := by
  obtain ⟨f_check_heap, fd_check_heap, m_check_heap, k_check_heap, b_check_heap, G_check_heap⟩ := h_check_heap (P := P) (w := w) (base := base) X
  obtain ⟨f_check_number, fd_check_number, m_check_number, k_check_number, b_check_number, G_check_number⟩ := h_check_number (P := P) (w := w) (base := base) X
  obtain ⟨f_raw_sum, fd_raw_sum, m_raw_sum, k_raw_sum, b_raw_sum, G_raw_sum⟩ := h_raw_sum (P := P) (w := w) (base := base) X
  obtain ⟨f, fd, F, m⟩ := X.d_power_sum
  refine ⟨f, fd, m, F.kp, F.bindsN (fun _ _ _ _ _ _ us hl => match us, hl with | [_, _], _ => rfl), fn_pure F sc_power_sum rfl (fun cdv A outer s H E vs P0 EX ck hr => ?_) (fun ds q xx hl z => z)⟩
  exact ⟨_, (jss_cons (js_expr (je_call ck (G_check_heap) (hr.mono (by decide)) (by rfl) m_check_heap k_check_heap b_check_heap (ja_cons (je_var (i := 0) rfl (by first | exact .inl rfl | exact .inr (.inl rfl) | exact .inr (.inr rfl))) ja_nil)))
    (jss_cons (js_expr (je_call ck (G_check_number) (hr.mono (by decide)) (by rfl) m_check_number k_check_number b_check_number (ja_cons (je_var (i := 1) rfl (by first | exact .inl rfl | exact .inr (.inl rfl) | exact .inr (.inr rfl))) (ja_cons je_int (ja_cons (je_globI (by rfl) X.i_MOST_POWER) ja_nil)))))
    (jss_one (js_retI (je_call ck (G_raw_sum) (hr.mono (by decide)) (by rfl) m_raw_sum k_raw_sum b_raw_sum (ja_cons (je_var (i := 0) rfl (by first | exact .inl rfl | exact .inr (.inl rfl) | exact .inr (.inr rfl))) (ja_cons (je_var (i := 1) rfl (by first | exact .inl rfl | exact .inr (.inl rfl) | exact .inr (.inr rfl))) ja_nil)))))))⟩
abbrev N_power_sums : List Str := ["heap", "most", "k"]
theorem sc_power_sums : FnScope N_power_sums ["heap", "most"] (defScope (top 20)) := ⟨rfl, rfl, rfl, by decide +kernel, rfl, by decide +kernel, by decide +kernel⟩
def wb_power_sums : WS :=
  (wsSeq (wsDrop (wCall S_check_heap (waCons (wVar 0) waNil)))
  (wsSeq (wsDrop (wCall S_check_number (waCons (wVar 1) (waCons (wC (.int 1)) (waCons (wC (.int 60)) waNil)))))
  (wsRetI (wBf bTup (waCons (wLc (wiR2 (waCons (wC (.int 1)) (waCons (w2 fAdd (wVar 1) (wC (.int 1))) waNil))) (gNm 2) wtYes (wCall S_raw_sum (waCons (wVar 0) (waCons (wVar 2) waNil))) [2]) waNil)))))
def S_power_sums : FS := fun ds q x => wb_power_sums (rho0 N_power_sums ds) ⟨fun _ => q .none, fun d _ => q d, fun _ => False, fun _ => False, fun n _ => x n⟩
theorem h_power_sums {P : Program} {w : World} {base : Heap} {K : PySem.W.Frag} {mg : Str → Option Value} (X : Fx K mg) : Has P w K mg base "power_sums" 6 ["heap", "most"] (SpP K mg 2 [] S_power_sums) := by
  obtain ⟨f_check_heap, fd_check_heap, m_check_heap, k_check_heap, b_check_heap, G_check_heap⟩ := h_check_heap (P := P) (w := w) (base := base) X
  obtain ⟨f_check_number, fd_check_number, m_check_number, k_check_number, b_check_number, G_check_number⟩ := h_check_number (P := P) (w := w) (base := base) X
  obtain ⟨f_raw_sum, fd_raw_sum, m_raw_sum, k_raw_sum, b_raw_sum, G_raw_sum⟩ := h_raw_sum (P := P) (w := w) (base := base) X
  obtain ⟨f, fd, F, m⟩ := X.d_power_sums
  refine ⟨f, fd, m, F.kp, F.bindsN (fun _ _ _ _ _ _ us hl => match us, hl with | [_, _], _ => rfl), fn_pure F sc_power_sums rfl (fun cdv A outer s H E vs P0 EX ck hr => ?_) (fun ds q xx hl z => z)⟩
  exact ⟨_, (jss_cons (js_expr (je_call ck (G_check_heap) (hr.mono (by decide)) (by rfl) m_check_heap k_check_heap b_check_heap (ja_cons (je_var (i := 0) rfl (by first | exact .inl rfl | exact .inr (.inl rfl) | exact .inr (.inr rfl))) ja_nil)))
    (jss_cons (js_expr (je_call ck (G_check_number) (hr.mono (by decide)) (by rfl) m_check_number k_check_number b_check_number (ja_cons (je_var (i := 1) rfl (by first | exact .inl rfl | exact .inr (.inl rfl) | exact .inr (.inr rfl))) (ja_cons je_int (ja_cons (je_globI (by rfl) X.i_MOST_POWER) ja_nil)))))
    (jss_one (js_retI (je_bt cv_tup (by rfl) X.b_tuple (by decide +kernel) (ja_cons (je_lc (own := [("k", 2)]) rfl sc_power_sums.nd (ji_r2 (by rfl) X.b_range (ja_cons je_int (ja_cons (je_op op_add4 op2_add (je_var (i := 1) rfl (by first | exact .inl rfl | exact .inr (.inl rfl) | exact .inr (.inr rfl))) je_int) ja_nil))) (blkOk_by (own := [("k", 2)]) (N := N_power_sums) (sc := defScope (top 20)) (by decide +kernel)) (fun _ _ _ _ _ => (jg_name (i := 2) sc_power_sums.nd rfl (by first | exact Or.inl rfl | exact Or.inr rfl))) (fun _ _ _ _ _ => jts_nil) (fun _ _ _ _ _ => (je_call (Ck.in ck) (G_raw_sum) (hr.mono (by decide)) (by rfl) m_raw_sum k_raw_sum b_raw_sum (ja_cons (je_var (i := 0) rfl (by first | exact .inl rfl | exact .inr (.inl rfl) | exact .inr (.inr rfl))) (ja_cons (je_var (i := 2) rfl (by first | exact .inl rfl | exact .inr (.inl rfl) | exact .inr (.inr rfl))) ja_nil))))) ja_nil))))))⟩
abbrev N_ways_to_take : List Str := ["number", "k", "found", "at"]
theorem sc_ways_to_take : FnScope N_ways_to_take ["number", "k"] (defScope (top 21)) := ⟨rfl, rfl, rfl, by decide +kernel, rfl, by decide +kernel, by decide +kernel⟩
def wb_ways_to_take : WS :=
  (wsSeq (wsSet 2 (wC (.int 1)))
  (wsSeq (wsFor (wiR1 (waCons (wVar 1) waNil)) (gNm 3) (wsSet 2 (w2 fDiv (w2 fMul (wVar 2) (w2 fSub (wVar 0) (wVar 3))) (w2 fAdd (wVar 3) (wC (.int 1))))))
  (wsRetI (wVar 2))))
def S_ways_to_take : FS := fun ds q x => wb_ways_to_take (rho0 N_ways_to_take ds) ⟨fun _ => q .none, fun d _ => q d, fun _ => False, fun _ => False, fun n _ => x n⟩
theorem h_ways_to_take {P : Program} {w : World} {base : Heap} {K : PySem.W.Frag} {mg : Str → Option Value} (X : Fx K mg) : Has P w K mg base "ways_to_take" 1 ["number", "k"] (SpP K mg 2 [] S_ways_to_take) := by
  obtain ⟨f, fd, F, m⟩ := X.d_ways_to_take
  refine ⟨f, fd, m, F.kp, F.bindsN (fun _ _ _ _ _ _ us hl => match us, hl with | [_, _], _ => rfl), fn_pure F sc_ways_to_take rfl (fun cdv A outer s H E vs P0 EX ck hr => ?_) (fun ds q xx hl z => z)⟩
  exact ⟨_, (jss_cons (js_set (i := 2) sc_ways_to_take.nd rfl (by first | exact Or.inl rfl | exact Or.inr rfl) je_int)
    (jss_cons (js_for (passes_of rfl) rfl (ji_r1 (by rfl) X.b_range (ja_cons (je_var (i := 1) rfl (by first | exact .inl rfl | exact .inr (.inl rfl) | exact .inr (.inr rfl))) ja_nil)) (jg_name (i := 3) sc_ways_to_take.nd rfl (by first | exact Or.inl rfl | exact Or.inr rfl)) (jss_one (js_set (i := 2) sc_ways_to_take.nd rfl (by first | exact Or.inl rfl | exact Or.inr rfl) (je_op op_fdivW op2_div (je_op op_mul2 op2_mul (je_var (i := 2) rfl (by first | exact .inl rfl | exact .inr (.inl rfl) | exact .inr (.inr rfl))) (je_op op_sub op2_sub (je_var (i := 0) rfl (by first | exact .inl rfl | exact .inr (.inl rfl) | exact .inr (.inr rfl))) (je_var (i := 3) rfl (by first | exact .inl rfl | exact .inr (.inl rfl) | exact .inr (.inr rfl))))) (je_op op_add4 op2_add (je_var (i := 3) rfl (by first | exact .inl rfl | exact .inr (.inl rfl) | exact .inr (.inr rfl))) je_int)))))
    (jss_one (js_retI (je_var (i := 2) rfl (by first | exact .inl rfl | exact .inr (.inl rfl) | exact .inr (.inr rfl)))))))⟩
abbrev N_raw_taken : List Str := ["heap", "k", "one"]
theorem sc_raw_taken : FnScope N_raw_taken ["heap", "k"] (defScope (top 22)) := ⟨rfl, rfl, rfl, by decide +kernel, rfl, by decide +kernel, by decide +kernel⟩
def wb_raw_taken : WS :=
  (wsRetI (wBf bSum (waCons (wLc (wiSeq (wVar 0)) (gNm 2) wtYes (wCall S_ways_to_take (waCons (wVar 2) (waCons (wVar 1) waNil))) [2]) waNil)))
def S_raw_taken : FS := fun ds q x => wb_raw_taken (rho0 N_raw_taken ds) ⟨fun _ => q .none, fun d _ => q d, fun _ => False, fun _ => False, fun n _ => x n⟩
theorem h_raw_taken {P : Program} {w : World} {base : Heap} {K : PySem.W.Frag} {mg : Str → Option Value} (X : Fx K mg) : Has P w K mg base "raw_taken" 2 ["heap", "k"] (SpP K mg 2 [] S_raw_taken) := by
  obtain ⟨f_ways_to_take, fd_ways_to_take, m_ways_to_take, k_ways_to_take, b_ways_to_take, G_ways_to_take⟩ := h_ways_to_take (P := P) (w := w) (base := base) X
  obtain ⟨f, fd, F, m⟩ := X.d_raw_taken
  refine ⟨f, fd, m, F.kp, F.bindsN (fun _ _ _ _ _ _ us hl => match us, hl with | [_, _], _ => rfl), fn_pure F sc_raw_taken rfl (fun cdv A outer s H E vs P0 EX ck hr => ?_) (fun ds q xx hl z => z)⟩
  exact ⟨_, (jss_one (js_retI (je_bf (cv_sum ck.calm) (by rfl) X.b_sum (by decide +kernel) (ja_cons (je_lc (own := [("one", 2)]) rfl sc_raw_taken.nd (ji_seq (je_var (i := 0) rfl (by first | exact .inl rfl | exact .inr (.inl rfl) | exact .inr (.inr rfl)))) (blkOk_by (own := [("one", 2)]) (N := N_raw_taken) (sc := defScope (top 22)) (by decide +kernel)) (fun _ _ _ _ _ => (jg_name (i := 2) sc_raw_taken.nd rfl (by first | exact Or.inl rfl | exact Or.inr rfl))) (fun _ _ _ _ _ => jts_nil) (fun _ _ _ _ _ => (je_call (Ck.in ck) (G_ways_to_take) (hr.mono (by decide)) (by rfl) m_ways_to_take k_ways_to_take b_ways_to_take (ja_cons (je_var (i := 2) rfl (by first | exact .inl rfl | exact .inr (.inl rfl) | exact .inr (.inr rfl))) (ja_cons (je_var (i := 1) rfl (by first | exact .inl rfl | exact .inr (.inl rfl) | exact .inr (.inr rfl))) ja_nil))))) ja_nil))))⟩
abbrev N_taken_sum : List Str := ["heap", "k"]
theorem sc_taken_sum : FnScope N_taken_sum ["heap", "k"] (defScope (top 23)) := ⟨rfl, rfl, rfl, by decide +kernel, rfl, by decide +kernel, by decide +kernel⟩
def wb_taken_sum : WS :=
  (wsSeq (wsDrop (wCall S_check_heap (waCons (wVar 0) waNil)))
  (wsSeq (wsDrop (wCall S_check_number (waCons (wVar 1) (waCons (wC (.int 0)) (waCons (wC (.int 60)) waNil)))))
  (wsRetI (wCall S_raw_taken (waCons (wVar 0) (waCons (wVar 1) waNil))))))
def S_taken_sum : FS := fun ds q x => wb_taken_sum (rho0 N_taken_sum ds) ⟨fun _ => q .none, fun d _ => q d, fun _ => False, fun _ => False, fun n _ => x n⟩
theorem h_taken_sum {P : Program} {w : World} {base : Heap} {K : PySem.W.Frag} {mg : Str → Option Value} (X : Fx K mg) : Has P w K mg base "taken_sum" 6 ["heap", "k"] (SpP K mg 2 [] S_taken_sum) := by
  obtain ⟨f_check_heap, fd_check_heap, m_check_heap, k_check_heap, b_check_heap, G_check_heap⟩ := h_check_heap (P := P) (w := w) (base := base) X
  obtain ⟨f_check_number, fd_check_number, m_check_number, k_check_number, b_check_number, G_check_number⟩ := h_check_number (P := P) (w := w) (base := base) X
  obtain ⟨f_raw_taken, fd_raw_taken, m_raw_taken, k_raw_taken, b_raw_taken, G_raw_taken⟩ := h_raw_taken (P := P) (w := w) (base := base) X
  obtain ⟨f, fd, F, m⟩ := X.d_taken_sum
  refine ⟨f, fd, m, F.kp, F.bindsN (fun _ _ _ _ _ _ us hl => match us, hl with | [_, _], _ => rfl), fn_pure F sc_taken_sum rfl (fun cdv A outer s H E vs P0 EX ck hr => ?_) (fun ds q xx hl z => z)⟩
  exact ⟨_, (jss_cons (js_expr (je_call ck (G_check_heap) (hr.mono (by decide)) (by rfl) m_check_heap k_check_heap b_check_heap (ja_cons (je_var (i := 0) rfl (by first | exact .inl rfl | exact .inr (.inl rfl) | exact .inr (.inr rfl))) ja_nil)))
    (jss_cons (js_expr (je_call ck (G_check_number) (hr.mono (by decide)) (by rfl) m_check_number k_check_number b_check_number (ja_cons (je_var (i := 1) rfl (by first | exact .inl rfl | exact .inr (.inl rfl) | exact .inr (.inr rfl))) (ja_cons je_int (ja_cons (je_globI (by rfl) X.i_MOST_POWER) ja_nil)))))
    (jss_one (js_retI (je_call ck (G_raw_taken) (hr.mono (by decide)) (by rfl) m_raw_taken k_raw_taken b_raw_taken (ja_cons (je_var (i := 0) rfl (by first | exact .inl rfl | exact .inr (.inl rfl) | exact .inr (.inr rfl))) (ja_cons (je_var (i := 1) rfl (by first | exact .inl rfl | exact .inr (.inl rfl) | exact .inr (.inr rfl))) ja_nil)))))))⟩
abbrev N_spread : List Str := ["heap"]
theorem sc_spread : FnScope N_spread ["heap"] (defScope (top 24)) := ⟨rfl, rfl, rfl, by decide +kernel, rfl, by decide +kernel, by decide +kernel⟩
def wb_spread : WS :=
  (wsSeq (wsDrop (wCall S_check_heap (waCons (wVar 0) waNil)))
  (wsRetI (w2 fSub (w2 fIx (wVar 0) (wNeg (wC (.int 1)))) (w2 fIx (wVar 0) (wC (.int 0))))))
def S_spread : FS := fun ds q x => wb_spread (rho0 N_spread ds) ⟨fun _ => q .none, fun d _ => q d, fun _ => False, fun _ => False, fun n _ => x n⟩
theorem h_spread {P : Program} {w : World} {base : Heap} {K : PySem.W.Frag} {mg : Str → Option Value} (X : Fx K mg) : Has P w K mg base "spread" 6 ["heap"] (SpP K mg 1 [] S_spread) := by
  obtain ⟨f_check_heap, fd_check_heap, m_check_heap, k_check_heap, b_check_heap, G_check_heap⟩ := h_check_heap (P := P) (w := w) (base := base) X
  obtain ⟨f, fd, F, m⟩ := X.d_spread
  refine ⟨f, fd, m, F.kp, F.bindsN (fun _ _ _ _ _ _ us hl => match us, hl with | [_], _ => rfl), fn_pure F sc_spread rfl (fun cdv A outer s H E vs P0 EX ck hr => ?_) (fun ds q xx hl z => z)⟩
  exact ⟨_, (jss_cons (js_expr (je_call ck (G_check_heap) (hr.mono (by decide)) (by rfl) m_check_heap k_check_heap b_check_heap (ja_cons (je_var (i := 0) rfl (by first | exact .inl rfl | exact .inr (.inl rfl) | exact .inr (.inr rfl))) ja_nil)))
    (jss_one (js_retI (je_op op_sub op2_sub (je_ix ix_seq op2_ix (je_var (i := 0) rfl (by first | exact .inl rfl | exact .inr (.inl rfl) | exact .inr (.inr rfl))) (je_neg je_int) (fun _ _ => rfl)) (je_ix ix_seq op2_ix (je_var (i := 0) rfl (by first | exact .inl rfl | exact .inr (.inl rfl) | exact .inr (.inr rfl))) je_int (fun _ _ => rfl))))))⟩
abbrev N__law_hand : List Str := ["script", "cells", "cell"]
theorem sc__law_hand : FnScope N__law_hand ["script"] (defScope (top 26)) := ⟨rfl, rfl, rfl, by decide +kernel, rfl, by decide +kernel, by decide +kernel⟩
def wb__law_hand : WS :=
  (wsSeq (wsSet 1 (wLc (wiSc 0 60) (gNm 2) wtYes (w2 fMod (wBf bAbs (waCons (wBf bInt (waCons (wVar 2) waNil)) waNil)) (w2 fPow (wC (.int 10)) (wC (.int 36)))) [2]))
  (wsRetHd 1 (waPl 1 (waCons (wC (.int 0)) (waCons (wC (.int 0)) (waCons (w2 fAdd (wC (.int 9001)) (w2 fMul (wC (.int 31)) (wBf bLen (waCons (wVar 1) waNil)))) (waCons (wC (.int 0)) waNil)))))))
def S__law_hand : FSS := fun ns q => wb__law_hand (rhoS N__law_hand ns) ⟨fun _ => q .none, fun d _ => q d, fun _ => False, fun _ => False, fun _ _ => False⟩
theorem h__law_hand {P : Program} {w : World} {base : Heap} {K : PySem.W.Frag} {mg : Str → Option Value} (X : Fx K mg) : Has P w K mg base "_law_hand" 1 ["script"] (SpS K S__law_hand) := by
  obtain ⟨f, fd, F, m⟩ := X.d__law_hand
  refine ⟨f, fd, m, F.kp, F.bindsN (fun _ _ _ _ _ _ us hl => match us, hl with | [_], _ => rfl), fn_script F sc__law_hand rfl (fun cdv A outer s H E vs P0 EX ck hr => ?_) (fun ns q z => z)⟩
  exact ⟨_, (jss_cons (js_setLc (i := 1) (own := [("cell", 2)]) rfl sc__law_hand.nd rfl rfl (sw_true rfl rfl rfl (by decide +kernel)) (ji_sc (i := 0) (n := 60) rfl (by first | exact .inl rfl | exact .inr (.inl rfl) | exact .inr (.inr rfl))) (blkOk_by (own := [("cell", 2)]) (N := N__law_hand) (sc := defScope (top 26)) (by decide +kernel)) (fun _ _ _ _ _ => (jg_name (i := 2) sc__law_hand.nd rfl (by first | exact Or.inl rfl | exact Or.inr rfl))) (fun _ _ _ _ _ => jts_nil) (fun _ _ _ _ _ => (je_op op_mod op2_mod (je_bf cv_abs (by rfl) X.b_abs (by decide +kernel) (ja_cons (je_bt cv_int (by rfl) X.b_int (by decide +kernel) (ja_cons (je_var (i := 2) rfl (by first | exact .inl rfl | exact .inr (.inl rfl) | exact .inr (.inr rfl))) ja_nil)) ja_nil)) (je_op op_pow op2_pow je_int je_int))))
    (jss_one (js_retHd (i := 1) (ja_pl (ja_cons je_int (ja_cons je_int (ja_cons (je_op op_add4 op2_add je_int (je_op op_mul2 op2_mul je_int (je_bf cv_len (by rfl) X.b_len (by decide +kernel) (ja_cons (je_var (i := 1) rfl (by first | exact .inl rfl | exact .inr (.inl rfl) | exact .inr (.inr rfl))) ja_nil)))) (ja_cons je_int ja_nil)))) rfl (by first | exact .inl rfl | exact .inr (.inl rfl) | exact .inr (.inr rfl))) (fun h => nomatch h))))⟩
abbrev N__law_draw : List Str := ["hand", "many", "cell", "digit", "number"]
theorem sc__law_draw : FnScope N__law_draw ["hand", "many"] (defScope (top 27)) := ⟨rfl, rfl, rfl, by decide +kernel, rfl, by decide +kernel, by decide +kernel⟩
def wb__law_draw : WS :=
  (wsSeq (wsIf (wtAnd (wB (w2 fEq (w2 fIx (wVar 0) (wC (.int 2))) (wC (.int 0)))) (wB (w2 fLt (w2 fIx (wVar 0) (wC (.int 1))) (wBf bLen (waCons (w2 fIx (wVar 0) (wC (.int 0))) waNil))))) (wsSeq (wsSetI 2 (w2 fIx (w2 fIx (wVar 0) (wC (.int 0))) (w2 fIx (wVar 0) (wC (.int 1)))))
  (wsSeq (wsStore 0 (wC (.int 1)) (w2 fAdd (w2 fIx (wVar 0) (wC (.int 1))) (wC (.int 1))))
  (wsSeq (wsStore 0 (wC (.int 3)) (w2 fMod (wBf bInt (waCons (w2 fAdd (w2 fAdd (w2 fMul (w2 fIx (wVar 0) (wC (.int 3))) (wC (.int 48271))) (w2 fMul (w2 fMod (wVar 2) (wC (.int 2147483629))) (wC (.int 69621)))) (wC (.int 17))) waNil)) (wC (.int 2147483629))))
  (wsIf (wB (w2 fGe (wVar 2) (w2 fPow (wC (.int 10)) (wC (.int 15))))) (wsStore 0 (wC (.int 2)) (wVar 2)) wsNil)))) wsNil)
  (wsSeq (wsIf (wB (w2 fGt (w2 fIx (wVar 0) (wC (.int 2))) (wC (.int 0)))) (wsSeq (wsSet 3 (w2 fMod (wBf bInt (waCons (w2 fIx (wVar 0) (wC (.int 2))) waNil)) (wVar 1)))
  (wsSeq (wsStore 0 (wC (.int 2)) (w2 fDiv (wBf bInt (waCons (w2 fIx (wVar 0) (wC (.int 2))) waNil)) (wVar 1)))
  (wsRetI (wVar 3)))) wsNil)
  (wsSeq (wsStore 0 (wC (.int 4)) (w2 fAdd (w2 fIx (wVar 0) (wC (.int 4))) (wC (.int 1))))
  (wsSeq (wsSetI 4 (w2 fMod (wBf bInt (waCons (w2 fMul (wBf bInt (waCons (w2 fAdd (w2 fIx (wVar 0) (wC (.int 3))) (w2 fMul (wC (.int 7919)) (w2 fIx (wVar 0) (wC (.int 4))))) waNil)) (wC (.int 40692))) waNil)) (wC (.int 2147483399))))
  (wsSeq (wsSetI 4 (w2 fMod (wBf bInt (waCons (w2 fMul (wVar 4) (w2 fAdd (w2 fDiv (wVar 4) (wC (.int 1009))) (wC (.int 30011)))) waNil)) (wC (.int 2147483647))))
  (wsRetI (w2 fMod (wBf bInt (waCons (w2 fDiv (wVar 4) (wC (.int 32))) waNil)) (wVar 1))))))))
def S__law_draw : FSH := fun h ds q x => wb__law_draw (rhoH N__law_draw h ds) ⟨fun ρ => paOf ρ (q .none), fun d ρ => paOf ρ (q d), fun _ => False, fun _ => False, fun n ρ => paOf ρ (x n)⟩
theorem h__law_draw {P : Program} {w : World} {base : Heap} {K : PySem.W.Frag} {mg : Str → Option Value} (X : Fx K mg) : Has P w K mg base "_law_draw" 1 ["hand", "many"] (SpH K mg 1 [] S__law_draw) := by
  obtain ⟨f, fd, F, m⟩ := X.d__law_draw
  refine ⟨f, fd, m, F.kp, F.bindsN (fun _ _ _ _ _ _ us hl => match us, hl with | [_, _], _ => rfl), fn_hand F sc__law_draw rfl (fun cdv A outer s H E vs P0 EX ck hr => ?_) (fun h ds q xx hl z => z)⟩
  exact ⟨_, (jss_cons (js_if (JW.jt (jw_and (jt_cmp (op_eqD hr.units) op2_eq (je_ix ix_seq op2_ix (je_var (i := 0) rfl (by first | exact .inl rfl | exact .inr (.inl rfl) | exact .inr (.inr rfl))) je_int (fun _ _ => rfl)) je_int (nomark _)) (jw_and1 (jt_cmp op_lt op2_lt (je_ix ix_seq op2_ix (je_var (i := 0) rfl (by first | exact .inl rfl | exact .inr (.inl rfl) | exact .inr (.inr rfl))) je_int (fun _ _ => rfl)) (je_bf cv_len (by rfl) X.b_len (by decide +kernel) (ja_cons (je_ix ix_seq op2_ix (je_var (i := 0) rfl (by first | exact .inl rfl | exact .inr (.inl rfl) | exact .inr (.inr rfl))) je_int (fun _ _ => rfl)) ja_nil)) (nomark _))))) (jss_cons (js_setI (i := 2) sc__law_draw.nd rfl (by first | exact Or.inl rfl | exact Or.inr rfl) (je_ix ix_seq op2_ix (je_ix ix_seq op2_ix (je_var (i := 0) rfl (by first | exact .inl rfl | exact .inr (.inl rfl) | exact .inr (.inr rfl))) je_int (fun _ _ => rfl)) (je_ix ix_seq op2_ix (je_var (i := 0) rfl (by first | exact .inl rfl | exact .inr (.inl rfl) | exact .inr (.inr rfl))) je_int (fun _ _ => rfl)) (fun _ _ => rfl)))
    (jss_cons (js_store (i := 0) rfl (by first | exact .inl rfl | exact .inr (.inl rfl) | exact .inr (.inr rfl)) (je_op op_add4 op2_add (je_ix ix_seq op2_ix (je_var (i := 0) rfl (by first | exact .inl rfl | exact .inr (.inl rfl) | exact .inr (.inr rfl))) je_int (fun _ _ => rfl)) je_int) je_int)
    (jss_cons (js_store (i := 0) rfl (by first | exact .inl rfl | exact .inr (.inl rfl) | exact .inr (.inr rfl)) (je_op op_mod op2_mod (je_bt cv_int (by rfl) X.b_int (by decide +kernel) (ja_cons (je_op op_add4 op2_add (je_op op_add4 op2_add (je_op op_mul2 op2_mul (je_ix ix_seq op2_ix (je_var (i := 0) rfl (by first | exact .inl rfl | exact .inr (.inl rfl) | exact .inr (.inr rfl))) je_int (fun _ _ => rfl)) je_int) (je_op op_mul2 op2_mul (je_op op_mod op2_mod (je_var (i := 2) rfl (by first | exact .inl rfl | exact .inr (.inl rfl) | exact .inr (.inr rfl))) je_int) je_int)) je_int) ja_nil)) je_int) je_int)
    (jss_one (js_if (jt_cmp op_ge op2_ge (je_var (i := 2) rfl (by first | exact .inl rfl | exact .inr (.inl rfl) | exact .inr (.inr rfl))) (je_op op_pow op2_pow je_int je_int) (nomark _)) (jss_one (js_store (i := 0) rfl (by first | exact .inl rfl | exact .inr (.inl rfl) | exact .inr (.inr rfl)) (je_var (i := 2) rfl (by first | exact .inl rfl | exact .inr (.inl rfl) | exact .inr (.inr rfl))) je_int)) jss_nil))))) jss_nil)
    (jss_cons (js_if (jt_cmp op_gt op2_gt (je_ix ix_seq op2_ix (je_var (i := 0) rfl (by first | exact .inl rfl | exact .inr (.inl rfl) | exact .inr (.inr rfl))) je_int (fun _ _ => rfl)) je_int (nomark _)) (jss_cons (js_set (i := 3) sc__law_draw.nd rfl (by first | exact Or.inl rfl | exact Or.inr rfl) (je_op op_mod op2_mod (je_bt cv_int (by rfl) X.b_int (by decide +kernel) (ja_cons (je_ix ix_seq op2_ix (je_var (i := 0) rfl (by first | exact .inl rfl | exact .inr (.inl rfl) | exact .inr (.inr rfl))) je_int (fun _ _ => rfl)) ja_nil)) (je_var (i := 1) rfl (by first | exact .inl rfl | exact .inr (.inl rfl) | exact .inr (.inr rfl)))))
    (jss_cons (js_store (i := 0) rfl (by first | exact .inl rfl | exact .inr (.inl rfl) | exact .inr (.inr rfl)) (je_op op_fdivW op2_div (je_bt cv_int (by rfl) X.b_int (by decide +kernel) (ja_cons (je_ix ix_seq op2_ix (je_var (i := 0) rfl (by first | exact .inl rfl | exact .inr (.inl rfl) | exact .inr (.inr rfl))) je_int (fun _ _ => rfl)) ja_nil)) (je_var (i := 1) rfl (by first | exact .inl rfl | exact .inr (.inl rfl) | exact .inr (.inr rfl)))) je_int)
    (jss_one (js_retI (je_var (i := 3) rfl (by first | exact .inl rfl | exact .inr (.inl rfl) | exact .inr (.inr rfl))))))) jss_nil)
    (jss_cons (js_store (i := 0) rfl (by first | exact .inl rfl | exact .inr (.inl rfl) | exact .inr (.inr rfl)) (je_op op_add4 op2_add (je_ix ix_seq op2_ix (je_var (i := 0) rfl (by first | exact .inl rfl | exact .inr (.inl rfl) | exact .inr (.inr rfl))) je_int (fun _ _ => rfl)) je_int) je_int)
    (jss_cons (js_setI (i := 4) sc__law_draw.nd rfl (by first | exact Or.inl rfl | exact Or.inr rfl) (je_op op_mod op2_mod (je_bt cv_int (by rfl) X.b_int (by decide +kernel) (ja_cons (je_op op_mul2 op2_mul (je_bt cv_int (by rfl) X.b_int (by decide +kernel) (ja_cons (je_op op_add4 op2_add (je_ix ix_seq op2_ix (je_var (i := 0) rfl (by first | exact .inl rfl | exact .inr (.inl rfl) | exact .inr (.inr rfl))) je_int (fun _ _ => rfl)) (je_op op_mul2 op2_mul je_int (je_ix ix_seq op2_ix (je_var (i := 0) rfl (by first | exact .inl rfl | exact .inr (.inl rfl) | exact .inr (.inr rfl))) je_int (fun _ _ => rfl)))) ja_nil)) je_int) ja_nil)) je_int))
    (jss_cons (js_setI (i := 4) sc__law_draw.nd rfl (by first | exact Or.inl rfl | exact Or.inr rfl) (je_op op_mod op2_mod (je_bt cv_int (by rfl) X.b_int (by decide +kernel) (ja_cons (je_op op_mul2 op2_mul (je_var (i := 4) rfl (by first | exact .inl rfl | exact .inr (.inl rfl) | exact .inr (.inr rfl))) (je_op op_add4 op2_add (je_op op_fdivW op2_div (je_var (i := 4) rfl (by first | exact .inl rfl | exact .inr (.inl rfl) | exact .inr (.inr rfl))) je_int) je_int)) ja_nil)) je_int))
    (jss_one (js_retI (je_op op_mod op2_mod (je_bt cv_int (by rfl) X.b_int (by decide +kernel) (ja_cons (je_op op_fdivW op2_div (je_var (i := 4) rfl (by first | exact .inl rfl | exact .inr (.inl rfl) | exact .inr (.inr rfl))) je_int) ja_nil)) (je_var (i := 1) rfl (by first | exact .inl rfl | exact .inr (.inl rfl) | exact .inr (.inr rfl)))))))))))⟩
abbrev N__law_some : List Str := ["hand", "things"]
theorem sc__law_some : FnScope N__law_some ["hand", "things"] (defScope (top 28)) := ⟨rfl, rfl, rfl, by decide +kernel, rfl, by decide +kernel, by decide +kernel⟩
def wb__law_some : WS :=
  (wsRetI (w2 fIx (wVar 1) (wCallH S__law_draw 0 (waCons (wBf bLen (waCons (wVar 1) waNil)) waNil))))
def S__law_some : FSH := fun h ds q x => wb__law_some (rhoH N__law_some h ds) ⟨fun ρ => paOf ρ (q .none), fun d ρ => paOf ρ (q d), fun _ => False, fun _ => False, fun n ρ => paOf ρ (x n)⟩
theorem h__law_some {P : Program} {w : World} {base : Heap} {K : PySem.W.Frag} {mg : Str → Option Value} (X : Fx K mg) : Has P w K mg base "_law_some" 2 ["hand", "things"] (SpH K mg 1 [] S__law_some) := by
  obtain ⟨f__law_draw, fd__law_draw, m__law_draw, k__law_draw, b__law_draw, G__law_draw⟩ := h__law_draw (P := P) (w := w) (base := base) X
  obtain ⟨f, fd, F, m⟩ := X.d__law_some
  refine ⟨f, fd, m, F.kp, F.bindsN (fun _ _ _ _ _ _ us hl => match us, hl with | [_, _], _ => rfl), fn_hand F sc__law_some rfl (fun cdv A outer s H E vs P0 EX ck hr => ?_) (fun h ds q xx hl z => z)⟩
  exact ⟨_, (jss_one (js_retI (je_ix ix_seq op2_ix (je_var (i := 1) rfl (by first | exact .inl rfl | exact .inr (.inl rfl) | exact .inr (.inr rfl))) (je_callH (i := 0) ck (G__law_draw) (hr.mono (by decide)) (by rfl) m__law_draw k__law_draw b__law_draw rfl (by first | exact .inl rfl | exact .inr (.inl rfl) | exact .inr (.inr rfl)) (ja_cons (je_bf cv_len (by rfl) X.b_len (by decide +kernel) (ja_cons (je_var (i := 1) rfl (by first | exact .inl rfl | exact .inr (.inl rfl) | exact .inr (.inr rfl))) ja_nil)) ja_nil)) (fun _ _ => rfl))))⟩
abbrev N__law_power : List Str := ["number", "k", "found", "turn"]
theorem sc__law_power : FnScope N__law_power ["number", "k"] (defScope (top 29)) := ⟨rfl, rfl, rfl, by decide +kernel, rfl, by decide +kernel, by decide +kernel⟩
def wb__law_power : WS :=
  (wsSeq (wsSet 2 (wC (.int 1)))
  (wsSeq (wsFor (wiR1 (waCons (wVar 1) waNil)) (gNm 3) (wsSet 2 (w2 fMul (wVar 2) (wVar 0))))
  (wsRetI (wVar 2))))
def S__law_power : FS := fun ds q x => wb__law_power (rho0 N__law_power ds) ⟨fun _ => q .none, fun d _ => q d, fun _ => False, fun _ => False, fun n _ => x n⟩
theorem h__law_power {P : Program} {w : World} {base : Heap} {K : PySem.W.Frag} {mg : Str → Option Value} (X : Fx K mg) : Has P w K mg base "_law_power" 1 ["number", "k"] (SpP K mg 2 [] S__law_power) := by
  obtain ⟨f, fd, F, m⟩ := X.d__law_power
  refine ⟨f, fd, m, F.kp, F.bindsN (fun _ _ _ _ _ _ us hl => match us, hl with | [_, _], _ => rfl), fn_pure F sc__law_power rfl (fun cdv A outer s H E vs P0 EX ck hr => ?_) (fun ds q xx hl z => z)⟩
  exact ⟨_, (jss_cons (js_set (i := 2) sc__law_power.nd rfl (by first | exact Or.inl rfl | exact Or.inr rfl) je_int)
    (jss_cons (js_for (passes_of rfl) rfl (ji_r1 (by rfl) X.b_range (ja_cons (je_var (i := 1) rfl (by first | exact .inl rfl | exact .inr (.inl rfl) | exact .inr (.inr rfl))) ja_nil)) (jg_name (i := 3) sc__law_power.nd rfl (by first | exact Or.inl rfl | exact Or.inr rfl)) (jss_one (js_set (i := 2) sc__law_power.nd rfl (by first | exact Or.inl rfl | exact Or.inr rfl) (je_op op_mul2 op2_mul (je_var (i := 2) rfl (by first | exact .inl rfl | exact .inr (.inl rfl) | exact .inr (.inr rfl))) (je_var (i := 0) rfl (by first | exact .inl rfl | exact .inr (.inl rfl) | exact .inr (.inr rfl)))))))
    (jss_one (js_retI (je_var (i := 2) rfl (by first | exact .inl rfl | exact .inr (.inl rfl) | exact .inr (.inr rfl)))))))⟩
abbrev N__law_sum : List Str := ["heap", "k", "one"]
theorem sc__law_sum : FnScope N__law_sum ["heap", "k"] (defScope (top 30)) := ⟨rfl, rfl, rfl, by decide +kernel, rfl, by decide +kernel, by decide +kernel⟩
def wb__law_sum : WS :=
  (wsRetI (wBf bSum (waCons (wLc (wiTup (wVar 0)) (gNm 2) wtYes (wCall S__law_power (waCons (wVar 2) (waCons (wVar 1) waNil))) [2]) waNil)))
def S__law_sum : FS := fun ds q x => wb__law_sum (rho0 N__law_sum ds) ⟨fun _ => q .none, fun d _ => q d, fun _ => False, fun _ => False, fun n _ => x n⟩
theorem h__law_sum {P : Program} {w : World} {base : Heap} {K : PySem.W.Frag} {mg : Str → Option Value} (X : Fx K mg) : Has P w K mg base "_law_sum" 2 ["heap", "k"] (SpP K mg 2 [] S__law_sum) := by
  obtain ⟨f__law_power, fd__law_power, m__law_power, k__law_power, b__law_power, G__law_power⟩ := h__law_power (P := P) (w := w) (base := base) X
  obtain ⟨f, fd, F, m⟩ := X.d__law_sum
  refine ⟨f, fd, m, F.kp, F.bindsN (fun _ _ _ _ _ _ us hl => match us, hl with | [_, _], _ => rfl), fn_pure F sc__law_sum rfl (fun cdv A outer s H E vs P0 EX ck hr => ?_) (fun ds q xx hl z => z)⟩
  exact ⟨_, (jss_one (js_retI (je_bf (cv_sum ck.calm) (by rfl) X.b_sum (by decide +kernel) (ja_cons (je_lc (own := [("one", 2)]) rfl sc__law_sum.nd (ji_tup (je_var (i := 0) rfl (by first | exact .inl rfl | exact .inr (.inl rfl) | exact .inr (.inr rfl)))) (blkOk_by (own := [("one", 2)]) (N := N__law_sum) (sc := defScope (top 30)) (by decide +kernel)) (fun _ _ _ _ _ => (jg_name (i := 2) sc__law_sum.nd rfl (by first | exact Or.inl rfl | exact Or.inr rfl))) (fun _ _ _ _ _ => jts_nil) (fun _ _ _ _ _ => (je_call (Ck.in ck) (G__law_power) (hr.mono (by decide)) (by rfl) m__law_power k__law_power b__law_power (ja_cons (je_var (i := 2) rfl (by first | exact .inl rfl | exact .inr (.inl rfl) | exact .inr (.inr rfl))) (ja_cons (je_var (i := 1) rfl (by first | exact .inl rfl | exact .inr (.inl rfl) | exact .inr (.inr rfl))) ja_nil))))) ja_nil))))⟩
abbrev N__law_heap : List Str := ["hand", "many", "low", "high", "wide", "begin", "turn"]
theorem sc__law_heap : FnScope N__law_heap ["hand", "many", "low", "high"] (defScope (top 31)) := ⟨rfl, rfl, rfl, by decide +kernel, rfl, by decide +kernel, by decide +kernel⟩
def wb__law_heap : WS :=
  (wsSeq (wsSetI 4 (wIf (wB (w2 fGt (wCallH S__law_draw 0 (waCons (wC (.int 3)) waNil)) (wC (.int 0)))) (w2 fAdd (w2 fSub (wVar 3) (wVar 2)) (wC (.int 1))) (wBf bMin2 (waCons (w2 fAdd (w2 fSub (wVar 3) (wVar 2)) (wC (.int 1))) (waCons (wC (.int 4)) waNil)))))
  (wsSeq (wsSetI 5 (w2 fAdd (wVar 2) (wCallH S__law_draw 0 (waCons (w2 fSub (w2 fAdd (w2 fSub (wVar 3) (wVar 2)) (wC (.int 2))) (wVar 4)) waNil))))
  (wsRetI (wBf bTup (waCons (wBf bSorted (waCons (wLc (wiR1 (waCons (wVar 1) waNil)) (gNm 6) wtYes (w2 fAdd (wVar 5) (wCallH S__law_draw 0 (waCons (wVar 4) waNil))) [6]) waNil)) waNil)))))
def S__law_heap : FSH := fun h ds q x => wb__law_heap (rhoH N__law_heap h ds) ⟨fun ρ => paOf ρ (q .none), fun d ρ => paOf ρ (q d), fun _ => False, fun _ => False, fun n ρ => paOf ρ (x n)⟩
theorem h__law_heap {P : Program} {w : World} {base : Heap} {K : PySem.W.Frag} {mg : Str → Option Value} (X : Fx K mg) : Has P w K mg base "_law_heap" 2 ["hand", "many", "low", "high"] (SpH K mg 3 [] S__law_heap) := by
  obtain ⟨f__law_draw, fd__law_draw, m__law_draw, k__law_draw, b__law_draw, G__law_draw⟩ := h__law_draw (P := P) (w := w) (base := base) X
  obtain ⟨f, fd, F, m⟩ := X.d__law_heap
  refine ⟨f, fd, m, F.kp, F.bindsN (fun _ _ _ _ _ _ us hl => match us, hl with | [_, _, _, _], _ => rfl), fn_hand F sc__law_heap rfl (fun cdv A outer s H E vs P0 EX ck hr => ?_) (fun h ds q xx hl z => z)⟩
  exact ⟨_, (jss_cons (js_setI (i := 4) sc__law_heap.nd rfl (by first | exact Or.inl rfl | exact Or.inr rfl) (je_if (jt_cmp op_gt op2_gt (je_callH (i := 0) ck (G__law_draw) (hr.mono (by decide)) (by rfl) m__law_draw k__law_draw b__law_draw rfl (by first | exact .inl rfl | exact .inr (.inl rfl) | exact .inr (.inr rfl)) (ja_cons je_int ja_nil)) je_int (nomark _)) (je_op op_add4 op2_add (je_op op_sub op2_sub (je_var (i := 3) rfl (by first | exact .inl rfl | exact .inr (.inl rfl) | exact .inr (.inr rfl))) (je_var (i := 2) rfl (by first | exact .inl rfl | exact .inr (.inl rfl) | exact .inr (.inr rfl)))) je_int) (je_bf (cv_min2 ck.calm) (by rfl) X.b_min (by decide +kernel) (ja_cons (je_op op_add4 op2_add (je_op op_sub op2_sub (je_var (i := 3) rfl (by first | exact .inl rfl | exact .inr (.inl rfl) | exact .inr (.inr rfl))) (je_var (i := 2) rfl (by first | exact .inl rfl | exact .inr (.inl rfl) | exact .inr (.inr rfl)))) je_int) (ja_cons je_int ja_nil)))))
    (jss_cons (js_setI (i := 5) sc__law_heap.nd rfl (by first | exact Or.inl rfl | exact Or.inr rfl) (je_op op_add4 op2_add (je_var (i := 2) rfl (by first | exact .inl rfl | exact .inr (.inl rfl) | exact .inr (.inr rfl))) (je_callH (i := 0) ck (G__law_draw) (hr.mono (by decide)) (by rfl) m__law_draw k__law_draw b__law_draw rfl (by first | exact .inl rfl | exact .inr (.inl rfl) | exact .inr (.inr rfl)) (ja_cons (je_op op_sub op2_sub (je_op op_add4 op2_add (je_op op_sub op2_sub (je_var (i := 3) rfl (by first | exact .inl rfl | exact .inr (.inl rfl) | exact .inr (.inr rfl))) (je_var (i := 2) rfl (by first | exact .inl rfl | exact .inr (.inl rfl) | exact .inr (.inr rfl)))) je_int) (je_var (i := 4) rfl (by first | exact .inl rfl | exact .inr (.inl rfl) | exact .inr (.inr rfl)))) ja_nil))))
    (jss_one (js_retI (je_bt cv_tup (by rfl) X.b_tuple (by decide +kernel) (ja_cons (je_bf cv_sorted (by rfl) X.b_sorted (by decide +kernel) (ja_cons (je_lc (own := [("turn", 6)]) rfl sc__law_heap.nd (ji_r1 (by rfl) X.b_range (ja_cons (je_var (i := 1) rfl (by first | exact .inl rfl | exact .inr (.inl rfl) | exact .inr (.inr rfl))) ja_nil)) (blkOk_by (own := [("turn", 6)]) (N := N__law_heap) (sc := defScope (top 31)) (by decide +kernel)) (fun _ _ _ _ _ => (jg_name (i := 6) sc__law_heap.nd rfl (by first | exact Or.inl rfl | exact Or.inr rfl))) (fun _ _ _ _ _ => jts_nil) (fun _ _ _ _ _ => (je_op op_add4 op2_add (je_var (i := 5) rfl (by first | exact .inl rfl | exact .inr (.inl rfl) | exact .inr (.inr rfl))) (je_callH (i := 0) (Ck.in ck) (G__law_draw) (hr.mono (by decide)) (by rfl) m__law_draw k__law_draw b__law_draw rfl (by first | exact .inl rfl | exact .inr (.inl rfl) | exact .inr (.inr rfl)) (ja_cons (je_var (i := 4) rfl (by first | exact .inl rfl | exact .inr (.inl rfl) | exact .inr (.inr rfl))) ja_nil))))) ja_nil)) ja_nil))))))⟩
abbrev N__law_taken : List Str := ["number", "k", "top", "bottom", "step"]
theorem sc__law_taken : FnScope N__law_taken ["number", "k"] (defScope (top 33)) := ⟨rfl, rfl, rfl, by decide +kernel, rfl, by decide +kernel, by decide +kernel⟩
def wb__law_taken : WS :=
  (wsSeq (wsAsg (gTp (ggCons (gNm 2) (ggCons (gNm 3) ggNil))) (wTup (waCons (wC (.int 1)) (waCons (wC (.int 1)) waNil))))
  (wsSeq (wsFor (wiR1 (waCons (wVar 1) waNil)) (gNm 4) (wsPar2 cI cI 2 3 (w2 fMul (wVar 2) (w2 fSub (wVar 0) (wVar 4))) (w2 fMul (wVar 3) (w2 fAdd (wVar 4) (wC (.int 1))))))
  (wsRetI (w2 fDiv (wVar 2) (wVar 3)))))
def S__law_taken : FS := fun ds q x => wb__law_taken (rho0 N__law_taken ds) ⟨fun _ => q .none, fun d _ => q d, fun _ => False, fun _ => False, fun n _ => x n⟩
theorem h__law_taken {P : Program} {w : World} {base : Heap} {K : PySem.W.Frag} {mg : Str → Option Value} (X : Fx K mg) : Has P w K mg base "_law_taken" 1 ["number", "k"] (SpP K mg 2 [] S__law_taken) := by
  obtain ⟨f, fd, F, m⟩ := X.d__law_taken
  refine ⟨f, fd, m, F.kp, F.bindsN (fun _ _ _ _ _ _ us hl => match us, hl with | [_, _], _ => rfl), fn_pure F sc__law_taken rfl (fun cdv A outer s H E vs P0 EX ck hr => ?_) (fun ds q xx hl z => z)⟩
  exact ⟨_, (jss_cons (js_asg (je_tup (ja_cons je_int (ja_cons je_int ja_nil))) (jg_tup rfl (jgs_cons (jg_name (i := 2) sc__law_taken.nd rfl (by first | exact Or.inl rfl | exact Or.inr rfl)) (jgs_cons (jg_name (i := 3) sc__law_taken.nd rfl (by first | exact Or.inl rfl | exact Or.inr rfl)) jgs_nil gNm_hg) gNm_hg)))
    (jss_cons (js_for (passes_of rfl) rfl (ji_r1 (by rfl) X.b_range (ja_cons (je_var (i := 1) rfl (by first | exact .inl rfl | exact .inr (.inl rfl) | exact .inr (.inr rfl))) ja_nil)) (jg_name (i := 4) sc__law_taken.nd rfl (by first | exact Or.inl rfl | exact Or.inr rfl)) (jss_one (js_par2 (i := 2) (j := 3) rfl sc__law_taken.nd rfl rfl (by decide) rfl rfl (je_op op_mul2 op2_mul (je_var (i := 2) rfl (by first | exact .inl rfl | exact .inr (.inl rfl) | exact .inr (.inr rfl))) (je_op op_sub op2_sub (je_var (i := 0) rfl (by first | exact .inl rfl | exact .inr (.inl rfl) | exact .inr (.inr rfl))) (je_var (i := 4) rfl (by first | exact .inl rfl | exact .inr (.inl rfl) | exact .inr (.inr rfl))))) (je_op op_mul2 op2_mul (je_var (i := 3) rfl (by first | exact .inl rfl | exact .inr (.inl rfl) | exact .inr (.inr rfl))) (je_op op_add4 op2_add (je_var (i := 4) rfl (by first | exact .inl rfl | exact .inr (.inl rfl) | exact .inr (.inr rfl))) je_int)) cI_ok cI_ok)))
    (jss_one (js_retI (je_op op_fdivW op2_div (je_var (i := 2) rfl (by first | exact .inl rfl | exact .inr (.inl rfl) | exact .inr (.inr rfl))) (je_var (i := 3) rfl (by first | exact .inl rfl | exact .inr (.inl rfl) | exact .inr (.inr rfl))))))))⟩
end LW

namespace LW
open PySem PySem.Spec PyProof.Rows L2 L3
local macro_rules | `(tactic| ac_rfl) => `(tactic| (repeat (first | with_reducible refine r_eqS ?_ | with_reducible refine r_neS ?_ | with_reducible refine r_eqTS ?_ | with_reducible refine r_neTS ?_ | with_reducible refine r_eqLS ?_ | with_reducible refine r_neLS ?_ | with_reducible refine r_nTT ?_ | with_reducible refine r_nFT ?_ | with_reducible refine r_nTF ?_ | with_reducible refine r_nFF ?_ | with_reducible refine r_iTT ?_ | with_reducible refine r_iFT ?_ | with_reducible refine r_iTF ?_ | with_reducible refine r_iFF ?_ | with_reducible refine r_seq ?_ | with_reducible refine r_nil ?_ | with_reducible refine r_if ?_ | with_reducible refine r_drop ?_ | with_reducible refine r_raise ?_ | with_reducible refine r_set ?_ | with_reducible refine r_setF ?_ | with_reducible refine r_setI ?_ | with_reducible refine r_par2 ?_ | with_reducible refine r_retI ?_ | with_reducible refine r_asg ?_ | with_reducible refine r_for ?_ | with_reducible refine r_c ?_ | with_reducible refine r_2 ?_ | with_reducible refine r_B ?_ | with_reducible refine r_tAnd ?_ | with_reducible refine r_tOr ?_ | with_reducible refine r_tNot ?_ | with_reducible refine r_ifE ?_ | with_reducible refine r_call ?_ | with_reducible refine r_acons ?_ | with_reducible refine r_anil ?_ | with_reducible refine r_tup ?_ | with_reducible refine r_lst ?_ | with_reducible refine r_bf ?_ | with_reducible refine r_asB ?_ | with_reducible refine r_add ?_ | with_reducible refine r_sub ?_ | with_reducible refine r_lt ?_ | with_reducible refine r_le ?_ | with_reducible refine r_gt ?_ | with_reducible refine r_ge ?_ | with_reducible refine r_eqI ?_ | with_reducible refine r_neI ?_ | with_reducible refine r_notN ?_ | with_reducible refine r_intB ?_ | with_reducible refine r_yes ?_ | with_reducible refine r_itT ?_ | with_reducible refine r_itF ?_ | with_reducible refine r_itNT ?_ | with_reducible refine r_itNF ?_ | with_reducible refine r_lenL ?_ | with_reducible refine r_lenT ?_ | with_reducible refine r_negC ?_ | with_reducible refine r_wh ?_ | with_reducible refine r_sl ?_ | with_reducible refine r_oN ?_ | with_reducible refine r_oSC ?_ | with_reducible refine r_R1C ?_ | with_reducible refine r_gTp ?_ | with_reducible refine r_ggC ?_ | with_reducible refine r_ggN ?_ | with_reducible refine r_slL ?_ | with_reducible refine r_slT ?_ | with_reducible refine r_tupL ?_ | with_reducible refine r_tupT ?_ | with_reducible refine r_is ?_ | with_reducible refine r_andV ?_ | with_reducible refine r_orV ?_ | with_reducible refine r_notV ?_ | with_reducible refine r_lc ?_ | with_reducible refine r_iL ?_ | with_reducible refine r_iT ?_ | with_reducible refine r_iS ?_ | with_reducible refine r_R1 ?_ | with_reducible refine r_R2 ?_ | with_reducible refine r_isB ?_ | with_reducible refine r_notB ?_ | with_reducible refine r_isN ?_ | with_reducible refine r_lstL ?_ | with_reducible refine r_lstT ?_ | with_reducible refine r_lstF ?_ | with_reducible refine r_absI ?_ | with_reducible refine r_sumL ?_ | with_reducible refine r_sumT ?_ | with_reducible refine r_sumF ?_ | with_reducible refine r_allB ?_ | with_reducible refine r_anyB ?_ | with_reducible refine r_eqT ?_ | with_reducible refine r_eqL ?_ | with_reducible refine r_neT ?_ | with_reducible refine r_neL ?_ | with_reducible refine r_neLn ?_ | with_reducible refine r_retN ?_ | with_reducible refine r_fz ?_ | with_reducible refine r_lenF ?_ | with_reducible refine r_tupF ?_ | with_reducible refine r_slF ?_ | with_reducible refine r_chain ?_ | with_reducible refine r_chC ?_ | ((with_reducible apply r_var); exact rfl; exact rfl) | ((with_reducible apply r_callH); exact r_hasV rfl rfl) | ((with_reducible apply r_own); exact rfl; exact rfl; exact rfl) | ((with_reducible apply r_mul); (first | exact mOkL (by decide) (by decide) | exact mOkR (by decide) (by decide) | assumption | (refine mOkL ?_ ?_ <;> omega) | (refine mOkR ?_ ?_ <;> omega))) | ((with_reducible apply r_div); (first | exact dOk64 (by decide) (by decide) | assumption | (refine dOk64 ?_ ?_ <;> omega))) | ((with_reducible apply r_mod); first | decide | omega) | ((with_reducible apply r_pow); exact ⟨by decide, by decide, by decide⟩) | ((with_reducible apply r_and1); exact Nat.le_of_ble_eq_true rfl; rfl; (try dsimp only [List.set_cons_zero, List.set_cons_succ])) | ((with_reducible apply r_and2); exact Nat.le_of_ble_eq_true rfl; exact Nat.le_of_ble_eq_true rfl; rfl; rfl; (try dsimp only [List.set_cons_zero, List.set_cons_succ])) | ((with_reducible apply r_and0); exact Nat.le_of_ble_eq_true rfl; (try dsimp only [List.set_cons_zero, List.set_cons_succ])) | ((with_reducible apply r_andS); exact Nat.le_of_ble_eq_true rfl) | ((with_reducible apply r_andI); rfl) | ((with_reducible apply r_fzI); (first | rfl | assumption | exact imm_ints _)) | ((with_reducible apply r_fzL); (first | rfl | exact imm_ints _ | assumption)) | ((with_reducible apply r_immL); (first | rfl | exact imm_ints _ | assumption)) | ((with_reducible apply r_vfzL); exact rfl; (first | rfl | exact imm_ints _ | assumption)) | ((with_reducible apply r_vfzP); exact rfl; (first | rfl | assumption)) | ((with_reducible apply r_vfzF); exact rfl; (first | rfl | exact imm_ints _ | assumption)) | ((with_reducible apply r_chV); exact rfl; exact rfl) | ((with_reducible apply r_popAt); exact r_isLst rfl rfl) | ((with_reducible apply r_gNm); exact Nat.le_of_ble_eq_true rfl; (first | rfl | assumption); exact rfl) | ((with_reducible apply r_oSV); exact rfl; exact rfl) | ((with_reducible apply r_callS); exact rfl) | ((with_reducible apply r_append); exact rfl; exact rfl) | ((with_reducible apply r_wlist); exact rfl; exact rfl; exact rfl) | (dsimp only [List.set_cons_zero, List.set_cons_succ, SV.put, unS]))))

theorem s_is_integer {d : D} {q : D → Prop} {x : Str → Prop} (h : q (.bool (isI d))) : S_is_integer [d] q x := by
  cases d <;> first | exact And.intro rfl h | exact h
theorem s_is_within {d : D} {lo hi : Int} {q : D → Prop} {x : Str → Prop} (h : q (.bool (wthn d lo hi))) : S_is_within [d, .int lo, .int hi] q x := by
  simp only [S_is_within, wb_is_within, wsSeq, wsNil, wsIf, wsSet, wsSetI, wsSetF, wsPar2, wsAsg, wsRetI, wsRetF, wsRetC, wsRetO, wsRetN, wsDrop, wsRaise, wsStore, wsAppend, wsAug, wsFor, wsPass, wC, wVar, w2, wB, wtAnd, wtOr, wtNot, wtYes, wIf, wAndV, wOrV, wNotV, wNeg, wChain, wTup, wLst, wCall, wCallH, waCons, waNil, wBf, wIs, bLen, bAbs, bInt, bTup, bLst, on1, fAdd, fI, fB, fIx, fEq, fNe, fNotN, fIsN, fMul, wiR1, wiR2, wiList, wiTup, wiSeq, wiEn, wLc, wSl, woN, woS, fSl, asB, gNm, gTp, ggCons, ggNil, SV.get, SV.put, SV.own, isLst, withList, withOwn, hasV, paOf, cI, cC, cF, imm, immL, flat, dInt, dBool, rho0, rhoH, List.map_cons, List.map_nil, List.getElem?_cons_zero, List.getElem?_cons_succ, List.set_cons_zero, List.set_cons_succ, List.length_cons, List.length_nil, List.length_set]
  refine s_is_integer ?_
  cases d with
  | int i =>
    simp only [isI, wthn] at h ⊢
    by_cases h1 : lo ≤ i
    · simpa [h1] using h
    · simpa [h1] using h
  | _ => simpa [isI, wthn] using h
theorem s_check {d : D} {lo hi : Int} {q : D → Prop} {x : Str → Prop} (h : if wthn d lo hi = true then q .none else x "NoNumber") : S_check_number [d, .int lo, .int hi] q x := by
  simp only [S_check_number, wb_check_number, wsSeq, wsNil, wsIf, wsSet, wsSetI, wsSetF, wsPar2, wsAsg, wsRetI, wsRetF, wsRetC, wsRetO, wsRetN, wsDrop, wsRaise, wsStore, wsAppend, wsAug, wsFor, wsPass, wC, wVar, w2, wB, wtAnd, wtOr, wtNot, wtYes, wIf, wAndV, wOrV, wNotV, wNeg, wChain, wTup, wLst, wCall, wCallH, waCons, waNil, wBf, wIs, bLen, bAbs, bInt, bTup, bLst, on1, fAdd, fI, fB, fIx, fEq, fNe, fNotN, fIsN, fMul, wiR1, wiR2, wiList, wiTup, wiSeq, wiEn, wLc, wSl, woN, woS, fSl, asB, gNm, gTp, ggCons, ggNil, SV.get, SV.put, SV.own, isLst, withList, withOwn, hasV, paOf, cI, cC, cF, imm, immL, flat, dInt, dBool, rho0, rhoH, List.map_cons, List.map_nil, List.getElem?_cons_zero, List.getElem?_cons_succ, List.set_cons_zero, List.set_cons_succ, List.length_cons, List.length_nil, List.length_set]
  refine s_is_within ?_
  cases hw : wthn d lo hi with
  | true => rw [hw] at h; exact h
  | false => rw [hw] at h; exact h
def isItems : D → Bool
  | .tuple ds => decide (1 ≤ ds.length ∧ ds.length ≤ 40) && ds.all fun d => wthn d (-100000) 100000
  | _ => false
theorem isItems_ints {d : D} (h : isItems d = true) : ∃ ns : List Int, d = .tuple (ilD ns) ∧ (1 ≤ ns.length ∧ ns.length ≤ 40) ∧ ∀ z ∈ ns, -100000 ≤ z ∧ z ≤ 100000 := by
  cases d with
  | tuple ds =>
    simp only [isItems, Bool.and_eq_true, decide_eq_true_eq] at h
    obtain ⟨ns, rfl, hn⟩ := wthn_all h.2
    refine ⟨ns, rfl, ?_, hn⟩
    have := h.1
    rwa [ilD_len] at this
  | _ => simp [isItems] at h
theorem isItems_of {ns : List Int} (h1 : 1 ≤ ns.length ∧ ns.length ≤ 40) (h2 : ∀ z ∈ ns, -100000 ≤ z ∧ z ≤ 100000) : isItems (.tuple (ilD ns)) = true := by
  simp only [isItems, Bool.and_eq_true, decide_eq_true_eq, ilD_len]
  exact ⟨h1, wthn_allI h2⟩
theorem s_are_items {d : D} {q : D → Prop} {x : Str → Prop} (hd : imm d = true) (h : q (.bool (isItems d))) : S_are_items [d] q x := by
  have hz : 40 ≤ sizeLine := by decide
  unfold S_are_items wb_are_items
  rw [show rho0 N_are_items [d] = [.pr d, .un] from rfl]
  by_cases ht : dTup d = true
  · cases d with
    | tuple ds =>
      simp only [isItems] at h
      ac_rfl
      rw [show dTup (.tuple ds) = true from rfl]
      ac_rfl
      by_cases h1 : 1 ≤ ds.length ∧ ds.length ≤ 40
      · rw [show (decide ((1 : Int) ≤ (ds.length : Int)) && decide ((ds.length : Int) ≤ 40)) = true by simp only [Bool.and_eq_true, decide_eq_true_eq]; omega]
        rw [decide_eq_true h1, Bool.true_and] at h
        ac_rfl
        refine lc_map (fun d => .bool (wthn d (-100000) 100000)) (show (1 : Nat) < 2 by decide) rfl ds [] (by show 0 + ds.length ≤ sizeLine; omega) (immL_mem hd) (fun d m q' hq => ?_) ?_
        · ac_rfl
          exact s_is_within hq
        · rw [List.nil_append, map_bl]
          ac_rfl
          rw [all_map_id]
          exact h
      · rw [show (decide ((1 : Int) ≤ (ds.length : Int)) && decide ((ds.length : Int) ≤ 40)) = false by simp only [Bool.and_eq_false_iff, decide_eq_false_iff_not]; omega]
        rw [decide_eq_false h1] at h
        ac_rfl
        exact h
    | _ => simp [dTup] at ht
  · have hi : isItems d = false := by cases d <;> simp_all [isItems, dTup]
    rw [hi] at h
    ac_rfl
    rw [show dTup d = false by simpa using ht]
    ac_rfl
    exact h
def isHeap : D → Bool
  | .tuple ds => isItems (.tuple ds) && decide (((intsOf ds).getD []).Pairwise (· ≤ ·))
  | _ => false
theorem isHeap_of {ns : List Int} (h1 : 1 ≤ ns.length ∧ ns.length ≤ 40) (h2 : ∀ z ∈ ns, -100000 ≤ z ∧ z ≤ 100000) (h3 : ns.Pairwise (· ≤ ·)) : isHeap (.tuple (ilD ns)) = true := by
  simp only [isHeap, isItems_of h1 h2, Bool.true_and, decide_eq_true_eq]
  unfold ilD
  rw [intsOf_map]
  exact h3
theorem s_is_heap {d : D} {q : D → Prop} {x : Str → Prop} (hd : imm d = true) (h : q (.bool (isHeap d))) : S_is_heap [d] q x := by
  unfold S_is_heap wb_is_heap
  rw [show rho0 N_is_heap [d] = [.pr d] from rfl]
  ac_rfl
  refine s_are_items hd ?_
  cases hi : isItems d with
  | false =>
    have : isHeap d = false := by cases d <;> first | rfl | (show (isItems _ && _) = false; rw [hi]; rfl)
    rw [this] at h
    ac_rfl
    exact h
  | true =>
    obtain ⟨ns, rfl, h1, h2⟩ := isItems_ints hi
    ac_rfl
    refine r_sortT fun ms hp hs => ?_
    refine r_eqL ?_
    simp only [isHeap, hi, Bool.true_and] at h
    unfold ilD at h
    rw [intsOf_map] at h
    have e : decide (ns = ms) = decide (((some ns).getD []).Pairwise (· ≤ ·)) := by
      by_cases hn : ns.Pairwise (· ≤ ·)
      · rw [sorted_self hp hs hn]
        simp [hn]
      · have : ¬ ns = ms := fun z => hn (z ▸ hs)
        simp [this, hn]
    rw [e]
    exact ⟨rfl, h⟩
theorem s_check_heap {d : D} {q : D → Prop} {x : Str → Prop} (hd : imm d = true) (h : if isHeap d = true then q .none else x "NoHeap") : S_check_heap [d] q x := by
  unfold S_check_heap wb_check_heap
  rw [show rho0 N_check_heap [d] = [.pr d] from rfl]
  ac_rfl
  refine s_is_heap hd ?_
  cases hi : isHeap d with
  | true => rw [hi] at h; ac_rfl; exact h
  | false => rw [hi] at h; ac_rfl; exact h
theorem isItems_perm {ns ms : List Int} (h : ms.Perm ns) : isItems (.tuple (ilD ms)) = isItems (.tuple (ilD ns)) := by
  have key : ∀ {ns ms : List Int}, ms.Perm ns → isItems (.tuple (ilD ns)) = true → isItems (.tuple (ilD ms)) = true := fun {ns ms} h hi => by
    obtain ⟨ks, e, h1, h2⟩ := isItems_ints hi
    have e2 : ns = ks := by
      have := congrArg (fun d => match d with | D.tuple ds => intsOf ds | _ => none) e
      simp only [ilD, intsOf_map, Option.some.injEq] at this
      exact this
    subst e2
    exact isItems_of (by rw [h.length_eq]; exact h1) fun z hz => h2 z (h.mem_iff.mp hz)
  by_cases h1 : isItems (.tuple (ilD ns)) = true
  · rw [h1, key h h1]
  · have : ¬ isItems (.tuple (ilD ms)) = true := fun z => h1 (key h.symm z)
    simp only [Bool.not_eq_true] at h1 this
    rw [h1, this]
theorem s_as_heap {ns : List Int} {q : D → Prop} {x : Str → Prop} (h : ∀ ms : List Int, ms.Perm ns → ms.Pairwise (· ≤ ·) → if isItems (.tuple (ilD ns)) = true then q (.tuple (ilD ms)) else x "NoNumbers") : S_as_heap [.tuple (ilD ns)] q x := by
  unfold S_as_heap wb_as_heap
  rw [show rho0 N_as_heap [.tuple (ilD ns)] = [.pr (.tuple (ilD ns)), .un] from rfl]
  ac_rfl
  refine r_sortT fun ms hp hs => ?_
  have h := h ms hp hs
  have him : imm (.tuple (ilD ms)) = true := imm_ints ms
  ac_rfl
  refine And.intro ⟨Nat.le_of_ble_eq_true rfl, by rw [him]; rfl⟩ ?_
  ac_rfl
  refine s_are_items him ?_
  rw [isItems_perm hp]
  cases hi : isItems (.tuple (ilD ns)) with
  | true => rw [hi] at h; ac_rfl; exact ⟨him, h⟩
  | false => rw [hi] at h; ac_rfl; exact h
theorem s_heap_of {d : D} {q : D → Prop} {x : Str → Prop} (hd : imm d = true) (h : isItems d = false → x "NoNumbers") (h2 : ∀ ns ms : List Int, d = .tuple (ilD ns) → isItems d = true → ms.Perm ns → ms.Pairwise (· ≤ ·) → q (.tuple (ilD ms))) : S_heap_of [d] q x := by
  unfold S_heap_of wb_heap_of
  rw [show rho0 N_heap_of [d] = [.pr d] from rfl]
  ac_rfl
  refine s_are_items hd ?_
  cases hi : isItems d with
  | false => ac_rfl; exact h hi
  | true =>
    obtain ⟨ns, rfl, h1, h3⟩ := isItems_ints hi
    ac_rfl
    refine s_as_heap fun ms hp hs => ?_
    rw [if_pos hi]
    exact ⟨imm_ints ms, h2 ns ms rfl hi hp hs⟩
end LW

namespace LW
open PySem PySem.Spec PyProof.Rows L2 L3
local macro_rules | `(tactic| ac_rfl) => `(tactic| (repeat (first | with_reducible refine r_eqS ?_ | with_reducible refine r_neS ?_ | with_reducible refine r_eqTS ?_ | with_reducible refine r_neTS ?_ | with_reducible refine r_eqLS ?_ | with_reducible refine r_neLS ?_ | with_reducible refine r_nTT ?_ | with_reducible refine r_nFT ?_ | with_reducible refine r_nTF ?_ | with_reducible refine r_nFF ?_ | with_reducible refine r_iTT ?_ | with_reducible refine r_iFT ?_ | with_reducible refine r_iTF ?_ | with_reducible refine r_iFF ?_ | with_reducible refine r_seq ?_ | with_reducible refine r_nil ?_ | with_reducible refine r_if ?_ | with_reducible refine r_drop ?_ | with_reducible refine r_raise ?_ | with_reducible refine r_set ?_ | with_reducible refine r_setF ?_ | with_reducible refine r_setI ?_ | with_reducible refine r_par2 ?_ | with_reducible refine r_retI ?_ | with_reducible refine r_asg ?_ | with_reducible refine r_for ?_ | with_reducible refine r_c ?_ | with_reducible refine r_2 ?_ | with_reducible refine r_B ?_ | with_reducible refine r_tAnd ?_ | with_reducible refine r_tOr ?_ | with_reducible refine r_tNot ?_ | with_reducible refine r_ifE ?_ | with_reducible refine r_call ?_ | with_reducible refine r_acons ?_ | with_reducible refine r_anil ?_ | with_reducible refine r_tup ?_ | with_reducible refine r_lst ?_ | with_reducible refine r_bf ?_ | with_reducible refine r_asB ?_ | with_reducible refine r_add ?_ | with_reducible refine r_sub ?_ | with_reducible refine r_lt ?_ | with_reducible refine r_le ?_ | with_reducible refine r_gt ?_ | with_reducible refine r_ge ?_ | with_reducible refine r_eqI ?_ | with_reducible refine r_neI ?_ | with_reducible refine r_notN ?_ | with_reducible refine r_intB ?_ | with_reducible refine r_yes ?_ | with_reducible refine r_itT ?_ | with_reducible refine r_itF ?_ | with_reducible refine r_itNT ?_ | with_reducible refine r_itNF ?_ | with_reducible refine r_lenL ?_ | with_reducible refine r_lenT ?_ | with_reducible refine r_negC ?_ | with_reducible refine r_wh ?_ | with_reducible refine r_sl ?_ | with_reducible refine r_oN ?_ | with_reducible refine r_oSC ?_ | with_reducible refine r_R1C ?_ | with_reducible refine r_gTp ?_ | with_reducible refine r_ggC ?_ | with_reducible refine r_ggN ?_ | with_reducible refine r_slL ?_ | with_reducible refine r_slT ?_ | with_reducible refine r_tupL ?_ | with_reducible refine r_tupT ?_ | with_reducible refine r_is ?_ | with_reducible refine r_andV ?_ | with_reducible refine r_orV ?_ | with_reducible refine r_notV ?_ | with_reducible refine r_lc ?_ | with_reducible refine r_iL ?_ | with_reducible refine r_iT ?_ | with_reducible refine r_iS ?_ | with_reducible refine r_R1 ?_ | with_reducible refine r_R2 ?_ | with_reducible refine r_isB ?_ | with_reducible refine r_notB ?_ | with_reducible refine r_isN ?_ | with_reducible refine r_lstL ?_ | with_reducible refine r_lstT ?_ | with_reducible refine r_lstF ?_ | with_reducible refine r_absI ?_ | with_reducible refine r_sumL ?_ | with_reducible refine r_sumT ?_ | with_reducible refine r_sumF ?_ | with_reducible refine r_allB ?_ | with_reducible refine r_anyB ?_ | with_reducible refine r_eqT ?_ | with_reducible refine r_eqL ?_ | with_reducible refine r_neT ?_ | with_reducible refine r_neL ?_ | with_reducible refine r_neLn ?_ | with_reducible refine r_retN ?_ | with_reducible refine r_fz ?_ | with_reducible refine r_lenF ?_ | with_reducible refine r_tupF ?_ | with_reducible refine r_slF ?_ | with_reducible refine r_chain ?_ | with_reducible refine r_chC ?_ | ((with_reducible apply r_var); exact rfl; exact rfl) | ((with_reducible apply r_callH); exact r_hasV rfl rfl) | ((with_reducible apply r_own); exact rfl; exact rfl; exact rfl) | ((with_reducible apply r_mul); (first | exact mOkL (by decide) (by decide) | exact mOkR (by decide) (by decide) | assumption | (refine mOkL ?_ ?_ <;> omega) | (refine mOkR ?_ ?_ <;> omega))) | ((with_reducible apply r_div); (first | exact dOk64 (by decide) (by decide) | assumption | (refine dOk64 ?_ ?_ <;> omega))) | ((with_reducible apply r_mod); first | decide | omega) | ((with_reducible apply r_pow); exact ⟨by decide, by decide, by decide⟩) | ((with_reducible apply r_and1); exact Nat.le_of_ble_eq_true rfl; rfl; (try dsimp only [List.set_cons_zero, List.set_cons_succ])) | ((with_reducible apply r_and2); exact Nat.le_of_ble_eq_true rfl; exact Nat.le_of_ble_eq_true rfl; rfl; rfl; (try dsimp only [List.set_cons_zero, List.set_cons_succ])) | ((with_reducible apply r_and0); exact Nat.le_of_ble_eq_true rfl; (try dsimp only [List.set_cons_zero, List.set_cons_succ])) | ((with_reducible apply r_andS); exact Nat.le_of_ble_eq_true rfl) | ((with_reducible apply r_andI); rfl) | ((with_reducible apply r_fzI); (first | rfl | assumption | exact imm_ints _)) | ((with_reducible apply r_fzL); (first | rfl | exact imm_ints _ | assumption)) | ((with_reducible apply r_immL); (first | rfl | exact imm_ints _ | assumption)) | ((with_reducible apply r_vfzL); exact rfl; (first | rfl | exact imm_ints _ | assumption)) | ((with_reducible apply r_vfzP); exact rfl; (first | rfl | assumption)) | ((with_reducible apply r_vfzF); exact rfl; (first | rfl | exact imm_ints _ | assumption)) | ((with_reducible apply r_chV); exact rfl; exact rfl) | ((with_reducible apply r_popAt); exact r_isLst rfl rfl) | ((with_reducible apply r_gNm); exact Nat.le_of_ble_eq_true rfl; (first | rfl | assumption); exact rfl) | ((with_reducible apply r_oSV); exact rfl; exact rfl) | ((with_reducible apply r_callS); exact rfl) | ((with_reducible apply r_append); exact rfl; exact rfl) | ((with_reducible apply r_wlist); exact rfl; exact rfl; exact rfl) | (dsimp only [List.set_cons_zero, List.set_cons_succ, SV.put, unS]))))

/-- the slots while a power is made -/
theorem s_raw_power {n k : Int} {q : D → Prop} {x : Str → Prop} (hn : -(2 ^ 64) < n ∧ n < 2 ^ 64) (hk : 0 ≤ k ∧ k ≤ 1000) (h : q (.int (n ^ k.toNat))) : S_raw_power [.int n, .int k] q x := by
  unfold S_raw_power wb_raw_power; rw [show rho0 N_raw_power [.int n, .int k] = [.pr (.int n), .pr (.int k), .un, .un] from rfl]
  ac_rfl
  refine And.intro ⟨by omega, by omega⟩ ?_
  refine r_loopR (fun j ρ => ∃ t, ρ = [.pr (.int n), .pr (.int k), .ow (.int (n ^ j)), t]) ⟨_, by rw [Int.pow_zero]⟩ (fun j hj ρ K hI kk => ?_) fun ρ hI => ?_
  · obtain ⟨t, rfl⟩ := hI
    have := hn.1
    have := hn.2
    ac_rfl
    exact kk _ ⟨_, by rw [Int.pow_succ]⟩
  · obtain ⟨t, rfl⟩ := hI
    ac_rfl
    exact h
theorem s_law_power {n k : Int} {q : D → Prop} {x : Str → Prop} (hn : -(2 ^ 64) < n ∧ n < 2 ^ 64) (hk : 0 ≤ k ∧ k ≤ 1000) (h : q (.int (n ^ k.toNat))) : S__law_power [.int n, .int k] q x := s_raw_power hn hk h
def pSum (ns : List Int) (k : Int) : Int := (ns.map fun z => z ^ k.toNat).sum
theorem s_raw_sum {ns : List Int} {k : Int} {q : D → Prop} {x : Str → Prop} (hl : ns.length ≤ 40) (hn : ∀ z ∈ ns, -100000 ≤ z ∧ z ≤ 100000) (hk : 0 ≤ k ∧ k ≤ 1000) (h : q (.int (pSum ns k))) : S_raw_sum [.tuple (ilD ns), .int k] q x := by
  have hz : 40 ≤ sizeLine := by decide
  unfold S_raw_sum wb_raw_sum; rw [show rho0 N_raw_sum [.tuple (ilD ns), .int k] = [.pr (.tuple (ilD ns)), .pr (.int k), .un] from rfl]
  ac_rfl
  refine lc_ints (fun z => .int (z ^ k.toNat)) (show (2 : Nat) < 3 by decide) rfl (by omega) (fun z m q' hq => ?_) ?_
  · have := hn z m
    ac_rfl
    exact s_raw_power ⟨by omega, by omega⟩ hk hq
  · rw [map_il]
    ac_rfl
    exact h
theorem s_law_sum {ns : List Int} {k : Int} {q : D → Prop} {x : Str → Prop} (hl : ns.length ≤ 40) (hn : ∀ z ∈ ns, -100000 ≤ z ∧ z ≤ 100000) (hk : 0 ≤ k ∧ k ≤ 1000) (h : q (.int (pSum ns k))) : S__law_sum [.tuple (ilD ns), .int k] q x := s_raw_sum hl hn hk h
/-- a heap as the program has it -/
structure HpL (ns : List Int) : Prop where
  l1 : 1 ≤ ns.length
  l2 : ns.length ≤ 40
  b : ∀ z ∈ ns, -100000 ≤ z ∧ z ≤ 100000
  s : ns.Pairwise (· ≤ ·)
theorem HpL.is {ns : List Int} (h : HpL ns) : isHeap (.tuple (ilD ns)) = true := isHeap_of ⟨h.l1, h.l2⟩ h.b h.s
theorem HpL.items {ns : List Int} (h : HpL ns) : isItems (.tuple (ilD ns)) = true := isItems_of ⟨h.l1, h.l2⟩ h.b
theorem s_ck_heap {ns : List Int} {q : D → Prop} {x : Str → Prop} (h : HpL ns) (k : q .none) : S_check_heap [.tuple (ilD ns)] q x := s_check_heap (imm_ints _) (by rw [if_pos h.is]; exact k)
theorem s_power_sum {ns : List Int} {k : Int} {q : D → Prop} {x : Str → Prop} (hh : HpL ns) (hk : 0 ≤ k ∧ k ≤ 60) (h : q (.int (pSum ns k))) : S_power_sum [.tuple (ilD ns), .int k] q x := by
  unfold S_power_sum wb_power_sum; rw [show rho0 N_power_sum [.tuple (ilD ns), .int k] = [.pr (.tuple (ilD ns)), .pr (.int k)] from rfl]
  ac_rfl
  refine s_ck_heap hh ?_
  ac_rfl
  refine s_check ?_
  rw [if_pos (wthn_of hk.1 hk.2)]
  ac_rfl
  refine s_raw_sum hh.l2 hh.b ⟨hk.1, by omega⟩ ?_
  exact ⟨rfl, h⟩
theorem s_power_sums {ns : List Int} {m : Int} {q : D → Prop} {x : Str → Prop} (hh : HpL ns) (hm : 1 ≤ m ∧ m ≤ 60) (h : q (.tuple (ilD ((List.range m.toNat).map fun j => pSum ns (1 + (j : Nat)))))) : S_power_sums [.tuple (ilD ns), .int m] q x := by
  have hz : 60 ≤ sizeLine := by decide
  unfold S_power_sums wb_power_sums; rw [show rho0 N_power_sums [.tuple (ilD ns), .int m] = [.pr (.tuple (ilD ns)), .pr (.int m), .un] from rfl]
  ac_rfl
  refine s_ck_heap hh ?_
  ac_rfl
  refine s_check ?_
  rw [if_pos (wthn_of hm.1 hm.2)]
  ac_rfl
  refine And.intro ⟨by decide, by decide, by omega, by omega⟩ ?_
  rw [show (m + 1 - 1).toNat = m.toNat by omega]
  ac_rfl
  refine lc_rng (fun j => .int (pSum ns (1 + (j : Nat)))) (show (2 : Nat) < 3 by decide) rfl (by omega) (fun j hj q' hq => ?_) ?_
  · ac_rfl
    exact s_raw_sum hh.l2 hh.b ⟨by omega, by omega⟩ hq
  · rw [map_il]
    ac_rfl
    exact ⟨imm_ints _, h⟩
/-- in how many ways, by turns -/
def wayF (n : Int) : Nat → Int
  | 0 => 1
  | k + 1 => wayF n k * (n - (k : Nat)) / ((k : Nat) + 1)
theorem s_ways {n k : Int} {q : D → Prop} {x : Str → Prop} (hn : -(2 ^ 62) < n ∧ n < 2 ^ 62) (hk : 0 ≤ k ∧ k ≤ 1000) (h : q (.int (wayF n k.toNat))) : S_ways_to_take [.int n, .int k] q x := by
  unfold S_ways_to_take wb_ways_to_take; rw [show rho0 N_ways_to_take [.int n, .int k] = [.pr (.int n), .pr (.int k), .un, .un] from rfl]
  ac_rfl
  refine And.intro ⟨by omega, by omega⟩ ?_
  refine r_loopR (fun j ρ => ∃ t, ρ = [.pr (.int n), .pr (.int k), .ow (.int (wayF n j)), t]) ⟨_, rfl⟩ (fun j hj ρ K hI kk => ?_) fun ρ hI => ?_
  · obtain ⟨t, rfl⟩ := hI
    ac_rfl
    rw [show wayF n j * (n - (0 + (j : Int))) / (0 + (j : Int) + 1) = wayF n (j + 1) by rw [wayF, Int.zero_add]]
    exact kk _ ⟨_, rfl⟩
  · obtain ⟨t, rfl⟩ := hI
    ac_rfl
    exact h
def tSum (ns : List Int) (k : Int) : Int := (ns.map fun z => wayF z k.toNat).sum
theorem s_raw_taken {ns : List Int} {k : Int} {q : D → Prop} {x : Str → Prop} (hl : ns.length ≤ 40) (hn : ∀ z ∈ ns, -100000 ≤ z ∧ z ≤ 100000) (hk : 0 ≤ k ∧ k ≤ 1000) (h : q (.int (tSum ns k))) : S_raw_taken [.tuple (ilD ns), .int k] q x := by
  have hz : 40 ≤ sizeLine := by decide
  unfold S_raw_taken wb_raw_taken; rw [show rho0 N_raw_taken [.tuple (ilD ns), .int k] = [.pr (.tuple (ilD ns)), .pr (.int k), .un] from rfl]
  ac_rfl
  refine lc_ints (fun z => .int (wayF z k.toNat)) (show (2 : Nat) < 3 by decide) rfl (by omega) (fun z m q' hq => ?_) ?_
  · have := hn z m
    ac_rfl
    exact s_ways ⟨by omega, by omega⟩ hk hq
  · rw [map_il]
    ac_rfl
    exact h
theorem s_taken {ns : List Int} {k : Int} {q : D → Prop} {x : Str → Prop} (hh : HpL ns) (hk : 0 ≤ k ∧ k ≤ 60) (h : q (.int (tSum ns k))) : S_taken_sum [.tuple (ilD ns), .int k] q x := by
  unfold S_taken_sum wb_taken_sum; rw [show rho0 N_taken_sum [.tuple (ilD ns), .int k] = [.pr (.tuple (ilD ns)), .pr (.int k)] from rfl]
  ac_rfl
  refine s_ck_heap hh ?_
  ac_rfl
  refine s_check ?_
  rw [if_pos (wthn_of hk.1 hk.2)]
  ac_rfl
  refine s_raw_taken hh.l2 hh.b ⟨hk.1, by omega⟩ ?_
  exact ⟨rfl, h⟩
theorem atI_0 {α : Type} {x : α} {xs : List α} : atI (x :: xs) 0 = some x := atI_nat (i := 0) rfl
theorem atI_lastD {ns : List Int} (h : ns ≠ []) : atI (ilD ns) (-1) = some (.int (ns.getLast h)) := by
  have hp : 0 < ns.length := List.length_pos_iff.mpr h
  unfold atI ixN
  rw [if_neg (by decide), if_pos (by rw [ilD_len]; omega)]
  show (ilD ns)[(-1 + ((ilD ns).length : Int)).toNat]? = _
  rw [ilD_len, show (-1 + (ns.length : Int)).toNat = ns.length - 1 by omega]
  exact ilD_get (by rw [← List.getLast?_eq_getElem?, List.getLast?_eq_getLast])
theorem s_spread {ns : List Int} {q : D → Prop} {x : Str → Prop} (hh : HpL ns) (h : ∀ (he : ns ≠ []), q (.int (ns.getLast he - ns.head he))) : S_spread [.tuple (ilD ns)] q x := by
  have he : ns ≠ [] := fun z => by have := hh.l1; rw [z] at this; cases this
  unfold S_spread wb_spread; rw [show rho0 N_spread [.tuple (ilD ns)] = [.pr (.tuple (ilD ns))] from rfl]
  ac_rfl
  refine s_ck_heap hh ?_
  ac_rfl
  refine r_ixT (atI_lastD he) ?_
  ac_rfl
  refine r_ixT (atI_nat (i := 0) (ilD_get (by rw [← List.head?_eq_getElem?, List.head?_eq_some_head he]))) ?_
  ac_rfl
  exact h he
end LW

namespace LW
open PySem PySem.Spec PyProof.Rows L2 L3
local macro_rules | `(tactic| ac_rfl) => `(tactic| (repeat (first | with_reducible refine r_eqS ?_ | with_reducible refine r_neS ?_ | with_reducible refine r_eqTS ?_ | with_reducible refine r_neTS ?_ | with_reducible refine r_eqLS ?_ | with_reducible refine r_neLS ?_ | with_reducible refine r_nTT ?_ | with_reducible refine r_nFT ?_ | with_reducible refine r_nTF ?_ | with_reducible refine r_nFF ?_ | with_reducible refine r_iTT ?_ | with_reducible refine r_iFT ?_ | with_reducible refine r_iTF ?_ | with_reducible refine r_iFF ?_ | with_reducible refine r_seq ?_ | with_reducible refine r_nil ?_ | with_reducible refine r_if ?_ | with_reducible refine r_drop ?_ | with_reducible refine r_raise ?_ | with_reducible refine r_set ?_ | with_reducible refine r_setF ?_ | with_reducible refine r_setI ?_ | with_reducible refine r_par2 ?_ | with_reducible refine r_retI ?_ | with_reducible refine r_asg ?_ | with_reducible refine r_for ?_ | with_reducible refine r_c ?_ | with_reducible refine r_2 ?_ | with_reducible refine r_B ?_ | with_reducible refine r_tAnd ?_ | with_reducible refine r_tOr ?_ | with_reducible refine r_tNot ?_ | with_reducible refine r_ifE ?_ | with_reducible refine r_call ?_ | with_reducible refine r_acons ?_ | with_reducible refine r_anil ?_ | with_reducible refine r_tup ?_ | with_reducible refine r_lst ?_ | with_reducible refine r_bf ?_ | with_reducible refine r_asB ?_ | with_reducible refine r_add ?_ | with_reducible refine r_sub ?_ | with_reducible refine r_lt ?_ | with_reducible refine r_le ?_ | with_reducible refine r_gt ?_ | with_reducible refine r_ge ?_ | with_reducible refine r_eqI ?_ | with_reducible refine r_neI ?_ | with_reducible refine r_notN ?_ | with_reducible refine r_intB ?_ | with_reducible refine r_yes ?_ | with_reducible refine r_itT ?_ | with_reducible refine r_itF ?_ | with_reducible refine r_itNT ?_ | with_reducible refine r_itNF ?_ | with_reducible refine r_lenL ?_ | with_reducible refine r_lenT ?_ | with_reducible refine r_negC ?_ | with_reducible refine r_wh ?_ | with_reducible refine r_sl ?_ | with_reducible refine r_oN ?_ | with_reducible refine r_oSC ?_ | with_reducible refine r_R1C ?_ | with_reducible refine r_gTp ?_ | with_reducible refine r_ggC ?_ | with_reducible refine r_ggN ?_ | with_reducible refine r_slL ?_ | with_reducible refine r_slT ?_ | with_reducible refine r_tupL ?_ | with_reducible refine r_tupT ?_ | with_reducible refine r_is ?_ | with_reducible refine r_andV ?_ | with_reducible refine r_orV ?_ | with_reducible refine r_notV ?_ | with_reducible refine r_lc ?_ | with_reducible refine r_iL ?_ | with_reducible refine r_iT ?_ | with_reducible refine r_iS ?_ | with_reducible refine r_R1 ?_ | with_reducible refine r_R2 ?_ | with_reducible refine r_isB ?_ | with_reducible refine r_notB ?_ | with_reducible refine r_isN ?_ | with_reducible refine r_lstL ?_ | with_reducible refine r_lstT ?_ | with_reducible refine r_lstF ?_ | with_reducible refine r_absI ?_ | with_reducible refine r_sumL ?_ | with_reducible refine r_sumT ?_ | with_reducible refine r_sumF ?_ | with_reducible refine r_allB ?_ | with_reducible refine r_anyB ?_ | with_reducible refine r_eqT ?_ | with_reducible refine r_eqL ?_ | with_reducible refine r_neT ?_ | with_reducible refine r_neL ?_ | with_reducible refine r_neLn ?_ | with_reducible refine r_retN ?_ | with_reducible refine r_fz ?_ | with_reducible refine r_lenF ?_ | with_reducible refine r_tupF ?_ | with_reducible refine r_slF ?_ | with_reducible refine r_chain ?_ | with_reducible refine r_chC ?_ | ((with_reducible apply r_var); exact rfl; exact rfl) | ((with_reducible apply r_callH); exact r_hasV rfl rfl) | ((with_reducible apply r_own); exact rfl; exact rfl; exact rfl) | ((with_reducible apply r_mul); (first | exact mOkL (by decide) (by decide) | exact mOkR (by decide) (by decide) | assumption | (refine mOkL ?_ ?_ <;> omega) | (refine mOkR ?_ ?_ <;> omega))) | ((with_reducible apply r_div); (first | exact dOk64 (by decide) (by decide) | assumption | (refine dOk64 ?_ ?_ <;> omega))) | ((with_reducible apply r_mod); first | decide | omega) | ((with_reducible apply r_pow); exact ⟨by decide, by decide, by decide⟩) | ((with_reducible apply r_and1); exact Nat.le_of_ble_eq_true rfl; rfl; (try dsimp only [List.set_cons_zero, List.set_cons_succ])) | ((with_reducible apply r_and2); exact Nat.le_of_ble_eq_true rfl; exact Nat.le_of_ble_eq_true rfl; rfl; rfl; (try dsimp only [List.set_cons_zero, List.set_cons_succ])) | ((with_reducible apply r_and0); exact Nat.le_of_ble_eq_true rfl; (try dsimp only [List.set_cons_zero, List.set_cons_succ])) | ((with_reducible apply r_andS); exact Nat.le_of_ble_eq_true rfl) | ((with_reducible apply r_andI); rfl) | ((with_reducible apply r_fzI); (first | rfl | assumption | exact imm_ints _)) | ((with_reducible apply r_fzL); (first | rfl | exact imm_ints _ | assumption)) | ((with_reducible apply r_immL); (first | rfl | exact imm_ints _ | assumption)) | ((with_reducible apply r_vfzL); exact rfl; (first | rfl | exact imm_ints _ | assumption)) | ((with_reducible apply r_vfzP); exact rfl; (first | rfl | assumption)) | ((with_reducible apply r_vfzF); exact rfl; (first | rfl | exact imm_ints _ | assumption)) | ((with_reducible apply r_chV); exact rfl; exact rfl) | ((with_reducible apply r_popAt); exact r_isLst rfl rfl) | ((with_reducible apply r_gNm); exact Nat.le_of_ble_eq_true rfl; (first | rfl | assumption); exact rfl) | ((with_reducible apply r_oSV); exact rfl; exact rfl) | ((with_reducible apply r_callS); exact rfl) | ((with_reducible apply r_append); exact rfl; exact rfl) | ((with_reducible apply r_wlist); exact rfl; exact rfl; exact rfl) | (dsimp only [List.set_cons_zero, List.set_cons_succ, SV.put, unS]))))
local macro_rules | `(tactic| and_intros) => `(tactic| (repeat (first | with_reducible refine r_eqS ?_ | with_reducible refine r_neS ?_ | with_reducible refine r_eqTS ?_ | with_reducible refine r_neTS ?_ | with_reducible refine r_eqLS ?_ | with_reducible refine r_neLS ?_ | with_reducible refine r_nTT ?_ | with_reducible refine r_nFT ?_ | with_reducible refine r_nTF ?_ | with_reducible refine r_nFF ?_ | with_reducible refine r_iTT ?_ | with_reducible refine r_iFT ?_ | with_reducible refine r_iTF ?_ | with_reducible refine r_iFF ?_ | with_reducible refine r_nil ?_ | with_reducible refine r_if ?_ | with_reducible refine r_drop ?_ | with_reducible refine r_raise ?_ | with_reducible refine r_set ?_ | with_reducible refine r_setF ?_ | with_reducible refine r_setI ?_ | with_reducible refine r_par2 ?_ | with_reducible refine r_retI ?_ | with_reducible refine r_asg ?_ | with_reducible refine r_for ?_ | with_reducible refine r_c ?_ | with_reducible refine r_2 ?_ | with_reducible refine r_B ?_ | with_reducible refine r_tAnd ?_ | with_reducible refine r_tOr ?_ | with_reducible refine r_tNot ?_ | with_reducible refine r_ifE ?_ | with_reducible refine r_call ?_ | with_reducible refine r_acons ?_ | with_reducible refine r_anil ?_ | with_reducible refine r_tup ?_ | with_reducible refine r_lst ?_ | with_reducible refine r_bf ?_ | with_reducible refine r_asB ?_ | with_reducible refine r_add ?_ | with_reducible refine r_sub ?_ | with_reducible refine r_lt ?_ | with_reducible refine r_le ?_ | with_reducible refine r_gt ?_ | with_reducible refine r_ge ?_ | with_reducible refine r_eqI ?_ | with_reducible refine r_neI ?_ | with_reducible refine r_notN ?_ | with_reducible refine r_intB ?_ | with_reducible refine r_yes ?_ | with_reducible refine r_itT ?_ | with_reducible refine r_itF ?_ | with_reducible refine r_itNT ?_ | with_reducible refine r_itNF ?_ | with_reducible refine r_lenL ?_ | with_reducible refine r_lenT ?_ | with_reducible refine r_negC ?_ | with_reducible refine r_wh ?_ | with_reducible refine r_sl ?_ | with_reducible refine r_oN ?_ | with_reducible refine r_oSC ?_ | with_reducible refine r_R1C ?_ | with_reducible refine r_gTp ?_ | with_reducible refine r_ggC ?_ | with_reducible refine r_ggN ?_ | with_reducible refine r_slL ?_ | with_reducible refine r_slT ?_ | with_reducible refine r_tupL ?_ | with_reducible refine r_tupT ?_ | with_reducible refine r_is ?_ | with_reducible refine r_andV ?_ | with_reducible refine r_orV ?_ | with_reducible refine r_notV ?_ | with_reducible refine r_lc ?_ | with_reducible refine r_iL ?_ | with_reducible refine r_iT ?_ | with_reducible refine r_iS ?_ | with_reducible refine r_R1 ?_ | with_reducible refine r_R2 ?_ | with_reducible refine r_isB ?_ | with_reducible refine r_notB ?_ | with_reducible refine r_isN ?_ | with_reducible refine r_lstL ?_ | with_reducible refine r_lstT ?_ | with_reducible refine r_lstF ?_ | with_reducible refine r_absI ?_ | with_reducible refine r_sumL ?_ | with_reducible refine r_sumT ?_ | with_reducible refine r_sumF ?_ | with_reducible refine r_allB ?_ | with_reducible refine r_anyB ?_ | with_reducible refine r_eqT ?_ | with_reducible refine r_eqL ?_ | with_reducible refine r_neT ?_ | with_reducible refine r_neL ?_ | with_reducible refine r_neLn ?_ | with_reducible refine r_retN ?_ | with_reducible refine r_fz ?_ | with_reducible refine r_lenF ?_ | with_reducible refine r_tupF ?_ | with_reducible refine r_slF ?_ | with_reducible refine r_chain ?_ | with_reducible refine r_chC ?_ | ((with_reducible apply r_var); exact rfl; exact rfl) | ((with_reducible apply r_callH); exact r_hasV rfl rfl) | ((with_reducible apply r_own); exact rfl; exact rfl; exact rfl) | ((with_reducible apply r_mul); (first | exact mOkL (by decide) (by decide) | exact mOkR (by decide) (by decide) | assumption | (refine mOkL ?_ ?_ <;> omega) | (refine mOkR ?_ ?_ <;> omega))) | ((with_reducible apply r_div); (first | exact dOk64 (by decide) (by decide) | assumption | (refine dOk64 ?_ ?_ <;> omega))) | ((with_reducible apply r_mod); first | decide | omega) | ((with_reducible apply r_pow); exact ⟨by decide, by decide, by decide⟩) | ((with_reducible apply r_and1); exact Nat.le_of_ble_eq_true rfl; rfl; (try dsimp only [List.set_cons_zero, List.set_cons_succ])) | ((with_reducible apply r_and2); exact Nat.le_of_ble_eq_true rfl; exact Nat.le_of_ble_eq_true rfl; rfl; rfl; (try dsimp only [List.set_cons_zero, List.set_cons_succ])) | ((with_reducible apply r_and0); exact Nat.le_of_ble_eq_true rfl; (try dsimp only [List.set_cons_zero, List.set_cons_succ])) | ((with_reducible apply r_andS); exact Nat.le_of_ble_eq_true rfl) | ((with_reducible apply r_andI); rfl) | ((with_reducible apply r_fzI); (first | rfl | assumption | exact imm_ints _)) | ((with_reducible apply r_fzL); (first | rfl | exact imm_ints _ | assumption)) | ((with_reducible apply r_immL); (first | rfl | exact imm_ints _ | assumption)) | ((with_reducible apply r_vfzL); exact rfl; (first | rfl | exact imm_ints _ | assumption)) | ((with_reducible apply r_vfzP); exact rfl; (first | rfl | assumption)) | ((with_reducible apply r_vfzF); exact rfl; (first | rfl | exact imm_ints _ | assumption)) | ((with_reducible apply r_chV); exact rfl; exact rfl) | ((with_reducible apply r_popAt); exact r_isLst rfl rfl) | ((with_reducible apply r_gNm); exact Nat.le_of_ble_eq_true rfl; (first | rfl | assumption); exact rfl) | ((with_reducible apply r_oSV); exact rfl; exact rfl) | ((with_reducible apply r_callS); exact rfl) | ((with_reducible apply r_append); exact rfl; exact rfl) | ((with_reducible apply r_wlist); exact rfl; exact rfl; exact rfl) | (dsimp only [List.set_cons_zero, List.set_cons_succ, SV.put, unS]))))

/-! ### ways to take are products by factorials -/
def fallF (n : Int) : Nat → Int
  | 0 => 1
  | k + 1 => fallF n k * (n - (k : Nat))
def factI : Nat → Int
  | 0 => 1
  | k + 1 => factI k * ((k : Nat) + 1)
theorem factI_pos : ∀ k, 0 < factI k
  | 0 => by decide
  | k + 1 => Int.mul_pos (factI_pos k) (by omega)
theorem fall_up (n : Int) : ∀ k : Nat, fallF (n + 1) (k + 1) = (n + 1) * fallF n k
  | 0 => by simp [fallF]
  | k + 1 => by
    rw [fallF, fall_up n k]
    show (n + 1) * fallF n k * (n + 1 - ((k + 1 : Nat) : Int)) = (n + 1) * (fallF n k * (n - (k : Nat)))
    rw [show n + 1 - ((k + 1 : Nat) : Int) = n - (k : Nat) by omega, Int.mul_assoc]
theorem fall_step (n : Int) (k : Nat) : fallF (n + 1) (k + 1) = fallF n (k + 1) + ((k : Nat) + 1) * fallF n k := by
  rw [fall_up, fallF]
  grind
theorem fall_dvd : ∀ (k : Nat) (n : Int), factI k ∣ fallF n k
  | 0, n => ⟨1, by simp [factI, fallF]⟩
  | k + 1, n => by
    have ih := fall_dvd k
    have st : ∀ m : Int, factI (k + 1) ∣ ((k : Nat) + 1) * fallF m k := fun m => by
      obtain ⟨c, hc⟩ := ih m
      exact ⟨c, by rw [hc, factI]; grind⟩
    have z : fallF 0 (k + 1) = 0 := by
      have := fall_up (-1) k
      rw [show (-1 : Int) + 1 = 0 by decide, Int.zero_mul] at this
      exact this
    have up : ∀ m : Nat, factI (k + 1) ∣ fallF (m : Int) (k + 1) := fun m => by
      induction m with
      | zero => exact ⟨0, by rw [Int.mul_zero]; exact z⟩
      | succ m im =>
        rw [show ((m + 1 : Nat) : Int) = (m : Int) + 1 by omega, fall_step]
        exact Int.dvd_add im (st _)
    have dn : ∀ m : Nat, factI (k + 1) ∣ fallF (-(m : Int)) (k + 1) := fun m => by
      induction m with
      | zero => exact ⟨0, by rw [Int.mul_zero]; exact z⟩
      | succ m im =>
        have h := fall_step (-((m + 1 : Nat) : Int)) k
        rw [show -((m + 1 : Nat) : Int) + 1 = -(m : Int) by omega] at h
        have e : fallF (-((m + 1 : Nat) : Int)) (k + 1) = fallF (-(m : Int)) (k + 1) - ((k : Nat) + 1) * fallF (-((m + 1 : Nat) : Int)) k := by omega
        rw [e]
        exact Int.dvd_sub im (st _)
    rcases Int.le_total 0 n with h | h
    · have := up n.toNat
      rwa [Int.toNat_of_nonneg h] at this
    · have := dn (-n).toNat
      rw [Int.toNat_of_nonneg (by omega)] at this
      rwa [show -(-n) = n by omega] at this
theorem way_fall (n : Int) : ∀ k : Nat, wayF n k * factI k = fallF n k
  | 0 => by simp [wayF, factI, fallF]
  | k + 1 => by
    have ih := way_fall n k
    obtain ⟨c, hc⟩ := fall_dvd (k + 1) n
    have hk : (0 : Int) < (k : Nat) + 1 := by omega
    have e : wayF n k * (n - (k : Nat)) = ((k : Nat) + 1) * c := by
      have h1 : factI k * (wayF n k * (n - (k : Nat))) = factI k * (((k : Nat) + 1) * c) := by
        have := hc
        rw [fallF, ← ih, factI] at this
        grind
      exact Int.eq_of_mul_eq_mul_left (Int.ne_of_gt (factI_pos k)) h1
    rw [wayF, e, Int.mul_ediv_cancel_left _ (Int.ne_of_gt hk), hc, factI]
    grind
theorem way_div (n : Int) (k : Nat) : fallF n k / factI k = wayF n k := by
  rw [← way_fall, Int.mul_ediv_cancel _ (Int.ne_of_gt (factI_pos k))]
theorem fact_le : ∀ k : Nat, k ≤ 60 → factI k ≤ 60 ^ k
  | 0, _ => by decide
  | k + 1, h => by
    have := fact_le k (by omega)
    have p := factI_pos k
    rw [factI, Int.pow_succ]
    exact Int.mul_le_mul this (by omega) (by omega) (Int.le_trans (Int.le_of_lt p) this)
theorem fact_lt {k : Nat} (h : k ≤ 60) : factI k < 2 ^ 8000 := by
  have h1 := fact_le k h
  have h2 : (60 : Int) ^ k ≤ 60 ^ 60 := by
    have : (60 : Nat) ^ k ≤ 60 ^ 60 := Nat.pow_le_pow_right (by decide) h
    exact_mod_cast this
  have h3 : (60 : Int) ^ 60 < 2 ^ 8000 := by decide +kernel
  omega
theorem s_law_taken {n k : Int} {q : D → Prop} {x : Str → Prop} (hn : -(2 ^ 62) < n ∧ n < 2 ^ 62) (hk : 0 ≤ k ∧ k ≤ 60) (h : q (.int (wayF n k.toNat))) : S__law_taken [.int n, .int k] q x := by
  unfold S__law_taken wb__law_taken; rw [show rho0 N__law_taken [.int n, .int k] = [.pr (.int n), .pr (.int k), .un, .un, .un] from rfl]
  ac_rfl
  refine And.intro ⟨by omega, by omega⟩ ?_
  refine r_loopR (fun j ρ => ∃ t, ρ = [.pr (.int n), .pr (.int k), .ow (.int (fallF n j)), .ow (.int (factI j)), t]) ⟨_, rfl⟩ (fun j hj ρ K hI kk => ?_) fun ρ hI => ?_
  · obtain ⟨t, rfl⟩ := hI
    ac_rfl
    rw [show fallF n j * (n - (0 + (j : Int))) = fallF n (j + 1) by rw [fallF, Int.zero_add], show factI j * (0 + (j : Int) + 1) = factI (j + 1) by rw [factI, Int.zero_add]]
    exact kk _ ⟨_, rfl⟩
  · obtain ⟨t, rfl⟩ := hI
    ac_rfl
    refine r_div (dOkP (factI_pos _) (fact_lt (by omega))) ?_
    rw [way_div]
    exact ⟨rfl, h⟩
/-! ### draws -/
theorem d_draw {h : D} {m : Int} {q : D → D → Prop} {x : Str → D → Prop} (hh : HandOk h) (m0 : 0 < m) (m1 : m < 2 ^ 64) (k : ∀ (r : Int) (h' : D), HandOk h' → 0 ≤ r → r < m → q (.int r) h') : S__law_draw h [.int m] q x := s_draw hh m0 m1 k
theorem d_some {h : D} {ds : List D} {q : D → D → Prop} {x : Str → D → Prop} (hh : HandOk h) (m0 : ds ≠ []) (m1 : ds.length < 2 ^ 60) (hi : ∀ d ∈ ds, imm d = true) (k : ∀ (d h' : D), HandOk h' → d ∈ ds → q d h') : S__law_some h [.fl ds] q x := s_someF hh m0 m1 hi k
theorem d_hand {ns : List Int} {q : D → Prop} (k : ∀ h, HandOk h → q h) : S__law_hand ns q := s_hand (c := 9001) k
theorem s_law_heap {h : D} {m lo hi : Int} {q : D → D → Prop} {x : Str → D → Prop} (hh : HandOk h) (hm : 1 ≤ m ∧ m ≤ 1000) (hb : -(2 ^ 40) < lo ∧ lo ≤ hi ∧ hi < 2 ^ 40)
    (k : ∀ (ns : List Int) (h' : D), HandOk h' → (ns.length : Int) = m → (∀ z ∈ ns, lo ≤ z ∧ z ≤ hi) → ns.Pairwise (· ≤ ·) → q (.tuple (ilD ns)) h') : S__law_heap h [.int m, .int lo, .int hi] q x := by
  have hz : 1000 ≤ sizeLine := by decide
  unfold S__law_heap wb__law_heap
  rw [show rhoH N__law_heap h [.int m, .int lo, .int hi] = [.pa h, .pr (.int m), .pr (.int lo), .pr (.int hi), .un, .un, .un] from rfl]
  ac_rfl
  refine d_draw hh (by decide) (by decide) fun r h1 hh1 r0 r1 => ?_
  ac_rfl
  have rest : ∀ (w : Int), 1 ≤ w → w ≤ hi - lo + 1 → (wsSeq (wsSetI 5 (w2 fAdd (wVar 2) (wCallH S__law_draw 0 (waCons (w2 fSub (w2 fAdd (w2 fSub (wVar 3) (wVar 2)) (wC (.int 2))) (wVar 4)) waNil))))
      (wsRetI (wBf bTup (waCons (wBf bSorted (waCons (wLc (wiR1 (waCons (wVar 1) waNil)) (gNm 6) wtYes (w2 fAdd (wVar 5) (wCallH S__law_draw 0 (waCons (wVar 4) waNil))) [6]) waNil)) waNil))))
      [.pa h1, .pr (.int m), .pr (.int lo), .pr (.int hi), .ow (.int w), .un, .un] ⟨fun ρ => paOf ρ (q .none), fun d ρ => paOf ρ (q d), fun _ => False, fun _ => False, fun n ρ => paOf ρ (x n)⟩ := fun w w1 w2 => by
    ac_rfl
    refine d_draw hh1 (by omega) (by omega) fun b h2 hh2 b0 b1 => ?_
    ac_rfl
    refine And.intro ⟨by omega, by omega⟩ ?_
    ac_rfl
    refine lc_inv (fun y => ∃ z, y = .int z ∧ lo ≤ z ∧ z ≤ hi) (fun ρ => ∃ h', HandOk h' ∧ ρ = [.pa h', .pr (.int m), .pr (.int lo), .pr (.int hi), .ow (.int w), .ow (.int (lo + b)), .un]) (fun ρ hI => by obtain ⟨h', _, rfl⟩ := hI; show 6 < 7; decide) _ _ _ (by rw [rngL_len]; show 0 + m.toNat ≤ sizeLine; omega) (fun d m => rng_imm m) ⟨h2, hh2, rfl⟩ (fun d hd ρ hI K kk => ?_) fun es ρ' hl hq hI => ?_
    · obtain ⟨h3, hh3, rfl⟩ := hI
      ac_rfl
      refine d_draw hh3 (by omega) (by omega) fun r' h4 hh4 p0 p1 => ?_
      ac_rfl
      exact kk _ _ ⟨_, rfl, by omega, by omega⟩ ⟨h4, hh4, rfl⟩
    · obtain ⟨h3, hh3, rfl⟩ := hI
      obtain ⟨ns, rfl, hn⟩ := ilD_of hq
      rw [List.nil_append]
      ac_rfl
      refine r_sortL fun ms hp hs => ?_
      ac_rfl
      refine And.intro (imm_ints ms) ?_
      refine k ms h3 hh3 ?_ (fun z hz => hn z (hp.mem_iff.mp hz)) hs
      rw [hp.length_eq]
      rw [ilD_len, rngL_len] at hl
      omega
  refine r_ite (fun _ => ?_) fun _ => ?_
  · and_intros
    exact rest (hi - lo + 1) (by omega) (by omega)
  · and_intros
    refine r_min2 ?_
    by_cases h4 : (4 : Int) < hi - lo + 1
    · rw [if_pos h4]
      and_intros
      exact rest 4 (by omega) (by omega)
    · rw [if_neg h4]
      and_intros
      exact rest (hi - lo + 1) (by omega) (by omega)
theorem seqI {n : Nat} {r : Int} (h0 : 0 ≤ r) (h1 : r < n) : seqIndex? r n = some r.toNat := by
  unfold seqIndex?
  simp [h0, h1]
  omega
end LW

namespace LW
open PySem PySem.Spec PyProof.Rows L2 L3
local macro_rules | `(tactic| ac_rfl) => `(tactic| (repeat (first | with_reducible refine r_eqS ?_ | with_reducible refine r_neS ?_ | with_reducible refine r_eqTS ?_ | with_reducible refine r_neTS ?_ | with_reducible refine r_eqLS ?_ | with_reducible refine r_neLS ?_ | with_reducible refine r_nTT ?_ | with_reducible refine r_nFT ?_ | with_reducible refine r_nTF ?_ | with_reducible refine r_nFF ?_ | with_reducible refine r_iTT ?_ | with_reducible refine r_iFT ?_ | with_reducible refine r_iTF ?_ | with_reducible refine r_iFF ?_ | with_reducible refine r_seq ?_ | with_reducible refine r_nil ?_ | with_reducible refine r_if ?_ | with_reducible refine r_drop ?_ | with_reducible refine r_raise ?_ | with_reducible refine r_set ?_ | with_reducible refine r_setF ?_ | with_reducible refine r_setI ?_ | with_reducible refine r_par2 ?_ | with_reducible refine r_retI ?_ | with_reducible refine r_asg ?_ | with_reducible refine r_for ?_ | with_reducible refine r_c ?_ | with_reducible refine r_2 ?_ | with_reducible refine r_B ?_ | with_reducible refine r_tAnd ?_ | with_reducible refine r_tOr ?_ | with_reducible refine r_tNot ?_ | with_reducible refine r_ifE ?_ | with_reducible refine r_call ?_ | with_reducible refine r_acons ?_ | with_reducible refine r_anil ?_ | with_reducible refine r_tup ?_ | with_reducible refine r_lst ?_ | with_reducible refine r_bf ?_ | with_reducible refine r_asB ?_ | with_reducible refine r_add ?_ | with_reducible refine r_sub ?_ | with_reducible refine r_lt ?_ | with_reducible refine r_le ?_ | with_reducible refine r_gt ?_ | with_reducible refine r_ge ?_ | with_reducible refine r_eqI ?_ | with_reducible refine r_neI ?_ | with_reducible refine r_notN ?_ | with_reducible refine r_intB ?_ | with_reducible refine r_yes ?_ | with_reducible refine r_itT ?_ | with_reducible refine r_itF ?_ | with_reducible refine r_itNT ?_ | with_reducible refine r_itNF ?_ | with_reducible refine r_lenL ?_ | with_reducible refine r_lenT ?_ | with_reducible refine r_negC ?_ | with_reducible refine r_wh ?_ | with_reducible refine r_sl ?_ | with_reducible refine r_oN ?_ | with_reducible refine r_oSC ?_ | with_reducible refine r_R1C ?_ | with_reducible refine r_gTp ?_ | with_reducible refine r_ggC ?_ | with_reducible refine r_ggN ?_ | with_reducible refine r_slL ?_ | with_reducible refine r_slT ?_ | with_reducible refine r_tupL ?_ | with_reducible refine r_tupT ?_ | with_reducible refine r_is ?_ | with_reducible refine r_andV ?_ | with_reducible refine r_orV ?_ | with_reducible refine r_notV ?_ | with_reducible refine r_lc ?_ | with_reducible refine r_iL ?_ | with_reducible refine r_iT ?_ | with_reducible refine r_iS ?_ | with_reducible refine r_R1 ?_ | with_reducible refine r_R2 ?_ | with_reducible refine r_isB ?_ | with_reducible refine r_notB ?_ | with_reducible refine r_isN ?_ | with_reducible refine r_lstL ?_ | with_reducible refine r_lstT ?_ | with_reducible refine r_lstF ?_ | with_reducible refine r_absI ?_ | with_reducible refine r_sumL ?_ | with_reducible refine r_sumT ?_ | with_reducible refine r_sumF ?_ | with_reducible refine r_allB ?_ | with_reducible refine r_anyB ?_ | with_reducible refine r_eqT ?_ | with_reducible refine r_eqL ?_ | with_reducible refine r_neT ?_ | with_reducible refine r_neL ?_ | with_reducible refine r_neLn ?_ | with_reducible refine r_retN ?_ | with_reducible refine r_fz ?_ | with_reducible refine r_lenF ?_ | with_reducible refine r_tupF ?_ | with_reducible refine r_slF ?_ | with_reducible refine r_chain ?_ | with_reducible refine r_chC ?_ | ((with_reducible apply r_var); exact rfl; exact rfl) | ((with_reducible apply r_callH); exact r_hasV rfl rfl) | ((with_reducible apply r_own); exact rfl; exact rfl; exact rfl) | ((with_reducible apply r_mul); (first | exact mOkL (by decide) (by decide) | exact mOkR (by decide) (by decide) | assumption | (refine mOkL ?_ ?_ <;> omega) | (refine mOkR ?_ ?_ <;> omega))) | ((with_reducible apply r_div); (first | exact dOk64 (by decide) (by decide) | assumption | (refine dOk64 ?_ ?_ <;> omega))) | ((with_reducible apply r_mod); first | decide | omega) | ((with_reducible apply r_pow); exact ⟨by decide, by decide, by decide⟩) | ((with_reducible apply r_and1); exact Nat.le_of_ble_eq_true rfl; rfl; (try dsimp only [List.set_cons_zero, List.set_cons_succ])) | ((with_reducible apply r_and2); exact Nat.le_of_ble_eq_true rfl; exact Nat.le_of_ble_eq_true rfl; rfl; rfl; (try dsimp only [List.set_cons_zero, List.set_cons_succ])) | ((with_reducible apply r_and0); exact Nat.le_of_ble_eq_true rfl; (try dsimp only [List.set_cons_zero, List.set_cons_succ])) | ((with_reducible apply r_andS); exact Nat.le_of_ble_eq_true rfl) | ((with_reducible apply r_andI); rfl) | ((with_reducible apply r_fzI); (first | rfl | assumption | exact imm_ints _)) | ((with_reducible apply r_fzL); (first | rfl | exact imm_ints _ | assumption)) | ((with_reducible apply r_immL); (first | rfl | exact imm_ints _ | assumption)) | ((with_reducible apply r_vfzL); exact rfl; (first | rfl | exact imm_ints _ | assumption)) | ((with_reducible apply r_vfzP); exact rfl; (first | rfl | assumption)) | ((with_reducible apply r_vfzF); exact rfl; (first | rfl | exact imm_ints _ | assumption)) | ((with_reducible apply r_chV); exact rfl; exact rfl) | ((with_reducible apply r_popAt); exact r_isLst rfl rfl) | ((with_reducible apply r_gNm); exact Nat.le_of_ble_eq_true rfl; (first | rfl | assumption); exact rfl) | ((with_reducible apply r_oSV); exact rfl; exact rfl) | ((with_reducible apply r_callS); exact rfl) | ((with_reducible apply r_append); exact rfl; exact rfl) | ((with_reducible apply r_wlist); exact rfl; exact rfl; exact rfl) | (dsimp only [List.set_cons_zero, List.set_cons_succ, SV.put, unS]))))

/-! ### wrong arguments -/
theorem e_heap_of {d : D} {q : D → Prop} {x : Str → Prop} (hd : imm d = true) (h : isItems d = false) (k : x "NoNumbers") : S_heap_of [d] q x := s_heap_of hd (fun _ => k) fun ns ms _ hi => absurd hi (by rw [h]; exact Bool.false_ne_true)
theorem e_ck_heap {d : D} {q : D → Prop} {x : Str → Prop} (hd : imm d = true) (h : isHeap d = false) (k : x "NoHeap") : S_check_heap [d] q x := s_check_heap hd (by rw [h]; exact k)
theorem e_ck {d : D} {lo hi : Int} {q : D → Prop} {x : Str → Prop} (h : wthn d lo hi = false) (k : x "NoNumber") : S_check_number [d, .int lo, .int hi] q x := s_check (by rw [h]; exact k)
theorem e_power_sumH {d b : D} {q : D → Prop} {x : Str → Prop} (hd : imm d = true) (h : isHeap d = false) (k : x "NoHeap") : S_power_sum [d, b] q x := by
  unfold S_power_sum wb_power_sum; rw [show rho0 N_power_sum [d, b] = [.pr d, .pr b] from rfl]
  ac_rfl
  exact e_ck_heap hd h k
theorem e_power_sumN {ns : List Int} {b : D} {q : D → Prop} {x : Str → Prop} (hh : HpL ns) (h : wthn b 0 60 = false) (k : x "NoNumber") : S_power_sum [.tuple (ilD ns), b] q x := by
  unfold S_power_sum wb_power_sum; rw [show rho0 N_power_sum [.tuple (ilD ns), b] = [.pr (.tuple (ilD ns)), .pr b] from rfl]
  ac_rfl
  refine s_ck_heap hh ?_
  ac_rfl
  exact e_ck h k
theorem e_power_sumsH {d b : D} {q : D → Prop} {x : Str → Prop} (hd : imm d = true) (h : isHeap d = false) (k : x "NoHeap") : S_power_sums [d, b] q x := by
  unfold S_power_sums wb_power_sums; rw [show rho0 N_power_sums [d, b] = [.pr d, .pr b, .un] from rfl]
  ac_rfl
  exact e_ck_heap hd h k
theorem e_power_sumsN {ns : List Int} {b : D} {q : D → Prop} {x : Str → Prop} (hh : HpL ns) (h : wthn b 1 60 = false) (k : x "NoNumber") : S_power_sums [.tuple (ilD ns), b] q x := by
  unfold S_power_sums wb_power_sums; rw [show rho0 N_power_sums [.tuple (ilD ns), b] = [.pr (.tuple (ilD ns)), .pr b, .un] from rfl]
  ac_rfl
  refine s_ck_heap hh ?_
  ac_rfl
  exact e_ck h k
theorem e_takenH {d b : D} {q : D → Prop} {x : Str → Prop} (hd : imm d = true) (h : isHeap d = false) (k : x "NoHeap") : S_taken_sum [d, b] q x := by
  unfold S_taken_sum wb_taken_sum; rw [show rho0 N_taken_sum [d, b] = [.pr d, .pr b] from rfl]
  ac_rfl
  exact e_ck_heap hd h k
theorem e_takenN {ns : List Int} {b : D} {q : D → Prop} {x : Str → Prop} (hh : HpL ns) (h : wthn b 0 60 = false) (k : x "NoNumber") : S_taken_sum [.tuple (ilD ns), b] q x := by
  unfold S_taken_sum wb_taken_sum; rw [show rho0 N_taken_sum [.tuple (ilD ns), b] = [.pr (.tuple (ilD ns)), .pr b] from rfl]
  ac_rfl
  refine s_ck_heap hh ?_
  ac_rfl
  exact e_ck h k
theorem e_spread {d : D} {q : D → Prop} {x : Str → Prop} (hd : imm d = true) (h : isHeap d = false) (k : x "NoHeap") : S_spread [d] q x := by
  unfold S_spread wb_spread; rw [show rho0 N_spread [d] = [.pr d] from rfl]
  ac_rfl
  exact e_ck_heap hd h k
theorem rhoL00 {h : D} {d2 d3 d4 d5 d6 d7 d8 d9 d10 d11 d12 d13 d14 d15 : SV} {ks : List (Nat × Addr × Addr)} {ns : List Int} :
    rhoL 1 [.sc ns, .ow h, d2, d3, d4, d5, d6, d7, d8, d9, d10, d11, d12, d13, d14, d15, .fn ks, .tb] = [.un, .pa h, toL 1 2 d2, toL 1 3 d3, toL 1 4 d4, toL 1 5 d5, toL 1 6 d6, toL 1 7 d7, toL 1 8 d8, toL 1 9 d9, toL 1 10 d10, toL 1 11 d11, toL 1 12 d12, toL 1 13 d13, toL 1 14 d14, toL 1 15 d15, .un, .un] := rfl
abbrev oddL (ns : List Int) : List D := [.tuple [], .tuple (ilD ns ++ [.int 100001]), .tuple ([.int (-100001)] ++ ilD ns), .fl (ilD ns), .tuple (List.replicate (Int.toNat 41) [D.int 0]).flatten, .tuple [.bool true], .tuple [.none], .none, .str "0", .int 3, .tuple [.int 2, .int 1]]
theorem odd_imm {ns : List Int} : immL (oddL ns) = true := by
  have h := imm_ints ns
  have e1 : immL (ilD ns ++ [D.int 100001]) = true := by rw [immL_app, h]; rfl
  have e2 : immL ([D.int (-100001)] ++ ilD ns) = true := by rw [immL_app, h]; rfl
  simp only [oddL, imm, immL, h, e1, e2, Bool.and_true, Bool.true_and]
  decide +kernel
theorem odd_no {ns : List Int} (hl : ns.length ≤ 40) : ∀ d ∈ oddL ns, isHeap d = false := by
  intro d hd
  have k1 : isHeap (.tuple (ilD ns ++ [.int 100001])) = false := by
    have : ((ilD ns ++ [D.int 100001]).all fun d => wthn d (-100000) 100000) = false := by rw [List.all_append]; simp [wthn]
    simp only [isHeap, isItems, this, Bool.and_false, Bool.false_and]
  have k2 : isHeap (.tuple ([.int (-100001)] ++ ilD ns)) = false := by
    have : (([D.int (-100001)] ++ ilD ns).all fun d => wthn d (-100000) 100000) = false := by rw [List.all_append]; simp [wthn]
    simp only [isHeap, isItems, this, Bool.and_false, Bool.false_and]
  simp only [oddL, List.mem_cons, List.not_mem_nil, or_false] at hd
  rcases hd with rfl | rfl | rfl | rfl | rfl | rfl | rfl | rfl | rfl | rfl | rfl <;> first | exact k1 | exact k2 | rfl | decide +kernel
def Lap (ns : List Int) (ρ : Rho) : Prop := ∃ h a2 a3 a4 a5 a6 a7 a8 a9 a10 a11 a12 a13 a14 a15 a16, ρ = [.sc ns, .ow h, a2, a3, a4, a5, a6, a7, a8, a9, a10, a11, a12, a13, a14, a15, a16, .tb] ∧ HandOk h
end LW

namespace LW
open PySem PySem.Spec PyProof.Rows L2 L3
abbrev N_law : List Str := ["script", "hand", "lap", "low", "high", "heap", "left", "numbers", "most", "k", "taken", "one", "odd", "none", "bad", "wrong", "calls", "<tab>"]
theorem sc_law : FnScope N_law ["script"] (defScope (top 34)) := ⟨rfl, rfl, rfl, by decide +kernel, rfl, by decide +kernel, by decide +kernel⟩
def lam_law_0 : Arguments × Expr × Scope := lamD (exArg 0 (exOf (stAt (kids (stAt (defBody (top 34)) 1)) 12)))
def lam_law_1 : Arguments × Expr × Scope := lamD (exArg 0 (exOf (stAt (kids (stAt (defBody (top 34)) 1)) 13)))
def lam_law_2 : Arguments × Expr × Scope := lamD (exArg 0 (exOf (stAt (kids (stAt (defBody (top 34)) 1)) 14)))
def lam_law_3 : Arguments × Expr × Scope := lamD (exArg 0 (exOf (stAt (kids (stAt (defBody (top 34)) 1)) 15)))
def lam_law_4 : Arguments × Expr × Scope := lamD (exArg 0 (exOf (stAt (kids (stAt (defBody (top 34)) 1)) 16)))
def lam_law_5 : Arguments × Expr × Scope := lamD (exArg 0 (exOf (stAt (kids (stAt (defBody (top 34)) 1)) 17)))
def lam_law_6 : Arguments × Expr × Scope := lamD (exArg 0 (exOf (stAt (kids (stAt (defBody (top 34)) 1)) 18)))
def lam_law_7 : Arguments × Expr × Scope := lamD (exArg 0 (exOf (stAt (kids (stAt (defBody (top 34)) 1)) 19)))
def lams_law : List (Arguments × Expr × Scope) := [lam_law_0, lam_law_1, lam_law_2, lam_law_3, lam_law_4, lam_law_5, lam_law_6, lam_law_7]
def flags : List Str := ["NoHeap", "NoNumbers", "NoNumber"]
def wb_errs : WS :=
  (wsSeq (wsSetF 5 (wLst (waCons (wIsE 4 fun n => decide (n = "NoHeap")) (waCons (wIsE 4 fun n => decide (n = "NoNumbers")) (waCons (wIsE 4 fun n => decide (n = "NoNumber")) waNil)))))
  (wsSetI 3 (wIf (wB (w2 fEq (wLM fCount (wVar 5) (wC (.bool true))) (wC (.int 1)))) (wLM fIndex (wVar 5) (wC (.bool true))) (wNeg (wC (.int 1))))))
theorem sem_errs : ∀ n d, knOf errs n = true → wb_errs (rhoX d n) ⟨fun ρ => ρ.length = 6 ∧ ρ[1]? = some (.pr d) ∧ ρ[3]? = some (.ow (.int (wordOf flags n))), fun _ _ => False, fun _ => False, fun _ => False, fun _ _ => False⟩ := fun n d _ => sem1 (fs := flags) (by decide +kernel) (by decide)
theorem ed_law {P : Program} {w : World} {base : Heap} {K : PySem.W.Frag} {mg : Str → Option Value} (X : Fx K mg) {g CL : Addr} {fd : FuncData} (EF : ErrF K mg errs CL) (Fe : FunD K "_law_errors" "_law_errors" (defArgs (top 32)) (defBody (top 32)) (defScope (top 32)) [] [] g fd) {f co : Addr} {A : Around} {outer : List Env} {s0 : Shared} {H0 : Hp} {E : XK} {vs : List V} {F0 : List Addr} {Pt : Addr} :
    ∃ b0 suite q1 q2 q3 q4 q5 q6 q7 q8 q9 q10 q11 q12 q13 q14 q15 q16 q17 q18 q19 q20 q21 q22 j9, defBody (top 32) = errB b0 suite j9 q1 q2 q3 q4 q5 q6 q7 q8 q9 q10 q11 q12 q13 q14 q15 q16 q17 q18 q19 q20 q21 q22 ⟨0, 0, 0, 0⟩ ∧ (q16.endLine == q18.line) = true ∧ ErrD (fcLaw P w K mg base N_law "law" (defScope (top 34)) f (.ref co) A outer s0 H0 E vs F0 17 Pt lams_law) (defScope (top 32)) g CL fd b0 suite wb_errs (knOf errs) (wordOf flags) := by
  refine ⟨_, _, _, _, _, _, _, _, _, _, _, _, _, _, _, _, _, _, _, _, _, _, _, _, _, rfl, rfl, Fe.bindsN (fun _ _ _ _ _ _ us hl => match us, hl with | [_], _ => rfl), ⟨rfl, rfl, rfl, by decide +kernel, rfl, by decide +kernel, by decide +kernel⟩, ⟨fun n hn => ?_, EF.mgL, by decide +kernel, rfl, sem_errs⟩, fun cdg s H a oe cls e pn hr hz hf H1 p n h0 h1 h2 => ?_⟩
  · obtain ⟨D, a, b, c, _⟩ := EF.ex n (of_decide_eq_true hn)
    exact ⟨D, a, b, c⟩
  · subst h0
    obtain ⟨D, hD, hEC, _, _, hY⟩ := EF.ex n (of_decide_eq_true h2)
    obtain rfl : cls = .ref D := Option.some.inj (h1.symm.trans hD)
    have u64 := hr.units
    have u65 := units65 hr
    have hI := L2.call_isE (X := (gCx (fcLaw P w K mg base N_law "law" (defScope (top 34)) f (.ref co) A outer s0 H0 E vs F0 17 Pt lams_law).X erN "_law_errors" (defScope (top 32)) g cdg s H).nox) (pn := pn) (a := a) hEC hz hf
    obtain ⟨Cy_NoHeap, my_NoHeap, ky_NoHeap⟩ := hY "NoHeap" (by decide)
    obtain ⟨Cy_NoNumbers, my_NoNumbers, ky_NoNumbers⟩ := hY "NoNumbers" (by decide)
    obtain ⟨Cy_NoNumber, my_NoNumber, ky_NoNumber⟩ := hY "NoNumber" (by decide)
    exact ⟨_, (jss_cons (js_setF (i := 5) (show erN.Nodup by decide) rfl (by first | exact Or.inl rfl | exact Or.inr rfl) (je_lst (ja_cons (je_isE (f := fun n => decide (n = "NoHeap")) (i := 4) hI (by rfl) X.b_isinstance rfl (by first | exact .inl rfl | exact .inr (.inl rfl) | exact .inr (.inr rfl)) (by rfl) my_NoHeap ky_NoHeap) (ja_cons (je_isE (f := fun n => decide (n = "NoNumbers")) (i := 4) hI (by rfl) X.b_isinstance rfl (by first | exact .inl rfl | exact .inr (.inl rfl) | exact .inr (.inr rfl)) (by rfl) my_NoNumbers ky_NoNumbers) (ja_cons (je_isE (f := fun n => decide (n = "NoNumber")) (i := 4) hI (by rfl) X.b_isinstance rfl (by first | exact .inl rfl | exact .inr (.inl rfl) | exact .inr (.inr rfl)) (by rfl) my_NoNumber ky_NoNumber) ja_nil)))))
    (jss_one (js_setI (i := 3) (show erN.Nodup by decide) rfl (by first | exact Or.inl rfl | exact Or.inr rfl) (je_if (jt_cmp (op_eqD u64) op2_eq (je_lm (met_count u65) PySem.F.slot_list_count PySem.F.type_list_count (je_var (i := 5) rfl (by first | exact .inl rfl | exact .inr (.inl rfl) | exact .inr (.inr rfl))) je_bl) je_int (nomark _)) (je_lm (met_index u65) PySem.F.slot_list_index PySem.F.type_list_index (je_var (i := 5) rfl (by first | exact .inl rfl | exact .inr (.inl rfl) | exact .inr (.inr rfl))) je_bl) (je_neg je_int)))))⟩
def lw_law : List WE := [(wCall S_heap_of (waCons (wVar 15) waNil)),
  (wCall S_power_sum (waCons (wVar 13) (waCons (wVar 14) waNil))),
  (wCall S_power_sum (waCons (wVar 5) (waCons (wVar 14) waNil))),
  (wCall S_power_sums (waCons (wVar 13) (waCons (wC (.int 0)) waNil))),
  (wCall S_power_sums (waCons (wVar 5) (waCons (wFz (wCallH S__law_some 1 (waCons (wFz (wLst (waCons (wC (.int 0)) (waCons (wC (.int 61)) (waCons (wC (.bool true)) waNil))))) waNil))) waNil))),
  (wCall S_taken_sum (waCons (wVar 13) (waCons (wVar 14) waNil))),
  (wCall S_taken_sum (waCons (wVar 5) (waCons (wVar 14) waNil))),
  (wCall S_spread (waCons (wVar 13) waNil))]
def wb_law : WS :=
  (wsSeq (wsSetF 1 (wCallS S__law_hand 0))
  (wsSeq (wsFor (wiR1 (waCons (wC (.int 4)) waNil)) (gNm 2) (wsSeq (wsAsg (gTp (ggCons (gNm 3) (ggCons (gNm 4) ggNil))) (wFz (wCallH S__law_some 1 (waCons (wFz (wLst (waCons (wTup (waCons (wNeg (wC (.int 9))) (waCons (wC (.int 9)) waNil))) (waCons (wTup (waCons (wC (.int 0)) (waCons (wC (.int 30)) waNil))) (waCons (wTup (waCons (wNeg (wC (.int 100000))) (waCons (wC (.int 100000)) waNil))) (waCons (wTup (waCons (wNeg (wC (.int 100000))) (waCons (wNeg (wC (.int 99990))) waNil))) waNil)))))) waNil))))
  (wsSeq (wsSetI 5 (wCallH S__law_heap 1 (waCons (wFz (wCallH S__law_some 1 (waCons (wFz (wLst (waCons (wC (.int 1)) (waCons (wC (.int 2)) (waCons (wC (.int 40)) (waCons (w2 fAdd (wC (.int 1)) (wCallH S__law_draw 1 (waCons (wC (.int 40)) waNil))) waNil)))))) waNil))) (waCons (wVar 3) (waCons (wVar 4) waNil)))))
  (wsSeq (wsPar2 cC cF 6 7 (wBf bLst (waCons (wVar 5) waNil)) (wLst waNil))
  (wsSeq (wsWhile (wB (w2 fNe (wVar 6) (wLst waNil))) (wsAppend 7 (wPopAt 6 (wCallH S__law_draw 1 (waCons (wBf bLen (waCons (wVar 6) waNil)) waNil)))))
  (wsSeq (wsIf (wtOr (wB (w2 fNe (wCall S_heap_of (waCons (wBf bTup (waCons (wVar 7) waNil)) waNil)) (wVar 5))) (wtOr (wB (w2 fNotB (wCall S_is_heap (waCons (wVar 5) waNil)) (wC (.bool true)))) (wB (w2 fNe (wCall S_spread (waCons (wVar 5) waNil)) (w2 fSub (w2 fIx (wVar 5) (wNeg (wC (.int 1)))) (w2 fIx (wVar 5) (wC (.int 0)))))))) (wsRetI (wC (.bool false))) wsNil)
  (wsSeq (wsSetI 8 (w2 fAdd (wC (.int 1)) (wCallH S__law_draw 1 (waCons (wC (.int 60)) waNil))))
  (wsSeq (wsIf (wB (w2 fNe (wCall S_power_sums (waCons (wVar 5) (waCons (wVar 8) waNil))) (wBf bTup (waCons (wLc (wiR2 (waCons (wC (.int 1)) (waCons (w2 fAdd (wVar 8) (wC (.int 1))) waNil))) (gNm 9) wtYes (wCall S__law_sum (waCons (wVar 5) (waCons (wVar 9) waNil))) [9]) waNil)))) (wsRetI (wC (.bool false))) wsNil)
  (wsSeq (wsFor (wiTup (wTup (waCons (wC (.int 0)) (waCons (wC (.int 1)) (waCons (wCallH S__law_draw 1 (waCons (wC (.int 61)) waNil)) (waCons (wC (.int 60)) waNil)))))) (gNm 9) (wsSeq (wsSetI 10 (wBf bSum (waCons (wLc (wiTup (wVar 5)) (gNm 11) wtYes (wCall S__law_taken (waCons (wVar 11) (waCons (wVar 9) waNil))) [11]) waNil)))
  (wsIf (wtOr (wB (w2 fNe (wCall S_power_sum (waCons (wVar 5) (waCons (wVar 9) waNil))) (wCall S__law_sum (waCons (wVar 5) (waCons (wVar 9) waNil))))) (wB (w2 fNe (wCall S_taken_sum (waCons (wVar 5) (waCons (wVar 9) waNil))) (wVar 10)))) (wsRetI (wC (.bool false))) wsNil)))
  (wsSeq (wsSetI 12 (wFz (wLst (waCons (wTup waNil) (waCons (w2 fAdd (wVar 5) (wTup (waCons (wC (.int 100001)) waNil))) (waCons (w2 fAdd (wTup (waCons (wNeg (wC (.int 100001))) waNil)) (wVar 5)) (waCons (wFz (wBf bLst (waCons (wVar 5) waNil))) (waCons (w2 fMulT (wTup (waCons (wC (.int 0)) waNil)) (wC (.int 41))) (waCons (wTup (waCons (wC (.bool true)) waNil)) (waCons (wTup (waCons (wC .none) waNil)) (waCons (wC .none) (waCons (wC (.str "0")) (waCons (wC (.int 3)) (waCons (wTup (waCons (wC (.int 2)) (waCons (wC (.int 1)) waNil))) waNil))))))))))))))
  (wsSeq (wsIf (wB (w2 fNe (wLc (wiList (wVar 12)) (gNm 11) wtYes (wCall S_is_heap (waCons (wVar 11) waNil)) [11]) (w2 fMul (wLst (waCons (wC (.bool false)) waNil)) (wC (.int 11))))) (wsRetI (wC (.bool false))) wsNil)
  (wsSeq (wsAsg (gTp (ggCons (gNm 13) (ggCons (gNm 14) ggNil))) (wTup (waCons (wFz (wCallH S__law_some 1 (waCons (wVar 12) waNil))) (waCons (wFz (wCallH S__law_some 1 (waCons (wFz (wLst (waCons (wNeg (wC (.int 1))) (waCons (wC (.int 61)) (waCons (wC (.bool true)) (waCons (wC .none) (waCons (wC (.str "2")) waNil))))))) waNil))) waNil))))
  (wsSeq (wsSetI 15 (wFz (wCallH S__law_some 1 (waCons (wFz (wLst (waCons (wTup waNil) (waCons (wTup (waCons (wC (.int 100001)) waNil)) (waCons (w2 fMulT (wTup (waCons (wC (.int 0)) waNil)) (wC (.int 41))) (waCons (wTup (waCons (wC (.bool true)) waNil)) (waCons (wTup (waCons (wC .none) waNil)) (waCons (wC .none) (waCons (wTup (waCons (wC (.int 0)) (waCons (wC (.str "1")) waNil))) (waCons (wTup (waCons (wNeg (wC (.int 100001))) (waCons (wC (.int 0)) waNil))) waNil)))))))))) waNil))))
  (wsSeq (wsLam 16 17 0)
  (wsSeq (wsLamA 16 17 1)
  (wsSeq (wsLamA 16 17 2)
  (wsSeq (wsLamA 16 17 3)
  (wsSeq (wsLamA 16 17 4)
  (wsSeq (wsLamA 16 17 5)
  (wsSeq (wsLamA 16 17 6)
  (wsSeq (wsLamA 16 17 7)
  (wsIf (wB (w2 fNe (wErrs 1 16 lw_law (wordOf flags) (knOf errs)) (wLst (waCons (wC (.int 1)) (waCons (wC (.int 0)) (waCons (wC (.int 2)) (waCons (wC (.int 0)) (waCons (wC (.int 2)) (waCons (wC (.int 0)) (waCons (wC (.int 2)) (waCons (wC (.int 0)) waNil))))))))))) (wsRetI (wC (.bool false))) wsNil))))))))))))))))))))))
  (wsRetI (wC (.bool true)))))
abbrev okS (ns : List Int) : Prop := ns.length ≤ 63 ∧ ∀ z ∈ ns, Builtin.Int.intBits z ≤ 1048576
theorem h_law {P : Program} {w : World} {base : Heap} {K : PySem.W.Frag} {mg : Str → Option Value} (X : Fx K mg) {CL : Addr} (EF : ErrF K mg errs CL) {f co Pt : Addr} {fd : FuncData} (F : FunD K "law" "law" (defArgs (top 34)) (defBody (top 34)) (defScope (top 34)) [] [] f fd) (TB : LamX.TabB base mg co Pt) (hco : fd.code = .ref co)
    (vc : ∀ ns, okS ns → wb_law (rhoLaw N_law ns) ⟨fun _ => False, fun d _ => d = .bool true, fun _ => False, fun _ => False, fun _ _ => False⟩) : FnOk P w K mg base (L2.CX P w) 9 f fd ["script"] (spLaw K Pt okS) := by
  obtain ⟨f__law_draw, fd__law_draw, m__law_draw, k__law_draw, b__law_draw, G__law_draw⟩ := h__law_draw (P := P) (w := w) (base := base) X
  obtain ⟨f__law_hand, fd__law_hand, m__law_hand, k__law_hand, b__law_hand, G__law_hand⟩ := h__law_hand (P := P) (w := w) (base := base) X
  obtain ⟨f__law_heap, fd__law_heap, m__law_heap, k__law_heap, b__law_heap, G__law_heap⟩ := h__law_heap (P := P) (w := w) (base := base) X
  obtain ⟨f__law_some, fd__law_some, m__law_some, k__law_some, b__law_some, G__law_some⟩ := h__law_some (P := P) (w := w) (base := base) X
  obtain ⟨f__law_sum, fd__law_sum, m__law_sum, k__law_sum, b__law_sum, G__law_sum⟩ := h__law_sum (P := P) (w := w) (base := base) X
  obtain ⟨f__law_taken, fd__law_taken, m__law_taken, k__law_taken, b__law_taken, G__law_taken⟩ := h__law_taken (P := P) (w := w) (base := base) X
  obtain ⟨f_heap_of, fd_heap_of, m_heap_of, k_heap_of, b_heap_of, G_heap_of⟩ := h_heap_of (P := P) (w := w) (base := base) X
  obtain ⟨f_is_heap, fd_is_heap, m_is_heap, k_is_heap, b_is_heap, G_is_heap⟩ := h_is_heap (P := P) (w := w) (base := base) X
  obtain ⟨f_power_sum, fd_power_sum, m_power_sum, k_power_sum, b_power_sum, G_power_sum⟩ := h_power_sum (P := P) (w := w) (base := base) X
  obtain ⟨f_power_sums, fd_power_sums, m_power_sums, k_power_sums, b_power_sums, G_power_sums⟩ := h_power_sums (P := P) (w := w) (base := base) X
  obtain ⟨f_spread, fd_spread, m_spread, k_spread, b_spread, G_spread⟩ := h_spread (P := P) (w := w) (base := base) X
  obtain ⟨f_taken_sum, fd_taken_sum, m_taken_sum, k_taken_sum, b_taken_sum, G_taken_sum⟩ := h_taken_sum (P := P) (w := w) (base := base) X
  obtain ⟨fe, fde, Fe, me⟩ := X.d__law_errors
  refine fn_law (z := 17) (lam := lams_law) F sc_law rfl (by decide) TB hco (fun A outer s H E vs F0 ck hr tc => ?_) vc
  obtain ⟨b0, suite, q1, q2, q3, q4, q5, q6, q7, q8, q9, q10, q11, q12, q13, q14, q15, q16, q17, q18, q19, q20, q21, q22, j9, hB, hq, ED⟩ := ed_law (P := P) (w := w) (base := base) X EF Fe (f := f) (co := co) (A := A) (outer := outer) (s0 := s) (H0 := H) (E := E) (vs := vs) (F0 := F0) (Pt := Pt)
  have HLAM : ∀ d ∈ lams_law, LamX.LamS (defScope (top 34)) d.2.2 ∧ ∀ (q : Str) (cl : List (Str × Addr)) (pm cv ctv : Value), bindArgs (PySem.W.kla_fn "<lambda>" q d.1 d.2.1 d.2.2 cl pm cv ctv) ⟨[], []⟩ = pure [] := AllL.mem (⟨⟨LamX.lamS_by (by decide +kernel), fun _ _ _ _ _ => rfl⟩, ⟨⟨LamX.lamS_by (by decide +kernel), fun _ _ _ _ _ => rfl⟩, ⟨⟨LamX.lamS_by (by decide +kernel), fun _ _ _ _ _ => rfl⟩, ⟨⟨LamX.lamS_by (by decide +kernel), fun _ _ _ _ _ => rfl⟩, ⟨⟨LamX.lamS_by (by decide +kernel), fun _ _ _ _ _ => rfl⟩, ⟨⟨LamX.lamS_by (by decide +kernel), fun _ _ _ _ _ => rfl⟩, ⟨⟨LamX.lamS_by (by decide +kernel), fun _ _ _ _ _ => rfl⟩, ⟨⟨LamX.lamS_by (by decide +kernel), fun _ _ _ _ _ => rfl⟩,  trivial⟩⟩⟩⟩⟩⟩⟩⟩)
  have FAM := FamL.all (C := fcLaw P w K mg base N_law "law" (defScope (top 34)) f (.ref co) A outer s H E vs F0 17 Pt lams_law) (hi := 1) (k := 6) (ws := lw_law) (⟨⟨_, _, _, _, rfl, fun A outer s H E f c H0 v0 P0 EX ck hr => (je_call ck (G_heap_of) (hr.mono (by decide)) (by rfl) m_heap_of k_heap_of b_heap_of (ja_cons (je_var (i := 15) rfl (by first | exact .inl rfl | exact .inr (.inl rfl) | exact .inr (.inr rfl))) ja_nil))⟩,
    ⟨⟨_, _, _, _, rfl, fun A outer s H E f c H0 v0 P0 EX ck hr => (je_call ck (G_power_sum) (hr.mono (by decide)) (by rfl) m_power_sum k_power_sum b_power_sum (ja_cons (je_var (i := 13) rfl (by first | exact .inl rfl | exact .inr (.inl rfl) | exact .inr (.inr rfl))) (ja_cons (je_var (i := 14) rfl (by first | exact .inl rfl | exact .inr (.inl rfl) | exact .inr (.inr rfl))) ja_nil)))⟩,
    ⟨⟨_, _, _, _, rfl, fun A outer s H E f c H0 v0 P0 EX ck hr => (je_call ck (G_power_sum) (hr.mono (by decide)) (by rfl) m_power_sum k_power_sum b_power_sum (ja_cons (je_var (i := 5) rfl (by first | exact .inl rfl | exact .inr (.inl rfl) | exact .inr (.inr rfl))) (ja_cons (je_var (i := 14) rfl (by first | exact .inl rfl | exact .inr (.inl rfl) | exact .inr (.inr rfl))) ja_nil)))⟩,
    ⟨⟨_, _, _, _, rfl, fun A outer s H E f c H0 v0 P0 EX ck hr => (je_call ck (G_power_sums) (hr.mono (by decide)) (by rfl) m_power_sums k_power_sums b_power_sums (ja_cons (je_var (i := 13) rfl (by first | exact .inl rfl | exact .inr (.inl rfl) | exact .inr (.inr rfl))) (ja_cons je_int ja_nil)))⟩,
    ⟨⟨_, _, _, _, rfl, fun A outer s H E f c H0 v0 P0 EX ck hr => (je_call ck (G_power_sums) (hr.mono (by decide)) (by rfl) m_power_sums k_power_sums b_power_sums (ja_cons (je_var (i := 5) rfl (by first | exact .inl rfl | exact .inr (.inl rfl) | exact .inr (.inr rfl))) (ja_cons (je_frz (je_callH (i := 1) ck (G__law_some) (hr.mono (by decide)) (by rfl) m__law_some k__law_some b__law_some rfl (by first | exact .inl rfl | exact .inr (.inl rfl) | exact .inr (.inr rfl)) (ja_cons (je_frz (je_lst (ja_cons je_int (ja_cons je_int (ja_cons je_bl ja_nil))))) ja_nil))) ja_nil)))⟩,
    ⟨⟨_, _, _, _, rfl, fun A outer s H E f c H0 v0 P0 EX ck hr => (je_call ck (G_taken_sum) (hr.mono (by decide)) (by rfl) m_taken_sum k_taken_sum b_taken_sum (ja_cons (je_var (i := 13) rfl (by first | exact .inl rfl | exact .inr (.inl rfl) | exact .inr (.inr rfl))) (ja_cons (je_var (i := 14) rfl (by first | exact .inl rfl | exact .inr (.inl rfl) | exact .inr (.inr rfl))) ja_nil)))⟩,
    ⟨⟨_, _, _, _, rfl, fun A outer s H E f c H0 v0 P0 EX ck hr => (je_call ck (G_taken_sum) (hr.mono (by decide)) (by rfl) m_taken_sum k_taken_sum b_taken_sum (ja_cons (je_var (i := 5) rfl (by first | exact .inl rfl | exact .inr (.inl rfl) | exact .inr (.inr rfl))) (ja_cons (je_var (i := 14) rfl (by first | exact .inl rfl | exact .inr (.inl rfl) | exact .inr (.inr rfl))) ja_nil)))⟩,
    ⟨⟨_, _, _, _, rfl, fun A outer s H E f c H0 v0 P0 EX ck hr => (je_call ck (G_spread) (hr.mono (by decide)) (by rfl) m_spread k_spread b_spread (ja_cons (je_var (i := 13) rfl (by first | exact .inl rfl | exact .inr (.inl rfl) | exact .inr (.inr rfl))) ja_nil))⟩,
    trivial⟩⟩⟩⟩⟩⟩⟩⟩)
  exact ⟨_, (jss_cons (js_setF (i := 1) sc_law.nd rfl (by first | exact Or.inl rfl | exact Or.inr rfl) (je_callS (i := 0) ck (G__law_hand) (hr.mono (by decide)) (by rfl) m__law_hand k__law_hand b__law_hand rfl (by first | exact .inl rfl | exact .inr (.inl rfl) | exact .inr (.inr rfl))))
    (jss_cons (js_for (passes_of rfl) rfl (ji_r1 (by rfl) X.b_range (ja_cons je_int ja_nil)) (jg_name (i := 2) sc_law.nd rfl (by first | exact Or.inl rfl | exact Or.inr rfl)) (jss_cons (js_asg (je_frz (je_callH (i := 1) ck (G__law_some) (hr.mono (by decide)) (by rfl) m__law_some k__law_some b__law_some rfl (by first | exact .inl rfl | exact .inr (.inl rfl) | exact .inr (.inr rfl)) (ja_cons (je_frz (je_lst (ja_cons (je_tup (ja_cons (je_neg je_int) (ja_cons je_int ja_nil))) (ja_cons (je_tup (ja_cons je_int (ja_cons je_int ja_nil))) (ja_cons (je_tup (ja_cons (je_neg je_int) (ja_cons je_int ja_nil))) (ja_cons (je_tup (ja_cons (je_neg je_int) (ja_cons (je_neg je_int) ja_nil))) ja_nil)))))) ja_nil))) (jg_tup rfl (jgs_cons (jg_name (i := 3) sc_law.nd rfl (by first | exact Or.inl rfl | exact Or.inr rfl)) (jgs_cons (jg_name (i := 4) sc_law.nd rfl (by first | exact Or.inl rfl | exact Or.inr rfl)) jgs_nil gNm_hg) gNm_hg)))
    (jss_cons (js_setI (i := 5) sc_law.nd rfl (by first | exact Or.inl rfl | exact Or.inr rfl) (je_callH (i := 1) ck (G__law_heap) (hr.mono (by decide)) (by rfl) m__law_heap k__law_heap b__law_heap rfl (by first | exact .inl rfl | exact .inr (.inl rfl) | exact .inr (.inr rfl)) (ja_cons (je_frz (je_callH (i := 1) ck (G__law_some) (hr.mono (by decide)) (by rfl) m__law_some k__law_some b__law_some rfl (by first | exact .inl rfl | exact .inr (.inl rfl) | exact .inr (.inr rfl)) (ja_cons (je_frz (je_lst (ja_cons je_int (ja_cons je_int (ja_cons je_int (ja_cons (je_op op_add4 op2_add je_int (je_callH (i := 1) ck (G__law_draw) (hr.mono (by decide)) (by rfl) m__law_draw k__law_draw b__law_draw rfl (by first | exact .inl rfl | exact .inr (.inl rfl) | exact .inr (.inr rfl)) (ja_cons je_int ja_nil))) ja_nil)))))) ja_nil))) (ja_cons (je_var (i := 3) rfl (by first | exact .inl rfl | exact .inr (.inl rfl) | exact .inr (.inr rfl))) (ja_cons (je_var (i := 4) rfl (by first | exact .inl rfl | exact .inr (.inl rfl) | exact .inr (.inr rfl))) ja_nil)))))
    (jss_cons (js_par2 (i := 6) (j := 7) rfl sc_law.nd rfl rfl (by decide) rfl rfl (je_bt cv_lst (by rfl) X.b_list (by decide +kernel) (ja_cons (je_var (i := 5) rfl (by first | exact .inl rfl | exact .inr (.inl rfl) | exact .inr (.inr rfl))) ja_nil)) (je_lst ja_nil) cC_ok cF_ok)
    (jss_cons (js_while (passes_of rfl) (jt_cmp (op_neD hr.units) op2_ne (je_var (i := 6) rfl (by first | exact .inl rfl | exact .inr (.inl rfl) | exact .inr (.inr rfl))) (je_lst ja_nil) (nomark _)) (jss_one (js_append (i := 7) rfl (by first | exact .inl rfl | exact .inr (.inl rfl) | exact .inr (.inr rfl)) (je_popAt (i := 6) rfl (by first | exact .inl rfl | exact .inr (.inl rfl) | exact .inr (.inr rfl)) (je_callH (i := 1) ck (G__law_draw) (hr.mono (by decide)) (by rfl) m__law_draw k__law_draw b__law_draw rfl (by first | exact .inl rfl | exact .inr (.inl rfl) | exact .inr (.inr rfl)) (ja_cons (je_bf cv_len (by rfl) X.b_len (by decide +kernel) (ja_cons (je_var (i := 6) rfl (by first | exact .inl rfl | exact .inr (.inl rfl) | exact .inr (.inr rfl))) ja_nil)) ja_nil))))))
    (jss_cons (js_if (JW.jt (jw_or (jt_cmp (op_neD hr.units) op2_ne (je_call ck (G_heap_of) (hr.mono (by decide)) (by rfl) m_heap_of k_heap_of b_heap_of (ja_cons (je_bt cv_tup (by rfl) X.b_tuple (by decide +kernel) (ja_cons (je_var (i := 7) rfl (by first | exact .inl rfl | exact .inr (.inl rfl) | exact .inr (.inr rfl))) ja_nil)) ja_nil)) (je_var (i := 5) rfl (by first | exact .inl rfl | exact .inr (.inl rfl) | exact .inr (.inr rfl))) (nomark _)) (jw_or (jt_cmp op_isnot_bl op2_notB (je_call ck (G_is_heap) (hr.mono (by decide)) (by rfl) m_is_heap k_is_heap b_is_heap (ja_cons (je_var (i := 5) rfl (by first | exact .inl rfl | exact .inr (.inl rfl) | exact .inr (.inr rfl))) ja_nil)) je_bl (nomark _)) (jw_or1 (jt_cmp (op_neD hr.units) op2_ne (je_call ck (G_spread) (hr.mono (by decide)) (by rfl) m_spread k_spread b_spread (ja_cons (je_var (i := 5) rfl (by first | exact .inl rfl | exact .inr (.inl rfl) | exact .inr (.inr rfl))) ja_nil)) (je_op op_sub op2_sub (je_ix ix_seq op2_ix (je_var (i := 5) rfl (by first | exact .inl rfl | exact .inr (.inl rfl) | exact .inr (.inr rfl))) (je_neg je_int) (fun _ _ => rfl)) (je_ix ix_seq op2_ix (je_var (i := 5) rfl (by first | exact .inl rfl | exact .inr (.inl rfl) | exact .inr (.inr rfl))) je_int (fun _ _ => rfl))) (nomark _)))))) (jss_one (js_retI je_bl)) jss_nil)
    (jss_cons (js_setI (i := 8) sc_law.nd rfl (by first | exact Or.inl rfl | exact Or.inr rfl) (je_op op_add4 op2_add je_int (je_callH (i := 1) ck (G__law_draw) (hr.mono (by decide)) (by rfl) m__law_draw k__law_draw b__law_draw rfl (by first | exact .inl rfl | exact .inr (.inl rfl) | exact .inr (.inr rfl)) (ja_cons je_int ja_nil))))
    (jss_cons (js_if (jt_cmp (op_neD hr.units) op2_ne (je_call ck (G_power_sums) (hr.mono (by decide)) (by rfl) m_power_sums k_power_sums b_power_sums (ja_cons (je_var (i := 5) rfl (by first | exact .inl rfl | exact .inr (.inl rfl) | exact .inr (.inr rfl))) (ja_cons (je_var (i := 8) rfl (by first | exact .inl rfl | exact .inr (.inl rfl) | exact .inr (.inr rfl))) ja_nil))) (je_bt cv_tup (by rfl) X.b_tuple (by decide +kernel) (ja_cons (je_lc (own := [("k", 9)]) rfl sc_law.nd (ji_r2 (by rfl) X.b_range (ja_cons je_int (ja_cons (je_op op_add4 op2_add (je_var (i := 8) rfl (by first | exact .inl rfl | exact .inr (.inl rfl) | exact .inr (.inr rfl))) je_int) ja_nil))) (blkOk_by (own := [("k", 9)]) (N := N_law) (sc := defScope (top 34)) (by decide +kernel)) (fun _ _ _ _ _ => (jg_name (i := 9) sc_law.nd rfl (by first | exact Or.inl rfl | exact Or.inr rfl))) (fun _ _ _ _ _ => jts_nil) (fun _ _ _ _ _ => (je_call (Ck.in ck) (G__law_sum) (hr.mono (by decide)) (by rfl) m__law_sum k__law_sum b__law_sum (ja_cons (je_var (i := 5) rfl (by first | exact .inl rfl | exact .inr (.inl rfl) | exact .inr (.inr rfl))) (ja_cons (je_var (i := 9) rfl (by first | exact .inl rfl | exact .inr (.inl rfl) | exact .inr (.inr rfl))) ja_nil))))) ja_nil)) (nomark _)) (jss_one (js_retI je_bl)) jss_nil)
    (jss_cons (js_for (passes_of rfl) rfl (ji_tup (je_tup (ja_cons je_int (ja_cons je_int (ja_cons (je_callH (i := 1) ck (G__law_draw) (hr.mono (by decide)) (by rfl) m__law_draw k__law_draw b__law_draw rfl (by first | exact .inl rfl | exact .inr (.inl rfl) | exact .inr (.inr rfl)) (ja_cons je_int ja_nil)) (ja_cons je_int ja_nil)))))) (jg_name (i := 9) sc_law.nd rfl (by first | exact Or.inl rfl | exact Or.inr rfl)) (jss_cons (js_setI (i := 10) sc_law.nd rfl (by first | exact Or.inl rfl | exact Or.inr rfl) (je_bf (cv_sum ck.calm) (by rfl) X.b_sum (by decide +kernel) (ja_cons (je_lc (own := [("one", 11)]) rfl sc_law.nd (ji_tup (je_var (i := 5) rfl (by first | exact .inl rfl | exact .inr (.inl rfl) | exact .inr (.inr rfl)))) (blkOk_by (own := [("one", 11)]) (N := N_law) (sc := defScope (top 34)) (by decide +kernel)) (fun _ _ _ _ _ => (jg_name (i := 11) sc_law.nd rfl (by first | exact Or.inl rfl | exact Or.inr rfl))) (fun _ _ _ _ _ => jts_nil) (fun _ _ _ _ _ => (je_call (Ck.in ck) (G__law_taken) (hr.mono (by decide)) (by rfl) m__law_taken k__law_taken b__law_taken (ja_cons (je_var (i := 11) rfl (by first | exact .inl rfl | exact .inr (.inl rfl) | exact .inr (.inr rfl))) (ja_cons (je_var (i := 9) rfl (by first | exact .inl rfl | exact .inr (.inl rfl) | exact .inr (.inr rfl))) ja_nil))))) ja_nil)))
    (jss_one (js_if (JW.jt (jw_or (jt_cmp (op_neD hr.units) op2_ne (je_call ck (G_power_sum) (hr.mono (by decide)) (by rfl) m_power_sum k_power_sum b_power_sum (ja_cons (je_var (i := 5) rfl (by first | exact .inl rfl | exact .inr (.inl rfl) | exact .inr (.inr rfl))) (ja_cons (je_var (i := 9) rfl (by first | exact .inl rfl | exact .inr (.inl rfl) | exact .inr (.inr rfl))) ja_nil))) (je_call ck (G__law_sum) (hr.mono (by decide)) (by rfl) m__law_sum k__law_sum b__law_sum (ja_cons (je_var (i := 5) rfl (by first | exact .inl rfl | exact .inr (.inl rfl) | exact .inr (.inr rfl))) (ja_cons (je_var (i := 9) rfl (by first | exact .inl rfl | exact .inr (.inl rfl) | exact .inr (.inr rfl))) ja_nil))) (nomark _)) (jw_or1 (jt_cmp (op_neD hr.units) op2_ne (je_call ck (G_taken_sum) (hr.mono (by decide)) (by rfl) m_taken_sum k_taken_sum b_taken_sum (ja_cons (je_var (i := 5) rfl (by first | exact .inl rfl | exact .inr (.inl rfl) | exact .inr (.inr rfl))) (ja_cons (je_var (i := 9) rfl (by first | exact .inl rfl | exact .inr (.inl rfl) | exact .inr (.inr rfl))) ja_nil))) (je_var (i := 10) rfl (by first | exact .inl rfl | exact .inr (.inl rfl) | exact .inr (.inr rfl))) (nomark _))))) (jss_one (js_retI je_bl)) jss_nil))))
    (jss_cons (js_setI (i := 12) sc_law.nd rfl (by first | exact Or.inl rfl | exact Or.inr rfl) (je_frz (je_lst (ja_cons (je_tup ja_nil) (ja_cons (je_op op_add4 op2_add (je_var (i := 5) rfl (by first | exact .inl rfl | exact .inr (.inl rfl) | exact .inr (.inr rfl))) (je_tup (ja_cons je_int ja_nil))) (ja_cons (je_op op_add4 op2_add (je_tup (ja_cons (je_neg je_int) ja_nil)) (je_var (i := 5) rfl (by first | exact .inl rfl | exact .inr (.inl rfl) | exact .inr (.inr rfl)))) (ja_cons (je_frz (je_bt cv_lst (by rfl) X.b_list (by decide +kernel) (ja_cons (je_var (i := 5) rfl (by first | exact .inl rfl | exact .inr (.inl rfl) | exact .inr (.inr rfl))) ja_nil))) (ja_cons (je_op op_repT op2_mulT (je_tup (ja_cons je_int ja_nil)) je_int) (ja_cons (je_tup (ja_cons je_bl ja_nil)) (ja_cons (je_tup (ja_cons je_non ja_nil)) (ja_cons je_non (ja_cons je_str (ja_cons je_int (ja_cons (je_tup (ja_cons je_int (ja_cons je_int ja_nil))) ja_nil))))))))))))))
    (jss_cons (js_if (jt_cmp (op_neD hr.units) op2_ne (je_lc (own := [("one", 11)]) rfl sc_law.nd (ji_list (je_var (i := 12) rfl (by first | exact .inl rfl | exact .inr (.inl rfl) | exact .inr (.inr rfl)))) (blkOk_by (own := [("one", 11)]) (N := N_law) (sc := defScope (top 34)) (by decide +kernel)) (fun _ _ _ _ _ => (jg_name (i := 11) sc_law.nd rfl (by first | exact Or.inl rfl | exact Or.inr rfl))) (fun _ _ _ _ _ => jts_nil) (fun _ _ _ _ _ => (je_call (Ck.in ck) (G_is_heap) (hr.mono (by decide)) (by rfl) m_is_heap k_is_heap b_is_heap (ja_cons (je_var (i := 11) rfl (by first | exact .inl rfl | exact .inr (.inl rfl) | exact .inr (.inr rfl))) ja_nil)))) (je_op op_mul2 op2_mul (je_lst (ja_cons je_bl ja_nil)) je_int) (nomark _)) (jss_one (js_retI je_bl)) jss_nil)
    (jss_cons (js_asg (je_tup (ja_cons (je_frz (je_callH (i := 1) ck (G__law_some) (hr.mono (by decide)) (by rfl) m__law_some k__law_some b__law_some rfl (by first | exact .inl rfl | exact .inr (.inl rfl) | exact .inr (.inr rfl)) (ja_cons (je_var (i := 12) rfl (by first | exact .inl rfl | exact .inr (.inl rfl) | exact .inr (.inr rfl))) ja_nil))) (ja_cons (je_frz (je_callH (i := 1) ck (G__law_some) (hr.mono (by decide)) (by rfl) m__law_some k__law_some b__law_some rfl (by first | exact .inl rfl | exact .inr (.inl rfl) | exact .inr (.inr rfl)) (ja_cons (je_frz (je_lst (ja_cons (je_neg je_int) (ja_cons je_int (ja_cons je_bl (ja_cons je_non (ja_cons je_str ja_nil))))))) ja_nil))) ja_nil))) (jg_tup rfl (jgs_cons (jg_name (i := 13) sc_law.nd rfl (by first | exact Or.inl rfl | exact Or.inr rfl)) (jgs_cons (jg_name (i := 14) sc_law.nd rfl (by first | exact Or.inl rfl | exact Or.inr rfl)) jgs_nil gNm_hg) gNm_hg)))
    (jss_cons (js_setI (i := 15) sc_law.nd rfl (by first | exact Or.inl rfl | exact Or.inr rfl) (je_frz (je_callH (i := 1) ck (G__law_some) (hr.mono (by decide)) (by rfl) m__law_some k__law_some b__law_some rfl (by first | exact .inl rfl | exact .inr (.inl rfl) | exact .inr (.inr rfl)) (ja_cons (je_frz (je_lst (ja_cons (je_tup ja_nil) (ja_cons (je_tup (ja_cons je_int ja_nil)) (ja_cons (je_op op_repT op2_mulT (je_tup (ja_cons je_int ja_nil)) je_int) (ja_cons (je_tup (ja_cons je_bl ja_nil)) (ja_cons (je_tup (ja_cons je_non ja_nil)) (ja_cons je_non (ja_cons (je_tup (ja_cons je_int (ja_cons je_str ja_nil))) (ja_cons (je_tup (ja_cons (je_neg je_int) (ja_cons je_int ja_nil))) ja_nil)))))))))) ja_nil))))
    (jss_cons (js_lam (i := 16) (z := 17) (k := 0) (d := lam_law_0) sc_law.nd rfl (by first | exact Or.inl rfl | exact Or.inr rfl) ⟨rfl, rfl, rfl, rfl, LamX.lamS_by (sc := defScope (top 34)) (by decide +kernel)⟩ tc (List.mem_singleton.mpr rfl) rfl)
    (jss_cons (js_lamA (i := 16) (z := 17) (k := 1) (d := lam_law_1) rfl (by first | exact .inl rfl | exact .inr (.inl rfl) | exact .inr (.inr rfl)) ⟨rfl, rfl, rfl, rfl, LamX.lamS_by (sc := defScope (top 34)) (by decide +kernel)⟩ tc (List.mem_singleton.mpr rfl) rfl)
    (jss_cons (js_lamA (i := 16) (z := 17) (k := 2) (d := lam_law_2) rfl (by first | exact .inl rfl | exact .inr (.inl rfl) | exact .inr (.inr rfl)) ⟨rfl, rfl, rfl, rfl, LamX.lamS_by (sc := defScope (top 34)) (by decide +kernel)⟩ tc (List.mem_singleton.mpr rfl) rfl)
    (jss_cons (js_lamA (i := 16) (z := 17) (k := 3) (d := lam_law_3) rfl (by first | exact .inl rfl | exact .inr (.inl rfl) | exact .inr (.inr rfl)) ⟨rfl, rfl, rfl, rfl, LamX.lamS_by (sc := defScope (top 34)) (by decide +kernel)⟩ tc (List.mem_singleton.mpr rfl) rfl)
    (jss_cons (js_lamA (i := 16) (z := 17) (k := 4) (d := lam_law_4) rfl (by first | exact .inl rfl | exact .inr (.inl rfl) | exact .inr (.inr rfl)) ⟨rfl, rfl, rfl, rfl, LamX.lamS_by (sc := defScope (top 34)) (by decide +kernel)⟩ tc (List.mem_singleton.mpr rfl) rfl)
    (jss_cons (js_lamA (i := 16) (z := 17) (k := 5) (d := lam_law_5) rfl (by first | exact .inl rfl | exact .inr (.inl rfl) | exact .inr (.inr rfl)) ⟨rfl, rfl, rfl, rfl, LamX.lamS_by (sc := defScope (top 34)) (by decide +kernel)⟩ tc (List.mem_singleton.mpr rfl) rfl)
    (jss_cons (js_lamA (i := 16) (z := 17) (k := 6) (d := lam_law_6) rfl (by first | exact .inl rfl | exact .inr (.inl rfl) | exact .inr (.inr rfl)) ⟨rfl, rfl, rfl, rfl, LamX.lamS_by (sc := defScope (top 34)) (by decide +kernel)⟩ tc (List.mem_singleton.mpr rfl) rfl)
    (jss_cons (js_lamA (i := 16) (z := 17) (k := 7) (d := lam_law_7) rfl (by first | exact .inl rfl | exact .inr (.inl rfl) | exact .inr (.inr rfl)) ⟨rfl, rfl, rfl, rfl, LamX.lamS_by (sc := defScope (top 34)) (by decide +kernel)⟩ tc (List.mem_singleton.mpr rfl) rfl)
    (jss_one (js_if (jt_cmp (op_neD hr.units) op2_ne (je_errs (hi := 1) (ic := 16) (k := 5) (ws := lw_law) (kn := knOf errs) (word := wordOf flags) Fe hB ED (by rfl) me (hr.mono (by decide)) sc_law.nd rfl rfl HLAM FAM (by decide) rfl (by first | exact .inl rfl | exact .inr (.inl rfl) | exact .inr (.inr rfl)) hq) (je_lst (ja_cons je_int (ja_cons je_int (ja_cons je_int (ja_cons je_int (ja_cons je_int (ja_cons je_int (ja_cons je_int (ja_cons je_int ja_nil))))))))) (nomark _)) (jss_one (js_retI je_bl)) jss_nil)))))))))))))))))))))))
    (jss_one (js_retI je_bl))))⟩
end LW

namespace LW
open PySem PySem.Spec PyProof.Rows L2 L3
local macro_rules | `(tactic| ac_rfl) => `(tactic| (repeat (first | with_reducible refine r_eqS ?_ | with_reducible refine r_neS ?_ | with_reducible refine r_eqTS ?_ | with_reducible refine r_neTS ?_ | with_reducible refine r_eqLS ?_ | with_reducible refine r_neLS ?_ | with_reducible refine r_nTT ?_ | with_reducible refine r_nFT ?_ | with_reducible refine r_nTF ?_ | with_reducible refine r_nFF ?_ | with_reducible refine r_iTT ?_ | with_reducible refine r_iFT ?_ | with_reducible refine r_iTF ?_ | with_reducible refine r_iFF ?_ | with_reducible refine r_seq ?_ | with_reducible refine r_nil ?_ | with_reducible refine r_if ?_ | with_reducible refine r_drop ?_ | with_reducible refine r_raise ?_ | with_reducible refine r_set ?_ | with_reducible refine r_setF ?_ | with_reducible refine r_setI ?_ | with_reducible refine r_par2 ?_ | with_reducible refine r_retI ?_ | with_reducible refine r_asg ?_ | with_reducible refine r_for ?_ | with_reducible refine r_c ?_ | with_reducible refine r_2 ?_ | with_reducible refine r_B ?_ | with_reducible refine r_tAnd ?_ | with_reducible refine r_tOr ?_ | with_reducible refine r_tNot ?_ | with_reducible refine r_ifE ?_ | with_reducible refine r_call ?_ | with_reducible refine r_acons ?_ | with_reducible refine r_anil ?_ | with_reducible refine r_tup ?_ | with_reducible refine r_lst ?_ | with_reducible refine r_bf ?_ | with_reducible refine r_asB ?_ | with_reducible refine r_add ?_ | with_reducible refine r_sub ?_ | with_reducible refine r_lt ?_ | with_reducible refine r_le ?_ | with_reducible refine r_gt ?_ | with_reducible refine r_ge ?_ | with_reducible refine r_eqI ?_ | with_reducible refine r_neI ?_ | with_reducible refine r_notN ?_ | with_reducible refine r_intB ?_ | with_reducible refine r_yes ?_ | with_reducible refine r_itT ?_ | with_reducible refine r_itF ?_ | with_reducible refine r_itNT ?_ | with_reducible refine r_itNF ?_ | with_reducible refine r_lenL ?_ | with_reducible refine r_lenT ?_ | with_reducible refine r_negC ?_ | with_reducible refine r_wh ?_ | with_reducible refine r_sl ?_ | with_reducible refine r_oN ?_ | with_reducible refine r_oSC ?_ | with_reducible refine r_R1C ?_ | with_reducible refine r_gTp ?_ | with_reducible refine r_ggC ?_ | with_reducible refine r_ggN ?_ | with_reducible refine r_slL ?_ | with_reducible refine r_slT ?_ | with_reducible refine r_tupL ?_ | with_reducible refine r_tupT ?_ | with_reducible refine r_is ?_ | with_reducible refine r_andV ?_ | with_reducible refine r_orV ?_ | with_reducible refine r_notV ?_ | with_reducible refine r_lc ?_ | with_reducible refine r_iL ?_ | with_reducible refine r_iT ?_ | with_reducible refine r_iS ?_ | with_reducible refine r_R1 ?_ | with_reducible refine r_R2 ?_ | with_reducible refine r_isB ?_ | with_reducible refine r_notB ?_ | with_reducible refine r_isN ?_ | with_reducible refine r_lstL ?_ | with_reducible refine r_lstT ?_ | with_reducible refine r_lstF ?_ | with_reducible refine r_absI ?_ | with_reducible refine r_sumL ?_ | with_reducible refine r_sumT ?_ | with_reducible refine r_sumF ?_ | with_reducible refine r_allB ?_ | with_reducible refine r_anyB ?_ | with_reducible refine r_eqT ?_ | with_reducible refine r_eqL ?_ | with_reducible refine r_neT ?_ | with_reducible refine r_neL ?_ | with_reducible refine r_neLn ?_ | with_reducible refine r_retN ?_ | with_reducible refine r_fz ?_ | with_reducible refine r_lenF ?_ | with_reducible refine r_tupF ?_ | with_reducible refine r_slF ?_ | with_reducible refine r_chain ?_ | with_reducible refine r_chC ?_ | ((with_reducible apply r_var); exact rfl; exact rfl) | ((with_reducible apply r_callH); exact r_hasV rfl rfl) | ((with_reducible apply r_own); exact rfl; exact rfl; exact rfl) | ((with_reducible apply r_mul); (first | exact mOkL (by decide) (by decide) | exact mOkR (by decide) (by decide) | assumption | (refine mOkL ?_ ?_ <;> omega) | (refine mOkR ?_ ?_ <;> omega))) | ((with_reducible apply r_div); (first | exact dOk64 (by decide) (by decide) | assumption | (refine dOk64 ?_ ?_ <;> omega))) | ((with_reducible apply r_mod); first | decide | omega) | ((with_reducible apply r_pow); exact ⟨by decide, by decide, by decide⟩) | ((with_reducible apply r_and1); exact Nat.le_of_ble_eq_true rfl; rfl; (try dsimp only [List.set_cons_zero, List.set_cons_succ])) | ((with_reducible apply r_and2); exact Nat.le_of_ble_eq_true rfl; exact Nat.le_of_ble_eq_true rfl; rfl; rfl; (try dsimp only [List.set_cons_zero, List.set_cons_succ])) | ((with_reducible apply r_and0); exact Nat.le_of_ble_eq_true rfl; (try dsimp only [List.set_cons_zero, List.set_cons_succ])) | ((with_reducible apply r_andS); exact Nat.le_of_ble_eq_true rfl) | ((with_reducible apply r_andI); rfl) | ((with_reducible apply r_fzI); (first | rfl | assumption | exact imm_ints _)) | ((with_reducible apply r_fzL); (first | rfl | exact imm_ints _ | assumption)) | ((with_reducible apply r_immL); (first | rfl | exact imm_ints _ | assumption)) | ((with_reducible apply r_vfzL); exact rfl; (first | rfl | exact imm_ints _ | assumption)) | ((with_reducible apply r_vfzP); exact rfl; (first | rfl | assumption)) | ((with_reducible apply r_vfzF); exact rfl; (first | rfl | exact imm_ints _ | assumption)) | ((with_reducible apply r_chV); exact rfl; exact rfl) | ((with_reducible apply r_popAt); exact r_isLst rfl rfl) | ((with_reducible apply r_gNm); exact Nat.le_of_ble_eq_true rfl; (first | rfl | assumption); exact rfl) | ((with_reducible apply r_oSV); exact rfl; exact rfl) | ((with_reducible apply r_callS); exact rfl) | ((with_reducible apply r_append); exact rfl; exact rfl) | ((with_reducible apply r_wlist); exact rfl; exact rfl; exact rfl) | (dsimp only [List.set_cons_zero, List.set_cons_succ, SV.put, unS]))))
local macro_rules | `(tactic| bv_omega) => `(tactic| (repeat (first | with_reducible refine r_eqS ?_ | with_reducible refine r_neS ?_ | with_reducible refine r_eqTS ?_ | with_reducible refine r_neTS ?_ | with_reducible refine r_eqLS ?_ | with_reducible refine r_neLS ?_ | with_reducible refine r_nTT ?_ | with_reducible refine r_nFT ?_ | with_reducible refine r_nTF ?_ | with_reducible refine r_nFF ?_ | with_reducible refine r_iTT ?_ | with_reducible refine r_iFT ?_ | with_reducible refine r_iTF ?_ | with_reducible refine r_iFF ?_ | with_reducible refine r_seq ?_ | with_reducible refine r_nil ?_ | with_reducible refine r_drop ?_ | with_reducible refine r_raise ?_ | with_reducible refine r_set ?_ | with_reducible refine r_setF ?_ | with_reducible refine r_setI ?_ | with_reducible refine r_par2 ?_ | with_reducible refine r_retI ?_ | with_reducible refine r_asg ?_ | with_reducible refine r_for ?_ | with_reducible refine r_c ?_ | with_reducible refine r_2 ?_ | with_reducible refine r_B ?_ | with_reducible refine r_tAnd ?_ | with_reducible refine r_tOr ?_ | with_reducible refine r_tNot ?_ | with_reducible refine r_ifE ?_ | with_reducible refine r_call ?_ | with_reducible refine r_acons ?_ | with_reducible refine r_anil ?_ | with_reducible refine r_tup ?_ | with_reducible refine r_lst ?_ | with_reducible refine r_bf ?_ | with_reducible refine r_asB ?_ | with_reducible refine r_add ?_ | with_reducible refine r_sub ?_ | with_reducible refine r_lt ?_ | with_reducible refine r_le ?_ | with_reducible refine r_gt ?_ | with_reducible refine r_ge ?_ | with_reducible refine r_eqI ?_ | with_reducible refine r_neI ?_ | with_reducible refine r_notN ?_ | with_reducible refine r_intB ?_ | with_reducible refine r_yes ?_ | with_reducible refine r_itT ?_ | with_reducible refine r_itF ?_ | with_reducible refine r_itNT ?_ | with_reducible refine r_itNF ?_ | with_reducible refine r_lenL ?_ | with_reducible refine r_lenT ?_ | with_reducible refine r_negC ?_ | with_reducible refine r_wh ?_ | with_reducible refine r_sl ?_ | with_reducible refine r_oN ?_ | with_reducible refine r_oSC ?_ | with_reducible refine r_R1C ?_ | with_reducible refine r_gTp ?_ | with_reducible refine r_ggC ?_ | with_reducible refine r_ggN ?_ | with_reducible refine r_slL ?_ | with_reducible refine r_slT ?_ | with_reducible refine r_tupL ?_ | with_reducible refine r_tupT ?_ | with_reducible refine r_is ?_ | with_reducible refine r_andV ?_ | with_reducible refine r_orV ?_ | with_reducible refine r_notV ?_ | with_reducible refine r_lc ?_ | with_reducible refine r_iL ?_ | with_reducible refine r_iT ?_ | with_reducible refine r_iS ?_ | with_reducible refine r_R1 ?_ | with_reducible refine r_R2 ?_ | with_reducible refine r_isB ?_ | with_reducible refine r_notB ?_ | with_reducible refine r_isN ?_ | with_reducible refine r_lstL ?_ | with_reducible refine r_lstT ?_ | with_reducible refine r_lstF ?_ | with_reducible refine r_absI ?_ | with_reducible refine r_sumL ?_ | with_reducible refine r_sumT ?_ | with_reducible refine r_sumF ?_ | with_reducible refine r_allB ?_ | with_reducible refine r_anyB ?_ | with_reducible refine r_eqT ?_ | with_reducible refine r_eqL ?_ | with_reducible refine r_neT ?_ | with_reducible refine r_neL ?_ | with_reducible refine r_neLn ?_ | with_reducible refine r_retN ?_ | with_reducible refine r_fz ?_ | with_reducible refine r_lenF ?_ | with_reducible refine r_tupF ?_ | with_reducible refine r_slF ?_ | with_reducible refine r_chain ?_ | with_reducible refine r_chC ?_ | ((with_reducible apply r_var); exact rfl; exact rfl) | ((with_reducible apply r_callH); exact r_hasV rfl rfl) | ((with_reducible apply r_own); exact rfl; exact rfl; exact rfl) | ((with_reducible apply r_mul); (first | exact mOkL (by decide) (by decide) | exact mOkR (by decide) (by decide) | assumption | (refine mOkL ?_ ?_ <;> omega) | (refine mOkR ?_ ?_ <;> omega))) | ((with_reducible apply r_div); (first | exact dOk64 (by decide) (by decide) | assumption | (refine dOk64 ?_ ?_ <;> omega))) | ((with_reducible apply r_mod); first | decide | omega) | ((with_reducible apply r_pow); exact ⟨by decide, by decide, by decide⟩) | ((with_reducible apply r_and1); exact Nat.le_of_ble_eq_true rfl; rfl; (try dsimp only [List.set_cons_zero, List.set_cons_succ])) | ((with_reducible apply r_and2); exact Nat.le_of_ble_eq_true rfl; exact Nat.le_of_ble_eq_true rfl; rfl; rfl; (try dsimp only [List.set_cons_zero, List.set_cons_succ])) | ((with_reducible apply r_and0); exact Nat.le_of_ble_eq_true rfl; (try dsimp only [List.set_cons_zero, List.set_cons_succ])) | ((with_reducible apply r_andS); exact Nat.le_of_ble_eq_true rfl) | ((with_reducible apply r_andI); rfl) | ((with_reducible apply r_fzI); (first | rfl | assumption | exact imm_ints _)) | ((with_reducible apply r_fzL); (first | rfl | exact imm_ints _ | assumption)) | ((with_reducible apply r_immL); (first | rfl | exact imm_ints _ | assumption)) | ((with_reducible apply r_vfzL); exact rfl; (first | rfl | exact imm_ints _ | assumption)) | ((with_reducible apply r_vfzP); exact rfl; (first | rfl | assumption)) | ((with_reducible apply r_vfzF); exact rfl; (first | rfl | exact imm_ints _ | assumption)) | ((with_reducible apply r_chV); exact rfl; exact rfl) | ((with_reducible apply r_popAt); exact r_isLst rfl rfl) | ((with_reducible apply r_gNm); exact Nat.le_of_ble_eq_true rfl; (first | rfl | assumption); exact rfl) | ((with_reducible apply r_oSV); exact rfl; exact rfl) | ((with_reducible apply r_callS); exact rfl) | ((with_reducible apply r_append); exact rfl; exact rfl) | ((with_reducible apply r_wlist); exact rfl; exact rfl; exact rfl) | (dsimp only [List.set_cons_zero, List.set_cons_succ, SV.put, unS]))))
local macro_rules | `(tactic| and_intros) => `(tactic| (repeat (first | with_reducible refine r_eqS ?_ | with_reducible refine r_neS ?_ | with_reducible refine r_eqTS ?_ | with_reducible refine r_neTS ?_ | with_reducible refine r_eqLS ?_ | with_reducible refine r_neLS ?_ | with_reducible refine r_nTT ?_ | with_reducible refine r_nFT ?_ | with_reducible refine r_nTF ?_ | with_reducible refine r_nFF ?_ | with_reducible refine r_iTT ?_ | with_reducible refine r_iFT ?_ | with_reducible refine r_iTF ?_ | with_reducible refine r_iFF ?_ | with_reducible refine r_nil ?_ | with_reducible refine r_if ?_ | with_reducible refine r_drop ?_ | with_reducible refine r_raise ?_ | with_reducible refine r_set ?_ | with_reducible refine r_setF ?_ | with_reducible refine r_setI ?_ | with_reducible refine r_par2 ?_ | with_reducible refine r_retI ?_ | with_reducible refine r_asg ?_ | with_reducible refine r_for ?_ | with_reducible refine r_c ?_ | with_reducible refine r_2 ?_ | with_reducible refine r_B ?_ | with_reducible refine r_tAnd ?_ | with_reducible refine r_tOr ?_ | with_reducible refine r_tNot ?_ | with_reducible refine r_ifE ?_ | with_reducible refine r_call ?_ | with_reducible refine r_acons ?_ | with_reducible refine r_anil ?_ | with_reducible refine r_tup ?_ | with_reducible refine r_lst ?_ | with_reducible refine r_bf ?_ | with_reducible refine r_asB ?_ | with_reducible refine r_add ?_ | with_reducible refine r_sub ?_ | with_reducible refine r_lt ?_ | with_reducible refine r_le ?_ | with_reducible refine r_gt ?_ | with_reducible refine r_ge ?_ | with_reducible refine r_eqI ?_ | with_reducible refine r_neI ?_ | with_reducible refine r_notN ?_ | with_reducible refine r_intB ?_ | with_reducible refine r_yes ?_ | with_reducible refine r_itT ?_ | with_reducible refine r_itF ?_ | with_reducible refine r_itNT ?_ | with_reducible refine r_itNF ?_ | with_reducible refine r_lenL ?_ | with_reducible refine r_lenT ?_ | with_reducible refine r_negC ?_ | with_reducible refine r_wh ?_ | with_reducible refine r_sl ?_ | with_reducible refine r_oN ?_ | with_reducible refine r_oSC ?_ | with_reducible refine r_R1C ?_ | with_reducible refine r_gTp ?_ | with_reducible refine r_ggC ?_ | with_reducible refine r_ggN ?_ | with_reducible refine r_slL ?_ | with_reducible refine r_slT ?_ | with_reducible refine r_tupL ?_ | with_reducible refine r_tupT ?_ | with_reducible refine r_is ?_ | with_reducible refine r_andV ?_ | with_reducible refine r_orV ?_ | with_reducible refine r_notV ?_ | with_reducible refine r_lc ?_ | with_reducible refine r_iL ?_ | with_reducible refine r_iT ?_ | with_reducible refine r_iS ?_ | with_reducible refine r_R1 ?_ | with_reducible refine r_R2 ?_ | with_reducible refine r_isB ?_ | with_reducible refine r_notB ?_ | with_reducible refine r_isN ?_ | with_reducible refine r_lstL ?_ | with_reducible refine r_lstT ?_ | with_reducible refine r_lstF ?_ | with_reducible refine r_absI ?_ | with_reducible refine r_sumL ?_ | with_reducible refine r_sumT ?_ | with_reducible refine r_sumF ?_ | with_reducible refine r_allB ?_ | with_reducible refine r_anyB ?_ | with_reducible refine r_eqT ?_ | with_reducible refine r_eqL ?_ | with_reducible refine r_neT ?_ | with_reducible refine r_neL ?_ | with_reducible refine r_neLn ?_ | with_reducible refine r_retN ?_ | with_reducible refine r_fz ?_ | with_reducible refine r_lenF ?_ | with_reducible refine r_tupF ?_ | with_reducible refine r_slF ?_ | with_reducible refine r_chain ?_ | with_reducible refine r_chC ?_ | ((with_reducible apply r_var); exact rfl; exact rfl) | ((with_reducible apply r_callH); exact r_hasV rfl rfl) | ((with_reducible apply r_own); exact rfl; exact rfl; exact rfl) | ((with_reducible apply r_mul); (first | exact mOkL (by decide) (by decide) | exact mOkR (by decide) (by decide) | assumption | (refine mOkL ?_ ?_ <;> omega) | (refine mOkR ?_ ?_ <;> omega))) | ((with_reducible apply r_div); (first | exact dOk64 (by decide) (by decide) | assumption | (refine dOk64 ?_ ?_ <;> omega))) | ((with_reducible apply r_mod); first | decide | omega) | ((with_reducible apply r_pow); exact ⟨by decide, by decide, by decide⟩) | ((with_reducible apply r_and1); exact Nat.le_of_ble_eq_true rfl; rfl; (try dsimp only [List.set_cons_zero, List.set_cons_succ])) | ((with_reducible apply r_and2); exact Nat.le_of_ble_eq_true rfl; exact Nat.le_of_ble_eq_true rfl; rfl; rfl; (try dsimp only [List.set_cons_zero, List.set_cons_succ])) | ((with_reducible apply r_and0); exact Nat.le_of_ble_eq_true rfl; (try dsimp only [List.set_cons_zero, List.set_cons_succ])) | ((with_reducible apply r_andS); exact Nat.le_of_ble_eq_true rfl) | ((with_reducible apply r_andI); rfl) | ((with_reducible apply r_fzI); (first | rfl | assumption | exact imm_ints _)) | ((with_reducible apply r_fzL); (first | rfl | exact imm_ints _ | assumption)) | ((with_reducible apply r_immL); (first | rfl | exact imm_ints _ | assumption)) | ((with_reducible apply r_vfzL); exact rfl; (first | rfl | exact imm_ints _ | assumption)) | ((with_reducible apply r_vfzP); exact rfl; (first | rfl | assumption)) | ((with_reducible apply r_vfzF); exact rfl; (first | rfl | exact imm_ints _ | assumption)) | ((with_reducible apply r_chV); exact rfl; exact rfl) | ((with_reducible apply r_popAt); exact r_isLst rfl rfl) | ((with_reducible apply r_gNm); exact Nat.le_of_ble_eq_true rfl; (first | rfl | assumption); exact rfl) | ((with_reducible apply r_oSV); exact rfl; exact rfl) | ((with_reducible apply r_callS); exact rfl) | ((with_reducible apply r_append); exact rfl; exact rfl) | ((with_reducible apply r_wlist); exact rfl; exact rfl; exact rfl) | (dsimp only [List.set_cons_zero, List.set_cons_succ, SV.put, unS]))))

theorem seqI_get {ns : List Int} {r : Int} (h0 : 0 ≤ r) (h1 : r < ns.length) : ∃ z, seqIndex? r (ilD ns).length = some r.toNat ∧ (ilD ns)[r.toNat]? = some (.int z) ∧ ns[r.toNat]? = some z := by
  have hr : r.toNat < ns.length := by omega
  exact ⟨ns[r.toNat], seqI h0 (by rw [ilD_len]; exact h1), ilD_get (List.getElem?_eq_getElem hr), List.getElem?_eq_getElem hr⟩
abbrev lawTail : WS :=
  (wsSeq (wsIf (wtOr (wB (w2 fNe (wCall S_heap_of (waCons (wBf bTup (waCons (wVar 7) waNil)) waNil)) (wVar 5))) (wtOr (wB (w2 fNotB (wCall S_is_heap (waCons (wVar 5) waNil)) (wC (.bool true)))) (wB (w2 fNe (wCall S_spread (waCons (wVar 5) waNil)) (w2 fSub (w2 fIx (wVar 5) (wNeg (wC (.int 1)))) (w2 fIx (wVar 5) (wC (.int 0)))))))) (wsRetI (wC (.bool false))) wsNil)
  (wsSeq (wsSetI 8 (w2 fAdd (wC (.int 1)) (wCallH S__law_draw 1 (waCons (wC (.int 60)) waNil))))
  (wsSeq (wsIf (wB (w2 fNe (wCall S_power_sums (waCons (wVar 5) (waCons (wVar 8) waNil))) (wBf bTup (waCons (wLc (wiR2 (waCons (wC (.int 1)) (waCons (w2 fAdd (wVar 8) (wC (.int 1))) waNil))) (gNm 9) wtYes (wCall S__law_sum (waCons (wVar 5) (waCons (wVar 9) waNil))) [9]) waNil)))) (wsRetI (wC (.bool false))) wsNil)
  (wsSeq (wsFor (wiTup (wTup (waCons (wC (.int 0)) (waCons (wC (.int 1)) (waCons (wCallH S__law_draw 1 (waCons (wC (.int 61)) waNil)) (waCons (wC (.int 60)) waNil)))))) (gNm 9) (wsSeq (wsSetI 10 (wBf bSum (waCons (wLc (wiTup (wVar 5)) (gNm 11) wtYes (wCall S__law_taken (waCons (wVar 11) (waCons (wVar 9) waNil))) [11]) waNil)))
  (wsIf (wtOr (wB (w2 fNe (wCall S_power_sum (waCons (wVar 5) (waCons (wVar 9) waNil))) (wCall S__law_sum (waCons (wVar 5) (waCons (wVar 9) waNil))))) (wB (w2 fNe (wCall S_taken_sum (waCons (wVar 5) (waCons (wVar 9) waNil))) (wVar 10)))) (wsRetI (wC (.bool false))) wsNil)))
  (wsSeq (wsSetI 12 (wFz (wLst (waCons (wTup waNil) (waCons (w2 fAdd (wVar 5) (wTup (waCons (wC (.int 100001)) waNil))) (waCons (w2 fAdd (wTup (waCons (wNeg (wC (.int 100001))) waNil)) (wVar 5)) (waCons (wFz (wBf bLst (waCons (wVar 5) waNil))) (waCons (w2 fMulT (wTup (waCons (wC (.int 0)) waNil)) (wC (.int 41))) (waCons (wTup (waCons (wC (.bool true)) waNil)) (waCons (wTup (waCons (wC .none) waNil)) (waCons (wC .none) (waCons (wC (.str "0")) (waCons (wC (.int 3)) (waCons (wTup (waCons (wC (.int 2)) (waCons (wC (.int 1)) waNil))) waNil))))))))))))))
  (wsSeq (wsIf (wB (w2 fNe (wLc (wiList (wVar 12)) (gNm 11) wtYes (wCall S_is_heap (waCons (wVar 11) waNil)) [11]) (w2 fMul (wLst (waCons (wC (.bool false)) waNil)) (wC (.int 11))))) (wsRetI (wC (.bool false))) wsNil)
  (wsSeq (wsAsg (gTp (ggCons (gNm 13) (ggCons (gNm 14) ggNil))) (wTup (waCons (wFz (wCallH S__law_some 1 (waCons (wVar 12) waNil))) (waCons (wFz (wCallH S__law_some 1 (waCons (wFz (wLst (waCons (wNeg (wC (.int 1))) (waCons (wC (.int 61)) (waCons (wC (.bool true)) (waCons (wC .none) (waCons (wC (.str "2")) waNil))))))) waNil))) waNil))))
  (wsSeq (wsSetI 15 (wFz (wCallH S__law_some 1 (waCons (wFz (wLst (waCons (wTup waNil) (waCons (wTup (waCons (wC (.int 100001)) waNil)) (waCons (w2 fMulT (wTup (waCons (wC (.int 0)) waNil)) (wC (.int 41))) (waCons (wTup (waCons (wC (.bool true)) waNil)) (waCons (wTup (waCons (wC .none) waNil)) (waCons (wC .none) (waCons (wTup (waCons (wC (.int 0)) (waCons (wC (.str "1")) waNil))) (waCons (wTup (waCons (wNeg (wC (.int 100001))) (waCons (wC (.int 0)) waNil))) waNil)))))))))) waNil))))
  (wsSeq (wsLam 16 17 0)
  (wsSeq (wsLamA 16 17 1)
  (wsSeq (wsLamA 16 17 2)
  (wsSeq (wsLamA 16 17 3)
  (wsSeq (wsLamA 16 17 4)
  (wsSeq (wsLamA 16 17 5)
  (wsSeq (wsLamA 16 17 6)
  (wsSeq (wsLamA 16 17 7)
  (wsIf (wB (w2 fNe (wErrs 1 16 lw_law (wordOf flags) (knOf errs)) (wLst (waCons (wC (.int 1)) (waCons (wC (.int 0)) (waCons (wC (.int 2)) (waCons (wC (.int 0)) (waCons (wC (.int 2)) (waCons (wC (.int 0)) (waCons (wC (.int 2)) (waCons (wC (.int 0)) waNil))))))))))) (wsRetI (wC (.bool false))) wsNil)))))))))))))))))
abbrev lawOdd : WS :=
  (wsSeq (wsSetI 12 (wFz (wLst (waCons (wTup waNil) (waCons (w2 fAdd (wVar 5) (wTup (waCons (wC (.int 100001)) waNil))) (waCons (w2 fAdd (wTup (waCons (wNeg (wC (.int 100001))) waNil)) (wVar 5)) (waCons (wFz (wBf bLst (waCons (wVar 5) waNil))) (waCons (w2 fMulT (wTup (waCons (wC (.int 0)) waNil)) (wC (.int 41))) (waCons (wTup (waCons (wC (.bool true)) waNil)) (waCons (wTup (waCons (wC .none) waNil)) (waCons (wC .none) (waCons (wC (.str "0")) (waCons (wC (.int 3)) (waCons (wTup (waCons (wC (.int 2)) (waCons (wC (.int 1)) waNil))) waNil))))))))))))))
  (wsSeq (wsIf (wB (w2 fNe (wLc (wiList (wVar 12)) (gNm 11) wtYes (wCall S_is_heap (waCons (wVar 11) waNil)) [11]) (w2 fMul (wLst (waCons (wC (.bool false)) waNil)) (wC (.int 11))))) (wsRetI (wC (.bool false))) wsNil)
  (wsSeq (wsAsg (gTp (ggCons (gNm 13) (ggCons (gNm 14) ggNil))) (wTup (waCons (wFz (wCallH S__law_some 1 (waCons (wVar 12) waNil))) (waCons (wFz (wCallH S__law_some 1 (waCons (wFz (wLst (waCons (wNeg (wC (.int 1))) (waCons (wC (.int 61)) (waCons (wC (.bool true)) (waCons (wC .none) (waCons (wC (.str "2")) waNil))))))) waNil))) waNil))))
  (wsSeq (wsSetI 15 (wFz (wCallH S__law_some 1 (waCons (wFz (wLst (waCons (wTup waNil) (waCons (wTup (waCons (wC (.int 100001)) waNil)) (waCons (w2 fMulT (wTup (waCons (wC (.int 0)) waNil)) (wC (.int 41))) (waCons (wTup (waCons (wC (.bool true)) waNil)) (waCons (wTup (waCons (wC .none) waNil)) (waCons (wC .none) (waCons (wTup (waCons (wC (.int 0)) (waCons (wC (.str "1")) waNil))) (waCons (wTup (waCons (wNeg (wC (.int 100001))) (waCons (wC (.int 0)) waNil))) waNil)))))))))) waNil))))
  (wsSeq (wsLam 16 17 0)
  (wsSeq (wsLamA 16 17 1)
  (wsSeq (wsLamA 16 17 2)
  (wsSeq (wsLamA 16 17 3)
  (wsSeq (wsLamA 16 17 4)
  (wsSeq (wsLamA 16 17 5)
  (wsSeq (wsLamA 16 17 6)
  (wsSeq (wsLamA 16 17 7)
  (wsIf (wB (w2 fNe (wErrs 1 16 lw_law (wordOf flags) (knOf errs)) (wLst (waCons (wC (.int 1)) (waCons (wC (.int 0)) (waCons (wC (.int 2)) (waCons (wC (.int 0)) (waCons (wC (.int 2)) (waCons (wC (.int 0)) (waCons (wC (.int 2)) (waCons (wC (.int 0)) waNil))))))))))) (wsRetI (wC (.bool false))) wsNil)))))))))))))
theorem law_odd {ns hp : List Int} {h5 d2 d3 d4 : D} {a6 a7 a8 a9 a10 a11 a12 a13 a14 a15 a16 : SV} {K bk : Rho → Prop} (HP : HpL hp) (hne : hp ≠ []) (hh5 : HandOk h5) (k : ∀ ρ', Lap ns ρ' → K ρ') :
    lawOdd [.sc ns, .ow h5, .ow d2, .ow d3, .ow d4, .ow (.tuple (ilD hp)), a6, a7, a8, a9, a10, a11, a12, a13, a14, a15, a16, .tb] ⟨K, fun d _ => d = .bool true, bk, K, fun _ _ => False⟩ := by
  have z40 : 100 ≤ sizeLine := by decide
  have hl := HP.l2
  have him : imm (.tuple (ilD hp)) = true := imm_ints hp
  have l0 : (ilD hp).length ≤ 40 := by rw [ilD_len]; exact hl
  unfold lawOdd
  bv_omega
  refine r_addT (by show (ilD hp).length + 1 ≤ sizeLine; omega) ?_
  bv_omega
  refine r_addT (by show 1 + (ilD hp).length ≤ sizeLine; omega) ?_
  bv_omega
  refine ⟨rfl, by simp, ⟨by decide, by decide, by decide⟩, ?_⟩
  bv_omega
  refine r_fzL (odd_imm (ns := hp)) ⟨⟨show (12 : Nat) < 18 by decide, odd_imm (ns := hp)⟩, ?_⟩
  bv_omega
  refine r_ifNoU 11 (fun qb hq => ?_) ?_
  · ac_rfl
    refine lc_map (fun d => .bool (isHeap d)) (show (11 : Nat) < 18 by decide) rfl (oddL hp) [] (show 0 + 11 ≤ sizeLine by omega) (immL_mem odd_imm) (fun d m q' hq' => ?_) ?_
    · ac_rfl
      exact s_is_heap (immL_mem odd_imm d m) hq'
    · rw [show [] ++ (oddL hp).map (fun d => D.bool (isHeap d)) = blD (List.replicate 11 false) from by
        rw [List.nil_append, List.map_congr_left (g := fun _ => D.bool false) fun d m => by rw [odd_no hl d m]]
        rfl]
      ac_rfl
      refine ⟨rfl, ⟨by decide, by decide⟩, by decide, ?_⟩
      rw [show (List.replicate (Int.toNat 11) [D.bool false]).flatten = blD (List.replicate 11 false) from rfl]
      refine r_neBS ?_
      ac_rfl
      exact hq
  bv_omega
  refine d_some hh5 (List.cons_ne_nil _ _) (show 11 < 2 ^ 60 by decide) (immL_mem odd_imm) fun non h6 hh6 hnon => ?_
  have n1 := immL_mem odd_imm _ hnon
  have n2 := odd_no hl _ hnon
  bv_omega
  refine d_some hh6 (List.cons_ne_nil _ _) (show 5 < 2 ^ 60 by decide) (immL_mem rfl) fun bad h7 hh7 hbad => ?_
  have b1 := immL_mem rfl _ hbad
  have b2 : wthn bad 0 60 = false := by
    simp only [List.mem_cons, List.not_mem_nil, or_false] at hbad
    rcases hbad with rfl | rfl | rfl | rfl | rfl <;> decide
  clear hbad
  bv_omega
  refine And.intro (show (imm non && (imm bad && true)) = true by rw [n1, b1]; rfl) ?_
  bv_omega
  refine ⟨rfl, by simp, ⟨by decide, by decide, by decide⟩, ?_⟩
  bv_omega
  refine d_some hh7 (List.cons_ne_nil _ _) (show 8 < 2 ^ 60 by decide) (immL_mem rfl) fun wr h8 hh8 hwr => ?_
  have w1 := immL_mem rfl _ hwr
  have w2 : isItems wr = false := by
    simp only [List.mem_cons, List.not_mem_nil, or_false] at hwr
    rcases hwr with rfl | rfl | rfl | rfl | rfl | rfl | rfl | rfl <;> decide +kernel
  clear hwr
  bv_omega
  refine And.intro ⟨show (15 : Nat) < 18 by decide, w1⟩ ?_
  bv_omega
  refine r_lam rfl (Nat.le_of_ble_eq_true rfl) (by decide) fun f0 c0 => ?_
  bv_omega
  refine r_lamA rfl (by decide) rfl (by show 1 < sizeLine; decide) fun f1 c1 => ?_
  bv_omega
  refine r_lamA rfl (by decide) rfl (by show 2 < sizeLine; decide) fun f2 c2 => ?_
  bv_omega
  refine r_lamA rfl (by decide) rfl (by show 3 < sizeLine; decide) fun f3 c3 => ?_
  bv_omega
  refine r_lamA rfl (by decide) rfl (by show 4 < sizeLine; decide) fun f4 c4 => ?_
  bv_omega
  refine r_lamA rfl (by decide) rfl (by show 5 < sizeLine; decide) fun f5 c5 => ?_
  bv_omega
  refine r_lamA rfl (by decide) rfl (by show 6 < sizeLine; decide) fun f6 c6 => ?_
  bv_omega
  refine r_lamA rfl (by decide) rfl (by show 7 < sizeLine; decide) fun f7 c7 => ?_
  ac_rfl
  have kn0 : knOf errs "NoHeap" = true := by decide +kernel
  have kn1 : knOf errs "NoNumbers" = true := by decide +kernel
  have kn2 : knOf errs "NoNumber" = true := by decide +kernel
  have w00 : wordOf flags "NoHeap" = 0 := by decide +kernel
  have w01 : wordOf flags "NoNumbers" = 1 := by decide +kernel
  have w02 : wordOf flags "NoNumber" = 2 := by decide +kernel
  refine r_errs rfl (by show 8 ≤ 900; decide) ?_
  refine r_err rfl rfl rfl rfl ?_
  rw [rhoL00]
  dsimp only [toL]
  bv_omega
  refine e_heap_of w1 w2 ?_
  refine r_onPa rfl (And.intro kn1 ?_)
  rw [w01]
  try dsimp only [List.set_cons_zero, List.set_cons_succ, SV.put]
  refine r_err rfl rfl rfl rfl ?_
  rw [rhoL00]
  dsimp only [toL]
  bv_omega
  refine e_power_sumH n1 n2 ?_
  refine r_onPa rfl (And.intro kn0 ?_)
  rw [w00]
  try dsimp only [List.set_cons_zero, List.set_cons_succ, SV.put]
  refine r_err rfl rfl rfl rfl ?_
  rw [rhoL00]
  dsimp only [toL]
  bv_omega
  refine e_power_sumN HP b2 ?_
  refine r_onPa rfl (And.intro kn2 ?_)
  rw [w02]
  try dsimp only [List.set_cons_zero, List.set_cons_succ, SV.put]
  refine r_err rfl rfl rfl rfl ?_
  rw [rhoL00]
  dsimp only [toL]
  bv_omega
  refine e_power_sumsH n1 n2 ?_
  refine r_onPa rfl (And.intro kn0 ?_)
  rw [w00]
  try dsimp only [List.set_cons_zero, List.set_cons_succ, SV.put]
  refine r_err rfl rfl rfl rfl ?_
  rw [rhoL00]
  dsimp only [toL]
  bv_omega
  refine d_some hh8 (List.cons_ne_nil _ _) (show 3 < 2 ^ 60 by decide) (immL_mem rfl) fun z h9 hh9 hz => ?_
  have z1 := immL_mem rfl _ hz
  have z2 : wthn z 1 60 = false := by
    simp only [List.mem_cons, List.not_mem_nil, or_false] at hz
    rcases hz with rfl | rfl | rfl <;> decide
  clear hz
  bv_omega
  refine e_power_sumsN HP z2 ?_
  refine r_onPa rfl (And.intro kn2 ?_)
  rw [w02]
  try dsimp only [List.set_cons_zero, List.set_cons_succ, SV.put]
  refine r_err rfl rfl rfl rfl ?_
  rw [rhoL00]
  dsimp only [toL]
  bv_omega
  refine e_takenH n1 n2 ?_
  refine r_onPa rfl (And.intro kn0 ?_)
  rw [w00]
  try dsimp only [List.set_cons_zero, List.set_cons_succ, SV.put]
  refine r_err rfl rfl rfl rfl ?_
  rw [rhoL00]
  dsimp only [toL]
  bv_omega
  refine e_takenN HP b2 ?_
  refine r_onPa rfl (And.intro kn2 ?_)
  rw [w02]
  try dsimp only [List.set_cons_zero, List.set_cons_succ, SV.put]
  refine r_err rfl rfl rfl rfl ?_
  rw [rhoL00]
  dsimp only [toL]
  bv_omega
  refine e_spread n1 n2 ?_
  refine r_onPa rfl (And.intro kn0 ?_)
  rw [w00]
  try dsimp only [List.set_cons_zero, List.set_cons_succ, SV.put]
  refine r_err0 ?_
  bv_omega
  refine r_neLS (x := [1, 0, 2, 0, 2, 0, 2, 0]) ?_
  ac_rfl
  exact k _ ⟨h9, _, _, _, _, _, _, _, _, _, _, _, _, _, _, _, rfl, hh9⟩
theorem law_rest {ns hp nm : List Int} {h5 d2 d3 d4 : D} {a6 a8 a9 a10 a11 a12 a13 a14 a15 a16 : SV} {K bk : Rho → Prop} (HP : HpL hp) (hne : hp ≠ []) (pm : nm.Perm hp) (nmi : isItems (.tuple (ilD nm)) = true) (hh5 : HandOk h5) (k : ∀ ρ', Lap ns ρ' → K ρ') :
    lawTail [.sc ns, .ow h5, .ow d2, .ow d3, .ow d4, .ow (.tuple (ilD hp)), a6, .ow (.list (ilD nm)), a8, a9, a10, a11, a12, a13, a14, a15, a16, .tb] ⟨K, fun d _ => d = .bool true, bk, K, fun _ _ => False⟩ := by
  have z40 : 100 ≤ sizeLine := by decide
  have hl := HP.l2
  have him : imm (.tuple (ilD hp)) = true := imm_ints hp
  unfold lawTail
  bv_omega
  refine r_ifNo (fun qb hq => ?_) ?_
  · ac_rfl
    refine s_heap_of (imm_ints nm) (fun z => absurd nmi (by rw [z]; exact Bool.false_ne_true)) fun xs ms e _ hp' hs => ?_
    have e2 : nm = xs := by
      have := congrArg (fun d => match d with | D.tuple ds => intsOf ds | _ => none) e
      simp only [ilD, intsOf_map, Option.some.injEq] at this
      exact this
    subst e2
    have e3 : ms = hp := sorted_self (hp'.trans pm) hs HP.s
    subst e3
    ac_rfl
    refine s_is_heap him ?_
    rw [HP.is]
    ac_rfl
    refine s_spread HP fun he => ?_
    ac_rfl
    refine r_ixT (atI_lastD he) ?_
    ac_rfl
    refine r_ixT (atI_nat (i := 0) (ilD_get (by rw [← List.head?_eq_getElem?, List.head?_eq_some_head he]))) ?_
    ac_rfl
    exact hq
  bv_omega
  refine d_draw hh5 (by decide) (by decide) fun r h6 hh6 r0 r1 => ?_
  bv_omega
  refine r_ifNoU 9 (fun qb hq => ?_) ?_
  · ac_rfl
    refine s_power_sums HP ⟨by omega, by omega⟩ ?_
    ac_rfl
    refine And.intro ⟨by decide, by decide, by omega, by omega⟩ ?_
    rw [show (1 + r + 1 - 1).toNat = (1 + r).toNat by omega]
    ac_rfl
    refine lc_rng (fun j => .int (pSum hp (1 + (j : Nat)))) (show (9 : Nat) < 18 by decide) rfl (by omega) (fun j hj q' hq' => ?_) ?_
    · ac_rfl
      exact s_law_sum HP.l2 HP.b ⟨by omega, by omega⟩ hq'
    · rw [map_il]
      ac_rfl
      exact hq
  bv_omega
  refine d_draw hh6 (by decide) (by decide) fun r2 h7 hh7 p0 p1 => ?_
  bv_omega
  refine r_loop (I := fun ρ => ∃ a9 a10 a11, ρ = [.sc ns, .ow h7, .ow d2, .ow d3, .ow d4, .ow (.tuple (ilD hp)), a6, .ow (.list (ilD nm)), .ow (.int (1 + r)), a9, a10, a11, a12, a13, a14, a15, a16, .tb]) (fun ρ hI => ?_) _ (fun d hd => ?_) (fun d hd ρ K' hI kk => ?_) _ ⟨_, _, _, rfl⟩
  · obtain ⟨a9, a10, a11, rfl⟩ := hI
    exact law_odd HP hne hh7 k
  · simp only [List.mem_cons, List.not_mem_nil, or_false] at hd
    rcases hd with rfl | rfl | rfl | rfl <;> rfl
  · obtain ⟨a9, a10, a11, rfl⟩ := hI
    obtain ⟨kz, rfl, k0, k1⟩ : ∃ z, d = .int z ∧ 0 ≤ z ∧ z ≤ 60 := by
      simp only [List.mem_cons, List.not_mem_nil, or_false] at hd
      rcases hd with rfl | rfl | rfl | rfl <;> exact ⟨_, rfl, by omega, by omega⟩
    bv_omega
    refine lc_ints (fun z => .int (wayF z kz.toNat)) (show (11 : Nat) < 18 by decide) rfl (by omega) (fun z m q' hq => ?_) ?_
    · have := HP.b z m
      bv_omega
      exact s_law_taken ⟨by omega, by omega⟩ ⟨k0, k1⟩ hq
    · rw [map_il]
      bv_omega
      rw [show (List.map (fun z => wayF z kz.toNat) hp).sum = tSum hp kz from rfl]
      refine r_ifNo (fun qb hq => ?_) ?_
      · ac_rfl
        refine s_power_sum HP ⟨k0, k1⟩ ?_
        ac_rfl
        refine s_law_sum HP.l2 HP.b ⟨k0, by omega⟩ ?_
        ac_rfl
        refine s_taken HP ⟨k0, k1⟩ ?_
        ac_rfl
        exact hq
      · bv_omega
        exact kk _ ⟨_, _, _, rfl⟩
theorem vc_law : ∀ ns, okS ns → wb_law (rhoLaw N_law ns) ⟨fun _ => False, fun d _ => d = .bool true, fun _ => False, fun _ => False, fun _ _ => False⟩ := by
  have z40 : 100 ≤ sizeLine := by decide
  intro ns _
  unfold wb_law
  rw [show rhoLaw N_law ns = [.sc ns, .un, .un, .un, .un, .un, .un, .un, .un, .un, .un, .un, .un, .un, .un, .un, .un, .tb] from rfl]
  ac_rfl
  refine d_hand fun h hh => ?_
  ac_rfl
  refine And.intro ⟨by decide, by decide⟩ ?_
  refine r_loop (I := Lap ns) (fun ρ _ => ?_) _ (fun d hd => rng_imm hd) (fun d hd ρ K hI k => ?_) _ ⟨h, _, _, _, _, _, _, _, _, _, _, _, _, _, _, _, rfl, hh⟩
  · ac_rfl
  obtain ⟨i, _, rfl⟩ := List.mem_map.mp hd
  obtain ⟨h, a2, a3, a4, a5, a6, a7, a8, a9, a10, a11, a12, a13, a14, a15, a16, rfl, hh⟩ := hI
  clear hd
  ac_rfl
  refine d_some hh (by simp) (by show 4 < 2 ^ 60; decide) (immL_mem rfl) fun lh h1 hh1 hm => ?_
  obtain ⟨lo, hi, rfl, b1, b2, b3⟩ : ∃ lo hi, lh = .tuple [.int lo, .int hi] ∧ -100000 ≤ lo ∧ lo ≤ hi ∧ hi ≤ 100000 := by
    simp only [List.mem_cons, List.not_mem_nil, or_false] at hm
    rcases hm with rfl | rfl | rfl | rfl <;> exact ⟨_, _, rfl, by omega, by omega, by omega⟩
  clear hm
  ac_rfl
  refine d_draw hh1 (by decide) (by decide) fun r1 h2 hh2 r10 r11 => ?_
  ac_rfl
  refine d_some hh2 (by simp) (by show 4 < 2 ^ 60; decide) (immL_mem rfl) fun m h3 hh3 hm => ?_
  obtain ⟨m, rfl, m1, m2⟩ : ∃ z, m = .int z ∧ 1 ≤ z ∧ z ≤ 40 := by
    simp only [List.mem_cons, List.not_mem_nil, or_false] at hm
    rcases hm with rfl | rfl | rfl | rfl <;> exact ⟨_, rfl, by omega, by omega⟩
  clear hm
  ac_rfl
  refine s_law_heap hh3 ⟨m1, by omega⟩ ⟨by omega, b2, by omega⟩ fun hp h4 hh4 pl pb ps => ?_
  have HP : HpL hp := ⟨by omega, by omega, fun z hz => by have := pb z hz; omega, ps⟩
  have hne : hp ≠ [] := fun z => by have := HP.l1; rw [z] at this; cases this
  have hl := HP.l2
  have him : imm (.tuple (ilD hp)) = true := imm_ints hp
  ac_rfl
  refine And.intro ⟨Nat.le_of_ble_eq_true rfl, him⟩ ?_
  ac_rfl
  refine And.intro ⟨⟨Nat.le_of_ble_eq_true rfl, Nat.le_of_ble_eq_true rfl⟩, by show (flat (.list (ilD hp))) = true; exact imm_ints hp, rfl⟩ ?_
  ac_rfl
  refine r_whileM (fun n ρ => ∃ (lf nm : List Int) (h' : D), ρ = [.sc ns, .ow h', .ow (.int (0 + (i : Int))), .ow (.int lo), .ow (.int hi), .ow (.tuple (ilD hp)), .ow (.list (ilD lf)), .ow (.list (ilD nm)), a8, a9, a10, a11, a12, a13, a14, a15, a16, .tb] ∧ HandOk h' ∧ n = lf.length ∧ (nm ++ lf).Perm hp) ⟨hp, [], h4, rfl, hh4, rfl, .refl _⟩ fun n ρ K hI kk => ?_
  obtain ⟨lf, nm, h5, rfl, hh5, rfl, pm⟩ := hI
  have pl2 := pm.length_eq
  rw [List.length_append] at pl2
  ac_rfl
  by_cases he : lf = []
  · subst he
    rw [decide_eq_true rfl]
    rw [List.append_nil] at pm
    have nl : nm.length ≤ 40 := by rw [pm.length_eq]; exact hl
    have nmi : isItems (.tuple (ilD nm)) = true := by rw [isItems_perm pm]; exact HP.items
    and_intros
    exact law_rest (ns := ns) (hp := hp) (nm := nm) (h5 := h5) (d2 := .int (0 + (i : Int))) (d3 := .int lo) (d4 := .int hi) (a6 := .ow (.list (ilD []))) HP hne pm nmi hh5 k
  · have lp : 0 < lf.length := List.length_pos_iff.mpr he
    rw [decide_eq_false he]
    ac_rfl
    refine d_draw hh5 (by rw [ilD_len]; omega) (by rw [ilD_len]; omega) fun r h6 hh6 r0 r1 => ?_
    rw [ilD_len] at r1
    ac_rfl
    obtain ⟨z, e1, e2, e3⟩ := seqI_get (ns := lf) r0 r1
    refine And.intro ⟨by omega, by omega⟩ ⟨_, _, e1, e2, rfl, ?_⟩
    ac_rfl
    refine And.intro ⟨rfl, by rw [ilD_len]; omega⟩ ?_
    rw [eraseIdx_ilD, show [D.int z] = ilD [z] from rfl, ilD_app]
    refine kk _ _ ?_ ⟨_, _, h6, rfl, hh6, rfl, ?_⟩
    · rw [List.length_eraseIdx]
      split <;> omega
    · rw [List.append_assoc]
      exact (List.Perm.append_left nm (perm_pop e3)).trans pm
end LW

namespace LW
open PySem PySem.Spec PyProof.Rows L2 L3
theorem fx {K : PySem.W.Frag} {mg : Str → Option Value} {h : Heap} (X : K.In h) (G : h.Ns mainGlobals mg) (c : He.SaysD fa fn K) : Fx K mg where
  b_ValueError := He.free_ok X G (c.fact 33 (f := .free "ValueError") rfl)
  b_abs := He.free_ok X G (c.fact 34 (f := .free "abs") rfl)
  b_all := He.free_ok X G (c.fact 35 (f := .free "all") rfl)
  b_bool := He.free_ok X G (c.fact 36 (f := .free "bool") rfl)
  b_int := He.free_ok X G (c.fact 37 (f := .free "int") rfl)
  b_isinstance := He.free_ok X G (c.fact 38 (f := .free "isinstance") rfl)
  b_len := He.free_ok X G (c.fact 39 (f := .free "len") rfl)
  b_list := He.free_ok X G (c.fact 40 (f := .free "list") rfl)
  b_min := He.free_ok X G (c.fact 41 (f := .free "min") rfl)
  b_range := He.free_ok X G (c.fact 42 (f := .free "range") rfl)
  b_sorted := He.free_ok X G (c.fact 43 (f := .free "sorted") rfl)
  b_sum := He.free_ok X G (c.fact 44 (f := .free "sum") rfl)
  b_tuple := He.free_ok X G (c.fact 45 (f := .free "tuple") rfl)
  i_MOST_HEAP := He.int_ok X G (c.fact 46 (f := .int "MOST_HEAP" 40) rfl)
  i_MOST_ITEM := He.int_ok X G (c.fact 47 (f := .int "MOST_ITEM" 100000) rfl)
  i_MOST_POWER := He.int_ok X G (c.fact 48 (f := .int "MOST_POWER" 60) rfl)
  e_LikeError := err_of X G (c.fact 25 (f := .glo "LikeError") rfl) (c.fact 29 (f := .exc "LikeError") rfl)
  e_NoHeap := err_of X G (c.fact 26 (f := .glo "NoHeap") rfl) (c.fact 30 (f := .exc "NoHeap") rfl)
  e_NoNumbers := err_of X G (c.fact 27 (f := .glo "NoNumbers") rfl) (c.fact 31 (f := .exc "NoNumbers") rfl)
  e_NoNumber := err_of X G (c.fact 28 (f := .glo "NoNumber") rfl) (c.fact 32 (f := .exc "NoNumber") rfl)
  d_is_integer := let ⟨fd, D⟩ := c.def_ 0 (d := dd "is_integer" 9) rfl; ⟨_, fd, D, He.glo_ok X G (c.fact 0 (f := .glo "is_integer") rfl)⟩
  d_is_within := let ⟨fd, D⟩ := c.def_ 1 (d := dd "is_within" 10) rfl; ⟨_, fd, D, He.glo_ok X G (c.fact 1 (f := .glo "is_within") rfl)⟩
  d_are_items := let ⟨fd, D⟩ := c.def_ 2 (d := dd "are_items" 11) rfl; ⟨_, fd, D, He.glo_ok X G (c.fact 2 (f := .glo "are_items") rfl)⟩
  d_is_heap := let ⟨fd, D⟩ := c.def_ 3 (d := dd "is_heap" 12) rfl; ⟨_, fd, D, He.glo_ok X G (c.fact 3 (f := .glo "is_heap") rfl)⟩
  d_check_heap := let ⟨fd, D⟩ := c.def_ 4 (d := dd "check_heap" 13) rfl; ⟨_, fd, D, He.glo_ok X G (c.fact 4 (f := .glo "check_heap") rfl)⟩
  d_check_number := let ⟨fd, D⟩ := c.def_ 5 (d := dd "check_number" 14) rfl; ⟨_, fd, D, He.glo_ok X G (c.fact 5 (f := .glo "check_number") rfl)⟩
  d_as_heap := let ⟨fd, D⟩ := c.def_ 6 (d := dd "as_heap" 15) rfl; ⟨_, fd, D, He.glo_ok X G (c.fact 6 (f := .glo "as_heap") rfl)⟩
  d_heap_of := let ⟨fd, D⟩ := c.def_ 7 (d := dd "heap_of" 16) rfl; ⟨_, fd, D, He.glo_ok X G (c.fact 7 (f := .glo "heap_of") rfl)⟩
  d_raw_power := let ⟨fd, D⟩ := c.def_ 8 (d := dd "raw_power" 17) rfl; ⟨_, fd, D, He.glo_ok X G (c.fact 8 (f := .glo "raw_power") rfl)⟩
  d_raw_sum := let ⟨fd, D⟩ := c.def_ 9 (d := dd "raw_sum" 18) rfl; ⟨_, fd, D, He.glo_ok X G (c.fact 9 (f := .glo "raw_sum") rfl)⟩
  d_power_sum := let ⟨fd, D⟩ := c.def_ 10 (d := dd "power_sum" 19) rfl; ⟨_, fd, D, He.glo_ok X G (c.fact 10 (f := .glo "power_sum") rfl)⟩
  d_power_sums := let ⟨fd, D⟩ := c.def_ 11 (d := dd "power_sums" 20) rfl; ⟨_, fd, D, He.glo_ok X G (c.fact 11 (f := .glo "power_sums") rfl)⟩
  d_ways_to_take := let ⟨fd, D⟩ := c.def_ 12 (d := dd "ways_to_take" 21) rfl; ⟨_, fd, D, He.glo_ok X G (c.fact 12 (f := .glo "ways_to_take") rfl)⟩
  d_raw_taken := let ⟨fd, D⟩ := c.def_ 13 (d := dd "raw_taken" 22) rfl; ⟨_, fd, D, He.glo_ok X G (c.fact 13 (f := .glo "raw_taken") rfl)⟩
  d_taken_sum := let ⟨fd, D⟩ := c.def_ 14 (d := dd "taken_sum" 23) rfl; ⟨_, fd, D, He.glo_ok X G (c.fact 14 (f := .glo "taken_sum") rfl)⟩
  d_spread := let ⟨fd, D⟩ := c.def_ 15 (d := dd "spread" 24) rfl; ⟨_, fd, D, He.glo_ok X G (c.fact 15 (f := .glo "spread") rfl)⟩
  d__law_hand := let ⟨fd, D⟩ := c.def_ 16 (d := dd "_law_hand" 26) rfl; ⟨_, fd, D, He.glo_ok X G (c.fact 16 (f := .glo "_law_hand") rfl)⟩
  d__law_draw := let ⟨fd, D⟩ := c.def_ 17 (d := dd "_law_draw" 27) rfl; ⟨_, fd, D, He.glo_ok X G (c.fact 17 (f := .glo "_law_draw") rfl)⟩
  d__law_some := let ⟨fd, D⟩ := c.def_ 18 (d := dd "_law_some" 28) rfl; ⟨_, fd, D, He.glo_ok X G (c.fact 18 (f := .glo "_law_some") rfl)⟩
  d__law_power := let ⟨fd, D⟩ := c.def_ 19 (d := dd "_law_power" 29) rfl; ⟨_, fd, D, He.glo_ok X G (c.fact 19 (f := .glo "_law_power") rfl)⟩
  d__law_sum := let ⟨fd, D⟩ := c.def_ 20 (d := dd "_law_sum" 30) rfl; ⟨_, fd, D, He.glo_ok X G (c.fact 20 (f := .glo "_law_sum") rfl)⟩
  d__law_heap := let ⟨fd, D⟩ := c.def_ 21 (d := dd "_law_heap" 31) rfl; ⟨_, fd, D, He.glo_ok X G (c.fact 21 (f := .glo "_law_heap") rfl)⟩
  d__law_errors := let ⟨fd, D⟩ := c.def_ 22 (d := dd "_law_errors" 32) rfl; ⟨_, fd, D, He.glo_ok X G (c.fact 22 (f := .glo "_law_errors") rfl)⟩
  d__law_taken := let ⟨fd, D⟩ := c.def_ 23 (d := dd "_law_taken" 33) rfl; ⟨_, fd, D, He.glo_ok X G (c.fact 23 (f := .glo "_law_taken") rfl)⟩
  d_law := let ⟨fd, D⟩ := c.def_ 24 (d := dd "law" 34) rfl; ⟨_, fd, D, He.glo_ok X G (c.fact 24 (f := .glo "law") rfl)⟩
theorem ef {K : PySem.W.Frag} {mg : Str → Option Value} {h : Heap} (X : K.In h) (G : h.Ns mainGlobals mg) (c : He.SaysD fa fn K) (m : exB errs K = true) : ErrF K mg errs (He.ga K "LikeError") :=
  errF_of X G m (c.fact 25 (f := .glo "LikeError") rfl) (AllL.mem (⟨(c.fact 26 (f := .glo "NoHeap") rfl), ⟨(c.fact 27 (f := .glo "NoNumbers") rfl), ⟨(c.fact 28 (f := .glo "NoNumber") rfl), trivial⟩⟩⟩)) (AllL.mem (⟨(c.fact 49 (f := .exm "NoHeap" "LikeError" true) rfl), ⟨(c.fact 53 (f := .exm "NoNumbers" "LikeError" true) rfl), ⟨(c.fact 57 (f := .exm "NoNumber" "LikeError" true) rfl), trivial⟩⟩⟩))
theorem at_law {w : World} {K : PySem.W.Frag} {mg : Str → Option Value} {fa0 : Addr} {h : Heap} (KX : K.In h) (G : h.Ns mainGlobals mg) (hmg : mg "law" = some (.ref fa0)) (c : He.SaysX fa fn [] tf (exB errs) w h K) : LamX.LawAtS PySem.Challenge.rw_powersalike_k00_whole_heaps_and_their_su w K (L2.CX (PySem.Challenge.rw_powersalike_k00_whole_heaps_and_their_su).prog w) 9 63 "script" mg fa0 h := by
  obtain ⟨fd, F⟩ := c.t.d.def_ 24 (d := dd "law" 34) rfl
  have e : fa0 = He.ga K "law" := by
    have := hmg.symm.trans (He.glo_ok KX G (c.t.d.fact 24 (f := .glo "law") rfl))
    cases this
    rfl
  subst e
  obtain ⟨oc, od, dV, kV, doc, pm, an, cdv, ct, osl, efd, lk, hcd, hD, hK⟩ := id F.ex
  obtain ⟨co, ec⟩ := He.codeIn_ref hcd
  have hco : fd.code = .ref co := by rw [efd, ← ec]
  have ecT : He.cT K ("law", none) = (co, He.tabOf K co) := by
    have e1 : He.codeOf K ("law", none) = co := He.codeOf_eq lk hco
    unfold He.cT
    rw [e1]
  have hmem : (("law", none) : He.Defn) ∈ tf := by decide
  refine ⟨fd, [He.cT K ("law", none)], spLaw K (He.tabOf K co) okS, fun p hp => ?_, fun p hp => ?_, fun p hp => ?_, fun s u => FunD.bindsA (ps := ["script"]) F (fun _ _ _ _ _ _ us hl => match us, hl with | [_], _ => rfl) s [u] rfl, fun H a ns hl hb hT hS => ⟨ns, a, rfl, hS, ?_, ⟨hl, hb⟩, fun _ => rfl⟩, fun base hB hG hTB => ?_⟩
  · rw [List.mem_singleton.mp hp]; exact c.empty _ hmem
  · rw [List.mem_singleton.mp hp]; exact c.out _ hmem
  · rw [List.mem_singleton.mp hp]; exact PySem.W.codeHd_of_K KX (c.hd _ hmem)
  · have := hT _ List.mem_cons_self
    rw [ecT] at this
    exact this
  · have tb := hTB _ List.mem_cons_self
    rw [ecT] at tb
    exact h_law (fx KX G c.t.d) (ef KX G c.t.d c.more) F tb hco vc_law
end LW
open PySem PySem.W PySem.Calls PyProof.Rows
theorem PySem.Challenge.cw_powersalike_k00_whole_heaps_and_their_su_holds : PySem.Challenge.rw_powersalike_k00_whole_heaps_and_their_su.Holds := by
  w_on; o_law
  refine HandSHeadRun.head_any (r := OpenLaw.row PySem.Challenge.rw_powersalike_k00_whole_heaps_and_their_su) (q := view (OpenLaw.row PySem.Challenge.rw_powersalike_k00_whole_heaps_and_their_su).prog [34]) (H := LW.hk) (ob := LW.ob) (M := 6000) (loose := LW.names) (d := HandSHeadRun.topDef (OpenLaw.row PySem.Challenge.rw_powersalike_k00_whole_heaps_and_their_su).prog 34) (kwd := []) LW.ob_eq
    (by kernel_rfl) (fun s => by kernel_rfl) LW.run (by kernel_rfl) (by kernel_rfl) (by kernel_rfl) (by rfl) (by first | assumption | decide +kernel) (by decide +kernel) ⟨rfl, rfl, rfl, rfl, rfl, by decide +kernel⟩ ?hw ?hc
  case hw => w_witness2
  case hc =>
    refine LamX.walk_ofTsE (l := PySem.Challenge.rw_powersalike_k00_whole_heaps_and_their_su) (n := 63) (k := 9) (x := "script") (CX := fun w => L2.CX (PySem.Challenge.rw_powersalike_k00_whole_heaps_and_their_su).prog w) rfl (by decide) (by kernel_rfl) ⟨rfl, by decide, by decide⟩ ?F ?X
    case X =>
      intro w H s e s' h
      obtain ⟨_, _, _, _, _, _, _, _, _, _, _, _, h⟩ := h
      exact h
    case F =>
      intro w mg fa h Y G hmg0
      obtain ⟨K, KX, c⟩ := Y
      have hmg : mg ("law" : PySem.Str) = some (.ref fa) := by
        have e : (HandSHeadRun.topDef (OpenLaw.row PySem.Challenge.rw_powersalike_k00_whole_heaps_and_their_su).prog 34).name = ("law" : PySem.Str) := by kernel_rfl
        rw [← e]
        exact hmg0
      refine ⟨K, KX, ?_⟩
      exact LW.at_law KX G hmg c
