import PyProof.Rows.All
import Wide.All
import OpenK.AllK
import Wide.FinOn
import HandS.ForMost
import HandS.ForExc
import HandS.ExcOwn
import HandS.TupAny
import HandS.TupMul
import HandS.IsInst
import HandS.Style
import HandS.Wide
import HandS.RaiseMore
import HandS.More
import HandS.Conv
import HandS.Walk
import HandS.Strs
import HandS.WordsExc
import HandS.EndBits
import HandS.ExcIs
import PySem.Challenge.RW_diamondbook_k01_sides
import HandS.Codes
set_option Elab.async false
set_option linter.all false
set_option maxRecDepth 100000
set_option maxHeartbeats 4000000
namespace L2.Ev
open PySem PySem.Spec PyProof.Rows

/-- a value by its content; o: held by one place alone (it may be changed there) -/
inductive D where
  | non | bl (b : Bool) | int (i : Int) | str (x : Str)
  | tup (xs : List D)
  | lst (o : Bool) (xs : List D)
  | lck (xs : List D)
  | dct (o : Bool) (ks : List (Key × D))
  | ins (o : Bool) (c : Str) (fs : List (Str × D))
  | xd (fs : List (Str × D))

/-- no root flag -/
def D.fz : D → Bool
  | .lst o _ => !o
  | .dct o _ => !o
  | .ins o _ _ => !o
  | _ => true

mutual
def D.frz : D → D
  | .lst _ xs => .lst false xs
  | .dct _ ks => .dct false (frzK ks)
  | .ins _ c fs => .ins false c (frzF fs)
  | .non => .non
  | .bl b => .bl b
  | .int i => .int i
  | .str x => .str x
  | .tup xs => .tup xs
  | .xd fs => .xd fs
  | .lck xs => .lck xs
def frzK : List (Key × D) → List (Key × D)
  | [] => []
  | (k, d) :: r => (k, d.frz) :: frzK r
def frzF : List (Str × D) → List (Str × D)
  | [] => []
  | (k, d) :: r => (k, d.frz) :: frzF r
end

/-- a frozen tuple, list: one that stands whatever is tracked -/
def KT (K : PySem.W.Frag) (a : Addr) (xs : List V) : Prop := ∀ H : Hp, SqT K H a xs
def KL (K : PySem.W.Frag) (a : Addr) (xs : List V) : Prop := ∀ H : Hp, SqL K H a xs

mutual
inductive RD (K : PySem.W.Frag) (cls : Str → Addr) (H : Hp) (ow : Addr → Prop) : D → V → List Addr → Prop
  | non : RD K cls H ow .non .non []
  | bl (b : Bool) : RD K cls H ow (.bl b) (.bl b) []
  | int (i : Int) : RD K cls H ow (.int i) (.int i) []
  | str (x : Str) : RD K cls H ow (.str x) (.str x) []
  | tup {a : Addr} {xs : List D} {vs : List V} : H a = some (.tup vs) → ¬ ow a → RDs K cls H ow xs vs [] → RD K cls H ow (.tup xs) (.ref a) []
  | tupK {a : Addr} {xs : List D} {vs : List V} : KT K a vs → RDs K cls H ow xs vs [] → RD K cls H ow (.tup xs) (.ref a) []
  | lstF {a : Addr} {xs : List D} {vs : List V} : H a = some (.lst vs) → ¬ ow a → RDs K cls H ow xs vs [] → RD K cls H ow (.lst false xs) (.ref a) []
  | lckK {a : Addr} {xs : List D} {vs : List V} : KL K a vs → RDs K cls H ow xs vs [] → RD K cls H ow (.lck xs) (.ref a) []
  | lck {a : Addr} {xs : List D} {vs : List V} {o : Obj} : H a = some (.frz o (.lst vs)) → ¬ ow a → RDs K cls H ow xs vs [] → RD K cls H ow (.lck xs) (.ref a) []
  | lstO {a : Addr} {xs : List D} {vs : List V} : H a = some (.lst vs) → RDs K cls H ow xs vs [] → RD K cls H ow (.lst true xs) (.ref a) [a]
  | dctF {a : Addr} {ks : List (Key × D)} {kvs : List (Key × V)} : H a = some (.dK kvs) → ¬ ow a → RDk K cls H ow ks kvs [] → RD K cls H ow (.dct false ks) (.ref a) []
  | dctO {a : Addr} {ks : List (Key × D)} {kvs : List (Key × V)} {os : List Addr} : H a = some (.dK kvs) → RDk K cls H ow ks kvs os → RD K cls H ow (.dct true ks) (.ref a) (a :: os)
  | insF {a dx : Addr} {c : Str} {fs : List (Str × D)} {fvs : List (Str × V)} : H a = some (.ins (cls c) dx fvs) → ¬ ow a → RDf K cls H ow fs fvs [] → RD K cls H ow (.ins false c fs) (.ref a) []
  | insO {a dx : Addr} {c : Str} {fs : List (Str × D)} {fvs : List (Str × V)} {os : List Addr} : H a = some (.ins (cls c) dx fvs) → RDf K cls H ow fs fvs os → RD K cls H ow (.ins true c fs) (.ref a) (a :: os)
  | xd {a : Addr} {fs : List (Str × D)} {fvs : List (Str × V)} : H a = some (.xd fvs) → ¬ ow a → RDf K cls H ow fs fvs [] → RD K cls H ow (.xd fs) (.ref a) []
inductive RDs (K : PySem.W.Frag) (cls : Str → Addr) (H : Hp) (ow : Addr → Prop) : List D → List V → List Addr → Prop
  | nil : RDs K cls H ow [] [] []
  | cons {d : D} {v : V} {ds : List D} {vs : List V} {os os' : List Addr} : RD K cls H ow d v os → RDs K cls H ow ds vs os' → RDs K cls H ow (d :: ds) (v :: vs) (os ++ os')
inductive RDk (K : PySem.W.Frag) (cls : Str → Addr) (H : Hp) (ow : Addr → Prop) : List (Key × D) → List (Key × V) → List Addr → Prop
  | nil : RDk K cls H ow [] [] []
  | cons {k : Key} {d : D} {v : V} {ds : List (Key × D)} {vs : List (Key × V)} {os os' : List Addr} : RD K cls H ow d v os → RDk K cls H ow ds vs os' → RDk K cls H ow ((k, d) :: ds) ((k, v) :: vs) (os ++ os')
inductive RDf (K : PySem.W.Frag) (cls : Str → Addr) (H : Hp) (ow : Addr → Prop) : List (Str × D) → List (Str × V) → List Addr → Prop
  | nil : RDf K cls H ow [] [] []
  | cons {k : Str} {d : D} {v : V} {ds : List (Str × D)} {vs : List (Str × V)} {os os' : List Addr} : RD K cls H ow d v os → RDf K cls H ow ds vs os' → RDf K cls H ow ((k, d) :: ds) ((k, v) :: vs) (os ++ os')
end

section
variable {K : PySem.W.Frag} {cls : Str → Addr} {H H' : Hp} {ow ow' : Addr → Prop}

mutual
theorem RD.move (hF : ∀ a o, H a = some o → ¬ ow a → H' a = some o ∧ ¬ ow' a) : ∀ {d : D} {v : V} {os : List Addr}, RD K cls H ow d v os → (∀ a ∈ os, H' a = H a) → RD K cls H' ow' d v os
  | _, _, _, .non, _ => .non
  | _, _, _, .bl b, _ => .bl b
  | _, _, _, .int i, _ => .int i
  | _, _, _, .str x, _ => .str x
  | _, _, _, .tup h n r, _ => .tup (hF _ _ h n).1 (hF _ _ h n).2 (RDs.move hF r (fun _ z => nomatch z))
  | _, _, _, .tupK h r, _ => .tupK h (RDs.move hF r (fun _ z => nomatch z))
  | _, _, _, .lstF h n r, _ => .lstF (hF _ _ h n).1 (hF _ _ h n).2 (RDs.move hF r (fun _ z => nomatch z))
  | _, _, _, .lckK h r, _ => .lckK h (RDs.move hF r (fun _ z => nomatch z))
  | _, _, _, .lck h n r, _ => .lck (hF _ _ h n).1 (hF _ _ h n).2 (RDs.move hF r (fun _ z => nomatch z))
  | _, _, _, .lstO h r, e => .lstO ((e _ List.mem_cons_self).trans h) (RDs.move hF r (fun _ z => nomatch z))
  | _, _, _, .dctF h n r, _ => .dctF (hF _ _ h n).1 (hF _ _ h n).2 (RDk.move hF r (fun _ z => nomatch z))
  | _, _, _, .dctO h r, e => .dctO ((e _ List.mem_cons_self).trans h) (RDk.move hF r (fun _ z => e _ (List.mem_cons_of_mem _ z)))
  | _, _, _, .insF h n r, _ => .insF (hF _ _ h n).1 (hF _ _ h n).2 (RDf.move hF r (fun _ z => nomatch z))
  | _, _, _, .insO h r, e => .insO ((e _ List.mem_cons_self).trans h) (RDf.move hF r (fun _ z => e _ (List.mem_cons_of_mem _ z)))
  | _, _, _, .xd h n r, _ => .xd (hF _ _ h n).1 (hF _ _ h n).2 (RDf.move hF r (fun _ z => nomatch z))
theorem RDs.move (hF : ∀ a o, H a = some o → ¬ ow a → H' a = some o ∧ ¬ ow' a) : ∀ {d : List D} {v : List V} {os : List Addr}, RDs K cls H ow d v os → (∀ a ∈ os, H' a = H a) → RDs K cls H' ow' d v os
  | _, _, _, .nil, _ => .nil
  | _, _, _, .cons r t, e => .cons (RD.move hF r fun _ z => e _ (List.mem_append_left _ z)) (RDs.move hF t fun _ z => e _ (List.mem_append_right _ z))
theorem RDk.move (hF : ∀ a o, H a = some o → ¬ ow a → H' a = some o ∧ ¬ ow' a) : ∀ {d : List (Key × D)} {v : List (Key × V)} {os : List Addr}, RDk K cls H ow d v os → (∀ a ∈ os, H' a = H a) → RDk K cls H' ow' d v os
  | _, _, _, .nil, _ => .nil
  | _, _, _, .cons r t, e => .cons (RD.move hF r fun _ z => e _ (List.mem_append_left _ z)) (RDk.move hF t fun _ z => e _ (List.mem_append_right _ z))
theorem RDf.move (hF : ∀ a o, H a = some o → ¬ ow a → H' a = some o ∧ ¬ ow' a) : ∀ {d : List (Str × D)} {v : List (Str × V)} {os : List Addr}, RDf K cls H ow d v os → (∀ a ∈ os, H' a = H a) → RDf K cls H' ow' d v os
  | _, _, _, .nil, _ => .nil
  | _, _, _, .cons r t, e => .cons (RD.move hF r fun _ z => e _ (List.mem_append_left _ z)) (RDf.move hF t fun _ z => e _ (List.mem_append_right _ z))
end

mutual
/-- what is held becomes fixed -/
theorem RD.freeze (hs : ∀ a, ow' a → ow a) : ∀ {d : D} {v : V} {os : List Addr}, RD K cls H ow d v os → (∀ a ∈ os, ¬ ow' a) → RD K cls H ow' d.frz v []
  | _, _, _, .non, _ => .non
  | _, _, _, .bl b, _ => .bl b
  | _, _, _, .int i, _ => .int i
  | _, _, _, .str x, _ => .str x
  | _, _, _, .tup h n r, _ => .tup h (fun z => n (hs _ z)) (RDs.move (fun _ _ q m => ⟨q, fun z => m (hs _ z)⟩) r (fun _ z => nomatch z))
  | _, _, _, .tupK h r, _ => .tupK h (RDs.move (fun _ _ q m => ⟨q, fun z => m (hs _ z)⟩) r (fun _ z => nomatch z))
  | _, _, _, .lstF h n r, _ => .lstF h (fun z => n (hs _ z)) (RDs.move (fun _ _ q m => ⟨q, fun z => m (hs _ z)⟩) r (fun _ z => nomatch z))
  | _, _, _, .lckK h r, _ => .lckK h (RDs.move (fun _ _ q m => ⟨q, fun z => m (hs _ z)⟩) r (fun _ z => nomatch z))
  | _, _, _, .lck h n r, _ => .lck h (fun z => n (hs _ z)) (RDs.move (fun _ _ q m => ⟨q, fun z => m (hs _ z)⟩) r (fun _ z => nomatch z))
  | _, _, _, .lstO h r, e => .lstF h (e _ List.mem_cons_self) (RDs.move (fun _ _ q m => ⟨q, fun z => m (hs _ z)⟩) r (fun _ z => nomatch z))
  | _, _, _, .dctF h n r, _ => .dctF h (fun z => n (hs _ z)) (RDk.freeze hs r (fun _ z => nomatch z))
  | _, _, _, .dctO h r, e => .dctF h (e _ List.mem_cons_self) (RDk.freeze hs r (fun _ z => e _ (List.mem_cons_of_mem _ z)))
  | _, _, _, .insF h n r, _ => .insF h (fun z => n (hs _ z)) (RDf.freeze hs r (fun _ z => nomatch z))
  | _, _, _, .insO h r, e => .insF h (e _ List.mem_cons_self) (RDf.freeze hs r (fun _ z => e _ (List.mem_cons_of_mem _ z)))
  | _, _, _, .xd h n r, _ => .xd h (fun z => n (hs _ z)) (RDf.move (fun _ _ q m => ⟨q, fun z => m (hs _ z)⟩) r (fun _ z => nomatch z))
theorem RDk.freeze (hs : ∀ a, ow' a → ow a) : ∀ {d : List (Key × D)} {v : List (Key × V)} {os : List Addr}, RDk K cls H ow d v os → (∀ a ∈ os, ¬ ow' a) → RDk K cls H ow' (frzK d) v []
  | _, _, _, .nil, _ => .nil
  | _, _, _, .cons r t, e => RDk.cons (os := []) (os' := []) (RD.freeze hs r fun _ z => e _ (List.mem_append_left _ z)) (RDk.freeze hs t fun _ z => e _ (List.mem_append_right _ z))
theorem RDf.freeze (hs : ∀ a, ow' a → ow a) : ∀ {d : List (Str × D)} {v : List (Str × V)} {os : List Addr}, RDf K cls H ow d v os → (∀ a ∈ os, ¬ ow' a) → RDf K cls H ow' (frzF d) v []
  | _, _, _, .nil, _ => .nil
  | _, _, _, .cons r t, e => RDf.cons (os := []) (os' := []) (RD.freeze hs r fun _ z => e _ (List.mem_append_left _ z)) (RDf.freeze hs t fun _ z => e _ (List.mem_append_right _ z))
end

theorem RD.fzo {d : D} {v : V} {os : List Addr} (r : RD K cls H ow d v os) (h : d.fz = true) : os = [] := by
  cases r <;> first | rfl | (simp [D.fz] at h)
/-- owned addresses are owned places of the heap -/
theorem nil_app {a b : List Addr} (h : a ++ b = []) : a = [] ∧ b = [] := List.append_eq_nil_iff.mp h
theorem RDs.get : ∀ {xs : List D} {vs : List V} {i : Nat} {d : D}, RDs K cls H ow xs vs [] → xs[i]? = some d → ∃ v, vs[i]? = some v ∧ RD K cls H ow d v []
  | [], _, _, _, _, h => by simp at h
  | x :: xs, vs, i, d, r, h => by
    generalize ho : ([] : List Addr) = os at r
    cases r with
    | cons r t =>
      obtain ⟨e1, e2⟩ := nil_app ho.symm
      subst e1; subst e2
      cases i with
      | zero => simp at h; subst h; exact ⟨_, rfl, r⟩
      | succ i =>
        obtain ⟨v, h1, h2⟩ := RDs.get (i := i) t (by simpa using h)
        exact ⟨v, by simpa using h1, h2⟩
theorem RDs.length : ∀ {xs : List D} {vs : List V} {os : List Addr}, RDs K cls H ow xs vs os → vs.length = xs.length
  | _, _, _, .nil => rfl
  | _, _, _, .cons _ t => by simp [RDs.length t]
theorem RDs.append : ∀ {xs ys : List D} {vs ws : List V}, RDs K cls H ow xs vs [] → RDs K cls H ow ys ws [] → RDs K cls H ow (xs ++ ys) (vs ++ ws) []
  | [], _, _, _, r, s => by cases r; exact s
  | x :: xs, ys, vs, ws, r, s => by
    generalize ho : ([] : List Addr) = os at r
    cases r with
    | cons r t =>
      obtain ⟨e1, e2⟩ := nil_app ho.symm
      subst e1; subst e2
      exact RDs.cons (os := []) (os' := []) r (RDs.append t s)
theorem RDs.inv {x : D} {xs : List D} {vs : List V} (r : RDs K cls H ow (x :: xs) vs []) : ∃ v ws, vs = v :: ws ∧ RD K cls H ow x v [] ∧ RDs K cls H ow xs ws [] := by
  generalize ho : ([] : List Addr) = os at r
  cases r with
  | cons r t =>
    obtain ⟨e1, e2⟩ := nil_app ho.symm
    subst e1; subst e2
    exact ⟨_, _, rfl, r, t⟩
theorem RDs.take (n : Nat) : ∀ {xs : List D} {vs : List V}, RDs K cls H ow xs vs [] → RDs K cls H ow (xs.take n) (vs.take n) [] := by
  induction n with
  | zero => intro xs vs _; exact .nil
  | succ n ih =>
    intro xs vs r
    cases xs with
    | nil => cases r; exact .nil
    | cons x xs =>
      obtain ⟨v, ws, rfl, h1, h2⟩ := r.inv
      exact RDs.cons (os := []) (os' := []) h1 (ih h2)
theorem RDs.drop (n : Nat) : ∀ {xs : List D} {vs : List V}, RDs K cls H ow xs vs [] → RDs K cls H ow (xs.drop n) (vs.drop n) [] := by
  induction n with
  | zero => intro xs vs r; exact r
  | succ n ih =>
    intro xs vs r
    cases xs with
    | nil => cases r; exact .nil
    | cons x xs =>
      obtain ⟨v, ws, rfl, h1, h2⟩ := r.inv
      exact ih h2
theorem RDs.set {i : Nat} {d : D} {v : V} (rd : RD K cls H ow d v []) : ∀ {i : Nat} {xs : List D} {vs : List V}, RDs K cls H ow xs vs [] → RDs K cls H ow (xs.set i d) (vs.set i v) []
  | _, [], _, r => by cases r; exact .nil
  | 0, x :: xs, _, r => by
    obtain ⟨v, ws, rfl, h1, h2⟩ := r.inv
    exact RDs.cons (os := []) (os' := []) rd h2
  | i + 1, x :: xs, _, r => by
    obtain ⟨v, ws, rfl, h1, h2⟩ := r.inv
    exact RDs.cons (os := []) (os' := []) h1 (RDs.set (i := i) rd h2)
theorem RDs.reverse : ∀ {xs : List D} {vs : List V}, RDs K cls H ow xs vs [] → RDs K cls H ow xs.reverse vs.reverse []
  | [], _, r => by cases r; exact .nil
  | x :: xs, _, r => by
    obtain ⟨v, ws, rfl, h1, h2⟩ := r.inv
    rw [List.reverse_cons, List.reverse_cons]
    exact RDs.append (RDs.reverse h2) (RDs.cons (os := []) (os' := []) h1 .nil)
end

/-! ### what is held -/
inductive RDl (K : PySem.W.Frag) (cls : Str → Addr) (H : Hp) (ow : Addr → Prop) : List (D × V) → List Addr → Prop
  | nil : RDl K cls H ow [] []
  | cons {d : D} {v : V} {l : List (D × V)} {os os' : List Addr} : RD K cls H ow d v os → RDl K cls H ow l os' → RDl K cls H ow ((d, v) :: l) (os ++ os')
def Rel (K : PySem.W.Frag) (cls : Str → Addr) (L : List (D × V)) (H : Hp) : Prop := ∃ A : List Addr, A.Nodup ∧ RDl K cls H (fun a => a ∈ A) L A
section
variable {K : PySem.W.Frag} {cls : Str → Addr} {H H' : Hp} {ow ow' : Addr → Prop}
theorem RDl.move (hF : ∀ a o, H a = some o → ¬ ow a → H' a = some o ∧ ¬ ow' a) : ∀ {l : List (D × V)} {os : List Addr}, RDl K cls H ow l os → (∀ a ∈ os, H' a = H a) → RDl K cls H' ow' l os
  | _, _, .nil, _ => .nil
  | _, _, .cons r t, e => .cons (r.move hF fun _ z => e _ (List.mem_append_left _ z)) (RDl.move hF t fun _ z => e _ (List.mem_append_right _ z))
theorem RDl.sub (hs : ∀ a, ow' a → ow a) {l : List (D × V)} {os : List Addr} (r : RDl K cls H ow l os) : RDl K cls H ow' l os := r.move (fun _ _ q m => ⟨q, fun z => m (hs _ z)⟩) (fun _ _ => rfl)
theorem RD.sub (hs : ∀ a, ow' a → ow a) {d : D} {v : V} {os : List Addr} (r : RD K cls H ow d v os) : RD K cls H ow' d v os := r.move (fun _ _ q m => ⟨q, fun z => m (hs _ z)⟩) (fun _ _ => rfl)
theorem RDs.sub (hs : ∀ a, ow' a → ow a) {d : List D} {v : List V} {os : List Addr} (r : RDs K cls H ow d v os) : RDs K cls H ow' d v os := r.move (fun _ _ q m => ⟨q, fun z => m (hs _ z)⟩) (fun _ _ => rfl)
theorem RDl.perm {l l' : List (D × V)} (p : l.Perm l') : ∀ {os : List Addr}, RDl K cls H ow l os → ∃ os', os.Perm os' ∧ RDl K cls H ow l' os' := by
  induction p with
  | nil => intro os r; exact ⟨os, .refl _, r⟩
  | cons x p ih =>
    intro os r
    cases r with
    | cons r t =>
      obtain ⟨os', h1, h2⟩ := ih t
      exact ⟨_, h1.append_left _, .cons r h2⟩
  | swap x y l =>
    intro os r
    cases r with
    | cons r t =>
      cases t with
      | cons r' t =>
        exact ⟨_, by
          rw [← List.append_assoc, ← List.append_assoc]
          exact List.perm_append_comm.append_right _, .cons r' (.cons r t)⟩
  | trans _ _ ih1 ih2 =>
    intro os r
    obtain ⟨o1, h1, r1⟩ := ih1 r
    obtain ⟨o2, h2, r2⟩ := ih2 r1
    exact ⟨o2, h1.trans h2, r2⟩
theorem Rel.perm {L L' : List (D × V)} (p : L.Perm L') (h : Rel K cls L H) : Rel K cls L' H := by
  obtain ⟨A, nd, r⟩ := h
  obtain ⟨A', h1, r'⟩ := r.perm p
  exact ⟨A', (h1.nodup_iff).mp nd, r'.sub fun a z => h1.mem_iff.mpr z⟩
theorem Rel.drop {x : D × V} {L : List (D × V)} (h : Rel K cls (x :: L) H) : Rel K cls L H := by
  obtain ⟨A, nd, r⟩ := h
  cases r with
  | cons r t => exact ⟨_, (List.nodup_append.mp nd).2.1, t.sub fun a z => List.mem_append_right _ z⟩
theorem Rel.dropL {A B : List (D × V)} (h : Rel K cls (A ++ B) H) : Rel K cls B H := by
  induction A with
  | nil => exact h
  | cons x A ih => exact ih h.drop
theorem Rel.dropM {A B C : List (D × V)} (h : Rel K cls (A ++ (B ++ C)) H) : Rel K cls (A ++ C) H := by
  have p : (A ++ (B ++ C)).Perm (B ++ (A ++ C)) := by
    rw [← List.append_assoc, ← List.append_assoc]
    exact List.perm_append_comm.append_right _
  exact (h.perm p).dropL
theorem Rel.nil : Rel K cls [] H := ⟨[], List.nodup_nil, .nil⟩
/-- a front item is fixed -/
theorem Rel.freeze {d : D} {v : V} {L : List (D × V)} (h : Rel K cls ((d, v) :: L) H) : Rel K cls ((d.frz, v) :: L) H := by
  obtain ⟨A, nd, r⟩ := h
  cases r with
  | cons r t =>
    rename_i os os'
    refine ⟨os', (List.nodup_append.mp nd).2.1, ?_⟩
    refine RDl.cons (os := []) (os' := os') (r.freeze (ow' := fun a => a ∈ os') (fun a z => List.mem_append_right _ z) fun a z q => ?_) (t.sub fun a z => List.mem_append_right _ z)
    exact (List.nodup_append.mp nd).2.2 a z a q rfl
/-- a fixed front item twice -/
theorem Rel.dup {d : D} {v : V} {L : List (D × V)} (h : Rel K cls ((d, v) :: L) H) (f : d.fz = true) : Rel K cls ((d, v) :: (d, v) :: L) H := by
  obtain ⟨A, nd, r⟩ := h
  cases r with
  | cons r t =>
    cases r.fzo f
    exact ⟨_, nd, RDl.cons (os := []) r (RDl.cons (os := []) r t)⟩
theorem mem_split {x : D × V} {L : List (D × V)} (h : x ∈ L) : ∃ L', L.Perm (x :: L') := by
  obtain ⟨s, t, rfl⟩ := List.append_of_mem h
  exact ⟨s ++ t, List.perm_middle⟩
/-- what an item says -/
theorem RDl.mem : ∀ {L : List (D × V)} {os : List Addr}, RDl K cls H ow L os → ∀ {d : D} {v : V}, (d, v) ∈ L → ∃ o, RD K cls H ow d v o ∧ ∀ a ∈ o, a ∈ os
  | _, _, .nil, _, _, h => by cases h
  | _, _, .cons r t, d, v, h => by
    rcases List.mem_cons.mp h with e | h
    · cases e; exact ⟨_, r, fun a z => List.mem_append_left _ z⟩
    · obtain ⟨o, r', q⟩ := RDl.mem t h
      exact ⟨o, r', fun a z => List.mem_append_right _ (q a z)⟩
/-- a fixed thing that the held ones show -/
theorem Rel.add {L : List (D × V)} {A : List Addr} (nd : A.Nodup) (r : RDl K cls H (fun a => a ∈ A) L A) {d : D} {v : V} (rd : RD K cls H (fun a => a ∈ A) d v []) : Rel K cls ((d, v) :: L) H := ⟨A, nd, RDl.cons (os := []) rd r⟩
end
end L2.Ev
namespace L2.Ev
open PySem PySem.Spec PyProof.Rows

/-! ### states -/
inductive Sl where
  | no | val (d : D) | lent (d : D)
abbrev En := List Sl
structure Xn where
  c : Str
  fs : Option (List (Str × D))
inductive Rs (α : Type) where
  | ok (a : α) | er (x : Xn)
inductive Fl where
  | nx | rt (d : D) | bk | ct | er (x : Xn)
/-- an operand: a value made for it, or what a slot holds -/
inductive AV where
  | tmp (d : D) | slot (i : Nat)
abbrev EV := En → Option (Rs D × En)
abbrev OV := En → Option (Rs AV × En)
abbrev TV := En → Option (Rs Bool × En)
abbrev SV := En → Option (Fl × En)
abbrev LV := En → Option (Rs (List AV) × En)

def look (ρ : En) (i : Nat) : Option D := match ρ[i]? with
  | some (.val d) => some d
  | some (.lent d) => some d
  | _ => none
def put (ρ : En) (i : Nat) (d : D) : En := match ρ[i]? with
  | some (.val _) => ρ.set i (.val d)
  | some (.lent _) => ρ.set i (.lent d)
  | _ => ρ
def asg (ρ : En) (i : Nat) (d : D) : Option En := match ρ[i]? with
  | some .no => some (ρ.set i (.val d))
  | some (.val _) => some (ρ.set i (.val d))
  | _ => none
def res (ρ : En) : AV → Option D
  | .tmp d => some d
  | .slot i => look ρ i

structure GC where
  prog : Program
  w : World
  K : PySem.W.Frag
  mg : Str → Option Value
  base : Heap
  cls : Str → Addr
structure Sc where
  g : GC
  N : List Str
  scope : Scope
  k : Nat
  fn : Str → Bool
  top : Bool
structure InD (S : Sc) (X : Cx) : Prop where
  prog : X.prog = S.g.prog
  w : X.w = S.g.w
  K : X.K = S.g.K
  mg : X.mg = S.g.mg
  base : X.base = S.g.base
  N : X.N = S.N
  scope : X.env.scope = S.scope
  fn : X.fn = S.fn
  calm : X.calm = true
  room : Room S.k X.A
  stk : S.top = true → X.stack = X.env :: X.outer ∧ X.env.frame = some X.env.locals

inductive ER : En → St → List V → List (D × V) → Prop
  | nil : ER [] [] [] []
  | no {ρ σ l L o z} : ER ρ σ l L → ER (.no :: ρ) (o :: σ) (z :: l) L
  | val {ρ σ l L z} {d : D} {v : V} : ER ρ σ l L → ER (.val d :: ρ) (some v :: σ) (z :: l) ((d, v) :: L)
  | lent {ρ σ l L} {d : D} {v : V} : ER ρ σ l L → ER (.lent d :: ρ) (some v :: σ) (v :: l) ((d, v) :: L)
def SR (K : PySem.W.Frag) (cls : Str → Addr) (ρ : En) (σ : St) (l : List V) (T : List (D × V)) (H : Hp) : Prop := ∃ L, ER ρ σ l L ∧ Rel K cls (L ++ T) H

theorem ER.get : ∀ {ρ : En} {σ : St} {l : List V} {L : List (D × V)} {i : Nat} {d : D}, ER ρ σ l L → look ρ i = some d → ∃ v, σ[i]? = some (some v) ∧ (d, v) ∈ L
  | _, _, _, _, i, d, .nil, h => by simp [look] at h
  | _, _, _, _, 0, d, .no r, h => by simp [look] at h
  | _, _, _, _, 0, d, .val r, h => by
    simp [look] at h; subst h; exact ⟨_, rfl, List.mem_cons_self⟩
  | _, _, _, _, 0, d, .lent r, h => by
    simp [look] at h; subst h; exact ⟨_, rfl, List.mem_cons_self⟩
  | _, _, _, _, i + 1, d, .no r, h => by
    obtain ⟨v, h1, h2⟩ := ER.get (i := i) (d := d) r (by simpa [look] using h)
    exact ⟨v, by simpa using h1, h2⟩
  | _, _, _, _, i + 1, d, .val r, h => by
    obtain ⟨v, h1, h2⟩ := ER.get (i := i) (d := d) r (by simpa [look] using h)
    exact ⟨v, by simpa using h1, List.mem_cons_of_mem _ h2⟩
  | _, _, _, _, i + 1, d, .lent r, h => by
    obtain ⟨v, h1, h2⟩ := ER.get (i := i) (d := d) r (by simpa [look] using h)
    exact ⟨v, by simpa using h1, List.mem_cons_of_mem _ h2⟩
theorem put_succ (s : Sl) (ρ : En) (i : Nat) (d : D) : put (s :: ρ) (i + 1) d = s :: put ρ i d := by
  simp only [put, List.getElem?_cons_succ]
  generalize ρ[i]? = o
  rcases o with _ | (_ | _ | _) <;> rfl
/-- what a slot holds is changed in its place -/
theorem ER.put : ∀ {ρ : En} {σ : St} {l : List V} {L : List (D × V)} {i : Nat} {d : D} (d' : D), ER ρ σ l L → look ρ i = some d → ∃ v L0 L', σ[i]? = some (some v) ∧ L.Perm ((d, v) :: L0) ∧ ER (Ev.put ρ i d') σ l L' ∧ L'.Perm ((d', v) :: L0)
  | _, _, _, _, i, d, d', .nil, h => by simp [look] at h
  | _, _, _, _, 0, d, d', .no r, h => by simp [look] at h
  | _, _, _, _, 0, d, d', .val r, h => by
    simp [look] at h; subst h; exact ⟨_, _, _, rfl, .refl _, .val r, .refl _⟩
  | _, _, _, _, 0, d, d', .lent r, h => by
    simp [look] at h; subst h; exact ⟨_, _, _, rfl, .refl _, .lent r, .refl _⟩
  | _, _, _, _, i + 1, d, d', .no (ρ := ρ) r, h => by
    obtain ⟨v, L0, L', h1, h2, h3, h4⟩ := ER.put (i := i) (d := d) d' r (by simpa [look] using h)
    refine ⟨v, L0, L', by simpa using h1, h2, ?_, h4⟩
    rw [put_succ]; exact .no h3
  | _, _, _, _, i + 1, d, d', .val (ρ := ρ) (d := d2) (v := v2) r, h => by
    obtain ⟨v, L0, L', h1, h2, h3, h4⟩ := ER.put (i := i) (d := d) d' r (by simpa [look] using h)
    refine ⟨v, (d2, v2) :: L0, (d2, v2) :: L', by simpa using h1, (h2.cons _).trans (.swap _ _ _), ?_, (h4.cons _).trans (.swap _ _ _)⟩
    rw [put_succ]; exact .val h3
  | _, _, _, _, i + 1, d, d', .lent (ρ := ρ) (d := d2) (v := v2) r, h => by
    obtain ⟨v, L0, L', h1, h2, h3, h4⟩ := ER.put (i := i) (d := d) d' r (by simpa [look] using h)
    refine ⟨v, (d2, v2) :: L0, (d2, v2) :: L', by simpa using h1, (h2.cons _).trans (.swap _ _ _), ?_, (h4.cons _).trans (.swap _ _ _)⟩
    rw [put_succ]; exact .lent h3
/-- a name is stored -/
theorem ER.asg : ∀ {ρ ρ' : En} {σ : St} {l : List V} {L : List (D × V)} {i : Nat} {d : D} {v : V}, ER ρ σ l L → Ev.asg ρ i d = some ρ' → ∃ old L0 L', L.Perm (old ++ L0) ∧ ER ρ' (σ.set i (some v)) l L' ∧ L'.Perm ((d, v) :: L0)
  | _, _, _, _, _, i, d, v, .nil, h => by simp [Ev.asg] at h
  | _, _, _, _, _, 0, d, v, .no r, h => by
    simp [Ev.asg] at h; subst h; exact ⟨[], _, _, .refl _, .val r, .refl _⟩
  | _, _, _, _, _, 0, d, v, .val (d := d2) (v := v2) r, h => by
    simp [Ev.asg] at h; subst h; exact ⟨[(d2, v2)], _, _, .refl _, .val r, .refl _⟩
  | _, _, _, _, _, 0, d, v, .lent r, h => by simp [Ev.asg] at h
  | _, ρ', _, _, _, i + 1, d, v, .no (ρ := ρ) r, h => by
    obtain ⟨ρ2, e1, rfl⟩ : ∃ ρ2, Ev.asg ρ i d = some ρ2 ∧ ρ' = .no :: ρ2 := by
      simp only [Ev.asg, List.getElem?_cons_succ] at h ⊢
      split at h <;> simp_all
    obtain ⟨old, L0, L', h2, h3, h4⟩ := ER.asg (i := i) (d := d) (v := v) r e1
    exact ⟨old, L0, L', h2, .no h3, h4⟩
  | _, ρ', _, _, _, i + 1, d, v, .val (ρ := ρ) (d := d2) (v := v2) r, h => by
    obtain ⟨ρ2, e1, rfl⟩ : ∃ ρ2, Ev.asg ρ i d = some ρ2 ∧ ρ' = .val d2 :: ρ2 := by
      simp only [Ev.asg, List.getElem?_cons_succ] at h ⊢
      split at h <;> simp_all
    obtain ⟨old, L0, L', h2, h3, h4⟩ := ER.asg (i := i) (d := d) (v := v) r e1
    exact ⟨old, (d2, v2) :: L0, (d2, v2) :: L', (h2.cons _).trans List.perm_middle.symm, .val h3, (h4.cons _).trans (.swap _ _ _)⟩
  | _, ρ', _, _, _, i + 1, d, v, .lent (ρ := ρ) (d := d2) (v := v2) r, h => by
    obtain ⟨ρ2, e1, rfl⟩ : ∃ ρ2, Ev.asg ρ i d = some ρ2 ∧ ρ' = .lent d2 :: ρ2 := by
      simp only [Ev.asg, List.getElem?_cons_succ] at h ⊢
      split at h <;> simp_all
    obtain ⟨old, L0, L', h2, h3, h4⟩ := ER.asg (i := i) (d := d) (v := v) r e1
    exact ⟨old, (d2, v2) :: L0, (d2, v2) :: L', (h2.cons _).trans List.perm_middle.symm, .lent h3, (h4.cons _).trans (.swap _ _ _)⟩

section
variable {K : PySem.W.Frag} {cls : Str → Addr} {ρ ρ' : En} {σ : St} {l : List V} {T : List (D × V)} {H : Hp} {i : Nat} {d d' : D} {v : V}
theorem SR.asg (h : SR K cls ρ σ l ((d, v) :: T) H) (e : Ev.asg ρ i d = some ρ') : SR K cls ρ' (σ.set i (some v)) l T H := by
  obtain ⟨L, r, q⟩ := h
  obtain ⟨old, L0, L', h1, h2, h3⟩ := r.asg (v := v) e
  refine ⟨L', h2, ?_⟩
  have p : (L ++ (d, v) :: T).Perm (old ++ (L' ++ T)) := by
    refine List.perm_middle.trans ?_
    refine ((h1.append_right T).cons _).trans ?_
    rw [List.append_assoc]
    refine List.perm_middle.symm.trans ?_
    exact (h3.symm.append_right T).append_left old
  exact (q.perm p).dropL
theorem SR.dropT {x : D × V} (h : SR K cls ρ σ l (x :: T) H) : SR K cls ρ σ l T H := by
  obtain ⟨L, r, q⟩ := h
  exact ⟨L, r, (Rel.dropM (B := [x]) q)⟩
theorem SR.dropTs {B : List (D × V)} (h : SR K cls ρ σ l (B ++ T) H) : SR K cls ρ σ l T H := by
  obtain ⟨L, r, q⟩ := h
  exact ⟨L, r, Rel.dropM q⟩
end

/-! ### the strongest readings -/
section
variable (X : Cx)
def Bst (e : Expr) : TE := fun σ H Q => ∀ (pins : List (Addr × Obj)) (s : Shared), Inv X pins σ H s → wpAny (model X.prog X.w) X.A (eval e X.env) (EP X pins σ Q) X.xe s
def BstT (e : Expr) : TT := fun σ H Q => ∀ (pins : List (Addr × Obj)) (s : Shared), Inv X pins σ H s → wpAny (model X.prog X.w) X.A (isTrue e X.env (eval e X.env)) (TP X pins σ Q) X.xe s
def BstW (e : Expr) : TT := fun σ H Q => ∀ (whole : Sem Value) (pins : List (Addr × Obj)) (s : Shared), Inv X pins σ H s → wpAny (model X.prog X.w) X.A (isTrue e X.env whole) (TP X pins σ Q) X.xe s
def BstA (es : List Expr) : TA := fun σ H Q => ∀ (pos : Pos) (pins : List (Addr × Obj)) (s : Shared), Inv X pins σ H s → wpAny (model X.prog X.w) X.A (spliced (backTo pos (starEach es X.env))) (AP X pins σ Q) X.xe s
def BstS (st : Stmt) : TS := fun D σ H => ∀ (pins : List (Addr × Obj)) (s : Shared), Inv X pins σ H s → wpAny (model X.prog X.w) X.A (exec st X.env) (SP X pins D) X.xe s
def BstSs (st : List Stmt) : TS := fun D σ H => ∀ (pins : List (Addr × Obj)) (s : Shared), Inv X pins σ H s → wpAny (model X.prog X.w) X.A (execs st X.env) (SP X pins D) X.xe s
end
section
variable {X : Cx} {e : Expr} {es : List Expr} {st : Stmt} {sts : List Stmt} {σ : St} {H : Hp}
theorem bst : PE X e (Bst X e) := ⟨fun pins s _ _ _ I h => h pins s I⟩
theorem bstT : PT X e (BstT X e) := ⟨fun pins s _ _ _ I h => h pins s I⟩
theorem bstW : PW X e (BstW X e) := ⟨fun w pins s _ _ _ I h => h w pins s I⟩
theorem bstA : PA X es (BstA X es) := ⟨fun pos pins s _ _ _ I h => h pos pins s I⟩
theorem bstS : PS X st (BstS X st) := ⟨fun pins s _ _ _ I h => h pins s I⟩
theorem bstSs : PSs X sts (BstSs X sts) := ⟨fun pins s _ _ _ I h => h pins s I⟩
theorem Bst.of {t : TE} {Q : VK} (h : PE X e t) (q : t σ H Q) : Bst X e σ H Q := fun pins s I => h.run pins s σ H Q I q
theorem BstT.of {t : TT} {Q : Bool → Hp → Prop} (h : PT X e t) (q : t σ H Q) : BstT X e σ H Q := fun pins s I => h.run pins s σ H Q I q
theorem BstW.of {t : TT} {Q : Bool → Hp → Prop} (h : PW X e t) (q : t σ H Q) : BstW X e σ H Q := fun w pins s I => h.run w pins s σ H Q I q
theorem BstA.of {t : TA} {Q : List V → Hp → Prop} (h : PA X es t) (q : t σ H Q) : BstA X es σ H Q := fun pos pins s I => h.run pos pins s σ H Q I q
theorem BstS.of {t : TS} {D : Ends} (h : PS X st t) (q : t D σ H) : BstS X st D σ H := fun pins s I => h.run pins s σ H D I q
theorem BstSs.of {t : TS} {D : Ends} (h : PSs X sts t) (q : t D σ H) : BstSs X sts D σ H := fun pins s I => h.run pins s σ H D I q
end

/-! ### the judgements -/
def XR (cls : Str → Addr) (x : Xn) (c : Value) (dd : Option Addr) (L : List (D × V)) : Prop := c = .ref (cls x.c) ∧ match x.fs with
  | none => dd = none ∧ L = []
  | some fs => ∃ d, dd = some d ∧ L = [(.xd fs, .ref d)]
/-- the way out by an exception -/
def KX (S : Sc) (X : Cx) (ρ' : En) (σ : St) (l : List V) (T : List (D × V)) (W : WX) (x : Xn) : Prop :=
  ∀ c dd Lx H', XR S.g.cls x c dd Lx → SR X.K S.g.cls ρ' σ l (Lx ++ T) H' → W c dd σ H'
def avT : AV → V → List (D × V)
  | .tmp d, v => [(d, v)]
  | .slot _, _ => []
def avOk (σ : St) : AV → V → Prop
  | .tmp _, _ => True
  | .slot i, v => σ[i]? = some (some v)

structure SE (S : Sc) (e : Expr) (f : EV) : Prop where
  h : ∀ (X : Cx), InD S X → ∀ (ρ ρ' : En) (σ : St) (l : List V) (T : List (D × V)) (H : Hp) (r : Rs D), SR X.K S.g.cls ρ σ l T H → f ρ = some (r, ρ') → ∀ (Q : VK) (W : WX), Takes X W →
  (∀ d v H', r = .ok d → SR X.K S.g.cls ρ' σ l ((d, v) :: T) H' → Q v H') → (∀ x, r = .er x → KX S X ρ' σ l T W x) → Bst X e σ H Q
structure SO (S : Sc) (e : Expr) (f : OV) : Prop where
  h : ∀ (X : Cx), InD S X → ∀ (ρ ρ' : En) (σ : St) (l : List V) (T : List (D × V)) (H : Hp) (r : Rs AV), SR X.K S.g.cls ρ σ l T H → f ρ = some (r, ρ') → ∀ (Q : VK) (W : WX), Takes X W →
  (∀ a v H', r = .ok a → SR X.K S.g.cls ρ' σ l (avT a v ++ T) H' → avOk σ a v → Q v H') → (∀ x, r = .er x → KX S X ρ' σ l T W x) → Bst X e σ H Q
structure ST (S : Sc) (e : Expr) (f : TV) : Prop where
  h : ∀ (X : Cx), InD S X → ∀ (ρ ρ' : En) (σ : St) (l : List V) (T : List (D × V)) (H : Hp) (r : Rs Bool), SR X.K S.g.cls ρ σ l T H → f ρ = some (r, ρ') → ∀ (Q : Bool → Hp → Prop) (W : WX), Takes X W →
  (∀ b H', r = .ok b → SR X.K S.g.cls ρ' σ l T H' → Q b H') → (∀ x, r = .er x → KX S X ρ' σ l T W x) → BstT X e σ H Q
structure SW (S : Sc) (e : Expr) (f : TV) : Prop where
  h : ∀ (X : Cx), InD S X → ∀ (ρ ρ' : En) (σ : St) (l : List V) (T : List (D × V)) (H : Hp) (r : Rs Bool), SR X.K S.g.cls ρ σ l T H → f ρ = some (r, ρ') → ∀ (Q : Bool → Hp → Prop) (W : WX), Takes X W →
  (∀ b H', r = .ok b → SR X.K S.g.cls ρ' σ l T H' → Q b H') → (∀ x, r = .er x → KX S X ρ' σ l T W x) → BstW X e σ H Q
def avTs : List AV → List V → List (D × V)
  | a :: as, v :: vs => avT a v ++ avTs as vs
  | _, _ => []
def avOks (σ : St) : List AV → List V → Prop
  | [], [] => True
  | a :: as, v :: vs => avOk σ a v ∧ avOks σ as vs
  | _, _ => False
structure SA (S : Sc) (es : List Expr) (f : LV) : Prop where
  h : ∀ (X : Cx), InD S X → ∀ (ρ ρ' : En) (σ : St) (l : List V) (T : List (D × V)) (H : Hp) (r : Rs (List AV)), SR X.K S.g.cls ρ σ l T H → f ρ = some (r, ρ') → ∀ (Q : List V → Hp → Prop) (W : WX), Takes X W →
  (∀ as vs H', r = .ok as → SR X.K S.g.cls ρ' σ l (avTs as vs ++ T) H' → avOks σ as vs → Q vs H') → (∀ x, r = .er x → KX S X ρ' σ l T W x) → BstA X es σ H Q
/-- what a statement leaves -/
def KS (S : Sc) (X : Cx) (ρ' : En) (l : List V) (T : List (D × V)) (D : Ends) (W : WX) : Fl → Prop
  | .nx => ∀ σ' H', SR X.K S.g.cls ρ' σ' l T H' → D.nx σ' H'
  | .rt d => ∀ v σ' H', SR X.K S.g.cls ρ' σ' l ((d, v) :: T) H' → D.rt v H'
  | .bk => ∀ σ' H', SR X.K S.g.cls ρ' σ' l T H' → D.bk σ' H'
  | .ct => ∀ σ' H', SR X.K S.g.cls ρ' σ' l T H' → D.ct σ' H'
  | .er x => ∀ σ', KX S X ρ' σ' l T W x
structure SS (S : Sc) (st : Stmt) (f : SV) : Prop where
  h : ∀ (X : Cx), InD S X → ∀ (ρ ρ' : En) (σ : St) (l : List V) (T : List (D × V)) (H : Hp) (r : Fl), SR X.K S.g.cls ρ σ l T H → f ρ = some (r, ρ') → ∀ (D : Ends) (W : WX), Takes X W → PassesOwn (model X.prog X.w) X.A X.env X.xe → KS S X ρ' l T D W r → BstS X st D σ H
structure SSs (S : Sc) (st : List Stmt) (f : SV) : Prop where
  h : ∀ (X : Cx), InD S X → ∀ (ρ ρ' : En) (σ : St) (l : List V) (T : List (D × V)) (H : Hp) (r : Fl), SR X.K S.g.cls ρ σ l T H → f ρ = some (r, ρ') → ∀ (D : Ends) (W : WX), Takes X W → PassesOwn (model X.prog X.w) X.A X.env X.xe → KS S X ρ' l T D W r → BstSs X st D σ H
end L2.Ev
namespace L2.Ev
open PySem PySem.Spec PyProof.Rows

/-! ### running one thing behind another -/
def bd {α β : Type} (f : En → Option (Rs α × En)) (k : α → En → Option (Rs β × En)) : En → Option (Rs β × En) := fun ρ => match f ρ with
  | some (.ok a, ρ1) => k a ρ1
  | some (.er x, ρ1) => some (.er x, ρ1)
  | none => none
theorem bd_inv {α β : Type} {f : En → Option (Rs α × En)} {k : α → En → Option (Rs β × En)} {ρ ρ' : En} {r : Rs β} (h : bd f k ρ = some (r, ρ')) :
    (∃ a ρ1, f ρ = some (.ok a, ρ1) ∧ k a ρ1 = some (r, ρ')) ∨ ∃ x, f ρ = some (.er x, ρ') ∧ r = .er x := by
  unfold bd at h
  split at h
  · rename_i a ρ1 e; exact .inl ⟨a, ρ1, e, h⟩
  · rename_i x ρ1 e; cases h; exact .inr ⟨x, e, rfl⟩
  · cases h
def fin1 (g : D → Option D) (a : AV) : EV := fun ρ => match res ρ a with
  | some d => (match g d with
    | some e => some (.ok e, ρ)
    | none => none)
  | none => none
def fin2 (g : D → D → Option D) (a b : AV) : EV := fun ρ => match res ρ a, res ρ b with
  | some d, some d' => (match g d d' with
    | some e => some (.ok e, ρ)
    | none => none)
  | _, _ => none
def e1 (g : D → Option D) (fa : OV) : EV := bd fa fun a => fin1 g a
def e2 (g : D → D → Option D) (fa fb : OV) : EV := bd fa fun a => bd fb fun b => fin2 g a b
def eC (d : D) : EV := fun ρ => some (.ok d, ρ)
def eVar (i : Nat) : EV := fun ρ => match look ρ i with
  | some d => if d.fz = true then some (.ok d, ρ) else some (.ok d.frz, put ρ i d.frz)
  | none => none
def oSlot (i : Nat) : OV := fun ρ => match look ρ i with
  | some _ => some (.ok (.slot i), ρ)
  | none => none
def oE (f : EV) : OV := bd f fun d ρ => some (.ok (.tmp d), ρ)

section
variable {S : Sc} {X : Cx} {ρ ρ' : En} {σ : St} {l : List V} {T : List (D × V)} {H : Hp} {W : WX} {x : Xn}
theorem KX.more (h : KX S X ρ σ l T W x) {B : List (D × V)} : KX S X ρ σ l (B ++ T) W x := fun c dd Lx H' hx hs => h c dd Lx H' hx (by
  obtain ⟨L, r, q⟩ := hs
  refine ⟨L, r, ?_⟩
  rw [← List.append_assoc] at q ⊢
  exact Rel.dropM q)
end
section
variable {K : PySem.W.Frag} {cls : Str → Addr} {H : Hp}
theorem Rel.fin {x : D × V} {L M T : List (D × V)} (h : Rel K cls (x :: (L ++ (M ++ T))) H) : Rel K cls (L ++ x :: T) H := by
  have p : (x :: (L ++ (M ++ T))).Perm (M ++ (L ++ x :: T)) := by
    have p1 : (L ++ (M ++ T)).Perm (M ++ (L ++ T)) := by
      rw [← List.append_assoc, ← List.append_assoc]
      exact List.perm_append_comm.append_right _
    refine (p1.cons x).trans ?_
    refine List.perm_middle.symm.trans ?_
    exact List.perm_middle.symm.append_left M
  exact (h.perm p).dropL
end

/-- what an operator by values is worth -/
def Op1 (K : PySem.W.Frag) (cls : Str → Addr) (r : V → Hp → VK → Prop) (g : D → Option D) : Prop := ∀ (L : List (D × V)) (H : Hp) (a d : D) (x : V) (Q : VK), Rel K cls L H → (a, x) ∈ L → g a = some d → (∀ v H', Rel K cls ((d, v) :: L) H' → Q v H') → r x H Q
def Op2 (K : PySem.W.Frag) (cls : Str → Addr) (r : R2) (g : D → D → Option D) : Prop := ∀ (L : List (D × V)) (H : Hp) (a b d : D) (x y : V) (Q : VK), Rel K cls L H → (a, x) ∈ L → (b, y) ∈ L → g a b = some d → (∀ v H', Rel K cls ((d, v) :: L) H' → Q v H') → r x y H Q

section
variable {S : Sc} {X : Cx} {ρ ρ' ρ1 : En} {σ : St} {l : List V} {T : List (D × V)} {H : Hp} {W : WX} {e a b : Expr} {f fa fb : OV}
theorem SO.run {β : Type} {k : AV → En → Option (Rs β × En)} {r : Rs β} {Q : VK} (ha : SO S e f) (hX : InD S X) (hS : SR X.K S.g.cls ρ σ l T H) (hf : bd f k ρ = some (r, ρ')) (tk : Takes X W) (kE : ∀ x, r = .er x → KX S X ρ' σ l T W x)
    (hk : ∀ a v H1 ρ1, k a ρ1 = some (r, ρ') → SR X.K S.g.cls ρ1 σ l (avT a v ++ T) H1 → avOk σ a v → Q v H1) : Bst X e σ H Q := by
  rcases bd_inv hf with ⟨a, ρ1, h1, h2⟩ | ⟨x, h1, h2⟩
  · exact ha.h X hX ρ ρ1 σ l T H _ hS h1 Q W tk (fun a' v H' e hs ho => by cases e; exact hk a v H' ρ1 h2 hs ho) (fun x e => by cases e)
  · exact ha.h X hX ρ ρ' σ l T H _ hS h1 Q W tk (fun a' v H' e hs ho => by cases e) (fun x' e => by cases e; exact kE x h2)
theorem SE.run {β : Type} {k : D → En → Option (Rs β × En)} {r : Rs β} {Q : VK} {f : EV} (ha : SE S e f) (hX : InD S X) (hS : SR X.K S.g.cls ρ σ l T H) (hf : bd f k ρ = some (r, ρ')) (tk : Takes X W) (kE : ∀ x, r = .er x → KX S X ρ' σ l T W x)
    (hk : ∀ d v H1 ρ1, k d ρ1 = some (r, ρ') → SR X.K S.g.cls ρ1 σ l ((d, v) :: T) H1 → Q v H1) : Bst X e σ H Q := by
  rcases bd_inv hf with ⟨a, ρ1, h1, h2⟩ | ⟨x, h1, h2⟩
  · exact ha.h X hX ρ ρ1 σ l T H _ hS h1 Q W tk (fun a' v H' e hs => by cases e; exact hk a v H' ρ1 h2 hs) (fun x e => by cases e)
  · exact ha.h X hX ρ ρ' σ l T H _ hS h1 Q W tk (fun a' v H' e hs => by cases e) (fun x' e => by cases e; exact kE x h2)
theorem ST.run {β : Type} {k : Bool → En → Option (Rs β × En)} {r : Rs β} {Q : Bool → Hp → Prop} {f : TV} (ha : ST S e f) (hX : InD S X) (hS : SR X.K S.g.cls ρ σ l T H) (hf : bd f k ρ = some (r, ρ')) (tk : Takes X W) (kE : ∀ x, r = .er x → KX S X ρ' σ l T W x)
    (hk : ∀ b H1 ρ1, k b ρ1 = some (r, ρ') → SR X.K S.g.cls ρ1 σ l T H1 → Q b H1) : BstT X e σ H Q := by
  rcases bd_inv hf with ⟨a, ρ1, h1, h2⟩ | ⟨x, h1, h2⟩
  · exact ha.h X hX ρ ρ1 σ l T H _ hS h1 Q W tk (fun a' H' e hs => by cases e; exact hk a H' ρ1 h2 hs) (fun x e => by cases e)
  · exact ha.h X hX ρ ρ' σ l T H _ hS h1 Q W tk (fun a' H' e hs => by cases e) (fun x' e => by cases e; exact kE x h2)
theorem SW.run {β : Type} {k : Bool → En → Option (Rs β × En)} {r : Rs β} {Q : Bool → Hp → Prop} {f : TV} (ha : SW S e f) (hX : InD S X) (hS : SR X.K S.g.cls ρ σ l T H) (hf : bd f k ρ = some (r, ρ')) (tk : Takes X W) (kE : ∀ x, r = .er x → KX S X ρ' σ l T W x)
    (hk : ∀ b H1 ρ1, k b ρ1 = some (r, ρ') → SR X.K S.g.cls ρ1 σ l T H1 → Q b H1) : BstW X e σ H Q := by
  rcases bd_inv hf with ⟨a, ρ1, h1, h2⟩ | ⟨x, h1, h2⟩
  · exact ha.h X hX ρ ρ1 σ l T H _ hS h1 Q W tk (fun a' H' e hs => by cases e; exact hk a H' ρ1 h2 hs) (fun x e => by cases e)
  · exact ha.h X hX ρ ρ' σ l T H _ hS h1 Q W tk (fun a' H' e hs => by cases e) (fun x' e => by cases e; exact kE x h2)

/-- an operand's value among the held ones -/
theorem res_mem {K : PySem.W.Frag} {a : AV} {d : D} {x : V} {L : List (D × V)} (r : ER ρ σ l L) (o : avOk σ a x) (h : res ρ a = some d) : (d, x) ∈ L ∨ avT a x = [(d, x)] := by
  cases a with
  | tmp d' => cases h; exact .inr rfl
  | slot i =>
    obtain ⟨v, h1, h2⟩ := r.get h
    have e : some (some v) = some (some x) := h1.symm.trans o
    cases e
    exact .inl h2
theorem fin1_end {g : D → Option D} {av : AV} {x : V} {r : Rs D} {Q : VK} {rr : V → Hp → VK → Prop} {K : PySem.W.Frag} {cls : Str → Addr} (hop : Op1 K cls rr g) (hS : SR K cls ρ σ l (avT av x ++ T) H) (o : avOk σ av x) (hf : fin1 g av ρ = some (r, ρ'))
    (kO : ∀ d v H', r = .ok d → SR K cls ρ' σ l ((d, v) :: T) H' → Q v H') : rr x H Q := by
  unfold fin1 at hf
  split at hf
  · rename_i d hd
    split at hf
    · rename_i e he
      cases hf
      obtain ⟨L, er, q⟩ := hS
      refine hop (L ++ (avT av x ++ T)) H d e x Q q ?_ he fun v H' q' => kO e v H' rfl ⟨L, er, q'.fin⟩
      rcases res_mem (K := K) er o hd with z | z
      · exact List.mem_append_left _ z
      · rw [z]; exact List.mem_append_right _ List.mem_cons_self
    · cases hf
  · cases hf
theorem fin2_end {g : D → D → Option D} {av bv : AV} {x y : V} {r : Rs D} {Q : VK} {rr : R2} {K : PySem.W.Frag} {cls : Str → Addr} (hop : Op2 K cls rr g) (hS : SR K cls ρ σ l (avT bv y ++ (avT av x ++ T)) H) (oa : avOk σ av x) (ob : avOk σ bv y) (hf : fin2 g av bv ρ = some (r, ρ'))
    (kO : ∀ d v H', r = .ok d → SR K cls ρ' σ l ((d, v) :: T) H' → Q v H') : rr x y H Q := by
  unfold fin2 at hf
  split at hf
  · rename_i d d' hd hd'
    split at hf
    · rename_i e he
      cases hf
      obtain ⟨L, er, q⟩ := hS
      refine hop (L ++ (avT bv y ++ (avT av x ++ T))) H d d' e x y Q q ?_ ?_ he fun v H' q' => kO e v H' rfl ⟨L, er, ?_⟩
      · rcases res_mem (K := K) er oa hd with z | z
        · exact List.mem_append_left _ z
        · rw [z]; exact List.mem_append_right _ (List.mem_append_right _ List.mem_cons_self)
      · rcases res_mem (K := K) er ob hd' with z | z
        · exact List.mem_append_left _ z
        · rw [z]; exact List.mem_append_right _ List.mem_cons_self
      · rw [← List.append_assoc (avT bv y)] at q'
        exact q'.fin
    · cases hf
  · cases hf

/-! ### operands -/
theorem so_e {f : EV} (h : SE S e f) : SO S e (oE f) := by
  refine ⟨?_⟩; intro X hX ρ ρ' σ l T H r hS hf Q W tk kO kE
  refine h.run hX hS hf tk kE fun d v H1 ρ1 hk S1 => ?_
  cases hk
  exact kO _ v H1 rfl S1 trivial
theorem so_v (i : Nat) {x : Str} {pos : Pos} (hN : S.N[i]? = some x := by rfl) (hv : Vis S.scope x := by first | exact Or.inl rfl | exact Or.inr (Or.inl rfl) | exact Or.inr (Or.inr rfl)) (hd : (x == ("__debug__" : Str)) = false := by decide)
    (hcd : (x == ("__classdict__" : Str)) = false := by decide) : SO S (.Name x pos) (oSlot i) := by
  refine ⟨?_⟩; intro X hX ρ ρ' σ l T H r hS hf Q W tk kO kE
  unfold oSlot at hf
  split at hf
  · rename_i d hl
    cases hf
    obtain ⟨L, er, q⟩ := id hS
    obtain ⟨v, h1, h2⟩ := er.get hl
    refine Bst.of (pe_var (i := i) (by rw [hX.N]; exact hN) (by rw [hX.scope]; exact hv) hd hcd) ⟨v, h1, kO _ v H rfl hS h1⟩
  · cases hf
theorem se_v (i : Nat) {x : Str} {pos : Pos} (hN : S.N[i]? = some x := by rfl) (hv : Vis S.scope x := by first | exact Or.inl rfl | exact Or.inr (Or.inl rfl) | exact Or.inr (Or.inr rfl)) (hd : (x == ("__debug__" : Str)) = false := by decide)
    (hcd : (x == ("__classdict__" : Str)) = false := by decide) : SE S (.Name x pos) (eVar i) := by
  refine ⟨?_⟩; intro X hX ρ ρ' σ l T H r hS hf Q W tk kO kE
  unfold eVar at hf
  split at hf
  · rename_i d hl
    split at hf
    · rename_i hz
      cases hf
      obtain ⟨L, er, q⟩ := id hS
      obtain ⟨v, h1, h2⟩ := er.get hl
      refine Bst.of (pe_var (i := i) (by rw [hX.N]; exact hN) (by rw [hX.scope]; exact hv) hd hcd) ⟨v, h1, kO _ v H rfl ⟨L, er, ?_⟩⟩
      obtain ⟨L0, p⟩ := mem_split (List.mem_append_left T h2)
      have q1 := (q.perm p).dup hz
      have p2 : ((d, v) :: (d, v) :: L0).Perm ((d, v) :: (L ++ T)) := p.symm.cons _
      exact (q1.perm p2).perm List.perm_middle.symm
    · cases hf
      obtain ⟨L, er, q⟩ := id hS
      obtain ⟨v, L0, L', h1, h2, h3, h4⟩ := er.put d.frz hl
      refine Bst.of (pe_var (i := i) (by rw [hX.N]; exact hN) (by rw [hX.scope]; exact hv) hd hcd) ⟨v, h1, kO _ v H rfl ⟨L', h3, ?_⟩⟩
      have fzf : d.frz.fz = true := by cases d <;> rfl
      have q1 : Rel X.K S.g.cls ((d, v) :: (L0 ++ T)) H := q.perm (h2.append_right T)
      have q2 := q1.freeze.dup fzf
      have p2 : ((d.frz, v) :: (d.frz, v) :: (L0 ++ T)).Perm ((d.frz, v) :: (L' ++ T)) := (h4.symm.append_right T).cons _
      exact (q2.perm p2).perm List.perm_middle.symm
  · cases hf

/-! ### constants -/
theorem Rel.sc {K : PySem.W.Frag} {cls : Str → Addr} {L : List (D × V)} {d : D} {v : V} (h : Rel K cls L H) (r : ∀ ow, RD K cls H ow d v []) : Rel K cls ((d, v) :: L) H := by
  obtain ⟨A, nd, q⟩ := h
  exact ⟨A, nd, RDl.cons (os := []) (r _) q⟩
theorem SR.sc {K : PySem.W.Frag} {cls : Str → Addr} {d : D} {v : V} (h : SR K cls ρ σ l T H) (r : ∀ ow, RD K cls H ow d v []) : SR K cls ρ σ l ((d, v) :: T) H := by
  obtain ⟨L, er, q⟩ := h
  exact ⟨L, er, (Rel.sc q r).perm List.perm_middle.symm⟩
theorem se_int {i : Int} {j : Nat} {pos : Pos} : SE S (.Constant (.int i) j pos) (eC (.int i)) := by
  refine ⟨?_⟩; intro X hX ρ ρ' σ l T H r hS hf Q W tk kO kE
  cases hf
  exact Bst.of pe_int (kO _ _ H rfl (hS.sc fun _ => .int i))
theorem se_bl {i : Bool} {j : Nat} {pos : Pos} : SE S (.Constant (.bool i) j pos) (eC (.bl i)) := by
  refine ⟨?_⟩; intro X hX ρ ρ' σ l T H r hS hf Q W tk kO kE
  cases hf
  exact Bst.of pe_bl (kO _ _ H rfl (hS.sc fun _ => .bl i))
theorem se_non {j : Nat} {pos : Pos} : SE S (.Constant .none j pos) (eC .non) := by
  refine ⟨?_⟩; intro X hX ρ ρ' σ l T H r hS hf Q W tk kO kE
  cases hf
  exact Bst.of pe_non (kO _ _ H rfl (hS.sc fun _ => .non))
theorem se_str {x : Str} {j : Nat} {pos : Pos} : SE S (.Constant (.str x) j pos) (eC (.str x)) := by
  refine ⟨?_⟩; intro X hX ρ ρ' σ l T H r hS hf Q W tk kO kE
  cases hf
  exact Bst.of pe_str (kO _ _ H rfl (hS.sc fun _ => .str x))
theorem gl_of (hX : InD S X) {x : Str} (hg : S.scope.names.lookup x = some .globalImplicit) : Gl X x := by
  show X.env.scope.names.lookup x = some .globalImplicit
  rw [hX.scope]; exact hg
/-- a text of the module -/
theorem se_gstr {x : Str} {z : Str} {pos : Pos} (hm : ∃ t, S.g.mg x = some (.str z t)) (hg : S.scope.names.lookup x = some .globalImplicit := by rfl) (hd : (x == ("__debug__" : Str)) = false := by decide) : SE S (.Name x pos) (eC (.str z)) := by
  refine ⟨?_⟩; intro X hX ρ ρ' σ l T H r hS hf Q W tk kO kE
  cases hf
  obtain ⟨t, hm⟩ := hm
  exact Bst.of (pe_glob (v := .str z) (gl_of hX hg) (by rw [hX.mg]; exact hm) (show RelV (.str z) (.str z t) from ⟨t, rfl⟩) hd) (kO _ _ H rfl (hS.sc fun _ => .str z))

/-! ### operators -/
theorem se_bin {op : Operator} {g : D → D → Option D} {pos : Pos} {rr : Cx → R2} (ho : ∀ X, InD S X → OpR X (binaryOp op) (rr X) ∧ Op2 X.K S.g.cls (rr X) g) (ha : SO S a fa) (hb : SO S b fb) : SE S (.BinOp a op b pos) (e2 g fa fb) := by
  refine ⟨?_⟩; intro X hX ρ ρ' σ l T H r hS hf Q W tk kO kE
  refine Bst.of (pe_op (ho X hX).1 bst bst) ?_
  refine ha.run hX hS hf tk kE fun av x H1 ρ1 h1 S1 o1 => ?_
  refine hb.run hX S1 h1 tk (fun x e => (kE x e).more) fun bv y H2 ρ2 h2 S2 o2 => ?_
  exact fin2_end (ho X hX).2 S2 o1 o2 h2 kO
theorem se_cmp {op : CmpOp} {g : D → D → Option D} {pos : Pos} {rr : Cx → R2} (ho : ∀ X, InD S X → OpR X (compareOp op) (rr X) ∧ Op2 X.K S.g.cls (rr X) g) (ha : SO S a fa) (hb : SO S b fb) (hm : behindInMarks op b = false) : SE S (.Compare a [op] [b] pos) (e2 g fa fb) := by
  refine ⟨?_⟩; intro X hX ρ ρ' σ l T H r hS hf Q W tk kO kE
  refine Bst.of (pe_cmpR (ho X hX).1 bst bst hm) ?_
  refine ha.run hX hS hf tk kE fun av x H1 ρ1 h1 S1 o1 => ?_
  refine hb.run hX S1 h1 tk (fun x e => (kE x e).more) fun bv y H2 ρ2 h2 S2 o2 => ?_
  exact fin2_end (ho X hX).2 S2 o1 o2 h2 kO
/-- a value as a test -/
def tB1 : D → TV := fun d ρ => match d with
  | .bl b => some (.ok b, ρ)
  | _ => none
def tE (f : EV) : TV := bd f tB1
theorem tB1_inv {d : D} {r : Rs Bool} (h : tB1 d ρ = some (r, ρ')) : ∃ b, d = .bl b ∧ r = .ok b ∧ ρ' = ρ := by
  cases d <;> simp only [tB1] at h <;> cases h
  exact ⟨_, rfl, rfl, rfl⟩
theorem SR.bl {K : PySem.W.Frag} {cls : Str → Addr} {b : Bool} {v : V} (h : SR K cls ρ σ l ((.bl b, v) :: T) H) : v = .bl b := by
  obtain ⟨L, er, A, nd, q⟩ := h
  obtain ⟨o, rd, _⟩ := q.mem (d := .bl b) (v := v) (List.mem_append_right _ List.mem_cons_self)
  cases rd; rfl
theorem st_cmp {op : CmpOp} {g : D → D → Option D} {pos : Pos} {rr : Cx → R2} (ho : ∀ X, InD S X → OpR X (compareOp op) (rr X) ∧ Op2 X.K S.g.cls (rr X) g) (ha : SO S a fa) (hb : SO S b fb) (hm : behindInMarks op b = false) : ST S (.Compare a [op] [b] pos) (tE (e2 g fa fb)) := by
  refine ⟨?_⟩; intro X hX ρ ρ' σ l T H r hS hf Q W tk kO kE
  refine BstT.of (pt_cmpR (ho X hX).1 bst bst hm) ?_
  have key : ∀ (r1 : Rs D) (ρ1 : En), e2 g fa fb ρ = some (r1, ρ1) → (∀ d v H', r1 = .ok d → SR X.K S.g.cls ρ1 σ l ((d, v) :: T) H' → ∃ k, v = .bl k ∧ Q k H') → (∀ x, r1 = .er x → KX S X ρ1 σ l T W x) →
      tTest (tOp (rr X) (Bst X a) (Bst X b)) σ H Q := fun r1 ρ1 h1 kO1 kE1 => by
    refine ha.run hX hS h1 tk kE1 fun av x H1 ρ1 h1 S1 o1 => ?_
    refine hb.run hX S1 h1 tk (fun x e => (kE1 x e).more) fun bv y H2 ρ2 h2 S2 o2 => ?_
    exact fin2_end (ho X hX).2 S2 o1 o2 h2 kO1
  rcases bd_inv hf with ⟨d, ρ1, h1, h2⟩ | ⟨x, h1, h2⟩
  · obtain ⟨b', rfl, rfl, rfl⟩ := tB1_inv h2
    exact key _ _ h1 (fun d v H' e S' => by cases e; exact ⟨b', S'.bl, kO b' H' rfl S'.dropT⟩) (fun x e => by cases e)
  · exact key _ _ h1 (fun d v H' e S' => by cases e) (fun x' e => by cases e; exact kE x h2)
theorem st_val {f : EV} (h : SE S e f) (he : ∀ (env : Env) whole, isTrue e env whole = (do let v ← whole; standAt e.pos; holding [v] (truthy v)) := by intro _ _; rfl) : ST S e (tE f) := by
  refine ⟨?_⟩; intro X hX ρ ρ' σ l T H r hS hf Q W tk kO kE
  refine BstT.of (pt_val bst (he X.env)) ?_
  refine h.run hX hS hf tk kE fun d v H1 ρ1 h2 S1 => ?_
  obtain ⟨b', rfl, rfl, rfl⟩ := tB1_inv h2
  exact ⟨b', S1.bl, kO b' H1 rfl S1.dropT⟩
/-! ### and, or, not, if -/
def tAnd2 (f g : TV) : TV := bd f fun b => if b = true then g else fun ρ => some (.ok false, ρ)
def tOr2 (f g : TV) : TV := bd f fun b => if b = true then (fun ρ => some (.ok true, ρ)) else g
def tNot1 (f : TV) : TV := bd f fun b ρ => some (.ok (!b), ρ)
variable {f1 f2 : TV} {rest : List Expr} {pos : Pos}
theorem sw_and1 (h : ST S a f1) : SW S (.BoolOp .And [a] pos) f1 := by
  refine ⟨?_⟩; intro X hX ρ ρ' σ l T H r hS hf Q W tk kO kE
  exact BstW.of (pw_and1 bstT) (h.h X hX ρ ρ' σ l T H r hS hf Q W tk kO kE)
theorem sw_or1 (h : ST S a f1) : SW S (.BoolOp .Or [a] pos) f1 := by
  refine ⟨?_⟩; intro X hX ρ ρ' σ l T H r hS hf Q W tk kO kE
  exact BstW.of (pw_or1 bstT) (h.h X hX ρ ρ' σ l T H r hS hf Q W tk kO kE)
theorem sw_and (h : ST S a f1) (h2 : SW S (.BoolOp .And (b :: rest) pos) f2) : SW S (.BoolOp .And (a :: b :: rest) pos) (tAnd2 f1 f2) := by
  refine ⟨?_⟩; intro X hX ρ ρ' σ l T H r hS hf Q W tk kO kE
  refine BstW.of (pw_and bstT bstW) ?_
  refine h.run hX hS hf tk kE fun c H1 ρ1 hk S1 => ?_
  cases c with
  | true => exact h2.h X hX ρ1 ρ' σ l T H1 r S1 hk Q W tk kO kE
  | false => cases hk; exact kO false H1 rfl S1
theorem sw_or (h : ST S a f1) (h2 : SW S (.BoolOp .Or (b :: rest) pos) f2) : SW S (.BoolOp .Or (a :: b :: rest) pos) (tOr2 f1 f2) := by
  refine ⟨?_⟩; intro X hX ρ ρ' σ l T H r hS hf Q W tk kO kE
  refine BstW.of (pw_or bstT bstW) ?_
  refine h.run hX hS hf tk kE fun c H1 ρ1 hk S1 => ?_
  cases c with
  | false => exact h2.h X hX ρ1 ρ' σ l T H1 r S1 hk Q W tk kO kE
  | true => cases hk; exact kO true H1 rfl S1
theorem st_w (h : SW S e f1) : ST S e f1 := by
  refine ⟨?_⟩; intro X hX ρ ρ' σ l T H r hS hf Q W tk kO kE
  exact BstT.of bstW.pt (h.h X hX ρ ρ' σ l T H r hS hf Q W tk kO kE)
theorem st_not (h : ST S a f1) : ST S (.UnaryOp .Not a pos) (tNot1 f1) := by
  refine ⟨?_⟩; intro X hX ρ ρ' σ l T H r hS hf Q W tk kO kE
  refine BstT.of (pt_not bstT) ?_
  refine h.run hX hS hf tk kE fun c H1 ρ1 hk S1 => ?_
  cases hk; exact kO _ H1 rfl S1
/-! .. as values -/
def eAnd2 (f g : EV) : EV := bd f fun d => match d with
  | .bl true => g
  | .bl false => fun ρ => some (.ok (.bl false), ρ)
  | _ => fun _ => none
def eOr2 (f g : EV) : EV := bd f fun d => match d with
  | .bl true => fun ρ => some (.ok (.bl true), ρ)
  | .bl false => g
  | _ => fun _ => none
def eNot1 (f : EV) : EV := bd f fun d => match d with
  | .bl b => fun ρ => some (.ok (.bl (!b)), ρ)
  | _ => fun _ => none
def eIf (t : TV) (f g : EV) : EV := bd t fun b => if b = true then f else g
variable {ev1 ev2 : EV}
theorem se_one {op : BoolOp} (h : SE S a ev1) : SE S (.BoolOp op [a] pos) ev1 := by
  refine ⟨?_⟩; intro X hX ρ ρ' σ l T H r hS hf Q W tk kO kE
  exact Bst.of (pe_one bst) (h.h X hX ρ ρ' σ l T H r hS hf Q W tk kO kE)
theorem se_and (h : SE S a ev1) (h2 : SE S (.BoolOp .And (b :: rest) pos) ev2) : SE S (.BoolOp .And (a :: b :: rest) pos) (eAnd2 ev1 ev2) := by
  refine ⟨?_⟩; intro X hX ρ ρ' σ l T H r hS hf Q W tk kO kE
  refine Bst.of (pe_and bst bst) ?_
  refine h.run hX hS hf tk kE fun d v H1 ρ1 hk S1 => ?_
  split at hk
  · exact ⟨true, S1.bl, h2.h X hX ρ1 ρ' σ l T H1 r S1.dropT hk Q W tk kO kE⟩
  · cases hk
    have e := S1.bl
    subst e
    exact ⟨false, rfl, kO _ _ H1 rfl S1⟩
  · cases hk
theorem se_or (h : SE S a ev1) (h2 : SE S (.BoolOp .Or (b :: rest) pos) ev2) : SE S (.BoolOp .Or (a :: b :: rest) pos) (eOr2 ev1 ev2) := by
  refine ⟨?_⟩; intro X hX ρ ρ' σ l T H r hS hf Q W tk kO kE
  refine Bst.of (pe_or bst bst) ?_
  refine h.run hX hS hf tk kE fun d v H1 ρ1 hk S1 => ?_
  split at hk
  · cases hk
    have e := S1.bl
    subst e
    exact ⟨true, rfl, kO _ _ H1 rfl S1⟩
  · exact ⟨false, S1.bl, h2.h X hX ρ1 ρ' σ l T H1 r S1.dropT hk Q W tk kO kE⟩
  · cases hk
theorem se_not (h : SE S a ev1) : SE S (.UnaryOp .Not a pos) (eNot1 ev1) := by
  refine ⟨?_⟩; intro X hX ρ ρ' σ l T H r hS hf Q W tk kO kE
  refine Bst.of (pe_not bst) ?_
  refine h.run hX hS hf tk kE fun d v H1 ρ1 hk S1 => ?_
  split at hk
  · rename_i b'
    cases hk
    have e := S1.bl
    subst e
    exact ⟨b', rfl, kO _ _ H1 rfl (S1.dropT.sc fun _ => .bl _)⟩
  · cases hk
theorem se_ifExp {c : Expr} {t : TV} (hc : ST S c t) (ha : SE S a ev1) (hb : SE S b ev2) : SE S (.IfExp c a b pos) (eIf t ev1 ev2) := by
  refine ⟨?_⟩; intro X hX ρ ρ' σ l T H r hS hf Q W tk kO kE
  refine Bst.of (pe_ifExp bstT bst bst) ?_
  refine hc.run hX hS hf tk kE fun c H1 ρ1 hk S1 => ?_
  cases c with
  | true => exact ha.h X hX ρ1 ρ' σ l T H1 r S1 hk Q W tk kO kE
  | false => exact hb.h X hX ρ1 ρ' σ l T H1 r S1 hk Q W tk kO kE
end
end L2.Ev
namespace L2.Ev
open PySem PySem.Spec PyProof.Rows

/-! ### places -/
section
variable {K : PySem.W.Frag} {cls : Str → Addr} {H H' : Hp} {ow ow' : Addr → Prop}
mutual
theorem RD.owned : ∀ {d : D} {v : V} {os : List Addr}, RD K cls H ow d v os → ∀ a ∈ os, H a ≠ none
  | _, _, _, .non, _, z | _, _, _, .bl _, _, z | _, _, _, .int _, _, z | _, _, _, .str _, _, z | _, _, _, .tup _ _ _, _, z | _, _, _, .tupK _ _, _, z | _, _, _, .lstF _ _ _, _, z | _, _, _, .lck _ _ _, _, z | _, _, _, .lckK _ _, _, z | _, _, _, .dctF _ _ _, _, z | _, _, _, .insF _ _ _, _, z | _, _, _, .xd _ _ _, _, z => nomatch z
  | _, _, _, .lstO h _, a, z => by
    rw [List.mem_singleton.mp z, h]; exact Option.some_ne_none _
  | _, _, _, .dctO h r, a, z => by
    rcases List.mem_cons.mp z with e | z
    · rw [e, h]; exact Option.some_ne_none _
    · exact RDk.owned r a z
  | _, _, _, .insO h r, a, z => by
    rcases List.mem_cons.mp z with e | z
    · rw [e, h]; exact Option.some_ne_none _
    · exact RDf.owned r a z
theorem RDk.owned : ∀ {d : List (Key × D)} {v : List (Key × V)} {os : List Addr}, RDk K cls H ow d v os → ∀ a ∈ os, H a ≠ none
  | _, _, _, .nil, _, z => nomatch z
  | _, _, _, .cons r t, a, z => (List.mem_append.mp z).elim (RD.owned r a) (RDk.owned t a)
theorem RDf.owned : ∀ {d : List (Str × D)} {v : List (Str × V)} {os : List Addr}, RDf K cls H ow d v os → ∀ a ∈ os, H a ≠ none
  | _, _, _, .nil, _, z => nomatch z
  | _, _, _, .cons r t, a, z => (List.mem_append.mp z).elim (RD.owned r a) (RDf.owned t a)
end
theorem RDl.owned : ∀ {L : List (D × V)} {os : List Addr}, RDl K cls H ow L os → ∀ a ∈ os, H a ≠ none
  | _, _, .nil, _, z => nomatch z
  | _, _, .cons r t, a, z => (List.mem_append.mp z).elim (RD.owned r a) (RDl.owned t a)
variable {A : List Addr} {L : List (D × V)} {p : Addr} {u : HO}
theorem fresh_move (hp : H p = none) : ∀ a o, H a = some o → ¬ a ∈ A → upd H p u a = some o ∧ ¬ a ∈ (p :: A) := fun a o e n => by
  have hne : a ≠ p := ne_of_none e hp
  refine ⟨by rw [upd_ne hne]; exact e, fun z => ?_⟩
  rcases List.mem_cons.mp z with z | z
  · exact hne z
  · exact n z
theorem fresh_move0 (hp : H p = none) : ∀ a o, H a = some o → ¬ a ∈ A → upd H p u a = some o ∧ ¬ a ∈ A := fun a o e n => ⟨by rw [upd_ne (ne_of_none e hp)]; exact e, n⟩
theorem Rel.newL {xs : List D} {vs : List V} (nd : A.Nodup) (q : RDl K cls H (fun a => a ∈ A) L A) (hp : H p = none) (r : RDs K cls H (fun a => a ∈ A) xs vs []) : Rel K cls ((.lst true xs, .ref p) :: L) (upd H p (.lst vs)) := by
  have hn : p ∉ A := fun z => q.owned p z hp
  refine ⟨p :: A, List.nodup_cons.mpr ⟨hn, nd⟩, RDl.cons (os := [p]) (os' := A) (.lstO upd_same (r.move (fresh_move hp) (fun _ z => nomatch z))) (q.move (fresh_move hp) fun a z => upd_ne fun e => hn (e ▸ z))⟩
theorem Rel.newT {xs : List D} {vs : List V} (nd : A.Nodup) (q : RDl K cls H (fun a => a ∈ A) L A) (hp : H p = none) (r : RDs K cls H (fun a => a ∈ A) xs vs []) : Rel K cls ((.tup xs, .ref p) :: L) (upd H p (.tup vs)) := by
  have hn : p ∉ A := fun z => q.owned p z hp
  refine ⟨A, nd, RDl.cons (os := []) (os' := A) (.tup upd_same hn (r.move (fresh_move0 hp) (fun _ z => nomatch z))) (q.move (fresh_move0 hp) fun a z => upd_ne fun e => hn (e ▸ z))⟩
theorem Rel.newD {ks : List (Key × D)} {kvs : List (Key × V)} (nd : A.Nodup) (q : RDl K cls H (fun a => a ∈ A) L A) (hp : H p = none) (r : RDk K cls H (fun a => a ∈ A) ks kvs []) : Rel K cls ((.dct true ks, .ref p) :: L) (upd H p (.dK kvs)) := by
  have hn : p ∉ A := fun z => q.owned p z hp
  refine ⟨p :: A, List.nodup_cons.mpr ⟨hn, nd⟩, RDl.cons (os := [p]) (os' := A) (.dctO (os := []) upd_same (r.move (fresh_move hp) (fun _ z => nomatch z))) (q.move (fresh_move hp) fun a z => upd_ne fun e => hn (e ▸ z))⟩
/-- what is read of a list, a tuple -/
theorem RD.isL {o : Bool} {xs : List D} {x : V} {os : List Addr} (r : RD K cls H ow (.lst o xs) x os) : ∃ p vs, x = .ref p ∧ H p = some (.lst vs) ∧ RDs K cls H ow xs vs [] := by
  cases r with
  | lstF h _ r => exact ⟨_, _, rfl, h, r⟩
  | lstO h r => exact ⟨_, _, rfl, h, r⟩
theorem RD.isT {xs : List D} {x : V} {os : List Addr} (r : RD K cls H ow (.tup xs) x os) : ∃ p vs, x = .ref p ∧ SqT K H p vs ∧ RDs K cls H ow xs vs [] := by
  cases r with
  | tup h _ r => exact ⟨_, _, rfl, .inl (.inl h), r⟩
  | tupK h r => exact ⟨_, _, rfl, h _, r⟩
theorem RD.isK {xs : List D} {x : V} {os : List Addr} (r : RD K cls H ow (.lck xs) x os) : ∃ p vs, x = .ref p ∧ SqL K H p vs ∧ RDs K cls H ow xs vs [] := by
  cases r with
  | lck h _ r => exact ⟨_, _, rfl, .inl (.inr ⟨_, h⟩), r⟩
  | lckK h r => exact ⟨_, _, rfl, h _, r⟩
theorem RD.isD {o : Bool} {ks : List (Key × D)} {x : V} {os : List Addr} (r : RD K cls H ow (.dct o ks) x os) : ∃ p kvs os', x = .ref p ∧ H p = some (.dK kvs) ∧ RDk K cls H ow ks kvs os' := by
  cases r with
  | dctF h _ r => exact ⟨_, _, _, rfl, h, r⟩
  | dctO h r => exact ⟨_, _, _, rfl, h, r⟩
theorem RD.isI {i : Int} {x : V} {os : List Addr} (r : RD K cls H ow (.int i) x os) : x = .int i := by cases r; rfl
theorem RD.isS {i : Str} {x : V} {os : List Addr} (r : RD K cls H ow (.str i) x os) : x = .str i := by cases r; rfl
theorem RD.isB {i : Bool} {x : V} {os : List Addr} (r : RD K cls H ow (.bl i) x os) : x = .bl i := by cases r; rfl
end

/-! ### operators -/
def small (i : Int) : Bool := decide (-(2 ^ 64) < i ∧ i < 2 ^ 64)
def gAdd : D → D → Option D
  | .int i, .int j => some (.int (i + j))
  | .str x, .str y => if x.length + y.length ≤ sizeLine then some (.str (x ++ y)) else none
  | .lst _ xs, .lst _ ys => if xs.length + ys.length ≤ sizeLine then some (.lst true (xs ++ ys)) else none
  | .tup xs, .tup ys => if xs.length + ys.length ≤ sizeLine then some (.tup (xs ++ ys)) else none
  | _, _ => none
def gSub : D → D → Option D
  | .int i, .int j => some (.int (i - j))
  | _, _ => none
def gMul : D → D → Option D
  | .int i, .int j => if small i = true ∨ small j = true then some (.int (i * j)) else none
  | .lst _ xs, .int k => if k ≤ 1000 ∧ -1000 ≤ k ∧ xs.length ≤ 1000 then some (.lst true (List.replicate k.toNat xs).flatten) else none
  | .tup xs, .int k => if xs ≠ [] ∧ 2 ≤ k ∧ k ≤ 1000 ∧ xs.length ≤ 1000 then some (.tup (List.replicate k.toNat xs).flatten) else none
  | _, _ => none
def gFdiv : D → D → Option D
  | .int i, .int j => if 0 < j ∧ j < 2 ^ 64 then some (.int (i / j)) else none
  | _, _ => none
def gMod : D → D → Option D
  | .int i, .int j => if 0 < j then some (.int (i % j)) else none
  | _, _ => none
def gPow : D → D → Option D
  | .int i, .int j => if 0 ≤ j ∧ j ≤ 1000 ∧ small i = true then some (.int (i ^ j.toNat)) else none
  | _, _ => none
section
variable {S : Sc} {a b : Expr} {fa fb : OV} {pos : Pos}
/-- a result that is no object -/
theorem Rel.ofI {K : PySem.W.Frag} {cls : Str → Addr} {L : List (D × V)} {H : Hp} (h : Rel K cls L H) (i : Int) : Rel K cls ((.int i, .int i) :: L) H := h.sc fun _ => .int i
theorem Rel.ofB {K : PySem.W.Frag} {cls : Str → Addr} {L : List (D × V)} {H : Hp} (h : Rel K cls L H) (i : Bool) : Rel K cls ((.bl i, .bl i) :: L) H := h.sc fun _ => .bl i
theorem Rel.ofS {K : PySem.W.Frag} {cls : Str → Addr} {L : List (D × V)} {H : Hp} (h : Rel K cls L H) (i : Str) : Rel K cls ((.str i, .str i) :: L) H := h.sc fun _ => .str i
theorem small_of {i : Int} (h : small i = true) : -(2 ^ 64) < i ∧ i < 2 ^ 64 := of_decide_eq_true h
theorem se_add (ha : SO S a fa) (hb : SO S b fb) : SE S (.BinOp a .Add b pos) (e2 gAdd fa fb) := by
  refine se_bin (rr := fun X x y H Q => rI0 (fun i j => .int (i + j)) x y H Q ∨ (∃ i j, x = .str i ∧ y = .str j ∧ i.length + j.length ≤ sizeLine ∧ Q (.str (i ++ j)) H) ∨ rCat x y H Q ∨ rCatA X.K x y H Q) (fun X hX => ⟨op_add.or (op_add_str.or (op_cat.or op_catA)), ?_⟩) ha hb
  intro L H a b d x y Q hL ma mb hg k
  obtain ⟨A, nd, q⟩ := id hL
  obtain ⟨_, ra, _⟩ := q.mem ma
  obtain ⟨_, rb, _⟩ := q.mem mb
  unfold gAdd at hg
  split at hg
  · cases hg
    exact .inl ⟨_, _, ra.isI, rb.isI, k _ _ (hL.ofI _)⟩
  · split at hg
    · rename_i hz
      cases hg
      exact .inr (.inl ⟨_, _, ra.isS, rb.isS, hz, k _ _ (hL.ofS _)⟩)
    · cases hg
  · split at hg
    · rename_i hz
      cases hg
      obtain ⟨p, vs, rfl, h1, r1⟩ := ra.isL
      obtain ⟨p', vs', rfl, h2, r2⟩ := rb.isL
      exact .inr (.inr (.inl ⟨p, p', vs, vs', rfl, rfl, h1, h2, by rw [r1.length, r2.length]; exact hz, fun z hz => k _ _ (Rel.newL nd q hz (r1.append r2))⟩))
    · cases hg
  · split at hg
    · rename_i hz
      cases hg
      obtain ⟨p, vs, rfl, h1, r1⟩ := ra.isT
      obtain ⟨p', vs', rfl, h2, r2⟩ := rb.isT
      refine .inr (.inr (.inr ⟨p, p', vs, vs', rfl, rfl, h1, h2, by rw [r1.length, r2.length]; exact hz, fun e => ?_, fun hne e => ?_, fun _ _ z hz => k _ _ (Rel.newT nd q hz (r1.append r2))⟩))
      · subst e
        have e := r1.length.symm
        rename_i xs ys
        have : xs = [] := List.eq_nil_of_length_eq_zero e
        subst this
        refine k _ _ (Rel.add nd q ?_)
        have z := rb.fzo rfl
        subst z; exact rb
      · subst e
        have e := r2.length.symm
        rename_i xs ys
        have : ys = [] := List.eq_nil_of_length_eq_zero e
        subst this
        refine k _ _ (Rel.add nd q ?_)
        have z := ra.fzo rfl
        subst z
        rw [List.append_nil]; exact ra
    · cases hg
  · cases hg
theorem se_sub (ha : SO S a fa) (hb : SO S b fb) : SE S (.BinOp a .Sub b pos) (e2 gSub fa fb) := by
  refine se_bin (rr := fun X => rI0 (fun i j => .int (i - j))) (fun X hX => ⟨op_sub, ?_⟩) ha hb
  intro L H a b d x y Q hL ma mb hg k
  obtain ⟨A, nd, q⟩ := id hL
  obtain ⟨_, ra, _⟩ := q.mem ma
  obtain ⟨_, rb, _⟩ := q.mem mb
  unfold gSub at hg
  split at hg
  · cases hg
    exact ⟨_, _, ra.isI, rb.isI, k _ _ (hL.ofI _)⟩
  · cases hg
theorem se_mod (ha : SO S a fa) (hb : SO S b fb) : SE S (.BinOp a .Mod b pos) (e2 gMod fa fb) := by
  refine se_bin (rr := fun X => rI (fun _ j => 0 < j) (fun i j => .int (i % j))) (fun X hX => ⟨op_mod, ?_⟩) ha hb
  intro L H a b d x y Q hL ma mb hg k
  obtain ⟨A, nd, q⟩ := id hL
  obtain ⟨_, ra, _⟩ := q.mem ma
  obtain ⟨_, rb, _⟩ := q.mem mb
  unfold gMod at hg
  split at hg
  · split at hg
    · rename_i h0
      cases hg
      exact ⟨_, _, ra.isI, rb.isI, h0, k _ _ (hL.ofI _)⟩
    · cases hg
  · cases hg
theorem se_fdiv (ha : SO S a fa) (hb : SO S b fb) : SE S (.BinOp a .FloorDiv b pos) (e2 gFdiv fa fb) := by
  refine se_bin (rr := fun X => rI CDivW (fun i j => .int (i / j))) (fun X hX => ⟨op_fdivW, ?_⟩) ha hb
  intro L H a b d x y Q hL ma mb hg k
  obtain ⟨A, nd, q⟩ := id hL
  obtain ⟨_, ra, _⟩ := q.mem ma
  obtain ⟨_, rb, _⟩ := q.mem mb
  unfold gFdiv at hg
  split at hg
  · split at hg
    · rename_i h0
      cases hg
      refine ⟨_, _, ra.isI, rb.isI, wide_div h0.1 (b := 64) ?_ (by decide) (by decide), k _ _ (hL.ofI _)⟩
      have := h0.2
      omega
    · cases hg
  · cases hg
theorem se_pow (ha : SO S a fa) (hb : SO S b fb) : SE S (.BinOp a .Pow b pos) (e2 gPow fa fb) := by
  refine se_bin (rr := fun X => rI CPow (fun i j => .int (i ^ j.toNat))) (fun X hX => ⟨op_pow, ?_⟩) ha hb
  intro L H a b d x y Q hL ma mb hg k
  obtain ⟨A, nd, q⟩ := id hL
  obtain ⟨_, ra, _⟩ := q.mem ma
  obtain ⟨_, rb, _⟩ := q.mem mb
  unfold gPow at hg
  split at hg
  · split at hg
    · rename_i h0
      cases hg
      have h1 := small_of h0.2.2
      exact ⟨_, _, ra.isI, rb.isI, ⟨h0.1, by omega, by omega⟩, k _ _ (hL.ofI _)⟩
    · cases hg
  · cases hg
theorem RDs.flat {K : PySem.W.Frag} {cls : Str → Addr} {H : Hp} {ow : Addr → Prop} {xs : List D} {vs : List V} (r : RDs K cls H ow xs vs []) : ∀ n : Nat, RDs K cls H ow (List.replicate n xs).flatten (List.replicate n vs).flatten []
  | 0 => .nil
  | n + 1 => by
    rw [List.replicate_succ, List.replicate_succ, List.flatten_cons, List.flatten_cons]
    exact r.append (RDs.flat r n)
theorem se_mul (ha : SO S a fa) (hb : SO S b fb) : SE S (.BinOp a .Mult b pos) (e2 gMul fa fb) := by
  refine se_bin (rr := fun X x y H Q => rI CMul (fun i j => .int (i * j)) x y H Q ∨ rRep x y H Q ∨ rRepT X.K x y H Q) (fun X hX => ⟨op_mul.or (op_rep.or op_repT), ?_⟩) ha hb
  intro L H a b d x y Q hL ma mb hg k
  obtain ⟨A, nd, q⟩ := id hL
  obtain ⟨_, ra, _⟩ := q.mem ma
  obtain ⟨_, rb, _⟩ := q.mem mb
  unfold gMul at hg
  split at hg
  · split at hg
    · rename_i h0
      cases hg
      refine .inl ⟨_, _, ra.isI, rb.isI, ?_, k _ _ (hL.ofI _)⟩
      exact h0.imp small_of small_of
    · cases hg
  · split at hg
    · rename_i h0
      cases hg
      obtain ⟨p, vs, rfl, h1, r1⟩ := ra.isL
      refine .inr (.inl ⟨p, _, vs, rfl, rb.isI, h1, by omega, by omega, ?_, fun z hz => k _ _ (Rel.newL nd q hz (r1.flat _))⟩)
      rename_i o xs kk
      rw [r1.length, sizeLine_eq]
      have h2 : xs.length * kk.toNat ≤ 1000 * 1000 := Nat.mul_le_mul h0.2.2 (by omega)
      omega
    · cases hg
  · split at hg
    · rename_i h0
      cases hg
      obtain ⟨p, vs, rfl, h1, r1⟩ := ra.isT
      refine .inr (.inr ⟨p, _, vs, rfl, rb.isI, h1, fun e => h0.1 ?_, h0.2.1, h0.2.2.1, by rw [r1.length]; exact h0.2.2.2, fun z hz => k _ _ (Rel.newT nd q hz (r1.flat _))⟩)
      subst e
      exact List.eq_nil_of_length_eq_zero r1.length.symm
    · cases hg
  · cases hg
/-- -a -/
def gNeg : D → Option D
  | .int i => some (.int (-i))
  | _ => none
theorem se_neg (ha : SO S a fa) : SE S (.UnaryOp .USub a pos) (e1 gNeg fa) := by
  refine ⟨?_⟩; intro X hX ρ ρ' σ l T H r hS hf Q W tk kO kE
  refine Bst.of (pe_un un_neg bst) ?_
  refine ha.run hX hS hf tk kE fun av x H1 ρ1 h1 S1 o1 => ?_
  refine fin1_end (rr := rU fun i => .int (-i)) (g := gNeg) ?_ S1 o1 h1 kO
  intro L H a d x Q hL ma hg k
  obtain ⟨A, nd, q⟩ := id hL
  obtain ⟨_, ra, _⟩ := q.mem ma
  unfold gNeg at hg
  split at hg
  · cases hg
    exact ⟨_, ra.isI, k _ _ (hL.ofI _)⟩
  · cases hg

/-! ### comparisons -/
mutual
def toPy : D → Option PyData
  | .non => some .none
  | .bl b => some (.bool b)
  | .int i => some (.int i)
  | .str x => some (.str x)
  | .tup xs => match toPys xs with
    | some ps => some (.tuple ps)
    | none => none
  | .lst _ xs => match toPys xs with
    | some ps => some (.list ps)
    | none => none
  | .lck xs => match toPys xs with
    | some ps => some (.list ps)
    | none => none
  | .dct _ _ => none
  | .ins _ _ _ => none
  | .xd _ => none
def toPys : List D → Option (List PyData)
  | [] => some []
  | x :: xs => match toPy x, toPys xs with
    | some p, some ps => some (p :: ps)
    | _, _ => none
end
mutual
theorem RD.dp {K : PySem.W.Frag} {cls : Str → Addr} {H : Hp} {ow : Addr → Prop} : ∀ {d : D} {v : V} {os : List Addr} {p : PyData}, RD K cls H ow d v os → toPy d = some p → Dp K H v p
  | _, _, _, _, .non, h => by simp only [toPy] at h; cases h; exact .non
  | _, _, _, _, .bl _, h => by simp only [toPy] at h; cases h; exact .bl _
  | _, _, _, _, .int _, h => by simp only [toPy] at h; cases h; exact .int _
  | _, _, _, _, .str _, h => by simp only [toPy] at h; cases h; exact .str _
  | _, _, _, _, .tup e _ r, h => by
    simp only [toPy] at h; split at h
    · rename_i ps hp; cases h; exact .tup (.inl (.inl e)) (RDs.dp r hp)
    · cases h
  | _, _, _, _, .tupK e r, h => by
    simp only [toPy] at h; split at h
    · rename_i ps hp; cases h; exact .tup (e _) (RDs.dp r hp)
    · cases h
  | _, _, _, _, .lstF e _ r, h => by
    simp only [toPy] at h; split at h
    · rename_i ps hp; cases h; exact .lst (.inl (.inl e)) (RDs.dp r hp)
    · cases h
  | _, _, _, _, .lstO e r, h => by
    simp only [toPy] at h; split at h
    · rename_i ps hp; cases h; exact .lst (.inl (.inl e)) (RDs.dp r hp)
    · cases h
  | _, _, _, _, .lckK e r, h => by
    simp only [toPy] at h; split at h
    · rename_i ps hp; cases h; exact .lst (e _) (RDs.dp r hp)
    · cases h
  | _, _, _, _, .lck e _ r, h => by
    simp only [toPy] at h; split at h
    · rename_i ps hp; cases h; exact .lst (.inl (.inr ⟨_, e⟩)) (RDs.dp r hp)
    · cases h
  | _, _, _, _, .dctF _ _ _, h => by simp only [toPy] at h; cases h
  | _, _, _, _, .dctO _ _, h => by simp only [toPy] at h; cases h
  | _, _, _, _, .insF _ _ _, h => by simp only [toPy] at h; cases h
  | _, _, _, _, .insO _ _, h => by simp only [toPy] at h; cases h
  | _, _, _, _, .xd _ _ _, h => by simp only [toPy] at h; cases h
theorem RDs.dp {K : PySem.W.Frag} {cls : Str → Addr} {H : Hp} {ow : Addr → Prop} : ∀ {d : List D} {v : List V} {os : List Addr} {p : List PyData}, RDs K cls H ow d v os → toPys d = some p → DpAll K H v p
  | _, _, _, _, .nil, h => by simp only [toPys] at h; cases h; exact .nil
  | _, _, _, _, .cons r t, h => by
    simp only [toPys] at h; split at h
    · rename_i p ps hp hps; cases h; exact .cons (RD.dp r hp) (RDs.dp t hps)
    · cases h
end
/-- == by data -/
def eqDD (a b : D) : Option Bool := match toPy a, toPy b with
  | some p, some q => if SeqAt.shaped p = true ∧ SeqAt.shaped q = true then some (PyData.eqv p q) else none
  | _, _ => none
def gEqB : D → D → Option Bool
  | .non, .non => some true
  | .non, .int _ | .int _, .non | .non, .bl _ | .bl _, .non | .non, .str _ | .str _, .non | .int _, .str _ | .str _, .int _ | .bl _, .str _ | .str _, .bl _ => some false
  | .int i, .int j => some (i == j)
  | .bl i, .bl j => some (i == j)
  | .str i, .str j => some (i == j)
  | a, b => eqDD a b
def gEq (a b : D) : Option D := match gEqB a b with
  | some k => some (.bl k)
  | none => none
def gNe (a b : D) : Option D := match gEqB a b with
  | some k => some (.bl (!k))
  | none => none
theorem eq_way {K : PySem.W.Frag} {cls : Str → Addr} {H : Hp} {ow : Addr → Prop} {a b : D} {x y : V} {os os' : List Addr} {k : Bool} (ra : RD K cls H ow a x os) (rb : RD K cls H ow b y os') (h : gEqB a b = some k) :
    (scal x y = true ∧ decide (x = y) = k) ∨ ∃ d e, Dp K H x d ∧ Dp K H y e ∧ SeqAt.shaped d = true ∧ SeqAt.shaped e = true ∧ PyData.eqv d e = k := by
  have other : eqDD a b = some k → ∃ d e, Dp K H x d ∧ Dp K H y e ∧ SeqAt.shaped d = true ∧ SeqAt.shaped e = true ∧ PyData.eqv d e = k := fun h => by
    unfold eqDD at h
    split at h
    · rename_i p q hp hq
      split at h
      · rename_i hz
        cases h
        exact ⟨p, q, ra.dp hp, rb.dp hq, hz.1, hz.2, rfl⟩
      · cases h
    · cases h
  unfold gEqB at h
  split at h
  · cases h; cases ra; cases rb; exact .inl ⟨rfl, by simp⟩
  · cases h; cases ra; cases rb; exact .inl ⟨rfl, by simp⟩
  · cases h; cases ra; cases rb; exact .inl ⟨rfl, by simp⟩
  · cases h; cases ra; cases rb; exact .inl ⟨rfl, by simp⟩
  · cases h; cases ra; cases rb; exact .inl ⟨rfl, by simp⟩
  · cases h; cases ra; cases rb; exact .inl ⟨rfl, by simp⟩
  · cases h; cases ra; cases rb; exact .inl ⟨rfl, by simp⟩
  · cases h; cases ra; cases rb; exact .inl ⟨rfl, by simp⟩
  · cases h; cases ra; cases rb; exact .inl ⟨rfl, by simp⟩
  · cases h; cases ra; cases rb; exact .inl ⟨rfl, by simp⟩
  · cases h; cases ra; cases rb; exact .inl ⟨rfl, by simp⟩
  · cases h; cases ra; cases rb; exact .inl ⟨rfl, dec_int⟩
  · cases h; cases ra; cases rb; exact .inl ⟨rfl, dec_bl⟩
  · cases h; cases ra; cases rb; exact .inl ⟨rfl, dec_str⟩
  · exact .inr (other h)
theorem eq_rr : ∀ X, InD S X → OpR X (compareOp .Eq) (fun x y H Q => rEq x y H Q ∨ rEqD X.K x y H Q) ∧ Op2 X.K S.g.cls (fun x y H Q => rEq x y H Q ∨ rEqD X.K x y H Q) gEq := fun X hX => ⟨op_eq.or (op_eqD hX.room.units), by
  intro L H a b d x y Q hL ma mb hg k
  obtain ⟨A, nd, q⟩ := id hL
  obtain ⟨_, ra, _⟩ := q.mem ma
  obtain ⟨_, rb, _⟩ := q.mem mb
  unfold gEq at hg
  split at hg
  · rename_i kk hk
    cases hg
    rcases eq_way ra rb hk with ⟨h1, h2⟩ | ⟨d, e, h1, h2, h3, h4, h5⟩
    · exact .inl ⟨h1, by rw [h2]; exact k _ _ (hL.ofB _)⟩
    · exact .inr ⟨d, e, h1, h2, h3, h4, by rw [h5]; exact k _ _ (hL.ofB _)⟩
  · cases hg⟩
theorem ne_rr : ∀ X, InD S X → OpR X (compareOp .NotEq) (fun x y H Q => rNe x y H Q ∨ rNeD X.K x y H Q) ∧ Op2 X.K S.g.cls (fun x y H Q => rNe x y H Q ∨ rNeD X.K x y H Q) gNe := fun X hX => ⟨op_ne.or (op_neD hX.room.units), by
  intro L H a b d x y Q hL ma mb hg k
  obtain ⟨A, nd, q⟩ := id hL
  obtain ⟨_, ra, _⟩ := q.mem ma
  obtain ⟨_, rb, _⟩ := q.mem mb
  unfold gNe at hg
  split at hg
  · rename_i kk hk
    cases hg
    rcases eq_way ra rb hk with ⟨h1, h2⟩ | ⟨d, e, h1, h2, h3, h4, h5⟩
    · exact .inl ⟨h1, by rw [h2]; exact k _ _ (hL.ofB _)⟩
    · exact .inr ⟨d, e, h1, h2, h3, h4, by rw [h5]; exact k _ _ (hL.ofB _)⟩
  · cases hg⟩
/-- order of ints (of texts: < alone) -/
def gLt : D → D → Option D
  | .int i, .int j => some (.bl (decide (i < j)))
  | .str i, .str j => some (.bl (decide (i.cps.toList < j.cps.toList)))
  | _, _ => none
def gI (f : Int → Int → Bool) : D → D → Option D
  | .int i, .int j => some (.bl (f i j))
  | _, _ => none
def gLe : D → D → Option D := gI fun i j => decide (i ≤ j)
def gGt : D → D → Option D := gI fun i j => decide (j < i)
def gGe : D → D → Option D := gI fun i j => decide (j ≤ i)
theorem op2_I {K : PySem.W.Frag} {cls : Str → Addr} {f : Int → Int → Bool} : Op2 K cls (rI0 fun i j => .bl (f i j)) (gI f) := by
  intro L H a b d x y Q hL ma mb hg k
  obtain ⟨A, nd, q⟩ := id hL
  obtain ⟨_, ra, _⟩ := q.mem ma
  obtain ⟨_, rb, _⟩ := q.mem mb
  unfold gI at hg
  split at hg
  · cases hg
    exact ⟨_, _, ra.isI, rb.isI, k _ _ (hL.ofB _)⟩
  · cases hg
theorem le_rr : ∀ X, InD S X → OpR X (compareOp .LtE) (rI0 fun i j => .bl (decide (i ≤ j))) ∧ Op2 X.K S.g.cls (rI0 fun i j => .bl (decide (i ≤ j))) gLe := fun X hX => ⟨op_le, op2_I⟩
theorem gt_rr : ∀ X, InD S X → OpR X (compareOp .Gt) (rI0 fun i j => .bl (decide (j < i))) ∧ Op2 X.K S.g.cls (rI0 fun i j => .bl (decide (j < i))) gGt := fun X hX => ⟨op_gt, op2_I⟩
theorem ge_rr : ∀ X, InD S X → OpR X (compareOp .GtE) (rI0 fun i j => .bl (decide (j ≤ i))) ∧ Op2 X.K S.g.cls (rI0 fun i j => .bl (decide (j ≤ i))) gGe := fun X hX => ⟨op_ge, op2_I⟩
theorem lt_rr : ∀ X, InD S X → OpR X (compareOp .Lt) (fun x y H Q => rI0 (fun i j => .bl (decide (i < j))) x y H Q ∨ ∃ i j, x = .str i ∧ y = .str j ∧ Q (.bl (decide (i.cps.toList < j.cps.toList))) H) ∧
    Op2 X.K S.g.cls (fun x y H Q => rI0 (fun i j => .bl (decide (i < j))) x y H Q ∨ ∃ i j, x = .str i ∧ y = .str j ∧ Q (.bl (decide (i.cps.toList < j.cps.toList))) H) gLt := fun X hX => ⟨op_lt.or op_lt_str, by
  intro L H a b d x y Q hL ma mb hg k
  obtain ⟨A, nd, q⟩ := id hL
  obtain ⟨_, ra, _⟩ := q.mem ma
  obtain ⟨_, rb, _⟩ := q.mem mb
  unfold gLt at hg
  split at hg
  · cases hg
    exact .inl ⟨_, _, ra.isI, rb.isI, k _ _ (hL.ofB _)⟩
  · cases hg
    exact .inr ⟨_, _, ra.isS, rb.isS, k _ _ (hL.ofB _)⟩
  · cases hg⟩
/-- is None, is True .. -/
def isB : D → D → Option Bool
  | .non, .non => some true
  | _, .non => some false
  | .bl i, .bl j => some (decide (i = j))
  | _, _ => none
def gIs (a b : D) : Option D := match isB a b with
  | some k => some (.bl k)
  | none => none
def gIsN (a b : D) : Option D := match isB a b with
  | some k => some (.bl (!k))
  | none => none
theorem is_way {K : PySem.W.Frag} {cls : Str → Addr} {H : Hp} {ow : Addr → Prop} {a b : D} {x y : V} {os os' : List Addr} {k : Bool} (ra : RD K cls H ow a x os) (rb : RD K cls H ow b y os') (h : isB a b = some k) :
    (y = .non ∧ decide (x = .non) = k) ∨ ∃ i j, x = .bl i ∧ y = .bl j ∧ decide (i = j) = k := by
  unfold isB at h
  split at h
  · cases h; cases ra; cases rb; exact .inl ⟨rfl, by simp⟩
  · rename_i hn
    cases h; cases rb
    refine .inl ⟨rfl, decide_eq_false fun e => ?_⟩
    subst e
    cases ra
    exact hn rfl
  · cases h; cases ra; cases rb; exact .inr ⟨_, _, rfl, rfl, rfl⟩
  · cases h
theorem is_rr : ∀ X, InD S X → OpR X (compareOp .Is) (fun x y H Q => (y = .non ∧ Q (.bl (decide (x = .non))) H) ∨ rIsB x y H Q) ∧ Op2 X.K S.g.cls (fun x y H Q => (y = .non ∧ Q (.bl (decide (x = .non))) H) ∨ rIsB x y H Q) gIs := fun X hX => ⟨op_isN.or op_isBl, by
  intro L H a b d x y Q hL ma mb hg k
  obtain ⟨A, nd, q⟩ := id hL
  obtain ⟨_, ra, _⟩ := q.mem ma
  obtain ⟨_, rb, _⟩ := q.mem mb
  unfold gIs at hg
  split at hg
  · rename_i kk hk
    cases hg
    rcases is_way ra rb hk with ⟨h1, h2⟩ | ⟨i, j, h1, h2, h3⟩
    · exact .inl ⟨h1, by rw [h2]; exact k _ _ (hL.ofB _)⟩
    · exact .inr ⟨i, j, h1, h2, by rw [h3]; exact k _ _ (hL.ofB _)⟩
  · cases hg⟩
theorem isn_rr : ∀ X, InD S X → OpR X (compareOp .IsNot) (fun x y H Q => (y = .non ∧ Q (.bl (!decide (x = .non))) H) ∨ rNotB x y H Q) ∧ Op2 X.K S.g.cls (fun x y H Q => (y = .non ∧ Q (.bl (!decide (x = .non))) H) ∨ rNotB x y H Q) gIsN := fun X hX => ⟨op_notN.or op_notBl, by
  intro L H a b d x y Q hL ma mb hg k
  obtain ⟨A, nd, q⟩ := id hL
  obtain ⟨_, ra, _⟩ := q.mem ma
  obtain ⟨_, rb, _⟩ := q.mem mb
  unfold gIsN at hg
  split at hg
  · rename_i kk hk
    cases hg
    rcases is_way ra rb hk with ⟨h1, h2⟩ | ⟨i, j, h1, h2, h3⟩
    · exact .inl ⟨h1, by rw [h2]; exact k _ _ (hL.ofB _)⟩
    · exact .inr ⟨i, j, h1, h2, by rw [h3]; exact k _ _ (hL.ofB _)⟩
  · cases hg⟩
end
end L2.Ev
namespace L2.Ev
open PySem PySem.Spec PyProof.Rows

/-! ### keys, dicts -/
def keyD : D → Option Key
  | .int i => some (.inl i)
  | .str x => some (.inr x)
  | _ => none
def dval (ks : List (Key × D)) (k : Key) : Option D := (ks.find? fun kv => decide (kv.1 = k)).map (·.2)
theorem dval_nil (k : Key) : dval [] k = none := rfl
theorem dval_cons (k k' : Key) (d : D) (r : List (Key × D)) : dval ((k', d) :: r) k = if k' = k then some d else dval r k := by
  unfold dval
  rw [List.find?_cons]
  by_cases h : k' = k <;> simp [h]
section
variable {K : PySem.W.Frag} {cls : Str → Addr} {H : Hp} {ow : Addr → Prop}
theorem RD.key {d : D} {v : V} {os : List Addr} {k : Key} (r : RD K cls H ow d v os) (h : keyD d = some k) : v = kV k := by
  cases d <;> simp only [keyD] at h <;> cases h
  · cases r; rfl
  · cases r; rfl
theorem RDk.val : ∀ {ks : List (Key × D)} {kvs : List (Key × V)} {os : List Addr} {k : Key} {d : D}, RDk K cls H ow ks kvs os → dval ks k = some d → ∃ v os', valV kvs k = some v ∧ RD K cls H ow d v os' ∧ ∀ a ∈ os', a ∈ os
  | _, _, _, _, _, .nil, h => by cases h
  | _, _, _, k, d, .cons (k := k') r t, h => by
    rw [dval_cons] at h
    by_cases e : k' = k
    · rw [if_pos e] at h; cases h
      exact ⟨_, _, valV_pos e, r, fun a z => List.mem_append_left _ z⟩
    · rw [if_neg e] at h
      obtain ⟨v, os', h1, h2, h3⟩ := RDk.val t h
      exact ⟨v, os', by rw [valV_neg e]; exact h1, h2, fun a z => List.mem_append_right _ (h3 a z)⟩
theorem RDk.noval : ∀ {ks : List (Key × D)} {kvs : List (Key × V)} {os : List Addr} {k : Key}, RDk K cls H ow ks kvs os → dval ks k = none → valV kvs k = none
  | _, _, _, _, .nil, h => rfl
  | _, _, _, k, .cons (k := k') r t, h => by
    rw [dval_cons] at h
    by_cases e : k' = k
    · rw [if_pos e] at h; cases h
    · rw [if_neg e] at h
      rw [valV_neg e]; exact RDk.noval t h
theorem RDk.length : ∀ {ks : List (Key × D)} {kvs : List (Key × V)} {os : List Addr}, RDk K cls H ow ks kvs os → kvs.length = ks.length
  | _, _, _, .nil => rfl
  | _, _, _, .cons _ t => by simp [RDk.length t]
end
def flatD : D → Bool
  | .non => true
  | .bl _ => true
  | .int _ => true
  | .str _ => true
  | _ => false
def feq : D → D → Bool
  | .non, .non => true
  | .bl a, .bl b => a == b
  | .bl a, .int b => (if a then 1 else 0) == b
  | .int a, .bl b => a == (if b then 1 else 0)
  | .int a, .int b => a == b
  | .str a, .str b => a == b
  | _, _ => false
section
variable {K : PySem.W.Frag} {cls : Str → Addr} {H : Hp} {ow : Addr → Prop}
theorem RD.flat {d : D} {v : V} {os : List Addr} (r : RD K cls H ow d v os) (h : flatD d = true) : flatV v = true := by
  cases r <;> first | rfl | (simp [flatD] at h)
theorem RD.feq {d e : D} {v u : V} {os os' : List Addr} (r : RD K cls H ow d v os) (r' : RD K cls H ow e u os') (h : flatD d = true) (h' : flatD e = true) : eqV v u = Ev.feq d e := by
  cases r <;> first | (simp [flatD] at h; done) | (cases r' <;> first | rfl | (simp [flatD] at h'; done))
theorem RDs.flatAll {xs : List D} {vs : List V} (r : RDs K cls H ow xs vs []) (h : xs.all flatD = true) : vs.all flatV = true := by
  induction xs generalizing vs with
  | nil => cases r; rfl
  | cons x xs ih =>
    obtain ⟨v, ws, rfl, h1, h2⟩ := r.inv
    simp only [List.all_cons, Bool.and_eq_true] at h ⊢
    exact ⟨h1.flat h.1, ih h2 h.2⟩
theorem RDs.inD {e : D} {u : V} {os : List Addr} (re : RD K cls H ow e u os) (he : flatD e = true) {xs : List D} {vs : List V} (r : RDs K cls H ow xs vs []) (h : xs.all flatD = true) : inV u vs = xs.any (fun y => Ev.feq y e) := by
  induction xs generalizing vs with
  | nil => cases r; rfl
  | cons x xs ih =>
    obtain ⟨v, ws, rfl, h1, h2⟩ := r.inv
    simp only [List.all_cons, Bool.and_eq_true] at h
    have z := ih h2 h.2
    unfold inV at z ⊢
    rw [List.any_cons, List.any_cons, z, h1.feq re h.1 he]
end
def inB : D → D → Option Bool
  | .str x, .str y => match x.cps.toList with
    | [c] => some (decide (c ∈ y.cps.toList))
    | _ => none
  | e, .lst _ xs => if flatD e = true ∧ xs.all flatD = true then some (xs.any fun y => feq y e) else none
  | e, .tup xs => if flatD e = true ∧ xs.all flatD = true then some (xs.any fun y => feq y e) else none
  | e, .dct _ ks => match keyD e with
    | some k => some (dval ks k).isSome
    | none => none
  | _, _ => none
def gIn (a b : D) : Option D := match inB a b with
  | some k => some (.bl k)
  | none => none
def gNin (a b : D) : Option D := match inB a b with
  | some k => some (.bl (!k))
  | none => none
section
variable {S : Sc} {X : Cx}
theorem op_in_dict (hu : X.A.units + 1 < cLine) : OpR X (compareOp .In) (fun x y H Q => ∃ a o, y = .ref a ∧ DGet H a x o ∧ Q (.bl o.isSome) H) := by
  intro pins s σ H x y v u Q I rx ry h
  obtain ⟨a, o, rfl, g, q⟩ := h
  cases ry
  exact d_in hu I g rx fun s3 I3 => ⟨.bl o.isSome, H, I3, rfl, q⟩
theorem op_nin_dict (hu : X.A.units + 1 < cLine) : OpR X (compareOp .NotIn) (fun x y H Q => ∃ a o, y = .ref a ∧ DGet H a x o ∧ Q (.bl (!o.isSome)) H) := by
  intro pins s σ H x y v u Q I rx ry h
  obtain ⟨a, o, rfl, g, q⟩ := h
  cases ry
  exact d_notIn hu I g rx fun s3 I3 => ⟨.bl (!o.isSome), H, I3, rfl, q⟩
theorem in_way {K : PySem.W.Frag} {cls : Str → Addr} {H : Hp} {ow : Addr → Prop} {a b : D} {x y : V} {os os' : List Addr} {k : Bool} (ra : RD K cls H ow a x os) (rb : RD K cls H ow b y os') (h : inB a b = some k) :
    (∃ (c : Nat) (z : Str), x = .str ⟨#[c]⟩ ∧ y = .str z ∧ decide (c ∈ z.cps.toList) = k) ∨ (∃ p xs, y = .ref p ∧ (SqL K H p xs ∨ SqT K H p xs) ∧ flatV x = true ∧ xs.all flatV = true ∧ inV x xs = k) ∨ ∃ p o, y = .ref p ∧ DGet H p x o ∧ o.isSome = k := by
  unfold inB at h
  split at h
  · rename_i z y'
    split at h
    · rename_i c hc
      cases h
      refine .inl ⟨c, y', ?_, rb.isS, rfl⟩
      rw [ra.isS]
      have : z = ⟨#[c]⟩ := by
        cases z with | mk cps => simp only at hc; congr; exact (Array.toList_inj.mp hc)
      rw [this]
    · cases h
  · split at h
    · rename_i hz
      cases h
      obtain ⟨p, vs, rfl, h1, r1⟩ := rb.isL
      exact .inr (.inl ⟨p, vs, rfl, .inl (.inl (.inl h1)), ra.flat hz.1, r1.flatAll hz.2, RDs.inD ra hz.1 r1 hz.2⟩)
    · cases h
  · split at h
    · rename_i hz
      cases h
      obtain ⟨p, vs, rfl, h1, r1⟩ := rb.isT
      exact .inr (.inl ⟨p, vs, rfl, .inr h1, ra.flat hz.1, r1.flatAll hz.2, RDs.inD ra hz.1 r1 hz.2⟩)
    · cases h
  · split at h
    · rename_i kk hk
      cases h
      obtain ⟨p, kvs, os', rfl, h1, r1⟩ := rb.isD
      refine .inr (.inr ⟨p, valV kvs kk, rfl, ?_, ?_⟩)
      · rw [ra.key hk]; exact .k h1
      · rename_i ks _
        cases e : dval ks kk with
        | none => rw [r1.noval e]; rfl
        | some d =>
          obtain ⟨v, _, e2, _⟩ := r1.val e
          rw [e2]; rfl
    · cases h
  · cases h
theorem in_rr : ∀ X, InD S X → OpR X (compareOp .In) (fun x y H Q => (∃ (c : Nat) (z : Str), x = .str ⟨#[c]⟩ ∧ y = .str z ∧ Q (.bl (decide (c ∈ z.cps.toList))) H) ∨ rIn X.K false x y H Q ∨ ∃ a o, y = .ref a ∧ DGet H a x o ∧ Q (.bl o.isSome) H) ∧
    Op2 X.K S.g.cls (fun x y H Q => (∃ (c : Nat) (z : Str), x = .str ⟨#[c]⟩ ∧ y = .str z ∧ Q (.bl (decide (c ∈ z.cps.toList))) H) ∨ rIn X.K false x y H Q ∨ ∃ a o, y = .ref a ∧ DGet H a x o ∧ Q (.bl o.isSome) H) gIn := fun X hX => ⟨op_in_sign.or (op_in_seq.or (op_in_dict (hu_of hX.room))), by
  intro L H a b d x y Q hL ma mb hg k
  obtain ⟨A, nd, q⟩ := id hL
  obtain ⟨_, ra, _⟩ := q.mem ma
  obtain ⟨_, rb, _⟩ := q.mem mb
  unfold gIn at hg
  split at hg
  · rename_i kk hk
    cases hg
    rcases in_way ra rb hk with ⟨c, z, h1, h2, h3⟩ | ⟨p, xs, h1, h2, h3, h4, h5⟩ | ⟨p, o, h1, h2, h3⟩
    · exact .inl ⟨c, z, h1, h2, by rw [h3]; exact k _ _ (hL.ofB _)⟩
    · refine .inr (.inl ⟨p, xs, h1, h2, h3, h4, ?_⟩)
      rw [if_neg (by decide), h5]; exact k _ _ (hL.ofB _)
    · exact .inr (.inr ⟨p, o, h1, h2, by rw [h3]; exact k _ _ (hL.ofB _)⟩)
  · cases hg⟩
theorem nin_rr : ∀ X, InD S X → OpR X (compareOp .NotIn) (fun x y H Q => (∃ (c : Nat) (z : Str), x = .str ⟨#[c]⟩ ∧ y = .str z ∧ Q (.bl (!decide (c ∈ z.cps.toList))) H) ∨ rIn X.K true x y H Q ∨ ∃ a o, y = .ref a ∧ DGet H a x o ∧ Q (.bl (!o.isSome)) H) ∧
    Op2 X.K S.g.cls (fun x y H Q => (∃ (c : Nat) (z : Str), x = .str ⟨#[c]⟩ ∧ y = .str z ∧ Q (.bl (!decide (c ∈ z.cps.toList))) H) ∨ rIn X.K true x y H Q ∨ ∃ a o, y = .ref a ∧ DGet H a x o ∧ Q (.bl (!o.isSome)) H) gNin := fun X hX => ⟨op_notIn_sign.or (op_notIn_seq.or (op_nin_dict (hu_of hX.room))), by
  intro L H a b d x y Q hL ma mb hg k
  obtain ⟨A, nd, q⟩ := id hL
  obtain ⟨_, ra, _⟩ := q.mem ma
  obtain ⟨_, rb, _⟩ := q.mem mb
  unfold gNin at hg
  split at hg
  · rename_i kk hk
    cases hg
    rcases in_way ra rb hk with ⟨c, z, h1, h2, h3⟩ | ⟨p, xs, h1, h2, h3, h4, h5⟩ | ⟨p, o, h1, h2, h3⟩
    · exact .inl ⟨c, z, h1, h2, by rw [h3]; exact k _ _ (hL.ofB _)⟩
    · refine .inr (.inl ⟨p, xs, h1, h2, h3, h4, ?_⟩)
      rw [if_pos rfl, h5]; exact k _ _ (hL.ofB _)
    · exact .inr (.inr ⟨p, o, h1, h2, by rw [h3]; exact k _ _ (hL.ofB _)⟩)
  · cases hg⟩
end

/-! ### subscripts -/
def ixB (xs : List D) (i : Int) : Option D := match ixN xs.length i with
  | some j => xs[j]?
  | none => none
def gIx : D → D → Option D
  | .lst _ xs, .int i => ixB xs i
  | .tup xs, .int i => ixB xs i
  | .lck xs, .int i => ixB xs i
  | .str z, .int i => if z.length ≤ sizeLine then (match atI z.cps.toList i with
    | some c => some (.str ⟨#[c]⟩)
    | none => none) else none
  | .dct _ ks, k => match keyD k with
    | some kk => (match dval ks kk with
      | some d => if d.fz = true then some d else none
      | none => none)
    | none => none
  | _, _ => none
section
variable {S : Sc} {X : Cx} {a b : Expr} {fa fb : OV} {pos : Pos}
theorem ix_dict (hu : X.A.units + 1 < cLine) : IxR X (fun x y H Q => ∃ a v, x = .ref a ∧ DGet H a y (some v) ∧ Q v H) := by
  intro value slice pins s σ H x y v u Q I rx ry h hs
  obtain ⟨a, z, rfl, g, q⟩ := h
  cases rx
  exact tail_any (dict_typeIs I g) PySem.F.slot_dict_getitem.lookup (d_getItem hu I g ry fun w' s3 I3 rw' => ⟨z, H, I3, rw', q⟩) hs
theorem ixB_get {K : PySem.W.Frag} {cls : Str → Addr} {H : Hp} {ow : Addr → Prop} {xs : List D} {vs : List V} {i : Int} {d : D} (r : RDs K cls H ow xs vs []) (h : ixB xs i = some d) : ∃ v, atI vs i = some v ∧ RD K cls H ow d v [] := by
  unfold ixB at h
  split at h
  · rename_i j hj
    obtain ⟨v, h1, h2⟩ := r.get h
    refine ⟨v, ?_, h2⟩
    unfold atI
    rw [r.length, hj]; exact h1
  · cases h
theorem se_ix (ha : SO S a fa) (hb : SO S b fb) (hs : PlainIx b := by exact fun _ _ => rfl) : SE S (.Subscript a b pos) (e2 gIx fa fb) := by
  refine ⟨?_⟩; intro X hX ρ ρ' σ l T H r hS hf Q W tk kO kE
  refine Bst.of (pe_ix (ix_seq.or (ix_dict (hu_of hX.room))) bst bst hs) ?_
  refine ha.run hX hS hf tk kE fun av x H1 ρ1 h1 S1 o1 => ?_
  refine hb.run hX S1 h1 tk (fun x e => (kE x e).more) fun bv y H2 ρ2 h2 S2 o2 => ?_
  refine fin2_end (rr := fun x y H Q => rIx X.K x y H Q ∨ ∃ a v, x = .ref a ∧ DGet H a y (some v) ∧ Q v H) (g := gIx) ?_ S2 o1 o2 h2 kO
  intro L H a b d x y Q hL ma mb hg k
  obtain ⟨A, nd, q⟩ := id hL
  obtain ⟨_, ra, _⟩ := q.mem ma
  obtain ⟨_, rb, _⟩ := q.mem mb
  unfold gIx at hg
  split at hg
  · obtain ⟨p, vs, rfl, h1, r1⟩ := ra.isL
    obtain ⟨v, h2, h3⟩ := ixB_get r1 hg
    exact .inl (.inl ⟨p, vs, _, v, rfl, rb.isI, .inl (.inl h1), h2, k _ _ (Rel.add nd q h3)⟩)
  · obtain ⟨p, vs, rfl, h1, r1⟩ := ra.isT
    obtain ⟨v, h2, h3⟩ := ixB_get r1 hg
    exact .inl (.inr (.inl ⟨p, vs, _, v, rfl, rb.isI, h1, h2, k _ _ (Rel.add nd q h3)⟩))
  · obtain ⟨p, vs, rfl, h1, r1⟩ := ra.isK
    obtain ⟨v, h2, h3⟩ := ixB_get r1 hg
    exact .inl (.inl ⟨p, vs, _, v, rfl, rb.isI, h1, h2, k _ _ (Rel.add nd q h3)⟩)
  · split at hg
    · rename_i hz
      split at hg
      · rename_i c hc
        cases hg
        exact .inl (.inr (.inr ⟨_, _, c, ra.isS, rb.isI, hz, hc, k _ _ (hL.ofS _)⟩))
      · cases hg
    · cases hg
  · split at hg
    · rename_i kk hk
      split at hg
      · rename_i e he
        split at hg
        · rename_i hf
          cases hg
          obtain ⟨p, kvs, os', rfl, h1, r1⟩ := ra.isD
          obtain ⟨v, os2, h2, h3, _⟩ := r1.val he
          have z := h3.fzo hf
          subst z
          refine .inr ⟨p, v, rfl, ?_, k _ _ (Rel.add nd q h3)⟩
          rw [rb.key hk, ← h2]; exact .k h1
        · cases hg
      · cases hg
    · cases hg
  · cases hg
end

/-! ### slices -/
def cutD (xs : List D) (lo hi : Option Int) : List D := (xs.drop (HT.sIx xs.length 0 lo)).take (HT.sIx xs.length xs.length hi - HT.sIx xs.length 0 lo)
def gSl (d : D) (lo hi : Option Int) : Option D := match d with
  | .lst _ xs => some (.lst true (cutD xs lo hi))
  | .tup xs => some (.tup (cutD xs lo hi))
  | .str z => if z.length ≤ sizeLine then some (.str (cutS z lo hi)) else none
  | _ => none
abbrev PV := En → Option (Rs (Option Int) × En)
def pNo : PV := fun ρ => some (.ok none, ρ)
def pAt (f : EV) : PV := bd f fun d ρ => match d with
  | .int i => some (.ok (some i), ρ)
  | _ => none
def finS (a : AV) (lo hi : Option Int) : EV := fun ρ => match res ρ a with
  | some d => (match gSl d lo hi with
    | some e => some (.ok e, ρ)
    | none => none)
  | none => none
def eSl (fa : OV) (pl ph : PV) : EV := bd fa fun a => bd pl fun lo => bd ph fun hi => finS a lo hi
section
variable {S : Sc} {X : Cx} {a : Expr} {fa : OV} {pos p2 : Pos}
def BstP (X : Cx) (e : Option Expr) : TO := fun σ H Q => ∀ (pins : List (Addr × Obj)) (s : Shared), Inv X pins σ H s → wpAny (model X.prog X.w) X.A (evalPart e X.env) (fun u s' => ∃ o H', Inv X pins σ H' s' ∧ IsPart u o ∧ Q o H') X.xe s
theorem bstP {e : Option Expr} : PO X e (BstP X e) := ⟨fun pins s _ _ _ I h => h pins s I⟩
theorem BstP.of {e : Option Expr} {t : TO} {σ : St} {H : Hp} {Q : Option Int → Hp → Prop} (h : PO X e t) (q : t σ H Q) : BstP X e σ H Q := fun pins s I => h.run pins s σ H Q I q
structure SP1 (S : Sc) (e : Option Expr) (f : PV) : Prop where
  h : ∀ (X : Cx), InD S X → ∀ (ρ ρ' : En) (σ : St) (l : List V) (T : List (D × V)) (H : Hp) (r : Rs (Option Int)), SR X.K S.g.cls ρ σ l T H → f ρ = some (r, ρ') → ∀ (Q : Option Int → Hp → Prop) (W : WX), Takes X W →
  (∀ o H', r = .ok o → SR X.K S.g.cls ρ' σ l T H' → Q o H') → (∀ x, r = .er x → KX S X ρ' σ l T W x) → BstP X e σ H Q
theorem sp_no : SP1 S none pNo := by
  refine ⟨?_⟩; intro X hX ρ ρ' σ l T H r hS hf Q W tk kO kE
  cases hf
  exact BstP.of po_none (kO _ H rfl hS)
theorem SR.int {K : PySem.W.Frag} {cls : Str → Addr} {ρ : En} {σ : St} {l : List V} {T : List (D × V)} {H : Hp} {b : Int} {v : V} (h : SR K cls ρ σ l ((.int b, v) :: T) H) : v = .int b := by
  obtain ⟨L, er, A, nd, q⟩ := h
  obtain ⟨o, rd, _⟩ := q.mem (d := .int b) (v := v) (List.mem_append_right _ List.mem_cons_self)
  cases rd; rfl
theorem sp_at {e : Expr} {f : EV} (h : SE S e f) : SP1 S (some e) (pAt f) := by
  refine ⟨?_⟩; intro X hX ρ ρ' σ l T H r hS hf Q W tk kO kE
  refine BstP.of (po_some bst) ?_
  refine h.run hX hS hf tk kE fun d v H1 ρ1 hk S1 => ?_
  cases d <;> simp only at hk <;> cases hk
  exact ⟨_, S1.int, kO _ H1 rfl S1.dropT⟩
theorem SP1.run {ρ ρ' : En} {σ : St} {l : List V} {T : List (D × V)} {H : Hp} {W : WX} {e : Option Expr} {β : Type} {k : Option Int → En → Option (Rs β × En)} {r : Rs β} {Q : Option Int → Hp → Prop} {f : PV} (ha : SP1 S e f) (hX : InD S X) (hS : SR X.K S.g.cls ρ σ l T H) (hf : bd f k ρ = some (r, ρ')) (tk : Takes X W) (kE : ∀ x, r = .er x → KX S X ρ' σ l T W x)
    (hk : ∀ b H1 ρ1, k b ρ1 = some (r, ρ') → SR X.K S.g.cls ρ1 σ l T H1 → Q b H1) : BstP X e σ H Q := by
  rcases bd_inv hf with ⟨a, ρ1, h1, h2⟩ | ⟨x, h1, h2⟩
  · exact ha.h X hX ρ ρ1 σ l T H _ hS h1 Q W tk (fun a' H' e hs => by cases e; exact hk a H' ρ1 h2 hs) (fun x e => by cases e)
  · exact ha.h X hX ρ ρ' σ l T H _ hS h1 Q W tk (fun a' H' e hs => by cases e) (fun x' e => by cases e; exact kE x h2)
theorem se_sl {lo hi : Option Expr} {pl ph : PV} (ha : SO S a fa) (hl : SP1 S lo pl) (hh : SP1 S hi ph) : SE S (.Subscript a (.Slice lo hi none p2) pos) (eSl fa pl ph) := by
  refine ⟨?_⟩; intro X hX ρ ρ' σ l T H r hS hf Q W tk kO kE
  refine Bst.of (pe_slice (sl_list.or (sl_tupA.or sl_str)) bst bstP bstP) ?_
  refine ha.run hX hS hf tk kE fun av x H1 ρ1 h1 S1 o1 => ?_
  refine hl.run hX S1 h1 tk (fun x e => (kE x e).more) fun lo' H2 ρ2 h2 S2 => ?_
  refine hh.run hX S2 h2 tk (fun x e => (kE x e).more) fun hi' H3 ρ3 h3 S3 => ?_
  unfold finS at h3
  split at h3
  · rename_i d hd
    split at h3
    · rename_i e he
      cases h3
      obtain ⟨L, er, qq⟩ := S3
      have mem : (d, x) ∈ L ++ (avT av x ++ T) := by
        rcases res_mem (K := X.K) er o1 hd with z | z
        · exact List.mem_append_left _ z
        · rw [z]; exact List.mem_append_right _ List.mem_cons_self
      have fin : ∀ v H', Rel X.K S.g.cls ((e, v) :: (L ++ (avT av x ++ T))) H' → Q v H' := fun v H' q' => kO e v H' rfl ⟨L, er, q'.fin⟩
      obtain ⟨A, nd, q⟩ := id qq
      obtain ⟨_, ra, _⟩ := q.mem mem
      unfold gSl at he
      split at he
      · cases he
        obtain ⟨p, vs, rfl, h1, r1⟩ := ra.isL
        refine .inl ⟨p, vs, rfl, .inl (.inl h1), fun z hz => fin _ _ (Rel.newL nd q hz ?_)⟩
        unfold cutV cutD
        rw [r1.length]
        exact (r1.drop _).take _
      · cases he
        obtain ⟨p, vs, rfl, h1, r1⟩ := ra.isT
        refine .inr (.inl ⟨p, vs, rfl, h1, fun hw => fin _ _ (Rel.add nd q ?_), fun _ z hz => fin _ _ (Rel.newT nd q hz ?_)⟩)
        · rw [r1.length] at hw
          have z := ra.fzo rfl
          subst z
          unfold cutD
          rw [hw.1, hw.2, Nat.sub_zero, List.drop_zero, List.take_length]
          exact ra
        · unfold cutV cutD
          rw [r1.length]
          exact (r1.drop _).take _
      · split at he
        · rename_i hz
          cases he
          exact .inr (.inr ⟨_, ra.isS, hz, fin _ _ (qq.ofS _)⟩)
        · cases he
      · cases he
    · cases h3
  · cases h3
/-- xs[::-1] -/
def gRev : D → Option D
  | .lst _ xs => some (.lst true xs.reverse)
  | _ => none
theorem se_revL {k : Nat} {p1 q2 p3 : Pos} (ha : SO S a fa) : SE S (.Subscript a (.Slice none none (some (.UnaryOp .USub (.Constant (.int 1) k p1) q2)) p3) pos) (e1 gRev fa) := by
  refine ⟨?_⟩; intro X hX ρ ρ' σ l T H r hS hf Q W tk kO kE
  refine Bst.of (pe_revL bst) ?_
  refine ha.run hX hS hf tk kE fun av x H1 ρ1 h1 S1 o1 => ?_
  refine fin1_end (rr := fun x H1 Q => ∃ a xs, x = .ref a ∧ SqL X.K H1 a xs ∧ ∀ p, H1 p = none → Q (.ref p) (upd H1 p (.lst xs.reverse))) (g := gRev) ?_ S1 o1 h1 kO
  intro L H a d x Q hL ma hg k
  obtain ⟨A, nd, q⟩ := id hL
  obtain ⟨_, ra, _⟩ := q.mem ma
  unfold gRev at hg
  split at hg
  · cases hg
    obtain ⟨p, vs, rfl, h1, r1⟩ := ra.isL
    exact ⟨p, vs, rfl, .inl (.inl h1), fun z hz => k _ _ (Rel.newL nd q hz r1.reverse)⟩
  · cases hg
end

/-! ### displays -/
def fzd (d : D) : D := if d.fz = true then d else d.frz
theorem fzd_fz (d : D) : (fzd d).fz = true := by
  unfold fzd
  by_cases h : d.fz = true
  · rw [if_pos h]; exact h
  · rw [if_neg h]; cases d <;> rfl
def nst : Expr → Bool
  | .Starred _ _ => false
  | _ => true
theorem star_cons {e : Expr} {es : List Expr} {env : Env} (h : nst e = true) : starEach (e :: es) env = (false, eval e env) :: starEach es env := by
  cases e <;> first | rfl | cases h
theorem star_any {pos : Pos} {env : Env} : ∀ {es : List Expr}, es.all nst = true → (backTo pos (starEach es env)).any (·.1) = false
  | [], _ => rfl
  | e :: es, h => by
    simp only [List.all_cons, Bool.and_eq_true] at h
    rw [star_cons h.1]
    have ih := star_any (pos := pos) (env := env) h.2
    unfold backTo at ih ⊢
    simpa using ih
abbrev DV := En → Option (Rs (List D) × En)
def lNil : DV := fun ρ => some (.ok [], ρ)
def lCons (f : EV) (g : DV) : DV := bd f fun d => bd g fun ds ρ => some (.ok (fzd d :: ds), ρ)
def zipT : List D → List V → List (D × V)
  | d :: ds, v :: vs => (d, v) :: zipT ds vs
  | _, _ => []
structure SL (S : Sc) (es : List Expr) (f : DV) : Prop where
  h : ∀ (X : Cx), InD S X → ∀ (ρ ρ' : En) (σ : St) (l : List V) (T : List (D × V)) (H : Hp) (r : Rs (List D)), SR X.K S.g.cls ρ σ l T H → f ρ = some (r, ρ') → ∀ (Q : List V → Hp → Prop) (W : WX), Takes X W →
  (∀ ds vs H', r = .ok ds → vs.length = ds.length → (∀ d ∈ ds, D.fz d = true) → SR X.K S.g.cls ρ' σ l (zipT ds vs ++ T) H' → Q vs H') → (∀ x, r = .er x → KX S X ρ' σ l T W x) → BstA X es σ H Q
section
variable {S : Sc} {X : Cx} {e : Expr} {es : List Expr} {f : EV} {g : DV} {pos : Pos}
theorem sl_nil : SL S [] lNil := by
  refine ⟨?_⟩; intro X hX ρ ρ' σ l T H r hS hf Q W tk kO kE
  cases hf
  exact BstA.of pa_nil (kO [] [] H rfl rfl (fun _ z => nomatch z) hS)
theorem SR.freezeT {K : PySem.W.Frag} {cls : Str → Addr} {ρ : En} {σ : St} {l : List V} {T : List (D × V)} {H : Hp} {d : D} {v : V} (h : SR K cls ρ σ l ((d, v) :: T) H) : SR K cls ρ σ l ((fzd d, v) :: T) H := by
  unfold fzd
  by_cases hz : d.fz = true
  · rw [if_pos hz]; exact h
  · rw [if_neg hz]
    obtain ⟨L, er, q⟩ := h
    exact ⟨L, er, ((q.perm List.perm_middle).freeze).perm List.perm_middle.symm⟩
theorem sl_cons (h : SE S e f) (hr : SL S es g) (hs : nst e = true := by rfl) : SL S (e :: es) (lCons f g) := by
  refine ⟨?_⟩; intro X hX ρ ρ' σ l T H r hS hf Q W tk kO kE
  refine BstA.of (pa_cons bst bstA (star_cons hs)) ?_
  refine h.run hX hS hf tk kE fun d v H1 ρ1 hk S1 => ?_
  rcases bd_inv hk with ⟨ds, ρ2, h1, h2⟩ | ⟨x, h1, h2⟩
  · cases h2
    refine hr.h X hX ρ1 ρ' σ l ((fzd d, v) :: T) H1 _ S1.freezeT h1 _ W tk (fun ds' vs H' e hl hz S2 => ?_) (fun x e => by cases e)
    cases e
    refine kO _ (v :: vs) H' rfl (by simp [hl]) (fun d' m => ?_) ?_
    · rcases List.mem_cons.mp m with e | m
      · subst e; exact fzd_fz d
      · exact hz d' m
    · obtain ⟨L, er, q⟩ := S2
      exact ⟨L, er, q.perm (List.perm_middle.append_left L)⟩
  · refine hr.h X hX ρ1 ρ' σ l ((fzd d, v) :: T) H1 _ S1.freezeT h1 _ W tk (fun ds' vs H' e hl hz S2 => by cases e) (fun x' e => ?_)
    cases e
    exact (kE x h2).more (B := [(fzd d, v)])
theorem zip_rds {K : PySem.W.Frag} {cls : Str → Addr} {H : Hp} {ow : Addr → Prop} : ∀ {ds : List D} {vs : List V} {L : List (D × V)} {os : List Addr}, RDl K cls H ow L os → (∀ p ∈ zipT ds vs, p ∈ L) → vs.length = ds.length → (∀ d ∈ ds, D.fz d = true) → RDs K cls H ow ds vs []
  | [], [], _, _, _, _, _, _ => .nil
  | [], _ :: _, _, _, _, _, h, _ => by cases h
  | _ :: _, [], _, _, _, _, h, _ => by cases h
  | d :: ds, v :: vs, L, os, q, hm, hl, hz => by
    obtain ⟨o, rd, _⟩ := q.mem (hm (d, v) List.mem_cons_self)
    have z := rd.fzo (hz d List.mem_cons_self)
    subst z
    exact RDs.cons (os := []) (os' := []) rd (zip_rds q (fun p m => hm p (List.mem_cons_of_mem _ m)) (by simpa using hl) fun d' m => hz d' (List.mem_cons_of_mem _ m))
def eTup (g : DV) : EV := bd g fun ds ρ => if ds.length ≤ sizeLine then some (.ok (.tup ds), ρ) else none
def eLst (g : DV) : EV := bd g fun ds ρ => if ds.length ≤ sizeLine then some (.ok (.lst true ds), ρ) else none
theorem se_tup {x1 : Nat} (h : SL S es g) : SE S (.Tuple es x1 pos) (eTup g) := by
  refine ⟨?_⟩; intro X hX ρ ρ' σ l T H r hS hf Q W tk kO kE
  refine Bst.of (pe_tup bstA) ?_
  rcases bd_inv hf with ⟨ds, ρ2, h1, h2⟩ | ⟨x, h1, h2⟩
  · split at h2
    · rename_i hlen
      cases h2
      refine h.h X hX ρ ρ' σ l T H _ hS h1 _ W tk (fun ds' vs H' e hl hz S2 => ?_) (fun x e => by cases e)
      cases e
      obtain ⟨L, er, A, nd, q⟩ := S2
      refine ⟨by rw [hl]; exact hlen, fun p hp => kO _ _ _ rfl ⟨L, er, ?_⟩⟩
      exact (Rel.newT nd q hp (zip_rds q (fun p m => List.mem_append_right _ (List.mem_append_left _ m)) hl hz)).fin
    · cases h2
  · exact h.h X hX ρ ρ' σ l T H _ hS h1 _ W tk (fun ds' vs H' e hl hz S2 => by cases e) (fun x' e => by cases e; exact kE x h2)
theorem se_lst (h : SL S es g) : SE S (.List es pos) (eLst g) := by
  refine ⟨?_⟩; intro X hX ρ ρ' σ l T H r hS hf Q W tk kO kE
  refine Bst.of (pe_lst bstA) ?_
  rcases bd_inv hf with ⟨ds, ρ2, h1, h2⟩ | ⟨x, h1, h2⟩
  · split at h2
    · rename_i hlen
      cases h2
      refine h.h X hX ρ ρ' σ l T H _ hS h1 _ W tk (fun ds' vs H' e hl hz S2 => ?_) (fun x e => by cases e)
      cases e
      obtain ⟨L, er, A, nd, q⟩ := S2
      refine ⟨by rw [hl]; exact hlen, fun p hp => kO _ _ _ rfl ⟨L, er, ?_⟩⟩
      exact (Rel.newL nd q hp (zip_rds q (fun p m => List.mem_append_right _ (List.mem_append_left _ m)) hl hz)).fin
    · cases h2
  · exact h.h X hX ρ ρ' σ l T H _ hS h1 _ W tk (fun ds' vs H' e hl hz S2 => by cases e) (fun x' e => by cases e; exact kE x h2)
end
end L2.Ev
namespace L2.Ev
open PySem PySem.Spec PyProof.Rows

abbrev Glb (S : Sc) (x : Str) : Prop := S.scope.names.lookup x = some .globalImplicit
section
variable {S : Sc} {a b c : Expr} {fa fb fc : OV} {pos p p2 : Pos} {x : Str}
/-! ### built-ins of one argument -/
theorem se_b1 {id : String} {g : D → Option D} {r : Cx → List V → Hp → VK → Prop} (hc : ∀ X, InD S X → CallR X (.builtin id) (r X) ∧ Op1 X.K S.g.cls (fun x H Q => r X [x] H Q) g) (hm : S.g.mg x = none) (hv : bootBuiltins x = some (.builtin id)) (ha : SO S a fa)
    (hg : Glb S x := by rfl) (hn : x ≠ "__name__" := by decide) (hdb : (x == ("__debug__" : Str)) = false := by decide) (hs : ∀ env : Env, starEach [a] env = [(false, eval a env)] := by intro _; rfl) :
    SE S (.Call (.Name x p) [a] [] pos) (e1 g fa) := by
  refine ⟨?_⟩; intro X hX ρ ρ' σ l T H rr hS hf Q W tk kO kE
  refine Bst.of (pe_callB (hc X hX).1 (gl_of hX hg) (by rw [hX.mg]; exact hm) hv (pa_cons bst pa_nil (by rw [hs]; rfl)) hn hdb (by rw [hs]; rfl) rfl) ?_
  refine ha.run hX hS hf tk kE fun av x H1 ρ1 h1 S1 o1 => ?_
  exact fin1_end (hc X hX).2 S1 o1 h1 kO
theorem se_t1 {T : String} {g : D → Option D} {r : Cx → List V → Hp → VK → Prop} (hc : ∀ X, InD S X → CallR X (.type T) (r X) ∧ Op1 X.K S.g.cls (fun x H Q => r X [x] H Q) g) (hm : S.g.mg x = none) (hv : bootBuiltins x = some (.type T)) (ha : SO S a fa)
    (hg : Glb S x := by rfl) (hn : x ≠ "__name__" := by decide) (hdb : (x == ("__debug__" : Str)) = false := by decide) (hs : ∀ env : Env, starEach [a] env = [(false, eval a env)] := by intro _; rfl) :
    SE S (.Call (.Name x p) [a] [] pos) (e1 g fa) := by
  refine ⟨?_⟩; intro X hX ρ ρ' σ l T H rr hS hf Q W tk kO kE
  refine Bst.of (pe_callTy (hc X hX).1 (gl_of hX hg) (by rw [hX.mg]; exact hm) hv (pa_cons bst pa_nil (by rw [hs]; rfl)) hn hdb (by rw [hs]; rfl) rfl) ?_
  refine ha.run hX hS hf tk kE fun av x H1 ρ1 h1 S1 o1 => ?_
  exact fin1_end (hc X hX).2 S1 o1 h1 kO
def gLen : D → Option D
  | .str z => if z.length ≤ sizeLine then some (.int z.length) else none
  | .lst _ xs => some (.int xs.length)
  | .tup xs => some (.int xs.length)
  | .lck xs => some (.int xs.length)
  | .dct _ ks => some (.int ks.length)
  | _ => none
theorem se_len (hm : S.g.mg "len" = none) (ha : SO S a fa) (hg : Glb S "len" := by rfl) (hs : ∀ env : Env, starEach [a] env = [(false, eval a env)] := by intro _; rfl) : SE S (.Call (.Name "len" p) [a] [] pos) (e1 gLen fa) := by
  refine se_b1 (r := fun X xs H Q => (∃ x n, xs = [x] ∧ LenV X.K x H n ∧ Q (.int n) H) ∨ ∃ a kvs, xs = [V.ref a] ∧ H a = some (.dK kvs) ∧ Q (.int kvs.length) H) (fun X hX => ⟨call_len.or call_lenD, ?_⟩) hm PySem.boot_len ha hg (by decide) (by decide) hs
  intro L H a d x Q hL ma hg k
  obtain ⟨A, nd, q⟩ := id hL
  obtain ⟨_, ra, _⟩ := q.mem ma
  unfold gLen at hg
  split at hg
  · split at hg
    · rename_i z hz
      cases hg
      refine .inl ⟨_, z.length, rfl, ?_, k _ _ (hL.ofI _)⟩
      rw [ra.isS]; exact ⟨hz, rfl⟩
    · cases hg
  · cases hg
    obtain ⟨p, vs, rfl, h1, r1⟩ := ra.isL
    exact .inl ⟨_, _, rfl, .inl ⟨vs, .inl (.inl h1), r1.length.symm⟩, k _ _ (hL.ofI _)⟩
  · cases hg
    obtain ⟨p, vs, rfl, h1, r1⟩ := ra.isT
    exact .inl ⟨_, _, rfl, .inr ⟨vs, h1, r1.length.symm⟩, k _ _ (hL.ofI _)⟩
  · cases hg
    obtain ⟨p, vs, rfl, h1, r1⟩ := ra.isK
    exact .inl ⟨_, _, rfl, .inl ⟨vs, h1, r1.length.symm⟩, k _ _ (hL.ofI _)⟩
  · cases hg
    obtain ⟨p, kvs, os', rfl, h1, r1⟩ := ra.isD
    refine .inr ⟨p, kvs, rfl, h1, ?_⟩
    rw [r1.length]; exact k _ _ (hL.ofI _)
  · cases hg
/-- bools, ints of a list -/
def blsOf : List D → Option (List Bool)
  | [] => some []
  | .bl b :: r => match blsOf r with
    | some bs => some (b :: bs)
    | none => none
  | _ :: _ => none
def intsOf : List D → Option (List Int)
  | [] => some []
  | .int b :: r => match intsOf r with
    | some bs => some (b :: bs)
    | none => none
  | _ :: _ => none
def strsOf : List D → Option (List Str)
  | [] => some []
  | .str b :: r => match strsOf r with
    | some bs => some (b :: bs)
    | none => none
  | _ :: _ => none
theorem RDs.blsOf {K : PySem.W.Frag} {cls : Str → Addr} {H : Hp} {ow : Addr → Prop} {xs : List D} {vs : List V} {bs : List Bool} (r : RDs K cls H ow xs vs []) (h : Ev.blsOf xs = some bs) : vs = bs.map V.bl := by
  induction xs generalizing vs bs with
  | nil => cases r; simp only [Ev.blsOf] at h; cases h; rfl
  | cons x xs ih =>
    obtain ⟨v, ws, rfl, h1, h2⟩ := r.inv
    cases x <;> simp only [Ev.blsOf] at h <;> first | cases h | skip
    split at h
    · rename_i bs' hb
      cases h
      rw [ih h2 hb, h1.isB]; rfl
    · cases h
theorem RDs.intsOf {K : PySem.W.Frag} {cls : Str → Addr} {H : Hp} {ow : Addr → Prop} {xs : List D} {vs : List V} {bs : List Int} (r : RDs K cls H ow xs vs []) (h : Ev.intsOf xs = some bs) : vs = bs.map V.int := by
  induction xs generalizing vs bs with
  | nil => cases r; simp only [Ev.intsOf] at h; cases h; rfl
  | cons x xs ih =>
    obtain ⟨v, ws, rfl, h1, h2⟩ := r.inv
    cases x <;> simp only [Ev.intsOf] at h <;> first | cases h | skip
    split at h
    · rename_i bs' hb
      cases h
      rw [ih h2 hb, h1.isI]; rfl
    · cases h
theorem RDs.strsOf {K : PySem.W.Frag} {cls : Str → Addr} {H : Hp} {ow : Addr → Prop} {xs : List D} {vs : List V} {bs : List Str} (r : RDs K cls H ow xs vs []) (h : Ev.strsOf xs = some bs) : vs = bs.map V.str := by
  induction xs generalizing vs bs with
  | nil => cases r; simp only [Ev.strsOf] at h; cases h; rfl
  | cons x xs ih =>
    obtain ⟨v, ws, rfl, h1, h2⟩ := r.inv
    cases x <;> simp only [Ev.strsOf] at h <;> first | cases h | skip
    split at h
    · rename_i bs' hb
      cases h
      rw [ih h2 hb, h1.isS]; rfl
    · cases h
def gAll : D → Option D
  | .lst _ xs => match blsOf xs with
    | some bs => some (.bl (bs.all id))
    | none => none
  | _ => none
theorem se_all (hm : S.g.mg "all" = none) (ha : SO S a fa) (hg : Glb S "all" := by rfl) (hs : ∀ env : Env, starEach [a] env = [(false, eval a env)] := by intro _; rfl) : SE S (.Call (.Name "all" p) [a] [] pos) (e1 gAll fa) := by
  refine se_b1 (r := fun X => rAll X.K) (fun X hX => ⟨cr_all hX.calm, ?_⟩) hm (by decide +kernel) ha hg (by decide) (by decide) hs
  intro L H a d x Q hL ma hg k
  obtain ⟨A, nd, q⟩ := id hL
  obtain ⟨_, ra, _⟩ := q.mem ma
  unfold gAll at hg
  split at hg
  · split at hg
    · rename_i bs hb
      cases hg
      obtain ⟨p, vs, rfl, h1, r1⟩ := ra.isL
      refine ⟨p, bs, rfl, .inl (.inl ?_), k _ _ (hL.ofB _)⟩
      rw [← r1.blsOf hb]; exact h1
    · cases hg
  · cases hg
def gSum : D → Option D
  | .lst _ xs => match intsOf xs with
    | some bs => some (.int bs.sum)
    | none => none
  | _ => none
theorem se_sumL (hm : S.g.mg "sum" = none) (ha : SO S a fa) (hg : Glb S "sum" := by rfl) (hs : ∀ env : Env, starEach [a] env = [(false, eval a env)] := by intro _; rfl) : SE S (.Call (.Name "sum" p) [a] [] pos) (e1 gSum fa) := by
  refine se_b1 (r := fun X => rSum X.K) (fun X hX => ⟨cr_sum hX.calm, ?_⟩) hm (by decide +kernel) ha hg (by decide) (by decide) hs
  intro L H a d x Q hL ma hg k
  obtain ⟨A, nd, q⟩ := id hL
  obtain ⟨_, ra, _⟩ := q.mem ma
  unfold gSum at hg
  split at hg
  · split at hg
    · rename_i bs hb
      cases hg
      obtain ⟨p, vs, rfl, h1, r1⟩ := ra.isL
      refine ⟨p, bs, rfl, .inl (.inl ?_), k _ _ (hL.ofI _)⟩
      rw [← r1.intsOf hb]; exact h1
    · cases hg
  · cases hg
def gTuple : D → Option D
  | .lst _ xs => some (.tup xs)
  | .tup xs => some (.tup xs)
  | _ => none
theorem se_tuple (hm : S.g.mg "tuple" = none) (ha : SO S a fa) (hg : Glb S "tuple" := by rfl) (hs : ∀ env : Env, starEach [a] env = [(false, eval a env)] := by intro _; rfl) : SE S (.Call (.Name "tuple" p) [a] [] pos) (e1 gTuple fa) := by
  refine se_t1 (r := fun X xs H Q => ∃ p ys, xs = [.ref p] ∧ ((SqL X.K H p ys ∧ ∀ l, H l = none → Q (.ref l) (upd H l (.tup ys))) ∨ (SqT X.K H p ys ∧ Q (.ref p) H))) (fun X hX => ⟨call_tuple_of, ?_⟩) hm (by decide +kernel) ha hg (by decide) (by decide) hs
  intro L H a d x Q hL ma hg k
  obtain ⟨A, nd, q⟩ := id hL
  obtain ⟨_, ra, _⟩ := q.mem ma
  unfold gTuple at hg
  split at hg
  · cases hg
    obtain ⟨p, vs, rfl, h1, r1⟩ := ra.isL
    exact ⟨p, vs, rfl, .inl ⟨.inl (.inl h1), fun z hz => k _ _ (Rel.newT nd q hz r1)⟩⟩
  · cases hg
    obtain ⟨p, vs, rfl, h1, r1⟩ := ra.isT
    have z := ra.fzo rfl
    subst z
    exact ⟨p, vs, rfl, .inr ⟨h1, k _ _ (Rel.add nd q ra)⟩⟩
  · cases hg
def gList : D → Option D
  | .lst _ xs => some (.lst true xs)
  | .tup xs => some (.lst true xs)
  | .lck xs => some (.lst true xs)
  | _ => none
theorem se_list (hm : S.g.mg "list" = none) (ha : SO S a fa) (hg : Glb S "list" := by rfl) (hs : ∀ env : Env, starEach [a] env = [(false, eval a env)] := by intro _; rfl) : SE S (.Call (.Name "list" p) [a] [] pos) (e1 gList fa) := by
  refine se_t1 (r := fun X xs H Q => ∃ p ys, xs = [.ref p] ∧ (SqL X.K H p ys ∨ SqT X.K H p ys) ∧ ∀ l, H l = none → Q (.ref l) (upd H l (.lst ys))) (fun X hX => ⟨call_list_of, ?_⟩) hm (by decide +kernel) ha hg (by decide) (by decide) hs
  intro L H a d x Q hL ma hg k
  obtain ⟨A, nd, q⟩ := id hL
  obtain ⟨_, ra, _⟩ := q.mem ma
  unfold gList at hg
  split at hg
  · cases hg
    obtain ⟨p, vs, rfl, h1, r1⟩ := ra.isL
    exact ⟨p, vs, rfl, .inl (.inl (.inl h1)), fun z hz => k _ _ (Rel.newL nd q hz r1)⟩
  · cases hg
    obtain ⟨p, vs, rfl, h1, r1⟩ := ra.isT
    exact ⟨p, vs, rfl, .inr h1, fun z hz => k _ _ (Rel.newL nd q hz r1)⟩
  · cases hg
    obtain ⟨p, vs, rfl, h1, r1⟩ := ra.isK
    exact ⟨p, vs, rfl, .inl h1, fun z hz => k _ _ (Rel.newL nd q hz r1)⟩
  · cases hg
def gInt : D → Option D
  | .int i => some (.int i)
  | .bl b => some (.int (if b then 1 else 0))
  | .str z => if z.length ≤ 640 then (match PySem.intText? z with
    | some n => some (.int n)
    | none => none) else none
  | _ => none
theorem se_intC (hm : S.g.mg "int" = none) (ha : SO S a fa) (hg : Glb S "int" := by rfl) (hs : ∀ env : Env, starEach [a] env = [(false, eval a env)] := by intro _; rfl) : SE S (.Call (.Name "int" p) [a] [] pos) (e1 gInt fa) := by
  refine se_t1 (r := fun X xs H Q => ((∃ i, xs = [.int i] ∧ Q (.int i) H) ∨ ∃ k, xs = [.bl k] ∧ Q (.int (if k then 1 else 0)) H) ∨ ∃ a n, xs = [.str a] ∧ PySem.intText? a = some n ∧ a.length ≤ 640 ∧ Q (.int n) H) (fun X hX => ⟨call_int1.or call_int_str, ?_⟩) hm (by decide +kernel) ha hg (by decide) (by decide) hs
  intro L H a d x Q hL ma hg k
  obtain ⟨A, nd, q⟩ := id hL
  obtain ⟨_, ra, _⟩ := q.mem ma
  unfold gInt at hg
  split at hg
  · cases hg
    exact .inl (.inl ⟨_, by rw [ra.isI], k _ _ (hL.ofI _)⟩)
  · cases hg
    exact .inl (.inr ⟨_, by rw [ra.isB], k _ _ (hL.ofI _)⟩)
  · split at hg
    · rename_i hz
      split at hg
      · rename_i n hn
        cases hg
        exact .inr ⟨_, n, by rw [ra.isS], hn, hz, k _ _ (hL.ofI _)⟩
      · cases hg
    · cases hg
  · cases hg
def gStr : D → Option D
  | .int i => if i.natAbs < 2 ^ 1000 then some (.str (toString i)) else none
  | .str z => some (.str z)
  | _ => none
theorem se_strC (hm : S.g.mg "str" = none) (ha : SO S a fa) (hg : Glb S "str" := by rfl) (hs : ∀ env : Env, starEach [a] env = [(false, eval a env)] := by intro _; rfl) : SE S (.Call (.Name "str" p) [a] [] pos) (e1 gStr fa) := by
  refine se_t1 (r := fun X xs H Q => (∃ i, xs = [.int i] ∧ i.natAbs.log2 < 1920 ∧ Q (.str (toString i)) H) ∨ ∃ a, xs = [.str a] ∧ Q (.str a) H) (fun X hX => ⟨call_str_int.or SkE.call_str_str, ?_⟩) hm (by decide +kernel) ha hg (by decide) (by decide) hs
  intro L H a d x Q hL ma hg k
  obtain ⟨A, nd, q⟩ := id hL
  obtain ⟨_, ra, _⟩ := q.mem ma
  unfold gStr at hg
  split at hg
  · split at hg
    · rename_i i hi
      cases hg
      refine .inl ⟨_, by rw [ra.isI], ?_, k _ _ (hL.ofS _)⟩
      exact Nat.lt_of_lt_of_le (PySem.Flt.log2_lt_of (by decide) hi) (by decide)
    · cases hg
  · cases hg
    exact .inr ⟨_, by rw [ra.isS], k _ _ (hL.ofS _)⟩
  · cases hg

/-! ### isinstance -/
def tyN : D → Option String
  | .non => some "NoneType"
  | .bl _ => some "bool"
  | .int _ => some "int"
  | .str _ => some "str"
  | .tup _ => some "tuple"
  | .lst _ _ => some "list"
  | .lck _ => some "list"
  | .dct _ _ => some "dict"
  | _ => none
def isiT (T : String) (d : D) : Option Bool := match tyN d with
  | some t => if t = T then some true else if t = "bool" ∧ T = "int" then some true else some false
  | none => none
def gIsi (T : String) (d : D) : Option D := match isiT T d with
  | some b => some (.bl b)
  | none => none
def isiOk (T : String) : Bool := ["NoneType", "bool", "int", "str", "tuple", "list", "dict"].all fun t => decide (kitB t T = some (decide (t = T) || (decide (t = "bool") && decide (T = "int"))))
theorem RD.ty {K : PySem.W.Frag} {cls : Str → Addr} {H : Hp} {ow : Addr → Prop} {d : D} {v : V} {os : List Addr} {t : String} (r : RD K cls H ow d v os) (h : tyN d = some t) : TyX K H v (.type t) ∧ t ∈ ["NoneType", "bool", "int", "str", "tuple", "list", "dict"] := by
  cases r <;> simp only [tyN] at h <;> cases h
  · exact ⟨.base .non, by decide⟩
  · exact ⟨.base (.bl _), by decide⟩
  · exact ⟨.base (.int _), by decide⟩
  · exact ⟨.base (.str _), by decide⟩
  · rename_i e _ _; exact ⟨.base (.tup e), by decide⟩
  · rename_i e _
    rcases e fun _ => none with (h | ⟨_, h⟩) | ⟨o, its, n, h1, h2, _⟩
    · cases h
    · cases h
    · exact ⟨.kTuple h1 h2, by decide⟩
  · rename_i e _ _; exact ⟨.base (.lst e), by decide⟩
  · rename_i e _
    rcases e fun _ => none with (h | ⟨_, h⟩) | ⟨o, its, n, h1, h2, _⟩
    · cases h
    · cases h
    · exact ⟨.kList h1 h2, by decide⟩
  · rename_i e _ _; exact ⟨.base (.frz e), by decide⟩
  · rename_i e _; exact ⟨.base (.lst e), by decide⟩
  · rename_i e _ _; exact ⟨.base (.dK e), by decide⟩
  · rename_i e _; exact ⟨.base (.dK e), by decide⟩
theorem se_isi {Ty : String} {T' : Str} (hm : S.g.mg "isinstance" = none) (hmT : S.g.mg T' = none) (hvT : bootBuiltins T' = some (.type Ty)) (ok : isiOk Ty = true) (ha : SO S a fa) (hg : Glb S "isinstance" := by rfl) (hgT : Glb S T' := by rfl)
    (hnT : T' ≠ "__name__" := by decide) (hdT : (T' == ("__debug__" : Str)) = false := by decide)
    (hs : ∀ env : Env, starEach [a, .Name T' p2] env = (false, eval a env) :: starEach [.Name T' p2] env := by intro _; rfl) : SE S (.Call (.Name "isinstance" p) [a, .Name T' p2] [] pos) (e1 (gIsi Ty) fa) := by
  refine ⟨?_⟩; intro X hX ρ ρ' σ l T H rr hS hf Q W tk kO kE
  refine Bst.of (pe_callB call_isi (gl_of hX hg) (by rw [hX.mg]; exact hm) (by decide +kernel) (pa_cons bst (pa_cons (pe_bltn (v := .ty Ty) (gl_of hX hgT) (by rw [hX.mg]; exact hmT) hvT rfl hnT hdT) pa_nil rfl) (hs _)) (by decide) (by decide) (hs _) rfl) ?_
  refine ha.run hX hS hf tk kE fun av x H1 ρ1 h1 S1 o1 => ?_
  refine fin1_end (rr := fun x H Q => rIsi X.K [x, .ty Ty] H Q) (g := gIsi Ty) ?_ S1 o1 h1 kO
  intro L H a d x Q hL ma hg k
  obtain ⟨A, nd, q⟩ := id hL
  obtain ⟨_, ra, _⟩ := q.mem ma
  unfold gIsi at hg
  split at hg
  · rename_i b hb
    cases hg
    unfold isiT at hb
    split at hb
    · rename_i t ht
      obtain ⟨h1, h2⟩ := ra.ty ht
      have h3 := of_decide_eq_true (List.all_eq_true.mp ok t h2)
      refine ⟨x, _, _, _, b, rfl, .ty _, h1, kit_ty ?_, k _ _ (hL.ofB _)⟩
      rw [h3]
      by_cases e1 : t = Ty
      · rw [if_pos e1] at hb; cases hb
        rw [decide_eq_true e1]; rfl
      · rw [if_neg e1] at hb
        rw [decide_eq_false e1]
        by_cases e2 : t = "bool" ∧ Ty = "int"
        · rw [if_pos e2] at hb; cases hb
          rw [decide_eq_true e2.1, decide_eq_true e2.2]; rfl
        · rw [if_neg e2] at hb; cases hb
          by_cases e3 : t = "bool"
          · rw [decide_eq_false (p := Ty = "int") fun z => e2 ⟨e3, z⟩]; simp
          · rw [decide_eq_false e3]; rfl
    · cases hb
  · cases hg

/-! ### a op b op' c -/
def finC (g g' : D → D → Option D) (a b : AV) (fc : OV) : EV := fun ρ => match res ρ a, res ρ b with
  | some da, some db => (match g da db with
    | some (.bl true) => bd fc (fun c => fin2 g' b c) ρ
    | some (.bl false) => some (.ok (.bl false), ρ)
    | _ => none)
  | _, _ => none
def eCh (g g' : D → D → Option D) (fa fb fc : OV) : EV := bd fa fun a => bd fb fun b => finC g g' a b fc
theorem chain_run {op op' : CmpOp} {g g' : D → D → Option D} {rr rr' : Cx → R2} (ho : ∀ X, InD S X → OpR X (compareOp op) (rr X) ∧ Op2 X.K S.g.cls (rr X) g) (ho' : ∀ X, InD S X → OpR X (compareOp op') (rr' X) ∧ Op2 X.K S.g.cls (rr' X) g') (ha : SO S a fa) (hb : SO S b fb) (hc : SO S c fc)
    {X : Cx} (hX : InD S X) {ρ ρ' : En} {σ : St} {l : List V} {T : List (D × V)} {H : Hp} {r : Rs D} (hS : SR X.K S.g.cls ρ σ l T H) (hf : eCh g g' fa fb fc ρ = some (r, ρ')) {Q : VK} {W : WX} (tk : Takes X W) (kO : ∀ d v H', r = .ok d → SR X.K S.g.cls ρ' σ l ((d, v) :: T) H' → Q v H') (kE : ∀ x, r = .er x → KX S X ρ' σ l T W x) :
    tChain (rr X) (rr' X) (Bst X a) (Bst X b) (Bst X c) σ H Q := by
  refine ha.run hX hS hf tk kE fun av x H1 ρ1 h1 S1 o1 => ?_
  refine hb.run hX S1 h1 tk (fun x e => (kE x e).more) fun bv y H2 ρ2 h2 S2 o2 => ?_
  unfold finC at h2
  split at h2
  · rename_i da db hda hdb
    obtain ⟨L, er, q⟩ := id S2
    have mA : (da, x) ∈ L ++ (avT bv y ++ (avT av x ++ T)) := by
      rcases res_mem (K := X.K) er o1 hda with z | z
      · exact List.mem_append_left _ z
      · rw [z]; exact List.mem_append_right _ (List.mem_append_right _ List.mem_cons_self)
    have mB : (db, y) ∈ L ++ (avT bv y ++ (avT av x ++ T)) := by
      rcases res_mem (K := X.K) er o2 hdb with z | z
      · exact List.mem_append_left _ z
      · rw [z]; exact List.mem_append_right _ List.mem_cons_self
    split at h2
    · rename_i hg
      refine (ho X hX).2 _ H2 da db _ x y _ q mA mB hg fun v H' q' => ?_
      obtain ⟨A', nd', r'⟩ := id q'
      obtain ⟨_, rv, _⟩ := r'.mem (d := .bl true) (v := v) List.mem_cons_self
      refine ⟨true, rv.isB, ?_⟩
      rw [if_pos rfl]
      have S3 : SR X.K S.g.cls ρ2 σ l (avT bv y ++ (avT av x ++ T)) H' := ⟨L, er, q'.drop⟩
      refine hc.run hX S3 h2 tk (fun x e => ((kE x e).more).more) fun cv z H4 ρ4 h4 S4 o4 => ?_
      refine fin2_end (T := avT av x ++ T) (ho' X hX).2 S4 o2 o4 h4 fun d v H5 e S5 => kO d v H5 e ?_
      obtain ⟨L5, er5, q5⟩ := S5
      refine ⟨L5, er5, ?_⟩
      have p5 : (L5 ++ (d, v) :: (avT av x ++ T)).Perm ((d, v) :: (L5 ++ (avT av x ++ T))) := List.perm_middle
      exact (q5.perm p5).fin
    · rename_i hg
      cases h2
      refine (ho X hX).2 _ H2 da db _ x y _ q mA mB hg fun v H' q' => ?_
      obtain ⟨A', nd', r'⟩ := id q'
      obtain ⟨_, rv, _⟩ := r'.mem (d := .bl false) (v := v) List.mem_cons_self
      have e := rv.isB
      subst e
      refine ⟨false, rfl, ?_⟩
      rw [if_neg (by decide)]
      refine kO _ _ H' rfl ⟨L, er, ?_⟩
      rw [← List.append_assoc (avT bv y)] at q'
      exact q'.fin
    · cases h2
  · cases h2
theorem se_chain {op op' : CmpOp} {g g' : D → D → Option D} {rr rr' : Cx → R2} (ho : ∀ X, InD S X → OpR X (compareOp op) (rr X) ∧ Op2 X.K S.g.cls (rr X) g) (ho' : ∀ X, InD S X → OpR X (compareOp op') (rr' X) ∧ Op2 X.K S.g.cls (rr' X) g') (ha : SO S a fa) (hb : SO S b fb) (hc : SO S c fc) (hm : lastMarks [op, op'] [b, c] = false := by rfl) : SE S (.Compare a [op, op'] [b, c] pos) (eCh g g' fa fb fc) := by
  refine ⟨?_⟩; intro X hX ρ ρ' σ l T H r hS hf Q W tk kO kE
  exact Bst.of (pe_chain (ho X hX).1 (ho' X hX).1 bst bst bst hm) (chain_run ho ho' ha hb hc hX hS hf tk kO kE)
theorem st_chain {op op' : CmpOp} {g g' : D → D → Option D} {rr rr' : Cx → R2} (ho : ∀ X, InD S X → OpR X (compareOp op) (rr X) ∧ Op2 X.K S.g.cls (rr X) g) (ho' : ∀ X, InD S X → OpR X (compareOp op') (rr' X) ∧ Op2 X.K S.g.cls (rr' X) g') (ha : SO S a fa) (hb : SO S b fb) (hc : SO S c fc) (hm : lastMarks [op, op'] [b, c] = false := by rfl) : ST S (.Compare a [op, op'] [b, c] pos) (tE (eCh g g' fa fb fc)) := by
  refine ⟨?_⟩; intro X hX ρ ρ' σ l T H r hS hf Q W tk kO kE
  refine BstT.of (pt_chain (ho X hX).1 (ho' X hX).1 bst bst bst hm) ?_
  rcases bd_inv hf with ⟨d, ρ1, h1, h2⟩ | ⟨x, h1, h2⟩
  · obtain ⟨b', rfl, rfl, rfl⟩ := tB1_inv h2
    exact chain_run ho ho' ha hb hc hX hS h1 tk (fun d v H' e S' => by cases e; exact ⟨b', S'.bl, kO b' H' rfl S'.dropT⟩) (fun x e => by cases e)
  · exact chain_run ho ho' ha hb hc hX hS h1 tk (fun d v H' e S' => by cases e) (fun x' e => by cases e; exact kE x h2)
end
end L2.Ev
namespace L2.Ev
open PySem PySem.Spec PyProof.Rows

/-! ### arguments -/
def aNil : LV := fun ρ => some (.ok [], ρ)
def aCons (f : OV) (g : LV) : LV := bd f fun a => bd g fun as ρ => some (.ok (a :: as), ρ)
section
variable {S : Sc} {e : Expr} {es : List Expr} {f : OV} {g : LV}
theorem sa_nil : SA S [] aNil := by
  refine ⟨?_⟩; intro X hX ρ ρ' σ l T H r hS hf Q W tk kO kE
  cases hf
  exact BstA.of pa_nil (kO [] [] H rfl hS trivial)
theorem sa_cons (h : SO S e f) (hr : SA S es g) (hs : nst e = true := by rfl) : SA S (e :: es) (aCons f g) := by
  refine ⟨?_⟩; intro X hX ρ ρ' σ l T H r hS hf Q W tk kO kE
  refine BstA.of (pa_cons bst bstA (star_cons hs)) ?_
  refine h.run hX hS hf tk kE fun a v H1 ρ1 hk S1 o1 => ?_
  rcases bd_inv hk with ⟨as, ρ2, h1, h2⟩ | ⟨x, h1, h2⟩
  · cases h2
    refine hr.h X hX ρ1 ρ' σ l (avT a v ++ T) H1 _ S1 h1 _ W tk (fun as' vs H' e S2 o2 => ?_) (fun x e => by cases e)
    cases e
    refine kO _ (v :: vs) H' rfl ?_ ⟨o1, o2⟩
    obtain ⟨L, er, q⟩ := S2
    refine ⟨L, er, q.perm (List.Perm.append_left L ?_)⟩
    show (avTs as vs ++ (avT a v ++ T)).Perm (avT a v ++ avTs as vs ++ T)
    rw [← List.append_assoc]
    exact List.perm_append_comm.append_right T
  · refine hr.h X hX ρ1 ρ' σ l (avT a v ++ T) H1 _ S1 h1 _ W tk (fun as' vs H' e S2 o2 => by cases e) (fun x' e => ?_)
    cases e
    exact (kE x h2).more
end

/-! ### what is handed over, and taken back -/
def takeA : En → List AV → Option (List D × En)
  | ρ, [] => some ([], ρ)
  | ρ, .tmp d :: as => match takeA ρ as with
    | some (ds, ρ') => some (d :: ds, ρ')
    | none => none
  | ρ, .slot i :: as => match look ρ i with
    | some d => (match takeA (ρ.set i .no) as with
      | some (ds, ρ') => some (d :: ds, ρ')
      | none => none)
    | none => none
def giveA : En → List AV → List D → En → En
  | ρ0, .tmp _ :: as, _ :: ds, ρ => giveA ρ0 as ds ρ
  | ρ0, .slot i :: as, d :: ds, ρ => (match ρ0[i]? with
    | some (.lent _) => (giveA ρ0 as ds ρ).set i (.lent d)
    | _ => (giveA ρ0 as ds ρ).set i (.val d))
  | _, _, _, ρ => ρ
theorem ER.out : ∀ {ρ : En} {σ : St} {l : List V} {L : List (D × V)} {i : Nat} {d : D}, ER ρ σ l L → look ρ i = some d → ∃ v L0, σ[i]? = some (some v) ∧ (∀ d', ρ[i]? = some (.lent d') → l[i]? = some v) ∧ L.Perm ((d, v) :: L0) ∧ ER (ρ.set i .no) σ l L0
  | _, _, _, _, i, d, .nil, h => by simp [look] at h
  | _, _, _, _, 0, d, .no r, h => by simp [look] at h
  | _, _, _, _, 0, d, .val r, h => by
    simp [look] at h; subst h; exact ⟨_, _, rfl, fun d' z => by simp at z, .refl _, .no r⟩
  | _, _, _, _, 0, d, .lent r, h => by
    simp [look] at h; subst h; exact ⟨_, _, rfl, fun d' z => rfl, .refl _, .no r⟩
  | _, _, _, _, i + 1, d, .no r, h => by
    obtain ⟨v, L0, h1, hl, h2, h3⟩ := ER.out (i := i) (d := d) r (by simpa [look] using h)
    exact ⟨v, L0, by simpa using h1, fun d' z => by simpa using hl d' (by simpa using z), h2, .no h3⟩
  | _, _, _, _, i + 1, d, .val (d := d2) (v := v2) r, h => by
    obtain ⟨v, L0, h1, hl, h2, h3⟩ := ER.out (i := i) (d := d) r (by simpa [look] using h)
    exact ⟨v, (d2, v2) :: L0, by simpa using h1, fun d' z => by simpa using hl d' (by simpa using z), (h2.cons _).trans (.swap _ _ _), .val h3⟩
  | _, _, _, _, i + 1, d, .lent (d := d2) (v := v2) r, h => by
    obtain ⟨v, L0, h1, hl, h2, h3⟩ := ER.out (i := i) (d := d) r (by simpa [look] using h)
    exact ⟨v, (d2, v2) :: L0, by simpa using h1, fun d' z => by simpa using hl d' (by simpa using z), (h2.cons _).trans (.swap _ _ _), .lent h3⟩
theorem ER.backV : ∀ {ρ : En} {σ : St} {l : List V} {L : List (D × V)} {i : Nat} {v : V} (d : D), ER ρ σ l L → ρ[i]? = some .no → σ[i]? = some (some v) → ∃ L', ER (ρ.set i (.val d)) σ l L' ∧ L'.Perm ((d, v) :: L)
  | _, _, _, _, i, v, d, .nil, h, _ => by simp at h
  | _, _, _, _, 0, v, d, .no r, h, e => by
    simp at e; subst e; exact ⟨_, .val r, .refl _⟩
  | _, _, _, _, 0, v, d, .val r, h, _ => by simp at h
  | _, _, _, _, 0, v, d, .lent r, h, _ => by simp at h
  | _, _, _, _, i + 1, v, d, .no r, h, e => by
    obtain ⟨L', h1, h2⟩ := ER.backV (i := i) (v := v) d r (by simpa using h) (by simpa using e)
    exact ⟨L', .no h1, h2⟩
  | _, _, _, _, i + 1, v, d, .val (d := d2) (v := v2) r, h, e => by
    obtain ⟨L', h1, h2⟩ := ER.backV (i := i) (v := v) d r (by simpa using h) (by simpa using e)
    exact ⟨(d2, v2) :: L', .val h1, (h2.cons _).trans (.swap _ _ _)⟩
  | _, _, _, _, i + 1, v, d, .lent (d := d2) (v := v2) r, h, e => by
    obtain ⟨L', h1, h2⟩ := ER.backV (i := i) (v := v) d r (by simpa using h) (by simpa using e)
    exact ⟨(d2, v2) :: L', .lent h1, (h2.cons _).trans (.swap _ _ _)⟩
theorem ER.backL : ∀ {ρ : En} {σ : St} {l : List V} {L : List (D × V)} {i : Nat} {v : V} (d : D), ER ρ σ l L → ρ[i]? = some .no → σ[i]? = some (some v) → l[i]? = some v → ∃ L', ER (ρ.set i (.lent d)) σ l L' ∧ L'.Perm ((d, v) :: L)
  | _, _, _, _, i, v, d, .nil, h, _, _ => by simp at h
  | _, _, _, _, 0, v, d, .no r, h, e, e2 => by
    simp at e e2; subst e; subst e2; exact ⟨_, .lent r, .refl _⟩
  | _, _, _, _, 0, v, d, .val r, h, _, _ => by simp at h
  | _, _, _, _, 0, v, d, .lent r, h, _, _ => by simp at h
  | _, _, _, _, i + 1, v, d, .no r, h, e, e2 => by
    obtain ⟨L', h1, h2⟩ := ER.backL (i := i) (v := v) d r (by simpa using h) (by simpa using e) (by simpa using e2)
    exact ⟨L', .no h1, h2⟩
  | _, _, _, _, i + 1, v, d, .val (d := d2) (v := v2) r, h, e, e2 => by
    obtain ⟨L', h1, h2⟩ := ER.backL (i := i) (v := v) d r (by simpa using h) (by simpa using e) (by simpa using e2)
    exact ⟨(d2, v2) :: L', .val h1, (h2.cons _).trans (.swap _ _ _)⟩
  | _, _, _, _, i + 1, v, d, .lent (d := d2) (v := v2) r, h, e, e2 => by
    obtain ⟨L', h1, h2⟩ := ER.backL (i := i) (v := v) d r (by simpa using h) (by simpa using e) (by simpa using e2)
    exact ⟨(d2, v2) :: L', .lent h1, (h2.cons _).trans (.swap _ _ _)⟩
theorem look_lt {ρ : En} {i : Nat} {d : D} (h : look ρ i = some d) : i < ρ.length := by
  unfold look at h
  split at h
  · rename_i e; exact (List.getElem?_eq_some_iff.mp e).1
  · rename_i e; exact (List.getElem?_eq_some_iff.mp e).1
  · cases h
theorem takeA_no : ∀ {as : List AV} {ρ ρ' : En} {ds : List D} {i : Nat}, takeA ρ as = some (ds, ρ') → ρ[i]? = some .no → ρ'[i]? = some .no
  | [], ρ, ρ', ds, i, h, e => by cases h; exact e
  | .tmp d :: as, ρ, ρ', ds, i, h, e => by
    simp only [takeA] at h
    split at h
    · rename_i ds' ρ2 h2; cases h; exact takeA_no h2 e
    · cases h
  | .slot j :: as, ρ, ρ', ds, i, h, e => by
    simp only [takeA] at h
    split at h
    · rename_i d hd
      split at h
      · rename_i ds' ρ2 h2
        cases h
        refine takeA_no h2 ?_
        by_cases hj : j = i
        · subst hj; rw [List.getElem?_set_self (look_lt hd)]
        · rw [List.getElem?_set_ne hj]; exact e
      · cases h
    · cases h
theorem giveA_no {ρ0 : En} : ∀ {as : List AV} {ds : List D} {ρ : En} {i : Nat}, (∀ j, .slot j ∈ as → j ≠ i) → (giveA ρ0 as ds ρ)[i]? = ρ[i]?
  | [], ds, ρ, i, _ => by cases ds <;> rfl
  | .tmp d :: as, [], ρ, i, _ => rfl
  | .slot d :: as, [], ρ, i, _ => rfl
  | .tmp d :: as, _ :: ds, ρ, i, h => giveA_no (as := as) (ds := ds) fun j m => h j (List.mem_cons_of_mem _ m)
  | .slot j :: as, d :: ds, ρ, i, h => by
    have hj : j ≠ i := h j List.mem_cons_self
    have ih := giveA_no (ρ0 := ρ0) (as := as) (ds := ds) (ρ := ρ) (i := i) fun j m => h j (List.mem_cons_of_mem _ m)
    simp only [giveA]
    split <;> (rw [List.getElem?_set_ne hj]; exact ih)
theorem takeA_slots : ∀ {as : List AV} {ρ ρ' : En} {ds : List D} {i : Nat}, takeA ρ as = some (ds, ρ') → ρ[i]? = some .no → ∀ j, .slot j ∈ as → j ≠ i
  | [], ρ, ρ', ds, i, h, e, j, m => by cases m
  | .tmp d :: as, ρ, ρ', ds, i, h, e, j, m => by
    simp only [takeA] at h
    split at h
    · rename_i ds' ρ2 h2; cases h
      rcases List.mem_cons.mp m with z | m
      · cases z
      · exact takeA_slots h2 e j m
    · cases h
  | .slot j' :: as, ρ, ρ', ds, i, h, e, j, m => by
    simp only [takeA] at h
    split at h
    · rename_i d hd
      split at h
      · rename_i ds' ρ2 h2
        cases h
        have hne : j' ≠ i := fun z => by
          subst z
          unfold look at hd
          rw [e] at hd
          cases hd
        rcases List.mem_cons.mp m with z | m
        · cases z; exact hne
        · refine takeA_slots h2 ?_ j m
          rw [List.getElem?_set_ne hne]; exact e
      · cases h
    · cases h
/-- the arguments go over, the rest stays; they come back changed -/
theorem take_give {σ : St} {l : List V} (ρ0 : En) : ∀ {as : List AV} {vs : List V} {ρ ρ' : En} {ds : List D} {L : List (D × V)}, (∀ (i : Nat), ρ[i]? = some Sl.no ∨ ρ[i]? = ρ0[i]?) → ER ρ σ l L → takeA ρ as = some (ds, ρ') → avOks σ as vs →
    vs.length = ds.length ∧ ∃ M, (L ++ avTs as vs).Perm (zipT ds vs ++ M) ∧ ∀ (ds' : List D), ds'.length = ds.length → ∃ L' B, ER (giveA ρ0 as ds' ρ') σ l L' ∧ (zipT ds' vs ++ M).Perm (B ++ L')
  | [], [], ρ, ρ', ds, L, i0, er, h, _ => by
    cases h
    refine ⟨rfl, L, by simp [avTs, zipT], fun ds' hl => ?_⟩
    have : ds' = [] := List.eq_nil_of_length_eq_zero hl
    subst this
    exact ⟨L, [], er, .refl _⟩
  | [], _ :: _, ρ, ρ', ds, L, i0, er, h, o => by cases o
  | _ :: _, [], ρ, ρ', ds, L, i0, er, h, o => by cases o
  | .tmp d :: as, v :: vs, ρ, ρ', ds, L, i0, er, h, o => by
    simp only [takeA] at h
    split at h
    · rename_i ds2 ρ2 h2
      cases h
      obtain ⟨hl, M, h3, h4⟩ := take_give ρ0 i0 er h2 o.2
      refine ⟨by simp [hl], M, ?_, fun ds' hd => ?_⟩
      · show (L ++ (d, v) :: avTs as vs).Perm ((d, v) :: (zipT ds2 vs ++ M))
        exact List.perm_middle.trans (h3.cons _)
      · cases ds' with
        | nil => cases hd
        | cons d' ds' =>
          obtain ⟨L', B, e1, e2⟩ := h4 ds' (by simpa using hd)
          exact ⟨L', (d', v) :: B, e1, e2.cons _⟩
    · cases h
  | .slot i :: as, v :: vs, ρ, ρ', ds, L, i0, er, h, o => by
    simp only [takeA] at h
    split at h
    · rename_i d hd
      split at h
      · rename_i ds2 ρ2 h2
        cases h
        obtain ⟨v', L0, h1, hlv, p1, er1⟩ := er.out hd
        have ev : some (some v') = some (some v) := h1.symm.trans o.1
        cases ev
        have hlt := look_lt hd
        have i1 : ∀ (j : Nat), (ρ.set i .no)[j]? = some Sl.no ∨ (ρ.set i .no)[j]? = ρ0[j]? := fun j => by
          by_cases hj : i = j
          · subst hj; exact .inl (List.getElem?_set_self hlt)
          · rw [List.getElem?_set_ne hj]; exact i0 j
        have no1 : (ρ.set i .no)[i]? = some Sl.no := List.getElem?_set_self hlt
        obtain ⟨hl, M, h3, h4⟩ := take_give ρ0 i1 er1 h2 o.2
        refine ⟨by simp [hl], M, ?_, fun ds' hd' => ?_⟩
        · show (L ++ avTs as vs).Perm ((d, v) :: (zipT ds2 vs ++ M))
          exact (p1.append_right _).trans (h3.cons _)
        · cases ds' with
          | nil => cases hd'
          | cons d' ds' =>
            obtain ⟨L', B, e1, e2⟩ := h4 ds' (by simpa using hd')
            have no2 : (giveA ρ0 as ds' ρ')[i]? = some Sl.no := by
              rw [giveA_no (takeA_slots h2 no1)]
              exact takeA_no h2 no1
            have fin : ∀ L'', L''.Perm ((d', v) :: L') → (zipT (d' :: ds') (v :: vs) ++ M).Perm (B ++ L'') := fun L'' p => by
              show ((d', v) :: (zipT ds' vs ++ M)).Perm _
              refine (e2.cons _).trans ?_
              refine List.perm_middle.symm.trans ?_
              exact p.symm.append_left B
            have hne : ρ[i]? ≠ some Sl.no := fun z => by
              unfold look at hd
              rw [z] at hd
              cases hd
            have h0 : ρ[i]? = ρ0[i]? := (i0 i).resolve_left hne
            simp only [giveA]
            split
            · rename_i d0 z
              obtain ⟨L'', f1, f2⟩ := e1.backL d' no2 h1 (hlv d0 (h0.trans z))
              exact ⟨L'', B, f1, fin L'' f2⟩
            · obtain ⟨L'', f1, f2⟩ := e1.backV d' no2 h1
              exact ⟨L'', B, f1, fin L'' f2⟩
      · cases h
    · cases h

/-! ### functions -/
abbrev FV := List D → Option (Rs D × List D)
def spF (K : PySem.W.Frag) (cls : Str → Addr) (n : Nat) (F : FV) : Sp := fun vs H Q E => ∃ (ds : List D) (T : List (D × V)) (r : Rs D) (ds' : List D), vs.length = n ∧ vs.length = ds.length ∧ ds'.length = ds.length ∧ Rel K cls (zipT ds vs ++ T) H ∧ F ds = some (r, ds') ∧
  (∀ d v H', r = .ok d → Rel K cls ((d, v) :: (zipT ds' vs ++ T)) H' → Q v H') ∧ (∀ x c dd Lx H', r = .er x → XR cls x c dd Lx → Rel K cls (Lx ++ (zipT ds' vs ++ T)) H' → E c dd H')
structure FnS (g : GC) (k : Nat) (x : Str) (n : Nat) (F : FV) : Prop where
  ex : ∃ (f : Addr) (fd : FuncData) (ps : List Str), FnOk g.prog g.w g.K g.mg g.base (L2.CX g.prog g.w) k f fd ps (spF g.K g.cls n F) ∧ g.mg x = some (.ref f) ∧ PySem.W.keepIn g.K (.ref f) = true ∧ Binds g.K fd ps [] ∧ ps.length = n
  len : ∀ ds r ds', F ds = some (r, ds') → ds'.length = ds.length
def finF (F : FV) (as : List AV) : EV := fun ρ => match takeA ρ as with
  | some (ds, ρ1) => (match F ds with
    | some (r, ds') => some (r, giveA ρ as ds' ρ1)
    | none => none)
  | none => none
def eCall (n : Nat) (F : FV) (fa : LV) : EV := bd fa fun as ρ => if as.length = n then finF F as ρ else none
theorem SA.run {S : Sc} {X : Cx} {ρ ρ' : En} {σ : St} {l : List V} {T : List (D × V)} {H : Hp} {W : WX} {es : List Expr} {β : Type} {k : List AV → En → Option (Rs β × En)} {r : Rs β} {Q : List V → Hp → Prop} {f : LV} (ha : SA S es f) (hX : InD S X) (hS : SR X.K S.g.cls ρ σ l T H) (hf : bd f k ρ = some (r, ρ')) (tk : Takes X W) (kE : ∀ x, r = .er x → KX S X ρ' σ l T W x)
    (hk : ∀ as vs H1 ρ1, k as ρ1 = some (r, ρ') → SR X.K S.g.cls ρ1 σ l (avTs as vs ++ T) H1 → avOks σ as vs → Q vs H1) : BstA X es σ H Q := by
  rcases bd_inv hf with ⟨a, ρ1, h1, h2⟩ | ⟨x, h1, h2⟩
  · exact ha.h X hX ρ ρ1 σ l T H _ hS h1 Q W tk (fun a' vs H' e hs o => by cases e; exact hk a vs H' ρ1 h2 hs o) (fun x e => by cases e)
  · exact ha.h X hX ρ ρ' σ l T H _ hS h1 Q W tk (fun a' vs H' e hs o => by cases e) (fun x' e => by cases e; exact kE x h2)
/-- the promise of the callee at the arguments as they stand -/
theorem call_sp {S : Sc} {X : Cx} {ρ ρ' : En} {σ : St} {l : List V} {T : List (D × V)} {H : Hp} {W : WX} {Q : VK} {F : FV} {as : List AV} {vs : List V} {r : Rs D} {n : Nat} (hX : InD S X) (hlen : ∀ ds r ds', F ds = some (r, ds') → ds'.length = ds.length) (hn : vs.length = n) (hS : SR X.K S.g.cls ρ σ l (avTs as vs ++ T) H) (o : avOks σ as vs) (hf : finF F as ρ = some (r, ρ'))
    (kO : ∀ d v H', r = .ok d → SR X.K S.g.cls ρ' σ l ((d, v) :: T) H' → Q v H') (kE : ∀ x, r = .er x → KX S X ρ' σ l T W x) : spF X.K S.g.cls n F vs H Q (WE W σ) := by
  unfold finF at hf
  split at hf
  · rename_i ds ρ1 h1
    split at hf
    · rename_i r' ds' h2
      cases hf
      obtain ⟨L, er, q⟩ := hS
      obtain ⟨hl, M, p1, back⟩ := take_give ρ (fun i => .inr rfl) er h1 o
      have q1 : Rel X.K S.g.cls (zipT ds vs ++ (M ++ T)) H := by
        rw [← List.append_assoc] at q ⊢
        exact q.perm (p1.append_right T)
      have hds := hlen _ _ _ h2
      obtain ⟨L', B, er', p2⟩ := back ds' hds
      have fin : ∀ (P : List (D × V)) H', Rel X.K S.g.cls (P ++ (zipT ds' vs ++ (M ++ T))) H' → Rel X.K S.g.cls (L' ++ (P ++ T)) H' := fun P H' q' => by
        have p3 : (P ++ (zipT ds' vs ++ (M ++ T))).Perm (B ++ (L' ++ (P ++ T))) := by
          rw [← List.append_assoc (zipT ds' vs)]
          refine (List.Perm.append_left P (p2.append_right T)).trans ?_
          have : (P ++ B ++ (L' ++ T)).Perm (B ++ L' ++ (P ++ T)) := by
            rw [← List.append_assoc, ← List.append_assoc]
            refine List.Perm.append_right T ?_
            refine (List.Perm.append_right L' List.perm_append_comm).trans ?_
            rw [List.append_assoc, List.append_assoc]
            exact List.Perm.append_left B List.perm_append_comm
          simpa [List.append_assoc] using this
        exact (q'.perm p3).dropL
      refine ⟨ds, M ++ T, r, ds', hn, hl, hds, q1, h2, fun d v H' e q' => kO d v H' e ⟨L', er', ?_⟩, fun x c dd Lx H' e hx q' => kE x e c dd Lx H' hx ⟨L', er', ?_⟩⟩
      · exact fin [(d, v)] H' q'
      · exact fin Lx H' q'
    · cases hf
  · cases hf
section
variable {S : Sc} {e : Expr} {es : List Expr} {fa : LV} {F : FV} {k n : Nat} {x : Str} {p pos : Pos}
theorem BstA.len {X : Cx} {σ : St} {H : Hp} {Q : List V → Hp → Prop} (h : BstA X es σ H Q) : BstA X es σ H (fun vs H' => Q vs H') := h
theorem avOks_len {σ : St} : ∀ {as : List AV} {vs : List V}, avOks σ as vs → vs.length = as.length
  | [], [], _ => rfl
  | _ :: _, _ :: _, h => by simp [avOks_len h.2]
theorem se_call (G : FnS S.g k x n F) (hk : k ≤ S.k) (ha : SA S (e :: es) fa) (hg : Glb S x := by rfl) (hdb : (x == ("__debug__" : Str)) = false := by decide)
    (he : nst e = true := by rfl) (hpl : es.all nst = true := by rfl) :
    SE S (.Call (.Name x p) (e :: es) [] pos) (eCall n F fa) := by
  refine ⟨?_⟩; intro X hX ρ ρ' σ l T H r hS hf Q W tk kO kE
  obtain ⟨f, fd, ps, FO, hm, hkp, hb, hps⟩ := G.ex
  have FX : FnOk X.prog X.w X.K X.mg X.base (L2.CX X.prog X.w) k f fd ps (spF X.K S.g.cls n F) := by
    rw [hX.prog, hX.w, hX.K, hX.mg, hX.base]; exact FO
  refine Bst.of (pe_callS (E := WE W) FX (hX.room.mono hk) (gl_of hX hg) (by rw [hX.mg]; exact hm) (by rw [hX.K]; exact hkp) (by rw [hX.K]; exact hb) (fun σ => passAt tk σ) bstA hdb (star_cons he) (star_any hpl)) ?_
  refine ha.run hX hS hf tk kE fun as vs H1 ρ1 h1 S1 o1 => ?_
  split at h1
  · rename_i hl
    exact call_sp hX G.len ((avOks_len o1).trans hl) S1 o1 h1 kO kE
  · cases h1
end

/-! ### a def by its body -/
def D.owned (d : D) : Bool := !d.fz
def mkSl (d : D) : Sl := if d.fz = true then .val d else .lent d
def backs : List D → En → List D
  | d :: ds, .lent d' :: ρ => d' :: backs ds ρ
  | d :: ds, _ :: ρ => d :: backs ds ρ
  | ds, _ => ds
def fnV (n m : Nat) (body : SV) : FV := fun ds => if ds.length = n then (match body (ds.map mkSl ++ List.replicate (m - n) .no) with
  | some (.nx, ρ') => some (.ok .non, backs ds ρ')
  | some (.rt d, ρ') => some (.ok d, backs ds ρ')
  | some (.er x, ρ') => some (.er x, backs ds ρ')
  | _ => none) else none
theorem backs_len : ∀ (ds : List D) (ρ : En), (backs ds ρ).length = ds.length
  | [], ρ => by cases ρ <;> rfl
  | d :: ds, [] => rfl
  | d :: ds, .no :: ρ => by simp [backs, backs_len ds ρ]
  | d :: ds, .val _ :: ρ => by simp [backs, backs_len ds ρ]
  | d :: ds, .lent _ :: ρ => by simp [backs, backs_len ds ρ]
theorem fnV_len {n m : Nat} {body : SV} {ds ds' : List D} {r : Rs D} (h : fnV n m body ds = some (r, ds')) : ds'.length = ds.length := by
  unfold fnV at h
  split at h
  · split at h <;> first | (cases h; exact backs_len _ _) | cases h
  · cases h
end L2.Ev
namespace L2.Ev
open PySem PySem.Spec PyProof.Rows

/-! ### targets -/
def BstG (X : Cx) (tg : Expr) : TG := fun v σ H Q => ∀ (pins : List (Addr × Obj)) (s : Shared) (u : Value), Inv X pins σ H s → RelV v u → wpAny (model X.prog X.w) X.A (assign tg X.env u) (fun _ s' => ∃ σ' H', Inv X pins σ' H' s' ∧ Q σ' H') X.xe s
theorem bstG {X : Cx} {tg : Expr} : PG X tg (BstG X tg) := ⟨fun pins s _ _ _ u _ I r h => h pins s u I r⟩
theorem BstG.of {X : Cx} {tg : Expr} {t : TG} {v : V} {σ : St} {H : Hp} {Q : St → Hp → Prop} (h : PG X tg t) (q : t v σ H Q) : BstG X tg v σ H Q := fun pins s u I r => h.run pins s σ H v u Q I r q
def BstGs (X : Cx) (ts : List Expr) : TGs := fun vs σ H Q => ∀ (pins : List (Addr × Obj)) (s : Shared) (us : List Value), Inv X pins σ H s → Vals vs us → wpAny (model X.prog X.w) X.A (assignInOrder ((assignEach ts X.env).map (·.2)) us) (fun _ s' => ∃ σ' H', Inv X pins σ' H' s' ∧ Q σ' H') X.xe s
theorem bstGs {X : Cx} {ts : List Expr} : PGs X ts (BstGs X ts) := ⟨fun pins s _ _ _ us _ I r h => h pins s us I r⟩
theorem BstGs.of {X : Cx} {ts : List Expr} {t : TGs} {vs : List V} {σ : St} {H : Hp} {Q : St → Hp → Prop} (h : PGs X ts t) (q : t vs σ H Q) : BstGs X ts vs σ H Q := fun pins s us I r => h.run pins s σ H vs us Q I r q
abbrev GV := D → En → Option En
abbrev GsV := List D → En → Option En
/-- only the slots ix change -/
def Only (ix : List Nat) (σ σ' : St) : Prop := ∀ vs : List Nat, (∀ i ∈ ix, i ∈ vs) → wipe σ' vs = wipe σ vs
structure SG (S : Sc) (tg : Expr) (ix : List Nat) (f : GV) : Prop where
  h : ∀ (X : Cx), InD S X → ∀ (ρ ρ' : En) (σ : St) (l : List V) (T : List (D × V)) (H : Hp) (d : D) (v : V), SR X.K S.g.cls ρ σ l ((d, v) :: T) H → f d ρ = some ρ' → ∀ (Q : St → Hp → Prop), (∀ σ' H', SR X.K S.g.cls ρ' σ' l T H' → Only ix σ σ' → Q σ' H') → BstG X tg v σ H Q
structure SGs (S : Sc) (ts : List Expr) (ix : List Nat) (f : GsV) : Prop where
  h : ∀ (X : Cx), InD S X → ∀ (ρ ρ' : En) (σ : St) (l : List V) (T : List (D × V)) (H : Hp) (ds : List D) (vs : List V), vs.length = ds.length → SR X.K S.g.cls ρ σ l (zipT ds vs ++ T) H → f ds ρ = some ρ' → ∀ (Q : St → Hp → Prop), (∀ σ' H', SR X.K S.g.cls ρ' σ' l T H' → Only ix σ σ' → Q σ' H') → BstGs X ts vs σ H Q
def gtN (i : Nat) : GV := fun d ρ => asg ρ i d
def gtNil : GsV := fun ds ρ => match ds with
  | [] => some ρ
  | _ => none
def gtCons (f : GV) (g : GsV) : GsV := fun ds ρ => match ds with
  | d :: r => (match f d ρ with
    | some ρ1 => g r ρ1
    | none => none)
  | [] => none
def gtT (n : Nat) (g : GsV) : GV := fun d ρ => match d with
  | .tup ds => if ds.length = n then g ds ρ else none
  | _ => none
theorem wipe_set {σ : St} {i : Nat} {o : Option V} : ∀ {vs : List Nat}, i ∈ vs → wipe (σ.set i o) vs = wipe σ vs
  | [], h => by cases h
  | v :: vs, h => by
    unfold wipe
    by_cases hm : i ∈ vs
    · rw [wipe_set hm]
    · have e : i = v := (List.mem_cons.mp h).resolve_right hm
      subst e
      have key : ∀ (ws : List Nat), i ∉ ws → wipe (σ.set i o) ws = (wipe σ ws).set i o := by
        intro ws
        induction ws with
        | nil => intro _; rfl
        | cons w ws ih =>
          intro hn
          unfold wipe
          rw [ih fun z => hn (List.mem_cons_of_mem _ z)]
          exact List.set_comm _ _ (fun z => hn (z ▸ List.mem_cons_self))
      rw [key vs hm, List.set_set]
theorem Only.trans {ix iy : List Nat} {σ σ1 σ2 : St} (a : Only ix σ σ1) (b : Only iy σ1 σ2) : Only (ix ++ iy) σ σ2 := fun vs h => (b vs fun i m => h i (List.mem_append_right _ m)).trans (a vs fun i m => h i (List.mem_append_left _ m))
section
variable {S : Sc} {e : Expr} {es : List Expr} {ix iy : List Nat} {pos : Pos}
theorem sg_n (i : Nat) {x : Str} (nd : S.N.Nodup) (hN : S.N[i]? = some x := by rfl) (hx : Loc S.scope x := by first | exact Or.inl rfl | exact Or.inr rfl) (hf : S.fn x = true ∨ S.scope.names.lookup x = some .local := by first | exact .inl rfl | exact .inr rfl) : SG S (.Name x pos) [i] (gtN i) := by
  refine ⟨?_⟩; intro X hX ρ ρ' σ l T H d v hS hf' Q k
  refine BstG.of (pg_name (i := i) (by rw [hX.N]; exact nd) (by rw [hX.N]; exact hN) (by rw [hX.scope]; exact hx) (by rw [hX.fn, hX.scope]; exact hf)) ?_
  exact k _ H (hS.asg hf') fun vs h => wipe_set (h i List.mem_cons_self)
theorem sgs_nil : SGs S [] [] gtNil := by
  refine ⟨?_⟩; intro X hX ρ ρ' σ l T H ds vs hl hS hf Q k
  unfold gtNil at hf
  split at hf
  · cases hf
    have : vs = [] := List.eq_nil_of_length_eq_zero hl
    subst this
    exact BstGs.of pgs_nil ⟨rfl, k σ H hS fun vs _ => rfl⟩
  · cases hf
theorem sgs_cons {f : GV} {g : GsV} (h1 : SG S e ix f) (h2 : SGs S es iy g) (hs : ∀ env : Env, (assignEach (e :: es) env).map (·.2) = assign e env :: (assignEach es env).map (·.2) := by intro _; rfl) : SGs S (e :: es) (ix ++ iy) (gtCons f g) := by
  refine ⟨?_⟩; intro X hX ρ ρ' σ l T H ds vs hl hS hf Q k
  unfold gtCons at hf
  split at hf
  · rename_i d r
    split at hf
    · rename_i ρ1 h
      cases vs with
      | nil => cases hl
      | cons v vs =>
        refine BstGs.of (pgs_cons bstG bstGs (hs _)) ⟨v, vs, rfl, ?_⟩
        refine h1.h X hX ρ ρ1 σ l (zipT r vs ++ T) H d v hS h _ fun σ1 H1 S1 o1 => ?_
        exact h2.h X hX ρ1 ρ' σ1 l T H1 r vs (by simpa using hl) S1 hf _ fun σ2 H2 S2 o2 => k σ2 H2 S2 (o1.trans o2)
    · cases hf
  · cases hf
theorem Rel.addAll {K : PySem.W.Frag} {cls : Str → Addr} {H : Hp} {L : List (D × V)} {A : List Addr} (nd : A.Nodup) (q : RDl K cls H (fun a => a ∈ A) L A) {ds : List D} {vs : List V} (r : RDs K cls H (fun a => a ∈ A) ds vs []) : Rel K cls (zipT ds vs ++ L) H := by
  refine ⟨A, nd, ?_⟩
  induction ds generalizing vs with
  | nil => cases r; exact q
  | cons d ds ih =>
    obtain ⟨v, ws, rfl, h1, h2⟩ := r.inv
    exact RDl.cons (os := []) h1 (ih h2)
theorem sg_t {g : GsV} {k : Nat} (h : SGs S es ix g) {n : Nat} (hn : ∀ env : Env, (assignEach es env).length = n := by intro _; rfl) (hst : ∀ env : Env, (assignEach es env).findIdx? (·.1) = none := by intro _; rfl) (hn' : es.length = n := by rfl) : SG S (.Tuple es k pos) ix (gtT n g) := by
  refine ⟨?_⟩; intro X hX ρ ρ' σ l T H d v hS hf Q k
  unfold gtT at hf
  split at hf
  · rename_i ds
    split at hf
    · rename_i hlen
      obtain ⟨L, er, A, nd, q⟩ := hS
      obtain ⟨_, rd, _⟩ := q.mem (d := .tup ds) (v := v) (List.mem_append_right _ List.mem_cons_self)
      obtain ⟨p, vs, rfl, h1, r1⟩ := rd.isT
      refine BstG.of (pg_tup hX.calm bstGs (hn _) (hst _)) ⟨p, vs, rfl, h1, r1.length.trans hlen, ?_⟩
      refine h.h X hX ρ ρ' σ l T H ds vs r1.length ⟨L, er, ?_⟩ hf Q k
      have q1 := Rel.addAll nd q r1
      have p1 : (zipT ds vs ++ (L ++ (D.tup ds, V.ref p) :: T)).Perm ((D.tup ds, V.ref p) :: (L ++ (zipT ds vs ++ T))) := by
        refine (List.Perm.append_left _ List.perm_middle).trans ?_
        refine List.perm_middle.trans (List.Perm.cons _ ?_)
        rw [← List.append_assoc, ← List.append_assoc]
        exact List.perm_append_comm.append_right T
      exact (q1.perm p1).drop
    · cases hf
  · cases hf
end

/-! ### statements -/
section
variable {S : Sc} {e : Expr} {es : List Expr} {st : Stmt} {sts : List Stmt} {pos pos' : Pos} {f : EV} {s1 s2 : SV}
theorem SR.toKS {X : Cx} {ρ : En} {l : List V} {T : List (D × V)} {σ : St} {H : Hp} {D : Ends} {W : WX} (k : KS S X ρ l T D W .nx) (h : SR X.K S.g.cls ρ σ l T H) : D.nx σ H := k σ H h
/-- an expression whose way out by an exception is the statement's -/
def sE (f : EV) (k : D → SV) : SV := fun ρ => match f ρ with
  | some (.ok d, ρ1) => k d ρ1
  | some (.er x, ρ1) => some (.er x, ρ1)
  | none => none
theorem sE_run {X : Cx} {ρ ρ' : En} {σ : St} {l : List V} {T : List (D × V)} {H : Hp} {W : WX} {r : Fl} {k : D → SV} {E : Ends} {Q : VK} (h : SE S e f) (hX : InD S X) (hS : SR X.K S.g.cls ρ σ l T H) (hf : sE f k ρ = some (r, ρ')) (tk : Takes X W) (ks : KS S X ρ' l T E W r)
    (hk : ∀ d v H1 ρ1, k d ρ1 = some (r, ρ') → SR X.K S.g.cls ρ1 σ l ((d, v) :: T) H1 → Q v H1) : Bst X e σ H Q := by
  unfold sE at hf
  split at hf
  · rename_i d ρ1 h1
    exact h.h X hX ρ ρ1 σ l T H _ hS h1 Q W tk (fun d' v H' e hs => by cases e; exact hk d v H' ρ1 hf hs) (fun x e => by cases e)
  · rename_i x ρ1 h1
    cases hf
    exact h.h X hX ρ ρ' σ l T H _ hS h1 Q W tk (fun d' v H' e hs => by cases e) (fun x' e => by cases e; exact ks σ)
  · cases hf
def sT (f : TV) (k : Bool → SV) : SV := fun ρ => match f ρ with
  | some (.ok d, ρ1) => k d ρ1
  | some (.er x, ρ1) => some (.er x, ρ1)
  | none => none
theorem sT_run {X : Cx} {ρ ρ' : En} {σ : St} {l : List V} {T : List (D × V)} {H : Hp} {W : WX} {r : Fl} {k : Bool → SV} {E : Ends} {Q : Bool → Hp → Prop} {f : TV} (h : ST S e f) (hX : InD S X) (hS : SR X.K S.g.cls ρ σ l T H) (hf : sT f k ρ = some (r, ρ')) (tk : Takes X W) (ks : KS S X ρ' l T E W r)
    (hk : ∀ b H1 ρ1, k b ρ1 = some (r, ρ') → SR X.K S.g.cls ρ1 σ l T H1 → Q b H1) : BstT X e σ H Q := by
  unfold sT at hf
  split at hf
  · rename_i d ρ1 h1
    exact h.h X hX ρ ρ1 σ l T H _ hS h1 Q W tk (fun d' H' e hs => by cases e; exact hk d H' ρ1 hf hs) (fun x e => by cases e)
  · rename_i x ρ1 h1
    cases hf
    exact h.h X hX ρ ρ' σ l T H _ hS h1 Q W tk (fun d' H' e hs => by cases e) (fun x' e => by cases e; exact ks σ)
  · cases hf
/-- x = e -/
def sAsg (g : GV) (f : EV) : SV := sE f fun d ρ => match g d ρ with
  | some ρ1 => some (.nx, ρ1)
  | none => none
theorem ss_set {i : Nat} {x : Str} (h : SE S e f) (nd : S.N.Nodup) (hN : S.N[i]? = some x := by rfl) (hx : Loc S.scope x := by first | exact Or.inl rfl | exact Or.inr rfl) (hs : ∀ env : Env, swapsWith e (some (.Name x pos')) pos.line env = pure false := by intro _; rfl) (hf : S.fn x = true ∨ S.scope.names.lookup x = some .local := by first | exact .inl rfl | exact .inr rfl) :
    SS S (.Assign [.Name x pos'] e pos) (sAsg (gtN i) f) := by
  refine ⟨?_⟩; intro X hX ρ ρ' σ l T H r hS hf' E W tk po ks
  refine BstS.of (ps_set (i := i) (by rw [hX.N]; exact nd) (by rw [hX.N]; exact hN) (by rw [hX.scope]; exact hx) bst (hs _) (by rw [hX.fn, hX.scope]; exact hf)) ?_
  refine sE_run h hX hS hf' tk ks fun d v H1 ρ1 hk S1 => ?_
  split at hk
  · rename_i ρ2 h2
    cases hk
    exact ks _ _ (S1.asg h2)
  · cases hk
/-- targets of any kind -/
theorem ss_asg {tg : Expr} {ix : List Nat} {g : GV} (h : SE S e f) (hg : SG S tg ix g) (hs : ∀ env : Env, swapsWithSole [tg] e pos.line env = pure false := by intro _; rfl) (hw : ∀ env : Env, env.scope = S.scope → swappedStores [tg] e env = pure none := by intro env h; cases env; simp only at h; subst h; rfl)
    (h1 : ∀ env : Env, (assignEach [tg] env).map (·.2) = [assign tg env] := by intro _; rfl) : SS S (.Assign [tg] e pos) (sAsg g f) := by
  refine ⟨?_⟩; intro X hX ρ ρ' σ l T H r hS hf' E W tk po ks
  refine BstS.of (ps_asg bst bstG (hs _) (hw _ hX.scope) (h1 _)) ?_
  refine sE_run h hX hS hf' tk ks fun d v H1 ρ1 hk S1 => ?_
  split at hk
  · rename_i ρ2 h2
    cases hk
    exact hg.h X hX ρ1 ρ' σ l T H1 d v S1 h2 _ fun σ2 H2 S2 _ => ks _ _ S2
  · cases hk
def sExpr (f : EV) : SV := sE f fun _ ρ => some (.nx, ρ)
theorem ss_expr (h : SE S e f) (hs : ∀ env : Env, swapsWith e none pos.line env = pure false := by intro _; rfl) : SS S (.Expr e pos) (sExpr f) := by
  refine ⟨?_⟩; intro X hX ρ ρ' σ l T H r hS hf' E W tk po ks
  refine BstS.of (ps_expr bst (hs _)) ?_
  refine sE_run h hX hS hf' tk ks fun d v H1 ρ1 hk S1 => ?_
  cases hk
  exact ks _ _ S1.dropT
def sRet (f : EV) : SV := sE f fun d ρ => some (.rt d, ρ)
theorem ss_ret (h : SE S e f) : SS S (.Return (some e) pos) (sRet f) := by
  refine ⟨?_⟩; intro X hX ρ ρ' σ l T H r hS hf' E W tk po ks
  refine BstS.of (ps_ret bst) ?_
  refine sE_run h hX hS hf' tk ks fun d v H1 ρ1 hk S1 => ?_
  cases hk
  exact ks v σ H1 S1
/-- return x: what x holds goes out as it is -/
def sRetV (i : Nat) : SV := fun ρ => match ρ[i]? with
  | some (.val d) => some (.rt d, ρ.set i .no)
  | _ => none
theorem ss_retV (i : Nat) {x : Str} (hN : S.N[i]? = some x := by rfl) (hv : Vis S.scope x := by first | exact Or.inl rfl | exact Or.inr (Or.inl rfl) | exact Or.inr (Or.inr rfl)) (hd : (x == ("__debug__" : Str)) = false := by decide)
    (hcd : (x == ("__classdict__" : Str)) = false := by decide) : SS S (.Return (some (.Name x pos')) pos) (sRetV i) := by
  refine ⟨?_⟩; intro X hX ρ ρ' σ l T H r hS hf' E W tk po ks
  unfold sRetV at hf'
  split at hf'
  · rename_i d h1
    cases hf'
    obtain ⟨L, er, q⟩ := hS
    have hlook : look ρ i = some d := by unfold look; rw [h1]
    obtain ⟨v, L0, e1, _, p, er'⟩ := er.out hlook
    refine BstS.of (ps_ret (pe_var (i := i) (by rw [hX.N]; exact hN) (by rw [hX.scope]; exact hv) hd hcd)) ⟨v, e1, ks v σ H ⟨L0, er', ?_⟩⟩
    exact (q.perm (p.append_right T)).perm List.perm_middle.symm
  · cases hf'
theorem ss_retN : SS S (.Return none pos) (fun ρ => some (.rt .non, ρ)) := by
  refine ⟨?_⟩; intro X hX ρ ρ' σ l T H r hS hf' E W tk po ks
  cases hf'
  exact BstS.of ps_retN (ks .non σ H (hS.sc fun _ => .non))
theorem ss_pass : SS S (.Pass pos) (fun ρ => some (.nx, ρ)) := by
  refine ⟨?_⟩; intro X hX ρ ρ' σ l T H r hS hf' E W tk po ks
  cases hf'
  exact BstS.of ps_pass (ks _ _ hS)
theorem ss_never : SS S st (fun _ => none) := by
  refine ⟨?_⟩; intro X hX ρ ρ' σ l T H r hS hf' E W tk po ks
  cases hf'
def sNil : SV := fun ρ => some (.nx, ρ)
def sSeq (f g : SV) : SV := fun ρ => match f ρ with
  | some (.nx, ρ1) => g ρ1
  | o => o
theorem sss_nil : SSs S [] sNil := by
  refine ⟨?_⟩; intro X hX ρ ρ' σ l T H r hS hf' E W tk po ks
  cases hf'
  exact BstSs.of pss_nil (ks _ _ hS)
theorem sss_cons (h1 : SS S st s1) (h2 : SSs S sts s2) : SSs S (st :: sts) (sSeq s1 s2) := by
  refine ⟨?_⟩; intro X hX ρ ρ' σ l T H r hS hf' E W tk po ks
  refine BstSs.of (pss_cons bstS bstSs) ?_
  unfold sSeq at hf'
  split at hf'
  · rename_i ρ1 e1
    exact h1.h X hX ρ ρ1 σ l T H .nx hS e1 _ W tk po fun σ' H' S' => h2.h X hX ρ1 ρ' σ' l T H' r S' hf' E W tk po ks
  · rename_i hn
    cases r with
    | nx => exact absurd hf' (hn ρ')
    | rt d => exact h1.h X hX ρ ρ' σ l T H _ hS hf' _ W tk po ks
    | bk => exact h1.h X hX ρ ρ' σ l T H _ hS hf' _ W tk po ks
    | ct => exact h1.h X hX ρ ρ' σ l T H _ hS hf' _ W tk po ks
    | er x => exact h1.h X hX ρ ρ' σ l T H _ hS hf' _ W tk po ks
theorem sss_one (h1 : SS S st s1) : SSs S [st] s1 := by
  refine ⟨?_⟩; intro X hX ρ ρ' σ l T H r hS hf' E W tk po ks
  exact BstSs.of (pss_one bstS) (h1.h X hX ρ ρ' σ l T H r hS hf' E W tk po ks)
def sIf (t : TV) (f g : SV) : SV := sT t fun b => if b = true then f else g
theorem ss_if {c : Expr} {t : TV} {a b : List Stmt} (hc : ST S c t) (ha : SSs S a s1) (hb : SSs S b s2) : SS S (.If c a b pos) (sIf t s1 s2) := by
  refine ⟨?_⟩; intro X hX ρ ρ' σ l T H r hS hf' E W tk po ks
  refine BstS.of (ps_if bstT bstSs bstSs) ?_
  refine sT_run hc hX hS hf' tk ks fun c H1 ρ1 hk S1 => ?_
  cases c with
  | true => exact ha.h X hX ρ1 ρ' σ l T H1 r S1 hk E W tk po ks
  | false => exact hb.h X hX ρ1 ρ' σ l T H1 r S1 hk E W tk po ks
/-! while -/
def sWhile (t : TV) (body : SV) : Nat → SV
  | 0 => fun _ => none
  | n + 1 => sT t fun b => if b = true then (fun ρ => match body ρ with
    | some (.nx, ρ1) => sWhile t body n ρ1
    | some (.ct, ρ1) => sWhile t body n ρ1
    | some (.bk, ρ1) => some (.nx, ρ1)
    | o => o) else fun ρ => some (.nx, ρ)
theorem ss_while (n : Nat) {c : Expr} {t : TV} {b : List Stmt} (hc : ST S c t) (hb : SSs S b s1) : SS S (.While c b [] pos) (sWhile t s1 n) := by
  refine ⟨?_⟩; intro X hX ρ ρ' σ l T H r hS hf' E W tk po ks
  refine BstS.of (ps_while po bstT bstSs) ?_
  refine ⟨fun m σ H => ∃ ρ1, SR X.K S.g.cls ρ1 σ l T H ∧ sWhile t s1 m ρ1 = some (r, ρ'), ⟨n, ρ, hS, hf'⟩, ?_⟩
  rintro m σ H ⟨ρ1, S1, h1⟩
  cases m with
  | zero => cases h1
  | succ m =>
    unfold sWhile at h1
    refine sT_run hc hX S1 h1 tk ks fun c H2 ρ2 hk S2 => ?_
    cases c with
    | false =>
      cases hk
      exact ks _ _ S2
    | true =>
      refine ⟨fun σ' H' => ∃ ρ1, SR X.K S.g.cls ρ1 σ' l T H' ∧ sWhile t s1 m ρ1 = some (r, ρ'), fun σ' H' z => ⟨m, Nat.lt_succ_self _, z⟩, ?_⟩
      simp only [if_true] at hk
      split at hk
      · rename_i ρ3 e3
        exact hb.h X hX ρ2 ρ3 σ l T H2 .nx S2 e3 _ W tk po fun σ' H' S' => ⟨ρ3, S', hk⟩
      · rename_i ρ3 e3
        exact hb.h X hX ρ2 ρ3 σ l T H2 .ct S2 e3 _ W tk po fun σ' H' S' => ⟨ρ3, S', hk⟩
      · rename_i ρ3 e3
        cases hk
        exact hb.h X hX ρ2 ρ' σ l T H2 .bk S2 e3 _ W tk po ks
      · rename_i n1 n2 n3
        cases r with
        | nx => exact absurd hk (n1 ρ')
        | ct => exact absurd hk (n2 ρ')
        | bk => exact absurd hk (n3 ρ')
        | rt d => exact hb.h X hX ρ2 ρ' σ l T H2 _ S2 hk _ W tk po ks
        | er x => exact hb.h X hX ρ2 ρ' σ l T H2 _ S2 hk _ W tk po ks
end
end L2.Ev
namespace L2.Ev
open PySem PySem.Spec PyProof.Rows

/-! ### what is walked -/
def BstI (X : Cx) (tg iter : Expr) : TI := fun σ H R => ∀ (pins : List (Addr × Obj)) (s : Shared), Inv X pins σ H s → wpAny (model X.prog X.w) X.A (eval iter X.env) (fun v s1 => wpAny (model X.prog X.w) X.A (pyIter v) (PIE X pins σ tg R) X.xe s1) X.xe s
theorem bstI {X : Cx} {tg iter : Expr} : PI X tg iter (BstI X tg iter) := ⟨fun pins s _ _ _ I h => h pins s I⟩
theorem BstI.of {X : Cx} {tg iter : Expr} {t : TI} {σ : St} {H : Hp} {R : It → Hp → Prop} (h : PI X tg iter t) (q : t σ H R) : BstI X tg iter σ H R := fun pins s I => h.run pins s σ H R I q
structure Wk (K : PySem.W.Frag) (cls : Str → Addr) (J : It) (ds : List D) (Ts : List (D × V)) : Prop where
  ex : ∃ (G : Hp → Prop) (Y : Nat → Hp → V → Hp → Prop), Walk J ds.length G Y ∧ (∀ L H, Rel K cls L H → (∀ p ∈ Ts, p ∈ L) → G H) ∧
    ∀ i d x L H H', ds[i]? = some d → Rel K cls L H → (∀ p ∈ Ts, p ∈ L) → Y i H x H' → Rel K cls ((d, x) :: L) H'
structure SI (S : Sc) (tg iter : Expr) (f : DV) : Prop where
  h : ∀ (X : Cx), InD S X → ∀ (ρ ρ' : En) (σ : St) (l : List V) (T : List (D × V)) (H : Hp) (r : Rs (List D)), SR X.K S.g.cls ρ σ l T H → f ρ = some (r, ρ') → ∀ (R : It → Hp → Prop) (W : WX), Takes X W →
  (∀ ds J Ts H', r = .ok ds → Wk X.K S.g.cls J ds Ts → SR X.K S.g.cls ρ' σ l (Ts ++ T) H' → R J H') → (∀ x, r = .er x → KX S X ρ' σ l T W x) → BstI X tg iter σ H R
def itemsD : D → Option (List D)
  | .lst _ xs => some xs
  | .tup xs => some xs
  | .lck xs => some xs
  | .str z => some (z.cps.toList.map fun c => .str ⟨#[c]⟩)
  | _ => none
def iE (f : EV) : DV := bd f fun d ρ => match itemsD d with
  | some ds => some (.ok ds, ρ)
  | none => none
theorem walk_L {K : PySem.W.Frag} {a : Addr} {n : Nat} : Walk (Itl K a) n (fun H => ∃ vs, SqL K H a vs ∧ vs.length = n) (fun i H x H' => H' = H ∧ ∀ vs, SqL K H a vs → vs[i]? = some x) :=
  ⟨fun i H hi ⟨vs, q, hl⟩ => ⟨vs, vs[i]'(by omega), q, by simp⟩, fun H ⟨vs, q, hl⟩ => ⟨vs, q, by omega⟩, fun i H x H' hi g y => y⟩
theorem walk_T {K : PySem.W.Frag} {a : Addr} {n : Nat} : Walk (Itt K a) n (fun H => ∃ vs, SqT K H a vs ∧ vs.length = n) (fun i H x H' => H' = H ∧ ∀ vs, SqT K H a vs → vs[i]? = some x) :=
  ⟨fun i H hi ⟨vs, q, hl⟩ => ⟨vs, vs[i]'(by omega), q, by simp⟩, fun H ⟨vs, q, hl⟩ => ⟨vs, q, by omega⟩, fun i H x H' hi g y => y⟩
section
variable {K : PySem.W.Frag} {cls : Str → Addr} {a : Addr} {xs : List D} {o : Bool}
theorem wk_L : Wk K cls (Itl K a) xs [(.lst o xs, .ref a)] := by
  refine ⟨_, _, walk_L, fun L H hL hm => ?_, fun i d x L H H' hd hL hm y => ?_⟩
  · obtain ⟨A, nd, q⟩ := hL
    obtain ⟨_, rd, _⟩ := q.mem (hm _ List.mem_cons_self)
    obtain ⟨p, vs, e, h, r⟩ := rd.isL
    cases e
    exact ⟨vs, .inl (.inl h), r.length⟩
  · obtain ⟨A, nd, q⟩ := hL
    obtain ⟨_, rd, _⟩ := q.mem (hm _ List.mem_cons_self)
    obtain ⟨p, vs, e, h, r⟩ := rd.isL
    cases e
    obtain ⟨e, y⟩ := y
    subst e
    obtain ⟨v, h1, h2⟩ := r.get hd
    have h3 := y vs (.inl (.inl h))
    rw [h1] at h3; cases h3
    exact Rel.add nd q h2
theorem wk_K : Wk K cls (Itl K a) xs [(.lck xs, .ref a)] := by
  refine ⟨_, _, walk_L, fun L H hL hm => ?_, fun i d x L H H' hd hL hm y => ?_⟩
  · obtain ⟨A, nd, q⟩ := hL
    obtain ⟨_, rd, _⟩ := q.mem (hm _ List.mem_cons_self)
    obtain ⟨p, vs, e, h, r⟩ := rd.isK
    cases e
    exact ⟨vs, h, r.length⟩
  · obtain ⟨A, nd, q⟩ := hL
    obtain ⟨_, rd, _⟩ := q.mem (hm _ List.mem_cons_self)
    obtain ⟨p, vs, e, h, r⟩ := rd.isK
    cases e
    obtain ⟨e, y⟩ := y
    subst e
    obtain ⟨v, h1, h2⟩ := r.get hd
    have h3 := y vs h
    rw [h1] at h3; cases h3
    exact Rel.add nd q h2
theorem wk_T : Wk K cls (Itt K a) xs [(.tup xs, .ref a)] := by
  refine ⟨_, _, walk_T, fun L H hL hm => ?_, fun i d x L H H' hd hL hm y => ?_⟩
  · obtain ⟨A, nd, q⟩ := hL
    obtain ⟨_, rd, _⟩ := q.mem (hm _ List.mem_cons_self)
    obtain ⟨p, vs, e, h, r⟩ := rd.isT
    cases e
    exact ⟨vs, h, r.length⟩
  · obtain ⟨A, nd, q⟩ := hL
    obtain ⟨_, rd, _⟩ := q.mem (hm _ List.mem_cons_self)
    obtain ⟨p, vs, e, h, r⟩ := rd.isT
    cases e
    obtain ⟨e, y⟩ := y
    subst e
    obtain ⟨v, h1, h2⟩ := r.get hd
    have h3 := y vs h
    rw [h1] at h3; cases h3
    exact Rel.add nd q h2
theorem wk_S {z : Str} : Wk K cls (Its z) (z.cps.toList.map fun c => .str ⟨#[c]⟩) [] := by
  refine ⟨_, _, by rw [List.length_map, Array.length_toList]; exact walk_str, fun L H hL hm => trivial, fun i d x L H H' hd hL hm y => ?_⟩
  obtain ⟨e, c, h1, h2⟩ := y
  subst e; subst h2
  rw [List.getElem?_map, Array.getElem?_toList, h1] at hd
  cases hd
  exact hL.ofS _
theorem wk_R {lo : Int} {n : Nat} : Wk K cls (Itr lo n) ((List.range n).map fun (i : Nat) => .int (lo + i)) [] := by
  refine ⟨_, _, by rw [List.length_map, List.length_range]; exact walk_range, fun L H hL hm => trivial, fun i d x L H H' hd hL hm y => ?_⟩
  obtain ⟨e, h2⟩ := y
  subst e; subst h2
  rw [List.getElem?_map] at hd
  by_cases hi : i < n
  · rw [List.getElem?_range hi] at hd
    cases hd
    exact hL.ofI _
  · rw [List.getElem?_eq_none (by simpa using hi)] at hd
    cases hd
/-- pairs of a number and an item -/
def enumD (k : Nat) : List D → List D
  | [] => []
  | x :: xs => .tup [.int k, x] :: enumD (k + 1) xs
theorem enumD_get : ∀ {xs : List D} {k i : Nat} {d : D}, (enumD k xs)[i]? = some d → ∃ x, xs[i]? = some x ∧ d = .tup [.int ((k + i : Nat) : Int), x]
  | [], _, _, _, h => by simp [enumD] at h
  | x :: xs, k, 0, d, h => by simp [enumD] at h; exact ⟨x, rfl, by simp [h]⟩
  | x :: xs, k, i + 1, d, h => by
    obtain ⟨y, h1, h2⟩ := enumD_get (xs := xs) (k := k + 1) (i := i) (by simpa [enumD] using h)
    exact ⟨y, by simpa using h1, by rw [h2]; congr 4; omega⟩
theorem enumD_len : ∀ {xs : List D} {k : Nat}, (enumD k xs).length = xs.length
  | [], _ => rfl
  | x :: xs, k => by simp [enumD, enumD_len (xs := xs)]
theorem walk_E {n : Nat} : Walk (Ite K a) n (fun H => ∃ vs, SqL K H a vs ∧ vs.length = n) (fun i H v H' => ∃ T x, v = .ref T ∧ H T = none ∧ H' = upd H T (.tup [.int (i : Nat), x]) ∧ ∀ xs, SqL K H a xs → xs[i]? = some x) :=
  ⟨fun i H hi ⟨vs, q, hl⟩ => ⟨vs, vs[i]'(by omega), q, by simp⟩, fun H ⟨vs, q, hl⟩ => ⟨vs, q, by omega⟩, fun i H x H' hi g y => y⟩
theorem wk_E : Wk K cls (Ite K a) (enumD 0 xs) [(.lst o xs, .ref a)] := by
  refine ⟨_, _, by rw [enumD_len]; exact walk_E, fun L H hL hm => ?_, fun i d x L H H' hd hL hm y => ?_⟩
  · obtain ⟨A, nd, q⟩ := hL
    obtain ⟨_, rd, _⟩ := q.mem (hm _ List.mem_cons_self)
    obtain ⟨p, vs, e, h, r⟩ := rd.isL
    cases e
    exact ⟨vs, .inl (.inl h), r.length⟩
  · obtain ⟨A, nd, q⟩ := hL
    obtain ⟨_, rd, _⟩ := q.mem (hm _ List.mem_cons_self)
    obtain ⟨p, vs, e, h, r⟩ := rd.isL
    cases e
    obtain ⟨T, y, e1, hT, e2, y'⟩ := y
    subst e1; subst e2
    obtain ⟨z, hz, rfl⟩ := enumD_get hd
    obtain ⟨v, h1, h2⟩ := r.get hz
    have h3 := y' vs (.inl (.inl h))
    rw [h1] at h3; cases h3
    rw [Nat.zero_add]
    exact Rel.newT nd q hT (RDs.cons (os := []) (os' := []) (.int _) (RDs.cons (os := []) (os' := []) h2 .nil))
end
section
variable {S : Sc} {tg e a b : Expr} {f : EV} {fa fb : EV} {p pos : Pos}
theorem si_e (h : SE S e f) : SI S tg e (iE f) := by
  refine ⟨?_⟩; intro X hX ρ ρ' σ l T H r hS hf R W tk kO kE
  rcases bd_inv hf with ⟨d, ρ1, h1, h2⟩ | ⟨x, h1, h2⟩
  · -- which walk it is, the value tells
    have go : ∀ (Q : VK), (∀ v H', SR X.K S.g.cls ρ1 σ l ((d, v) :: T) H' → Q v H') → Bst X e σ H Q := fun Q k => h.h X hX ρ ρ1 σ l T H _ hS h1 Q W tk (fun d' v H' e z => by cases e; exact k v H' z) (fun x e => by cases e)
    have rd : ∀ {v : V} {H' : Hp}, SR X.K S.g.cls ρ1 σ l ((d, v) :: T) H' → ∃ (A os : List Addr), RD X.K S.g.cls H' (fun a => a ∈ A) d v os := fun {v H'} z => by
      obtain ⟨L, er, A, nd, q⟩ := z
      obtain ⟨os, rd, _⟩ := q.mem (d := d) (v := v) (List.mem_append_right _ List.mem_cons_self)
      exact ⟨A, os, rd⟩
    cases d with
    | lst o xs =>
      cases h2
      refine BstI.of (pi_list bst) (go _ fun v H1 S1 => ?_)
      obtain ⟨A, os, r0⟩ := rd S1
      obtain ⟨pp, vs, rfl, q1, _⟩ := r0.isL
      exact ⟨pp, rfl, ⟨vs, .inl (.inl q1)⟩, kO _ _ [(_, .ref pp)] H1 rfl wk_L S1⟩
    | lck xs =>
      cases h2
      refine BstI.of (pi_list bst) (go _ fun v H1 S1 => ?_)
      obtain ⟨A, os, r0⟩ := rd S1
      obtain ⟨pp, vs, rfl, q1, _⟩ := r0.isK
      exact ⟨pp, rfl, ⟨vs, q1⟩, kO _ _ [(_, .ref pp)] H1 rfl wk_K S1⟩
    | tup xs =>
      cases h2
      refine BstI.of (pi_tup bst) (go _ fun v H1 S1 => ?_)
      obtain ⟨A, os, r0⟩ := rd S1
      obtain ⟨pp, vs, rfl, q1, _⟩ := r0.isT
      exact ⟨pp, rfl, ⟨vs, q1⟩, kO _ _ [(_, .ref pp)] H1 rfl wk_T S1⟩
    | str z =>
      cases h2
      refine BstI.of (pi_str bst) (go _ fun v H1 S1 => ?_)
      obtain ⟨A, os, r0⟩ := rd S1
      exact ⟨z, r0.isS, kO _ _ [] H1 rfl wk_S S1.dropT⟩
    | _ => cases h2
  · exact BstI.of (pi_list bst) (h.h X hX ρ ρ' σ l T H _ hS h1 _ W tk (fun d' v H' e z => by cases e) (fun x' e => by cases e; exact kE x h2))
def rngD (lo hi : Int) : Option (List D) := if -(2 ^ 62) ≤ lo ∧ lo < 2 ^ 62 ∧ -(2 ^ 62) ≤ hi ∧ hi < 2 ^ 62 then some ((List.range (hi - lo).toNat).map fun (i : Nat) => .int (lo + i)) else none
def iR1 (fa : EV) : DV := bd fa fun d ρ => match d with
  | .int j => (match rngD 0 j with
    | some ds => some (.ok ds, ρ)
    | none => none)
  | _ => none
def iR2 (fa fb : EV) : DV := bd fa fun d => bd fb fun d' ρ => match d, d' with
  | .int i, .int j => (match rngD i j with
    | some ds => some (.ok ds, ρ)
    | none => none)
  | _, _ => none
theorem si_r1 (hm : S.g.mg "range" = none) (ha : SE S a fa) (hg : Glb S "range" := by rfl) (hs : ∀ env : Env, starEach [a] env = [(false, eval a env)] := by intro _; rfl) : SI S tg (.Call (.Name "range" p) [a] [] pos) (iR1 fa) := by
  refine ⟨?_⟩; intro X hX ρ ρ' σ l T H r hS hf R W tk kO kE
  refine BstI.of (pi_range1 (gl_of hX hg) (by rw [hX.mg]; exact hm) (pa_cons bst pa_nil (by rw [hs]; rfl)) (hs _)) ?_
  refine ha.run hX hS hf tk kE fun d v H1 ρ1 hk S1 => ?_
  split at hk
  · rename_i j
    split at hk
    · rename_i ds hd
      cases hk
      unfold rngD at hd
      split at hd
      · rename_i hz
        cases hd
        have e := S1.int
        subst e
        refine ⟨j, rfl, hz.2.2.1, hz.2.2.2, ?_⟩
        have := kO _ (Itr 0 (j - 0).toNat) [] H1 rfl wk_R S1.dropT
        rw [Int.sub_zero] at this
        exact this
      · cases hd
    · cases hk
  · cases hk
theorem si_r2 (hm : S.g.mg "range" = none) (ha : SE S a fa) (hb : SE S b fb) (hg : Glb S "range" := by rfl) (hs : ∀ env : Env, starEach [a, b] env = [(false, eval a env), (false, eval b env)] := by intro _; rfl) (hs2 : ∀ env : Env, starEach [b] env = [(false, eval b env)] := by intro _; rfl) : SI S tg (.Call (.Name "range" p) [a, b] [] pos) (iR2 fa fb) := by
  refine ⟨?_⟩; intro X hX ρ ρ' σ l T H r hS hf R W tk kO kE
  refine BstI.of (pi_range2 (gl_of hX hg) (by rw [hX.mg]; exact hm) (pa_cons bst (pa_cons bst pa_nil (by rw [hs2]; rfl)) (by rw [hs, hs2])) (hs _) (hs2 _)) ?_
  refine ha.run hX hS hf tk kE fun d v H1 ρ1 hk S1 => ?_
  refine hb.run hX S1 hk tk (fun x e => (kE x e).more (B := [(d, v)])) fun d' v' H2 ρ2 hk2 S2 => ?_
  split at hk2
  · rename_i i j
    split at hk2
    · rename_i ds hd
      cases hk2
      unfold rngD at hd
      split at hd
      · rename_i hz
        cases hd
        have e := S2.int
        subst e
        have e := S2.dropT.int
        subst e
        exact ⟨i, j, rfl, hz, kO _ _ [] H2 rfl wk_R S2.dropT.dropT⟩
      · cases hd
    · cases hk2
  · cases hk2
def iEn (f : EV) : DV := bd f fun d ρ => match d with
  | .lst _ xs => some (.ok (enumD 0 xs), ρ)
  | _ => none
theorem si_enum {elts : List Expr} {kk : Nat} {tpos : Pos} (hm : S.g.mg "enumerate" = none) (ha : SE S a fa) (hg : Glb S "enumerate" := by rfl) (hs : ∀ env : Env, starEach [a] env = [(false, eval a env)] := by intro _; rfl) : SI S (.Tuple elts kk tpos) (.Call (.Name "enumerate" p) [a] [] pos) (iEn fa) := by
  refine ⟨?_⟩; intro X hX ρ ρ' σ l T H r hS hf R W tk kO kE
  refine BstI.of (pi_enum (gl_of hX hg) (by rw [hX.mg]; exact hm) (pa_cons bst pa_nil (by rw [hs]; rfl)) (hs _)) ?_
  refine ha.run hX hS hf tk kE fun d v H1 ρ1 hk S1 => ?_
  split at hk
  · cases hk
    obtain ⟨L, er, A, nd, q⟩ := id S1
    obtain ⟨_, rd, _⟩ := q.mem (d := _) (v := v) (List.mem_append_right _ List.mem_cons_self)
    obtain ⟨pp, vs, rfl, h1, r1⟩ := rd.isL
    exact ⟨pp, vs, rfl, .inl (.inl h1), kO _ _ [(_, .ref pp)] H1 rfl wk_E S1⟩
  · cases hk
end

/-! ### for -/
def forL (g : GV) (b : SV) : List D → SV
  | [] => fun ρ => some (.nx, ρ)
  | d :: ds => fun ρ => match g d ρ with
    | some ρ1 => (match b ρ1 with
      | some (.nx, ρ2) => forL g b ds ρ2
      | some (.ct, ρ2) => forL g b ds ρ2
      | some (.bk, ρ2) => some (.nx, ρ2)
      | o => o)
    | none => none
def sFor (f : DV) (g : GV) (b : SV) : SV := fun ρ => match f ρ with
  | some (.ok ds, ρ1) => forL g b ds ρ1
  | some (.er x, ρ1) => some (.er x, ρ1)
  | none => none
theorem SR.dropB {K : PySem.W.Frag} {cls : Str → Addr} {ρ : En} {σ : St} {l : List V} {T B : List (D × V)} {H : Hp} {x : D × V} (h : SR K cls ρ σ l (x :: (B ++ T)) H) : SR K cls ρ σ l (x :: T) H := by
  obtain ⟨L, r, q⟩ := h
  refine ⟨L, r, ?_⟩
  have := Rel.dropM (A := L ++ [x]) (B := B) (C := T) (by simpa [List.append_assoc] using q)
  simpa [List.append_assoc] using this
section
variable {S : Sc} {tg iter : Expr} {ix : List Nat} {f : DV} {g : GV} {s1 : SV} {body : List Stmt} {pos : Pos}
theorem ss_for (hi : SI S tg iter f) (hg : SG S tg ix g) (hb : SSs S body s1) (hs : ∀ (env : Env) x, foldedSetIterable iter env x = pure x := by intro _ _; rfl) : SS S (.For tg iter body [] pos) (sFor f g s1) := by
  refine ⟨?_⟩; intro X hX ρ ρ' σ l T H r hS hf' E W tk po ks
  refine BstS.of (ps_for po hX.calm bstI bstG bstSs (hs _)) ?_
  unfold sFor at hf'
  split at hf'
  · rename_i ds ρ1 h1
    refine hi.h X hX ρ ρ1 σ l T H _ hS h1 _ W tk (fun ds' J Ts H1 e wk S1 => ?_) (fun x e => by cases e)
    cases e
    obtain ⟨G, Y, w, hG, hY⟩ := wk.ex
    refine for_it w (fun i σ H => ∃ ρi, SR X.K S.g.cls ρi σ l (Ts ++ T) H ∧ forL g s1 (ds.drop i) ρi = some (r, ρ')) ⟨ρ1, S1, hf'⟩ (fun i σ H hi ⟨ρi, Si, _⟩ => ?_) (fun i x σ H H' hi ⟨ρi, Si, hi2⟩ y => ?_) (fun σ H ⟨ρi, Si, hi2⟩ => ?_)
    · obtain ⟨L, er, q⟩ := Si
      exact hG _ H q fun p m => List.mem_append_right _ (List.mem_append_left _ m)
    · have hd : ds[i]? = some ds[i] := by simp [hi]
      have hdr : ds.drop i = ds[i] :: ds.drop (i + 1) := List.drop_eq_getElem_cons hi
      rw [hdr] at hi2
      unfold forL at hi2
      split at hi2
      · rename_i ρ2 h2
        obtain ⟨L, er, q⟩ := Si
        have q2 := hY i ds[i] x _ H H' hd q (fun p m => List.mem_append_right _ (List.mem_append_left _ m)) y
        have S2 : SR X.K S.g.cls ρi σ l ((ds[i], x) :: (Ts ++ T)) H' := ⟨L, er, q2.perm List.perm_middle.symm⟩
        refine hg.h X hX ρi ρ2 σ l (Ts ++ T) H' ds[i] x S2 h2 _ fun σ2 H2 S3 _ => ?_
        split at hi2
        · rename_i ρ3 h3
          exact hb.h X hX ρ2 ρ3 σ2 l (Ts ++ T) H2 .nx S3 h3 _ W tk po fun σ' H' S' => ⟨ρ3, S', hi2⟩
        · rename_i ρ3 h3
          exact hb.h X hX ρ2 ρ3 σ2 l (Ts ++ T) H2 .ct S3 h3 _ W tk po fun σ' H' S' => ⟨ρ3, S', hi2⟩
        · rename_i ρ3 h3
          cases hi2
          exact hb.h X hX ρ2 ρ' σ2 l (Ts ++ T) H2 .bk S3 h3 _ W tk po fun σ' H' S' => ks σ' H' S'.dropTs
        · rename_i n1 n2 n3
          cases r with
          | nx => exact absurd hi2 (n1 ρ')
          | ct => exact absurd hi2 (n2 ρ')
          | bk => exact absurd hi2 (n3 ρ')
          | rt d => exact hb.h X hX ρ2 ρ' σ2 l (Ts ++ T) H2 _ S3 hi2 _ W tk po fun v σ' H' S' => ks v σ' H' S'.dropB
          | er x => exact hb.h X hX ρ2 ρ' σ2 l (Ts ++ T) H2 _ S3 hi2 _ W tk po fun σ' => (ks σ').more
      · cases hi2
    · rw [List.drop_length] at hi2
      cases hi2
      exact ks σ H Si.dropTs
  · rename_i x ρ1 h1
    cases hf'
    exact hi.h X hX ρ ρ' σ l T H _ hS h1 _ W tk (fun ds' J Ts H1 e wk S1 => by cases e) (fun x' e => by cases e; exact ks σ)
  · cases hf'
end
end L2.Ev
namespace L2.Ev
open PySem PySem.Spec PyProof.Rows

/-! ### comprehensions -/
def wipeE (ρ : En) : List Nat → En
  | [] => ρ
  | v :: vs => (wipeE ρ vs).set v .no
theorem ER.no1 : ∀ {ρ : En} {σ : St} {l : List V} {L : List (D × V)} (i : Nat) (o : Option V), ER ρ σ l L → ∃ B L1, L.Perm (B ++ L1) ∧ ER (ρ.set i .no) (σ.set i o) l L1
  | _, _, _, _, i, o, .nil => ⟨[], [], .refl _, by simp; exact .nil⟩
  | _, _, _, _, 0, o, .no r => ⟨[], _, .refl _, .no r⟩
  | _, _, _, _, 0, o, .val (d := d) (v := v) r => ⟨[(d, v)], _, .refl _, .no r⟩
  | _, _, _, _, 0, o, .lent (d := d) (v := v) r => ⟨[(d, v)], _, .refl _, .no r⟩
  | _, _, _, _, i + 1, o, .no r => by
    obtain ⟨B, L1, p, e⟩ := ER.no1 i o r
    exact ⟨B, L1, p, .no e⟩
  | _, _, _, _, i + 1, o, .val (d := d) (v := v) r => by
    obtain ⟨B, L1, p, e⟩ := ER.no1 i o r
    exact ⟨B, (d, v) :: L1, (p.cons _).trans List.perm_middle.symm, .val e⟩
  | _, _, _, _, i + 1, o, .lent (d := d) (v := v) r => by
    obtain ⟨B, L1, p, e⟩ := ER.no1 i o r
    exact ⟨B, (d, v) :: L1, (p.cons _).trans List.perm_middle.symm, .lent e⟩
theorem ER.wipe {ρ : En} {σ : St} {l : List V} {L : List (D × V)} (r : ER ρ σ l L) : ∀ vs : List Nat, ∃ B L1, L.Perm (B ++ L1) ∧ ER (wipeE ρ vs) (L2.wipe σ vs) l L1
  | [] => ⟨[], L, .refl _, r⟩
  | v :: vs => by
    obtain ⟨B, L1, p, e⟩ := ER.wipe r vs
    obtain ⟨B2, L2, p2, e2⟩ := e.no1 v none
    refine ⟨B ++ B2, L2, p.trans ?_, e2⟩
    rw [List.append_assoc]
    exact p2.append_left B
theorem ER.any1 : ∀ {ρ : En} {σ : St} {l : List V} {L : List (D × V)} (i : Nat) (o : Option V), ER ρ σ l L → look ρ i = none → ER ρ (σ.set i o) l L
  | _, _, _, _, i, o, .nil, _ => by simp; exact .nil
  | _, _, _, _, 0, o, .no r, _ => .no r
  | _, _, _, _, 0, o, .val r, h => by simp [look] at h
  | _, _, _, _, 0, o, .lent r, h => by simp [look] at h
  | _, _, _, _, i + 1, o, .no r, h => .no (ER.any1 i o r (by simpa [look] using h))
  | _, _, _, _, i + 1, o, .val r, h => .val (ER.any1 i o r (by simpa [look] using h))
  | _, _, _, _, i + 1, o, .lent r, h => .lent (ER.any1 i o r (by simpa [look] using h))
theorem ER.unwipe {ρ : En} {l : List V} {L : List (D × V)} {σ : St} : ∀ (vs : List Nat), (∀ v ∈ vs, look ρ v = none) → ER ρ (L2.wipe σ vs) l L → ER ρ σ l L
  | [], _, r => r
  | v :: vs, h, r => by
    unfold L2.wipe at r
    refine ER.unwipe vs (fun w m => h w (List.mem_cons_of_mem _ m)) ?_
    by_cases hv : v < (L2.wipe σ vs).length
    · have r2 := r.any1 v ((L2.wipe σ vs)[v]) (h v List.mem_cons_self)
      rw [List.set_set] at r2
      have e : (L2.wipe σ vs).set v (L2.wipe σ vs)[v] = L2.wipe σ vs := by simp
      rw [e] at r2
      exact r2
    · have e : (L2.wipe σ vs).set v none = L2.wipe σ vs := by
        rw [List.set_eq_of_length_le (by omega)]
      rw [e] at r
      exact r
theorem wipeE_look (ρ : En) : ∀ (vs : List Nat), ∀ v ∈ vs, look (wipeE ρ vs) v = none
  | [], v, h => by cases h
  | w :: vs, v, h => by
    unfold wipeE
    by_cases e : w = v
    · subst e
      unfold look
      by_cases hv : w < (wipeE ρ vs).length
      · rw [List.getElem?_set_self hv]
      · rw [List.getElem?_eq_none (by simpa using hv)]
    · have m : v ∈ vs := (List.mem_cons.mp h).resolve_left fun z => e z.symm
      have ih := wipeE_look ρ vs v m
      unfold look at ih ⊢
      rw [List.getElem?_set_ne e]
      exact ih
/-- one more item of an owned list -/
theorem Rel.append {K : PySem.W.Frag} {cls : Str → Addr} {H : Hp} {xs : List D} {p : Addr} {d : D} {v : V} {L : List (D × V)} (h : Rel K cls ((.lst true xs, .ref p) :: (d, v) :: L) H) (hz : d.fz = true) : ∃ vs, H p = some (.lst vs) ∧ vs.length = xs.length ∧ Rel K cls ((.lst true (xs ++ [d]), .ref p) :: L) (upd H p (.lst (vs ++ [v]))) := by
  obtain ⟨A, nd, q⟩ := h
  cases q with
  | cons r t =>
    cases r with
    | lstO e rs =>
      cases t with
      | cons rd t =>
        have z := rd.fzo hz
        subst z
        rename_i vs os'
        refine ⟨vs, e, rs.length, p :: os', nd, ?_⟩
        have hn : p ∉ os' := (List.nodup_cons.mp nd).1
        have mv : ∀ a o, H a = some o → ¬ a ∈ ([p] ++ ([] ++ os')) → upd H p (.lst (vs ++ [v])) a = some o ∧ ¬ a ∈ (p :: os') := fun a o e n => by
          have hne : a ≠ p := fun z => n (by simp [z])
          exact ⟨by rw [upd_ne hne]; exact e, fun z => n (by simpa using z)⟩
        refine RDl.cons (os := [p]) (.lstO upd_same ?_) (t.move mv fun a m => upd_ne fun z => hn (z ▸ m))
        exact (rs.append (RDs.cons (os := []) (os' := []) rd .nil)).move mv (fun _ z => nomatch z)
abbrev blkS (S : Sc) (scope : Scope) : Sc := { S with scope := relS scope S.scope, fn := fun x => scope.names.lookup x == some .cell, top := false }
theorem InD.blk {S : Sc} {X : Cx} (hX : InD S X) (s : Shared) (H : Hp) (scope : Scope) (C : Addr) (cl : List (Str × Addr)) (fp : List Addr) : InD (blkS S scope) (X.blk s H scope (compEnvC scope cl C X.env) fp) :=
  ⟨hX.prog, hX.w, hX.K, hX.mg, hX.base, hX.N, (by
    show relabel scope X.env = relS scope S.scope
    rw [← hX.scope]; rfl), rfl, hX.calm, hX.room, fun h => by cases h⟩
def lcGo (vs : List Nat) (g : GV) (t : TV) (fe : EV) : List D → List D → En → Option (List D × En)
  | [], acc, ρ => some (acc, ρ)
  | d :: ds, acc, ρ => match g d ρ with
    | some ρ1 => (match t ρ1 with
      | some (.ok true, ρ2) => (match fe ρ2 with
        | some (.ok e, ρ3) => lcGo vs g t fe ds (acc ++ [fzd e]) (wipeE ρ3 vs)
        | _ => none)
      | some (.ok false, ρ2) => lcGo vs g t fe ds acc (wipeE ρ2 vs)
      | _ => none)
    | none => none
def eLc (vs : List Nat) (fi : DV) (g : GV) (t : TV) (fe : EV) : EV := bd fi fun ds ρ => if ds.length ≤ sizeLine then (match lcGo vs g t fe ds [] (wipeE ρ vs) with
  | some (acc, ρ') => some (.ok (.lst true acc), ρ')
  | none => none) else none
def tYesV : TV := fun ρ => some (.ok true, ρ)
section
variable {S : Sc} {X : Cx} {tg iter elt : Expr} {ifs : List Expr} {ix : List Nat} {fi : DV} {g : GV} {t : TV} {fe : EV} {scope : Scope} {own : List (Str × Nat)} {pos : Pos}
/-- a clause's tests -/
structure STs (S : Sc) (ifs : List Expr) (t : TV) : Prop where
  h : ∀ (X : Cx), InD S X → ∀ (ρ ρ' : En) (σ : St) (l : List V) (T : List (D × V)) (H : Hp) (b : Bool), SR X.K S.g.cls ρ σ l T H → t ρ = some (.ok b, ρ') → ∀ (Q : Bool → Hp → Prop),
  (∀ H', SR X.K S.g.cls ρ' σ l T H' → Q b H') → ∀ (pins : List (Addr × Obj)) (s : Shared), Inv X pins σ H s →
    wpAny (model X.prog X.w) X.A (forIn ifs true fun c r => if r = true then do let ok ← isTrue c X.env (eval c X.env); pure (ForInStep.yield ok) else pure (ForInStep.yield r)) (TP X pins σ Q) X.xe s
theorem sts_nil : STs S [] tYesV := by
  refine ⟨?_⟩; intro X hX ρ ρ' σ l T H b hS hf Q k pins s I
  cases hf
  exact pts_nil.run pins s σ H Q I (k H hS)
theorem sts_one {c : Expr} (h : ST S c t) : STs S [c] t := by
  refine ⟨?_⟩; intro X hX ρ ρ' σ l T H b hS hf Q k pins s I
  refine (pts_one bstT).run pins s σ H Q I ?_
  exact h.h X hX ρ ρ' σ l T H _ hS hf Q (fun _ _ _ _ => False) takes0 (fun b' H' e S' => by cases e; exact k H' S') (fun x e => by cases e)
def tgU (X : Cx) (scope : Scope) (tg : Expr) : TG := fun v σ H Q => ∀ (s : Shared) (H0 : Hp) (C : Addr) (cl : List (Str × Addr)) (fp : List Addr), BstG (X.blk s H0 scope (compEnvC scope cl C X.env) fp) tg v σ H Q
def teU (X : Cx) (scope : Scope) (e : Expr) : TE := fun σ H Q => ∀ (s : Shared) (H0 : Hp) (C : Addr) (cl : List (Str × Addr)) (fp : List Addr), Bst (X.blk s H0 scope (compEnvC scope cl C X.env) fp) e σ H Q
def ttU (X : Cx) (scope : Scope) (ifs : List Expr) : TT := fun σ H Q => ∀ (s0 : Shared) (H0 : Hp) (C : Addr) (cl : List (Str × Addr)) (fp : List Addr) (pins : List (Addr × Obj)) (s : Shared), Inv (X.blk s0 H0 scope (compEnvC scope cl C X.env) fp) pins σ H s →
    wpAny (model X.prog X.w) X.A (forIn ifs true fun c r => if r = true then do let ok ← isTrue c (compEnvC scope cl C X.env) (eval c (compEnvC scope cl C X.env)); pure (ForInStep.yield ok) else pure (ForInStep.yield r)) (TP (X.blk s0 H0 scope (compEnvC scope cl C X.env) fp) pins σ Q) (fun _ _ => False) s
theorem lc_run (hX : InD S X) (hi : SI S tg iter fi) (hg : SG (blkS S scope) tg ix g) (hix : ∀ i ∈ ix, i ∈ own.map (·.2)) (ht : STs (blkS S scope) ifs t) (he : SE (blkS S scope) elt fe)
    {ρ ρ' : En} {σ : St} {l : List V} {T : List (D × V)} {H : Hp} {r : Rs D} (hS : SR X.K S.g.cls ρ σ l T H) (hf : eLc (own.map (·.2)) fi g t fe ρ = some (r, ρ')) {Q : VK} {W : WX} (tk : Takes X W) (kO : ∀ d v H', r = .ok d → SR X.K S.g.cls ρ' σ l ((d, v) :: T) H' → Q v H') (kE : ∀ x, r = .er x → KX S X ρ' σ l T W x) :
    tLc (BstI X tg iter) (tgU X scope tg) (ttU X scope ifs) (teU X scope elt) (own.map (·.2)) σ H Q := by
  generalize hvs : own.map (·.2) = vs at hf hix ⊢
  rcases bd_inv hf with ⟨ds, ρ1, h1, h2⟩ | ⟨x, h1, h2⟩
  · refine hi.h X hX ρ ρ1 σ l T H _ hS h1 _ W tk (fun ds' J Ts H1 e wk S1 => ?_) (fun x e => by cases e)
    cases e
    split at h2
    · rename_i hlen
      split at h2
      · rename_i accF ρF hF
        cases h2
        intro Da hDa
        obtain ⟨G, Y, w, hG, hY⟩ := wk.ex
        refine lc_it w (fun i H => ∃ ρi acc, SR X.K S.g.cls ρi (L2.wipe σ vs) l ((.lst true acc, .ref Da) :: (Ts ++ T)) H ∧ (∀ v ∈ vs, look ρi v = none) ∧ lcGo vs g t fe (ds.drop i) acc ρi = some (accF, ρ') ∧ acc.length ≤ i) ?_ (fun i H hi ⟨ρi, acc, Si, _, _, _⟩ => ?_) (fun i x H H' hi ⟨ρi, acc, Si, ni, gi, li⟩ y => ?_) (fun H ⟨ρi, acc, Si, ni, gi, li⟩ => ?_)
        · obtain ⟨L, er, A, nd, q⟩ := S1
          obtain ⟨B, L1, p, er1⟩ := er.wipe vs
          refine ⟨wipeE ρ1 vs, [], ⟨L1, er1, ?_⟩, wipeE_look ρ1 vs, hF, Nat.le_refl _⟩
          have q1 := Rel.newL nd q hDa (.nil)
          have p1 : ((D.lst true [], V.ref Da) :: (L ++ (Ts ++ T))).Perm (B ++ (L1 ++ (D.lst true [], V.ref Da) :: (Ts ++ T))) := by
            refine ((p.append_right _).cons _).trans ?_
            rw [List.append_assoc]
            exact List.perm_middle.symm.trans (List.perm_middle.symm.append_left B)
          exact (q1.perm p1).dropL
        · obtain ⟨L, er, q⟩ := Si
          exact hG _ H q fun p m => List.mem_append_right _ (List.mem_cons_of_mem _ (List.mem_append_left _ m))
        · have hd : ds[i]? = some ds[i] := by simp [hi]
          rw [List.drop_eq_getElem_cons hi] at gi
          unfold lcGo at gi
          split at gi
          · rename_i ρ2 e2
            obtain ⟨L, er, q⟩ := Si
            have q2 := hY i ds[i] x _ H H' hd q (fun p m => List.mem_append_right _ (List.mem_cons_of_mem _ (List.mem_append_left _ m))) y
            have S2 : SR X.K S.g.cls ρi (L2.wipe σ vs) l ((ds[i], x) :: ((.lst true acc, .ref Da) :: (Ts ++ T))) H' := ⟨L, er, q2.perm List.perm_middle.symm⟩
            intro s0 H0 C cl fp
            refine hg.h _ (hX.blk s0 H0 scope C cl fp) ρi ρ2 _ l _ H' ds[i] x S2 e2 _ fun σ2 H2 S3 o3 => ⟨(by
              have := o3 vs hix
              rw [this]
              have ww : ∀ (ws : List Nat), (∀ w ∈ ws, w ∈ vs) → L2.wipe (L2.wipe σ vs) ws = L2.wipe σ vs := by
                intro ws
                induction ws with
                | nil => intro _; rfl
                | cons w ws ih =>
                  intro hw
                  show (L2.wipe (L2.wipe σ vs) ws).set w none = _
                  rw [ih fun z m => hw z (List.mem_cons_of_mem _ m)]
                  by_cases hlt : w < (L2.wipe σ vs).length
                  · have e : (L2.wipe σ vs)[w] = none := by
                      cases q : (L2.wipe σ vs)[w] with
                      | none => rfl
                      | some z =>
                        have : (L2.wipe σ vs)[w]? = some (some z) := by rw [List.getElem?_eq_getElem hlt, q]
                        exact absurd (hw w List.mem_cons_self) (wipe_some this).2
                    have : (L2.wipe σ vs).set w (L2.wipe σ vs)[w] = L2.wipe σ vs := by simp
                    rw [e] at this
                    exact this
                  · rw [List.set_eq_of_length_le (by omega)]
              exact ww vs fun _ m => m), ?_⟩
            -- the turn's end
            have fin : ∀ {acc' : List D} {ρ4 : En} {H4 : Hp} {B : List (D × V)}, SR X.K S.g.cls ρ4 σ2 l ((.lst true acc', .ref Da) :: (B ++ (Ts ++ T))) H4 → acc'.length ≤ i + 1 → lcGo vs g t fe (ds.drop (i + 1)) acc' (wipeE ρ4 vs) = some (accF, ρ') →
                ∃ ρi acc, SR X.K S.g.cls ρi (L2.wipe σ vs) l ((.lst true acc, .ref Da) :: (Ts ++ T)) H4 ∧ (∀ v ∈ vs, look ρi v = none) ∧ lcGo vs g t fe (ds.drop (i + 1)) acc ρi = some (accF, ρ') ∧ acc.length ≤ i + 1 := fun {acc' ρ4 H4 B} S4 hl hg4 => by
              obtain ⟨L4, er4, q4⟩ := S4.dropB
              obtain ⟨B4, L5, p4, er5⟩ := er4.wipe vs
              have e5 : L2.wipe σ2 vs = L2.wipe (L2.wipe σ vs) vs := o3 vs hix
              have ww : ∀ (ws : List Nat), (∀ w ∈ ws, w ∈ vs) → L2.wipe (L2.wipe σ vs) ws = L2.wipe σ vs := by
                intro ws
                induction ws with
                | nil => intro _; rfl
                | cons w ws ih =>
                  intro hw
                  show (L2.wipe (L2.wipe σ vs) ws).set w none = _
                  rw [ih fun z m => hw z (List.mem_cons_of_mem _ m)]
                  by_cases hlt : w < (L2.wipe σ vs).length
                  · have e : (L2.wipe σ vs)[w] = none := by
                      cases q : (L2.wipe σ vs)[w] with
                      | none => rfl
                      | some z =>
                        have : (L2.wipe σ vs)[w]? = some (some z) := by rw [List.getElem?_eq_getElem hlt, q]
                        exact absurd (hw w List.mem_cons_self) (wipe_some this).2
                    have : (L2.wipe σ vs).set w (L2.wipe σ vs)[w] = L2.wipe σ vs := by simp
                    rw [e] at this
                    exact this
                  · rw [List.set_eq_of_length_le (by omega)]
              rw [e5, ww vs fun _ m => m] at er5
              refine ⟨wipeE ρ4 vs, acc', ⟨L5, er5, ?_⟩, wipeE_look ρ4 vs, hg4, hl⟩
              have p5 : (L4 ++ (D.lst true acc', V.ref Da) :: (Ts ++ T)).Perm (B4 ++ (L5 ++ (D.lst true acc', V.ref Da) :: (Ts ++ T))) := by
                rw [← List.append_assoc]
                exact p4.append_right _
              exact (q4.perm p5).dropL
            split at gi
            · rename_i ρ3 e3
              intro s1 H1' C1 cl1 fp1 pins1 st1 I1
              refine ht.h _ (hX.blk s1 H1' scope C1 cl1 fp1) ρ2 ρ3 σ2 l _ H2 true S3 e3 _ (fun H3 S4 => ?_) pins1 st1 I1
              rw [if_pos rfl]
              split at gi
              · rename_i ee ρ4 e4
                intro s2 H2' C2 cl2 fp2
                refine he.h _ (hX.blk s2 H2' scope C2 cl2 fp2) ρ3 ρ4 σ2 l _ H3 _ S4 e4 _ (fun _ _ _ _ => False) takes0 (fun d v H5 e S5 => ?_) (fun x e => by cases e)
                cases e
                obtain ⟨L5, er5, q5⟩ := S5.freezeT
                have q6 : Rel X.K S.g.cls ((D.lst true acc, V.ref Da) :: (fzd ee, v) :: (L5 ++ (Ts ++ T))) H5 := by
                  refine q5.perm ?_
                  refine (List.perm_middle.trans ?_)
                  refine (List.Perm.cons _ List.perm_middle).trans ?_
                  exact .swap _ _ _
                obtain ⟨av, hav, hal, q7⟩ := q6.append (fzd_fz ee)
                refine ⟨av, hav, ?_, ?_⟩
                · rw [hal]; omega
                · exact fin (B := []) ⟨L5, er5, q7.perm List.perm_middle.symm⟩ (by simp; omega) gi
              · cases gi
            · rename_i ρ3 e3
              intro s1 H1' C1 cl1 fp1 pins1 st1 I1
              refine ht.h _ (hX.blk s1 H1' scope C1 cl1 fp1) ρ2 ρ3 σ2 l _ H2 false S3 e3 _ (fun H3 S4 => ?_) pins1 st1 I1
              rw [if_neg (by decide)]
              exact fin (B := []) S4 (by omega) gi
            · cases gi
          · cases gi
        · rw [List.drop_length] at gi
          cases gi
          obtain ⟨L, er, q⟩ := Si
          exact kO _ _ H rfl (SR.dropB ⟨L, er.unwipe vs ni, q⟩)
      · cases h2
    · cases h2
  · exact hi.h X hX ρ ρ' σ l T H _ hS h1 _ W tk (fun ds' J Ts H1 e wk S1 => by cases e) (fun x' e => by cases e; exact kE x h2)
theorem se_lc (nd : S.N.Nodup) (hi : SI S tg iter fi) (ok : blkC S.N S.scope scope own = true) (hg : SG (blkS S scope) tg ix g) (ht : STs (blkS S scope) ifs t) (he : SE (blkS S scope) elt fe) (hix : ∀ i ∈ ix, i ∈ own.map (·.2) := by decide)
    (hs : ∀ (env : Env) x, foldedSetIterable iter env x = pure x := by intro _ _; rfl) : SE S (.ListComp elt [⟨tg, iter, ifs, 0⟩] scope pos) (eLc (own.map (·.2)) fi g t fe) := by
  refine ⟨?_⟩; intro X hX ρ ρ' σ l T H r hS hf Q W tk kO kE
  refine Bst.of (pe_lc (own := own) hX.calm (by rw [hX.N]; exact nd) bstI (by rw [hX.N, hX.scope]; exact blkOk_by ok) (g := tgU X scope tg) (tt := ttU X scope ifs) (te := teU X scope elt)
    (fun s H C cl fp => ⟨fun pins s1 σ H1 v u Q I r h => h s H C cl fp pins s1 u I r⟩) (fun s H C cl fp => ⟨fun pins s1 σ H1 Q I h => h s H C cl fp pins s1 I⟩) (fun s H C cl fp => ⟨fun pins s1 σ H1 Q I h => h s H C cl fp pins s1 I⟩) (hs _)) ?_
  exact lc_run hX hi hg hix ht he hS hf tk kO kE
/-- x = [..] on one row -/
theorem ss_setLc {i : Nat} {y : Str} {py spos : Pos} (nd : S.N.Nodup) (hi : SI S tg iter fi) (ok : blkC S.N S.scope scope own = true) (hg : SG (blkS S scope) tg ix g) (ht : STs (blkS S scope) ifs t) (he : SE (blkS S scope) elt fe) (hy : S.N[i]? = some y := by rfl) (hyl : S.scope.names.lookup y = some .local := by rfl) (hkk : S.scope.kind = .function := by rfl) (hline : (py.line == pos.line) = true := by rfl)
    (ha : (scope.names.any fun (n, k) => n == y && (k == .local || k == .cell)) = false := by decide +kernel) (hix : ∀ i ∈ ix, i ∈ own.map (·.2) := by decide)
    (hs : ∀ (env : Env) x, foldedSetIterable iter env x = pure x := by intro _ _; rfl) : SS S (.Assign [.Name y py] (.ListComp elt [⟨tg, iter, ifs, 0⟩] scope pos) spos) (sAsg (gtN i) (eLc (own.map (·.2)) fi g t fe)) := by
  refine ⟨?_⟩; intro X hX ρ ρ' σ l T H r hS hf E W tk po ks
  have hyl' : X.env.scope.names.lookup y = some .local := by rw [hX.scope]; exact hyl
  refine BstS.of (ps_setLc (own := own) (i := i) hX.calm (by rw [hX.N]; exact nd) (by rw [hX.N]; exact hy) hyl' (sw_true (by rw [hX.scope]; exact hkk) hyl' hline ha) bstI (by rw [hX.N, hX.scope]; exact blkOk_by ok) (g := tgU X scope tg) (tt := ttU X scope ifs) (te := teU X scope elt)
    (fun s H C cl fp => ⟨fun pins s1 σ H1 v u Q I r h => h s H C cl fp pins s1 u I r⟩) (fun s H C cl fp => ⟨fun pins s1 σ H1 Q I h => h s H C cl fp pins s1 I⟩) (fun s H C cl fp => ⟨fun pins s1 σ H1 Q I h => h s H C cl fp pins s1 I⟩) (hs _)) ?_
  unfold sAsg sE at hf
  split at hf
  · rename_i d ρ1 h1
    simp only at hf
    split at hf
    · rename_i ρ2 h2
      cases hf
      exact lc_run hX hi hg hix ht he hS h1 tk (fun d' v H' e S' => by cases e; exact ks _ _ (S'.asg h2)) (fun x e => by cases e)
    · cases hf
  · rename_i x ρ1 h1
    cases hf
    exact lc_run hX hi hg hix ht he hS h1 tk (fun d' v H' e S' => by cases e) (fun x' e => by cases e; exact ks σ)
  · cases hf
end
end L2.Ev
namespace L2.Ev
open PySem PySem.Spec PyProof.Rows
/-! ### len(set(..)) of texts -/
def uq (s : List Str) (x : Str) : List Str := if x ∈ s then s else s ++ [x]
def uniqL (xs : List Str) : List Str := xs.foldl uq []
theorem uq_mem (s : List Str) (x k : Str) : k ∈ uq s x ↔ k ∈ s ∨ k = x := by
  unfold uq
  by_cases h : x ∈ s
  · rw [if_pos h]
    constructor
    · exact .inl
    · rintro (z | z)
      · exact z
      · rw [z]; exact h
  · rw [if_neg h]; simp
theorem uq_len (s : List Str) (x : Str) : (uq s x).length = if x ∈ s then s.length else s.length + 1 := by
  unfold uq
  by_cases h : x ∈ s
  · rw [if_pos h, if_pos h]
  · rw [if_neg h, if_neg h]; simp
theorem uniq_step {xs : List Str} {i : Nat} (h : i < xs.length) : uniqL (xs.take (i + 1)) = uq (uniqL (xs.take i)) xs[i] := by
  unfold uniqL
  rw [List.take_add_one, List.getElem?_eq_getElem h]
  show List.foldl uq [] (xs.take i ++ [xs[i]]) = _
  rw [List.foldl_append]; rfl
theorem uniq_le (xs : List Str) : ∀ s : List Str, (xs.foldl uq s).length ≤ s.length + xs.length := by
  induction xs with
  | nil => intro s; simp
  | cons x xs ih =>
    intro s
    rw [List.foldl_cons, List.length_cons]
    have h1 := ih (uq s x)
    have h2 : (uq s x).length ≤ s.length + 1 := by
      rw [uq_len]; split <;> omega
    omega
theorem uniq_full (xs : List Str) : ∀ s : List Str, ((xs.foldl uq s).length = s.length + xs.length ↔ xs.Nodup ∧ ∀ x ∈ xs, x ∉ s) := by
  induction xs with
  | nil => intro s; simp
  | cons x xs ih =>
    intro s
    rw [List.foldl_cons, List.length_cons, List.nodup_cons]
    by_cases h : x ∈ s
    · have e : uq s x = s := by unfold uq; rw [if_pos h]
      rw [e]
      have h1 := uniq_le xs s
      constructor
      · intro z; omega
      · intro z; exact absurd h (z.2 x List.mem_cons_self)
    · have e : uq s x = s ++ [x] := by unfold uq; rw [if_neg h]
      rw [e]
      have h1 := ih (s ++ [x])
      rw [List.length_append, List.length_singleton] at h1
      have e2 : s.length + (xs.length + 1) = s.length + 1 + xs.length := by omega
      rw [e2, h1]
      constructor
      · rintro ⟨a, b⟩
        refine ⟨⟨fun z => (b x z) (by simp), a⟩, fun y hy => ?_⟩
        rcases List.mem_cons.mp hy with q | q
        · rw [q]; exact h
        · exact fun z => b y q (List.mem_append_left _ z)
      · rintro ⟨⟨a, a'⟩, b⟩
        refine ⟨a', fun y hy z => ?_⟩
        rcases List.mem_append.mp z with q | q
        · exact b y (List.mem_cons_of_mem _ hy) q
        · have : y = x := by simpa using q
          exact a (this ▸ hy)
/-! ### set(v), v a list or a tuple of keys of one kind -/
def kept (S : Addr) (wr : List Addr) (h h' : Heap) : Prop := ∀ b o, b ≠ S → b ∉ wr → h.get? b = some o → h'.get? b = some o
def fill {K : Type} [DecidableEq K] (key : Nat → K) : Nat → Nat → List K → List K
  | 0, _, L => L
  | r + 1, i, L => fill key r (i + 1) (if key i ∈ L then L else L ++ [key i])
section
variable {prog : Program} {w : World} {A : Around} {E : Value → Shared → Prop} {s : Shared}
/-- an empty set's object -/
abbrev mtSet (led : Bool) : Obj := { cls := .type "set", dict := none, data := .set #[] 0 (.fresh 0 0 led) }
/-- set(v) is made of its init -/
theorem set_made {v : Value} {Q : Value → Shared → Prop} (h : ∀ led, codeAny (model prog w) A.in1 (.call (.builtin "set.__init__") ⟨[.ref s.heap.objs.size, v], []⟩) (wants (fun u t => u = .none ∧ Q (.ref s.heap.objs.size) t) E) { s with heap := s.heap.push (mtSet led) }) :
    wpAny (model prog w) A (call (.type "set") [v]) Q E s := by
  have c := PySem.F.called_set
  obtain ⟨c1, c2, cm⟩ := c.mro
  have f1 := c.made; have f2 := c.sub; have f3 := c.notType; have f4 := c.canCreate; have f5 := PySem.F.typeCall_set_1 v
  refine wpAny_call (codeAny_of_tree (wpAny_pure ⟨Code.quiet_builtin _ (by decide +kernel), codeAny_builtin PySem.F.entry_type_call ?_⟩))
  rw [Around.under_plain (weight_type_call_type "set" [v] []) rfl]
  repeat (any_goals (first | assumption | wp_step))
  refine codeAny_mono (code_set_new_1 v (E := E) (Q₁ := fun o t => ∃ led, o = .ref s.heap.objs.size ∧ t = { s with heap := s.heap.push (mtSet led) }) fun led => ⟨led, rfl, rfl⟩) ?_
  rintro (e | (_ | _ | _ | o)) t ht
  all_goals first | exact ht | exact ht.elim | skip
  obtain ⟨led, rfl, rfl⟩ := ht
  have g0 : (s.heap.push (mtSet led)).get? s.heap.objs.size = some (mtSet led) := Heap.get?_push_size _ rfl
  have g1 : Shared.TypeIs { s with heap := s.heap.push (mtSet led) } (.ref s.heap.objs.size) "set" := ⟨_, g0, rfl⟩
  have g2 := c.init.lookup
  have g3 := c.init.bind (.ref s.heap.objs.size)
  repeat (any_goals (first | assumption | wp_step))
  refine codeAny_mono (h led) ?_
  rintro (e | (_ | _ | _ | u)) t ht
  all_goals first | exact ht | exact ht.elim | skip
  obtain ⟨rfl, q⟩ := ht
  repeat (any_goals (first | assumption | wp_step))
/-- the init, of a sequence: the loop over its iterator -/
theorem set_begun {S l : Addr} {T : String} {led : Bool} {ito : Obj} {R : Result → Shared → Prop} (g0 : s.heap.get? S = some (mtSet led)) (hT : s.TypeIs (.ref l) T) (n1 : isSubtype (.type T) (.type "set") = pure false) (n2 : isSubtype (.type T) (.type "frozenset") = pure false) (n3 : (Value.type T == Value.type "dict") = false)
    (hit : ∀ (B : Around) (Q : Value → Shared → Prop) (E : Value → Shared → Prop), Q (.ref s.heap.objs.size) { s with heap := s.heap.push ito } → wpAny (model prog w) B (pyIter (.ref l)) Q E s)
    (go : codeAny (model prog w) A.in1 (.builtin "set.update.loop" ⟨[.ref S, .ref s.heap.objs.size], []⟩) (fun r t => r = .ok (.ret .none) ∧ R r t) { s with heap := s.heap.push ito }) :
    codeAny (model prog w) A (.call (.builtin "set.__init__") ⟨[.ref S, .ref l], []⟩) R s := by
  refine codeAny_call_builtin PySem.F.called_set.init.plain PySem.F.entry_set_init (check_set_init_1 ⟨_, g0, rfl⟩ ?_)
  obtain ⟨⟨oc, od, da, os⟩, hlo, hlc⟩ := id hT
  simp only at hlc
  subst hlc
  unfold Builtin.«set.__init__» noKeywords Builtin.Frozenset.updateFrom
  generalize hp : pyIter = walkOf at hit ⊢
  wp_walk
  exact hit _ _ _ (wpAny_bind (wpAny_runValue (codeAny_mono go fun r t ⟨e, q⟩ => by subst e; exact wpAny_pure (wpAny_pure q))))
/-- the loop -/
theorem set_filled {K : Type} [DecidableEq K] {knd : PySem.KeyKind prog w K} {I S : Addr} {fp wr : List Addr} {n : Nat} {P : Nat → Value → Prop} {St : Nat → Heap → Prop} (W : Walks prog w A.in1 I fp wr n P St) (hS : S ∉ fp) (key : Nat → K) (hv : ∀ i v, P i v → knd.is (key i) v = true ∧ v.scannable = true) (hn : n < 1000) {R : Result → Shared → Prop} :
    ∀ (r i : Nat) (s : Shared) (L : List K), i + r = n → St i s.heap → s.heap.SetOf knd S (fun k => decide (k ∈ L)) L.length → L.length ≤ i →
      (∀ h' tk, h'.SetOf knd S (fun k => decide (k ∈ fill key r i L)) (fill key r i L).length → kept S wr s.heap h' → R (.ok (.ret .none)) { s with heap := h', toks := tk }) →
      codeAny (model prog w) A (.builtin "set.update.loop" ⟨[.ref S, .ref I], []⟩) R s
  | 0, i, s, L, e, st, hL, _, fin => by
    obtain rfl : i = n := by omega
    refine codeAny_builtin PyProof.Rows.F.entry_set_update_loop ?_
    rw [Around.under_plainId PyProof.Rows.F.plain_set_update_loop]
    refine wpAny_bind (m := pyNext (.ref I)) (W.done s _ _ st fun h' tk hk => wpAny_pure (fin h' tk ?_ fun b o _ nb q => hk b o nb q))
    obtain ⟨o, es, ep, t, ho, q⟩ := hL
    exact ⟨o, es, ep, t, hk S o (fun m => hS (W.sub S m)) ho, q⟩
  | r + 1, i, s, L, e, st, hL, hle, fin => by
    refine codeAny_builtin PyProof.Rows.F.entry_set_update_loop ?_
    rw [Around.under_plainId PyProof.Rows.F.plain_set_update_loop]
    refine wpAny_bind (m := pyNext (.ref I)) (W.item i s _ _ (by omega) st fun v h1 tk pv st1 hk => ?_)
    obtain ⟨hi, hc⟩ := hv i v pv
    have hL1 : h1.SetOf knd S (fun k => decide (k ∈ L)) L.length := by
      obtain ⟨o, es, ep, t, ho, q⟩ := hL
      exact ⟨o, es, ep, t, hk S o (fun m => hS (W.sub S m)) ho, q⟩
    refine wpAny_bind (m := holding [v] (setAdd S v)) (wpAny_holding ?_)
    unfold setAdd
    refine wpAny_holding (wpAny_bind (knd.pyHash hi (wpAny_setAddHashed_of (s := ⟨h1, s.gens, s.drawn, tk + 1, s.os⟩) hi hc hL1 (by unfold scanBound; omega) fun h2 same hL2 => wpAny_pure ⟨plainId_quiet PyProof.Rows.F.plain_set_update_loop _, ?_⟩)))
    refine set_filled W hS key hv hn r (i + 1) ⟨h2, s.gens, s.drawn, tk + 1, s.os⟩ (if key i ∈ L then L else L ++ [key i]) (by omega) (W.frame _ h1 h2 st1 fun b hb o q => ?_) ?_ ?_ ?_
    · rw [same.2 b fun z => hS (z ▸ hb)]; exact q
    · by_cases hm : key i ∈ L
      · rw [if_pos hm]
        refine SetOf_congr hL2 (fun k => ?_) (by simp [hm])
        by_cases hk' : k = key i
        · subst hk'; simp [hm]
        · simp [hk']
      · rw [if_neg hm]
        refine SetOf_congr hL2 (fun k => ?_) (by simp [hm])
        by_cases hk' : k = key i
        · subst hk'; simp
        · simp [hk']
    · split
      · omega
      · rw [List.length_append, List.length_singleton]; omega
    · intro h' tk' hF hK
      refine fin h' tk' hF fun b o n1 n2 q => hK b o n1 n2 ?_
      show h2.get? b = some o
      rw [same.2 b n1]; exact hk b o n2 q
end
theorem fill_uniq (key : Nat → Str) : ∀ (ys : List Str) (i : Nat) (L : List Str), (∀ j y, ys[j]? = some y → key (i + j) = y) → fill key ys.length i L = ys.foldl uq L
  | [], _, _, _ => rfl
  | y :: ys, i, L, h => by
    have e : key i = y := h 0 y rfl
    show fill key ys.length (i + 1) (if key i ∈ L then L else L ++ [key i]) = ys.foldl uq (uq L y)
    rw [e]
    exact fill_uniq key ys (i + 1) (uq L y) fun j z q => by
      have := h (j + 1) z q
      rwa [show i + (j + 1) = i + 1 + j by omega] at this
def tLenSetU (K : PySem.W.Frag) (ta : TE) : TE := fun σ H Q => ta σ H fun x H1 => ∃ l, ∃ xs : List Str, x = .ref l ∧ (SqL K H1 l (xs.map V.str) ∨ SqT K H1 l (xs.map V.str)) ∧ xs.length < 1000 ∧ Q (.int (uniqL xs).length) H1
section
variable {prog : Program} {w : World} {A : Around} {E : Value → Shared → Prop} {s : Shared}
/-- set(v) of texts, v walked by W -/
theorem set_texts {l : Addr} {T : String} {ito : Obj} {xs : List Str} {items : Array Value} {St : Nat → Heap → Prop} {Q : Value → Shared → Prop} (hl : l < s.heap.objs.size) (hT : s.TypeIs (.ref l) T) (n1 : isSubtype (.type T) (.type "set") = pure false) (n2 : isSubtype (.type T) (.type "frozenset") = pure false) (n3 : (Value.type T == Value.type "dict") = false)
    (hit : ∀ (t : Shared), (∀ b o, s.heap.get? b = some o → t.heap.get? b = some o) → ∀ (B : Around) (Q : Value → Shared → Prop) (E : Value → Shared → Prop), Q (.ref t.heap.objs.size) { t with heap := t.heap.push ito } → wpAny (model prog w) B (pyIter (.ref l)) Q E t)
    (W : Walks prog w A.in1.in1.in1 (s.heap.objs.size + 1) [s.heap.objs.size + 1, l] [s.heap.objs.size + 1] items.size (fun i v => items[i]? = some v) St) (st : ∀ o, St 0 ((s.heap.push o).push ito)) (hi : StrsAre items.toList xs) (hn : xs.length < 1000)
    (h : ∀ h' tk, h'.SetOf (PySem.strKind prog w) s.heap.objs.size (fun k => decide (k ∈ uniqL xs)) (uniqL xs).length → (∀ b o, s.heap.get? b = some o → h'.get? b = some o) → Q (.ref s.heap.objs.size) { s with heap := h', toks := tk }) :
    wpAny (model prog w) A (call (.type "set") [.ref l]) Q E s := by
  have hsz : items.size = xs.length := by rw [← Array.length_toList]; exact StrsAre.len_eq hi
  refine set_made fun led => ?_
  have up : ∀ b o, s.heap.get? b = some o → (s.heap.push (mtSet led)).get? b = some o := fun b o q => Heap.get?_push_of_some _ q
  have sz : (s.heap.push (mtSet led)).objs.size = s.heap.objs.size + 1 := Heap.size_push ..
  have g0 : (s.heap.push (mtSet led)).get? s.heap.objs.size = some (mtSet led) := Heap.get?_push_size _ rfl
  obtain ⟨lo, hlo, hlc⟩ := hT
  refine set_begun (s := { s with heap := s.heap.push (mtSet led) }) (ito := ito) g0 ⟨lo, up l lo hlo, hlc⟩ n1 n2 n3 (hit { s with heap := s.heap.push (mtSet led) } up) ?_
  show codeAny (model prog w) A.in1.in1 (.builtin "set.update.loop" ⟨[.ref s.heap.objs.size, .ref (s.heap.push (mtSet led)).objs.size], []⟩) _ _
  rw [sz]
  refine set_filled (knd := PySem.strKind prog w) W (by simp only [List.mem_cons, List.not_mem_nil, or_false, not_or]; exact ⟨Nat.ne_of_lt (Nat.lt_succ_self _), Nat.ne_of_gt hl⟩) (fun i => xs.getD i Str.empty) (fun i v q => ?_) (by omega) items.size 0 _ [] (by omega) (st _) ?_ (Nat.le_refl 0) fun h' tk hF hK => ⟨rfl, rfl, ?_⟩
  · obtain ⟨t, rfl⟩ := SS.strs_at hi i v (by rw [Array.getElem?_toList]; exact q)
    exact ⟨strKind_is _ _ _ _, rfl⟩
  · exact SetOf_congr ((setObjOf_fresh (knd := PySem.strKind prog w) led).setOf (Heap.get?_push_of_some _ g0) (by unfold scanBound; omega)) (fun _ => by simp) rfl
  · rw [hsz, fill_uniq _ xs 0 [] fun j y q => by simp [List.getD_eq_getElem?_getD, q]] at hF
    refine h h' tk hF fun b o q => ?_
    have hb := Heap.lt_size q
    exact hK b o (Nat.ne_of_lt hb) (by simp only [List.mem_cons, List.not_mem_nil, or_false]; exact Nat.ne_of_lt (Nat.lt_succ_of_lt hb)) (Heap.get?_push_of_some _ (up b o q))
end
theorem pe_lenSetU {X : Cx} {a : Expr} {ta : TE} {p p2 q pos : Pos} (hc : X.calm = true) (hg : Gl X "len") (hm : X.mg "len" = none) (hg2 : Gl X "set") (hm2 : X.mg "set" = none) (ha : PE X a ta)
    (na : starEach [a] X.env = (false, eval a X.env) :: starEach [] X.env) : PE X (.Call (.Name "len" p) [.Call (.Name "set" p2) [a] [] q] [] pos) (tLenSetU X.K ta) := ⟨fun pins s σ H Q I h => by
  refine Call_ (ld_blt I hg hm boot_len (callWith_builtin1 (args_cons (Call_ (ld_blt I hg2 hm2 boot_set (callWith_type1 (args_cons (thn (ha.run pins s σ H _ I h) fun v s1 hv => args_nil ?_) na) na rfl))) rfl) rfl rfl))
  obtain ⟨x, H1, I1, r1, l, xs, rfl, hq, hn, q1⟩ := hv
  cases r1
  have ub : (uniqL xs).length ≤ xs.length := by simpa [uniqL] using uniq_le xs []
  have hd0 := I1.ok.hd hc
  have last : ∀ h' tk, h'.SetOf (PySem.strKind X.prog X.w) s1.heap.objs.size (fun k => decide (k ∈ uniqL xs)) (uniqL xs).length → (∀ b o, s1.heap.get? b = some o → h'.get? b = some o) →
      wpAny (model X.prog X.w) X.A (spliced (backTo pos (starEach [] X.env))) (fun vs t => wpAny (model X.prog X.w) X.A (call (.builtin "len") (Value.ref s1.heap.objs.size :: vs)) (EP X pins σ Q) X.xe t) X.xe { s1 with heap := h', toks := tk } := by
    intro h' tk hS hk
    obtain ⟨o, es, ep, t, ho, hex, hd, _, _, _, hf, hz⟩ := hS
    exact args_nil (call_len_set ho hex hd hf (by rw [hz]; omega) ⟨.int (uniqL xs).length, H1, (I1.kept (t' := tk) hk).tok _, ⟨_, by rw [hz]⟩, q1⟩)
  have at1 : ∀ (o ito : Obj), ito.isFreed = false → ((s1.heap.push o).push ito).get? (s1.heap.objs.size + 1) = some ito := fun o ito f => by
    have := Heap.get?_push_size (s1.heap.push o) f
    rwa [Heap.size_push] at this
  have dist : ∀ lo, s1.heap.get? l = some lo → l < s1.heap.objs.size ∧ l ≠ s1.heap.objs.size + 1 := fun lo e => ⟨Heap.lt_size e, Nat.ne_of_lt (Nat.lt_succ_of_lt (Heap.lt_size e))⟩
  rcases hq with hq | hq
  · obtain ⟨its, r, pl, _⟩ := I1.list hq
    have il := pl.isList
    obtain ⟨lo, hlo, _⟩ := id il
    exact set_texts (T := "list") (ito := { cls := .type "list_iterator", data := .fields #[.ref l, .int 0 0] }) (dist lo hlo).1 il.typeIs PySem.F.sub_list_set PySem.F.sub_list_frozenset (by decide) (fun t ht B Q E k => wpAny_pyIter_list (il.at fun o e => ht l o e) k) (Walks.list (by simp [hd0]) _ l (dist lo hlo).2 its.toArray) (fun o => ⟨⟨_, at1 o _ rfl, rfl, rfl⟩, (il.push _).push _⟩) (by simpa using strsAre_of r) hn last
  · obtain ⟨its, r, pl, _⟩ := I1.tuple hq
    have il : s1.heap.IsTuple l its.toArray := pl
    obtain ⟨lo, hlo, _⟩ := id il
    exact set_texts (T := "tuple") (ito := { cls := .type "tuple_iterator", data := .fields #[.ref l, .int 0 0] }) (dist lo hlo).1 il.typeIs PySem.F.sub_tuple_set PySem.F.sub_tuple_frozenset (by decide) (fun t ht B Q E k => wpAny_pyIter_tuple (il.at fun o e => ht l o e) k) (Walks.tuple (by simp [hd0]) _ l (dist lo hlo).2 its.toArray) (fun o => ⟨⟨_, at1 o _ rfl, rfl, rfl⟩, (il.push _).push _⟩) (by simpa using strsAre_of r) hn last⟩
end L2.Ev
namespace L2.Ev
open PySem PySem.Spec PyProof.Rows

def gLenSet : D → Option D
  | .lst _ xs => match strsOf xs with
    | some ys => if ys.length < 1000 then some (.int (uniqL ys).length) else none
    | none => none
  | .tup xs => match strsOf xs with
    | some ys => if ys.length < 1000 then some (.int (uniqL ys).length) else none
    | none => none
  | _ => none
theorem se_lenSet {S : Sc} {a : Expr} {fa : OV} {p p2 q pos : Pos} (hm : S.g.mg "len" = none) (hm2 : S.g.mg "set" = none) (ha : SO S a fa) (hg : Glb S "len" := by rfl) (hg2 : Glb S "set" := by rfl) (hs : ∀ env : Env, starEach [a] env = (false, eval a env) :: starEach [] env := by intro _; rfl) : SE S (.Call (.Name "len" p) [.Call (.Name "set" p2) [a] [] q] [] pos) (e1 gLenSet fa) := by
  refine ⟨?_⟩; intro X hX ρ ρ' σ l T H r hS hf Q W tk kO kE
  refine Bst.of (pe_lenSetU hX.calm (gl_of hX hg) (by rw [hX.mg]; exact hm) (gl_of hX hg2) (by rw [hX.mg]; exact hm2) bst (hs _)) ?_
  refine ha.run hX hS hf tk kE fun av x H1 ρ1 h1 S1 o1 => ?_
  refine fin1_end (rr := fun x H1 Q => ∃ l, ∃ xs : List Str, x = .ref l ∧ (SqL X.K H1 l (xs.map V.str) ∨ SqT X.K H1 l (xs.map V.str)) ∧ xs.length < 1000 ∧ Q (.int (uniqL xs).length) H1) (g := gLenSet) ?_ S1 o1 h1 kO
  intro L H a d x Q hL ma hg k
  obtain ⟨A, nd, q⟩ := id hL
  obtain ⟨_, ra, _⟩ := q.mem ma
  unfold gLenSet at hg
  split at hg
  · split at hg
    · rename_i ys hy
      split at hg
      · rename_i hz
        cases hg
        obtain ⟨p, vs, rfl, h1, r1⟩ := ra.isL
        refine ⟨p, ys, rfl, .inl (.inl (.inl ?_)), hz, k _ _ (hL.ofI _)⟩
        rw [← r1.strsOf hy]; exact h1
      · cases hg
    · cases hg
  · split at hg
    · rename_i ys hy
      split at hg
      · rename_i hz
        cases hg
        obtain ⟨p, vs, rfl, h1, r1⟩ := ra.isT
        refine ⟨p, ys, rfl, .inr ?_, hz, k _ _ (hL.ofI _)⟩
        rw [← r1.strsOf hy]; exact h1
      · cases hg
    · cases hg
  · cases hg
end L2.Ev
namespace L2.Ev
open PySem PySem.Spec PyProof.Rows

/-! ### join -/
def gJoin : D → D → Option D
  | .str a, .lst _ xs => match strsOf xs with
    | some ys => if (ys.map (·.length)).sum + ys.length * a.length ≤ 16777216 then some (.str (Txt.join a ys)) else none
    | none => none
  | _, _ => none
/-- the first one is a text -/
def oStr (f : EV) : OV := bd f fun d ρ => match d with
  | .str a => some (.ok (.tmp (.str a)), ρ)
  | _ => none
section
variable {S : Sc} {o e : Expr} {f : EV} {fb : OV} {apos pos pos' : Pos}
theorem se_join (ho : SE S o f) (hb : SO S e fb) (hs : ∀ env : Env, starEach [e] env = [(false, eval e env)] := by intro _; rfl) (hbase : ∀ env : Env, attributeBase o "join" env (eval o env) = eval o env := by intro _; rfl) (hline : (apos.endLine == pos.line) = true := by rfl) :
    SE S (.Call (.Attribute o "join" apos) [e] [] pos) (e2 gJoin (oStr f) fb) := by
  refine ⟨?_⟩; intro X hX ρ ρ' σ l T H r hS hf Q W tk kO kE
  refine Bst.of (pe_join bst bst (hs _) (hbase _) hline) ?_
  have hf' : bd f (fun d ρ1 => match d with
      | .str a => bd fb (fun b => fin2 gJoin (.tmp (.str a)) b) ρ1
      | _ => none) ρ = some (r, ρ') := by
    unfold e2 oStr bd at hf
    unfold bd
    cases h1 : f ρ with
    | none => rw [h1] at hf; exact hf
    | some z =>
      obtain ⟨r1, ρ1⟩ := z
      rw [h1] at hf
      cases r1 with
      | er x => exact hf
      | ok d =>
        cases d <;> first | exact hf | (simp only at hf; cases hf)
  refine ho.run hX hS hf' tk kE fun d v H1 ρ1 h1 S1 => ?_
  split at h1
  · rename_i a
    obtain ⟨L, er, A, nd, q⟩ := id S1
    obtain ⟨_, rd, _⟩ := q.mem (d := .str a) (v := v) (List.mem_append_right _ List.mem_cons_self)
    refine ⟨⟨a, rd.isS⟩, ?_⟩
    have S1' : SR X.K S.g.cls ρ1 σ l (avT (.tmp (.str a)) v ++ T) H1 := S1
    refine hb.run hX S1' h1 tk (fun x e => (kE x e).more) fun bv y H2 ρ2 h2 S2 o2 => ?_
    refine fin2_end (av := .tmp (.str a)) (rr := fun x y H Q => ∃ a p, ∃ ys : List Str, x = .str a ∧ [y] = [.ref p] ∧ (SqL X.K H p (ys.map V.str) ∨ SqT X.K H p (ys.map V.str)) ∧ (ys.map (·.length)).sum + ys.length * a.length ≤ 16777216 ∧ Q (.str (Txt.join a ys)) H) (g := gJoin) ?_ S2 trivial o2 h2 kO
    intro L H a b d x y Q hL ma mb hg k
    obtain ⟨A, nd, q⟩ := id hL
    obtain ⟨_, ra, _⟩ := q.mem ma
    obtain ⟨_, rb, _⟩ := q.mem mb
    unfold gJoin at hg
    split at hg
    · split at hg
      · rename_i ys hy
        split at hg
        · rename_i hz
          cases hg
          obtain ⟨p, vs, rfl, h1, r1⟩ := rb.isL
          refine ⟨_, p, ys, ra.isS, rfl, .inl (.inl (.inl ?_)), hz, k _ _ (hL.ofS _)⟩
          rw [← r1.strsOf hy]; exact h1
        · cases hg
      · cases hg
    · cases hg
  · cases h1

/-! ### changes in place -/
def sApp (i : Nat) (f : EV) : SV := fun ρ => match look ρ i with
  | some (.lst _ _) => sE f (fun d ρ1 => match look ρ1 i with
    | some (.lst true xs) => if xs.length < sizeLine then some (.nx, put ρ1 i (.lst true (xs ++ [fzd d]))) else none
    | _ => none) ρ
  | _ => none
theorem SR.slot {K : PySem.W.Frag} {cls : Str → Addr} {ρ : En} {σ : St} {l : List V} {T : List (D × V)} {H : Hp} {i : Nat} {d : D} (h : SR K cls ρ σ l T H) (hl : look ρ i = some d) : ∃ v, σ[i]? = some (some v) ∧ ∃ (A os : List Addr), RD K cls H (fun a => a ∈ A) d v os := by
  obtain ⟨L, er, A, nd, q⟩ := h
  obtain ⟨v, h1, h2⟩ := er.get hl
  obtain ⟨os, rd, _⟩ := q.mem (List.mem_append_left T h2)
  exact ⟨v, h1, A, os, rd⟩
theorem ss_append (i : Nat) {x : Str} {npos : Pos} (h : SE S e f) (hN : S.N[i]? = some x := by rfl) (hv : Vis S.scope x := by first | exact Or.inl rfl | exact Or.inr (Or.inl rfl) | exact Or.inr (Or.inr rfl)) (hd : (x == ("__debug__" : Str)) = false := by decide)
    (hcd : (x == ("__classdict__" : Str)) = false := by decide) (hbase : ∀ env : Env, attributeBase (.Name x npos) "append" env (eval (.Name x npos) env) = eval (.Name x npos) env := by intro _; rfl) (hs : ∀ env : Env, starEach [e] env = (false, eval e env) :: starEach [] env := by intro _; rfl)
    (hfew : ∀ env : Env, ((backTo pos (starEach [e] env)).all (fun x => !x.1) && (backToKw pos (keywordEach [] env)).all (fun x => x.1.isSome) && decide ([e].length + ([] : List Keyword).length + (if ([] : List Keyword).isEmpty then 0 else 1) < 30)) = true := by intro _; rfl) (hline : (apos.endLine == pos.line) = true := by rfl) :
    SS S (.Expr (.Call (.Attribute (.Name x npos) "append" apos) [e] [] pos) pos') (sApp i f) := by
  refine ⟨?_⟩; intro X hX ρ ρ' σ l T H r hS hf' E W tk po ks
  unfold sApp at hf'
  split at hf'
  · rename_i o0 xs0 hl0
    refine BstS.of (ps_expr (pe_bm PySem.F.plainAttrs_list PySem.F.slot_list_append PySem.F.type_list_append mt_append (pe_var (i := i) (by rw [hX.N]; exact hN) (by rw [hX.scope]; exact hv) hd hcd) (pa_cons bst pa_nil (hs _)) (hbase _) (hfew _) hline (hs _) rfl) rfl) ?_
    obtain ⟨v, h1, A, os, rd⟩ := hS.slot hl0
    obtain ⟨p, vs, rfl, h2, r2⟩ := rd.isL
    refine ⟨.ref p, h1, .inl ⟨rfl, vs, .inl (.inl h2)⟩, ?_⟩
    refine sE_run h hX hS hf' tk ks fun d v H1 ρ1 hk S1 => ?_
    split at hk
    · rename_i xs hl
      split at hk
      · rename_i hz
        cases hk
        obtain ⟨L, er, q⟩ := S1.freezeT
        obtain ⟨v1, L0, L', e1, p1, er', p2⟩ := er.put (.lst true (xs ++ [fzd d])) hl
        rw [h1] at e1
        cases e1
        have q1 : Rel X.K S.g.cls ((.lst true xs, .ref p) :: (fzd d, v) :: (L0 ++ T)) H1 := by
          refine q.perm ?_
          refine (p1.append_right _).trans ?_
          exact List.Perm.cons _ List.perm_middle
        obtain ⟨av, ha, hal, q2⟩ := q1.append (fzd_fz d)
        refine ⟨p, av, v, rfl, rfl, ha, by rw [hal]; exact hz, ks _ _ ⟨L', er', ?_⟩⟩
        exact q2.perm (p2.symm.append_right T)
      · cases hk
    · cases hk
  · cases hf'
end
end L2.Ev
namespace L2.Ev
open PySem PySem.Spec PyProof.Rows

theorem perm_sw {α : Type} (A B C : List α) : (A ++ (B ++ C)).Perm (B ++ (A ++ C)) := by
  rw [← List.append_assoc, ← List.append_assoc]
  exact List.perm_append_comm.append_right _
/-! ### a, b = x, y -/
def sPar (i j : Nat) (g : DV) : SV := fun ρ => match g ρ with
  | some (.ok [d, d'], ρ1) => (match asg ρ1 i d with
    | some ρ2 => (match asg ρ2 j d' with
      | some ρ3 => some (.nx, ρ3)
      | none => none)
    | none => none)
  | some (.er x, ρ1) => some (.er x, ρ1)
  | _ => none
section
variable {S : Sc} {a b e : Expr} {f : EV} {g : DV} {pos pos' : Pos}
theorem ss_par (i j : Nat) {x y : Str} {px py pt pt2 : Pos} {kt k2 : Nat} (h : SL S [a, b] g) (nd : S.N.Nodup) (hij : i ≠ j := by decide) (hi : S.N[i]? = some x := by rfl) (hj : S.N[j]? = some y := by rfl) (hx : S.scope.names.lookup x = some .local := by rfl) (hy : S.scope.names.lookup y = some .local := by rfl)
    (hw : ∀ env : Env, env.scope = S.scope → swappedStores [.Tuple [.Name x px, .Name y py] kt pt] (.Tuple [a, b] k2 pt2) env = pure (some [x, y]) := by intro env h; cases env; simp only at h; subst h; rfl)
    (hs : ∀ env : Env, swapsWithSole [.Tuple [.Name x px, .Name y py] kt pt] (.Tuple [a, b] k2 pt2) pos.line env = pure false := by intro _; rfl) :
    SS S (.Assign [.Tuple [.Name x px, .Name y py] kt pt] (.Tuple [a, b] k2 pt2) pos) (sPar i j g) := by
  refine ⟨?_⟩; intro X hX ρ ρ' σ l T H r hS hf' E W tk po ks
  refine BstS.of (ps_par (i := i) (j := j) hX.calm (by rw [hX.N]; exact nd) (by rw [hX.N]; exact hi) (by rw [hX.N]; exact hj) hij (by rw [hX.scope]; exact hx) (by rw [hX.scope]; exact hy) bstA (hw _ hX.scope) (hs _)) ?_
  unfold sPar at hf'
  split at hf'
  · rename_i d d' ρ1 h1
    split at hf'
    · rename_i ρ2 h2
      split at hf'
      · rename_i ρ3 h3
        cases hf'
        refine h.h X hX ρ ρ1 σ l T H _ hS h1 _ W tk (fun ds vs H' e hl hz S1 => ?_) (fun x e => by cases e)
        cases e
        match vs, hl with
        | [v, v'], _ =>
          refine ⟨v, v', rfl, ks _ _ ?_⟩
          have S2 : SR X.K S.g.cls ρ1 σ l ((d, v) :: (d', v') :: T) H' := S1
          exact (S2.asg h2).asg h3
      · cases hf'
    · cases hf'
  · rename_i x ρ1 h1
    cases hf'
    exact h.h X hX ρ ρ' σ l T H _ hS h1 _ W tk (fun ds vs H' e hl hz S1 => by cases e) (fun x' e => by cases e; exact ks σ)
  · cases hf'

/-! ### x[i] = e -/
theorem set_dict {X : Cx} (hu : X.A.units + 1 < cLine) : PSet X (fun o i v H Q => ∃ a H', o = .ref a ∧ DPut H a i v H' ∧ Q H') := by
  intro pins s σ H o i v ov iv u Q I ro ri rv h
  obtain ⟨a, H', rfl, g, q⟩ := h
  cases ro
  exact d_setItem hu I g ri rv fun s' I' => ⟨H', I', q⟩
theorem PSet.or {X : Cx} {r r' : TSet} (h : PSet X r) (h' : PSet X r') : PSet X (fun o i v H Q => r o i v H Q ∨ r' o i v H Q) := by
  intro pins s σ H o i v ov iv u Q I ro ri rv q
  rcases q with q | q
  · exact h pins s σ H o i v ov iv u Q I ro ri rv q
  · exact h' pins s σ H o i v ov iv u Q I ro ri rv q
def dput (ks : List (Key × D)) (k : Key) (d : D) : List (Key × D) :=
  if (ks.any fun kv => decide (kv.1 = k)) = true then ks.map (fun kv => if kv.1 = k then (kv.1, d) else kv) else ks ++ [(k, d)]
def gSet : D → D → D → Option D
  | .lst true xs, .int i, d => (match ixN xs.length i with
    | some j => some (.lst true (xs.set j (fzd d)))
    | none => none)
  | .dct true ks, k, d => (match keyD k with
    | some kk => if ks.length < sizeLine ∧ ks.all (fun kv => kv.2.fz) = true then some (.dct true (dput ks kk (fzd d))) else none
    | none => none)
  | _, _, _ => none
def finSet (i : Nat) (d : D) (iv : AV) : SV := fun ρ => match look ρ i, res ρ iv with
  | some c, some k => (match gSet c k d with
    | some c' => some (.nx, put ρ i c')
    | none => none)
  | _, _ => none
def sO (f : OV) (k : AV → SV) : SV := fun ρ => match f ρ with
  | some (.ok d, ρ1) => k d ρ1
  | some (.er x, ρ1) => some (.er x, ρ1)
  | none => none
def sSet (i : Nat) (fi : OV) (f : EV) : SV := sE f fun d ρ => match look ρ i with
  | some _ => sO fi (fun iv => finSet i (fzd d) iv) ρ
  | none => none
theorem RDk.fzall {K : PySem.W.Frag} {cls : Str → Addr} {H : Hp} {ow : Addr → Prop} : ∀ {ks : List (Key × D)} {kvs : List (Key × V)} {os : List Addr}, RDk K cls H ow ks kvs os → ks.all (fun kv => kv.2.fz) = true → os = []
  | _, _, _, .nil, _ => rfl
  | _, _, _, .cons r t, h => by
    simp only [List.all_cons, Bool.and_eq_true] at h
    rw [r.fzo h.1, RDk.fzall t h.2]; rfl
theorem RDk.any {K : PySem.W.Frag} {cls : Str → Addr} {H : Hp} {ow : Addr → Prop} (k : Key) : ∀ {ks : List (Key × D)} {kvs : List (Key × V)} {os : List Addr}, RDk K cls H ow ks kvs os → (kvs.any fun kv => decide (kv.1 = k)) = (ks.any fun kv => decide (kv.1 = k))
  | _, _, _, .nil => rfl
  | _, _, _, .cons r t => by rw [List.any_cons, List.any_cons, RDk.any k t]
theorem RDk.inv {K : PySem.W.Frag} {cls : Str → Addr} {H : Hp} {ow : Addr → Prop} {k : Key} {d : D} {ks : List (Key × D)} {kvs : List (Key × V)} (r : RDk K cls H ow ((k, d) :: ks) kvs []) : ∃ v ws, kvs = (k, v) :: ws ∧ RD K cls H ow d v [] ∧ RDk K cls H ow ks ws [] := by
  generalize ho : ([] : List Addr) = os at r
  cases r with
  | cons r t =>
    obtain ⟨e1, e2⟩ := nil_app ho.symm
    subst e1; subst e2
    exact ⟨_, _, rfl, r, t⟩
theorem RDk.put {K : PySem.W.Frag} {cls : Str → Addr} {H : Hp} {ow : Addr → Prop} {k : Key} {d : D} {v : V} (rd : RD K cls H ow d v []) {ks : List (Key × D)} {kvs : List (Key × V)} (r : RDk K cls H ow ks kvs []) : RDk K cls H ow (dput ks k d) (putK kvs k v) [] := by
  unfold dput putK
  rw [r.any k]
  by_cases h : (ks.any fun kv => decide (kv.1 = k)) = true
  · rw [if_pos h, if_pos h]
    clear h
    induction ks generalizing kvs with
    | nil => cases r; exact .nil
    | cons p ks ih =>
      obtain ⟨k', d'⟩ := p
      obtain ⟨v', ws, rfl, h1, h2⟩ := r.inv
      rw [List.map_cons, List.map_cons]
      by_cases e : k' = k
      · simp only [e, if_true]
        exact RDk.cons (os := []) (os' := []) rd (ih h2)
      · simp only [e, if_false]
        exact RDk.cons (os := []) (os' := []) h1 (ih h2)
  · rw [if_neg h, if_neg h]
    clear h
    induction ks generalizing kvs with
    | nil => cases r; exact RDk.cons (os := []) (os' := []) rd .nil
    | cons p ks ih =>
      obtain ⟨k', d'⟩ := p
      obtain ⟨v', ws, rfl, h1, h2⟩ := r.inv
      exact RDk.cons (os := []) (os' := []) h1 (ih h2)
/-- an owned list, an owned dict of fixed things, is changed -/
theorem Rel.setL {K : PySem.W.Frag} {cls : Str → Addr} {H : Hp} {xs : List D} {p : Addr} {d : D} {v : V} {L : List (D × V)} (h : Rel K cls ((.lst true xs, .ref p) :: (d, v) :: L) H) (hz : d.fz = true) (j : Nat) : ∃ vs, H p = some (.lst vs) ∧ vs.length = xs.length ∧ Rel K cls ((.lst true (xs.set j d), .ref p) :: L) (upd H p (.lst (vs.set j v))) := by
  obtain ⟨A, nd, q⟩ := h
  cases q with
  | cons r t =>
    cases r with
    | lstO e rs =>
      cases t with
      | cons rd t =>
        have z := rd.fzo hz
        subst z
        rename_i vs os'
        refine ⟨vs, e, rs.length, p :: os', nd, ?_⟩
        have hn : p ∉ os' := (List.nodup_cons.mp nd).1
        have mv : ∀ a o, H a = some o → ¬ a ∈ ([p] ++ ([] ++ os')) → upd H p (.lst (vs.set j v)) a = some o ∧ ¬ a ∈ (p :: os') := fun a o e n => by
          have hne : a ≠ p := fun z => n (by simp [z])
          exact ⟨by rw [upd_ne hne]; exact e, fun z => n (by simpa using z)⟩
        refine RDl.cons (os := [p]) (.lstO upd_same ?_) (t.move mv fun a m => upd_ne fun z => hn (z ▸ m))
        exact (RDs.set (i := j) rd rs).move mv (fun _ z => nomatch z)
theorem Rel.setD {K : PySem.W.Frag} {cls : Str → Addr} {H : Hp} {ks : List (Key × D)} {p : Addr} {d : D} {v : V} {L : List (D × V)} (h : Rel K cls ((.dct true ks, .ref p) :: (d, v) :: L) H) (hz : d.fz = true) (ha : ks.all (fun kv => kv.2.fz) = true) (k : Key) : ∃ kvs, H p = some (.dK kvs) ∧ kvs.length = ks.length ∧ Rel K cls ((.dct true (dput ks k d), .ref p) :: L) (upd H p (.dK (putK kvs k v))) := by
  obtain ⟨A, nd, q⟩ := h
  cases q with
  | cons r t =>
    cases r with
    | dctO e rs =>
      cases t with
      | cons rd t =>
        have z := rd.fzo hz
        subst z
        have z := rs.fzall ha
        subst z
        rename_i kvs os'
        refine ⟨kvs, e, rs.length, p :: os', nd, ?_⟩
        have hn : p ∉ os' := (List.nodup_cons.mp nd).1
        have mv : ∀ a o, H a = some o → ¬ a ∈ ([p] ++ ([] ++ os')) → upd H p (.dK (putK kvs k v)) a = some o ∧ ¬ a ∈ (p :: os') := fun a o e n => by
          have hne : a ≠ p := fun z => n (by simp [z])
          exact ⟨by rw [upd_ne hne]; exact e, fun z => n (by simpa using z)⟩
        refine RDl.cons (os := [p]) (.dctO (os := []) upd_same ?_) (t.move mv fun a m => upd_ne fun z => hn (z ▸ m))
        exact (RDk.put rd rs).move mv (fun _ z => nomatch z)
theorem ss_setI (i : Nat) {x : Str} {npos tpos : Pos} {ie : Expr} {fi : OV} (h : SE S e f) (hi : SO S ie fi) (hN : S.N[i]? = some x := by rfl) (hv : Vis S.scope x := by first | exact Or.inl rfl | exact Or.inr (Or.inl rfl) | exact Or.inr (Or.inr rfl)) (hd : (x == ("__debug__" : Str)) = false := by decide)
    (hcd : (x == ("__classdict__" : Str)) = false := by decide)
    (ha : ∀ (env : Env) v, assign (.Subscript (.Name x npos) ie tpos) env v = (do
      let ov ← holding [v] (eval (.Name x npos) env)
      let iv ← holding [v, ov] (eval ie env)
      standAt tpos
      holding [v, ov, iv] (setItem ov iv v)
      release [v, ov, iv] []) := by intro _ _; rfl)
    (hs : ∀ env : Env, swapsWithSole [.Subscript (.Name x npos) ie tpos] e pos.line env = pure false := by intro _; rfl) (hw : ∀ env : Env, swappedStores [.Subscript (.Name x npos) ie tpos] e env = pure none := by intro _; rfl)
    (h1 : ∀ env : Env, (assignEach [.Subscript (.Name x npos) ie tpos] env).map (·.2) = [assign (.Subscript (.Name x npos) ie tpos) env] := by intro _; rfl) :
    SS S (.Assign [.Subscript (.Name x npos) ie tpos] e pos) (sSet i fi f) := by
  refine ⟨?_⟩; intro X hX ρ ρ' σ l T H r hS hf' E W tk po ks
  refine BstS.of (ps_asg bst (pg_sub (pe_var (i := i) (by rw [hX.N]; exact hN) (by rw [hX.scope]; exact hv) hd hcd) bst (PSet.or set_list (set_dict (hu_of hX.room))) (ha _)) (hs _) (hw _) (h1 _)) ?_
  refine sE_run h hX hS hf' tk ks fun d v H1 ρ1 hk S1 => ?_
  split at hk
  · rename_i c0 hl0
    have S2 := S1.freezeT
    obtain ⟨u, e1, _⟩ := S2.slot hl0
    refine ⟨u, e1, ?_⟩
    unfold sO at hk
    split at hk
    · rename_i iv ρ2 h2
      refine hi.h X hX ρ1 ρ2 σ l ((fzd d, v) :: T) H1 _ S2 h2 _ W tk (fun iv' y H2 e S3 o3 => ?_) (fun x e => by cases e)
      cases e
      unfold finSet at hk
      simp only at hk
      split at hk
      · rename_i c k hc hk2
        split at hk
        · rename_i c' hg
          cases hk
          obtain ⟨L, er, q⟩ := S3
          obtain ⟨v1, L0, L', e2, p1, er', p2⟩ := er.put c' hc
          rw [e1] at e2
          cases e2
          have mi : ∃ (A os : List Addr), RD X.K S.g.cls H2 (fun a => a ∈ A) k y os := by
            obtain ⟨A, nd, qq⟩ := q
            rcases res_mem (K := X.K) er o3 hk2 with z | z
            · obtain ⟨os, rd, _⟩ := qq.mem (List.mem_append_left _ z)
              exact ⟨A, os, rd⟩
            · obtain ⟨os, rd, _⟩ := qq.mem (List.mem_append_right _ (by rw [z]; exact List.mem_cons_self))
              exact ⟨A, os, rd⟩
          obtain ⟨A, os, rk⟩ := mi
          have q1 : Rel X.K S.g.cls ((c, u) :: (fzd d, v) :: (L0 ++ T)) H2 := by
            have pp : (L ++ (avT iv y ++ (fzd d, v) :: T)).Perm (avT iv y ++ ((c, u) :: (fzd d, v) :: (L0 ++ T))) := by
              refine (p1.append_right _).trans ?_
              show ((c, u) :: (L0 ++ (avT iv y ++ (fzd d, v) :: T))).Perm _
              refine List.Perm.trans ?_ List.perm_middle.symm
              refine List.Perm.cons _ ?_
              have : (L0 ++ (avT iv y ++ (fzd d, v) :: T)).Perm (avT iv y ++ (L0 ++ (fzd d, v) :: T)) := by
                rw [← List.append_assoc, ← List.append_assoc]
                exact List.perm_append_comm.append_right _
              refine this.trans (List.Perm.append_left _ List.perm_middle)
            exact (q.perm pp).dropL
          have fin : ∀ H', Rel X.K S.g.cls ((c', u) :: (L0 ++ T)) H' → E.nx σ H' := fun H' q' => ks _ _ ⟨L', er', q'.perm (p2.symm.append_right T)⟩
          unfold gSet at hg
          split at hg
          · split at hg
            · rename_i j hj
              cases hg
              obtain ⟨A1, nd1, qq1⟩ := id q1
              obtain ⟨_, rc, _⟩ := qq1.mem List.mem_cons_self
              obtain ⟨p, vs, rfl, _, _⟩ := rc.isL
              have ff : fzd (fzd d) = fzd d := by
                have := fzd_fz d
                unfold fzd at this ⊢
                rw [if_pos this]
              rw [ff] at fin
              obtain ⟨ws, h5, h6, h7⟩ := q1.setL (fzd_fz d) j
              exact .inl ⟨p, ws, _, j, rfl, rk.isI, h5, by rw [h6]; exact hj, fin _ h7⟩
            · cases hg
          · split at hg
            · rename_i kk hkk
              split at hg
              · rename_i hz
                cases hg
                obtain ⟨A1, nd1, qq1⟩ := id q1
                obtain ⟨_, rc, _⟩ := qq1.mem List.mem_cons_self
                obtain ⟨p, kvs, os', rfl, _, _⟩ := rc.isD
                have ff : fzd (fzd d) = fzd d := by
                  have := fzd_fz d
                  unfold fzd at this ⊢
                  rw [if_pos this]
                rw [ff] at fin
                obtain ⟨ws, h5, h6, h7⟩ := q1.setD (fzd_fz d) hz.2 kk
                refine .inr ⟨p, _, rfl, ?_, fin _ h7⟩
                rw [rk.key hkk]
                exact .k h5 (by rw [h6]; exact hz.1)
              · cases hg
            · cases hg
          · cases hg
        · cases hk
      · cases hk
    · rename_i x' ρ2 h2
      cases hk
      refine hi.h X hX ρ1 ρ' σ l ((fzd d, v) :: T) H1 _ S2 h2 _ W tk (fun iv' y H2 e S3 o3 => by cases e) (fun x2 e => ?_)
      cases e
      exact (ks σ).more (B := [(fzd d, v)])
    · cases hk
  · cases hk
end

/-! ### a def by its body -/
def backs2 : List D → En → Option (List D)
  | [], _ => some []
  | d :: ds, s :: ρ => match backs2 ds ρ with
    | some ds' => if d.fz = true then some (d :: ds') else (match s with
      | .lent d' => some (d' :: ds')
      | _ => none)
    | none => none
  | _ :: _, [] => none
def fnD (n m : Nat) (body : SV) : FV := fun ds => if ds.length = n then (match body (ds.map mkSl ++ List.replicate (m - n) .no) with
  | some (.nx, ρ') => (match backs2 ds ρ' with
    | some ds' => some (.ok .non, ds')
    | none => none)
  | some (.rt d, ρ') => (match backs2 ds ρ' with
    | some ds' => some (.ok d, ds')
    | none => none)
  | some (.er x, ρ') => (match backs2 ds ρ' with
    | some ds' => some (.er x, ds')
    | none => none)
  | _ => none) else none
theorem backs2_len : ∀ {ds ds' : List D} {ρ : En}, backs2 ds ρ = some ds' → ds'.length = ds.length
  | [], ds', ρ, h => by cases ρ <;> (cases h; rfl)
  | d :: ds, ds', [], h => by cases h
  | d :: ds, ds', s :: ρ, h => by
    simp only [backs2] at h
    split at h
    · rename_i ds2 h2
      have := backs2_len h2
      split at h
      · cases h; simp [this]
      · split at h
        · cases h; simp [this]
        · cases h
    · cases h
theorem fnD_len {n m : Nat} {body : SV} {ds ds' : List D} {r : Rs D} (h : fnD n m body ds = some (r, ds')) : ds'.length = ds.length := by
  unfold fnD at h
  split at h
  · split at h
    · split at h
      · rename_i h2; cases h; exact backs2_len h2
      · cases h
    · split at h
      · rename_i h2; cases h; exact backs2_len h2
      · cases h
    · split at h
      · rename_i h2; cases h; exact backs2_len h2
      · cases h
    · cases h
  · cases h
/-- the fixed arguments -/
def fzA : List D → List V → List (D × V)
  | d :: ds, v :: vs => if d.fz = true then (d, v) :: fzA ds vs else fzA ds vs
  | _, _ => []
theorem Rel.dupA {K : PySem.W.Frag} {cls : Str → Addr} {H : Hp} : ∀ {ds : List D} {vs : List V} {P T : List (D × V)}, Rel K cls (P ++ (zipT ds vs ++ T)) H → Rel K cls (P ++ (zipT ds vs ++ (fzA ds vs ++ T))) H
  | [], vs, P, T, h => by cases vs <;> exact h
  | d :: ds, [], P, T, h => h
  | d :: ds, v :: vs, P, T, h => by
    have h0 : Rel K cls ((P ++ [(d, v)]) ++ (zipT ds vs ++ T)) H := by simpa [zipT, List.append_assoc] using h
    by_cases hz : d.fz = true
    · have h1 : Rel K cls ((d, v) :: ((P ++ [(d, v)]) ++ (zipT ds vs ++ T))) H := by
        have p1 : ((P ++ [(d, v)]) ++ (zipT ds vs ++ T)).Perm ((d, v) :: (P ++ (zipT ds vs ++ T))) := by
          rw [List.append_assoc]
          exact List.perm_middle
        exact ((h0.perm p1).dup hz).perm (p1.symm.cons _)
      have h2 : Rel K cls (((d, v) :: (P ++ [(d, v)])) ++ (zipT ds vs ++ (fzA ds vs ++ T))) H := Rel.dupA (by simpa using h1)
      have e : fzA (d :: ds) (v :: vs) = (d, v) :: fzA ds vs := by simp [fzA, hz]
      rw [e]
      refine h2.perm ?_
      show ((d, v) :: ((P ++ [(d, v)]) ++ (zipT ds vs ++ (fzA ds vs ++ T)))).Perm (P ++ ((d, v) :: (zipT ds vs ++ ((d, v) :: (fzA ds vs ++ T)))))
      have a1 : (P ++ ((d, v) :: (zipT ds vs ++ ((d, v) :: (fzA ds vs ++ T))))).Perm ((d, v) :: (P ++ ((d, v) :: (zipT ds vs ++ (fzA ds vs ++ T))))) := by
        have b1 : (zipT ds vs ++ ((d, v) :: (fzA ds vs ++ T))).Perm ((d, v) :: (zipT ds vs ++ (fzA ds vs ++ T))) := List.perm_middle
        exact (List.Perm.append_left P (b1.cons _)).trans List.perm_middle
      refine List.Perm.trans ?_ a1.symm
      refine List.Perm.cons _ ?_
      rw [List.append_assoc]
      exact List.Perm.refl _
    · have h2 : Rel K cls ((P ++ [(d, v)]) ++ (zipT ds vs ++ (fzA ds vs ++ T))) H := Rel.dupA h0
      have e : fzA (d :: ds) (v :: vs) = fzA ds vs := by simp [fzA, hz]
      rw [e]
      simpa [zipT, List.append_assoc] using h2
theorem back_sel : ∀ {ds ds' : List D} {vs l2 : List V} {ρ : En} {σ : St} {L : List (D × V)}, ER ρ σ (vs ++ l2) L → backs2 ds ρ = some ds' → vs.length = ds.length → ∃ J, (L ++ fzA ds vs).Perm (J ++ zipT ds' vs)
  | [], ds', [], l2, ρ, σ, L, er, h, _ => by
    cases ρ <;> (cases h; exact ⟨L, by simp [fzA, zipT]⟩)
  | [], ds', _ :: _, l2, ρ, σ, L, er, h, hl => by cases hl
  | _ :: _, ds', [], l2, ρ, σ, L, er, h, hl => by cases hl
  | d :: ds, ds', v :: vs, l2, [], σ, L, er, h, hl => by cases h
  | d :: ds, ds', v :: vs, l2, s :: ρ, σ, L, er, h, hl => by
    simp only [backs2] at h
    split at h
    · rename_i ds2 h2
      have hl' : vs.length = ds.length := by simpa using hl
      split at h
      · rename_i hz
        cases h
        have e : fzA (d :: ds) (v :: vs) = (d, v) :: fzA ds vs := by simp [fzA, hz]
        rw [e]
        have key : ∀ {L1 : List (D × V)} {σ1 : St}, ER ρ σ1 (vs ++ l2) L1 → ∃ J, (L1 ++ (d, v) :: fzA ds vs).Perm (J ++ zipT (d :: ds2) (v :: vs)) := fun er1 => by
          obtain ⟨J, p⟩ := back_sel er1 h2 hl'
          refine ⟨J, List.perm_middle.trans ((p.cons _).trans ?_)⟩
          exact List.perm_middle.symm
        cases er with
        | no r => exact key r
        | val r =>
          rename_i L1 d2 v2
          obtain ⟨J, p⟩ := key r
          exact ⟨(d2, v2) :: J, p.cons _⟩
        | lent r =>
          rename_i L1 d2
          obtain ⟨J, p⟩ := key r
          exact ⟨(d2, v) :: J, p.cons _⟩
      · rename_i hz
        split at h
        · rename_i d'
          cases h
          have e : fzA (d :: ds) (v :: vs) = fzA ds vs := by simp [fzA, hz]
          rw [e]
          cases er with
          | lent r =>
            obtain ⟨J, p⟩ := back_sel r h2 hl'
            refine ⟨J, (p.cons _).trans ?_⟩
            exact List.perm_middle.symm
        · cases h
    · cases h
theorem er_start : ∀ {ds : List D} {vs : List V} (k : Nat), vs.length = ds.length → ER (ds.map mkSl ++ List.replicate k .no) (vs.map some ++ List.replicate k none) (vs ++ List.replicate k .non) (zipT ds vs)
  | [], [], k, _ => by
    induction k with
    | zero => exact .nil
    | succ k ih => exact .no ih
  | [], _ :: _, k, h => by cases h
  | _ :: _, [], k, h => by cases h
  | d :: ds, v :: vs, k, h => by
    have ih := er_start (ds := ds) (vs := vs) k (by simpa using h)
    show ER (mkSl d :: (ds.map mkSl ++ List.replicate k .no)) (some v :: (vs.map some ++ List.replicate k none)) (v :: (vs ++ List.replicate k .non)) ((d, v) :: zipT ds vs)
    unfold mkSl
    by_cases hz : d.fz = true
    · rw [if_pos hz]; exact .val ih
    · rw [if_neg hz]; exact .lent ih
theorem fn_ok {S : Sc} {st : Stmt} {f : Addr} {fd : FuncData} {x qual : Str} {ps : List Str} {body : SV} (F : Fun S.g.K x qual st f fd) (SP : FnScope S.N ps (defScope st)) (hsc : S.scope = defScope st) (hfn : S.fn = fun _ => true) (hb : SSs S (defBody st) body) (hle : ps.length ≤ S.N.length) :
    FnOk S.g.prog S.g.w S.g.K S.g.mg S.g.base (L2.CX S.g.prog S.g.w) (S.k + 1) f fd ps (spF S.g.K S.g.cls ps.length (fnD ps.length S.N.length body)) := by
  refine F.okX SP (fun vs H Q E h => ?_) (fun cdv A outer s H vs Q E hr h => ?_)
  · obtain ⟨ds, T, r, ds', hn, _⟩ := h
    exact hn
  · obtain ⟨ds, T, r, ds', hn, hl, hl', q, hF, kO, kE⟩ := h
    refine ⟨_, bstSs, ?_⟩
    have hX : InD S (cxOf (L2.CX S.g.prog S.g.w) S.g.prog S.g.w S.g.K S.g.mg S.g.base S.N qual (defScope st) f cdv A outer s H E) := ⟨rfl, rfl, rfl, rfl, rfl, rfl, hsc.symm, hfn.symm, rfl, hr, fun _ => ⟨rfl, rfl⟩⟩
    unfold fnD at hF
    have e0 : S.N.length - vs.length = S.N.length - ps.length := by rw [hn]
    split at hF
    · rename_i hdl
      have SR0 : SR S.g.K S.g.cls (ds.map mkSl ++ List.replicate (S.N.length - ps.length) .no) (start S.N vs) (vs ++ List.replicate (S.N.length - ps.length) .non) (fzA ds vs ++ T) H := by
        refine ⟨zipT ds vs, ?_, ?_⟩
        · unfold start
          rw [e0]
          exact er_start _ hl
        · exact Rel.dupA (P := []) q
      have back : ∀ {ρ' : En} {σ' : St} {H' : Hp} {P : List (D × V)} {ds2 : List D}, backs2 ds ρ' = some ds2 → SR S.g.K S.g.cls ρ' σ' (vs ++ List.replicate (S.N.length - ps.length) .non) (P ++ (fzA ds vs ++ T)) H' → Rel S.g.K S.g.cls (P ++ (zipT ds2 vs ++ T)) H' := fun {ρ' σ' H' P ds2} hb2 S' => by
        obtain ⟨L, er, q'⟩ := S'
        obtain ⟨J, p⟩ := back_sel er hb2 hl
        have pp : (L ++ (P ++ (fzA ds vs ++ T))).Perm (J ++ (P ++ (zipT ds2 vs ++ T))) := by
          refine (perm_sw L P (fzA ds vs ++ T)).trans ?_
          have a2 : (L ++ (fzA ds vs ++ T)).Perm (J ++ (zipT ds2 vs ++ T)) := by
            rw [← List.append_assoc, ← List.append_assoc]
            exact p.append_right T
          exact (List.Perm.append_left P a2).trans (perm_sw P J (zipT ds2 vs ++ T))
        exact (q'.perm pp).dropL
      have run : ∀ (fl : Fl) (ρ' : En), body (ds.map mkSl ++ List.replicate (S.N.length - ps.length) .no) = some (fl, ρ') → KS S (cxOf (L2.CX S.g.prog S.g.w) S.g.prog S.g.w S.g.K S.g.mg S.g.base S.N qual (defScope st) f cdv A outer s H E) ρ' (vs ++ List.replicate (S.N.length - ps.length) .non) (fzA ds vs ++ T) { nx := fun _ H' => Q .non H', rt := Q } (fun cls d _ H => E cls d H) fl →
          BstSs (cxOf (L2.CX S.g.prog S.g.w) S.g.prog S.g.w S.g.K S.g.mg S.g.base S.N qual (defScope st) f cdv A outer s H E) (defBody st) { nx := fun _ H' => Q .non H', rt := Q } (start S.N vs) H := fun fl ρ' hbd ks =>
        hb.h _ hX _ ρ' _ _ _ H fl SR0 hbd _ _ (takes_of rfl rfl rfl rfl) (passes_of rfl) ks
      split at hF
      · rename_i ρ' hbd
        split at hF
        · rename_i ds2 h2
          cases hF
          refine run _ ρ' hbd fun σ' H' S' => ?_
          have q1 := back (P := []) h2 S'
          exact kO _ _ H' rfl (q1.sc fun _ => .non)
        · cases hF
      · rename_i d ρ' hbd
        split at hF
        · rename_i ds2 h2
          cases hF
          refine run _ ρ' hbd fun v σ' H' S' => ?_
          exact kO _ v H' rfl (back (P := [(d, v)]) h2 S')
        · cases hF
      · rename_i x' ρ' hbd
        split at hF
        · rename_i ds2 h2
          cases hF
          refine run _ ρ' hbd fun σ' c dd Lx H' hx S' => ?_
          exact kE x' c dd Lx H' rfl hx (back (P := Lx) h2 S')
        · cases hF
      · cases hF
    · cases hF
end L2.Ev
namespace L2.Ev
open PySem PySem.Spec PyProof.Rows
/-- a def of the text, found by its name -/
def FnT (g : GC) (x : Str) (st : Stmt) (ps : List Str) : Prop := ∃ (f : Addr) (fd : FuncData), Fun g.K x x st f fd ∧ g.mg x = some (.ref f) ∧ Binds g.K fd ps []
theorem fnS_of {S : Sc} {x : Str} {st : Stmt} {ps : List Str} {body : SV} (F : FnT S.g x st ps) (sc : FnScope S.N ps (defScope st)) (hsc : S.scope = defScope st) (hfn : S.fn = fun _ => true) (hb : SSs S (defBody st) body) (hle : ps.length ≤ S.N.length) :
    FnS S.g (S.k + 1) x ps.length (fnD ps.length S.N.length body) := by
  obtain ⟨f, fd, F, hm, hbd⟩ := F
  exact ⟨⟨f, fd, ps, fn_ok F sc hsc hfn hb hle, hm, F.kp, hbd, rfl⟩, fun ds r ds' h => fnD_len h⟩
theorem isiOk_int : isiOk "int" = true := by decide +kernel
theorem isiOk_bool : isiOk "bool" = true := by decide +kernel
theorem isiOk_str : isiOk "str" = true := by decide +kernel
theorem isiOk_tuple : isiOk "tuple" = true := by decide +kernel
theorem isiOk_list : isiOk "list" = true := by decide +kernel
theorem isiOk_dict : isiOk "dict" = true := by decide +kernel
/-- the script, held -/
theorem rel_script {K : PySem.W.Frag} {cls : Str → Addr} {H : Hp} {a : Addr} {ns : List Int} (hO : L2.Only H) (hS : SqL K H a (ns.map V.int)) : Rel K cls (zipT [.lck (ns.map .int)] [.ref a] ++ []) H := by
  have rs : ∀ ns : List Int, RDs K cls H (fun a => a ∈ ([] : List Addr)) (ns.map .int) (ns.map V.int) [] := by
    intro ns
    induction ns with
    | nil => exact .nil
    | cons n ns ih => exact RDs.cons (os := []) (os' := []) (.int n) ih
  refine ⟨[], List.nodup_nil, RDl.cons (os := []) (os' := []) ?_ .nil⟩
  rcases hS with (h | ⟨o, h⟩) | h
  · rcases hO a with z | ⟨o, xs, z⟩
    · rw [h] at z; cases z
    · rw [h] at z; cases z
  · exact .lck h (fun z => nomatch z) (rs ns)
  · exact .lckK (fun _ => .inr h) (rs ns)
theorem sp_law {K : PySem.W.Frag} {cls : Str → Addr} {H : Hp} {a : Addr} {ns : List Int} {F : FV} {ds' : List D} (hF : F [.lck (ns.map .int)] = some (.ok (.bl true), ds')) (hl : ds'.length = 1) (hO : L2.Only H) (hS : SqL K H a (ns.map V.int)) : spF K cls 1 F [.ref a] H (fun v _ => v = .bl true) (fun _ _ _ => False) := by
  refine ⟨[.lck (ns.map .int)], [], .ok (.bl true), ds', rfl, rfl, hl, rel_script hO hS, hF, fun d v H' e q => ?_, fun x c dd Lx H' e => by cases e⟩
  cases e
  obtain ⟨A, nd, q⟩ := q
  obtain ⟨_, rd, _⟩ := q.mem List.mem_cons_self
  exact rd.isB
theorem cx_false {P : Program} {w : World} {H : Hp} {s : Shared} {e : Value} {s' : Shared} (h : L2.CX P w [] H s (fun _ _ _ => False) e s') : False := by
  obtain ⟨_, _, _, _, _, _, _, _, _, _, _, _, z⟩ := h
  exact z
end L2.Ev
namespace HT
open PySem PySem.Spec PyProof.Rows
theorem pick_rev (xs : Array Value) : ((List.range xs.size).filterMap fun (m : Nat) => xs[(((xs.size : Int) - 1) + (m : Int) * (-1)).toNat]?).toArray = xs.toList.reverse.toArray := by
  have e : (List.range xs.size).filterMap (fun (m : Nat) => xs[(((xs.size : Int) - 1) + (m : Int) * (-1)).toNat]?) = ((List.range xs.size).map fun k => xs.size - 1 - k).filterMap (xs[·]?) := by
    rw [List.filterMap_map]
    have fc : ∀ (l : List Nat) (f g : Nat → Option Value), (∀ k ∈ l, f k = g k) → l.filterMap f = l.filterMap g := by
      intro l f g h
      induction l with
      | nil => rfl
      | cons a l ih => rw [List.filterMap_cons, List.filterMap_cons, h a List.mem_cons_self, ih fun k m => h k (List.mem_cons_of_mem _ m)]
    refine fc _ _ _ fun k hk => ?_
    have := List.mem_range.mp hk
    show _ = xs[xs.size - 1 - k]?
    have e2 : (((xs.size : Int) - 1) + (k : Int) * (-1)).toNat = xs.size - 1 - k := by omega
    rw [e2]
  rw [e, PySem.W.krv_range, List.filterMap_reverse, PySem.W.krv_all]
section
variable {prog : Program} {w : World} {B : Around} {F : Value → Shared → Prop} {t : Shared}
theorem places_back (n : Nat) : Builtin.Slice.slicePlaces ((n : Int) - 1) (-1) (-1) = n := by
  have up : ¬ ((-1 : Int) > 0) := by omega
  have one : (- -1 : Int) = 1 := by omega
  unfold Builtin.Slice.slicePlaces
  simp only [up, if_false, one, Int.ediv_one]
  split <;> omega
/-- the slice [::-1], asked for its places -/
theorem applied_back {q : Addr} {a b c : Value} {n : Nat} {Q : Int × Int × Nat → Shared → Prop} (hq : t.heap.IsSliceOf q a b c) (ha : IsPart a none) (hb : IsPart b none) (hc : IsPart c (some (-1))) (k : Q ((n : Int) - 1, -1, n) t) : wpAny (model prog w) B (Builtin.Slice.sliceApplied (.ref q) (pure (n : Int))) Q F t := by
  obtain ⟨o, g, _, f⟩ := id hq
  unfold Builtin.Slice.sliceApplied Builtin.Slice.sliceFields
  refine wpAny_bind (wpAny_bind (wpAny_field g f (x := a) rfl (wpAny_bind (wpAny_field g f (x := b) rfl (wpAny_bind (wpAny_field g f (x := c) rfl (wpAny_pure (wpAny_bind (slicePart_ hc ?_)))))))))
  simp only [Option.getD_some, show ((-1 : Int) == 0) = false from rfl, Bool.false_eq_true, if_false]
  refine wpAny_bind (slicePart_ ha (wpAny_bind (slicePart_ hb (wpAny_bind (wpAny_pure (wpAny_pure ?_))))))
  show Q ((n : Int) - 1, -1, Builtin.Slice.slicePlaces ((n : Int) - 1) (-1) (-1)) t
  rw [places_back]; exact k
/-- a tuple, turned round -/
theorem tup_back {l q : Addr} {vs : Array Value} {a b c : Value} {Q : Value → Shared → Prop} (hl : IsTup t.heap l vs) (hq : t.heap.IsSliceOf q a b c) (ha : IsPart a none) (hb : IsPart b none) (hc : IsPart c (some (-1))) (hz : vs.size ≤ sizeLine)
    (k : Q (.ref t.heap.objs.size) { t with heap := t.heap.push { cls := .type "tuple", data := .seq vs.toList.reverse.toArray } }) : wpAny (model prog w) B (getItem (.ref l) (.ref q)) Q F t := by
  have fit : sizeOk (.seq vs.toList.reverse.toArray) := by
    show vs.toList.reverse.toArray.size ≤ sizeLine
    simpa using hz
  obtain ⟨o, g, oc, _⟩ := id hq
  unfold getItem
  refine wpAny_holding (wpAny_bind (wpAny_sequenceKey hl.typeIs (by decide) (wpAny_bind (wpAny_callSpecial?_slot (name := Str.ofString "__getitem__") hl.typeIs slot_tuple_getitem (wpAny_call_entry slot_tuple_getitem hl.typeIs entry_tuple_getitem ?_ (args_tuple_getitem _ _))))))
  refine wpAny_bind (m := Builtin.Tuple.tupleItemsOf (.ref l)) (tupleItemsOf_ hl (wpAny_bind (wpAny_typeOf ⟨o, g, oc⟩ ?_)))
  rw [if_pos (by decide)]
  refine wpAny_bind (applied_back hq ha hb hc ?_)
  have other : ((((vs.size : Int) - 1) == 0 && (-1 : Int) == 1 && vs.size == vs.size) = true) = False := by simp
  simp only [other, if_false, pick_rev]
  exact wpAny_bind (m := Builtin.Tuple.tupleExact _) (wpAny_newObj_type (wpAny_pure ⟨_, rfl, wpAny_pure k⟩) fit)
end
end HT
namespace L2
open PySem PySem.Spec PyProof.Rows
/-- t[::-1] of a tuple -/
def rRevT (K : PySem.W.Frag) : V → Hp → VK → Prop := fun x H1 Q => ∃ a xs, x = .ref a ∧ SqT K H1 a xs ∧ ∀ p, H1 p = none → Q (.ref p) (upd H1 p (.tup xs.reverse))
theorem pe_revT {X : Cx} {e : Expr} {te : TE} {k : Nat} {p1 p2 p3 pos : Pos} (he : PE X e te) : PE X (.Subscript e (.Slice none none (some (.UnaryOp .USub (.Constant (.int 1) k p1) p2)) p3) pos) (fun σ H Q => te σ H fun x H1 => rRevT X.K x H1 Q) := ⟨fun pins s σ H Q I h => by
  have back : PO X (some (.UnaryOp .USub (.Constant (.int 1) k p1) p2)) (tPart (tUn (rU fun i => .int (-i)) (tC (.int 1)))) := po_some (pe_un un_neg pe_int)
  refine Subscript_ (thn (he.run pins s σ H _ I h) fun v s1 ⟨x, H1, I1, r1, a, xs, ex, hx, q⟩ => ?_)
  subst ex
  refine wpAny_Slice (thn (po_none.run pins s1 σ H1 (fun o H2 => o = none ∧ H2 = H1) I1 ⟨rfl, rfl⟩) fun lo s2 ⟨_, _, I2, pl, e2, e2'⟩ => ?_)
  subst e2 e2'
  refine thn (po_none.run pins s2 σ _ (fun o H3 => o = none ∧ H3 = _) I2 ⟨rfl, rfl⟩) fun hi s3 ⟨_, _, I3, pu, e3, e3'⟩ => ?_
  subst e3 e3'
  refine thn (back.run pins s3 σ _ (fun o H4 => o = some (-1) ∧ H4 = _) I3 ⟨1, rfl, -1, rfl, rfl, rfl⟩) fun st s4 ⟨_, _, I4, ps, e4, e4'⟩ => ?_
  subst e4 e4'
  cases r1
  have I5 : Inv X pins σ _ { s4 with heap := s4.heap.push { cls := .type "slice", data := .fields #[lo, hi, st] } } := I4.kept (t' := s4.toks) fun _ _ z => Heap.get?_push_of_some _ z
  obtain ⟨its, r, ht, hz⟩ := I5.tuple hx
  have len := r.length
  exact tail_any (s := { s4 with heap := s4.heap.push { cls := .type "slice", data := .fields #[lo, hi, st] } }) (ops := [.ref a, .ref s4.heap.objs.size]) ht.typeIs slot_tuple_getitem.lookup (HT.tup_back ht (Heap.IsSliceOf.new _ lo hi st) pl pu ps (by rw [List.size_toArray]; omega) ⟨.ref _, _, I5.laid (t' := s4.toks) (o := .tup xs.reverse) (fun _ o z => Heap.get?_push_of_some _ z) (Nat.le_refl _) ⟨by rw [List.length_reverse]; exact hz, _, r.reverse, IsTup.new _ _⟩, rfl, q _ (I5.hok.fresh (Nat.le_refl _))⟩) (by with_unfolding_all rfl)⟩
end L2
namespace L2.Ev
open PySem PySem.Spec PyProof.Rows
section
variable {S : Sc} {a b c : Expr} {fa fb fc : OV} {pos p p2 : Pos} {x : Str}
/-- xs[::-1] of a list or a tuple -/
def gRevA : D → Option D
  | .lst _ xs => some (.lst true xs.reverse)
  | .tup xs => some (.tup xs.reverse)
  | _ => none
def gRevT : D → Option D
  | .tup xs => some (.tup xs.reverse)
  | _ => none
theorem se_revT {k : Nat} {p1 q2 p3 : Pos} (ha : SO S a fa) : SE S (.Subscript a (.Slice none none (some (.UnaryOp .USub (.Constant (.int 1) k p1) q2)) p3) pos) (e1 gRevT fa) := by
  refine ⟨?_⟩; intro X hX ρ ρ' σ l T H r hS hf Q W tk kO kE
  refine Bst.of (pe_revT bst) (ha.run hX hS hf tk kE fun av x H1 ρ1 h1 S1 o1 => fin1_end (rr := rRevT X.K) (g := gRevT) ?_ S1 o1 h1 kO)
  intro L H a d x Q hL ma hg k
  obtain ⟨A, nd, q⟩ := id hL
  obtain ⟨_, ra, _⟩ := q.mem ma
  unfold gRevT at hg
  split at hg
  · cases hg
    obtain ⟨p, vs, rfl, h1, r1⟩ := ra.isT
    exact ⟨p, vs, rfl, h1, fun z hz => k _ _ (Rel.newT nd q hz r1.reverse)⟩
  · cases hg
/-- which of the two it is, the shallow run tells ahead -/
theorem e1_split {g g1 g2 : D → Option D} {ρ : En} {r : Rs D} {ρ' : En} (hg : ∀ d, g d = g1 d ∨ g d = g2 d) (h : e1 g fa ρ = some (r, ρ')) : e1 g1 fa ρ = some (r, ρ') ∨ e1 g2 fa ρ = some (r, ρ') := by
  unfold e1 bd at h ⊢
  split at h
  · rename_i av ρ1 h1
    unfold fin1 at h ⊢
    dsimp only at h ⊢
    split at h
    · rename_i d hd
      rcases hg d with e | e
      · rw [e] at h; exact .inl h
      · rw [e] at h; exact .inr h
    · cases h
  · exact .inl h
  · cases h
theorem se_rev {k : Nat} {p1 q2 p3 : Pos} (ha : SO S a fa) : SE S (.Subscript a (.Slice none none (some (.UnaryOp .USub (.Constant (.int 1) k p1) q2)) p3) pos) (e1 gRevA fa) := by
  refine ⟨?_⟩; intro X hX ρ ρ' σ l T H r hS hf Q W tk kO kE
  rcases e1_split (g1 := gRev) (g2 := gRevT) (fun d => by cases d <;> first | exact .inl rfl | exact .inr rfl) hf with h | h
  · exact (se_revL ha).h X hX ρ ρ' σ l T H r hS h Q W tk kO kE
  · exact (se_revT ha).h X hX ρ ρ' σ l T H r hS h Q W tk kO kE
theorem se_b2 {id : String} {g : D → D → Option D} {r : Cx → List V → Hp → VK → Prop} (hc : ∀ X, InD S X → CallR X (.builtin id) (r X) ∧ Op2 X.K S.g.cls (fun x y H Q => r X [x, y] H Q) g) (hm : S.g.mg x = none) (hv : bootBuiltins x = some (.builtin id)) (ha : SO S a fa) (hb : SO S b fb)
    (hg : Glb S x := by rfl) (hn : x ≠ "__name__" := by decide) (hdb : (x == ("__debug__" : Str)) = false := by decide) (hs : ∀ env : Env, starEach [a, b] env = [(false, eval a env), (false, eval b env)] := by intro _; rfl) (hs2 : ∀ env : Env, starEach [b] env = [(false, eval b env)] := by intro _; rfl) :
    SE S (.Call (.Name x p) [a, b] [] pos) (e2 g fa fb) := by
  refine ⟨?_⟩; intro X hX ρ ρ' σ l T H rr hS hf Q W tk kO kE
  refine Bst.of (pe_callB (hc X hX).1 (gl_of hX hg) (by rw [hX.mg]; exact hm) hv (pa_cons bst (pa_cons bst pa_nil (by rw [hs2]; rfl)) (by rw [hs, hs2])) hn hdb (by rw [hs, hs2]) (by rw [hs2]; rfl)) ?_
  refine ha.run hX hS hf tk kE fun av x H1 ρ1 h1 S1 o1 => ?_
  refine hb.run hX S1 h1 tk (fun x e => (kE x e).more) fun bv y H2 ρ2 h2 S2 o2 => ?_
  exact fin2_end (hc X hX).2 S2 o1 o2 h2 kO
def gMax : D → D → Option D
  | .int i, .int j => some (.int (if j > i then j else i))
  | _, _ => none
theorem se_max (hm : S.g.mg "max" = none) (ha : SO S a fa) (hb : SO S b fb) (hg : Glb S "max" := by rfl) (hs : ∀ env : Env, starEach [a, b] env = [(false, eval a env), (false, eval b env)] := by intro _; rfl) (hs2 : ∀ env : Env, starEach [b] env = [(false, eval b env)] := by intro _; rfl) :
    SE S (.Call (.Name "max" p) [a, b] [] pos) (e2 gMax fa fb) := by
  refine se_b2 (r := fun X xs H Q => ∃ i j, xs = [.int i, .int j] ∧ Q (.int (if j > i then j else i)) H) (fun X hX => ⟨call_max2 hX.calm, ?_⟩) hm PyProof.Rows.boot_max ha hb hg (by decide) (by decide) hs hs2
  intro L H a b d x y Q hL ma mb hg k
  obtain ⟨A, nd, q⟩ := id hL
  obtain ⟨_, ra, _⟩ := q.mem ma
  obtain ⟨_, rb, _⟩ := q.mem mb
  unfold gMax at hg
  split at hg
  · cases hg
    exact ⟨_, _, by rw [ra.isI, rb.isI], k _ _ (hL.ofI _)⟩
  · cases hg
end
end L2.Ev
namespace L2.Ev
open PySem PySem.Spec PyProof.Rows
/-! ### raise -/
abbrev mroVE : List Value := [.type "ValueError", .type "Exception", .type "BaseException", .type "object"]
/-- what the top has left of an own error class -/
structure XCls (g : GC) (n : Str) : Prop where
  gC : g.mg n = some (.ref (g.cls n))
  xF : PySem.W.excIn g.K (g.cls n) mroVE "ValueError.__new__" = true
  kF : PySem.W.keepIn g.K (.ref (g.cls n)) = true
  bF : PySem.W.subIn g.K (.ref (g.cls n)) (.type "BaseException") = some true
  tF : PySem.W.typeIn g.K (.ref (g.cls n)) = some (.type "type")
def sRaise (n : Str) : SV := fun ρ => some (.er ⟨n, none⟩, ρ)
section
variable {S : Sc}
theorem ss_raise {n m : Str} {j : Nat} {p p2 pos pos2 : Pos} (c : XCls S.g n) (hg : Glb S n := by rfl) (hdb : (n == ("__debug__" : Str)) = false := by decide) : SS S (.Raise (some (.Call (.Name n p) [.Constant (.str m) j p2] [] pos)) none pos2) (sRaise n) := by
  refine ⟨?_⟩; intro X hX ρ ρ' σ l T H r hS hf D W tk pa ks
  cases hf
  refine BstS.of (ps_raise hX.calm tk (pmk_own PySem.F.excBase_ValueError (by rw [hX.K]; exact c.xF) (by rw [hX.mg]; exact c.gC) (by rw [hX.K]; exact c.kF) (raises_own (by rw [hX.K]; exact c.bF) (by rw [hX.K]; exact c.tF)) (gl_of hX hg) hdb)) ?_
  exact ks σ _ none [] H ⟨rfl, rfl, rfl⟩ hS
/-! ### try: .. except B as e: return [isinstance(e, n1), ..].index(True) -/
/-- an error of the class c, asked -/
structure XIs (g : GC) (top n1 n2 n3 c : Str) : Prop where
  ex : ExcC g.K (g.cls c)
  em : PySem.W.exmOne g.K (.ref (g.cls c)) (.ref (g.cls top)) = some true
  k1 : PySem.W.kitOne g.K (.ref (g.cls c)) (.ref (g.cls n1)) = some (decide (c = n1))
  k2 : PySem.W.kitOne g.K (.ref (g.cls c)) (.ref (g.cls n2)) = some (decide (c = n2))
  k3 : PySem.W.kitOne g.K (.ref (g.cls c)) (.ref (g.cls n3)) = some (decide (c = n3))
def ix3 (n1 n2 n3 c : Str) : Option Nat := if c = n1 then some 0 else if c = n2 then some 1 else if c = n3 then some 2 else none
def sTryIx (i : Nat) (n1 n2 n3 : Str) (sb : SV) : SV := fun ρ => match sb ρ with
  | some (.er x, ρ1) => (match x.fs, ρ1[i]?, ix3 n1 n2 n3 x.c with
    | none, some .no, some j => some (.rt (.int (j : Int)), ρ1)
    | _, _, _ => none)
  | o => o
theorem ER.len : ∀ {ρ : En} {σ : St} {l : List V} {L : List (D × V)}, ER ρ σ l L → σ.length = ρ.length
  | _, _, _, _, .nil => rfl
  | _, _, _, _, .no r => by simp [ER.len r]
  | _, _, _, _, .val r => by simp [ER.len r]
  | _, _, _, _, .lent r => by simp [ER.len r]
theorem InD.tr {X : Cx} (hX : InD S X) (pn : List (Addr × Obj)) (xe : Value → Shared → Prop) : InD S (X.tr pn xe) := ⟨hX.prog, hX.w, hX.K, hX.mg, hX.base, hX.N, hX.scope, hX.fn, hX.calm, hX.room, hX.stk⟩
theorem KS.tr {X : Cx} {ρ : En} {l : List V} {T : List (D × V)} {D : Ends} {W W' : WX} {r : Fl} {pn : List (Addr × Obj)} {xe : Value → Shared → Prop} (h : KS S X ρ l T D W r) (hr : ∀ x, r ≠ .er x) : KS S (X.tr pn xe) ρ l T D W' r := by
  cases r with
  | er x => exact absurd rfl (hr x)
  | nx => exact h
  | rt d => exact h
  | bk => exact h
  | ct => exact h
theorem ix3_mem {n1 n2 n3 c : Str} {j : Nat} (h : ix3 n1 n2 n3 c = some j) : c = n1 ∧ j = 0 ∨ c ≠ n1 ∧ c = n2 ∧ j = 1 ∨ c ≠ n1 ∧ c ≠ n2 ∧ c = n3 ∧ j = 2 := by
  unfold ix3 at h
  split at h
  · rename_i e; cases h; exact .inl ⟨e, rfl⟩
  · split at h
    · rename_i e1 e2; cases h; exact .inr (.inl ⟨e1, e2, rfl⟩)
    · split at h
      · rename_i e1 e2 e3; cases h; exact .inr (.inr ⟨e1, e2, e3, rfl⟩)
      · cases h
/-- what the suite asks -/
def tsIx (K : PySem.W.Frag) (C1 C2 C3 : Addr) (i : Nat) (a : Addr) (cls : Value) (d : Option Addr) : TS := fun D σ H =>
  ∃ (Dc : Addr) (b1 b2 b3 : Bool) (j : Nat), cls = .ref Dc ∧ d = none ∧ ExcC K Dc ∧ PySem.W.kitOne K (.ref Dc) (.ref C1) = some b1 ∧ PySem.W.kitOne K (.ref Dc) (.ref C2) = some b2 ∧ PySem.W.kitOne K (.ref Dc) (.ref C3) = some b3 ∧
    [b1, b2, b3][j]? = some true ∧ (∀ m b, m < j → [b1, b2, b3][m]? = some b → b = false) ∧ σ[i]? = some (some (.ref a)) ∧ ∀ p, H p = none → D.rt (.int (j : Nat)) (upd H p (.lst [.bl b1, .bl b2, .bl b3]))
theorem pe_isiE {Y : Cx} {i : Nat} {en n : Str} {p1 p2 p3 pos : Pos} {r : List V → Hp → VK → Prop} {C : Addr} (hr : CallR Y (.builtin "isinstance") r) (hg : Gl Y "isinstance") (hm : Y.mg "isinstance" = none) (hN : Y.N[i]? = some en) (hv : Vis Y.env.scope en) (hd : (en == ("__debug__" : Str)) = false) (hcd : (en == ("__classdict__" : Str)) = false) (hgn : Gl Y n) (hmn : Y.mg n = some (.ref C)) (hdn : (n == ("__debug__" : Str)) = false) :
    PE Y (.Call (.Name "isinstance" p1) [.Name en p2, .Name n p3] [] pos) (tCB r (tCons (tVar i) (tCons (tC (.ref C)) tNil))) :=
  pe_callB hr hg hm PyProof.Rows.boot_isinstance (pa_cons (pe_var hN hv hd hcd) (pa_cons (pe_glob (v := .ref C) hgn hmn rfl hdn) pa_nil))
theorem pss_ix {X : Cx} {i : Nat} {en n1 n2 n3 : Str} {C1 C2 C3 a : Addr} {oe : Obj} {cls : Value} {d : Option Addr} {pn : List (Addr × Obj)} {p11 p12 p13 p14 p21 p22 p23 p24 p31 p32 p33 p34 lp ap bp cp rp : Pos} {j0 : Nat} (hz : Zc cls d oe) (hf : ∃ vs, oe.data = .fields vs)
    (hg : Gl X "isinstance") (hm : X.mg "isinstance" = none) (hN : X.N[i]? = some en) (hv : Vis X.env.scope en) (hd : (en == ("__debug__" : Str)) = false) (hcd : (en == ("__classdict__" : Str)) = false)
    (g1 : Gl X n1) (m1 : X.mg n1 = some (.ref C1)) (d1 : (n1 == ("__debug__" : Str)) = false) (g2 : Gl X n2) (m2 : X.mg n2 = some (.ref C2)) (d2 : (n2 == ("__debug__" : Str)) = false) (g3 : Gl X n3) (m3 : X.mg n3 = some (.ref C3)) (d3 : (n3 == ("__debug__" : Str)) = false)
    (hline : (ap.endLine == cp.line) = true) :
    PSs (X.suite a ((a, oe) :: pn)) [.Return (some (.Call (.Attribute (.List [.Call (.Name "isinstance" p11) [.Name en p12, .Name n1 p13] [] p14, .Call (.Name "isinstance" p21) [.Name en p22, .Name n2 p23] [] p24, .Call (.Name "isinstance" p31) [.Name en p32, .Name n3 p33] [] p34] lp) "index" ap) [.Constant (.bool true) j0 bp] [] cp)) rp] (tsIx X.K C1 C2 C3 i a cls d) := by
  refine ⟨fun pins s σ H D I h => ?_⟩
  obtain ⟨Dc, b1, b2, b3, j, rfl, rfl, ec, k1, k2, k3, hj, hno, hσ, kD⟩ := h
  have hr : CallR (X.suite a ((a, oe) :: pn)) (.builtin "isinstance") (rIsE X.K Dc a) := call_isE ec hz hf
  refine (pss_one (ps_ret (pe_bm PySem.F.plainAttrs_list PySem.F.slot_list_index PySem.F.type_list_index mt_index (pe_lst (pa_cons (pe_isiE hr hg hm hN hv hd hcd g1 m1 d1) (pa_cons (pe_isiE hr hg hm hN hv hd hcd g2 m2 d2) (pa_cons (pe_isiE hr hg hm hN hv hd hcd g3 m3 d3) pa_nil)))) (pa_cons pe_bl pa_nil) rfl rfl hline))).run pins s σ H D I ?_
  have rf : ∀ (C : Addr) (u : Value), RelV (.ref C) u → u = .ref C := fun C u r => by cases r; rfl
  refine ⟨_, hσ, .ref C1, .ref C1, b1, rfl, rf C1, k1, ?_⟩
  refine ⟨_, hσ, .ref C2, .ref C2, b2, rfl, rf C2, k2, ?_⟩
  refine ⟨_, hσ, .ref C3, .ref C3, b3, rfl, rf C3, k3, ?_⟩
  refine ⟨by show 3 ≤ sizeLine; decide, fun p hp => ⟨.inl ⟨rfl, _, .inl (.inl upd_same)⟩, ?_⟩⟩
  refine ⟨p, _, .bl true, j, .bl true, rfl, rfl, .inl (.inl upd_same), rfl, rfl, ?_, rfl, ?_, kD p hp⟩
  · match j, hj with
    | 0, h => exact congrArg (fun z => Option.map V.bl z) h
    | 1, h => exact congrArg (fun z => Option.map V.bl z) h
    | 2, h => exact congrArg (fun z => Option.map V.bl z) h
  · intro m z' hmj hz'
    match m, hz' with
    | 0, h => cases h; have := hno 0 b1 hmj rfl; subst this; rfl
    | 1, h => cases h; have := hno 1 b2 hmj rfl; subst this; rfl
    | 2, h => cases h; have := hno 2 b3 hmj rfl; subst this; rfl
theorem ss_tryIx {i : Nat} {top en n1 n2 n3 : Str} {body : List Stmt} {sb : SV} {p11 p12 p13 p14 p21 p22 p23 p24 p31 p32 p33 p34 lp ap bp cp rp np pos pos' : Pos} {j0 : Nat} (hb : SSs S body sb) (nd : S.N.Nodup) (hmi : S.g.mg "isinstance" = none) (mt : S.g.mg top = some (.ref (S.g.cls top)))
    (c1 : XIs S.g top n1 n2 n3 n1) (c2 : XIs S.g top n1 n2 n3 n2) (c3 : XIs S.g top n1 n2 n3 n3) (m1 : S.g.mg n1 = some (.ref (S.g.cls n1))) (m2 : S.g.mg n2 = some (.ref (S.g.cls n2))) (m3 : S.g.mg n3 = some (.ref (S.g.cls n3)))
    (hN : S.N[i]? = some en := by rfl) (hln : S.scope.names.lookup en = some .local := by rfl) (ht : S.top = true := by rfl) (gi : Glb S "isinstance" := by rfl) (gt : Glb S top := by rfl) (g1 : Glb S n1 := by rfl) (g2 : Glb S n2 := by rfl) (g3 : Glb S n3 := by rfl)
    (hd : (en == ("__debug__" : Str)) = false := by decide) (hcd : (en == ("__classdict__" : Str)) = false := by decide) (dt : (top == ("__debug__" : Str)) = false := by decide) (d1 : (n1 == ("__debug__" : Str)) = false := by decide) (d2 : (n2 == ("__debug__" : Str)) = false := by decide) (d3 : (n3 == ("__debug__" : Str)) = false := by decide)
    (hline : (ap.endLine == cp.line) = true := by rfl) :
    SS S (.Try body [.ExceptHandler (some (.Name top np)) (some en) [.Return (some (.Call (.Attribute (.List [.Call (.Name "isinstance" p11) [.Name en p12, .Name n1 p13] [] p14, .Call (.Name "isinstance" p21) [.Name en p22, .Name n2 p23] [] p24, .Call (.Name "isinstance" p31) [.Name en p32, .Name n3 p33] [] p34] lp) "index" ap) [.Constant (.bool true) j0 bp] [] cp)) rp] pos'] [] [] pos) (sTryIx i n1 n2 n3 sb) := by
  refine ⟨?_⟩; intro X hX ρ ρ' σ l T H r hS hf D W tk pa ks
  obtain ⟨hs, hfr⟩ := hX.stk ht
  have hN' : X.N[i]? = some en := by rw [hX.N]; exact hN
  have hln' : X.env.kindOf en = some .local := by
    show X.env.scope.names.lookup en = _
    rw [hX.scope]; exact hln
  refine BstS.of (ps_try_as (i := i) (c := .ref (S.g.cls top)) (tb := fun W => fun D σ H => ∀ (pn : List (Addr × Obj)) (xe : Value → Shared → Prop), Takes (X.tr pn xe) W → PassesOwn (model X.prog X.w) X.A X.env xe → BstSs (X.tr pn xe) body D σ H) (ts := tsIx X.K (S.g.cls n1) (S.g.cls n2) (S.g.cls n3) i) (Wout := W) hs hfr (by rw [hX.N]; exact nd) hN' hln' ⟨gl_of hX gt, dt, .inl (by rw [hX.mg]; exact mt)⟩ tk
    (fun W pn xe tk pa => ⟨fun pins s σ H D I h => h pn xe tk pa pins s I⟩)
    (fun a oe cls d pn hz hfd => pss_ix hz hfd (gl_of hX gi) (by rw [hX.mg]; exact hmi) hN' (.inl hln') hd hcd (gl_of hX g1) (by rw [hX.mg]; exact m1) d1 (gl_of hX g2) (by rw [hX.mg]; exact m2) d2 (gl_of hX g3) (by rw [hX.mg]; exact m3) d3 hline)) ?_
  intro pn xe tk2 pa2
  unfold sTryIx at hf
  have go : ∀ (r1 : Fl) (ρ1 : En), sb ρ = some (r1, ρ1) → KS S (X.tr pn xe) ρ1 l T D (wAs X.K (.ref (S.g.cls top)) i (tsIx X.K (S.g.cls n1) (S.g.cls n2) (S.g.cls n3) i) W D) r1 → BstSs (X.tr pn xe) body D σ H := fun r1 ρ1 h1 k1 => hb.h (X.tr pn xe) (hX.tr pn xe) ρ ρ1 σ l T H r1 hS h1 D _ tk2 pa2 k1
  split at hf
  · rename_i x ρ1 h1
    split at hf
    · rename_i hfs hlk hix
      rename_i j
      cases hf
      refine go _ _ h1 fun σ' c dd Lx H' hx S' => ?_
      obtain ⟨rfl, hx2⟩ := hx
      rw [hfs] at hx2
      obtain ⟨rfl, rfl⟩ := hx2
      have S2 : SR X.K S.g.cls ρ' σ' l T H' := S'
      have fin : ∀ (e : XIs S.g top n1 n2 n3 x.c), [decide (x.c = n1), decide (x.c = n2), decide (x.c = n3)][j]? = some true → (∀ m b, m < j → [decide (x.c = n1), decide (x.c = n2), decide (x.c = n3)][m]? = some b → b = false) → wAs X.K (.ref (S.g.cls top)) i (tsIx X.K (S.g.cls n1) (S.g.cls n2) (S.g.cls n3) i) W D (.ref (S.g.cls x.c)) none σ' H' := by
        intro e hj hno
        refine ⟨true, by rw [hX.K]; exact e.em, fun _ a ha => ?_, fun z => by cases z⟩
        have hi : i < σ'.length := by
          obtain ⟨L, er, _⟩ := S2
          rw [er.len]
          exact (List.getElem?_eq_some_iff.mp hlk).1
        refine ⟨S.g.cls x.c, _, _, _, j, rfl, rfl, by rw [hX.K]; exact e.ex, by rw [hX.K]; exact e.k1, by rw [hX.K]; exact e.k2, by rw [hX.K]; exact e.k3, hj, hno, List.getElem?_set_self hi, fun p hp => ?_⟩
        refine ks (.int (j : Nat)) (σ'.set i (some (.ref a))) _ ?_
        obtain ⟨L, er, A, nd', q⟩ := S2
        refine ⟨L, er.any1 i _ (by unfold look; rw [hlk]), ?_⟩
        have q1 := Rel.newL nd' q hp (xs := [.bl (decide (x.c = n1)), .bl (decide (x.c = n2)), .bl (decide (x.c = n3))]) (vs := [.bl (decide (x.c = n1)), .bl (decide (x.c = n2)), .bl (decide (x.c = n3))]) (RDs.cons (os := []) (os' := []) (.bl _) (RDs.cons (os := []) (os' := []) (.bl _) (RDs.cons (os := []) (os' := []) (.bl _) .nil)))
        have q2 : Rel X.K S.g.cls (L ++ T) (upd H' p (.lst [.bl (decide (x.c = n1)), .bl (decide (x.c = n2)), .bl (decide (x.c = n3))])) := Rel.dropL (A := [(_, _)]) q1
        exact (q2.ofI (j : Nat)).perm List.perm_middle.symm
      rcases ix3_mem hix with ⟨e, rfl⟩ | ⟨e1, e, rfl⟩ | ⟨e1, e2, e, rfl⟩
      · refine fin (by rw [e]; exact c1) (by rw [decide_eq_true e]; rfl) (fun m b h => by omega)
      · refine fin (by rw [e]; exact c2) (by rw [decide_eq_true e]; rfl) (fun m b h hm => ?_)
        obtain rfl : m = 0 := by omega
        rw [decide_eq_false e1] at hm; cases hm; rfl
      · refine fin (by rw [e]; exact c3) (by rw [decide_eq_true e]; rfl) (fun m b h hm => ?_)
        obtain rfl | rfl : m = 0 ∨ m = 1 := by omega
        · rw [decide_eq_false e1] at hm; cases hm; rfl
        · rw [decide_eq_false e2] at hm; cases hm; rfl
    · cases hf
  · rename_i hne
    refine go _ _ hf (KS.tr ks fun x e => ?_)
    subst e
    exact hne _ _ hf
end
/-! ### the end -/
def spL (K : PySem.W.Frag) (F : FV) : Sp := fun vs H Q _ => ∃ (a : Addr) (ns : List Int) (ds' : List D), vs = [.ref a] ∧ F [.lck (ns.map .int)] = some (.ok (.bl true), ds') ∧ ds'.length = 1 ∧ L2.Only H ∧ SqL K H a (ns.map V.int) ∧ ∀ H', Q (.bl true) H'
theorem spL_F {K : PySem.W.Frag} {cls : Str → Addr} {F : FV} {vs : List V} {H : Hp} {Q : VK} {E : XK} (h : spL K F vs H Q E) : spF K cls 1 F vs H Q E := by
  obtain ⟨a, ns, ds', rfl, hF, hl, hO, hS, k⟩ := h
  refine ⟨[.lck (ns.map .int)], [], .ok (.bl true), ds', rfl, rfl, hl, rel_script hO hS, hF, fun d v H' e q => ?_, fun x c dd Lx H' e => by cases e⟩
  cases e
  obtain ⟨A, nd, q⟩ := q
  obtain ⟨_, rd, _⟩ := q.mem List.mem_cons_self
  rw [rd.isB]; exact k H'
theorem fnok_L {P : Program} {w : World} {K : PySem.W.Frag} {mg : Str → Option Value} {base : Heap} {CX : CXT} {k : Nat} {f : Addr} {fd : FuncData} {ps : List Str} {cls : Str → Addr} {F : FV} (h : FnOk P w K mg base CX k f fd ps (spF K cls 1 F)) : FnOk P w K mg base CX k f fd ps (spL K F) :=
  ⟨fun vs H Q E z => h.len vs H Q E (spL_F z), fun A outer s H args us vs Q E hr e b r z => h.run A outer s H args us vs Q E hr e b r (spL_F z)⟩
theorem kit_self {K : PySem.W.Frag} {C : Addr} : PySem.W.kitOne K (.ref C) (.ref C) = some true := by
  unfold PySem.W.kitOne
  rw [if_pos (beq_self_eq_true _)]
/-- ClsX: what is written of an own error class at C -/
structure ClsX (K : PySem.W.Frag) (C : Addr) : Prop where
  xF : PySem.W.excIn K C mroVE "ValueError.__new__" = true
  kF : PySem.W.keepIn K (.ref C) = true
  bF : PySem.W.subIn K (.ref C) (.type "BaseException") = some true
  tF : PySem.W.typeIn K (.ref C) = some (.type "type")
theorem XCls.of {g : GC} {n : Str} {C : Addr} (hC : g.cls n = C) (gC : g.mg n = some (.ref C)) (c : ClsX g.K C) : XCls g n := by
  subst hC
  exact ⟨gC, c.xF, c.kF, c.bF, c.tF⟩
theorem XIs.of {g : GC} {top n1 n2 n3 c : Str} {T C1 C2 C3 C : Addr} (hT : g.cls top = T) (h1 : g.cls n1 = C1) (h2 : g.cls n2 = C2) (h3 : g.cls n3 = C3) (hC : g.cls c = C) (ex : ExcC g.K C) (em : PySem.W.exmOne g.K (.ref C) (.ref T) = some true) (k1 : PySem.W.kitOne g.K (.ref C) (.ref C1) = some (decide (c = n1))) (k2 : PySem.W.kitOne g.K (.ref C) (.ref C2) = some (decide (c = n2))) (k3 : PySem.W.kitOne g.K (.ref C) (.ref C3) = some (decide (c = n3))) : XIs g top n1 n2 n3 c := by
  subst hT h1 h2 h3
  rw [← hC] at ex em k1 k2 k3
  exact ⟨ex, em, k1, k2, k3⟩
end L2.Ev
namespace L2.Ev
open PySem PySem.Spec PyProof.Rows
/-! ### the evaluator's words, applied to a state: for simp -/
section
variable {α β : Type} {ρ : En}
@[simp] theorem bd_ap (f : En → Option (Rs α × En)) (k : α → En → Option (Rs β × En)) : bd f k ρ = match f ρ with
  | some (.ok a, ρ1) => k a ρ1
  | some (.er x, ρ1) => some (.er x, ρ1)
  | none => none := Eq.trans rfl rfl
@[simp] theorem e1_ap (g : D → Option D) (fa : OV) : e1 g fa ρ = bd fa (fun a => fin1 g a) ρ := Eq.trans rfl rfl
@[simp] theorem e2_ap (g : D → D → Option D) (fa fb : OV) : e2 g fa fb ρ = bd fa (fun a => bd fb fun b => fin2 g a b) ρ := Eq.trans rfl rfl
@[simp] theorem eC_ap (d : D) : eC d ρ = some (.ok d, ρ) := Eq.trans rfl rfl
@[simp] theorem eVar_ap (i : Nat) : eVar i ρ = match look ρ i with
  | some d => if d.fz = true then some (.ok d, ρ) else some (.ok d.frz, put ρ i d.frz)
  | none => none := Eq.trans rfl rfl
@[simp] theorem oSlot_ap (i : Nat) : oSlot i ρ = match look ρ i with
  | some _ => some (.ok (.slot i), ρ)
  | none => none := Eq.trans rfl rfl
@[simp] theorem oE_ap (f : EV) : oE f ρ = bd f (fun d ρ => some (.ok (.tmp d), ρ)) ρ := Eq.trans rfl rfl
@[simp] theorem fin1_ap (g : D → Option D) (a : AV) : fin1 g a ρ = match res ρ a with
  | some d => (match g d with
    | some e => some (.ok e, ρ)
    | none => none)
  | none => none := Eq.trans rfl rfl
@[simp] theorem fin2_ap (g : D → D → Option D) (a b : AV) : fin2 g a b ρ = match res ρ a, res ρ b with
  | some d, some d' => (match g d d' with
    | some e => some (.ok e, ρ)
    | none => none)
  | _, _ => none := Eq.trans rfl rfl
@[simp] theorem tB1_ap (b : Bool) : tB1 (.bl b) ρ = some (.ok b, ρ) := Eq.trans rfl rfl
@[simp] theorem tE_ap (f : EV) : tE f ρ = bd f tB1 ρ := Eq.trans rfl rfl
@[simp] theorem tAnd2_ap (f g : TV) : tAnd2 f g ρ = bd f (fun b => if b = true then g else fun ρ => some (.ok false, ρ)) ρ := Eq.trans rfl rfl
@[simp] theorem tOr2_ap (f g : TV) : tOr2 f g ρ = bd f (fun b => if b = true then (fun ρ => some (.ok true, ρ)) else g) ρ := Eq.trans rfl rfl
@[simp] theorem tNot1_ap (f : TV) : tNot1 f ρ = bd f (fun b ρ => some (.ok (!b), ρ)) ρ := Eq.trans rfl rfl
@[simp] theorem eAnd2_ap (f g : EV) : eAnd2 f g ρ = match f ρ with
  | some (.ok (.bl true), ρ1) => g ρ1
  | some (.ok (.bl false), ρ1) => some (.ok (.bl false), ρ1)
  | some (.er x, ρ1) => some (.er x, ρ1)
  | _ => none := by
  unfold eAnd2 bd
  generalize f ρ = o
  rcases o with _ | ⟨d | x, ρ1⟩
  · rfl
  · cases d <;> try rfl
    rename_i b; cases b <;> rfl
  · rfl
@[simp] theorem eOr2_ap (f g : EV) : eOr2 f g ρ = match f ρ with
  | some (.ok (.bl true), ρ1) => some (.ok (.bl true), ρ1)
  | some (.ok (.bl false), ρ1) => g ρ1
  | some (.er x, ρ1) => some (.er x, ρ1)
  | _ => none := by
  unfold eOr2 bd
  generalize f ρ = o
  rcases o with _ | ⟨d | x, ρ1⟩
  · rfl
  · cases d <;> try rfl
    rename_i b; cases b <;> rfl
  · rfl
@[simp] theorem eNot1_ap (f : EV) : eNot1 f ρ = match f ρ with
  | some (.ok (.bl b), ρ1) => some (.ok (.bl (!b)), ρ1)
  | some (.er x, ρ1) => some (.er x, ρ1)
  | _ => none := by
  unfold eNot1 bd
  generalize f ρ = o
  rcases o with _ | ⟨d | x, ρ1⟩
  · rfl
  · cases d <;> rfl
  · rfl
@[simp] theorem eIf_ap (t : TV) (f g : EV) : eIf t f g ρ = bd t (fun b => if b = true then f else g) ρ := Eq.trans rfl rfl
@[simp] theorem pNo_ap : pNo ρ = some (.ok none, ρ) := Eq.trans rfl rfl
@[simp] theorem pAt_ap (f : EV) : pAt f ρ = bd f (fun d ρ => match d with
  | .int i => some (.ok (some i), ρ)
  | _ => none) ρ := Eq.trans rfl rfl
@[simp] theorem eSl_ap (fa : OV) (pl ph : PV) : eSl fa pl ph ρ = bd fa (fun a => bd pl fun lo => bd ph fun hi => finS a lo hi) ρ := Eq.trans rfl rfl
@[simp] theorem finS_ap (a : AV) (lo hi : Option Int) : finS a lo hi ρ = match res ρ a with
  | some d => (match gSl d lo hi with
    | some e => some (.ok e, ρ)
    | none => none)
  | none => none := Eq.trans rfl rfl
@[simp] theorem lNil_ap : lNil ρ = some (.ok [], ρ) := Eq.trans rfl rfl
@[simp] theorem lCons_ap (f : EV) (g : DV) : lCons f g ρ = bd f (fun d => bd g fun ds ρ => some (.ok (fzd d :: ds), ρ)) ρ := Eq.trans rfl rfl
@[simp] theorem eTup_ap (g : DV) : eTup g ρ = bd g (fun ds ρ => if ds.length ≤ sizeLine then some (.ok (.tup ds), ρ) else none) ρ := Eq.trans rfl rfl
@[simp] theorem eLst_ap (g : DV) : eLst g ρ = bd g (fun ds ρ => if ds.length ≤ sizeLine then some (.ok (.lst true ds), ρ) else none) ρ := Eq.trans rfl rfl
@[simp] theorem eCh_ap (g g' : D → D → Option D) (fa fb fc : OV) : eCh g g' fa fb fc ρ = bd fa (fun a => bd fb fun b => finC g g' a b fc) ρ := Eq.trans rfl rfl
@[simp] theorem finC_ap (g g' : D → D → Option D) (a b : AV) (fc : OV) : finC g g' a b fc ρ = match res ρ a, res ρ b with
  | some da, some db => (match g da db with
    | some (.bl true) => bd fc (fun c => fin2 g' b c) ρ
    | some (.bl false) => some (.ok (.bl false), ρ)
    | _ => none)
  | _, _ => none := Eq.trans rfl rfl
@[simp] theorem aNil_ap : aNil ρ = some (.ok [], ρ) := Eq.trans rfl rfl
@[simp] theorem aCons_ap (f : OV) (g : LV) : aCons f g ρ = bd f (fun a => bd g fun as ρ => some (.ok (a :: as), ρ)) ρ := Eq.trans rfl rfl
@[simp] theorem finF_ap (F : FV) (as : List AV) : finF F as ρ = match takeA ρ as with
  | some (ds, ρ1) => (match F ds with
    | some (r, ds') => some (r, giveA ρ as ds' ρ1)
    | none => none)
  | none => none := Eq.trans rfl rfl
@[simp] theorem eCall_ap (n : Nat) (F : FV) (fa : LV) : eCall n F fa ρ = bd fa (fun as ρ => if as.length = n then finF F as ρ else none) ρ := Eq.trans rfl rfl
@[simp] theorem gtN_ap (i : Nat) (d : D) : gtN i d ρ = asg ρ i d := Eq.trans rfl rfl
@[simp] theorem gtNil_ap : gtNil [] ρ = some ρ := Eq.trans rfl rfl
@[simp] theorem gtCons_ap (f : GV) (g : GsV) (d : D) (r : List D) : gtCons f g (d :: r) ρ = match f d ρ with
    | some ρ1 => g r ρ1
    | none => none := Eq.trans rfl rfl
@[simp] theorem gtT_ap (n : Nat) (g : GsV) (ds : List D) : gtT n g (.tup ds) ρ = if ds.length = n then g ds ρ else none := Eq.trans rfl rfl
@[simp] theorem sE_ap (f : EV) (k : D → SV) : sE f k ρ = match f ρ with
  | some (.ok d, ρ1) => k d ρ1
  | some (.er x, ρ1) => some (.er x, ρ1)
  | none => none := Eq.trans rfl rfl
@[simp] theorem sT_ap (f : TV) (k : Bool → SV) : sT f k ρ = match f ρ with
  | some (.ok d, ρ1) => k d ρ1
  | some (.er x, ρ1) => some (.er x, ρ1)
  | none => none := Eq.trans rfl rfl
@[simp] theorem sAsg_ap (g : GV) (f : EV) : sAsg g f ρ = sE f (fun d ρ => match g d ρ with
  | some ρ1 => some (.nx, ρ1)
  | none => none) ρ := Eq.trans rfl rfl
@[simp] theorem sRet_ap (f : EV) : sRet f ρ = sE f (fun d ρ => some (.rt d, ρ)) ρ := Eq.trans rfl rfl
@[simp] theorem sExpr_ap (f : EV) : sExpr f ρ = sE f (fun _ ρ => some (.nx, ρ)) ρ := Eq.trans rfl rfl
@[simp] theorem sRetV_ap (i : Nat) : sRetV i ρ = match ρ[i]? with
  | some (.val d) => some (.rt d, ρ.set i .no)
  | _ => none := Eq.trans rfl rfl
@[simp] theorem sNil_ap : sNil ρ = some (.nx, ρ) := Eq.trans rfl rfl
@[simp] theorem sSeq_ap (f g : SV) : sSeq f g ρ = match f ρ with
  | some (.nx, ρ1) => g ρ1
  | o => o := Eq.trans rfl rfl
@[simp] theorem sIf_ap (t : TV) (f g : SV) : sIf t f g ρ = sT t (fun b => if b = true then f else g) ρ := Eq.trans rfl rfl
@[simp] theorem iE_ap (f : EV) : iE f ρ = bd f (fun d ρ => match itemsD d with
  | some ds => some (.ok ds, ρ)
  | none => none) ρ := Eq.trans rfl rfl
theorem iR1_ap (fa : EV) : iR1 fa ρ = bd fa (fun d ρ => match d with
  | .int j => (match rngD 0 j with
    | some ds => some (.ok ds, ρ)
    | none => none)
  | _ => none) ρ := Eq.trans rfl rfl
theorem iR2_ap (fa fb : EV) : iR2 fa fb ρ = bd fa (fun d => bd fb fun d' ρ => match d, d' with
  | .int i, .int j => (match rngD i j with
    | some ds => some (.ok ds, ρ)
    | none => none)
  | _, _ => none) ρ := Eq.trans rfl rfl
@[simp] theorem sFor_ap (f : DV) (g : GV) (b : SV) : sFor f g b ρ = match f ρ with
  | some (.ok ds, ρ1) => forL g b ds ρ1
  | some (.er x, ρ1) => some (.er x, ρ1)
  | none => none := Eq.trans rfl rfl
theorem eLc_ap (vs : List Nat) (fi : DV) (g : GV) (t : TV) (fe : EV) : eLc vs fi g t fe ρ = bd fi (fun ds ρ => if ds.length ≤ sizeLine then (match lcGo vs g t fe ds [] (wipeE ρ vs) with
  | some (acc, ρ') => some (.ok (.lst true acc), ρ')
  | none => none) else none) ρ := Eq.trans rfl rfl
@[simp] theorem tYesV_ap : tYesV ρ = some (.ok true, ρ) := Eq.trans rfl rfl
@[simp] theorem oStr_ap (f : EV) : oStr f ρ = bd f (fun d ρ => match d with
  | .str a => some (.ok (.tmp (.str a)), ρ)
  | _ => none) ρ := Eq.trans rfl rfl
theorem sApp_ap (i : Nat) (f : EV) : sApp i f ρ = match look ρ i with
  | some (.lst _ _) => sE f (fun d ρ1 => match look ρ1 i with
    | some (.lst true xs) => if xs.length < sizeLine then some (.nx, put ρ1 i (.lst true (xs ++ [fzd d]))) else none
    | _ => none) ρ
  | _ => none := Eq.trans rfl rfl
@[simp] theorem sPar_ap (i j : Nat) (g : DV) : sPar i j g ρ = match g ρ with
  | some (.ok [d, d'], ρ1) => (match asg ρ1 i d with
    | some ρ2 => (match asg ρ2 j d' with
      | some ρ3 => some (.nx, ρ3)
      | none => none)
    | none => none)
  | some (.er x, ρ1) => some (.er x, ρ1)
  | _ => none := Eq.trans rfl rfl
@[simp] theorem forL_nil (g : GV) (b : SV) : forL g b [] ρ = some (.nx, ρ) := rfl
@[simp] theorem res_tmp (d : D) : res ρ (.tmp d) = some d := rfl
@[simp] theorem res_slot (i : Nat) : res ρ (.slot i) = look ρ i := rfl
@[simp] theorem look0 (d : D) : look (.val d :: ρ) 0 = some d := rfl
@[simp] theorem look0l (d : D) : look (.lent d :: ρ) 0 = some d := rfl
@[simp] theorem lookS (s : Sl) (i : Nat) : look (s :: ρ) (i + 1) = look ρ i := rfl
@[simp] theorem asg0 (d d' : D) : asg (.val d :: ρ) 0 d' = some (.val d' :: ρ) := rfl
@[simp] theorem asg0n (d' : D) : asg (.no :: ρ) 0 d' = some (.val d' :: ρ) := rfl
@[simp] theorem asgS (s : Sl) (i : Nat) (d : D) : asg (s :: ρ) (i + 1) d = (asg ρ i d).map (s :: ·) := by
  unfold asg
  simp only [List.getElem?_cons_succ]
  generalize ρ[i]? = o
  rcases o with _ | (_ | _ | _) <;> rfl
@[simp] theorem put0 (d d' : D) : put (.val d :: ρ) 0 d' = .val d' :: ρ := rfl
@[simp] theorem put0l (d d' : D) : put (.lent d :: ρ) 0 d' = .lent d' :: ρ := rfl
@[simp] theorem putS (s : Sl) (i : Nat) (d : D) : put (s :: ρ) (i + 1) d = s :: put ρ i d := put_succ s ρ i d
@[simp] theorem takeA_nil : takeA ρ [] = some ([], ρ) := rfl
@[simp] theorem takeA_tmp (d : D) (as : List AV) : takeA ρ (.tmp d :: as) = match takeA ρ as with
    | some (ds, ρ') => some (d :: ds, ρ')
    | none => none := rfl
@[simp] theorem takeA_slot (i : Nat) (as : List AV) : takeA ρ (.slot i :: as) = match look ρ i with
    | some d => (match takeA (ρ.set i .no) as with
      | some (ds, ρ') => some (d :: ds, ρ')
      | none => none)
    | none => none := rfl
@[simp] theorem giveA_nil (ρ0 : En) (ds : List D) : giveA ρ0 [] ds ρ = ρ := by cases ds <;> rfl
@[simp] theorem giveA_tmp (ρ0 : En) (x d : D) (as : List AV) (ds : List D) : giveA ρ0 (.tmp x :: as) (d :: ds) ρ = giveA ρ0 as ds ρ := rfl
@[simp] theorem giveA_slot (ρ0 : En) (i : Nat) (d : D) (as : List AV) (ds : List D) : giveA ρ0 (.slot i :: as) (d :: ds) ρ = (match ρ0[i]? with
    | some (.lent _) => (giveA ρ0 as ds ρ).set i (.lent d)
    | _ => (giveA ρ0 as ds ρ).set i (.val d)) := rfl
@[simp] theorem wipeE_nil : wipeE ρ [] = ρ := rfl
@[simp] theorem wipeE_cons (v : Nat) (vs : List Nat) : wipeE ρ (v :: vs) = (wipeE ρ vs).set v .no := rfl
end
theorem e1_run {g : D → Option D} {fa : OV} {ρ ρ1 : En} {a : AV} {da d : D} (ha : fa ρ = some (.ok a, ρ1)) (ra : res ρ1 a = some da) (hg : g da = some d) : e1 g fa ρ = some (.ok d, ρ1) := by
  rw [e1_ap, bd_ap, ha]
  show fin1 g a ρ1 = _
  rw [fin1_ap, ra]
  show (match g da with
    | some e => some (Rs.ok e, ρ1)
    | none => none) = _
  rw [hg]
theorem e2_run {g : D → D → Option D} {fa fb : OV} {ρ ρ1 ρ2 : En} {a b : AV} {da db d : D} (ha : fa ρ = some (.ok a, ρ1)) (hb : fb ρ1 = some (.ok b, ρ2)) (ra : res ρ2 a = some da) (rb : res ρ2 b = some db) (hg : g da db = some d) : e2 g fa fb ρ = some (.ok d, ρ2) := by
  rw [e2_ap, bd_ap, ha]
  show bd fb _ ρ1 = _
  rw [bd_ap, hb]
  show fin2 g a b ρ2 = _
  rw [fin2_ap, ra, rb]
  show (match g da db with
    | some e => some (Rs.ok e, ρ2)
    | none => none) = _
  rw [hg]
theorem oE_run {f : EV} {ρ ρ1 : En} {d : D} (h : f ρ = some (.ok d, ρ1)) : oE f ρ = some (.ok (.tmp d), ρ1) := by
  rw [oE_ap, bd_ap, h]
theorem oSlot_run {i : Nat} {ρ : En} {d : D} (h : look ρ i = some d) : oSlot i ρ = some (.ok (.slot i), ρ) := by
  rw [oSlot_ap, h]
theorem sAsg_run {g : GV} {f : EV} {ρ ρ1 ρ2 : En} {d : D} (h : f ρ = some (.ok d, ρ1)) (hg : g d ρ1 = some ρ2) : sAsg g f ρ = some (.nx, ρ2) := by
  rw [sAsg_ap, sE_ap, h]
  show (match g d ρ1 with
  | some ρ1 => some (Fl.nx, ρ1)
  | none => none) = _
  rw [hg]
/-- x = e, where e changes nothing -/
theorem sAsgN_run {i : Nat} {f : EV} {ρ ρ2 : En} {d : D} (h : f ρ = some (.ok d, ρ)) (hg : asg ρ i d = some ρ2) : sAsg (gtN i) f ρ = some (.nx, ρ2) := sAsg_run h hg
theorem sSeq_run {f g : SV} {ρ ρ1 : En} {r : Option (Fl × En)} (h : f ρ = some (.nx, ρ1)) (h2 : g ρ1 = r) : sSeq f g ρ = r := by
  rw [sSeq_ap, h]
  exact h2
theorem sSeq_rt {f g : SV} {ρ ρ1 : En} {d : D} (h : f ρ = some (.rt d, ρ1)) : sSeq f g ρ = some (.rt d, ρ1) := by
  rw [sSeq_ap, h]
theorem forL_nx {g : GV} {b : SV} {d : D} {ds : List D} {ρ ρ1 ρ2 : En} {r : Option (Fl × En)} (hg : g d ρ = some ρ1) (hb : b ρ1 = some (.nx, ρ2)) (hr : forL g b ds ρ2 = r) : forL g b (d :: ds) ρ = r := by
  unfold forL
  simp only [hg, hb, hr]
theorem forL_ct {g : GV} {b : SV} {d : D} {ds : List D} {ρ ρ1 ρ2 : En} {r : Option (Fl × En)} (hg : g d ρ = some ρ1) (hb : b ρ1 = some (.ct, ρ2)) (hr : forL g b ds ρ2 = r) : forL g b (d :: ds) ρ = r := by
  unfold forL
  simp only [hg, hb, hr]
theorem sPar_run {i j : Nat} {g : DV} {ρ ρ1 ρ2 ρ3 : En} {d d' : D} (h : g ρ = some (.ok [d, d'], ρ1)) (h1 : asg ρ1 i d = some ρ2) (h2 : asg ρ2 j d' = some ρ3) : sPar i j g ρ = some (.nx, ρ3) := by
  rw [sPar_ap, h]
  show (match asg ρ1 i d with
    | some ρ2 => (match asg ρ2 j d' with
      | some ρ3 => some (Fl.nx, ρ3)
      | none => none)
    | none => none) = _
  rw [h1]
  show (match asg ρ2 j d' with
      | some ρ3 => some (Fl.nx, ρ3)
      | none => none) = _
  rw [h2]
theorem pAt_run {f : EV} {ρ ρ1 : En} {i : Int} (h : f ρ = some (.ok (.int i), ρ1)) : pAt f ρ = some (.ok (some i), ρ1) := by
  rw [pAt_ap, bd_ap, h]
theorem eSl_run {fa : OV} {pl ph : PV} {ρ ρ1 ρ2 ρ3 : En} {a : AV} {lo hi : Option Int} {da d : D} (ha : fa ρ = some (.ok a, ρ1)) (hl : pl ρ1 = some (.ok lo, ρ2)) (hh : ph ρ2 = some (.ok hi, ρ3)) (ra : res ρ3 a = some da) (hg : gSl da lo hi = some d) : eSl fa pl ph ρ = some (.ok d, ρ3) := by
  rw [eSl_ap, bd_ap, ha]
  show bd pl _ ρ1 = _
  rw [bd_ap, hl]
  show bd ph _ ρ2 = _
  rw [bd_ap, hh]
  show finS a lo hi ρ3 = _
  rw [finS_ap, ra]
  show (match gSl da lo hi with
    | some e => some (Rs.ok e, ρ3)
    | none => none) = _
  rw [hg]
theorem eVar_run {i : Nat} {ρ : En} {d : D} (h : look ρ i = some d) (hz : d.fz = true) : eVar i ρ = some (.ok d, ρ) := by
  rw [eVar_ap, h]
  show (if d.fz = true then _ else _) = _
  rw [if_pos hz]
theorem cutD_to (xs : List D) (j : Nat) (h : j ≤ xs.length) : cutD xs none (some (j : Int)) = xs.take j := by
  unfold cutD
  rw [HT.sIx_nat, HT.sIx_none, Nat.min_eq_left h]; simp
theorem cutD_from (xs : List D) (i : Nat) (h : i ≤ xs.length) : cutD xs (some (i : Int)) none = xs.drop i := by
  unfold cutD
  rw [HT.sIx_nat, HT.sIx_none, Nat.min_eq_left h]
  rw [List.take_of_length_le (by simp)]
theorem cutD_mid (xs : List D) (i j : Nat) (h : i ≤ xs.length) (h2 : j ≤ xs.length) : cutD xs (some (i : Int)) (some (j : Int)) = (xs.drop i).take (j - i) := by
  unfold cutD
  rw [HT.sIx_nat, HT.sIx_nat, Nat.min_eq_left h, Nat.min_eq_left h2]
theorem ixB_nat (xs : List D) (i : Nat) (h : i < xs.length) : ixB xs (i : Int) = xs[i]? := by
  have h1 : (0 : Int) ≤ i := by omega
  have h2 : (i : Int) < xs.length := by omega
  simp only [ixB, ixN, h1, h2, if_true, Int.toNat_natCast]
theorem sRet_run {f : EV} {ρ ρ1 : En} {d : D} (h : f ρ = some (.ok d, ρ1)) : sRet f ρ = some (.rt d, ρ1) := by
  rw [sRet_ap, sE_ap, h]
theorem sIf_t {t : TV} {f g : SV} {ρ ρ1 : En} (h : t ρ = some (.ok true, ρ1)) : sIf t f g ρ = f ρ1 := by
  rw [sIf_ap, sT_ap, h]; rfl
theorem sIf_f {t : TV} {f g : SV} {ρ ρ1 : En} (h : t ρ = some (.ok false, ρ1)) : sIf t f g ρ = g ρ1 := by
  rw [sIf_ap, sT_ap, h]; rfl
theorem tE_run {f : EV} {ρ ρ1 : En} {b : Bool} (h : f ρ = some (.ok (.bl b), ρ1)) : tE f ρ = some (.ok b, ρ1) := by
  rw [tE_ap, bd_ap, h]; rfl
theorem tOr2_f {f g : TV} {ρ ρ1 : En} {r : Option (Rs Bool × En)} (h : f ρ = some (.ok false, ρ1)) (h2 : g ρ1 = r) : tOr2 f g ρ = r := by
  rw [tOr2_ap, bd_ap, h]; exact h2
theorem tOr2_t {f g : TV} {ρ ρ1 : En} (h : f ρ = some (.ok true, ρ1)) : tOr2 f g ρ = some (.ok true, ρ1) := by
  rw [tOr2_ap, bd_ap, h]; rfl
theorem tAnd2_t {f g : TV} {ρ ρ1 : En} {r : Option (Rs Bool × En)} (h : f ρ = some (.ok true, ρ1)) (h2 : g ρ1 = r) : tAnd2 f g ρ = r := by
  rw [tAnd2_ap, bd_ap, h]; exact h2
theorem tAnd2_f {f g : TV} {ρ ρ1 : En} (h : f ρ = some (.ok false, ρ1)) : tAnd2 f g ρ = some (.ok false, ρ1) := by
  rw [tAnd2_ap, bd_ap, h]; rfl
theorem tNot1_run {f : TV} {ρ ρ1 : En} {b : Bool} (h : f ρ = some (.ok b, ρ1)) : tNot1 f ρ = some (.ok (!b), ρ1) := by
  rw [tNot1_ap, bd_ap, h]
theorem eCall_run {n : Nat} {F : FV} {fa : LV} {ρ ρ1 ρ2 ρ3 : En} {as : List AV} {ds ds' : List D} {r : Rs D} (h : fa ρ = some (.ok as, ρ1)) (hn : as.length = n) (ht : takeA ρ1 as = some (ds, ρ2)) (hF : F ds = some (r, ds')) (hg : giveA ρ1 as ds' ρ2 = ρ3) : eCall n F fa ρ = some (r, ρ3) := by
  subst hg
  rw [eCall_ap, bd_ap, h]
  show (if as.length = n then finF F as ρ1 else none) = _
  rw [if_pos hn, finF_ap, ht]
  show (match F ds with
    | some (r, ds') => some (r, giveA ρ1 as ds' ρ2)
    | none => none) = _
  rw [hF]
theorem aCons_run {f : OV} {g : LV} {ρ ρ1 ρ2 : En} {a : AV} {as : List AV} (h : f ρ = some (.ok a, ρ1)) (h2 : g ρ1 = some (.ok as, ρ2)) : aCons f g ρ = some (.ok (a :: as), ρ2) := by
  rw [aCons_ap, bd_ap, h]
  show bd g _ ρ1 = _
  rw [bd_ap, h2]
theorem lCons_run {f : EV} {g : DV} {ρ ρ1 ρ2 : En} {a : D} {as : List D} (h : f ρ = some (.ok a, ρ1)) (h2 : g ρ1 = some (.ok as, ρ2)) : lCons f g ρ = some (.ok (fzd a :: as), ρ2) := by
  rw [lCons_ap, bd_ap, h]
  show bd g _ ρ1 = _
  rw [bd_ap, h2]
theorem lCons_runz {f : EV} {g : DV} {ρ ρ1 ρ2 : En} {a b : D} {as : List D} (h : f ρ = some (.ok a, ρ1)) (hz : fzd a = b) (h2 : g ρ1 = some (.ok as, ρ2)) : lCons f g ρ = some (.ok (b :: as), ρ2) := by
  subst hz; exact lCons_run h h2
theorem eAnd2_t {f g : EV} {ρ ρ1 : En} {r : Option (Rs D × En)} (h : f ρ = some (.ok (.bl true), ρ1)) (h2 : g ρ1 = r) : eAnd2 f g ρ = r := by
  rw [eAnd2_ap, h]; exact h2
theorem eAnd2_f {f g : EV} {ρ ρ1 : En} (h : f ρ = some (.ok (.bl false), ρ1)) : eAnd2 f g ρ = some (.ok (.bl false), ρ1) := by
  rw [eAnd2_ap, h]
theorem eOr2_f {f g : EV} {ρ ρ1 : En} {r : Option (Rs D × En)} (h : f ρ = some (.ok (.bl false), ρ1)) (h2 : g ρ1 = r) : eOr2 f g ρ = r := by
  rw [eOr2_ap, h]; exact h2
theorem eOr2_t {f g : EV} {ρ ρ1 : En} (h : f ρ = some (.ok (.bl true), ρ1)) : eOr2 f g ρ = some (.ok (.bl true), ρ1) := by
  rw [eOr2_ap, h]
theorem eNot1_run {f : EV} {ρ ρ1 : En} {b : Bool} (h : f ρ = some (.ok (.bl b), ρ1)) : eNot1 f ρ = some (.ok (.bl (!b)), ρ1) := by
  rw [eNot1_ap, h]
theorem eIf_t {t : TV} {f g : EV} {ρ ρ1 : En} {r : Option (Rs D × En)} (h : t ρ = some (.ok true, ρ1)) (h2 : f ρ1 = r) : eIf t f g ρ = r := by
  rw [eIf_ap, bd_ap, h]; exact h2
theorem eIf_f {t : TV} {f g : EV} {ρ ρ1 : En} {r : Option (Rs D × En)} (h : t ρ = some (.ok false, ρ1)) (h2 : g ρ1 = r) : eIf t f g ρ = r := by
  rw [eIf_ap, bd_ap, h]; exact h2
theorem eCh_t {g g' : D → D → Option D} {fa fb fc : OV} {ρ ρ1 ρ2 ρ3 : En} {a b c : AV} {da db dc d : D} (ha : fa ρ = some (.ok a, ρ1)) (hb : fb ρ1 = some (.ok b, ρ2)) (ra : res ρ2 a = some da) (rb : res ρ2 b = some db) (hg : g da db = some (.bl true))
    (hc : fc ρ2 = some (.ok c, ρ3)) (rb' : res ρ3 b = some db) (rc : res ρ3 c = some dc) (hg' : g' db dc = some d) : eCh g g' fa fb fc ρ = some (.ok d, ρ3) := by
  rw [eCh_ap, bd_ap, ha]
  show bd fb _ ρ1 = _
  rw [bd_ap, hb]
  show finC g g' a b fc ρ2 = _
  rw [finC_ap, ra, rb]
  show (match g da db with
    | some (.bl true) => bd fc (fun c => fin2 g' b c) ρ2
    | some (.bl false) => some (Rs.ok (D.bl false), ρ2)
    | _ => none) = _
  rw [hg]
  show bd fc (fun c => fin2 g' b c) ρ2 = _
  rw [bd_ap, hc]
  show fin2 g' b c ρ3 = _
  rw [fin2_ap, rb', rc]
  show (match g' db dc with
    | some e => some (Rs.ok e, ρ3)
    | none => none) = _
  rw [hg']
theorem eCh_f {g g' : D → D → Option D} {fa fb fc : OV} {ρ ρ1 ρ2 : En} {a b : AV} {da db : D} (ha : fa ρ = some (.ok a, ρ1)) (hb : fb ρ1 = some (.ok b, ρ2)) (ra : res ρ2 a = some da) (rb : res ρ2 b = some db) (hg : g da db = some (.bl false)) : eCh g g' fa fb fc ρ = some (.ok (.bl false), ρ2) := by
  rw [eCh_ap, bd_ap, ha]
  show bd fb _ ρ1 = _
  rw [bd_ap, hb]
  show finC g g' a b fc ρ2 = _
  rw [finC_ap, ra, rb]
  show (match g da db with
    | some (.bl true) => bd fc (fun c => fin2 g' b c) ρ2
    | some (.bl false) => some (Rs.ok (D.bl false), ρ2)
    | _ => none) = _
  rw [hg]
theorem iE_run {f : EV} {ρ ρ1 : En} {d : D} {ds : List D} (h : f ρ = some (.ok d, ρ1)) (hi : itemsD d = some ds) : iE f ρ = some (.ok ds, ρ1) := by
  rw [iE_ap, bd_ap, h]
  show (match itemsD d with
  | some ds => some (Rs.ok ds, ρ1)
  | none => none) = _
  rw [hi]
theorem bls_map (p : D → Bool) : ∀ (ds : List D), blsOf (ds.map fun d => .bl (p d)) = some (ds.map p)
  | [] => rfl
  | d :: ds => by simp only [List.map_cons, blsOf, bls_map p ds]
theorem all_map (p : D → Bool) (o : Bool) (ds : List D) : gAll (.lst o (ds.map fun d => .bl (p d))) = some (.bl (ds.all p)) := by
  simp only [gAll, bls_map]
  congr 2
  induction ds with
  | nil => rfl
  | cons d ds ih => simp [ih]
theorem iR1_run {fa : EV} {ρ ρ1 : En} {j : Int} {ds : List D} (h : fa ρ = some (.ok (.int j), ρ1)) (hr : rngD 0 j = some ds) : iR1 fa ρ = some (.ok ds, ρ1) := by
  unfold iR1
  rw [bd_ap, h]
  show (match rngD 0 j with
    | some ds => some (Rs.ok ds, ρ1)
    | none => none) = _
  rw [hr]
theorem iR2_run {fa fb : EV} {ρ ρ1 ρ2 : En} {i j : Int} {ds : List D} (h : fa ρ = some (.ok (.int i), ρ1)) (h2 : fb ρ1 = some (.ok (.int j), ρ2)) (hr : rngD i j = some ds) : iR2 fa fb ρ = some (.ok ds, ρ2) := by
  unfold iR2
  rw [bd_ap, h]
  show bd fb _ ρ1 = _
  rw [bd_ap, h2]
  show (match rngD i j with
    | some ds => some (Rs.ok ds, ρ2)
    | none => none) = _
  rw [hr]
theorem eLc_run {vs : List Nat} {fi : DV} {g : GV} {t : TV} {fe : EV} {ρ ρ1 ρ' : En} {ds acc : List D} (hi : fi ρ = some (.ok ds, ρ1)) (hs : ds.length ≤ sizeLine) (hgo : lcGo vs g t fe ds [] (wipeE ρ1 vs) = some (acc, ρ')) : eLc vs fi g t fe ρ = some (.ok (.lst true acc), ρ') := by
  unfold eLc
  rw [bd_ap, hi]
  show (if ds.length ≤ sizeLine then _ else none) = _
  rw [if_pos hs, hgo]
theorem sApp_run {i : Nat} {f : EV} {ρ ρ1 : En} {o : Bool} {xs ys : List D} {d : D} (h1 : look ρ i = some (.lst o xs)) (h2 : f ρ = some (.ok d, ρ1)) (h3 : look ρ1 i = some (.lst true ys)) (hs : ys.length < sizeLine) : sApp i f ρ = some (.nx, put ρ1 i (.lst true (ys ++ [fzd d]))) := by
  unfold sApp
  rw [h1]
  show sE f _ ρ = _
  rw [sE_ap, h2]
  show (match look ρ1 i with
    | some (.lst true xs) => if xs.length < sizeLine then some (Fl.nx, put ρ1 i (.lst true (xs ++ [fzd d]))) else none
    | _ => none) = _
  rw [h3]
  show (if ys.length < sizeLine then _ else none) = _
  rw [if_pos hs]
theorem eTup_run {g : DV} {ρ ρ1 : En} {ds : List D} (h : g ρ = some (.ok ds, ρ1)) (hs : ds.length ≤ 1000) : eTup g ρ = some (.ok (.tup ds), ρ1) := by
  unfold eTup
  rw [bd_ap, h]
  show (if ds.length ≤ sizeLine then _ else none) = _
  rw [if_pos (Nat.le_trans hs (by decide))]
theorem eLst_run {g : DV} {ρ ρ1 : En} {ds : List D} (h : g ρ = some (.ok ds, ρ1)) (hs : ds.length ≤ 1000) : eLst g ρ = some (.ok (.lst true ds), ρ1) := by
  unfold eLst
  rw [bd_ap, h]
  show (if ds.length ≤ sizeLine then _ else none) = _
  rw [if_pos (Nat.le_trans hs (by decide))]
theorem gAdd_tt {xs ys : List D} (h : xs.length + ys.length ≤ 1000) : gAdd (.tup xs) (.tup ys) = some (.tup (xs ++ ys)) := by
  show (if xs.length + ys.length ≤ sizeLine then _ else none) = _
  rw [if_pos (Nat.le_trans h (by decide))]
theorem gAdd_ll {o o' : Bool} {xs ys : List D} (h : xs.length + ys.length ≤ 1000) : gAdd (.lst o xs) (.lst o' ys) = some (.lst true (xs ++ ys)) := by
  show (if xs.length + ys.length ≤ sizeLine then _ else none) = _
  rw [if_pos (Nat.le_trans h (by decide))]
/-- a comprehension that keeps its state, by a function of the item -/
theorem lcGo_map {vs : List Nat} {g : GV} {t : TV} {fe : EV} {ρ : En} (h : D → D) : ∀ (ds acc : List D), (∀ d ∈ ds, ∃ ρ1 ρ2 ρ3 e, g d ρ = some ρ1 ∧ t ρ1 = some (.ok true, ρ2) ∧ fe ρ2 = some (.ok e, ρ3) ∧ fzd e = h d ∧ wipeE ρ3 vs = ρ) → lcGo vs g t fe ds acc ρ = some (acc ++ ds.map h, ρ)
  | [], acc, _ => by simp [lcGo]
  | d :: ds, acc, H => by
    obtain ⟨ρ1, ρ2, ρ3, e, h1, h2, h3, h4, h5⟩ := H d List.mem_cons_self
    simp only [lcGo, h1, h2, h3, h4, h5]
    rw [lcGo_map h ds _ fun d hd => H d (List.mem_cons_of_mem _ hd)]
    simp
/-- a comprehension with a test -/
theorem lcGo_filt {vs : List Nat} {g : GV} {t : TV} {fe : EV} {ρ : En} (p : D → Bool) (h : D → D) : ∀ (ds acc : List D), (∀ d ∈ ds, ∃ ρ1 ρ2, g d ρ = some ρ1 ∧ t ρ1 = some (.ok (p d), ρ2) ∧ (p d = false → wipeE ρ2 vs = ρ) ∧ (p d = true → ∃ ρ3 e, fe ρ2 = some (.ok e, ρ3) ∧ fzd e = h d ∧ wipeE ρ3 vs = ρ)) → lcGo vs g t fe ds acc ρ = some (acc ++ (ds.filter p).map h, ρ)
  | [], acc, _ => by simp [lcGo]
  | d :: ds, acc, H => by
    obtain ⟨ρ1, ρ2, h1, h2, h3, h4⟩ := H d List.mem_cons_self
    have ih := fun acc => lcGo_filt p h ds acc fun d hd => H d (List.mem_cons_of_mem _ hd)
    cases hp : p d
    · simp only [lcGo, h1, h2, hp, h3 hp]
      rw [ih]; simp [hp]
    · obtain ⟨ρ3, e, h5, h6, h7⟩ := h4 hp
      simp only [lcGo, h1, h2, hp, h5, h6, h7]
      rw [ih]; simp [hp]
@[simp] theorem gAdd_i (i j : Int) : gAdd (.int i) (.int j) = some (.int (i + j)) := rfl
@[simp] theorem gSub_i (i j : Int) : gSub (.int i) (.int j) = some (.int (i - j)) := rfl
@[simp] theorem gGt_i (i j : Int) : gGt (.int i) (.int j) = some (.bl (decide (j < i))) := rfl
@[simp] theorem gGe_i (i j : Int) : gGe (.int i) (.int j) = some (.bl (decide (j ≤ i))) := rfl
@[simp] theorem gLt_i (i j : Int) : gLt (.int i) (.int j) = some (.bl (decide (i < j))) := rfl
@[simp] theorem gLe_i (i j : Int) : gLe (.int i) (.int j) = some (.bl (decide (i ≤ j))) := rfl
@[simp] theorem gEq_i (i j : Int) : gEq (.int i) (.int j) = some (.bl (i == j)) := rfl
@[simp] theorem gNe_i (i j : Int) : gNe (.int i) (.int j) = some (.bl (!(i == j))) := rfl
@[simp] theorem gIs_b (i j : Bool) : gIs (.bl i) (.bl j) = some (.bl (decide (i = j))) := rfl
@[simp] theorem gIsN_b (i j : Bool) : gIsN (.bl i) (.bl j) = some (.bl (!decide (i = j))) := rfl
@[simp] theorem gLen_l (o : Bool) (xs : List D) : gLen (.lst o xs) = some (.int xs.length) := rfl
@[simp] theorem gLen_t (xs : List D) : gLen (.tup xs) = some (.int xs.length) := rfl
@[simp] theorem gLen_k (xs : List D) : gLen (.lck xs) = some (.int xs.length) := rfl
@[simp] theorem fz_non : D.fz .non = true := rfl
@[simp] theorem fz_bl (b : Bool) : D.fz (.bl b) = true := rfl
@[simp] theorem fz_int (b : Int) : D.fz (.int b) = true := rfl
@[simp] theorem fz_str (b : Str) : D.fz (.str b) = true := rfl
@[simp] theorem fz_tup (b : List D) : D.fz (.tup b) = true := rfl
@[simp] theorem fz_lck (b : List D) : D.fz (.lck b) = true := rfl
@[simp] theorem fz_lst (o : Bool) (b : List D) : D.fz (.lst o b) = !o := rfl
@[simp] theorem fzd_of {d : D} (h : d.fz = true) : fzd d = d := by simp [fzd, h]
@[simp] theorem fzd_lst (o : Bool) (xs : List D) : fzd (.lst o xs) = .lst false xs := by cases o <;> rfl
@[simp] theorem frz_lst (o : Bool) (xs : List D) : D.frz (.lst o xs) = .lst false xs := by simp only [D.frz]
@[simp] theorem mkSl_fz {d : D} (h : d.fz = true) : mkSl d = .val d := by simp [mkSl, h]
theorem backs2_fz : ∀ {ds : List D} {ρ : En}, (∀ d ∈ ds, d.fz = true) → ds.length ≤ ρ.length → backs2 ds ρ = some ds
  | [], _, _, _ => by simp [backs2]
  | d :: ds, [], _, h => by simp at h
  | d :: ds, s :: ρ, h, hl => by
    simp only [backs2]
    rw [backs2_fz (fun d hd => h d (List.mem_cons_of_mem _ hd)) (by simpa using hl)]
    simp [h d List.mem_cons_self]
/-- a function of frozen values that returns -/
theorem fnD_rt {n m : Nat} {body : SV} {ds : List D} {d : D} {ρ' : En} (hn : ds.length = n) (hf : ∀ d ∈ ds, d.fz = true) (hb : body (ds.map .val ++ List.replicate (m - n) .no) = some (.rt d, ρ')) (hl : ds.length ≤ ρ'.length) : fnD n m body ds = some (.ok d, ds) := by
  have e : ds.map mkSl = ds.map .val := List.map_congr_left fun d hd => mkSl_fz (hf d hd)
  simp [fnD, hn, e, hb, backs2_fz hf hl]
end L2.Ev
namespace L2.Ev.W
open PySem PySem.Spec PyProof.Rows
def b__law_drawn : SV :=
  (sSeq (sAsg (gtN 3) (e2 gMul (oE (eC (.int 7))) (oSlot 1)))
  (sSeq (sIf (tE (e2 gNe (oSlot 0) (oE (eLst lNil)))) (sSeq (sAsg (gtN 3) (e2 gIx (oSlot 0) (oE (e2 gMod (oSlot 1) (oE (e1 gLen (oSlot 0)))))))
  (sSeq (sAsg (gtN 4) (e2 gFdiv (oSlot 1) (oE (e1 gLen (oSlot 0)))))
  (sSeq (sIf (tAnd2 (tE (e2 gGe (oSlot 3) (oE (e2 gPow (oE (eC (.int 10))) (oE (eC (.int 18))))))) (tE (e2 gLt (oSlot 4) (oE (eC (.int 60)))))) (sSeq (sAsg (gtN 5) (e2 gFdiv (oSlot 3) (oE (e2 gPow (oE (eC (.int 10))) (oE (eC (.int 18)))))))
  (sSeq (sWhile (tAnd2 (tE (e2 gGt (oSlot 5) (oE (eC (.int 0))))) (tE (e2 gGt (oSlot 4) (oE (eC (.int 0)))))) (sSeq (sAsg (gtN 5) (e2 gFdiv (oSlot 5) (oE (eC (.int 1000000)))))
  (sAsg (gtN 4) (e2 gSub (oSlot 4) (oE (eC (.int 1)))))) 100)
  (sIf (tE (e2 gGt (oSlot 5) (oE (eC (.int 0))))) (sRet (e2 gMod (oE (e2 gMod (oSlot 5) (oE (eC (.int 1000000))))) (oSlot 2))) sNil))) sNil)
  (sAsg (gtN 3) (e2 gAdd (oSlot 3) (oE (e2 gMul (oE (eC (.int 6553))) (oE (e2 gFdiv (oSlot 1) (oE (e1 gLen (oSlot 0)))))))))))) sNil)
  (sSeq (sAsg (gtN 3) (e2 gMod (oE (e2 gAdd (oE (e2 gMul (oE (e2 gMod (oSlot 3) (oE (eC (.int 2147483563))))) (oE (eC (.int 69069))))) (oE (e2 gMul (oE (eC (.int 104723))) (oE (e2 gAdd (oSlot 1) (oE (eC (.int 1))))))))) (oE (eC (.int 2147483563)))))
  (sSeq (sAsg (gtN 3) (e2 gMod (oE (e2 gAdd (oE (e2 gMul (oSlot 3) (oSlot 3))) (oE (e2 gFdiv (oSlot 3) (oE (eC (.int 3))))))) (oE (eC (.int 2147483399)))))
  (sRet (e2 gMod (oE (e2 gFdiv (oE (e2 gMod (oE (e2 gAdd (oE (e2 gMul (oSlot 3) (oSlot 3))) (oE (e2 gFdiv (oSlot 3) (oE (eC (.int 7))))))) (oE (eC (.int 2147483647))))) (oE (eC (.int 11))))) (oSlot 2)))))))
def f__law_drawn : FV := fnD 3 6 b__law_drawn
def b__law_names : SV :=
  (sSeq (sAsg (gtN 3) (eC (.str "abcdefghijklmnopqrstuvwxyz")))
  (sSeq (sAsg (gtN 4) (eLst lNil))
  (sSeq (sFor (iR1 (eVar 2)) (gtN 5) (sSeq (sAsg (gtN 6) (e2 gAdd (oSlot 1) (oE (e2 gMul (oE (eC (.int 4))) (oSlot 5)))))
  (sSeq (sAsg (gtN 7) (e2 gAdd (oE (eC (.int 1))) (oE (eCall 3 f__law_drawn (aCons (oSlot 0) (aCons (oSlot 6) (aCons (oE (eC (.int 3))) aNil)))))))
  (sSeq (sAsg (gtN 8) (e2 gJoin (oStr (eC (.str ""))) (oE (eLc [9] (iR1 (eVar 7)) (gtN 9) tYesV (e2 gIx (oSlot 3) (oE (eCall 3 f__law_drawn (aCons (oSlot 0) (aCons (oE (e2 gAdd (oE (e2 gAdd (oSlot 6) (oE (eC (.int 1))))) (oSlot 9))) (aCons (oE (eC (.int 26))) aNil))))))))))
  (sSeq (sWhile (tE (e2 gIn (oSlot 8) (oSlot 4))) (sAsg (gtN 8) (eIf (tE (e2 gLt (oE (e1 gLen (oSlot 8))) (oE (eC (.int 6))))) (e2 gAdd (oSlot 8) (oE (e2 gIx (oSlot 3) (oE (e2 gMod (oE (e1 gLen (oSlot 4))) (oE (eC (.int 26)))))))) (e2 gAdd (oE (e2 gIx (oSlot 3) (oSlot 5))) (oE (e2 gIx (oSlot 3) (oE (e2 gMod (oE (e1 gLen (oSlot 4))) (oE (eC (.int 26)))))))))) 100)
  (sApp 4 (eVar 8)))))))
  (sRetV 4))))
def f__law_names : FV := fnD 3 10 b__law_names
def b__law_sides : SV :=
  (sSeq (sPar 2 3 (lCons (e2 gAdd (oE (eC (.int 6))) (oE (eCall 3 f__law_drawn (aCons (oSlot 0) (aCons (oSlot 1) (aCons (oE (eC (.int 4))) aNil)))))) (lCons (e2 gAdd (oE (eC (.int 6))) (oE (eCall 3 f__law_drawn (aCons (oSlot 0) (aCons (oE (e2 gAdd (oSlot 1) (oE (eC (.int 1))))) (aCons (oE (eC (.int 3))) aNil)))))) lNil)))
  (sSeq (sAsg (gtN 4) (eCall 3 f__law_names (aCons (oSlot 0) (aCons (oE (e2 gAdd (oSlot 1) (oE (eC (.int 2))))) (aCons (oE (e2 gAdd (oE (e2 gAdd (oSlot 2) (oSlot 3))) (oE (eC (.int 6))))) aNil)))))
  (sSeq (sAsg (gtN 5) (eTup (lCons (e1 gTuple (oE (eSl (oSlot 4) pNo (pAt (eVar 2))))) (lCons (e2 gIx (oSlot 4) (oSlot 2)) lNil))))
  (sSeq (sAsg (gtN 6) (eTup (lCons (e1 gTuple (oE (eSl (oSlot 4) (pAt (e2 gAdd (oSlot 2) (oE (eC (.int 1))))) (pAt (e2 gAdd (oE (e2 gAdd (oSlot 2) (oE (eC (.int 1))))) (oSlot 3)))))) (lCons (e2 gIx (oSlot 4) (oE (e2 gAdd (oE (e2 gAdd (oSlot 2) (oE (eC (.int 1))))) (oSlot 3)))) lNil))))
  (sRet (eTup (lCons (eVar 5) (lCons (eVar 6) (lCons (eSl (oSlot 4) (pAt (e2 gAdd (oE (e2 gAdd (oSlot 2) (oE (eC (.int 2))))) (oSlot 3))) pNo) lNil)))))))))
def f__law_sides : FV := fnD 2 7 b__law_sides
def b_is_name : SV :=
  (sRet (eAnd2 (e1 (gIsi "str") (oSlot 0)) (eAnd2 (eCh gLe gLe (oE (eC (.int 1))) (oE (e1 gLen (oSlot 0))) (oE (eC (.int 6)))) (e1 gAll (oE (eLc [1] (iE (eVar 0)) (gtN 1) tYesV (e2 gIn (oSlot 1) (oE (eC (.str "abcdefghijklmnopqrstuvwxyz"))))))))))
def f_is_name : FV := fnD 1 2 b_is_name
def b_is_side : SV :=
  (sSeq (sIf (tOr2 (tNot1 (tE (e1 (gIsi "tuple") (oSlot 0)))) (tOr2 (tE (e2 gNe (oE (e1 gLen (oSlot 0))) (oE (eC (.int 2))))) (tNot1 (tE (e1 (gIsi "tuple") (oE (e2 gIx (oSlot 0) (oE (eC (.int 0)))))))))) (sRet (eC (.bl false))) sNil)
  (sSeq (sIf (tOr2 (tNot1 (tE (eCh gLe gLe (oE (eC (.int 6))) (oE (e1 gLen (oE (e2 gIx (oSlot 0) (oE (eC (.int 0))))))) (oE (eC (.int 9)))))) (tOr2 (tNot1 (tE (e1 gAll (oE (eLc [1] (iE (e2 gIx (oSlot 0) (oE (eC (.int 0))))) (gtN 1) tYesV (eCall 1 f_is_name (aCons (oSlot 1) aNil))))))) (tNot1 (tE (eCall 1 f_is_name (aCons (oE (e2 gIx (oSlot 0) (oE (eC (.int 1))))) aNil)))))) (sRet (eC (.bl false))) sNil)
  (sRet (e2 gEq (oE (e1 gLenSet (oE (e2 gAdd (oE (e2 gIx (oSlot 0) (oE (eC (.int 0))))) (oE (eTup (lCons (e2 gIx (oSlot 0) (oE (eC (.int 1)))) lNil))))))) (oE (e2 gAdd (oE (e1 gLen (oE (e2 gIx (oSlot 0) (oE (eC (.int 0))))))) (oE (eC (.int 1)))))))))
def f_is_side : FV := fnD 1 2 b_is_side
def b_is_bases : SV :=
  (sSeq (sIf (tOr2 (tNot1 (tE (e1 (gIsi "tuple") (oSlot 0)))) (tE (e2 gNe (oE (e1 gLen (oSlot 0))) (oE (eC (.int 3)))))) (sRet (eC (.bl false))) sNil)
  (sSeq (sAsg (gtN 1) (eLc [2] (iE (eVar 0)) (gtN 2) (tE (e2 gIsN (oSlot 2) (oE (eC .non)))) (eVar 2)))
  (sRet (eAnd2 (e1 gAll (oE (eLc [3] (iE (eVar 1)) (gtN 3) tYesV (eCall 1 f_is_name (aCons (oSlot 3) aNil))))) (e2 gEq (oE (e1 gLenSet (oSlot 1))) (oE (e1 gLen (oSlot 1))))))))
def f_is_bases : FV := fnD 1 4 b_is_bases
def b_law : SV :=
  (sSeq (sAsg (gtT 3 (gtCons (gtN 1) (gtCons (gtN 2) (gtCons (gtN 3) gtNil)))) (eCall 2 f__law_sides (aCons (oSlot 0) (aCons (oE (eC (.int 0))) aNil))))
  (sSeq (sIf (tOr2 (tE (e2 gIsN (oE (eCall 1 f_is_side (aCons (oSlot 1) aNil))) (oE (eC (.bl true))))) (tE (e2 gIsN (oE (eCall 1 f_is_side (aCons (oSlot 2) aNil))) (oE (eC (.bl true)))))) (sRet (eC (.bl false))) sNil)
  (sSeq (sAsg (gtT 2 (gtCons (gtN 4) (gtCons (gtN 5) gtNil))) (eVar 1))
  (sSeq (sAsg (gtN 6) (eLst (lCons (eC .non) (lCons (e1 gList (oSlot 1)) (lCons (eTup (lCons (eVar 4) lNil)) (lCons (eTup (lCons (e1 gList (oSlot 4)) (lCons (eVar 5) lNil))) (lCons (eTup (lCons (eSl (oSlot 4) pNo (pAt (eC (.int 5)))) (lCons (eVar 5) lNil))) lNil)))))))
  (sSeq (sAsg (gtN 6) (e2 gAdd (oSlot 6) (oE (eLst (lCons (eTup (lCons (e2 gAdd (oSlot 4) (oE (eSl (oSlot 4) pNo (pAt (eC (.int 1)))))) (lCons (eVar 5) lNil))) (lCons (eTup (lCons (eVar 4) (lCons (e2 gIx (oSlot 4) (oE (eC (.int 2)))) lNil))) (lCons (eTup (lCons (eVar 4) (lCons (eC .non) lNil))) lNil)))))))
  (sSeq (sAsg (gtN 6) (e2 gAdd (oSlot 6) (oE (eLst (lCons (eTup (lCons (e2 gAdd (oE (eSl (oSlot 4) pNo (pAt (eC (.int 5))))) (oE (eTup (lCons (eC (.str "Ann")) lNil)))) (lCons (eVar 5) lNil))) (lCons (eTup (lCons (e2 gAdd (oE (eSl (oSlot 4) pNo (pAt (eC (.int 5))))) (oE (eTup (lCons (eC (.str "")) lNil)))) (lCons (eVar 5) lNil))) (lCons (eTup (lCons (e2 gAdd (oE (eSl (oSlot 4) pNo (pAt (eC (.int 5))))) (oE (eTup (lCons (eC (.int 7)) lNil)))) (lCons (eVar 5) lNil))) lNil)))))))
  (sSeq (sAsg (gtN 6) (e2 gAdd (oSlot 6) (oE (eLst (lCons (eTup (lCons (eVar 4) (lCons (eC (.str "abcdefg")) lNil))) (lCons (eTup (lCons (eVar 4) (lCons (eVar 5) (lCons (eVar 5) lNil)))) lNil))))))
  (sSeq (sAsg (gtN 6) (e2 gAdd (oSlot 6) (oE (eLst (lCons (eTup (lCons (eTup (lCons (eC (.str "a")) (lCons (eC (.str "b")) (lCons (eC (.str "c")) (lCons (eC (.str "d")) (lCons (eC (.str "e")) (lCons (eC (.str "f")) (lCons (eC (.str "g")) (lCons (eC (.str "h")) (lCons (eC (.str "i")) (lCons (eC (.str "j")) lNil))))))))))) (lCons (eC (.str "k")) lNil))) lNil)))))
  (sSeq (sAsg (gtN 6) (e2 gAdd (oSlot 6) (oE (eLst (lCons (eTup (lCons (e2 gAdd (oE (eSl (oSlot 4) pNo (pAt (eC (.int 5))))) (oE (eTup (lCons (eC .non) lNil)))) (lCons (eVar 5) lNil))) (lCons (eC (.str "ann")) (lCons (eTup (lCons (eTup lNil) (lCons (eC (.str "a")) lNil))) lNil)))))))
  (sSeq (sIf (tE (e2 gNe (oE (eLc [7] (iE (eVar 6)) (gtN 7) (tE (e2 gIsN (oE (eCall 1 f_is_side (aCons (oSlot 7) aNil))) (oE (eC (.bl false))))) (eVar 7))) (oE (eLst lNil)))) (sRet (eC (.bl false))) sNil)
  (sSeq (sAsg (gtN 8) (e2 gIx (oE (eLst (lCons (eC .non) (lCons (e2 gIx (oSlot 4) (oE (eCall 3 f__law_drawn (aCons (oSlot 0) (aCons (oE (eC (.int 100))) (aCons (oE (e1 gLen (oSlot 4))) aNil)))))) (lCons (eC .non) (lCons (eVar 5) lNil)))))) (oE (eCall 3 f__law_drawn (aCons (oSlot 0) (aCons (oE (eC (.int 101))) (aCons (oE (eC (.int 4))) aNil)))))))
  (sSeq (sAsg (gtN 9) (eTup (lCons (eVar 8) (lCons (eC .non) (lCons (e2 gIx (oSlot 2) (oE (eC (.int 1)))) lNil)))))
  (sSeq (sIf (tOr2 (tE (e2 gIsN (oE (eCall 1 f_is_bases (aCons (oSlot 9) aNil))) (oE (eC (.bl true))))) (tE (e2 gIsN (oE (eCall 1 f_is_bases (aCons (oE (eTup (lCons (eC .non) (lCons (eC .non) (lCons (eC .non) lNil))))) aNil))) (oE (eC (.bl true)))))) (sRet (eC (.bl false))) sNil)
  (sSeq (sIf (tE (e2 gIsN (oE (eCall 1 f_is_bases (aCons (oE (eSl (oSlot 4) pNo (pAt (eC (.int 3))))) aNil))) (oE (eC (.bl true))))) (sRet (eC (.bl false))) sNil)
  (sSeq (sAsg (gtN 10) (eLst (lCons (eC .non) (lCons (eTup (lCons (eC .non) (lCons (eC .non) lNil))) (lCons (e2 gMul (oE (eTup (lCons (eC .non) lNil))) (oE (eC (.int 4)))) (lCons (eLst (lCons (eC (.str "a")) (lCons (eC .non) (lCons (eC .non) lNil)))) (lCons (eTup (lCons (eC (.str "a")) (lCons (eC (.str "a")) (lCons (eC .non) lNil)))) lNil)))))))
  (sSeq (sAsg (gtN 10) (e2 gAdd (oSlot 10) (oE (eLst (lCons (eTup (lCons (eC (.str "a")) (lCons (eC .non) (lCons (eC (.str "a")) lNil)))) (lCons (eTup (lCons (eC (.str "A")) (lCons (eC .non) (lCons (eC .non) lNil)))) (lCons (eTup (lCons (eC (.int 1)) (lCons (eC .non) (lCons (eC .non) lNil)))) lNil)))))))
  (sSeq (sAsg (gtN 10) (e2 gAdd (oSlot 10) (oE (eLst (lCons (eTup (lCons (eC (.str "")) (lCons (eC .non) (lCons (eC .non) lNil)))) (lCons (eTup (lCons (eC .non) (lCons (eC .non) (lCons (eC (.str "abcdefg")) lNil)))) (lCons (eTup (lCons (eC .non) (lCons (eC .non) (lCons (eTup (lCons (eC (.str "a")) lNil)) lNil)))) (lCons (eC (.str "abc")) lNil))))))))
  (sSeq (sAsg (gtN 10) (e2 gAdd (oSlot 10) (oE (eLst (lCons (eTup (lCons (eC .non) (lCons (eC (.bl true)) (lCons (eC .non) lNil)))) lNil)))))
  (sSeq (sIf (tE (e2 gNe (oE (eLc [7] (iE (eVar 10)) (gtN 7) (tE (e2 gIsN (oE (eCall 1 f_is_bases (aCons (oSlot 7) aNil))) (oE (eC (.bl false))))) (eVar 7))) (oE (eLst lNil)))) (sRet (eC (.bl false))) sNil)
  (sSeq (sIf (tNot1 (tE (e2 gIs (oE (eCall 1 f_is_side (aCons (oE (eTup (lCons (eTup (lCons (eC (.str "a")) (lCons (eC (.str "b")) (lCons (eC (.str "c")) (lCons (eC (.str "d")) (lCons (eC (.str "e")) (lCons (eC (.str "f")) (lCons (eC (.str "g")) (lCons (eC (.str "h")) (lCons (eC (.str "zzzzzz")) lNil)))))))))) (lCons (eC (.str "i")) lNil)))) aNil))) (oE (eC (.bl true)))))) (sRet (eC (.bl false))) sNil)
  (sRet (eCall 1 f_is_side (aCons (oE (eTup (lCons (eTup (lCons (eC (.str "a")) (lCons (eC (.str "b")) (lCons (eC (.str "c")) (lCons (eC (.str "d")) (lCons (eC (.str "e")) (lCons (eC (.str "f")) lNil))))))) (lCons (eC (.str "abcdef")) lNil)))) aNil)))))))))))))))))))))))
def f_law : FV := fnD 1 11 b_law
end L2.Ev.W
namespace L2.Ev.W
open PySem PySem.Spec PyProof.Rows
def topS (i : Nat) : Stmt := PySem.Challenge.pw_diamondbook_k01_sides.main.body.getD i (.Pass ⟨0, 0, 0, 0⟩)
abbrev s__law_drawn : Stmt := topS 6
abbrev s__law_names : Stmt := topS 7
abbrev s__law_sides : Stmt := topS 8
abbrev s_is_name : Stmt := topS 2
abbrev s_is_side : Stmt := topS 3
abbrev s_is_bases : Stmt := topS 4
abbrev s_law : Stmt := topS 9
/-- what the top has left -/
structure Txt (g : GC) : Prop where
  n_all : g.mg "all" = none
  n_isinstance : g.mg "isinstance" = none
  n_len : g.mg "len" = none
  n_list : g.mg "list" = none
  n_range : g.mg "range" = none
  n_set : g.mg "set" = none
  n_str : g.mg "str" = none
  n_tuple : g.mg "tuple" = none
  v_LETTERS : ∃ t, g.mg "LETTERS" = some (.str "abcdefghijklmnopqrstuvwxyz" t)
  F__law_drawn : FnT g "_law_drawn" s__law_drawn ["script", "k", "many"]
  F__law_names : FnT g "_law_names" s__law_names ["script", "at", "many"]
  F__law_sides : FnT g "_law_sides" s__law_sides ["script", "at"]
  F_is_name : FnT g "is_name" s_is_name ["thing"]
  F_is_side : FnT g "is_side" s_is_side ["thing"]
  F_is_bases : FnT g "is_bases" s_is_bases ["thing"]
  F_law : FnT g "law" s_law ["script"]
/-! ### _law_drawn -/
abbrev N__law_drawn : List Str := ["script", "k", "many", "cell", "turn", "rest"]
abbrev S__law_drawn (g : GC) : Sc := ⟨g, N__law_drawn, defScope s__law_drawn, 0, fun _ => true, true⟩
theorem nd__law_drawn : N__law_drawn.Nodup := by decide +kernel
theorem d__law_drawn {g : GC} (T : Txt g) : SSs (S__law_drawn g) (defBody s__law_drawn) b__law_drawn :=
  (sss_cons (ss_set (i := 3) (se_mul (so_e se_int) (so_v 1)) nd__law_drawn)
  (sss_cons (ss_if (st_cmp ne_rr (so_v 0) (so_e (se_lst sl_nil)) (nomark _)) (sss_cons (ss_set (i := 3) (se_ix (so_v 0) (so_e (se_mod (so_v 1) (so_e (se_len T.n_len (so_v 0)))))) nd__law_drawn)
  (sss_cons (ss_set (i := 4) (se_fdiv (so_v 1) (so_e (se_len T.n_len (so_v 0)))) nd__law_drawn)
  (sss_cons (ss_if (st_w (sw_and (st_cmp ge_rr (so_v 3) (so_e (se_pow (so_e se_int) (so_e se_int))) (nomark _)) (sw_and1 (st_cmp lt_rr (so_v 4) (so_e se_int) (nomark _))))) (sss_cons (ss_set (i := 5) (se_fdiv (so_v 3) (so_e (se_pow (so_e se_int) (so_e se_int)))) nd__law_drawn)
  (sss_cons (ss_while 100 (st_w (sw_and (st_cmp gt_rr (so_v 5) (so_e se_int) (nomark _)) (sw_and1 (st_cmp gt_rr (so_v 4) (so_e se_int) (nomark _))))) (sss_cons (ss_set (i := 5) (se_fdiv (so_v 5) (so_e se_int)) nd__law_drawn)
  (sss_one (ss_set (i := 4) (se_sub (so_v 4) (so_e se_int)) nd__law_drawn))))
  (sss_one (ss_if (st_cmp gt_rr (so_v 5) (so_e se_int) (nomark _)) (sss_one (ss_ret (se_mod (so_e (se_mod (so_v 5) (so_e se_int))) (so_v 2)))) sss_nil)))) sss_nil)
  (sss_one (ss_set (i := 3) (se_add (so_v 3) (so_e (se_mul (so_e se_int) (so_e (se_fdiv (so_v 1) (so_e (se_len T.n_len (so_v 0)))))))) nd__law_drawn))))) sss_nil)
  (sss_cons (ss_set (i := 3) (se_mod (so_e (se_add (so_e (se_mul (so_e (se_mod (so_v 3) (so_e se_int))) (so_e se_int))) (so_e (se_mul (so_e se_int) (so_e (se_add (so_v 1) (so_e se_int))))))) (so_e se_int)) nd__law_drawn)
  (sss_cons (ss_set (i := 3) (se_mod (so_e (se_add (so_e (se_mul (so_v 3) (so_v 3))) (so_e (se_fdiv (so_v 3) (so_e se_int))))) (so_e se_int)) nd__law_drawn)
  (sss_one (ss_ret (se_mod (so_e (se_fdiv (so_e (se_mod (so_e (se_add (so_e (se_mul (so_v 3) (so_v 3))) (so_e (se_fdiv (so_v 3) (so_e se_int))))) (so_e se_int))) (so_e se_int))) (so_v 2))))))))
theorem sc__law_drawn : FnScope N__law_drawn ["script", "k", "many"] (defScope s__law_drawn) := ⟨rfl, rfl, rfl, by decide +kernel, rfl, by decide +kernel, by decide +kernel⟩
theorem ok__law_drawn {g : GC} (T : Txt g) : FnS g 1 "_law_drawn" 3 f__law_drawn :=
  fnS_of T.F__law_drawn sc__law_drawn rfl rfl (d__law_drawn T) (Nat.le_of_ble_eq_true rfl)
/-! ### _law_names -/
abbrev N__law_names : List Str := ["script", "at", "many", "letters", "found", "k", "here", "size", "name", "place"]
abbrev S__law_names (g : GC) : Sc := ⟨g, N__law_names, defScope s__law_names, 1, fun _ => true, true⟩
theorem nd__law_names : N__law_names.Nodup := by decide +kernel
theorem d__law_names {g : GC} (T : Txt g) (G__law_drawn : FnS g 1 "_law_drawn" 3 f__law_drawn) : SSs (S__law_names g) (defBody s__law_names) b__law_names :=
  (sss_cons (ss_set (i := 3) se_str nd__law_names)
  (sss_cons (ss_set (i := 4) (se_lst sl_nil) nd__law_names)
  (sss_cons (ss_for (si_r1 T.n_range (se_v 2)) (sg_n 5 nd__law_names) (sss_cons (ss_set (i := 6) (se_add (so_v 1) (so_e (se_mul (so_e se_int) (so_v 5)))) nd__law_names)
  (sss_cons (ss_set (i := 7) (se_add (so_e se_int) (so_e (se_call G__law_drawn (Nat.le_of_ble_eq_true rfl) (sa_cons (so_v 0) (sa_cons (so_v 6) (sa_cons (so_e se_int) sa_nil)))))) nd__law_names)
  (sss_cons (ss_set (i := 8) (se_join se_str (so_e (se_lc (own := [("place", 9)]) nd__law_names (si_r1 T.n_range (se_v 7)) (by kernel_rfl) (sg_n 9 nd__law_names) sts_nil (se_ix (so_v 3) (so_e (se_call G__law_drawn (Nat.le_of_ble_eq_true rfl) (sa_cons (so_v 0) (sa_cons (so_e (se_add (so_e (se_add (so_v 6) (so_e se_int))) (so_v 9))) (sa_cons (so_e se_int) sa_nil))))))))) nd__law_names)
  (sss_cons (ss_while 100 (st_cmp in_rr (so_v 8) (so_v 4) rfl) (sss_one (ss_set (i := 8) (se_ifExp (st_cmp lt_rr (so_e (se_len T.n_len (so_v 8))) (so_e se_int) (nomark _)) (se_add (so_v 8) (so_e (se_ix (so_v 3) (so_e (se_mod (so_e (se_len T.n_len (so_v 4))) (so_e se_int)))))) (se_add (so_e (se_ix (so_v 3) (so_v 5))) (so_e (se_ix (so_v 3) (so_e (se_mod (so_e (se_len T.n_len (so_v 4))) (so_e se_int))))))) nd__law_names)))
  (sss_one (ss_append 4 (se_v 8))))))))
  (sss_one (ss_retV 4)))))
theorem sc__law_names : FnScope N__law_names ["script", "at", "many"] (defScope s__law_names) := ⟨rfl, rfl, rfl, by decide +kernel, rfl, by decide +kernel, by decide +kernel⟩
theorem ok__law_names {g : GC} (T : Txt g) : FnS g 2 "_law_names" 3 f__law_names :=
  fnS_of T.F__law_names sc__law_names rfl rfl (d__law_names T (ok__law_drawn T)) (Nat.le_of_ble_eq_true rfl)
/-! ### _law_sides -/
abbrev N__law_sides : List Str := ["script", "at", "one", "other", "names", "away", "home"]
abbrev S__law_sides (g : GC) : Sc := ⟨g, N__law_sides, defScope s__law_sides, 2, fun _ => true, true⟩
theorem nd__law_sides : N__law_sides.Nodup := by decide +kernel
theorem d__law_sides {g : GC} (T : Txt g) (G__law_drawn : FnS g 1 "_law_drawn" 3 f__law_drawn) (G__law_names : FnS g 2 "_law_names" 3 f__law_names) : SSs (S__law_sides g) (defBody s__law_sides) b__law_sides :=
  (sss_cons (ss_par 2 3 (sl_cons (se_add (so_e se_int) (so_e (se_call G__law_drawn (Nat.le_of_ble_eq_true rfl) (sa_cons (so_v 0) (sa_cons (so_v 1) (sa_cons (so_e se_int) sa_nil)))))) (sl_cons (se_add (so_e se_int) (so_e (se_call G__law_drawn (Nat.le_of_ble_eq_true rfl) (sa_cons (so_v 0) (sa_cons (so_e (se_add (so_v 1) (so_e se_int))) (sa_cons (so_e se_int) sa_nil)))))) sl_nil)) nd__law_sides)
  (sss_cons (ss_set (i := 4) (se_call G__law_names (Nat.le_of_ble_eq_true rfl) (sa_cons (so_v 0) (sa_cons (so_e (se_add (so_v 1) (so_e se_int))) (sa_cons (so_e (se_add (so_e (se_add (so_v 2) (so_v 3))) (so_e se_int))) sa_nil)))) nd__law_sides)
  (sss_cons (ss_set (i := 5) (se_tup (sl_cons (se_tuple T.n_tuple (so_e (se_sl (so_v 4) sp_no (sp_at (se_v 2))))) (sl_cons (se_ix (so_v 4) (so_v 2)) sl_nil))) nd__law_sides)
  (sss_cons (ss_set (i := 6) (se_tup (sl_cons (se_tuple T.n_tuple (so_e (se_sl (so_v 4) (sp_at (se_add (so_v 2) (so_e se_int))) (sp_at (se_add (so_e (se_add (so_v 2) (so_e se_int))) (so_v 3)))))) (sl_cons (se_ix (so_v 4) (so_e (se_add (so_e (se_add (so_v 2) (so_e se_int))) (so_v 3)))) sl_nil))) nd__law_sides)
  (sss_one (ss_ret (se_tup (sl_cons (se_v 5) (sl_cons (se_v 6) (sl_cons (se_sl (so_v 4) (sp_at (se_add (so_e (se_add (so_v 2) (so_e se_int))) (so_v 3))) sp_no) sl_nil))))))))))
theorem sc__law_sides : FnScope N__law_sides ["script", "at"] (defScope s__law_sides) := ⟨rfl, rfl, rfl, by decide +kernel, rfl, by decide +kernel, by decide +kernel⟩
theorem ok__law_sides {g : GC} (T : Txt g) : FnS g 3 "_law_sides" 2 f__law_sides :=
  fnS_of T.F__law_sides sc__law_sides rfl rfl (d__law_sides T (ok__law_drawn T) (ok__law_names T)) (Nat.le_of_ble_eq_true rfl)
/-! ### is_name -/
abbrev N_is_name : List Str := ["thing", "sign"]
abbrev S_is_name (g : GC) : Sc := ⟨g, N_is_name, defScope s_is_name, 0, fun _ => true, true⟩
theorem nd_is_name : N_is_name.Nodup := by decide +kernel
theorem d_is_name {g : GC} (T : Txt g) : SSs (S_is_name g) (defBody s_is_name) b_is_name :=
  (sss_one (ss_ret (se_and (se_isi T.n_isinstance T.n_str (by decide +kernel) isiOk_str (so_v 0)) (se_and (se_chain le_rr le_rr (so_e se_int) (so_e (se_len T.n_len (so_v 0))) (so_e se_int)) (se_one (se_all T.n_all (so_e (se_lc (own := [("sign", 1)]) nd_is_name (si_e (se_v 0)) (by kernel_rfl) (sg_n 1 nd_is_name) sts_nil (se_cmp in_rr (so_v 1) (so_e (se_gstr T.v_LETTERS)) rfl)))))))))
theorem sc_is_name : FnScope N_is_name ["thing"] (defScope s_is_name) := ⟨rfl, rfl, rfl, by decide +kernel, rfl, by decide +kernel, by decide +kernel⟩
theorem ok_is_name {g : GC} (T : Txt g) : FnS g 1 "is_name" 1 f_is_name :=
  fnS_of T.F_is_name sc_is_name rfl rfl (d_is_name T) (Nat.le_of_ble_eq_true rfl)
/-! ### is_side -/
abbrev N_is_side : List Str := ["thing", "name"]
abbrev S_is_side (g : GC) : Sc := ⟨g, N_is_side, defScope s_is_side, 1, fun _ => true, true⟩
theorem nd_is_side : N_is_side.Nodup := by decide +kernel
theorem d_is_side {g : GC} (T : Txt g) (G_is_name : FnS g 1 "is_name" 1 f_is_name) : SSs (S_is_side g) (defBody s_is_side) b_is_side :=
  (sss_cons (ss_if (st_w (sw_or (st_not (st_val (se_isi T.n_isinstance T.n_tuple (by decide +kernel) isiOk_tuple (so_v 0)))) (sw_or (st_cmp ne_rr (so_e (se_len T.n_len (so_v 0))) (so_e se_int) (nomark _)) (sw_or1 (st_not (st_val (se_isi T.n_isinstance T.n_tuple (by decide +kernel) isiOk_tuple (so_e (se_ix (so_v 0) (so_e se_int)))))))))) (sss_one (ss_ret se_bl)) sss_nil)
  (sss_cons (ss_if (st_w (sw_or (st_not (st_chain le_rr le_rr (so_e se_int) (so_e (se_len T.n_len (so_e (se_ix (so_v 0) (so_e se_int))))) (so_e se_int))) (sw_or (st_not (st_val (se_all T.n_all (so_e (se_lc (own := [("name", 1)]) nd_is_side (si_e (se_ix (so_v 0) (so_e se_int))) (by kernel_rfl) (sg_n 1 nd_is_side) sts_nil (se_call G_is_name (Nat.le_of_ble_eq_true rfl) (sa_cons (so_v 1) sa_nil))))))) (sw_or1 (st_not (st_val (se_call G_is_name (Nat.le_of_ble_eq_true rfl) (sa_cons (so_e (se_ix (so_v 0) (so_e se_int))) sa_nil)))))))) (sss_one (ss_ret se_bl)) sss_nil)
  (sss_one (ss_ret (se_cmp eq_rr (so_e (se_lenSet T.n_len T.n_set (so_e (se_add (so_e (se_ix (so_v 0) (so_e se_int))) (so_e (se_tup (sl_cons (se_ix (so_v 0) (so_e se_int)) sl_nil))))))) (so_e (se_add (so_e (se_len T.n_len (so_e (se_ix (so_v 0) (so_e se_int))))) (so_e se_int))) (nomark _))))))
theorem sc_is_side : FnScope N_is_side ["thing"] (defScope s_is_side) := ⟨rfl, rfl, rfl, by decide +kernel, rfl, by decide +kernel, by decide +kernel⟩
theorem ok_is_side {g : GC} (T : Txt g) : FnS g 2 "is_side" 1 f_is_side :=
  fnS_of T.F_is_side sc_is_side rfl rfl (d_is_side T (ok_is_name T)) (Nat.le_of_ble_eq_true rfl)
/-! ### is_bases -/
abbrev N_is_bases : List Str := ["thing", "some", "one", "name"]
abbrev S_is_bases (g : GC) : Sc := ⟨g, N_is_bases, defScope s_is_bases, 1, fun _ => true, true⟩
theorem nd_is_bases : N_is_bases.Nodup := by decide +kernel
theorem d_is_bases {g : GC} (T : Txt g) (G_is_name : FnS g 1 "is_name" 1 f_is_name) : SSs (S_is_bases g) (defBody s_is_bases) b_is_bases :=
  (sss_cons (ss_if (st_w (sw_or (st_not (st_val (se_isi T.n_isinstance T.n_tuple (by decide +kernel) isiOk_tuple (so_v 0)))) (sw_or1 (st_cmp ne_rr (so_e (se_len T.n_len (so_v 0))) (so_e se_int) (nomark _))))) (sss_one (ss_ret se_bl)) sss_nil)
  (sss_cons (ss_setLc (i := 1) (own := [("one", 2)]) nd_is_bases (si_e (se_v 0)) (by kernel_rfl) (sg_n 2 nd_is_bases) (sts_one (st_cmp isn_rr (so_v 2) (so_e se_non) (nomark _))) (se_v 2))
  (sss_one (ss_ret (se_and (se_all T.n_all (so_e (se_lc (own := [("name", 3)]) nd_is_bases (si_e (se_v 1)) (by kernel_rfl) (sg_n 3 nd_is_bases) sts_nil (se_call G_is_name (Nat.le_of_ble_eq_true rfl) (sa_cons (so_v 3) sa_nil))))) (se_one (se_cmp eq_rr (so_e (se_lenSet T.n_len T.n_set (so_v 1))) (so_e (se_len T.n_len (so_v 1))) (nomark _))))))))
theorem sc_is_bases : FnScope N_is_bases ["thing"] (defScope s_is_bases) := ⟨rfl, rfl, rfl, by decide +kernel, rfl, by decide +kernel, by decide +kernel⟩
theorem ok_is_bases {g : GC} (T : Txt g) : FnS g 2 "is_bases" 1 f_is_bases :=
  fnS_of T.F_is_bases sc_is_bases rfl rfl (d_is_bases T (ok_is_name T)) (Nat.le_of_ble_eq_true rfl)
/-! ### law -/
abbrev N_law : List Str := ["script", "away", "home", "beside", "line", "arm", "bad", "thing", "some", "bases", "none"]
abbrev S_law (g : GC) : Sc := ⟨g, N_law, defScope s_law, 3, fun _ => true, true⟩
theorem nd_law : N_law.Nodup := by decide +kernel
theorem d_law {g : GC} (T : Txt g) (G__law_sides : FnS g 3 "_law_sides" 2 f__law_sides) (G_is_side : FnS g 2 "is_side" 1 f_is_side) (G__law_drawn : FnS g 1 "_law_drawn" 3 f__law_drawn) (G_is_bases : FnS g 2 "is_bases" 1 f_is_bases) : SSs (S_law g) (defBody s_law) b_law :=
  (sss_cons (ss_asg (se_call G__law_sides (Nat.le_of_ble_eq_true rfl) (sa_cons (so_v 0) (sa_cons (so_e se_int) sa_nil))) (sg_t (sgs_cons (sg_n 1 nd_law) (sgs_cons (sg_n 2 nd_law) (sgs_cons (sg_n 3 nd_law) sgs_nil)))))
  (sss_cons (ss_if (st_w (sw_or (st_cmp isn_rr (so_e (se_call G_is_side (Nat.le_of_ble_eq_true rfl) (sa_cons (so_v 1) sa_nil))) (so_e se_bl) (nomark _)) (sw_or1 (st_cmp isn_rr (so_e (se_call G_is_side (Nat.le_of_ble_eq_true rfl) (sa_cons (so_v 2) sa_nil))) (so_e se_bl) (nomark _))))) (sss_one (ss_ret se_bl)) sss_nil)
  (sss_cons (ss_asg (se_v 1) (sg_t (sgs_cons (sg_n 4 nd_law) (sgs_cons (sg_n 5 nd_law) sgs_nil))))
  (sss_cons (ss_set (i := 6) (se_lst (sl_cons se_non (sl_cons (se_list T.n_list (so_v 1)) (sl_cons (se_tup (sl_cons (se_v 4) sl_nil)) (sl_cons (se_tup (sl_cons (se_list T.n_list (so_v 4)) (sl_cons (se_v 5) sl_nil))) (sl_cons (se_tup (sl_cons (se_sl (so_v 4) sp_no (sp_at se_int)) (sl_cons (se_v 5) sl_nil))) sl_nil)))))) nd_law)
  (sss_cons (ss_set (i := 6) (se_add (so_v 6) (so_e (se_lst (sl_cons (se_tup (sl_cons (se_add (so_v 4) (so_e (se_sl (so_v 4) sp_no (sp_at se_int)))) (sl_cons (se_v 5) sl_nil))) (sl_cons (se_tup (sl_cons (se_v 4) (sl_cons (se_ix (so_v 4) (so_e se_int)) sl_nil))) (sl_cons (se_tup (sl_cons (se_v 4) (sl_cons se_non sl_nil))) sl_nil)))))) nd_law)
  (sss_cons (ss_set (i := 6) (se_add (so_v 6) (so_e (se_lst (sl_cons (se_tup (sl_cons (se_add (so_e (se_sl (so_v 4) sp_no (sp_at se_int))) (so_e (se_tup (sl_cons se_str sl_nil)))) (sl_cons (se_v 5) sl_nil))) (sl_cons (se_tup (sl_cons (se_add (so_e (se_sl (so_v 4) sp_no (sp_at se_int))) (so_e (se_tup (sl_cons se_str sl_nil)))) (sl_cons (se_v 5) sl_nil))) (sl_cons (se_tup (sl_cons (se_add (so_e (se_sl (so_v 4) sp_no (sp_at se_int))) (so_e (se_tup (sl_cons se_int sl_nil)))) (sl_cons (se_v 5) sl_nil))) sl_nil)))))) nd_law)
  (sss_cons (ss_set (i := 6) (se_add (so_v 6) (so_e (se_lst (sl_cons (se_tup (sl_cons (se_v 4) (sl_cons se_str sl_nil))) (sl_cons (se_tup (sl_cons (se_v 4) (sl_cons (se_v 5) (sl_cons (se_v 5) sl_nil)))) sl_nil))))) nd_law)
  (sss_cons (ss_set (i := 6) (se_add (so_v 6) (so_e (se_lst (sl_cons (se_tup (sl_cons (se_tup (sl_cons se_str (sl_cons se_str (sl_cons se_str (sl_cons se_str (sl_cons se_str (sl_cons se_str (sl_cons se_str (sl_cons se_str (sl_cons se_str (sl_cons se_str sl_nil))))))))))) (sl_cons se_str sl_nil))) sl_nil)))) nd_law)
  (sss_cons (ss_set (i := 6) (se_add (so_v 6) (so_e (se_lst (sl_cons (se_tup (sl_cons (se_add (so_e (se_sl (so_v 4) sp_no (sp_at se_int))) (so_e (se_tup (sl_cons se_non sl_nil)))) (sl_cons (se_v 5) sl_nil))) (sl_cons se_str (sl_cons (se_tup (sl_cons (se_tup sl_nil) (sl_cons se_str sl_nil))) sl_nil)))))) nd_law)
  (sss_cons (ss_if (st_cmp ne_rr (so_e (se_lc (own := [("thing", 7)]) nd_law (si_e (se_v 6)) (by kernel_rfl) (sg_n 7 nd_law) (sts_one (st_cmp isn_rr (so_e (se_call G_is_side (Nat.le_of_ble_eq_true rfl) (sa_cons (so_v 7) sa_nil))) (so_e se_bl) (nomark _))) (se_v 7))) (so_e (se_lst sl_nil)) (nomark _)) (sss_one (ss_ret se_bl)) sss_nil)
  (sss_cons (ss_set (i := 8) (se_ix (so_e (se_lst (sl_cons se_non (sl_cons (se_ix (so_v 4) (so_e (se_call G__law_drawn (Nat.le_of_ble_eq_true rfl) (sa_cons (so_v 0) (sa_cons (so_e se_int) (sa_cons (so_e (se_len T.n_len (so_v 4))) sa_nil)))))) (sl_cons se_non (sl_cons (se_v 5) sl_nil)))))) (so_e (se_call G__law_drawn (Nat.le_of_ble_eq_true rfl) (sa_cons (so_v 0) (sa_cons (so_e se_int) (sa_cons (so_e se_int) sa_nil)))))) nd_law)
  (sss_cons (ss_set (i := 9) (se_tup (sl_cons (se_v 8) (sl_cons se_non (sl_cons (se_ix (so_v 2) (so_e se_int)) sl_nil)))) nd_law)
  (sss_cons (ss_if (st_w (sw_or (st_cmp isn_rr (so_e (se_call G_is_bases (Nat.le_of_ble_eq_true rfl) (sa_cons (so_v 9) sa_nil))) (so_e se_bl) (nomark _)) (sw_or1 (st_cmp isn_rr (so_e (se_call G_is_bases (Nat.le_of_ble_eq_true rfl) (sa_cons (so_e (se_tup (sl_cons se_non (sl_cons se_non (sl_cons se_non sl_nil))))) sa_nil))) (so_e se_bl) (nomark _))))) (sss_one (ss_ret se_bl)) sss_nil)
  (sss_cons (ss_if (st_cmp isn_rr (so_e (se_call G_is_bases (Nat.le_of_ble_eq_true rfl) (sa_cons (so_e (se_sl (so_v 4) sp_no (sp_at se_int))) sa_nil))) (so_e se_bl) (nomark _)) (sss_one (ss_ret se_bl)) sss_nil)
  (sss_cons (ss_set (i := 10) (se_lst (sl_cons se_non (sl_cons (se_tup (sl_cons se_non (sl_cons se_non sl_nil))) (sl_cons (se_mul (so_e (se_tup (sl_cons se_non sl_nil))) (so_e se_int)) (sl_cons (se_lst (sl_cons se_str (sl_cons se_non (sl_cons se_non sl_nil)))) (sl_cons (se_tup (sl_cons se_str (sl_cons se_str (sl_cons se_non sl_nil)))) sl_nil)))))) nd_law)
  (sss_cons (ss_set (i := 10) (se_add (so_v 10) (so_e (se_lst (sl_cons (se_tup (sl_cons se_str (sl_cons se_non (sl_cons se_str sl_nil)))) (sl_cons (se_tup (sl_cons se_str (sl_cons se_non (sl_cons se_non sl_nil)))) (sl_cons (se_tup (sl_cons se_int (sl_cons se_non (sl_cons se_non sl_nil)))) sl_nil)))))) nd_law)
  (sss_cons (ss_set (i := 10) (se_add (so_v 10) (so_e (se_lst (sl_cons (se_tup (sl_cons se_str (sl_cons se_non (sl_cons se_non sl_nil)))) (sl_cons (se_tup (sl_cons se_non (sl_cons se_non (sl_cons se_str sl_nil)))) (sl_cons (se_tup (sl_cons se_non (sl_cons se_non (sl_cons (se_tup (sl_cons se_str sl_nil)) sl_nil)))) (sl_cons se_str sl_nil))))))) nd_law)
  (sss_cons (ss_set (i := 10) (se_add (so_v 10) (so_e (se_lst (sl_cons (se_tup (sl_cons se_non (sl_cons se_bl (sl_cons se_non sl_nil)))) sl_nil)))) nd_law)
  (sss_cons (ss_if (st_cmp ne_rr (so_e (se_lc (own := [("thing", 7)]) nd_law (si_e (se_v 10)) (by kernel_rfl) (sg_n 7 nd_law) (sts_one (st_cmp isn_rr (so_e (se_call G_is_bases (Nat.le_of_ble_eq_true rfl) (sa_cons (so_v 7) sa_nil))) (so_e se_bl) (nomark _))) (se_v 7))) (so_e (se_lst sl_nil)) (nomark _)) (sss_one (ss_ret se_bl)) sss_nil)
  (sss_cons (ss_if (st_not (st_cmp is_rr (so_e (se_call G_is_side (Nat.le_of_ble_eq_true rfl) (sa_cons (so_e (se_tup (sl_cons (se_tup (sl_cons se_str (sl_cons se_str (sl_cons se_str (sl_cons se_str (sl_cons se_str (sl_cons se_str (sl_cons se_str (sl_cons se_str (sl_cons se_str sl_nil)))))))))) (sl_cons se_str sl_nil)))) sa_nil))) (so_e se_bl) (nomark _))) (sss_one (ss_ret se_bl)) sss_nil)
  (sss_one (ss_ret (se_call G_is_side (Nat.le_of_ble_eq_true rfl) (sa_cons (so_e (se_tup (sl_cons (se_tup (sl_cons se_str (sl_cons se_str (sl_cons se_str (sl_cons se_str (sl_cons se_str (sl_cons se_str sl_nil))))))) (sl_cons se_str sl_nil)))) sa_nil))))))))))))))))))))))))
theorem sc_law : FnScope N_law ["script"] (defScope s_law) := ⟨rfl, rfl, rfl, by decide +kernel, rfl, by decide +kernel, by decide +kernel⟩
theorem ok_law {g : GC} (T : Txt g) : FnS g 4 "law" 1 f_law :=
  fnS_of T.F_law sc_law rfl rfl (d_law T (ok__law_sides T) (ok_is_side T) (ok__law_drawn T) (ok_is_bases T)) (Nat.le_of_ble_eq_true rfl)
end L2.Ev.W
namespace L2.Ev.W
open PySem PySem.Spec PyProof.Rows
abbrev scr (ns : List Int) : D := .lck (ns.map .int)
theorem toPys_int : ∀ (ns : List Int), toPys (ns.map .int) = some (ns.map .int)
  | [] => rfl
  | n :: ns => by simp only [List.map_cons, toPys, toPy, toPys_int ns]
theorem lay_int : ∀ (ns : List Int), PyData.canLayAll0 (ns.map .int) = true
  | [] => rfl
  | n :: ns => by simp only [List.map_cons, PyData.canLayAll0, PyData.canLay0, lay_int ns, Bool.and_self]
theorem deep_int : ∀ (ns : List Int), PyData.depthAll (ns.map .int) = 0
  | [] => rfl
  | n :: ns => by simp only [List.map_cons, PyData.depthAll, PyData.depth, deep_int ns, Nat.max_self]
theorem shaped_int (ns : List Int) : SeqAt.shaped (.list (ns.map .int)) = true := by
  simp [SeqAt.shaped, PyData.canLay0, PyData.depth, lay_int, deep_int]
theorem scr_ne (ns : List Int) : gNe (scr ns) (.lst true []) = some (.bl (!ns.isEmpty)) := by
  have e : gEqB (scr ns) (.lst true []) = eqDD (scr ns) (.lst true []) := rfl
  have e2 : toPy (scr ns) = some (.list (ns.map .int)) := by simp only [toPy, toPys_int]
  have e3 : toPy (.lst true []) = some (.list []) := by simp only [toPy, toPys]
  have e4 : SeqAt.shaped (.list []) = true := by decide
  unfold gNe
  rw [e]
  unfold eqDD
  rw [e2, e3]
  simp only [shaped_int, e4, and_self, if_true]
  cases ns <;> rfl
/-- a draw's loop -/
theorem drawn_loop (ns : List Int) (k m c : Int) : ∀ (n : Nat) (t r : Int), 0 ≤ t → t < n → 
    ∃ t' r' : Int, sWhile (tAnd2 (tE (e2 gGt (oSlot 5) (oE (eC (.int 0))))) (tE (e2 gGt (oSlot 4) (oE (eC (.int 0)))))) (sSeq (sAsg (gtN 5) (e2 gFdiv (oSlot 5) (oE (eC (.int 1000000)))))
  (sAsg (gtN 4) (e2 gSub (oSlot 4) (oE (eC (.int 1)))))) n [.val (scr ns), .val (.int k), .val (.int m), .val (.int c), .val (.int t), .val (.int r)] = some (.nx, [.val (scr ns), .val (.int k), .val (.int m), .val (.int c), .val (.int t'), .val (.int r')])
  | 0, t, r, h0, h => by omega
  | n + 1, t, r, h0, h => by
    unfold sWhile
    by_cases hr : 0 < r
    · by_cases ht : 0 < t
      · obtain ⟨t', r', h2⟩ := drawn_loop ns k m c n (t - 1) (r / 1000000) (by omega) (by omega)
        refine ⟨t', r', ?_⟩
        simp [hr, ht, gFdiv, h2]
      · refine ⟨t, r, ?_⟩
        simp [hr, ht]
    · refine ⟨t, r, ?_⟩
      simp [hr]
theorem ix_scr (ns : List Int) (i : Int) (h0 : 0 ≤ i) (h : i < ns.length) : gIx (scr ns) (.int i) = some (.int (ns[i.toNat]'(by omega))) := by
  simp only [gIx, ixB, ixN, List.length_map, h0, h, if_true]
  simp
theorem small_of' {i : Int} (h0 : 0 ≤ i) (h : i < 2147483647) : small i = true := by
  simp only [small, decide_eq_true_eq]; omega
/-- a draw's mixing -/
theorem drawn_tail (ns : List Int) (k m c : Int) (s4 s5 : Sl) (hm : 0 < m) : ∃ (v : Int) (ρ' : En), (0 ≤ v ∧ v < m) ∧ 3 ≤ ρ'.length ∧ (sSeq (sAsg (gtN 3) (e2 gMod (oE (e2 gAdd (oE (e2 gMul (oE (e2 gMod (oSlot 3) (oE (eC (.int 2147483563))))) (oE (eC (.int 69069))))) (oE (e2 gMul (oE (eC (.int 104723))) (oE (e2 gAdd (oSlot 1) (oE (eC (.int 1))))))))) (oE (eC (.int 2147483563)))))
  (sSeq (sAsg (gtN 3) (e2 gMod (oE (e2 gAdd (oE (e2 gMul (oSlot 3) (oSlot 3))) (oE (e2 gFdiv (oSlot 3) (oE (eC (.int 3))))))) (oE (eC (.int 2147483399)))))
  (sRet (e2 gMod (oE (e2 gFdiv (oE (e2 gMod (oE (e2 gAdd (oE (e2 gMul (oSlot 3) (oSlot 3))) (oE (e2 gFdiv (oSlot 3) (oE (eC (.int 7))))))) (oE (eC (.int 2147483647))))) (oE (eC (.int 11))))) (oSlot 2))))) [.val (scr ns), .val (.int k), .val (.int m), .val (.int c), s4, s5] = some (.rt (.int v), ρ') := by
  have s1 : small 69069 = true := by decide
  have s2 : small 104723 = true := by decide
  have s3 : ∀ x : Int, small (x % 2147483563) = true := fun x => small_of' (by omega) (by omega)
  have s6 : ∀ x : Int, small (x % 2147483399) = true := fun x => small_of' (by omega) (by omega)
  let c1 := (c % 2147483563 * 69069 + 104723 * (k + 1)) % 2147483563
  let c2 := (c1 * c1 + c1 / 3) % 2147483399
  refine ⟨(c2 * c2 + c2 / 7) % 2147483647 / 11 % m, [.val (scr ns), .val (.int k), .val (.int m), .val (.int c2), s4, s5], ⟨Int.emod_nonneg _ (Int.ne_of_gt hm), Int.emod_lt_of_pos _ hm⟩, by simp, ?_⟩
  simp [gMul, gMod, gFdiv, s1, s2, s3, s6, hm, c1, c2]
theorem drawn_ex (ns : List Int) (k m : Int) (hk : 0 ≤ k) (hm : 0 < m) (hl : ns.length ≤ 63) : ∃ v : Int, (0 ≤ v ∧ v < m) ∧ f__law_drawn [scr ns, .int k, .int m] = some (.ok (.int v), [scr ns, .int k, .int m]) := by
  suffices h : ∃ (v : Int) (ρ' : En), (0 ≤ v ∧ v < m) ∧ 3 ≤ ρ'.length ∧ b__law_drawn [.val (scr ns), .val (.int k), .val (.int m), .no, .no, .no] = some (.rt (.int v), ρ') by
    obtain ⟨v, ρ', h1, h2, h3⟩ := h
    exact ⟨v, h1, fnD_rt rfl (by simp) h3 h2⟩
  have s0 : small 7 = true := by decide
  have s1 : small 10 = true := by decide
  have s2 : small 6553 = true := by decide
  unfold b__law_drawn
  cases ns with
  | nil =>
    obtain ⟨v, ρ', h1, h2, h3⟩ := drawn_tail [] k m (7 * k) .no .no hm
    refine ⟨v, ρ', h1, h2, ?_⟩
    rw [← h3]
    simp only [sSeq_ap, sAsg_ap, sE_ap, e2_ap, bd_ap, oE_ap, eC_ap, oSlot_ap, lookS, look0, fin2_ap, res_tmp, res_slot, gMul, s0, true_or, if_true, gtN_ap, asgS, asg0n, Option.map_some, sIf_ap, sT_ap, tE_ap, eLst_ap, lNil_ap, scr_ne, tB1_ap]
    rfl
  | cons n ns =>
    generalize hz : n :: ns = zs
    have hp : 0 < (zs.length : Int) := by rw [← hz]; simp only [List.length_cons]; omega
    have hl' : (zs.length : Int) < 2 ^ 64 := by subst hz; simp at hl ⊢; omega
    have hne : (!zs.isEmpty) = true := by rw [← hz]; rfl
    have hix := ix_scr zs (k % zs.length) (Int.emod_nonneg _ (by omega)) (Int.emod_lt_of_pos _ hp)
    generalize (zs[(k % (zs.length : Int)).toNat]'_) = c at hix
    have hlen : gLen (scr zs) = some (.int zs.length) := by simp [scr]
    have hpow : gPow (.int 10) (.int 18) = some (.int (10 ^ 18)) := rfl
    have hmod : gMod (.int k) (.int zs.length) = some (.int (k % zs.length)) := by simp only [gMod, hp, if_true]
    have hdiv : gFdiv (.int k) (.int zs.length) = some (.int (k / zs.length)) := by simp only [gFdiv, hp, hl', and_self, if_true]
    have hmul : ∀ x, gMul (.int 6553) (.int x) = some (.int (6553 * x)) := fun x => by simp only [gMul, s2, true_or, if_true]
    have hmul7 : gMul (.int 7) (.int k) = some (.int (7 * k)) := by simp only [gMul, s0, true_or, if_true]
    have hmA : ∀ x, gMod (.int x) (.int 1000000) = some (.int (x % 1000000)) := fun x => rfl
    have hmB : ∀ x, gMod (.int x) (.int m) = some (.int (x % m)) := fun x => by simp only [gMod, hm, if_true]
    by_cases hb : 10 ^ 18 ≤ c ∧ k / zs.length < 60
    · obtain ⟨hb1, hb2⟩ := hb
      have h0 : (0 : Int) ≤ k / zs.length := Int.ediv_nonneg hk (by omega)
      obtain ⟨t', r', h2⟩ := drawn_loop zs k m c 100 (k / zs.length) (c / 10 ^ 18) h0 (by omega)
      have hd18 : gFdiv (.int c) (.int (10 ^ 18)) = some (.int (c / 10 ^ 18)) := by simp only [gFdiv]; rfl
      by_cases hr : 0 < r'
      · refine ⟨r' % 1000000 % m, [.val (scr zs), .val (.int k), .val (.int m), .val (.int c), .val (.int t'), .val (.int r')], ⟨Int.emod_nonneg _ (Int.ne_of_gt hm), Int.emod_lt_of_pos _ hm⟩, by simp, ?_⟩
        simp only [sSeq_ap, sAsg_ap, sE_ap, e2_ap, e1_ap, fin1_ap, bd_ap, oE_ap, eC_ap, oSlot_ap, lookS, look0, fin2_ap, res_tmp, res_slot, hmul7, gtN_ap, asgS, asg0n, asg0, Option.map_some, sIf_ap, sT_ap, tE_ap, eLst_ap, lNil_ap, scr_ne, tB1_ap, hne, if_true, hlen, hmod, hdiv, hix, hpow, gGe_i, tAnd2_ap, decide_eq_true hb1, gLt_i, decide_eq_true hb2, hd18, h2, gGt_i, decide_eq_true hr, sRet_ap, hmA, hmB, List.length_nil, Nat.zero_le]
      · obtain ⟨v, ρ', h3, h4, h5⟩ := drawn_tail zs k m (c + 6553 * (k / zs.length)) (.val (.int t')) (.val (.int r')) hm
        refine ⟨v, ρ', h3, h4, ?_⟩
        rw [← h5]
        simp only [sSeq_ap, sAsg_ap, sE_ap, e2_ap, e1_ap, fin1_ap, bd_ap, oE_ap, eC_ap, oSlot_ap, lookS, look0, fin2_ap, res_tmp, res_slot, hmul7, gtN_ap, asgS, asg0n, asg0, Option.map_some, sIf_ap, sT_ap, tE_ap, eLst_ap, lNil_ap, scr_ne, tB1_ap, hne, if_true, hlen, hmod, hdiv, hix, hpow, gGe_i, tAnd2_ap, decide_eq_true hb1, gLt_i, decide_eq_true hb2, hd18, h2, gGt_i, decide_eq_false hr, sNil_ap, hmul, gAdd_i, List.length_nil, Nat.zero_le, Bool.false_eq_true, if_false]
    · have hb' : (decide (10 ^ 18 ≤ c) && decide (k / (zs.length : Int) < 60)) = false := by
        rw [Bool.eq_false_iff]; intro h; rw [Bool.and_eq_true, decide_eq_true_eq, decide_eq_true_eq] at h; exact hb h
      obtain ⟨v, ρ', h3, h4, h5⟩ := drawn_tail zs k m (c + 6553 * (k / zs.length)) (.val (.int (k / zs.length))) .no hm
      refine ⟨v, ρ', h3, h4, ?_⟩
      rw [← h5]
      by_cases hb1 : 10 ^ 18 ≤ c
      · have hb2 : ¬ k / (zs.length : Int) < 60 := fun h => hb ⟨hb1, h⟩
        simp only [sSeq_ap, sAsg_ap, sE_ap, e2_ap, e1_ap, fin1_ap, bd_ap, oE_ap, eC_ap, oSlot_ap, lookS, look0, fin2_ap, res_tmp, res_slot, hmul7, gtN_ap, asgS, asg0n, asg0, Option.map_some, sIf_ap, sT_ap, tE_ap, eLst_ap, lNil_ap, scr_ne, tB1_ap, hne, if_true, hlen, hmod, hdiv, hix, hpow, gGe_i, tAnd2_ap, decide_eq_true hb1, gLt_i, decide_eq_false hb2, sNil_ap, hmul, gAdd_i, List.length_nil, Nat.zero_le, Bool.false_eq_true, if_false]
      · simp only [sSeq_ap, sAsg_ap, sE_ap, e2_ap, e1_ap, fin1_ap, bd_ap, oE_ap, eC_ap, oSlot_ap, lookS, look0, fin2_ap, res_tmp, res_slot, hmul7, gtN_ap, asgS, asg0n, asg0, Option.map_some, sIf_ap, sT_ap, tE_ap, eLst_ap, lNil_ap, scr_ne, tB1_ap, hne, if_true, hlen, hmod, hdiv, hix, hpow, gGe_i, tAnd2_ap, decide_eq_false hb1, sNil_ap, hmul, gAdd_i, List.length_nil, Nat.zero_le, Bool.false_eq_true, if_false]
end L2.Ev.W
namespace L2.Ev.W
open PySem PySem.Spec PyProof.Rows
/-! ### draws and names -/
/-- what a draw gives -/
def dr (ns : List Int) (k m : Int) : Int := match f__law_drawn [scr ns, .int k, .int m] with
  | some (.ok (.int v), _) => v
  | _ => 0
theorem dr_spec {ns : List Int} (hl : ns.length ≤ 63) {k m : Int} (hk : 0 ≤ k) (hm : 0 < m) : f__law_drawn [scr ns, .int k, .int m] = some (.ok (.int (dr ns k m)), [scr ns, .int k, .int m]) ∧ 0 ≤ dr ns k m ∧ dr ns k m < m := by
  obtain ⟨v, hv, e⟩ := drawn_ex ns k m hk hm hl
  have : dr ns k m = v := by unfold dr; rw [e]
  rw [this]; exact ⟨e, hv⟩
abbrev nmD (l : List Nat) : D := .str (SX.S l)
theorem letters_eq : (Str.ofString "abcdefghijklmnopqrstuvwxyz") = SX.S (List.range' 97 26) := by decide +kernel
theorem ix_letters {i : Int} (h0 : 0 ≤ i) (h : i < 26) : gIx (.str (Str.ofString "abcdefghijklmnopqrstuvwxyz")) (.int i) = some (nmD [97 + i.toNat]) := by
  rw [letters_eq]
  have e : i.toNat < 26 := by omega
  have h1 : (SX.S (List.range' 97 26)).length ≤ sizeLine := by decide
  have h2 : atI (SX.S (List.range' 97 26)).cps.toList i = some (97 + i.toNat) := by
    have hi : i < ((List.range' 97 26).length : Int) := by simp; omega
    simp only [atI, ixN, h0, hi, if_true, Option.bind_some]
    simp [e]
  simp only [gIx, h1, if_true, h2]
/-- a slot that may be stored to -/
def Fr (s : Sl) : Prop := s = .no ∨ ∃ d, s = .val d
theorem Fr.no : Fr .no := .inl rfl
theorem Fr.val (d : D) : Fr (.val d) := .inr ⟨d, rfl⟩
theorem asg_fr {s : Sl} {ρ : En} {d : D} (h : Fr s) : asg (s :: ρ) 0 d = some (.val d :: ρ) := by
  rcases h with rfl | ⟨d, rfl⟩ <;> rfl
/-- a name of this list's place j -/
structure Nm (j : Nat) (l : List Nat) : Prop where
  lo : 1 ≤ l.length
  hi : l.length ≤ 4
  cs : ∀ c ∈ l, 97 ≤ c ∧ c < 123
  lst : 4 ≤ l.length → l.getLast? = some (97 + j)
abbrev lenv (ns : List Int) (a m : Int) (xs : List (List Nat)) (s5 s6 s7 s8 : Sl) : En := [.val (scr ns), .val (.int a), .val (.int m), .val (.str (Str.ofString "abcdefghijklmnopqrstuvwxyz")), .val (.lst true (xs.map nmD)), s5, s6, s7, s8, .no]
theorem in_names (l : List Nat) (xs : List (List Nat)) (o : Bool) : gIn (nmD l) (.lst o (xs.map nmD)) = some (.bl (decide (l ∈ xs))) := by
  have e : (xs.map nmD).all flatD = true := by
    induction xs with
    | nil => rfl
    | cons x xs ih => simp only [List.map_cons, List.all_cons, ih, Bool.and_true]; rfl
  have e2 : ((xs.map nmD).any fun y => feq y (nmD l)) = decide (l ∈ xs) := by
    induction xs with
    | nil => rfl
    | cons x xs ih =>
      have e' := e
      simp only [List.map_cons, List.all_cons, Bool.and_eq_true] at e'
      rw [List.map_cons, List.any_cons, ih e'.2]
      simp only [feq, SX.S_beq_eq]
      rw [Bool.eq_iff_iff, Bool.or_eq_true, decide_eq_true_eq, decide_eq_true_eq, decide_eq_true_eq, List.mem_cons]
      exact ⟨fun h => h.imp Eq.symm id, fun h => h.imp Eq.symm id⟩
  simp only [gIn, inB, e, e2, flatD, and_self, if_true]
theorem len_nm (l : List Nat) (h : l.length ≤ sizeLine) : gLen (nmD l) = some (.int l.length) := by
  have := SX.S_len l
  simp only [gLen, this, h, if_true]
theorem add_nm (l r : List Nat) (h : l.length + r.length ≤ sizeLine) : gAdd (nmD l) (nmD r) = some (nmD (l ++ r)) := by
  simp only [gAdd, SX.S_len, h, if_true, SX.S_cat]
/-- a name is made longer till it is new -/
theorem names_loop (ns : List Int) (a m kk : Int) (xs : List (List Nat)) (s6 s7 : Sl) (hx : xs.length < 26) (hP : ∀ j l, xs[j]? = some l → Nm j l) : ∀ (n : Nat) (l : List Nat), 4 ≤ l.length + n → Nm xs.length l →
    ∃ l', Nm xs.length l' ∧ l' ∉ xs ∧ sWhile (tE (e2 gIn (oSlot 8) (oSlot 4))) (sAsg (gtN 8) (eIf (tE (e2 gLt (oE (e1 gLen (oSlot 8))) (oE (eC (.int 6))))) (e2 gAdd (oSlot 8) (oE (e2 gIx (oSlot 3) (oE (e2 gMod (oE (e1 gLen (oSlot 4))) (oE (eC (.int 26)))))))) (e2 gAdd (oE (e2 gIx (oSlot 3) (oSlot 5))) (oE (e2 gIx (oSlot 3) (oE (e2 gMod (oE (e1 gLen (oSlot 4))) (oE (eC (.int 26)))))))))) (n + 1) (lenv ns a m xs (.val (.int kk)) s6 s7 (.val (nmD l))) = some (.nx, lenv ns a m xs (.val (.int kk)) s6 s7 (.val (nmD l'))) := by
  intro n
  induction n with
  | zero =>
    intro l h4 hN
    have hnot : l ∉ xs := by
      intro hm
      obtain ⟨j, hj⟩ := List.mem_iff_getElem?.mp hm
      have hj' := (hP j l hj).lst (by omega)
      have := hN.lst (by omega)
      rw [hj'] at this
      have hlt : j < xs.length := (List.getElem?_eq_some_iff.mp hj).1
      simp at this; omega
    refine ⟨l, hN, hnot, ?_⟩
    simp only [sWhile, sT_ap, tE_ap, bd_ap, e2_ap, oSlot_ap, lookS, look0, fin2_ap, res_slot, in_names, tB1_ap, decide_eq_false hnot, Bool.false_eq_true, if_false]
  | succ n ih =>
    intro l h4 hN
    by_cases hm : l ∈ xs
    · have h3 : l.length < 4 := by
        rcases Nat.lt_or_ge l.length 4 with h | h
        · exact h
        · exfalso
          obtain ⟨j, hj⟩ := List.mem_iff_getElem?.mp hm
          have hj' := (hP j l hj).lst (by omega)
          have := hN.lst (by omega)
          rw [hj'] at this
          have hlt : j < xs.length := (List.getElem?_eq_some_iff.mp hj).1
          simp at this; omega
      have hN' : Nm xs.length (l ++ [97 + xs.length]) := by
        refine ⟨by simp, by simp; omega, ?_, ?_⟩
        · intro c hc
          rcases List.mem_append.mp hc with h | h
          · exact hN.cs c h
          · simp at h; omega
        · intro _; simp
      obtain ⟨l', h1, h2, h5⟩ := ih (l ++ [97 + xs.length]) (by simp; omega) hN'
      refine ⟨l', h1, h2, ?_⟩
      rw [← h5]
      have e1' : gLen (nmD l) = some (.int l.length) := len_nm l (by simp [sizeLine]; omega)
      have e2' : decide ((l.length : Int) < 6) = true := by simp; omega
      have e3' : gMod (.int (xs.length : Int)) (.int 26) = some (.int xs.length) := by
        simp only [gMod]
        have : (xs.length : Int) % 26 = xs.length := Int.emod_eq_of_lt (by omega) (by omega)
        rw [this]; rfl
      have e4' : gIx (.str (Str.ofString "abcdefghijklmnopqrstuvwxyz")) (.int (xs.length : Int)) = some (nmD [97 + xs.length]) := by
        have := ix_letters (i := (xs.length : Int)) (by omega) (by omega)
        simpa using this
      have e5' : gAdd (nmD l) (nmD [97 + xs.length]) = some (nmD (l ++ [97 + xs.length])) := add_nm _ _ (by simp [sizeLine]; omega)
      rw [sWhile]
      simp only [sT_ap, tE_ap, bd_ap, e2_ap, e1_ap, fin1_ap, oSlot_ap, oE_ap, eC_ap, res_tmp, lookS, look0, fin2_ap, res_slot, in_names, tB1_ap, decide_eq_true hm, if_true, sAsg_ap, sE_ap, eIf_ap, e1', gLt_i, e2', gLen_l, List.length_map, e3', e4', e5', gtN_ap, asgS, asg0, Option.map_some]
    · refine ⟨l, hN, hm, ?_⟩
      rw [sWhile]
      simp only [sT_ap, tE_ap, bd_ap, e2_ap, oSlot_ap, lookS, look0, fin2_ap, res_slot, in_names, tB1_ap, decide_eq_false hm, Bool.false_eq_true, if_false]
end L2.Ev.W
namespace L2.Ev.W
open PySem PySem.Spec PyProof.Rows
/-- a draw, by what it promises -/
def DrS (ns : List Int) (F : FV) (dv : Int → Int → Int) : Prop := ∀ k m : Int, 0 ≤ k → 0 < m → F [scr ns, .int k, .int m] = some (.ok (.int (dv k m)), [scr ns, .int k, .int m]) ∧ 0 ≤ dv k m ∧ dv k m < m
/-- the drawn letters -/
def ltr (dv : Int → Int → Int) (h : Int) (p : Nat) : Nat := 97 + (dv (h + 1 + p) 26).toNat
theorem rng_map (n : Nat) (hn : n < 1000) : rngD 0 (n : Int) = some ((List.range n).map fun (i : Nat) => D.int (i : Int)) := by
  have h : (-(2 ^ 62) : Int) ≤ 0 ∧ (0 : Int) < 2 ^ 62 ∧ (-(2 ^ 62) : Int) ≤ n ∧ (n : Int) < 2 ^ 62 := by omega
  simp only [rngD, h, and_self, if_true]
  simp
theorem strs_nm : ∀ (xs : List (List Nat)), strsOf (xs.map nmD) = some (xs.map SX.S)
  | [] => rfl
  | x :: xs => by simp only [List.map_cons, strsOf, strs_nm xs]
theorem join_ones (cs : List Nat) : TL.joinL [] (cs.map fun c => [c]) = cs := by
  induction cs with
  | nil => rfl
  | cons c cs ih =>
    cases cs with
    | nil => rfl
    | cons d ds =>
      simp only [List.map_cons] at ih ⊢
      rw [TL.joinL, ih]; rfl
theorem join_nm (cs : List Nat) (h : cs.length ≤ 1000) (o : Bool) : gJoin (.str (Str.ofString "")) (.lst o (cs.map fun c => nmD [c])) = some (nmD cs) := by
  have e : (cs.map fun c => nmD [c]) = (cs.map fun c => [c]).map nmD := by simp
  have e2 : Str.ofString "" = SX.S [] := by decide +kernel
  have e3 : (((cs.map fun c => [c]).map SX.S).map (·.length)).sum = cs.length := by
    rw [SX.lens]
    clear h e
    induction cs with
    | nil => rfl
    | cons c cs ih => simp only [List.map_cons, List.sum_cons, ih, List.length_cons, List.length_nil]; omega
  rw [e, e2]
  simp only [gJoin, strs_nm, e3, SX.S_len, List.length_nil, Nat.mul_zero, Nat.add_zero]
  rw [if_pos (by omega), SX.join_S, join_ones]
theorem names_lc {ns : List Int} {F : FV} {dv : Int → Int → Int} (hF : DrS ns F dv) {a m h : Int} (hh : 0 ≤ h) (xs : List (List Nat)) (s5 s8 : Sl) (z : Nat) (hz : z < 1000) :
    eLc [9] (iR1 (eVar 7)) (gtN 9) tYesV (e2 gIx (oSlot 3) (oE (eCall 3 F (aCons (oSlot 0) (aCons (oE (e2 gAdd (oE (e2 gAdd (oSlot 6) (oE (eC (.int 1))))) (oSlot 9))) (aCons (oE (eC (.int 26))) aNil)))))) (lenv ns a m xs s5 (.val (.int h)) (.val (.int z)) s8)
      = some (.ok (.lst true (((List.range z).map (ltr dv h)).map fun c => nmD [c])), lenv ns a m xs s5 (.val (.int h)) (.val (.int z)) s8) := by
  have e := lcGo_map (vs := [9]) (g := gtN 9) (t := tYesV) (fe := (e2 gIx (oSlot 3) (oE (eCall 3 F (aCons (oSlot 0) (aCons (oE (e2 gAdd (oE (e2 gAdd (oSlot 6) (oE (eC (.int 1))))) (oSlot 9))) (aCons (oE (eC (.int 26))) aNil)))))))
    (ρ := lenv ns a m xs s5 (.val (.int h)) (.val (.int z)) s8) (fun d => match d with | .int i => nmD [ltr dv h i.toNat] | d => d) ((List.range z).map fun (i : Nat) => D.int (i : Int)) [] ?_
  · have hsz : ((List.range z).map fun (i : Nat) => D.int (i : Int)).length ≤ sizeLine := by
      rw [List.length_map, List.length_range]; exact Nat.le_trans (Nat.le_of_lt hz) (by decide)
    have hit : iR1 (eVar 7) (lenv ns a m xs s5 (.val (.int h)) (.val (.int z)) s8) = some (.ok ((List.range z).map fun (i : Nat) => D.int (i : Int)), lenv ns a m xs s5 (.val (.int h)) (.val (.int z)) s8) := by
      exact iR1_run (j := z) (by simp only [eVar_ap, lookS, look0, fz_int, if_true]) (rng_map z hz)
    rw [eLc_run hit hsz e]
    simp only [List.nil_append, List.map_map]
    rfl
  · intro d hd
    obtain ⟨i, hi, rfl⟩ := List.mem_map.mp hd
    obtain ⟨d1, d2, d3⟩ := hF (h + 1 + i) (26) (by omega) (by omega)
    have ix := ix_letters d2 d3
    have r : En := [.val (scr ns)]
    refine ⟨[.val (scr ns), .val (.int a), .val (.int m), .val (.str (Str.ofString "abcdefghijklmnopqrstuvwxyz")), .val (.lst true (xs.map nmD)), s5, .val (.int h), .val (.int z), s8, .val (.int i)], [.val (scr ns), .val (.int a), .val (.int m), .val (.str (Str.ofString "abcdefghijklmnopqrstuvwxyz")), .val (.lst true (xs.map nmD)), s5, .val (.int h), .val (.int z), s8, .val (.int i)], [.val (scr ns), .val (.int a), .val (.int m), .val (.str (Str.ofString "abcdefghijklmnopqrstuvwxyz")), .val (.lst true (xs.map nmD)), s5, .val (.int h), .val (.int z), s8, .val (.int i)], nmD [97 + (dv (h + 1 + i) 26).toNat], rfl, rfl, ?_, ?_, ?_⟩
    · simp only [e2_ap, bd_ap, oSlot_ap, oE_ap, eC_ap, lookS, look0, eCall_ap, aCons_ap, aNil_ap, fin2_ap, res_slot, res_tmp, gAdd_i, List.set, List.length_cons, List.length_nil, Nat.zero_add, Nat.reduceAdd, if_true, finF_ap, takeA_slot, takeA_tmp, takeA_nil, d1, giveA_slot, giveA_tmp, giveA_nil, ix, List.getElem?_cons_zero]
    · rfl
    · rfl

theorem names_body_ok {ns : List Int} {F : FV} {dv : Int → Int → Int} (hF : DrS ns F dv) {a m : Int} (ha : 0 ≤ a) (xs : List (List Nat)) (hx : xs.length < 26) (hP : ∀ j l, xs[j]? = some l → Nm j l) (hn : xs.Nodup) (s6 s7 s8 : Sl) (f6 : Fr s6) (f7 : Fr s7) (f8 : Fr s8) :
    ∃ (l : List Nat) (s6' s7' s8' : Sl), Nm xs.length l ∧ l ∉ xs ∧ Fr s6' ∧ Fr s7' ∧ Fr s8' ∧
    (sSeq (sAsg (gtN 6) (e2 gAdd (oSlot 1) (oE (e2 gMul (oE (eC (.int 4))) (oSlot 5)))))
  (sSeq (sAsg (gtN 7) (e2 gAdd (oE (eC (.int 1))) (oE (eCall 3 F (aCons (oSlot 0) (aCons (oSlot 6) (aCons (oE (eC (.int 3))) aNil)))))))
  (sSeq (sAsg (gtN 8) (e2 gJoin (oStr (eC (.str ""))) (oE (eLc [9] (iR1 (eVar 7)) (gtN 9) tYesV (e2 gIx (oSlot 3) (oE (eCall 3 F (aCons (oSlot 0) (aCons (oE (e2 gAdd (oE (e2 gAdd (oSlot 6) (oE (eC (.int 1))))) (oSlot 9))) (aCons (oE (eC (.int 26))) aNil))))))))))
  (sSeq (sWhile (tE (e2 gIn (oSlot 8) (oSlot 4))) (sAsg (gtN 8) (eIf (tE (e2 gLt (oE (e1 gLen (oSlot 8))) (oE (eC (.int 6))))) (e2 gAdd (oSlot 8) (oE (e2 gIx (oSlot 3) (oE (e2 gMod (oE (e1 gLen (oSlot 4))) (oE (eC (.int 26)))))))) (e2 gAdd (oE (e2 gIx (oSlot 3) (oSlot 5))) (oE (e2 gIx (oSlot 3) (oE (e2 gMod (oE (e1 gLen (oSlot 4))) (oE (eC (.int 26)))))))))) 100)
  (sApp 4 (eVar 8)))))) (lenv ns a m xs (.val (.int xs.length)) s6 s7 s8) = some (.nx, lenv ns a m (xs ++ [l]) (.val (.int xs.length)) s6' s7' s8') := by
  have hh : (0 : Int) ≤ a + 4 * xs.length := by omega
  obtain ⟨d1, d2, d3⟩ := hF (a + 4 * xs.length) 3 hh (by omega)
  generalize hz : dv (a + 4 * xs.length) 3 = v at d1 d2 d3
  obtain ⟨z, rfl⟩ : ∃ z : Nat, v = z := ⟨v.toNat, by omega⟩
  have hzz : (1 : Int) + (z : Int) = ((1 + z : Nat) : Int) := by omega
  have lc := names_lc hF (a := a) (m := m) hh xs (.val (.int xs.length)) s8 (1 + z) (by omega)
  have hN : Nm xs.length ((List.range (1 + z)).map (ltr dv (a + 4 * xs.length))) := by
    refine ⟨by simp, by simp; omega, ?_, ?_⟩
    · intro c hc
      obtain ⟨p, _, rfl⟩ := List.mem_map.mp hc
      obtain ⟨_, e2, e3⟩ := hF (a + 4 * xs.length + 1 + p) (26) (by omega) (by omega)
      unfold ltr
      omega
    · intro h4; simp at h4; omega
  obtain ⟨l, h1, h2, h3⟩ := names_loop ns a m xs.length xs (.val (.int (a + 4 * xs.length))) (.val (.int (1 + z : Nat))) hx hP 99 _ (by omega) hN
  refine ⟨l, .val (.int (a + 4 * xs.length)), .val (.int (1 + z : Nat)), .val (nmD l), h1, h2, .val _, .val _, .val _, ?_⟩
  have s4 : small 4 = true := by decide
  have m4 : gMul (.int 4) (.int (xs.length : Int)) = some (.int (4 * xs.length)) := by simp only [gMul, s4, true_or, if_true]
  have jn := join_nm ((List.range (1 + z)).map (ltr dv (a + 4 * xs.length))) (by simp; omega) true
  refine sSeq_run (ρ1 := lenv ns a m xs (.val (.int xs.length)) (.val (.int (a + 4 * xs.length))) s7 s8) (sAsgN_run (d := .int (a + 4 * xs.length)) ?_ (by simp only [asgS, asg_fr f6, Option.map_some])) ?_
  · exact e2_run (oSlot_run rfl) (oE_run (e2_run (oE_run (eC_ap _)) (oSlot_run rfl) rfl rfl m4)) rfl rfl (gAdd_i _ _)
  refine sSeq_run (ρ1 := lenv ns a m xs (.val (.int xs.length)) (.val (.int (a + 4 * xs.length))) (.val (.int (1 + z : Nat))) s8) (sAsgN_run (d := .int (1 + z : Nat)) ?_ (by simp only [asgS, asg_fr f7, Option.map_some])) ?_
  · rw [← hzz]
    exact e2_run (oE_run (eC_ap _)) (oE_run (eCall_run (aCons_run (oSlot_run rfl) (aCons_run (oSlot_run rfl) (aCons_run (oE_run (eC_ap _)) aNil_ap))) rfl rfl d1 rfl)) rfl rfl (gAdd_i _ _)
  refine sSeq_run (ρ1 := lenv ns a m xs (.val (.int xs.length)) (.val (.int (a + 4 * xs.length))) (.val (.int (1 + z : Nat))) (.val (nmD ((List.range (1 + z)).map (ltr dv (a + 4 * xs.length)))))) (sAsgN_run (d := nmD ((List.range (1 + z)).map (ltr dv (a + 4 * xs.length)))) ?_ (by simp only [asgS, asg_fr f8, Option.map_some])) ?_
  · refine e2_run (a := .tmp (.str (Str.ofString ""))) ?_ (oE_run lc) rfl rfl jn
    simp only [oStr_ap, bd_ap, eC_ap]
  refine sSeq_run h3 ?_
  have hsz : (xs.map nmD).length < sizeLine := by
    rw [List.length_map]; exact Nat.lt_of_lt_of_le hx (by decide)
  have hfz : fzd (nmD l) = nmD l := rfl
  show sApp 4 (eVar 8) _ = _
  rw [sApp_run (d := nmD l) rfl rfl rfl hsz, hfz]
  show some (Fl.nx, [_, _, _, _, Sl.val (.lst true (xs.map nmD ++ [nmD l])), _, _, _, _, _]) = _
  rw [show xs.map nmD ++ [nmD l] = (xs ++ [l]).map nmD by simp]

theorem names_for {ns : List Int} {F : FV} {dv : Int → Int → Int} (hF : DrS ns F dv) {a m : Int} (ha : 0 ≤ a) {b : SV} (hb : b = (sSeq (sAsg (gtN 6) (e2 gAdd (oSlot 1) (oE (e2 gMul (oE (eC (.int 4))) (oSlot 5)))))
  (sSeq (sAsg (gtN 7) (e2 gAdd (oE (eC (.int 1))) (oE (eCall 3 F (aCons (oSlot 0) (aCons (oSlot 6) (aCons (oE (eC (.int 3))) aNil)))))))
  (sSeq (sAsg (gtN 8) (e2 gJoin (oStr (eC (.str ""))) (oE (eLc [9] (iR1 (eVar 7)) (gtN 9) tYesV (e2 gIx (oSlot 3) (oE (eCall 3 F (aCons (oSlot 0) (aCons (oE (e2 gAdd (oE (e2 gAdd (oSlot 6) (oE (eC (.int 1))))) (oSlot 9))) (aCons (oE (eC (.int 26))) aNil))))))))))
  (sSeq (sWhile (tE (e2 gIn (oSlot 8) (oSlot 4))) (sAsg (gtN 8) (eIf (tE (e2 gLt (oE (e1 gLen (oSlot 8))) (oE (eC (.int 6))))) (e2 gAdd (oSlot 8) (oE (e2 gIx (oSlot 3) (oE (e2 gMod (oE (e1 gLen (oSlot 4))) (oE (eC (.int 26)))))))) (e2 gAdd (oE (e2 gIx (oSlot 3) (oSlot 5))) (oE (e2 gIx (oSlot 3) (oE (e2 gMod (oE (e1 gLen (oSlot 4))) (oE (eC (.int 26)))))))))) 100)
  (sApp 4 (eVar 8))))))) : ∀ (n : Nat) (xs : List (List Nat)) (s5 s6 s7 s8 : Sl), xs.length + n ≤ 26 → (∀ j l, xs[j]? = some l → Nm j l) → xs.Nodup → Fr s5 → Fr s6 → Fr s7 → Fr s8 →
    ∃ (ys : List (List Nat)) (s5' s6' s7' s8' : Sl), ys.length = xs.length + n ∧ (∀ j l, ys[j]? = some l → Nm j l) ∧ ys.Nodup ∧
      forL (gtN 5) b ((List.range' xs.length n).map fun (i : Nat) => D.int (i : Int)) (lenv ns a m xs s5 s6 s7 s8) = some (.nx, lenv ns a m ys s5' s6' s7' s8')
  | 0, xs, s5, s6, s7, s8, hn, hP, hd, f5, f6, f7, f8 => ⟨xs, s5, s6, s7, s8, rfl, hP, hd, rfl⟩
  | n + 1, xs, s5, s6, s7, s8, hn, hP, hd, f5, f6, f7, f8 => by
    obtain ⟨l, s6', s7', s8', h1, h2, g6, g7, g8, h3⟩ := names_body_ok hF (m := m) ha xs (by omega) hP hd s6 s7 s8 f6 f7 f8
    obtain ⟨ys, t5, t6, t7, t8, k1, k2, k3, k4⟩ := names_for hF (m := m) ha hb n (xs ++ [l]) (.val (.int xs.length)) s6' s7' s8' (by simp; omega) (fun j r hj => by
      rcases Nat.lt_or_ge j xs.length with h | h
      · rw [List.getElem?_append_left h] at hj; exact hP j r hj
      · rw [List.getElem?_append_right h] at hj
        have e : j - xs.length = 0 := by
          rcases Nat.eq_zero_or_pos (j - xs.length) with e | e
          · exact e
          · rw [List.getElem?_eq_none (by simp; omega)] at hj; cases hj
        rw [e] at hj
        simp at hj
        have : j = xs.length := by omega
        subst hj; subst this; exact h1) (List.nodup_append.mpr ⟨hd, by simp, fun a' ha' b' hb' => by simp at hb'; subst hb'; intro e; subst e; exact h2 ha'⟩) (.val _) g6 g7 g8
    refine ⟨ys, t5, t6, t7, t8, by simp at k1; omega, k2, k3, ?_⟩
    rw [List.range'_succ, List.map_cons]
    have e : gtN 5 (.int (xs.length : Int)) (lenv ns a m xs s5 s6 s7 s8) = some (lenv ns a m xs (.val (.int xs.length)) s6 s7 s8) := by
      simp only [gtN_ap, asgS, asg_fr f5, Option.map_some]
    rw [← hb] at h3
    simp only [List.length_append, List.length_cons, List.length_nil, Nat.zero_add] at k4
    exact forL_nx e h3 k4
/-- what names promise -/
def NmS (ns : List Int) (F : FV) : Prop := ∀ (a : Int) (m : Nat), 0 ≤ a → m ≤ 26 → ∃ ys : List (List Nat), ys.length = m ∧ (∀ j l, ys[j]? = some l → Nm j l) ∧ ys.Nodup ∧ F [scr ns, .int a, .int m] = some (.ok (.lst true (ys.map nmD)), [scr ns, .int a, .int m])
theorem names_ok {ns : List Int} (hF : DrS ns f__law_drawn (dr ns)) : NmS ns f__law_names := by
  intro a m ha hm
  obtain ⟨ys, t5, t6, t7, t8, k1, k2, k3, k4⟩ := names_for hF (m := m) ha rfl m [] .no .no .no .no (by simp; omega) (fun j l h => by simp at h) List.nodup_nil .no .no .no .no
  refine ⟨ys, by simpa using k1, k2, k3, ?_⟩
  refine fnD_rt rfl (by simp) (ρ' := [.val (scr ns), .val (.int a), .val (.int m), .val (.str (Str.ofString "abcdefghijklmnopqrstuvwxyz")), .no, t5, t6, t7, t8, .no]) ?_ (by simp)
  unfold b__law_names
  refine sSeq_run (ρ1 := [.val (scr ns), .val (.int a), .val (.int m), .val (.str (Str.ofString "abcdefghijklmnopqrstuvwxyz")), .no, .no, .no, .no, .no, .no]) rfl ?_
  refine sSeq_run (ρ1 := lenv ns a m [] .no .no .no .no) rfl ?_
  refine sSeq_run (ρ1 := lenv ns a m ys t5 t6 t7 t8) ?_ rfl
  have hr : iR1 (eVar 2) (lenv ns a m [] .no .no .no .no) = some (.ok ((List.range m).map fun (i : Nat) => D.int (i : Int)), lenv ns a m [] .no .no .no .no) := iR1_run (j := m) (by simp only [eVar_ap, lookS, look0, fz_int, if_true]) (rng_map m (by omega))
  rw [sFor_ap, hr]
  rw [List.range_eq_range']
  exact k4
end L2.Ev.W
namespace L2.Ev.W
open PySem PySem.Spec PyProof.Rows
theorem cut5 {α : Type} (u v : Nat) (ys : List α) (h : ys.length = u + v + 6) : ∃ (L : List α) (p : α) (R : List α) (q : α) (B : List α), ys = L ++ p :: (R ++ q :: B) ∧ L.length = u ∧ R.length = v ∧ B.length = 4 := by
  have hu : u < ys.length := by omega
  have hv : v < (ys.drop (u + 1)).length := by simp; omega
  refine ⟨ys.take u, ys[u], (ys.drop (u + 1)).take v, (ys.drop (u + 1))[v], (ys.drop (u + 1)).drop (v + 1), ?_, by simp; omega, by simp; omega, by simp; omega⟩
  rw [← List.drop_eq_getElem_cons hv, List.take_append_drop, ← List.drop_eq_getElem_cons hu, List.take_append_drop]
/-- two sides and the four beside them -/
structure Sd (L : List (List Nat)) (p : List Nat) (R : List (List Nat)) (q : List Nat) (B : List (List Nat)) : Prop where
  l0 : 6 ≤ L.length
  l1 : L.length ≤ 9
  r0 : 6 ≤ R.length
  r1 : R.length ≤ 8
  b : B.length = 4
  nd : (L ++ p :: (R ++ q :: B)).Nodup
  nm : ∀ l ∈ L ++ p :: (R ++ q :: B), ∃ j, Nm j l
abbrev sideD (L : List (List Nat)) (p : List Nat) : D := .tup [.tup (L.map nmD), nmD p]
/-- what sides promise -/
def SdS (ns : List Int) (F : FV) : Prop := ∀ a : Int, 0 ≤ a → ∃ L p R q B, Sd L p R q B ∧ F [scr ns, .int a] = some (.ok (.tup [sideD L p, sideD R q, .lst false (B.map nmD)]), [scr ns, .int a])
theorem sides_run {ns : List Int} {F G : FV} {dv : Int → Int → Int} (hF : DrS ns F dv) (hG : NmS ns G) (a : Int) (ha : 0 ≤ a) : ∃ L p R q B ρ', Sd L p R q B ∧ 2 ≤ ρ'.length ∧
  (sSeq (sPar 2 3 (lCons (e2 gAdd (oE (eC (.int 6))) (oE (eCall 3 F (aCons (oSlot 0) (aCons (oSlot 1) (aCons (oE (eC (.int 4))) aNil)))))) (lCons (e2 gAdd (oE (eC (.int 6))) (oE (eCall 3 F (aCons (oSlot 0) (aCons (oE (e2 gAdd (oSlot 1) (oE (eC (.int 1))))) (aCons (oE (eC (.int 3))) aNil)))))) lNil)))
  (sSeq (sAsg (gtN 4) (eCall 3 G (aCons (oSlot 0) (aCons (oE (e2 gAdd (oSlot 1) (oE (eC (.int 2))))) (aCons (oE (e2 gAdd (oE (e2 gAdd (oSlot 2) (oSlot 3))) (oE (eC (.int 6))))) aNil)))))
  (sSeq (sAsg (gtN 5) (eTup (lCons (e1 gTuple (oE (eSl (oSlot 4) pNo (pAt (eVar 2))))) (lCons (e2 gIx (oSlot 4) (oSlot 2)) lNil))))
  (sSeq (sAsg (gtN 6) (eTup (lCons (e1 gTuple (oE (eSl (oSlot 4) (pAt (e2 gAdd (oSlot 2) (oE (eC (.int 1))))) (pAt (e2 gAdd (oE (e2 gAdd (oSlot 2) (oE (eC (.int 1))))) (oSlot 3)))))) (lCons (e2 gIx (oSlot 4) (oE (e2 gAdd (oE (e2 gAdd (oSlot 2) (oE (eC (.int 1))))) (oSlot 3)))) lNil))))
  (sRet (eTup (lCons (eVar 5) (lCons (eVar 6) (lCons (eSl (oSlot 4) (pAt (e2 gAdd (oE (e2 gAdd (oSlot 2) (oE (eC (.int 2))))) (oSlot 3))) pNo) lNil))))))))) [.val (scr ns), .val (.int a), .no, .no, .no, .no, .no] = some (.rt (.tup [sideD L p, sideD R q, .lst false (B.map nmD)]), ρ') := by
  obtain ⟨d1, d2, d3⟩ := hF a 4 ha (by omega)
  obtain ⟨e1', e2', e3'⟩ := hF (a + 1) 3 (by omega) (by omega)
  generalize dv a 4 = x at d1 d2 d3
  generalize dv (a + 1) 3 = y at e1' e2' e3'
  obtain ⟨u, hu⟩ : ∃ u : Nat, 6 + x = u := ⟨(6 + x).toNat, by omega⟩
  obtain ⟨v, hv⟩ : ∃ v : Nat, 6 + y = v := ⟨(6 + y).toNat, by omega⟩
  obtain ⟨ys, n1, n2, n3, n4⟩ := hG (a + 2) (u + v + 6) (by omega) (by omega)
  obtain ⟨L, p, R, q, B, rfl, hL, hR, hB⟩ := cut5 u v ys n1
  have sd : Sd L p R q B := ⟨by omega, by omega, by omega, by omega, hB, n3, fun l hl => by
    obtain ⟨j, hj⟩ := List.mem_iff_getElem?.mp hl
    exact ⟨j, n2 j l hj⟩⟩
  have em : (L ++ p :: (R ++ q :: B)).map nmD = L.map nmD ++ nmD p :: (R.map nmD ++ nmD q :: B.map nmD) := by simp
  generalize hN : (L ++ p :: (R ++ q :: B)).map nmD = N at n4 em
  have hlen : N.length = u + v + 6 := by rw [← hN]; simpa using n1
  have c1 : gSl (.lst true N) none (some (u : Int)) = some (.lst true (L.map nmD)) := by
    show some (D.lst true (cutD N none (some (u : Int)))) = _
    rw [cutD_to _ _ (by omega), em, List.take_left' (by simpa using hL)]
  have c2 : gIx (.lst true N) (.int (u : Int)) = some (nmD p) := by
    show ixB N (u : Int) = _
    rw [ixB_nat _ _ (by omega), em, List.getElem?_append_right (by simp; omega)]
    simp [hL]
  have c3 : gSl (.lst true N) (some ((u : Int) + 1)) (some ((u : Int) + 1 + v)) = some (.lst true (R.map nmD)) := by
    show some (D.lst true (cutD N (some ((u : Int) + 1)) (some ((u : Int) + 1 + v)))) = _
    rw [show (u : Int) + 1 = ((u + 1 : Nat) : Int) by omega, show ((u + 1 : Nat) : Int) + v = ((u + 1 + v : Nat) : Int) by omega, cutD_mid _ _ _ (by omega) (by omega), em]
    rw [show L.map nmD ++ nmD p :: (R.map nmD ++ nmD q :: B.map nmD) = (L.map nmD ++ [nmD p]) ++ (R.map nmD ++ nmD q :: B.map nmD) by simp, List.drop_left' (by simp; omega), List.take_left' (by simp; omega)]
  have c4 : gIx (.lst true N) (.int ((u : Int) + 1 + v)) = some (nmD q) := by
    show ixB N ((u : Int) + 1 + v) = _
    rw [show (u : Int) + 1 + v = ((u + 1 + v : Nat) : Int) by omega, ixB_nat _ _ (by omega), em]
    rw [show L.map nmD ++ nmD p :: (R.map nmD ++ nmD q :: B.map nmD) = (L.map nmD ++ nmD p :: R.map nmD) ++ nmD q :: B.map nmD by simp]
    rw [List.getElem?_append_right (by simp; omega), show u + 1 + v - (L.map nmD ++ nmD p :: R.map nmD).length = 0 by simp; omega]
    rfl
  have c5 : gSl (.lst true N) (some ((u : Int) + 2 + v)) none = some (.lst true (B.map nmD)) := by
    show some (D.lst true (cutD N (some ((u : Int) + 2 + v)) none)) = _
    rw [show (u : Int) + 2 + v = ((u + 2 + v : Nat) : Int) by omega, cutD_from _ _ (by omega), em]
    rw [show L.map nmD ++ nmD p :: (R.map nmD ++ nmD q :: B.map nmD) = (L.map nmD ++ nmD p :: (R.map nmD ++ [nmD q])) ++ B.map nmD by simp, List.drop_left' (by simp; omega)]
  have hm : ((u + v + 6 : Nat) : Int) = (u : Int) + v + 6 := by omega
  rw [hm] at n4
  refine ⟨L, p, R, q, B, [.val (scr ns), .val (.int a), .val (.int u), .val (.int v), .val (.lst true N), .val (sideD L p), .val (sideD R q)], sd, by simp, ?_⟩
  refine sSeq_run (ρ1 := [.val (scr ns), .val (.int a), .val (.int u), .val (.int v), .no, .no, .no]) ?_ ?_
  · rw [← hu, ← hv]
    exact sPar_run (lCons_run (e2_run (oE_run (eC_ap _)) (oE_run (eCall_run (aCons_run (oSlot_run rfl) (aCons_run (oSlot_run rfl) (aCons_run (oE_run (eC_ap _)) aNil_ap))) rfl rfl d1 rfl)) rfl rfl (gAdd_i _ _))
      (lCons_run (e2_run (oE_run (eC_ap _)) (oE_run (eCall_run (aCons_run (oSlot_run rfl) (aCons_run (oE_run (e2_run (oSlot_run rfl) (oE_run (eC_ap _)) rfl rfl (gAdd_i _ _))) (aCons_run (oE_run (eC_ap _)) aNil_ap))) rfl rfl e1' rfl)) rfl rfl (gAdd_i _ _)) lNil_ap)) rfl rfl
  refine sSeq_run (ρ1 := [.val (scr ns), .val (.int a), .val (.int u), .val (.int v), .val (.lst true N), .no, .no]) ?_ ?_
  · exact sAsgN_run (eCall_run (aCons_run (oSlot_run rfl) (aCons_run (oE_run (e2_run (oSlot_run rfl) (oE_run (eC_ap _)) rfl rfl (gAdd_i _ _))) (aCons_run (oE_run (e2_run (oE_run (e2_run (oSlot_run rfl) (oSlot_run rfl) rfl rfl (gAdd_i _ _))) (oE_run (eC_ap _)) rfl rfl (gAdd_i _ _))) aNil_ap))) rfl rfl n4 rfl) rfl
  refine sSeq_run (ρ1 := [.val (scr ns), .val (.int a), .val (.int u), .val (.int v), .val (.lst true N), .val (sideD L p), .no]) ?_ ?_
  · exact sAsgN_run (eTup_run (lCons_run (e1_run (oE_run (eSl_run (oSlot_run rfl) pNo_ap (pAt_run (eVar_run rfl rfl)) rfl c1)) rfl rfl) (lCons_run (e2_run (oSlot_run rfl) (oSlot_run rfl) rfl rfl c2) lNil_ap)) (by simp)) rfl
  refine sSeq_run (ρ1 := [.val (scr ns), .val (.int a), .val (.int u), .val (.int v), .val (.lst true N), .val (sideD L p), .val (sideD R q)]) ?_ ?_
  · exact sAsgN_run (eTup_run (lCons_run (e1_run (oE_run (eSl_run (oSlot_run rfl) (pAt_run (e2_run (oSlot_run rfl) (oE_run (eC_ap _)) rfl rfl (gAdd_i _ _))) (pAt_run (e2_run (oE_run (e2_run (oSlot_run rfl) (oE_run (eC_ap _)) rfl rfl (gAdd_i _ _))) (oSlot_run rfl) rfl rfl (gAdd_i _ _))) rfl c3)) rfl rfl) (lCons_run (e2_run (oSlot_run rfl) (oE_run (e2_run (oE_run (e2_run (oSlot_run rfl) (oE_run (eC_ap _)) rfl rfl (gAdd_i _ _))) (oSlot_run rfl) rfl rfl (gAdd_i _ _))) rfl rfl c4) lNil_ap)) (by simp)) rfl
  exact sRet_run (eTup_run (lCons_runz (eVar_run rfl rfl) (fzd_of rfl) (lCons_runz (eVar_run rfl rfl) (fzd_of rfl) (lCons_runz (eSl_run (oSlot_run rfl) (pAt_run (e2_run (oE_run (e2_run (oSlot_run rfl) (oE_run (eC_ap _)) rfl rfl (gAdd_i _ _))) (oSlot_run rfl) rfl rfl (gAdd_i _ _))) pNo_ap rfl c5) (fzd_lst _ _) lNil_ap))) (by simp))
theorem sides_ok {ns : List Int} (hl : ns.length ≤ 63) : SdS ns f__law_sides := by
  intro a ha
  have hF : DrS ns f__law_drawn (dr ns) := fun k m hk hm => dr_spec hl hk hm
  obtain ⟨L, p, R, q, B, ρ', h1, h2, h3⟩ := sides_run hF (names_ok hF) a ha
  exact ⟨L, p, R, q, B, h1, fnD_rt rfl (by simp) h3 h2⟩
end L2.Ev.W
namespace L2.Ev.W
open PySem PySem.Spec PyProof.Rows
/-! ### is_name -/
def okC (c : Nat) : Bool := decide (97 ≤ c ∧ c < 123)
def isN : D → Bool
  | .str s => decide (1 ≤ s.cps.toList.length ∧ s.cps.toList.length ≤ 6) && s.cps.toList.all okC
  | _ => false
/-- what is_name is asked -/
def okd : D → Bool
  | .str s => decide (s.length ≤ 1000)
  | .non => true
  | .int _ => true
  | .bl _ => true
  | .tup _ => true
  | _ => false
theorem okd_fz {d : D} (h : okd d = true) : d.fz = true := by cases d <;> simp_all [okd]
theorem in_letters (c : Nat) : gIn (.str ⟨#[c]⟩) (.str (Str.ofString "abcdefghijklmnopqrstuvwxyz")) = some (.bl (okC c)) := by
  rw [letters_eq]
  have e : decide (c ∈ (SX.S (List.range' 97 26)).cps.toList) = okC c := by
    unfold okC
    rw [decide_eq_decide]
    show c ∈ List.range' 97 26 ↔ _
    rw [List.mem_range'_1]
  simp only [gIn, inB, e]
def NaS (F : FV) : Prop := ∀ d, okd d = true → F [d] = some (.ok (.bl (isN d)), [d])
theorem isi_str (s : Str) : gIsi "str" (.str s) = some (.bl true) := by simp [gIsi, isiT, tyN]
theorem name_ok : NaS f_is_name := by
  intro d hd
  have no : ∀ d : D, okd d = true → gIsi "str" d = some (.bl false) → isN d = false → f_is_name [d] = some (.ok (.bl (isN d)), [d]) := by
    intro d hd hi hn
    rw [hn]
    refine fnD_rt (ρ' := [.val d, .no]) rfl (by simpa using okd_fz hd) ?_ (by simp)
    exact sRet_run (eAnd2_f (e1_run (oSlot_run rfl) rfl hi))
  cases d with
  | non => exact no _ hd (by simp [gIsi, isiT, tyN]) rfl
  | bl b => exact no _ hd (by simp [gIsi, isiT, tyN]) rfl
  | int i => exact no _ hd (by simp [gIsi, isiT, tyN]) rfl
  | tup xs => exact no _ hd (by simp [gIsi, isiT, tyN]) rfl
  | str s =>
    refine fnD_rt (ρ' := [.val (.str s), .no]) rfl (by simp) ?_ (by simp)
    have hs : s.length ≤ 1000 := of_decide_eq_true hd
    have hl : gLen (.str s) = some (.int s.length) := by
      show (if s.length ≤ sizeLine then _ else none) = _
      rw [if_pos (Nat.le_trans hs (by decide))]
    have hlen : s.cps.toList.length = s.length := by simp [Str.length]
    refine sRet_run (eAnd2_t (e1_run (oSlot_run rfl) rfl (isi_str s)) ?_)
    by_cases h1 : 1 ≤ s.length
    · have g1 : gLe (.int 1) (.int (s.length : Int)) = some (.bl true) := by rw [gLe_i, decide_eq_true (by omega)]
      have ch := eCh_t (g := gLe) (g' := gLe) (fa := oE (eC (.int 1))) (fb := oE (e1 gLen (oSlot 0))) (fc := oE (eC (.int 6))) (ρ := [.val (.str s), .no]) (oE_run (eC_ap _)) (oE_run (e1_run (oSlot_run rfl) rfl hl)) rfl rfl g1 (oE_run (eC_ap _)) rfl rfl (gLe_i _ _)
      by_cases h2 : s.length ≤ 6
      · rw [decide_eq_true (by omega : (s.length : Int) ≤ 6)] at ch
        refine eAnd2_t ch ?_
        have e := lcGo_map (vs := [1]) (g := gtN 1) (t := tYesV) (fe := e2 gIn (oSlot 1) (oE (eC (.str "abcdefghijklmnopqrstuvwxyz")))) (ρ := [.val (.str s), .no]) (fun d => .bl (match d with | .str z => z.cps.toList.all okC | _ => false)) (s.cps.toList.map fun c => .str ⟨#[c]⟩) [] ?_
        · have hsz : (s.cps.toList.map fun c => D.str ⟨#[c]⟩).length ≤ sizeLine := by rw [List.length_map, hlen]; exact Nat.le_trans hs (by decide)
          have lc := eLc_run (vs := [1]) (fi := iE (eVar 0)) (ρ := [.val (.str s), .no]) (ρ1 := [.val (.str s), .no]) (iE_run (eVar_run rfl rfl) rfl) hsz e
          have ha := e1_run (oE_run lc) rfl (all_map (fun d => match d with | .str z => z.cps.toList.all okC | _ => false) true (s.cps.toList.map fun c => .str ⟨#[c]⟩))
          rw [ha]
          have e5 : ((s.cps.toList.map fun c => D.str ⟨#[c]⟩).all fun d => match d with | .str z => z.cps.toList.all okC | _ => false) = s.cps.toList.all okC := by
            rw [List.all_map]; congr 1; funext c; simp
          rw [e5]
          have e6 : isN (.str s) = s.cps.toList.all okC := by
            show (decide (1 ≤ s.cps.toList.length ∧ s.cps.toList.length ≤ 6) && s.cps.toList.all okC) = _
            rw [hlen, decide_eq_true ⟨h1, h2⟩]; rfl
          rw [e6]
        · intro d hd
          obtain ⟨c, hc, rfl⟩ := List.mem_map.mp hd
          refine ⟨[.val (.str s), .val (.str ⟨#[c]⟩)], [.val (.str s), .val (.str ⟨#[c]⟩)], [.val (.str s), .val (.str ⟨#[c]⟩)], .bl (okC c), rfl, rfl, e2_run (oSlot_run rfl) (oE_run (eC_ap _)) rfl rfl (in_letters c), ?_, rfl⟩
          show D.bl (okC c) = D.bl _
          simp
      · rw [decide_eq_false (by omega : ¬ (s.length : Int) ≤ 6)] at ch
        have e6 : isN (.str s) = false := by
          show (decide (1 ≤ s.cps.toList.length ∧ s.cps.toList.length ≤ 6) && s.cps.toList.all okC) = _
          rw [hlen, decide_eq_false (fun h => h2 h.2)]; rfl
        rw [e6]
        exact eAnd2_f ch
    · have g1 : gLe (.int 1) (.int (s.length : Int)) = some (.bl false) := by rw [gLe_i, decide_eq_false (by omega)]
      have e6 : isN (.str s) = false := by
        show (decide (1 ≤ s.cps.toList.length ∧ s.cps.toList.length ≤ 6) && s.cps.toList.all okC) = _
        rw [hlen, decide_eq_false (fun h => h1 h.1)]; rfl
      rw [e6]
      exact eAnd2_f (eCh_f (oE_run (eC_ap _)) (oE_run (e1_run (oSlot_run rfl) rfl hl)) rfl rfl g1)
  | _ => cases hd
end L2.Ev.W
namespace L2.Ev.W
open PySem PySem.Spec PyProof.Rows
/-! ### is_side -/
def sideBody (F : FV) : SV :=
  (sSeq (sIf (tOr2 (tNot1 (tE (e1 (gIsi "tuple") (oSlot 0)))) (tOr2 (tE (e2 gNe (oE (e1 gLen (oSlot 0))) (oE (eC (.int 2))))) (tNot1 (tE (e1 (gIsi "tuple") (oE (e2 gIx (oSlot 0) (oE (eC (.int 0)))))))))) (sRet (eC (.bl false))) sNil)
  (sSeq (sIf (tOr2 (tNot1 (tE (eCh gLe gLe (oE (eC (.int 6))) (oE (e1 gLen (oE (e2 gIx (oSlot 0) (oE (eC (.int 0))))))) (oE (eC (.int 9)))))) (tOr2 (tNot1 (tE (e1 gAll (oE (eLc [1] (iE (e2 gIx (oSlot 0) (oE (eC (.int 0))))) (gtN 1) tYesV (eCall 1 F (aCons (oSlot 1) aNil))))))) (tNot1 (tE (eCall 1 F (aCons (oE (e2 gIx (oSlot 0) (oE (eC (.int 1))))) aNil)))))) (sRet (eC (.bl false))) sNil)
  (sRet (e2 gEq (oE (e1 gLenSet (oE (e2 gAdd (oE (e2 gIx (oSlot 0) (oE (eC (.int 0))))) (oE (eTup (lCons (e2 gIx (oSlot 0) (oE (eC (.int 1)))) lNil))))))) (oE (e2 gAdd (oE (e1 gLen (oE (e2 gIx (oSlot 0) (oE (eC (.int 0))))))) (oE (eC (.int 1)))))))))
theorem isi_tup (xs : List D) : gIsi "tuple" (.tup xs) = some (.bl true) := by simp [gIsi, isiT, tyN]
section
variable {F : FV}
theorem side_1 {d : D} (h : gIsi "tuple" d = some (.bl false)) : sideBody F [.val d, .no] = some (.rt (.bl false), [.val d, .no]) := by
  refine sSeq_rt ?_
  rw [sIf_t (tOr2_t (tNot1_run (b := false) (tE_run (e1_run (oSlot_run rfl) rfl h))))]
  exact sRet_run (eC_ap _)
theorem side_2 {ys : List D} (h : ys.length ≠ 2) : sideBody F [.val (.tup ys), .no] = some (.rt (.bl false), [.val (.tup ys), .no]) := by
  have g : gNe (.int (ys.length : Int)) (.int 2) = some (.bl true) := by
    rw [gNe_i]; congr 2; simp; omega
  refine sSeq_rt ?_
  rw [sIf_t (tOr2_f (tNot1_run (b := true) (tE_run (e1_run (oSlot_run rfl) rfl (isi_tup ys)))) (tOr2_t (tE_run (e2_run (oE_run (e1_run (oSlot_run rfl) rfl (gLen_t ys))) (oE_run (eC_ap _)) rfl rfl g))))]
  exact sRet_run (eC_ap _)
theorem side_3 {x q : D} (h : gIsi "tuple" x = some (.bl false)) : sideBody F [.val (.tup [x, q]), .no] = some (.rt (.bl false), [.val (.tup [x, q]), .no]) := by
  have g : gNe (.int 2) (.int 2) = some (.bl false) := rfl
  refine sSeq_rt ?_
  rw [sIf_t (tOr2_f (tNot1_run (b := true) (tE_run (e1_run (oSlot_run rfl) rfl (isi_tup _)))) (tOr2_f (tE_run (e2_run (oE_run (e1_run (oSlot_run rfl) rfl (gLen_t _))) (oE_run (eC_ap _)) rfl rfl g)) (tNot1_run (b := false) (tE_run (e1_run (oE_run (e2_run (oSlot_run rfl) (oE_run (eC_ap _)) rfl rfl rfl)) rfl h)))))]
  exact sRet_run (eC_ap _)
theorem side_first {xs : List D} {q : D} {r : Option (Fl × En)} {g : SV} (h : g [.val (.tup [.tup xs, q]), .no] = r) : sSeq (sIf (tOr2 (tNot1 (tE (e1 (gIsi "tuple") (oSlot 0)))) (tOr2 (tE (e2 gNe (oE (e1 gLen (oSlot 0))) (oE (eC (.int 2))))) (tNot1 (tE (e1 (gIsi "tuple") (oE (e2 gIx (oSlot 0) (oE (eC (.int 0)))))))))) (sRet (eC (.bl false))) sNil) g [.val (.tup [.tup xs, q]), .no] = r := by
  have g : gNe (.int 2) (.int 2) = some (.bl false) := rfl
  refine sSeq_run (ρ1 := [.val (.tup [.tup xs, q]), .no]) ?_ h
  rw [sIf_f (tOr2_f (tNot1_run (b := true) (tE_run (e1_run (oSlot_run rfl) rfl (isi_tup _)))) (tOr2_f (tE_run (e2_run (oE_run (e1_run (oSlot_run rfl) rfl (gLen_t _))) (oE_run (eC_ap _)) rfl rfl g)) (tNot1_run (b := true) (tE_run (e1_run (oE_run (e2_run (oSlot_run rfl) (oE_run (eC_ap _)) rfl rfl rfl)) rfl (isi_tup xs))))))]
  rfl
/-- all(is_name(name) for name in xs) -/
theorem side_all (hF : NaS F) {xs : List D} {q : D} (hx : ∀ x ∈ xs, okd x = true) (hs : xs.length ≤ 1000) : e1 gAll (oE (eLc [1] (iE (e2 gIx (oSlot 0) (oE (eC (.int 0))))) (gtN 1) tYesV (eCall 1 F (aCons (oSlot 1) aNil)))) [.val (.tup [.tup xs, q]), .no] = some (.ok (.bl (xs.all isN)), [.val (.tup [.tup xs, q]), .no]) := by
  have e := lcGo_map (vs := [1]) (g := gtN 1) (t := tYesV) (fe := eCall 1 F (aCons (oSlot 1) aNil)) (ρ := [.val (.tup [.tup xs, q]), .no]) (fun d => .bl (isN d)) xs [] ?_
  · have lc := eLc_run (vs := [1]) (fi := iE (e2 gIx (oSlot 0) (oE (eC (.int 0))))) (ρ := [.val (.tup [.tup xs, q]), .no]) (ρ1 := [.val (.tup [.tup xs, q]), .no]) (iE_run (e2_run (oSlot_run rfl) (oE_run (eC_ap _)) rfl rfl rfl) rfl) (Nat.le_trans hs (by decide)) e
    exact e1_run (oE_run lc) rfl (all_map isN true xs)
  · intro d hd
    exact ⟨[.val (.tup [.tup xs, q]), .val d], [.val (.tup [.tup xs, q]), .val d], [.val (.tup [.tup xs, q]), .val d], .bl (isN d), rfl, rfl, eCall_run (aCons_run (oSlot_run rfl) aNil_ap) rfl rfl (hF d (hx d hd)) rfl, rfl, rfl⟩
theorem side_4 (hF : NaS F) {xs : List D} {q : D} (hx : ∀ x ∈ xs, okd x = true) (hs : xs.length ≤ 1000) (hq : okd q = true) (hb : ¬ (6 ≤ xs.length ∧ xs.length ≤ 9) ∨ xs.all isN = false ∨ isN q = false) : sideBody F [.val (.tup [.tup xs, q]), .no] = some (.rt (.bl false), [.val (.tup [.tup xs, q]), .no]) := by
  refine side_first ?_
  refine sSeq_rt ?_
  have hl : oE (e1 gLen (oE (e2 gIx (oSlot 0) (oE (eC (.int 0)))))) [.val (.tup [.tup xs, q]), .no] = some (.ok (.tmp (.int xs.length)), [.val (.tup [.tup xs, q]), .no]) := oE_run (e1_run (oE_run (e2_run (oSlot_run rfl) (oE_run (eC_ap _)) rfl rfl rfl)) rfl (gLen_t xs))
  by_cases h6 : 6 ≤ xs.length
  · have g1 : gLe (.int 6) (.int (xs.length : Int)) = some (.bl true) := by rw [gLe_i, decide_eq_true (by omega)]
    by_cases h9 : xs.length ≤ 9
    · have g2 : gLe (.int (xs.length : Int)) (.int 9) = some (.bl true) := by rw [gLe_i, decide_eq_true (by omega)]
      have c1 := tNot1_run (tE_run (eCh_t (g := gLe) (g' := gLe) (oE_run (eC_ap _)) hl rfl rfl g1 (oE_run (eC_ap _)) rfl rfl g2))
      have c2 := tNot1_run (tE_run (side_all hF (q := q) hx hs))
      have c3 : tNot1 (tE (eCall 1 F (aCons (oE (e2 gIx (oSlot 0) (oE (eC (.int 1))))) aNil))) [.val (.tup [.tup xs, q]), .no] = some (.ok (!isN q), [.val (.tup [.tup xs, q]), .no]) :=
        tNot1_run (tE_run (eCall_run (aCons_run (oE_run (e2_run (oSlot_run rfl) (oE_run (eC_ap _)) rfl rfl rfl)) aNil_ap) rfl rfl (hF q hq) rfl))
      rcases hb with hb | hb | hb
      · exact absurd ⟨h6, h9⟩ hb
      · rw [hb] at c2
        rw [sIf_t (tOr2_f c1 (tOr2_t c2))]
        exact sRet_run (eC_ap _)
      · cases ha : xs.all isN
        · rw [ha] at c2
          rw [sIf_t (tOr2_f c1 (tOr2_t c2))]
          exact sRet_run (eC_ap _)
        · rw [ha] at c2
          rw [hb] at c3
          rw [sIf_t (tOr2_f c1 (tOr2_f c2 c3))]
          exact sRet_run (eC_ap _)
    · have g2 : gLe (.int (xs.length : Int)) (.int 9) = some (.bl false) := by rw [gLe_i, decide_eq_false (by omega)]
      rw [sIf_t (tOr2_t (tNot1_run (tE_run (eCh_t (g := gLe) (g' := gLe) (oE_run (eC_ap _)) hl rfl rfl g1 (oE_run (eC_ap _)) rfl rfl g2))))]
      exact sRet_run (eC_ap _)
  · have g1 : gLe (.int 6) (.int (xs.length : Int)) = some (.bl false) := by rw [gLe_i, decide_eq_false (by omega)]
    rw [sIf_t (tOr2_t (tNot1_run (tE_run (eCh_f (g := gLe) (g' := gLe) (oE_run (eC_ap _)) hl rfl rfl g1))))]
    exact sRet_run (eC_ap _)
theorem uniq_dec (ls : List (List Nat)) : ((uniqL (ls.map SX.S)).length = ls.length) ↔ ls.Nodup := by
  have h := uniq_full (ls.map SX.S) []
  simp only [List.length_nil, Nat.zero_add, List.length_map] at h
  show ((ls.map SX.S).foldl uq []).length = ls.length ↔ _
  rw [h]
  constructor
  · intro z
    exact (List.pairwise_map.mp z.1).imp fun h e => h (congrArg SX.S e)
  · intro z
    exact ⟨List.pairwise_map.mpr (z.imp fun h e => h (SX.S_inj e)), fun _ _ m => by cases m⟩
theorem lenset_nm (ls : List (List Nat)) (h : ls.length < 1000) : gLenSet (.tup (ls.map nmD)) = some (.int (uniqL (ls.map SX.S)).length) ∧ ∀ o, gLenSet (.lst o (ls.map nmD)) = some (.int (uniqL (ls.map SX.S)).length) := by
  have e : (ls.map SX.S).length < 1000 := by simpa using h
  constructor
  · simp only [gLenSet, strs_nm, e, if_true]
  · intro o; simp only [gLenSet, strs_nm, e, if_true]
theorem side_5 (hF : NaS F) {ls : List (List Nat)} {l : List Nat} (h6 : 6 ≤ ls.length) (h9 : ls.length ≤ 9) (hx : ∀ x ∈ ls.map nmD, okd x = true) (hq : okd (nmD l) = true) (ha : (ls.map nmD).all isN = true) (hb : isN (nmD l) = true) : sideBody F [.val (sideD ls l), .no] = some (.rt (.bl (decide (ls ++ [l]).Nodup)), [.val (sideD ls l), .no]) := by
  have hs : (ls.map nmD).length ≤ 1000 := by simp; omega
  have hll : (ls.map nmD).length = ls.length := by simp
  have hl : oE (e1 gLen (oE (e2 gIx (oSlot 0) (oE (eC (.int 0)))))) [.val (sideD ls l), .no] = some (.ok (.tmp (.int (ls.map nmD).length)), [.val (sideD ls l), .no]) := oE_run (e1_run (oE_run (e2_run (oSlot_run rfl) (oE_run (eC_ap _)) rfl rfl rfl)) rfl (gLen_t (ls.map nmD)))
  have g1 : gLe (.int 6) (.int ((ls.map nmD).length : Int)) = some (.bl true) := by rw [gLe_i, decide_eq_true (by omega)]
  have g2 : gLe (.int ((ls.map nmD).length : Int)) (.int 9) = some (.bl true) := by rw [gLe_i, decide_eq_true (by omega)]
  have c1 := tNot1_run (tE_run (eCh_t (g := gLe) (g' := gLe) (oE_run (eC_ap _)) hl rfl rfl g1 (oE_run (eC_ap _)) rfl rfl g2))
  have c2 := tNot1_run (tE_run (side_all hF (q := nmD l) hx hs))
  have c3 : tNot1 (tE (eCall 1 F (aCons (oE (e2 gIx (oSlot 0) (oE (eC (.int 1))))) aNil))) [.val (sideD ls l), .no] = some (.ok (!isN (nmD l)), [.val (sideD ls l), .no]) :=
    tNot1_run (tE_run (eCall_run (aCons_run (oE_run (e2_run (oSlot_run rfl) (oE_run (eC_ap _)) rfl rfl rfl)) aNil_ap) rfl rfl (hF (nmD l) hq) rfl))
  rw [ha] at c2
  rw [hb] at c3
  refine side_first (sSeq_run (ρ1 := [.val (sideD ls l), .no]) ?_ ?_)
  · rw [sIf_f (tOr2_f c1 (tOr2_f c2 c3))]; rfl
  have ht : gAdd (.tup (ls.map nmD)) (.tup [nmD l]) = some (.tup ((ls ++ [l]).map nmD)) := by
    rw [gAdd_tt (by simp; omega)]; simp
  have hu := (lenset_nm (ls ++ [l]) (by simp; omega)).1
  have hlen2 : oE (e2 gAdd (oE (e1 gLen (oE (e2 gIx (oSlot 0) (oE (eC (.int 0))))))) (oE (eC (.int 1)))) [.val (sideD ls l), .no] = some (.ok (.tmp (.int ((ls.map nmD).length + 1))), [.val (sideD ls l), .no]) := oE_run (e2_run hl (oE_run (eC_ap _)) rfl rfl (gAdd_i _ _))
  have hset : oE (e1 gLenSet (oE (e2 gAdd (oE (e2 gIx (oSlot 0) (oE (eC (.int 0))))) (oE (eTup (lCons (e2 gIx (oSlot 0) (oE (eC (.int 1)))) lNil)))))) [.val (sideD ls l), .no] = some (.ok (.tmp (.int (uniqL ((ls ++ [l]).map SX.S)).length)), [.val (sideD ls l), .no]) :=
    oE_run (e1_run (oE_run (e2_run (oE_run (e2_run (oSlot_run rfl) (oE_run (eC_ap _)) rfl rfl rfl)) (oE_run (eTup_run (lCons_runz (e2_run (oSlot_run rfl) (oE_run (eC_ap _)) rfl rfl rfl) (fzd_of rfl) lNil_ap) (by simp))) rfl rfl ht)) rfl hu)
  have hd : (((uniqL ((ls ++ [l]).map SX.S)).length : Int) == (((ls.map nmD).length : Int) + 1)) = decide (ls ++ [l]).Nodup := by
    have := uniq_dec (ls ++ [l])
    rw [List.length_append, List.length_singleton] at this
    rw [Bool.eq_iff_iff, beq_iff_eq, decide_eq_true_eq, ← this, hll]
    omega
  rw [← hd]
  exact sRet_run (e2_run hset hlen2 rfl rfl (gEq_i _ _))
end
end L2.Ev.W
namespace L2.Ev.W
open PySem PySem.Spec PyProof.Rows
/-! ### is_bases -/
def baseBody (F : FV) : SV :=
  (sSeq (sIf (tOr2 (tNot1 (tE (e1 (gIsi "tuple") (oSlot 0)))) (tE (e2 gNe (oE (e1 gLen (oSlot 0))) (oE (eC (.int 3)))))) (sRet (eC (.bl false))) sNil)
  (sSeq (sAsg (gtN 1) (eLc [2] (iE (eVar 0)) (gtN 2) (tE (e2 gIsN (oSlot 2) (oE (eC .non)))) (eVar 2)))
  (sRet (eAnd2 (e1 gAll (oE (eLc [3] (iE (eVar 1)) (gtN 3) tYesV (eCall 1 F (aCons (oSlot 3) aNil))))) (e2 gEq (oE (e1 gLenSet (oSlot 1))) (oE (e1 gLen (oSlot 1))))))))
def isSome : D → Bool
  | .non => false
  | _ => true
theorem isn_non (d : D) : gIsN d .non = some (.bl (isSome d)) := by cases d <;> rfl
section
variable {F : FV}
theorem base_1 {d : D} (h : gIsi "tuple" d = some (.bl false)) : baseBody F [.val d, .no, .no, .no] = some (.rt (.bl false), [.val d, .no, .no, .no]) := by
  refine sSeq_rt ?_
  rw [sIf_t (tOr2_t (tNot1_run (b := false) (tE_run (e1_run (oSlot_run rfl) rfl h))))]
  exact sRet_run (eC_ap _)
theorem base_2 {ys : List D} (h : ys.length ≠ 3) : baseBody F [.val (.tup ys), .no, .no, .no] = some (.rt (.bl false), [.val (.tup ys), .no, .no, .no]) := by
  have g : gNe (.int (ys.length : Int)) (.int 3) = some (.bl true) := by
    rw [gNe_i]; congr 2; simp; omega
  refine sSeq_rt ?_
  rw [sIf_t (tOr2_f (tNot1_run (b := true) (tE_run (e1_run (oSlot_run rfl) rfl (isi_tup ys)))) (tE_run (e2_run (oE_run (e1_run (oSlot_run rfl) rfl (gLen_t ys))) (oE_run (eC_ap _)) rfl rfl g)))]
  exact sRet_run (eC_ap _)
theorem base_first {ys : List D} (h3 : ys.length = 3) (hx : ∀ x ∈ ys, okd x = true) {r : Option (Fl × En)} {g : SV} (h : g [.val (.tup ys), .val (.lst true (ys.filter isSome)), .no, .no] = r) :
    sSeq (sIf (tOr2 (tNot1 (tE (e1 (gIsi "tuple") (oSlot 0)))) (tE (e2 gNe (oE (e1 gLen (oSlot 0))) (oE (eC (.int 3)))))) (sRet (eC (.bl false))) sNil)
  (sSeq (sAsg (gtN 1) (eLc [2] (iE (eVar 0)) (gtN 2) (tE (e2 gIsN (oSlot 2) (oE (eC .non)))) (eVar 2))) g) [.val (.tup ys), .no, .no, .no] = r := by
  have g0 : gNe (.int (ys.length : Int)) (.int 3) = some (.bl false) := by rw [h3]; rfl
  refine sSeq_run (ρ1 := [.val (.tup ys), .no, .no, .no]) ?_ ?_
  · rw [sIf_f (tOr2_f (tNot1_run (b := true) (tE_run (e1_run (oSlot_run rfl) rfl (isi_tup ys)))) (tE_run (e2_run (oE_run (e1_run (oSlot_run rfl) rfl (gLen_t ys))) (oE_run (eC_ap _)) rfl rfl g0)))]
    rfl
  refine sSeq_run (ρ1 := [.val (.tup ys), .val (.lst true (ys.filter isSome)), .no, .no]) ?_ h
  have e := lcGo_filt (vs := [2]) (g := gtN 2) (t := tE (e2 gIsN (oSlot 2) (oE (eC .non)))) (fe := eVar 2) (ρ := [.val (.tup ys), .no, .no, .no]) isSome (fun d => d) ys [] ?_
  · rw [List.map_id', List.nil_append] at e
    exact sAsgN_run (eLc_run (vs := [2]) (fi := iE (eVar 0)) (ρ := [.val (.tup ys), .no, .no, .no]) (ρ1 := [.val (.tup ys), .no, .no, .no]) (iE_run (eVar_run rfl rfl) rfl) (by rw [h3]; decide) e) rfl
  · intro d hd
    have hz := okd_fz (hx d hd)
    exact ⟨[.val (.tup ys), .no, .val d, .no], [.val (.tup ys), .no, .val d, .no], rfl, tE_run (e2_run (oSlot_run rfl) (oE_run (eC_ap _)) rfl rfl (isn_non d)), fun _ => rfl, fun _ => ⟨[.val (.tup ys), .no, .val d, .no], d, eVar_run rfl hz, fzd_of hz, rfl⟩⟩
theorem base_all (hF : NaS F) {t : D} {ss : List D} (hx : ∀ x ∈ ss, okd x = true) (hs : ss.length ≤ 1000) : e1 gAll (oE (eLc [3] (iE (eVar 1)) (gtN 3) tYesV (eCall 1 F (aCons (oSlot 3) aNil)))) [.val t, .val (.lst true ss), .no, .no] = some (.ok (.bl (ss.all isN)), [.val t, .val (.lst false ss), .no, .no]) := by
  have e := lcGo_map (vs := [3]) (g := gtN 3) (t := tYesV) (fe := eCall 1 F (aCons (oSlot 3) aNil)) (ρ := [.val t, .val (.lst false ss), .no, .no]) (fun d => .bl (isN d)) ss [] ?_
  · have lc := eLc_run (vs := [3]) (fi := iE (eVar 1)) (ρ := [.val t, .val (.lst true ss), .no, .no]) (ρ1 := [.val t, .val (.lst false ss), .no, .no]) (iE_run (d := .lst false ss) (by simp [eVar_ap, putS, put0]) rfl) (Nat.le_trans hs (by decide)) e
    exact e1_run (oE_run lc) rfl (all_map isN true ss)
  · intro d hd
    exact ⟨[.val t, .val (.lst false ss), .no, .val d], [.val t, .val (.lst false ss), .no, .val d], [.val t, .val (.lst false ss), .no, .val d], .bl (isN d), rfl, rfl, eCall_run (aCons_run (oSlot_run rfl) aNil_ap) rfl rfl (hF d (hx d hd)) rfl, rfl, rfl⟩
theorem base_3 (hF : NaS F) {ys : List D} (h3 : ys.length = 3) (hx : ∀ x ∈ ys, okd x = true) (hb : (ys.filter isSome).all isN = false) : ∃ ρ', 1 ≤ List.length ρ' ∧ baseBody F [.val (.tup ys), .no, .no, .no] = some (.rt (.bl false), ρ') := by
  have ha := base_all hF (t := .tup ys) (ss := ys.filter isSome) (fun x m => hx x (List.mem_filter.mp m).1) (Nat.le_trans (List.length_filter_le _ _) (by omega))
  rw [hb] at ha
  exact ⟨[.val (.tup ys), .val (.lst false (ys.filter isSome)), .no, .no], by simp, base_first h3 hx (sRet_run (eAnd2_f ha))⟩
theorem base_4 (hF : NaS F) {ys : List D} (h3 : ys.length = 3) (hx : ∀ x ∈ ys, okd x = true) {ls : List (List Nat)} (hl : ys.filter isSome = ls.map nmD) (hb : (ls.map nmD).all isN = true) : ∃ ρ', 1 ≤ List.length ρ' ∧ baseBody F [.val (.tup ys), .no, .no, .no] = some (.rt (.bl (decide ls.Nodup)), ρ') := by
  have hlen : ls.length ≤ 3 := by
    have h1 := List.length_filter_le isSome ys
    rw [hl, List.length_map] at h1; omega
  have ha := base_all hF (t := .tup ys) (ss := ys.filter isSome) (fun x m => hx x (List.mem_filter.mp m).1) (Nat.le_trans (List.length_filter_le _ _) (by omega))
  rw [hl] at ha
  rw [hb] at ha
  have hu := (lenset_nm ls (by omega)).2 false
  have hd : (((uniqL (ls.map SX.S)).length : Int) == ((ls.map nmD).length : Int)) = decide ls.Nodup := by
    have := uniq_dec ls
    rw [Bool.eq_iff_iff, beq_iff_eq, decide_eq_true_eq, ← this, List.length_map]
    omega
  rw [← hd]
  refine ⟨[.val (.tup ys), .val (.lst false (ls.map nmD)), .no, .no], by simp, base_first h3 hx ?_⟩
  rw [hl]
  exact sRet_run (eAnd2_t ha (e2_run (oE_run (e1_run (oSlot_run rfl) rfl hu)) (oE_run (e1_run (oSlot_run rfl) rfl (gLen_l _ _))) rfl rfl (gEq_i _ _)))
end
/-! ### what the two promise -/
def SiS (F : FV) (d : D) (b : Bool) : Prop := F [d] = some (.ok (.bl b), [d])
theorem si_of {d : D} {b : Bool} (hz : d.fz = true) (h : sideBody f_is_name [.val d, .no] = some (.rt (.bl b), [.val d, .no])) : SiS f_is_side d b := fnD_rt rfl (by simpa using hz) h (by simp)
theorem ba_of {d : D} {b : Bool} (hz : d.fz = true) (h : ∃ ρ', 1 ≤ List.length ρ' ∧ baseBody f_is_name [.val d, .no, .no, .no] = some (.rt (.bl b), ρ')) : SiS f_is_bases d b := by
  obtain ⟨ρ', h1, h2⟩ := h
  exact fnD_rt rfl (by simpa using hz) h2 h1
end L2.Ev.W
namespace L2.Ev.W
open PySem PySem.Spec PyProof.Rows
theorem isN_nm {j : Nat} {l : List Nat} (h : Nm j l) : isN (nmD l) = true := by
  show (decide (1 ≤ l.length ∧ l.length ≤ 6) && l.all okC) = true
  rw [decide_eq_true ⟨h.lo, by have := h.hi; omega⟩, Bool.true_and, List.all_eq_true]
  intro c hc
  exact decide_eq_true (h.cs c hc)
theorem okd_nm {j : Nat} {l : List Nat} (h : Nm j l) : okd (nmD l) = true := by
  show decide ((SX.S l).length ≤ 1000) = true
  rw [SX.S_len]
  exact decide_eq_true (by have := h.hi; omega)
theorem isN_nm' {l : List Nat} (h : ∃ j, Nm j l) : isN (nmD l) = true := h.elim fun _ h => isN_nm h
theorem okd_nm' {l : List Nat} (h : ∃ j, Nm j l) : okd (nmD l) = true := h.elim fun _ h => okd_nm h
section
variable {L R B : List (List Nat)} {p q : List Nat}
theorem Sd.nmL (h : Sd L p R q B) {l : List Nat} (m : l ∈ L) : ∃ j, Nm j l := h.nm l (List.mem_append_left _ m)
theorem Sd.nmp (h : Sd L p R q B) : ∃ j, Nm j p := h.nm p (by simp)
theorem Sd.nmR (h : Sd L p R q B) {l : List Nat} (m : l ∈ R) : ∃ j, Nm j l := h.nm l (by simp [m])
theorem Sd.nmq (h : Sd L p R q B) : ∃ j, Nm j q := h.nm q (by simp)
theorem okL {X : List (List Nat)} (h : ∀ l ∈ X, ∃ j, Nm j l) : ∀ x ∈ X.map nmD, okd x = true := by
  intro x m
  obtain ⟨l, hl, rfl⟩ := List.mem_map.mp m
  exact okd_nm' (h l hl)
theorem isL {X : List (List Nat)} (h : ∀ l ∈ X, ∃ j, Nm j l) : (X.map nmD).all isN = true := by
  rw [List.all_eq_true]
  intro x m
  obtain ⟨l, hl, rfl⟩ := List.mem_map.mp m
  exact isN_nm' (h l hl)
theorem no_tup {d : D} (h : tyN d ≠ some "tuple") (h2 : (tyN d).isSome = true) : gIsi "tuple" d = some (.bl false) := by
  cases d <;> simp_all [gIsi, isiT, tyN]
theorem si_bad {d : D} (hz : d.fz = true) (h : gIsi "tuple" d = some (.bl false)) : SiS f_is_side d false := si_of hz (side_1 h)
theorem si_len {ys : List D} (h : ys.length ≠ 2) : SiS f_is_side (.tup ys) false := si_of rfl (side_2 h)
theorem si_in {x y : D} (h : gIsi "tuple" x = some (.bl false)) : SiS f_is_side (.tup [x, y]) false := si_of rfl (side_3 h)
theorem si_4 {xs : List D} {y : D} (hx : ∀ x ∈ xs, okd x = true) (hs : xs.length ≤ 1000) (hq : okd y = true) (hb : ¬ (6 ≤ xs.length ∧ xs.length ≤ 9) ∨ xs.all isN = false ∨ isN y = false) : SiS f_is_side (.tup [.tup xs, y]) false := si_of rfl (side_4 name_ok hx hs hq hb)
theorem si_5 {ls : List (List Nat)} {l : List Nat} (h6 : 6 ≤ ls.length) (h9 : ls.length ≤ 9) (hx : ∀ l ∈ ls, ∃ j, Nm j l) (hq : ∃ j, Nm j l) : SiS f_is_side (sideD ls l) (decide (ls ++ [l]).Nodup) := si_of rfl (side_5 name_ok h6 h9 (okL hx) (okd_nm' hq) (isL hx) (isN_nm' hq))
theorem take_nm (h : Sd L p R q B) (k : Nat) : ∀ l ∈ L.take k, ∃ j, Nm j l := fun l m => h.nmL (List.mem_of_mem_take m)
/-- the two sides are sides -/
theorem Sd.away (h : Sd L p R q B) : SiS f_is_side (sideD L p) true := by
  have := si_5 h.l0 h.l1 (fun l m => h.nmL m) h.nmp
  rwa [decide_eq_true] at this
  have := h.nd
  rw [show L ++ p :: (R ++ q :: B) = (L ++ [p]) ++ (R ++ q :: B) by simp] at this
  exact (List.nodup_append.mp this).1
theorem Sd.home (h : Sd L p R q B) : SiS f_is_side (sideD R q) true := by
  have := si_5 h.r0 (by have := h.r1; omega) (fun l m => h.nmR m) h.nmq
  rwa [decide_eq_true] at this
  have := h.nd
  rw [show L ++ p :: (R ++ q :: B) = (L ++ [p]) ++ ((R ++ [q]) ++ B) by simp] at this
  exact (List.nodup_append.mp (List.nodup_append.mp this).2.1).1
/-- the things that are no side -/
theorem bad6 (h : Sd L p R q B) : SiS f_is_side (.tup [.tup (L.map nmD ++ (L.take 1).map nmD), nmD p]) false := by
  have e : L.map nmD ++ (L.take 1).map nmD = (L ++ L.take 1).map nmD := by simp
  have hn : ∀ l ∈ L ++ L.take 1, ∃ j, Nm j l := fun l m => (List.mem_append.mp m).elim (fun m => h.nmL m) (fun m => take_nm h 1 l m)
  have h0 := h.l0
  have h1 := h.l1
  have hl : (L ++ L.take 1).length = L.length + 1 := by simp; omega
  rw [e]
  by_cases h9 : L.length ≤ 8
  · have := si_5 (ls := L ++ L.take 1) (by omega) (by omega) hn h.nmp
    rwa [decide_eq_false] at this
    intro nd
    have nd := (List.nodup_append.mp nd).1
    cases hL : L with
    | nil => rw [hL] at h0; simp at h0
    | cons x xs =>
      rw [hL] at nd
      simp at nd
  · exact si_4 (okL hn) (by simp; omega) (okd_nm' h.nmp) (.inl (by simp; omega))
theorem bad7 (h : Sd L p R q B) (x : List Nat) (hx : x ∈ L) : SiS f_is_side (sideD L x) false := by
  have := si_5 h.l0 h.l1 (fun l m => h.nmL m) (h.nmL hx)
  rwa [decide_eq_false] at this
  intro nd
  exact (List.nodup_append.mp nd).2.2 x hx x (by simp) rfl
theorem bad_arm (h : Sd L p R q B) {y : D} (hy : okd y = true) (hn : isN y = false) : SiS f_is_side (.tup [.tup (L.map nmD), y]) false :=
  si_4 (okL fun l m => h.nmL m) (by have := h.l1; simp; omega) hy (.inr (.inr hn))
theorem bad_in (h : Sd L p R q B) {y : D} (hy : okd y = true) (hn : isN y = false) : SiS f_is_side (.tup [.tup ((L.take 5).map nmD ++ [y]), nmD p]) false := by
  refine si_4 (fun x m => ?_) (by simp; omega) (okd_nm' h.nmp) (.inr (.inl ?_))
  · rcases List.mem_append.mp m with m | m
    · exact okL (take_nm h 5) x m
    · simp at m; subst m; exact hy
  · rw [List.all_append]; simp [hn]
theorem bad5 (h : Sd L p R q B) : SiS f_is_side (.tup [.tup ((L.take 5).map nmD), nmD p]) false :=
  si_4 (okL (take_nm h 5)) (by simp; omega) (okd_nm' h.nmp) (.inl (by simp; omega))
/-! bases -/
theorem ba_bad {d : D} (hz : d.fz = true) (h : gIsi "tuple" d = some (.bl false)) : SiS f_is_bases d false := ba_of hz ⟨_, by simp, base_1 h⟩
theorem ba_len {ys : List D} (h : ys.length ≠ 3) : SiS f_is_bases (.tup ys) false := ba_of rfl ⟨_, by simp, base_2 h⟩
theorem ba_3 {ys : List D} (h3 : ys.length = 3) (hx : ∀ x ∈ ys, okd x = true) (hb : (ys.filter isSome).all isN = false) : SiS f_is_bases (.tup ys) false := ba_of rfl (base_3 name_ok h3 hx hb)
theorem ba_4 {ys : List D} (h3 : ys.length = 3) (hx : ∀ x ∈ ys, okd x = true) {ls : List (List Nat)} (hl : ys.filter isSome = ls.map nmD) (hb : (ls.map nmD).all isN = true) : SiS f_is_bases (.tup ys) (decide ls.Nodup) := ba_of rfl (base_4 name_ok h3 hx hl hb)
end
end L2.Ev.W
namespace L2.Ev.W
open PySem PySem.Spec PyProof.Rows
theorem sIf_fr {t : TV} {f g : SV} {ρ ρ1 : En} {r : Option (Fl × En)} (h : t ρ = some (.ok false, ρ1)) (h2 : g ρ1 = r) : sIf t f g ρ = r := (sIf_f h).trans h2
theorem ne_nil : gNe (.lst true []) (.lst true []) = some (.bl false) := rfl
/-- [thing for thing in X if F(thing) is not False] != [] -/
theorem none_lc {F : FV} {i : Nat} {ρ ρ1 : En} {X : List D} {s : Sl} (hX : ∀ d ∈ X, d.fz = true ∧ F [d] = some (.ok (.bl false), [d])) (hl : X.length ≤ 1000) (hi : iE (eVar i) ρ = some (.ok X, ρ1)) (h7 : ∀ d, asg ρ1 7 d = some (ρ1.set 7 (.val d))) (hn : ρ1.set 7 .no = ρ1) (hlt : 7 < ρ1.length) :
    tE (e2 gNe (oE (eLc [7] (iE (eVar i)) (gtN 7) (tE (e2 gIsN (oE (eCall 1 F (aCons (oSlot 7) aNil))) (oE (eC (.bl false))))) (eVar 7))) (oE (eLst lNil))) ρ = some (.ok false, ρ1) := by
  have e := lcGo_filt (vs := [7]) (g := gtN 7) (t := tE (e2 gIsN (oE (eCall 1 F (aCons (oSlot 7) aNil))) (oE (eC (.bl false))))) (fe := eVar 7) (ρ := ρ1) (fun _ => false) (fun d => d) X [] ?_
  · have hw : wipeE ρ1 [7] = ρ1 := hn
    have e' : lcGo [7] (gtN 7) (tE (e2 gIsN (oE (eCall 1 F (aCons (oSlot 7) aNil))) (oE (eC (.bl false))))) (eVar 7) X [] (wipeE ρ1 [7]) = some ([], ρ1) := by rw [hw, e]; simp
    exact tE_run (e2_run (oE_run (eLc_run hi (Nat.le_trans hl (by decide)) e')) (oE_run (eLst_run lNil_ap (by simp))) rfl rfl ne_nil)
  · intro d hd
    have hk : look (ρ1.set 7 (.val d)) 7 = some d := by unfold look; rw [List.getElem?_set_self hlt]
    have ht : takeA (ρ1.set 7 (.val d)) [.slot 7] = some ([d], (ρ1.set 7 (.val d)).set 7 .no) := by rw [takeA_slot, hk]; rfl
    have hg : giveA (ρ1.set 7 (.val d)) [.slot 7] [d] ((ρ1.set 7 (.val d)).set 7 .no) = ρ1.set 7 (.val d) := by
      rw [giveA_slot, List.getElem?_set_self hlt]
      show (giveA (ρ1.set 7 (.val d)) [] [] ((ρ1.set 7 (.val d)).set 7 .no)).set 7 (.val d) = _
      rw [giveA_nil, List.set_set, List.set_set]
    refine ⟨ρ1.set 7 (.val d), ρ1.set 7 (.val d), h7 d, ?_, fun _ => ?_, fun h => by cases h⟩
    · exact tE_run (e2_run (oE_run (eCall_run (aCons_run (oSlot_run hk) aNil_ap) rfl ht (hX d hd).2 hg)) (oE_run (eC_ap _)) rfl rfl rfl)
    · show ((ρ1.set 7 (.val d)).set 7 .no) = ρ1
      rw [List.set_set, hn]

theorem bad_all {L R B : List (List Nat)} {p q : List Nat} (h : Sd L p R q B) {x2 : List Nat} (hx2 : x2 ∈ L) : ∀ d ∈ ((((([.non, .lst false [(.tup (L.map nmD)), nmD p], .tup [(.tup (L.map nmD))], .tup [.lst false (L.map nmD), nmD p], .tup [.tup ((L.take 5).map nmD), nmD p]] ++ [.tup [.tup (L.map nmD ++ (L.take 1).map nmD), nmD p], .tup [(.tup (L.map nmD)), nmD x2], .tup [(.tup (L.map nmD)), .non]]) ++ [.tup [.tup (((L.take 5).map nmD) ++ [.str "Ann"]), nmD p], .tup [.tup (((L.take 5).map nmD) ++ [.str ""]), nmD p], .tup [.tup (((L.take 5).map nmD) ++ [.int 7]), nmD p]]) ++ [.tup [(.tup (L.map nmD)), .str "abcdefg"], .tup [(.tup (L.map nmD)), nmD p, nmD p]]) ++ [.tup [.tup [.str "a", .str "b", .str "c", .str "d", .str "e", .str "f", .str "g", .str "h", .str "i", .str "j"], .str "k"]]) ++ [.tup [.tup (((L.take 5).map nmD) ++ [.non]), nmD p], .str "ann", .tup [.tup [], .str "a"]]), d.fz = true ∧ f_is_side [d] = some (.ok (.bl false), [d]) := by
  have h1 := h.l1
  intro d hd
  have hz : SiS f_is_side d false → d.fz = true → d.fz = true ∧ f_is_side [d] = some (.ok (.bl false), [d]) := fun a b => ⟨b, a⟩
  simp only [List.mem_append, List.mem_cons, List.not_mem_nil, or_false] at hd
  rcases hd with (((((rfl | rfl | rfl | rfl | rfl) | rfl | rfl | rfl) | rfl | rfl | rfl) | rfl | rfl) | rfl) | rfl | rfl | rfl
  · exact hz (si_bad rfl (by simp [gIsi, isiT, tyN])) rfl
  · exact hz (si_bad rfl (by simp [gIsi, isiT, tyN])) rfl
  · exact hz (si_len (by simp)) rfl
  · exact hz (si_in (by simp [gIsi, isiT, tyN])) rfl
  · exact hz (bad5 h) rfl
  · exact hz (bad6 h) rfl
  · exact hz (bad7 h x2 hx2) rfl
  · exact hz (bad_arm h rfl rfl) rfl
  · exact hz (bad_in h (by decide +kernel) (by decide +kernel)) rfl
  · exact hz (bad_in h (by decide +kernel) (by decide +kernel)) rfl
  · exact hz (bad_in h rfl rfl) rfl
  · exact hz (bad_arm h (by decide +kernel) (by decide +kernel)) rfl
  · exact hz (si_len (by simp)) rfl
  · exact hz (si_4 (List.all_eq_true.mp (by decide +kernel)) (by simp) (by decide +kernel) (.inl (by simp))) rfl
  · exact hz (bad_in h rfl rfl) rfl
  · exact hz (si_bad rfl (by simp [gIsi, isiT, tyN])) rfl
  · exact hz (si_4 (by simp) (by simp) (by decide +kernel) (.inl (by simp))) rfl
theorem sA : Str.ofString "a" = SX.S [97] := by decide +kernel
theorem none_all : ∀ d ∈ ((([.non, .tup [.non, .non], .tup [.non, .non, .non, .non], .lst false [.str "a", .non, .non], .tup [.str "a", .str "a", .non]] ++ [.tup [.str "a", .non, .str "a"], .tup [.str "A", .non, .non], .tup [.int 1, .non, .non]]) ++ [.tup [.str "", .non, .non], .tup [.non, .non, .str "abcdefg"], .tup [.non, .non, .tup [.str "a"]], .str "abc"]) ++ [.tup [.non, .bl true, .non]]), d.fz = true ∧ f_is_bases [d] = some (.ok (.bl false), [d]) := by
  intro d hd
  have hz : SiS f_is_bases d false → d.fz = true → d.fz = true ∧ f_is_bases [d] = some (.ok (.bl false), [d]) := fun a b => ⟨b, a⟩
  simp only [List.mem_append, List.mem_cons, List.not_mem_nil, or_false] at hd
  have two : decide ([[97], [97]] : List (List Nat)).Nodup = false := by decide
  rcases hd with (((rfl | rfl | rfl | rfl | rfl) | rfl | rfl | rfl) | rfl | rfl | rfl | rfl) | rfl
  · exact hz (ba_bad rfl (by simp [gIsi, isiT, tyN])) rfl
  · exact hz (ba_len (by simp)) rfl
  · exact hz (ba_len (by simp)) rfl
  · exact hz (ba_bad rfl (by simp [gIsi, isiT, tyN])) rfl
  · refine hz ?_ rfl
    rw [← two]
    exact ba_4 (ls := [[97], [97]]) rfl (List.all_eq_true.mp (by decide +kernel)) (by rw [sA]; rfl) (by decide +kernel)
  · refine hz ?_ rfl
    rw [← two]
    exact ba_4 (ls := [[97], [97]]) rfl (List.all_eq_true.mp (by decide +kernel)) (by rw [sA]; rfl) (by decide +kernel)
  · exact hz (ba_3 rfl (List.all_eq_true.mp (by decide +kernel)) (by decide +kernel)) rfl
  · exact hz (ba_3 rfl (List.all_eq_true.mp (by decide +kernel)) (by decide +kernel)) rfl
  · exact hz (ba_3 rfl (List.all_eq_true.mp (by decide +kernel)) (by decide +kernel)) rfl
  · exact hz (ba_3 rfl (List.all_eq_true.mp (by decide +kernel)) (by decide +kernel)) rfl
  · exact hz (ba_3 rfl (List.all_eq_true.mp (by decide +kernel)) (by decide +kernel)) rfl
  · exact hz (ba_bad rfl (by simp [gIsi, isiT, tyN])) rfl
  · exact hz (ba_3 rfl (List.all_eq_true.mp (by decide +kernel)) (by decide +kernel)) rfl
theorem isn_tt : gIsN (.bl true) (.bl true) = some (.bl false) := rfl
theorem is_tt : gIs (.bl true) (.bl true) = some (.bl true) := rfl

theorem law_true (ns : List Int) (hl : ns.length ≤ 63) : f_law [.lck (ns.map .int)] = some (.ok (.bl true), [.lck (ns.map .int)]) := by
  obtain ⟨L, p, R, q, B, h, hsides⟩ := sides_ok hl 0 (by omega)
  have h0 := h.l0
  have h1 := h.l1
  have hlen : (L.map nmD).length = L.length := by simp
  have hAway : f_is_side [sideD L p] = some (.ok (.bl true), [sideD L p]) := h.away
  have hHome : f_is_side [sideD R q] = some (.ok (.bl true), [sideD R q]) := h.home
  have t5 : gSl (.tup (L.map nmD)) none (some 5) = some (.tup ((L.take 5).map nmD)) := by
    show some (D.tup (cutD (L.map nmD) none (some ((5 : Nat) : Int)))) = _
    rw [cutD_to _ _ (by omega), List.map_take]
  have t3 : gSl (.tup (L.map nmD)) none (some 3) = some (.tup ((L.take 3).map nmD)) := by
    show some (D.tup (cutD (L.map nmD) none (some ((3 : Nat) : Int)))) = _
    rw [cutD_to _ _ (by omega), List.map_take]
  have t1 : gSl (.tup (L.map nmD)) none (some 1) = some (.tup ((L.take 1).map nmD)) := by
    show some (D.tup (cutD (L.map nmD) none (some ((1 : Nat) : Int)))) = _
    rw [cutD_to _ _ (by omega), List.map_take]
  have a1 : gAdd (.tup (L.map nmD)) (.tup ((L.take 1).map nmD)) = some (.tup (L.map nmD ++ (L.take 1).map nmD)) := gAdd_tt (by simp; omega)
  have a5 : ∀ y, gAdd (.tup ((L.take 5).map nmD)) (.tup [y]) = some (.tup ((L.take 5).map nmD ++ [y])) := fun y => gAdd_tt (by simp; omega)
  have ix : ∀ (i : Nat) (hi : i < L.length), gIx (.tup (L.map nmD)) (.int (i : Int)) = some (nmD L[i]) := fun i hi => by
    show ixB (L.map nmD) (i : Int) = _
    rw [ixB_nat _ _ (by omega), List.getElem?_map, List.getElem?_eq_getElem hi]; rfl
  have i2 : gIx (.tup (L.map nmD)) (.int 2) = some (nmD (L[2]'(by omega))) := ix 2 (by omega)
  have hx2 : (L[2]'(by omega)) ∈ L := List.getElem_mem _
  generalize (L[2]'(by omega)) = x2 at i2 hx2
  obtain ⟨d1, d2, d3⟩ := dr_spec hl (k := 100) (m := ((L.map nmD).length : Int)) (by omega) (by omega)
  obtain ⟨k1, k2, k3⟩ := dr_spec hl (k := 101) (m := 4) (by omega) (by omega)
  generalize dr ns 100 ((L.map nmD).length : Int) = v1 at d1 d2 d3
  generalize dr ns 101 4 = v2 at k1 k2 k3
  obtain ⟨n1, rfl⟩ : ∃ n : Nat, v1 = n := ⟨v1.toNat, by omega⟩
  have hn1 : n1 < L.length := by omega
  have i1 := ix n1 hn1
  have hx1 : L[n1] ∈ L := List.getElem_mem _
  generalize L[n1] = x1 at i1 hx1
  obtain ⟨sm, is, hsm⟩ : ∃ sm, gIx (.lst true [.non, nmD x1, .non, nmD p]) (.int v2) = some sm ∧ (sm = .non ∨ ∃ x, sm = nmD x ∧ x ∈ L ++ [p]) := by
    have hv : v2 = 0 ∨ v2 = 1 ∨ v2 = 2 ∨ v2 = 3 := by omega
    rcases hv with rfl | rfl | rfl | rfl
    · exact ⟨.non, rfl, .inl rfl⟩
    · exact ⟨nmD x1, rfl, .inr ⟨x1, rfl, List.mem_append_left _ hx1⟩⟩
    · exact ⟨.non, rfl, .inl rfl⟩
    · exact ⟨nmD p, rfl, .inr ⟨p, rfl, by simp⟩⟩
  have i4 : gIx (sideD R q) (.int 1) = some (nmD q) := rfl
  have hq := h.nmq
  have hqN := isN_nm' hq
  have hqo := okd_nm' hq
  have hsz : sm.fz = true := by rcases hsm with rfl | ⟨x, rfl, _⟩ <;> rfl
  have b1 : f_is_bases [.tup [sm, .non, nmD q]] = some (.ok (.bl true), [.tup [sm, .non, nmD q]]) := by
    rcases hsm with rfl | ⟨x, rfl, hx⟩
    · have := ba_4 (ys := [.non, .non, nmD q]) (ls := [q]) rfl (by intro y m; simp at m; rcases m with rfl | rfl; exact rfl; exact hqo) rfl (by simp [hqN])
      rwa [decide_eq_true (by simp)] at this
    · have hxn : ∃ j, Nm j x := h.nm x (by
        rcases List.mem_append.mp hx with m | m
        · exact List.mem_append_left _ m
        · simp at m; subst m; simp)
      have := ba_4 (ys := [nmD x, .non, nmD q]) (ls := [x, q]) rfl (by intro y m; simp only [List.mem_cons, List.not_mem_nil, or_false] at m; rcases m with rfl | rfl | rfl; exact okd_nm' hxn; exact rfl; exact hqo) rfl (by simp [hqN, isN_nm' hxn])
      rwa [decide_eq_true] at this
      have nd := h.nd
      rw [show L ++ p :: (R ++ q :: B) = (L ++ [p]) ++ (R ++ q :: B) by simp] at nd
      have := (List.nodup_append.mp nd).2.2 x hx q (by simp)
      simpa using this
  have b2 : f_is_bases [.tup [.non, .non, .non]] = some (.ok (.bl true), [.tup [.non, .non, .non]]) := by
    have := ba_4 (ys := [.non, .non, .non]) (ls := []) rfl (List.all_eq_true.mp (by decide)) rfl rfl
    rwa [decide_eq_true (by simp)] at this
  have b3 : f_is_bases [.tup ((L.take 3).map nmD)] = some (.ok (.bl true), [.tup ((L.take 3).map nmD)]) := by
    have fl : ((L.take 3).map nmD).filter isSome = (L.take 3).map nmD := by
      rw [List.filter_eq_self]; intro y m; obtain ⟨l, _, rfl⟩ := List.mem_map.mp m; rfl
    have := ba_4 (ys := (L.take 3).map nmD) (ls := L.take 3) (by simp; omega) (okL (take_nm h 3)) fl (isL (take_nm h 3))
    rwa [decide_eq_true] at this
    have nd := (List.nodup_append.mp h.nd).1
    exact nd.sublist (List.take_sublist _ _)
  have m4 : gMul (.tup [.non]) (.int 4) = some (.tup [.non, .non, .non, .non]) := rfl
  have z1 : f_is_side [.tup [.tup [.str "a", .str "b", .str "c", .str "d", .str "e", .str "f", .str "g", .str "h", .str "zzzzzz"], .str "i"]] = some (.ok (.bl true), [.tup [.tup [.str "a", .str "b", .str "c", .str "d", .str "e", .str "f", .str "g", .str "h", .str "zzzzzz"], .str "i"]]) := by
    have e : D.tup [.tup [.str "a", .str "b", .str "c", .str "d", .str "e", .str "f", .str "g", .str "h", .str "zzzzzz"], .str "i"] = sideD [[97], [98], [99], [100], [101], [102], [103], [104], [122, 122, 122, 122, 122, 122]] [105] := by
      simp only [List.map, sideD, nmD]
      rw [sA, show Str.ofString "b" = SX.S [98] by decide +kernel, show Str.ofString "c" = SX.S [99] by decide +kernel, show Str.ofString "d" = SX.S [100] by decide +kernel, show Str.ofString "e" = SX.S [101] by decide +kernel, show Str.ofString "f" = SX.S [102] by decide +kernel, show Str.ofString "g" = SX.S [103] by decide +kernel, show Str.ofString "h" = SX.S [104] by decide +kernel, show Str.ofString "zzzzzz" = SX.S [122, 122, 122, 122, 122, 122] by decide +kernel, show Str.ofString "i" = SX.S [105] by decide +kernel]
    rw [e]
    have := si_of (d := sideD [[97], [98], [99], [100], [101], [102], [103], [104], [122, 122, 122, 122, 122, 122]] [105]) rfl (side_5 name_ok (by decide) (by decide) (List.all_eq_true.mp (by decide +kernel)) (by decide +kernel) (by decide +kernel) (by decide +kernel))
    exact this
  have z2 : f_is_side [.tup [.tup [.str "a", .str "b", .str "c", .str "d", .str "e", .str "f"], .str "abcdef"]] = some (.ok (.bl true), [.tup [.tup [.str "a", .str "b", .str "c", .str "d", .str "e", .str "f"], .str "abcdef"]]) := by
    have e : D.tup [.tup [.str "a", .str "b", .str "c", .str "d", .str "e", .str "f"], .str "abcdef"] = sideD [[97], [98], [99], [100], [101], [102]] [97, 98, 99, 100, 101, 102] := by
      simp only [List.map, sideD, nmD]
      rw [sA, show Str.ofString "b" = SX.S [98] by decide +kernel, show Str.ofString "c" = SX.S [99] by decide +kernel, show Str.ofString "d" = SX.S [100] by decide +kernel, show Str.ofString "e" = SX.S [101] by decide +kernel, show Str.ofString "f" = SX.S [102] by decide +kernel, show Str.ofString "abcdef" = SX.S [97, 98, 99, 100, 101, 102] by decide +kernel]
    rw [e]
    exact si_of (d := sideD [[97], [98], [99], [100], [101], [102]] [97, 98, 99, 100, 101, 102]) rfl (side_5 name_ok (by decide) (by decide) (List.all_eq_true.mp (by decide +kernel)) (by decide +kernel) (by decide +kernel) (by decide +kernel))

  refine fnD_rt (ρ' := [.val (scr ns), .val (sideD L p), .val (sideD R q), .val (.lst false (B.map nmD)), .val (.tup (L.map nmD)), .val (nmD p), .val (.lst false ((((([.non, .lst false [(.tup (L.map nmD)), nmD p], .tup [(.tup (L.map nmD))], .tup [.lst false (L.map nmD), nmD p], .tup [.tup ((L.take 5).map nmD), nmD p]] ++ [.tup [.tup (L.map nmD ++ (L.take 1).map nmD), nmD p], .tup [(.tup (L.map nmD)), nmD x2], .tup [(.tup (L.map nmD)), .non]]) ++ [.tup [.tup (((L.take 5).map nmD) ++ [.str "Ann"]), nmD p], .tup [.tup (((L.take 5).map nmD) ++ [.str ""]), nmD p], .tup [.tup (((L.take 5).map nmD) ++ [.int 7]), nmD p]]) ++ [.tup [(.tup (L.map nmD)), .str "abcdefg"], .tup [(.tup (L.map nmD)), nmD p, nmD p]]) ++ [.tup [.tup [.str "a", .str "b", .str "c", .str "d", .str "e", .str "f", .str "g", .str "h", .str "i", .str "j"], .str "k"]]) ++ [.tup [.tup (((L.take 5).map nmD) ++ [.non]), nmD p], .str "ann", .tup [.tup [], .str "a"]])), .no, .val (sm), .val (.tup [sm, .non, nmD q]), .val (.lst false ((([.non, .tup [.non, .non], .tup [.non, .non, .non, .non], .lst false [.str "a", .non, .non], .tup [.str "a", .str "a", .non]] ++ [.tup [.str "a", .non, .str "a"], .tup [.str "A", .non, .non], .tup [.int 1, .non, .non]]) ++ [.tup [.str "", .non, .non], .tup [.non, .non, .str "abcdefg"], .tup [.non, .non, .tup [.str "a"]], .str "abc"]) ++ [.tup [.non, .bl true, .non]]))]) rfl (by simp) ?_ (by simp)
  unfold b_law
  refine sSeq_run (ρ1 := [.val (scr ns), .val (sideD L p), .val (sideD R q), .val (.lst false (B.map nmD)), .no, .no, .no, .no, .no, .no, .no]) ?_ ?_
  · exact sAsg_run (eCall_run (aCons_run (oSlot_run rfl) (aCons_run (oE_run (eC_ap _)) aNil_ap)) rfl rfl hsides rfl) rfl
  refine sSeq_run (ρ1 := [.val (scr ns), .val (sideD L p), .val (sideD R q), .val (.lst false (B.map nmD)), .no, .no, .no, .no, .no, .no, .no]) ?_ ?_
  · exact sIf_fr (tOr2_f (tE_run (e2_run (oE_run (eCall_run (aCons_run (oSlot_run rfl) aNil_ap) rfl rfl hAway rfl)) (oE_run (eC_ap _)) rfl rfl isn_tt)) (tE_run (e2_run (oE_run (eCall_run (aCons_run (oSlot_run rfl) aNil_ap) rfl rfl hHome rfl)) (oE_run (eC_ap _)) rfl rfl isn_tt))) sNil_ap
  refine sSeq_run (ρ1 := [.val (scr ns), .val (sideD L p), .val (sideD R q), .val (.lst false (B.map nmD)), .val (.tup (L.map nmD)), .val (nmD p), .no, .no, .no, .no, .no]) ?_ ?_
  · exact sAsg_run (eVar_run rfl rfl) rfl
  refine sSeq_run (ρ1 := [.val (scr ns), .val (sideD L p), .val (sideD R q), .val (.lst false (B.map nmD)), .val (.tup (L.map nmD)), .val (nmD p), .val (.lst true [.non, .lst false [(.tup (L.map nmD)), nmD p], .tup [(.tup (L.map nmD))], .tup [.lst false (L.map nmD), nmD p], .tup [.tup ((L.take 5).map nmD), nmD p]]), .no, .no, .no, .no]) ?_ ?_
  · exact sAsgN_run (eLst_run (lCons_runz (eC_ap _) (fzd_of rfl) (lCons_runz (e1_run (oSlot_run rfl) rfl rfl) (fzd_lst _ _) (lCons_runz (eTup_run (lCons_runz (eVar_run rfl rfl) (fzd_of rfl) lNil_ap) (by simp)) (fzd_of rfl) (lCons_runz (eTup_run (lCons_runz (e1_run (oSlot_run rfl) rfl rfl) (fzd_lst _ _) (lCons_runz (eVar_run rfl rfl) (fzd_of rfl) lNil_ap)) (by simp)) (fzd_of rfl) (lCons_runz (eTup_run (lCons_runz (eSl_run (oSlot_run rfl) pNo_ap (pAt_run (eC_ap _)) rfl t5) (fzd_of rfl) (lCons_runz (eVar_run rfl rfl) (fzd_of rfl) lNil_ap)) (by simp)) (fzd_of rfl) lNil_ap))))) (by simp)) rfl
  refine sSeq_run (ρ1 := [.val (scr ns), .val (sideD L p), .val (sideD R q), .val (.lst false (B.map nmD)), .val (.tup (L.map nmD)), .val (nmD p), .val (.lst true ([.non, .lst false [(.tup (L.map nmD)), nmD p], .tup [(.tup (L.map nmD))], .tup [.lst false (L.map nmD), nmD p], .tup [.tup ((L.take 5).map nmD), nmD p]] ++ [.tup [.tup (L.map nmD ++ (L.take 1).map nmD), nmD p], .tup [(.tup (L.map nmD)), nmD x2], .tup [(.tup (L.map nmD)), .non]])), .no, .no, .no, .no]) ?_ ?_
  · exact sAsgN_run (e2_run (oSlot_run rfl) (oE_run (eLst_run (lCons_runz (eTup_run (lCons_runz (e2_run (oSlot_run rfl) (oE_run (eSl_run (oSlot_run rfl) pNo_ap (pAt_run (eC_ap _)) rfl t1)) rfl rfl a1) (fzd_of rfl) (lCons_runz (eVar_run rfl rfl) (fzd_of rfl) lNil_ap)) (by simp)) (fzd_of rfl) (lCons_runz (eTup_run (lCons_runz (eVar_run rfl rfl) (fzd_of rfl) (lCons_runz (e2_run (oSlot_run rfl) (oE_run (eC_ap _)) rfl rfl i2) (fzd_of rfl) lNil_ap)) (by simp)) (fzd_of rfl) (lCons_runz (eTup_run (lCons_runz (eVar_run rfl rfl) (fzd_of rfl) (lCons_runz (eC_ap _) (fzd_of rfl) lNil_ap)) (by simp)) (fzd_of rfl) lNil_ap))) (by simp))) rfl rfl (gAdd_ll (by simp))) rfl
  refine sSeq_run (ρ1 := [.val (scr ns), .val (sideD L p), .val (sideD R q), .val (.lst false (B.map nmD)), .val (.tup (L.map nmD)), .val (nmD p), .val (.lst true (([.non, .lst false [(.tup (L.map nmD)), nmD p], .tup [(.tup (L.map nmD))], .tup [.lst false (L.map nmD), nmD p], .tup [.tup ((L.take 5).map nmD), nmD p]] ++ [.tup [.tup (L.map nmD ++ (L.take 1).map nmD), nmD p], .tup [(.tup (L.map nmD)), nmD x2], .tup [(.tup (L.map nmD)), .non]]) ++ [.tup [.tup (((L.take 5).map nmD) ++ [.str "Ann"]), nmD p], .tup [.tup (((L.take 5).map nmD) ++ [.str ""]), nmD p], .tup [.tup (((L.take 5).map nmD) ++ [.int 7]), nmD p]])), .no, .no, .no, .no]) ?_ ?_
  · exact sAsgN_run (e2_run (oSlot_run rfl) (oE_run (eLst_run (lCons_runz (eTup_run (lCons_runz (e2_run (oE_run (eSl_run (oSlot_run rfl) pNo_ap (pAt_run (eC_ap _)) rfl t5)) (oE_run (eTup_run (lCons_runz (eC_ap _) (fzd_of rfl) lNil_ap) (by simp))) rfl rfl (a5 _)) (fzd_of rfl) (lCons_runz (eVar_run rfl rfl) (fzd_of rfl) lNil_ap)) (by simp)) (fzd_of rfl) (lCons_runz (eTup_run (lCons_runz (e2_run (oE_run (eSl_run (oSlot_run rfl) pNo_ap (pAt_run (eC_ap _)) rfl t5)) (oE_run (eTup_run (lCons_runz (eC_ap _) (fzd_of rfl) lNil_ap) (by simp))) rfl rfl (a5 _)) (fzd_of rfl) (lCons_runz (eVar_run rfl rfl) (fzd_of rfl) lNil_ap)) (by simp)) (fzd_of rfl) (lCons_runz (eTup_run (lCons_runz (e2_run (oE_run (eSl_run (oSlot_run rfl) pNo_ap (pAt_run (eC_ap _)) rfl t5)) (oE_run (eTup_run (lCons_runz (eC_ap _) (fzd_of rfl) lNil_ap) (by simp))) rfl rfl (a5 _)) (fzd_of rfl) (lCons_runz (eVar_run rfl rfl) (fzd_of rfl) lNil_ap)) (by simp)) (fzd_of rfl) lNil_ap))) (by simp))) rfl rfl (gAdd_ll (by simp))) rfl
  refine sSeq_run (ρ1 := [.val (scr ns), .val (sideD L p), .val (sideD R q), .val (.lst false (B.map nmD)), .val (.tup (L.map nmD)), .val (nmD p), .val (.lst true ((([.non, .lst false [(.tup (L.map nmD)), nmD p], .tup [(.tup (L.map nmD))], .tup [.lst false (L.map nmD), nmD p], .tup [.tup ((L.take 5).map nmD), nmD p]] ++ [.tup [.tup (L.map nmD ++ (L.take 1).map nmD), nmD p], .tup [(.tup (L.map nmD)), nmD x2], .tup [(.tup (L.map nmD)), .non]]) ++ [.tup [.tup (((L.take 5).map nmD) ++ [.str "Ann"]), nmD p], .tup [.tup (((L.take 5).map nmD) ++ [.str ""]), nmD p], .tup [.tup (((L.take 5).map nmD) ++ [.int 7]), nmD p]]) ++ [.tup [(.tup (L.map nmD)), .str "abcdefg"], .tup [(.tup (L.map nmD)), nmD p, nmD p]])), .no, .no, .no, .no]) ?_ ?_
  · exact sAsgN_run (e2_run (oSlot_run rfl) (oE_run (eLst_run (lCons_runz (eTup_run (lCons_runz (eVar_run rfl rfl) (fzd_of rfl) (lCons_runz (eC_ap _) (fzd_of rfl) lNil_ap)) (by simp)) (fzd_of rfl) (lCons_runz (eTup_run (lCons_runz (eVar_run rfl rfl) (fzd_of rfl) (lCons_runz (eVar_run rfl rfl) (fzd_of rfl) (lCons_runz (eVar_run rfl rfl) (fzd_of rfl) lNil_ap))) (by simp)) (fzd_of rfl) lNil_ap)) (by simp))) rfl rfl (gAdd_ll (by simp))) rfl
  refine sSeq_run (ρ1 := [.val (scr ns), .val (sideD L p), .val (sideD R q), .val (.lst false (B.map nmD)), .val (.tup (L.map nmD)), .val (nmD p), .val (.lst true (((([.non, .lst false [(.tup (L.map nmD)), nmD p], .tup [(.tup (L.map nmD))], .tup [.lst false (L.map nmD), nmD p], .tup [.tup ((L.take 5).map nmD), nmD p]] ++ [.tup [.tup (L.map nmD ++ (L.take 1).map nmD), nmD p], .tup [(.tup (L.map nmD)), nmD x2], .tup [(.tup (L.map nmD)), .non]]) ++ [.tup [.tup (((L.take 5).map nmD) ++ [.str "Ann"]), nmD p], .tup [.tup (((L.take 5).map nmD) ++ [.str ""]), nmD p], .tup [.tup (((L.take 5).map nmD) ++ [.int 7]), nmD p]]) ++ [.tup [(.tup (L.map nmD)), .str "abcdefg"], .tup [(.tup (L.map nmD)), nmD p, nmD p]]) ++ [.tup [.tup [.str "a", .str "b", .str "c", .str "d", .str "e", .str "f", .str "g", .str "h", .str "i", .str "j"], .str "k"]])), .no, .no, .no, .no]) ?_ ?_
  · exact sAsgN_run (e2_run (oSlot_run rfl) (oE_run (eLst_run (lCons_runz (eTup_run (lCons_runz (eTup_run (lCons_runz (eC_ap _) (fzd_of rfl) (lCons_runz (eC_ap _) (fzd_of rfl) (lCons_runz (eC_ap _) (fzd_of rfl) (lCons_runz (eC_ap _) (fzd_of rfl) (lCons_runz (eC_ap _) (fzd_of rfl) (lCons_runz (eC_ap _) (fzd_of rfl) (lCons_runz (eC_ap _) (fzd_of rfl) (lCons_runz (eC_ap _) (fzd_of rfl) (lCons_runz (eC_ap _) (fzd_of rfl) (lCons_runz (eC_ap _) (fzd_of rfl) lNil_ap)))))))))) (by simp)) (fzd_of rfl) (lCons_runz (eC_ap _) (fzd_of rfl) lNil_ap)) (by simp)) (fzd_of rfl) lNil_ap) (by simp))) rfl rfl (gAdd_ll (by simp))) rfl
  refine sSeq_run (ρ1 := [.val (scr ns), .val (sideD L p), .val (sideD R q), .val (.lst false (B.map nmD)), .val (.tup (L.map nmD)), .val (nmD p), .val (.lst true ((((([.non, .lst false [(.tup (L.map nmD)), nmD p], .tup [(.tup (L.map nmD))], .tup [.lst false (L.map nmD), nmD p], .tup [.tup ((L.take 5).map nmD), nmD p]] ++ [.tup [.tup (L.map nmD ++ (L.take 1).map nmD), nmD p], .tup [(.tup (L.map nmD)), nmD x2], .tup [(.tup (L.map nmD)), .non]]) ++ [.tup [.tup (((L.take 5).map nmD) ++ [.str "Ann"]), nmD p], .tup [.tup (((L.take 5).map nmD) ++ [.str ""]), nmD p], .tup [.tup (((L.take 5).map nmD) ++ [.int 7]), nmD p]]) ++ [.tup [(.tup (L.map nmD)), .str "abcdefg"], .tup [(.tup (L.map nmD)), nmD p, nmD p]]) ++ [.tup [.tup [.str "a", .str "b", .str "c", .str "d", .str "e", .str "f", .str "g", .str "h", .str "i", .str "j"], .str "k"]]) ++ [.tup [.tup (((L.take 5).map nmD) ++ [.non]), nmD p], .str "ann", .tup [.tup [], .str "a"]])), .no, .no, .no, .no]) ?_ ?_
  · exact sAsgN_run (e2_run (oSlot_run rfl) (oE_run (eLst_run (lCons_runz (eTup_run (lCons_runz (e2_run (oE_run (eSl_run (oSlot_run rfl) pNo_ap (pAt_run (eC_ap _)) rfl t5)) (oE_run (eTup_run (lCons_runz (eC_ap _) (fzd_of rfl) lNil_ap) (by simp))) rfl rfl (a5 _)) (fzd_of rfl) (lCons_runz (eVar_run rfl rfl) (fzd_of rfl) lNil_ap)) (by simp)) (fzd_of rfl) (lCons_runz (eC_ap _) (fzd_of rfl) (lCons_runz (eTup_run (lCons_runz (eTup_run lNil_ap (by simp)) (fzd_of rfl) (lCons_runz (eC_ap _) (fzd_of rfl) lNil_ap)) (by simp)) (fzd_of rfl) lNil_ap))) (by simp))) rfl rfl (gAdd_ll (by simp))) rfl
  refine sSeq_run (ρ1 := [.val (scr ns), .val (sideD L p), .val (sideD R q), .val (.lst false (B.map nmD)), .val (.tup (L.map nmD)), .val (nmD p), .val (.lst false ((((([.non, .lst false [(.tup (L.map nmD)), nmD p], .tup [(.tup (L.map nmD))], .tup [.lst false (L.map nmD), nmD p], .tup [.tup ((L.take 5).map nmD), nmD p]] ++ [.tup [.tup (L.map nmD ++ (L.take 1).map nmD), nmD p], .tup [(.tup (L.map nmD)), nmD x2], .tup [(.tup (L.map nmD)), .non]]) ++ [.tup [.tup (((L.take 5).map nmD) ++ [.str "Ann"]), nmD p], .tup [.tup (((L.take 5).map nmD) ++ [.str ""]), nmD p], .tup [.tup (((L.take 5).map nmD) ++ [.int 7]), nmD p]]) ++ [.tup [(.tup (L.map nmD)), .str "abcdefg"], .tup [(.tup (L.map nmD)), nmD p, nmD p]]) ++ [.tup [.tup [.str "a", .str "b", .str "c", .str "d", .str "e", .str "f", .str "g", .str "h", .str "i", .str "j"], .str "k"]]) ++ [.tup [.tup (((L.take 5).map nmD) ++ [.non]), nmD p], .str "ann", .tup [.tup [], .str "a"]])), .no, .no, .no, .no]) ?_ ?_
  · exact sIf_fr (none_lc (s := .no) (bad_all h hx2) (by simp) (iE_run (d := .lst false ((((([.non, .lst false [(.tup (L.map nmD)), nmD p], .tup [(.tup (L.map nmD))], .tup [.lst false (L.map nmD), nmD p], .tup [.tup ((L.take 5).map nmD), nmD p]] ++ [.tup [.tup (L.map nmD ++ (L.take 1).map nmD), nmD p], .tup [(.tup (L.map nmD)), nmD x2], .tup [(.tup (L.map nmD)), .non]]) ++ [.tup [.tup (((L.take 5).map nmD) ++ [.str "Ann"]), nmD p], .tup [.tup (((L.take 5).map nmD) ++ [.str ""]), nmD p], .tup [.tup (((L.take 5).map nmD) ++ [.int 7]), nmD p]]) ++ [.tup [(.tup (L.map nmD)), .str "abcdefg"], .tup [(.tup (L.map nmD)), nmD p, nmD p]]) ++ [.tup [.tup [.str "a", .str "b", .str "c", .str "d", .str "e", .str "f", .str "g", .str "h", .str "i", .str "j"], .str "k"]]) ++ [.tup [.tup (((L.take 5).map nmD) ++ [.non]), nmD p], .str "ann", .tup [.tup [], .str "a"]])) (by simp [eVar_ap, putS, put0]) rfl) (fun _ => rfl) rfl (by simp)) sNil_ap
  refine sSeq_run (ρ1 := [.val (scr ns), .val (sideD L p), .val (sideD R q), .val (.lst false (B.map nmD)), .val (.tup (L.map nmD)), .val (nmD p), .val (.lst false ((((([.non, .lst false [(.tup (L.map nmD)), nmD p], .tup [(.tup (L.map nmD))], .tup [.lst false (L.map nmD), nmD p], .tup [.tup ((L.take 5).map nmD), nmD p]] ++ [.tup [.tup (L.map nmD ++ (L.take 1).map nmD), nmD p], .tup [(.tup (L.map nmD)), nmD x2], .tup [(.tup (L.map nmD)), .non]]) ++ [.tup [.tup (((L.take 5).map nmD) ++ [.str "Ann"]), nmD p], .tup [.tup (((L.take 5).map nmD) ++ [.str ""]), nmD p], .tup [.tup (((L.take 5).map nmD) ++ [.int 7]), nmD p]]) ++ [.tup [(.tup (L.map nmD)), .str "abcdefg"], .tup [(.tup (L.map nmD)), nmD p, nmD p]]) ++ [.tup [.tup [.str "a", .str "b", .str "c", .str "d", .str "e", .str "f", .str "g", .str "h", .str "i", .str "j"], .str "k"]]) ++ [.tup [.tup (((L.take 5).map nmD) ++ [.non]), nmD p], .str "ann", .tup [.tup [], .str "a"]])), .no, .val (sm), .no, .no]) ?_ ?_
  · exact sAsgN_run (e2_run (oE_run (eLst_run (lCons_runz (eC_ap _) (fzd_of rfl) (lCons_runz (e2_run (oSlot_run rfl) (oE_run (eCall_run (aCons_run (oSlot_run rfl) (aCons_run (oE_run (eC_ap _)) (aCons_run (oE_run (e1_run (oSlot_run rfl) rfl (gLen_t _))) aNil_ap))) rfl rfl d1 rfl)) rfl rfl i1) (fzd_of rfl) (lCons_runz (eC_ap _) (fzd_of rfl) (lCons_runz (eVar_run rfl rfl) (fzd_of rfl) lNil_ap)))) (by simp))) (oE_run (eCall_run (aCons_run (oSlot_run rfl) (aCons_run (oE_run (eC_ap _)) (aCons_run (oE_run (eC_ap _)) aNil_ap))) rfl rfl k1 rfl)) rfl rfl is) rfl
  refine sSeq_run (ρ1 := [.val (scr ns), .val (sideD L p), .val (sideD R q), .val (.lst false (B.map nmD)), .val (.tup (L.map nmD)), .val (nmD p), .val (.lst false ((((([.non, .lst false [(.tup (L.map nmD)), nmD p], .tup [(.tup (L.map nmD))], .tup [.lst false (L.map nmD), nmD p], .tup [.tup ((L.take 5).map nmD), nmD p]] ++ [.tup [.tup (L.map nmD ++ (L.take 1).map nmD), nmD p], .tup [(.tup (L.map nmD)), nmD x2], .tup [(.tup (L.map nmD)), .non]]) ++ [.tup [.tup (((L.take 5).map nmD) ++ [.str "Ann"]), nmD p], .tup [.tup (((L.take 5).map nmD) ++ [.str ""]), nmD p], .tup [.tup (((L.take 5).map nmD) ++ [.int 7]), nmD p]]) ++ [.tup [(.tup (L.map nmD)), .str "abcdefg"], .tup [(.tup (L.map nmD)), nmD p, nmD p]]) ++ [.tup [.tup [.str "a", .str "b", .str "c", .str "d", .str "e", .str "f", .str "g", .str "h", .str "i", .str "j"], .str "k"]]) ++ [.tup [.tup (((L.take 5).map nmD) ++ [.non]), nmD p], .str "ann", .tup [.tup [], .str "a"]])), .no, .val (sm), .val (.tup [sm, .non, nmD q]), .no]) ?_ ?_
  · exact sAsgN_run (eTup_run (lCons_runz (eVar_run rfl hsz) (fzd_of hsz) (lCons_runz (eC_ap _) (fzd_of rfl) (lCons_runz (e2_run (oSlot_run rfl) (oE_run (eC_ap _)) rfl rfl i4) (fzd_of rfl) lNil_ap))) (by simp)) rfl
  refine sSeq_run (ρ1 := [.val (scr ns), .val (sideD L p), .val (sideD R q), .val (.lst false (B.map nmD)), .val (.tup (L.map nmD)), .val (nmD p), .val (.lst false ((((([.non, .lst false [(.tup (L.map nmD)), nmD p], .tup [(.tup (L.map nmD))], .tup [.lst false (L.map nmD), nmD p], .tup [.tup ((L.take 5).map nmD), nmD p]] ++ [.tup [.tup (L.map nmD ++ (L.take 1).map nmD), nmD p], .tup [(.tup (L.map nmD)), nmD x2], .tup [(.tup (L.map nmD)), .non]]) ++ [.tup [.tup (((L.take 5).map nmD) ++ [.str "Ann"]), nmD p], .tup [.tup (((L.take 5).map nmD) ++ [.str ""]), nmD p], .tup [.tup (((L.take 5).map nmD) ++ [.int 7]), nmD p]]) ++ [.tup [(.tup (L.map nmD)), .str "abcdefg"], .tup [(.tup (L.map nmD)), nmD p, nmD p]]) ++ [.tup [.tup [.str "a", .str "b", .str "c", .str "d", .str "e", .str "f", .str "g", .str "h", .str "i", .str "j"], .str "k"]]) ++ [.tup [.tup (((L.take 5).map nmD) ++ [.non]), nmD p], .str "ann", .tup [.tup [], .str "a"]])), .no, .val (sm), .val (.tup [sm, .non, nmD q]), .no]) ?_ ?_
  · exact sIf_fr (tOr2_f (tE_run (e2_run (oE_run (eCall_run (aCons_run (oSlot_run rfl) aNil_ap) rfl rfl b1 rfl)) (oE_run (eC_ap _)) rfl rfl isn_tt)) (tE_run (e2_run (oE_run (eCall_run (aCons_run (oE_run (eTup_run (lCons_runz (eC_ap _) (fzd_of rfl) (lCons_runz (eC_ap _) (fzd_of rfl) (lCons_runz (eC_ap _) (fzd_of rfl) lNil_ap))) (by simp))) aNil_ap) rfl rfl b2 rfl)) (oE_run (eC_ap _)) rfl rfl isn_tt))) sNil_ap
  refine sSeq_run (ρ1 := [.val (scr ns), .val (sideD L p), .val (sideD R q), .val (.lst false (B.map nmD)), .val (.tup (L.map nmD)), .val (nmD p), .val (.lst false ((((([.non, .lst false [(.tup (L.map nmD)), nmD p], .tup [(.tup (L.map nmD))], .tup [.lst false (L.map nmD), nmD p], .tup [.tup ((L.take 5).map nmD), nmD p]] ++ [.tup [.tup (L.map nmD ++ (L.take 1).map nmD), nmD p], .tup [(.tup (L.map nmD)), nmD x2], .tup [(.tup (L.map nmD)), .non]]) ++ [.tup [.tup (((L.take 5).map nmD) ++ [.str "Ann"]), nmD p], .tup [.tup (((L.take 5).map nmD) ++ [.str ""]), nmD p], .tup [.tup (((L.take 5).map nmD) ++ [.int 7]), nmD p]]) ++ [.tup [(.tup (L.map nmD)), .str "abcdefg"], .tup [(.tup (L.map nmD)), nmD p, nmD p]]) ++ [.tup [.tup [.str "a", .str "b", .str "c", .str "d", .str "e", .str "f", .str "g", .str "h", .str "i", .str "j"], .str "k"]]) ++ [.tup [.tup (((L.take 5).map nmD) ++ [.non]), nmD p], .str "ann", .tup [.tup [], .str "a"]])), .no, .val (sm), .val (.tup [sm, .non, nmD q]), .no]) ?_ ?_
  · exact sIf_fr (tE_run (e2_run (oE_run (eCall_run (aCons_run (oE_run (eSl_run (oSlot_run rfl) pNo_ap (pAt_run (eC_ap _)) rfl t3)) aNil_ap) rfl rfl b3 rfl)) (oE_run (eC_ap _)) rfl rfl isn_tt)) sNil_ap
  refine sSeq_run (ρ1 := [.val (scr ns), .val (sideD L p), .val (sideD R q), .val (.lst false (B.map nmD)), .val (.tup (L.map nmD)), .val (nmD p), .val (.lst false ((((([.non, .lst false [(.tup (L.map nmD)), nmD p], .tup [(.tup (L.map nmD))], .tup [.lst false (L.map nmD), nmD p], .tup [.tup ((L.take 5).map nmD), nmD p]] ++ [.tup [.tup (L.map nmD ++ (L.take 1).map nmD), nmD p], .tup [(.tup (L.map nmD)), nmD x2], .tup [(.tup (L.map nmD)), .non]]) ++ [.tup [.tup (((L.take 5).map nmD) ++ [.str "Ann"]), nmD p], .tup [.tup (((L.take 5).map nmD) ++ [.str ""]), nmD p], .tup [.tup (((L.take 5).map nmD) ++ [.int 7]), nmD p]]) ++ [.tup [(.tup (L.map nmD)), .str "abcdefg"], .tup [(.tup (L.map nmD)), nmD p, nmD p]]) ++ [.tup [.tup [.str "a", .str "b", .str "c", .str "d", .str "e", .str "f", .str "g", .str "h", .str "i", .str "j"], .str "k"]]) ++ [.tup [.tup (((L.take 5).map nmD) ++ [.non]), nmD p], .str "ann", .tup [.tup [], .str "a"]])), .no, .val (sm), .val (.tup [sm, .non, nmD q]), .val (.lst true [.non, .tup [.non, .non], .tup [.non, .non, .non, .non], .lst false [.str "a", .non, .non], .tup [.str "a", .str "a", .non]])]) ?_ ?_
  · exact sAsgN_run (eLst_run (lCons_runz (eC_ap _) (fzd_of rfl) (lCons_runz (eTup_run (lCons_runz (eC_ap _) (fzd_of rfl) (lCons_runz (eC_ap _) (fzd_of rfl) lNil_ap)) (by simp)) (fzd_of rfl) (lCons_runz (e2_run (oE_run (eTup_run (lCons_runz (eC_ap _) (fzd_of rfl) lNil_ap) (by simp))) (oE_run (eC_ap _)) rfl rfl m4) (fzd_of rfl) (lCons_runz (eLst_run (lCons_runz (eC_ap _) (fzd_of rfl) (lCons_runz (eC_ap _) (fzd_of rfl) (lCons_runz (eC_ap _) (fzd_of rfl) lNil_ap))) (by simp)) (fzd_lst _ _) (lCons_runz (eTup_run (lCons_runz (eC_ap _) (fzd_of rfl) (lCons_runz (eC_ap _) (fzd_of rfl) (lCons_runz (eC_ap _) (fzd_of rfl) lNil_ap))) (by simp)) (fzd_of rfl) lNil_ap))))) (by simp)) rfl
  refine sSeq_run (ρ1 := [.val (scr ns), .val (sideD L p), .val (sideD R q), .val (.lst false (B.map nmD)), .val (.tup (L.map nmD)), .val (nmD p), .val (.lst false ((((([.non, .lst false [(.tup (L.map nmD)), nmD p], .tup [(.tup (L.map nmD))], .tup [.lst false (L.map nmD), nmD p], .tup [.tup ((L.take 5).map nmD), nmD p]] ++ [.tup [.tup (L.map nmD ++ (L.take 1).map nmD), nmD p], .tup [(.tup (L.map nmD)), nmD x2], .tup [(.tup (L.map nmD)), .non]]) ++ [.tup [.tup (((L.take 5).map nmD) ++ [.str "Ann"]), nmD p], .tup [.tup (((L.take 5).map nmD) ++ [.str ""]), nmD p], .tup [.tup (((L.take 5).map nmD) ++ [.int 7]), nmD p]]) ++ [.tup [(.tup (L.map nmD)), .str "abcdefg"], .tup [(.tup (L.map nmD)), nmD p, nmD p]]) ++ [.tup [.tup [.str "a", .str "b", .str "c", .str "d", .str "e", .str "f", .str "g", .str "h", .str "i", .str "j"], .str "k"]]) ++ [.tup [.tup (((L.take 5).map nmD) ++ [.non]), nmD p], .str "ann", .tup [.tup [], .str "a"]])), .no, .val (sm), .val (.tup [sm, .non, nmD q]), .val (.lst true ([.non, .tup [.non, .non], .tup [.non, .non, .non, .non], .lst false [.str "a", .non, .non], .tup [.str "a", .str "a", .non]] ++ [.tup [.str "a", .non, .str "a"], .tup [.str "A", .non, .non], .tup [.int 1, .non, .non]]))]) ?_ ?_
  · exact sAsgN_run (e2_run (oSlot_run rfl) (oE_run (eLst_run (lCons_runz (eTup_run (lCons_runz (eC_ap _) (fzd_of rfl) (lCons_runz (eC_ap _) (fzd_of rfl) (lCons_runz (eC_ap _) (fzd_of rfl) lNil_ap))) (by simp)) (fzd_of rfl) (lCons_runz (eTup_run (lCons_runz (eC_ap _) (fzd_of rfl) (lCons_runz (eC_ap _) (fzd_of rfl) (lCons_runz (eC_ap _) (fzd_of rfl) lNil_ap))) (by simp)) (fzd_of rfl) (lCons_runz (eTup_run (lCons_runz (eC_ap _) (fzd_of rfl) (lCons_runz (eC_ap _) (fzd_of rfl) (lCons_runz (eC_ap _) (fzd_of rfl) lNil_ap))) (by simp)) (fzd_of rfl) lNil_ap))) (by simp))) rfl rfl (gAdd_ll (by simp))) rfl
  refine sSeq_run (ρ1 := [.val (scr ns), .val (sideD L p), .val (sideD R q), .val (.lst false (B.map nmD)), .val (.tup (L.map nmD)), .val (nmD p), .val (.lst false ((((([.non, .lst false [(.tup (L.map nmD)), nmD p], .tup [(.tup (L.map nmD))], .tup [.lst false (L.map nmD), nmD p], .tup [.tup ((L.take 5).map nmD), nmD p]] ++ [.tup [.tup (L.map nmD ++ (L.take 1).map nmD), nmD p], .tup [(.tup (L.map nmD)), nmD x2], .tup [(.tup (L.map nmD)), .non]]) ++ [.tup [.tup (((L.take 5).map nmD) ++ [.str "Ann"]), nmD p], .tup [.tup (((L.take 5).map nmD) ++ [.str ""]), nmD p], .tup [.tup (((L.take 5).map nmD) ++ [.int 7]), nmD p]]) ++ [.tup [(.tup (L.map nmD)), .str "abcdefg"], .tup [(.tup (L.map nmD)), nmD p, nmD p]]) ++ [.tup [.tup [.str "a", .str "b", .str "c", .str "d", .str "e", .str "f", .str "g", .str "h", .str "i", .str "j"], .str "k"]]) ++ [.tup [.tup (((L.take 5).map nmD) ++ [.non]), nmD p], .str "ann", .tup [.tup [], .str "a"]])), .no, .val (sm), .val (.tup [sm, .non, nmD q]), .val (.lst true (([.non, .tup [.non, .non], .tup [.non, .non, .non, .non], .lst false [.str "a", .non, .non], .tup [.str "a", .str "a", .non]] ++ [.tup [.str "a", .non, .str "a"], .tup [.str "A", .non, .non], .tup [.int 1, .non, .non]]) ++ [.tup [.str "", .non, .non], .tup [.non, .non, .str "abcdefg"], .tup [.non, .non, .tup [.str "a"]], .str "abc"]))]) ?_ ?_
  · exact sAsgN_run (e2_run (oSlot_run rfl) (oE_run (eLst_run (lCons_runz (eTup_run (lCons_runz (eC_ap _) (fzd_of rfl) (lCons_runz (eC_ap _) (fzd_of rfl) (lCons_runz (eC_ap _) (fzd_of rfl) lNil_ap))) (by simp)) (fzd_of rfl) (lCons_runz (eTup_run (lCons_runz (eC_ap _) (fzd_of rfl) (lCons_runz (eC_ap _) (fzd_of rfl) (lCons_runz (eC_ap _) (fzd_of rfl) lNil_ap))) (by simp)) (fzd_of rfl) (lCons_runz (eTup_run (lCons_runz (eC_ap _) (fzd_of rfl) (lCons_runz (eC_ap _) (fzd_of rfl) (lCons_runz (eTup_run (lCons_runz (eC_ap _) (fzd_of rfl) lNil_ap) (by simp)) (fzd_of rfl) lNil_ap))) (by simp)) (fzd_of rfl) (lCons_runz (eC_ap _) (fzd_of rfl) lNil_ap)))) (by simp))) rfl rfl (gAdd_ll (by simp))) rfl
  refine sSeq_run (ρ1 := [.val (scr ns), .val (sideD L p), .val (sideD R q), .val (.lst false (B.map nmD)), .val (.tup (L.map nmD)), .val (nmD p), .val (.lst false ((((([.non, .lst false [(.tup (L.map nmD)), nmD p], .tup [(.tup (L.map nmD))], .tup [.lst false (L.map nmD), nmD p], .tup [.tup ((L.take 5).map nmD), nmD p]] ++ [.tup [.tup (L.map nmD ++ (L.take 1).map nmD), nmD p], .tup [(.tup (L.map nmD)), nmD x2], .tup [(.tup (L.map nmD)), .non]]) ++ [.tup [.tup (((L.take 5).map nmD) ++ [.str "Ann"]), nmD p], .tup [.tup (((L.take 5).map nmD) ++ [.str ""]), nmD p], .tup [.tup (((L.take 5).map nmD) ++ [.int 7]), nmD p]]) ++ [.tup [(.tup (L.map nmD)), .str "abcdefg"], .tup [(.tup (L.map nmD)), nmD p, nmD p]]) ++ [.tup [.tup [.str "a", .str "b", .str "c", .str "d", .str "e", .str "f", .str "g", .str "h", .str "i", .str "j"], .str "k"]]) ++ [.tup [.tup (((L.take 5).map nmD) ++ [.non]), nmD p], .str "ann", .tup [.tup [], .str "a"]])), .no, .val (sm), .val (.tup [sm, .non, nmD q]), .val (.lst true ((([.non, .tup [.non, .non], .tup [.non, .non, .non, .non], .lst false [.str "a", .non, .non], .tup [.str "a", .str "a", .non]] ++ [.tup [.str "a", .non, .str "a"], .tup [.str "A", .non, .non], .tup [.int 1, .non, .non]]) ++ [.tup [.str "", .non, .non], .tup [.non, .non, .str "abcdefg"], .tup [.non, .non, .tup [.str "a"]], .str "abc"]) ++ [.tup [.non, .bl true, .non]]))]) ?_ ?_
  · exact sAsgN_run (e2_run (oSlot_run rfl) (oE_run (eLst_run (lCons_runz (eTup_run (lCons_runz (eC_ap _) (fzd_of rfl) (lCons_runz (eC_ap _) (fzd_of rfl) (lCons_runz (eC_ap _) (fzd_of rfl) lNil_ap))) (by simp)) (fzd_of rfl) lNil_ap) (by simp))) rfl rfl (gAdd_ll (by simp))) rfl
  refine sSeq_run (ρ1 := [.val (scr ns), .val (sideD L p), .val (sideD R q), .val (.lst false (B.map nmD)), .val (.tup (L.map nmD)), .val (nmD p), .val (.lst false ((((([.non, .lst false [(.tup (L.map nmD)), nmD p], .tup [(.tup (L.map nmD))], .tup [.lst false (L.map nmD), nmD p], .tup [.tup ((L.take 5).map nmD), nmD p]] ++ [.tup [.tup (L.map nmD ++ (L.take 1).map nmD), nmD p], .tup [(.tup (L.map nmD)), nmD x2], .tup [(.tup (L.map nmD)), .non]]) ++ [.tup [.tup (((L.take 5).map nmD) ++ [.str "Ann"]), nmD p], .tup [.tup (((L.take 5).map nmD) ++ [.str ""]), nmD p], .tup [.tup (((L.take 5).map nmD) ++ [.int 7]), nmD p]]) ++ [.tup [(.tup (L.map nmD)), .str "abcdefg"], .tup [(.tup (L.map nmD)), nmD p, nmD p]]) ++ [.tup [.tup [.str "a", .str "b", .str "c", .str "d", .str "e", .str "f", .str "g", .str "h", .str "i", .str "j"], .str "k"]]) ++ [.tup [.tup (((L.take 5).map nmD) ++ [.non]), nmD p], .str "ann", .tup [.tup [], .str "a"]])), .no, .val (sm), .val (.tup [sm, .non, nmD q]), .val (.lst false ((([.non, .tup [.non, .non], .tup [.non, .non, .non, .non], .lst false [.str "a", .non, .non], .tup [.str "a", .str "a", .non]] ++ [.tup [.str "a", .non, .str "a"], .tup [.str "A", .non, .non], .tup [.int 1, .non, .non]]) ++ [.tup [.str "", .non, .non], .tup [.non, .non, .str "abcdefg"], .tup [.non, .non, .tup [.str "a"]], .str "abc"]) ++ [.tup [.non, .bl true, .non]]))]) ?_ ?_
  · exact sIf_fr (none_lc (s := .no) none_all (by simp) (iE_run (d := .lst false ((([.non, .tup [.non, .non], .tup [.non, .non, .non, .non], .lst false [.str "a", .non, .non], .tup [.str "a", .str "a", .non]] ++ [.tup [.str "a", .non, .str "a"], .tup [.str "A", .non, .non], .tup [.int 1, .non, .non]]) ++ [.tup [.str "", .non, .non], .tup [.non, .non, .str "abcdefg"], .tup [.non, .non, .tup [.str "a"]], .str "abc"]) ++ [.tup [.non, .bl true, .non]])) (by simp [eVar_ap, putS, put0]) rfl) (fun _ => rfl) rfl (by simp)) sNil_ap
  refine sSeq_run (ρ1 := [.val (scr ns), .val (sideD L p), .val (sideD R q), .val (.lst false (B.map nmD)), .val (.tup (L.map nmD)), .val (nmD p), .val (.lst false ((((([.non, .lst false [(.tup (L.map nmD)), nmD p], .tup [(.tup (L.map nmD))], .tup [.lst false (L.map nmD), nmD p], .tup [.tup ((L.take 5).map nmD), nmD p]] ++ [.tup [.tup (L.map nmD ++ (L.take 1).map nmD), nmD p], .tup [(.tup (L.map nmD)), nmD x2], .tup [(.tup (L.map nmD)), .non]]) ++ [.tup [.tup (((L.take 5).map nmD) ++ [.str "Ann"]), nmD p], .tup [.tup (((L.take 5).map nmD) ++ [.str ""]), nmD p], .tup [.tup (((L.take 5).map nmD) ++ [.int 7]), nmD p]]) ++ [.tup [(.tup (L.map nmD)), .str "abcdefg"], .tup [(.tup (L.map nmD)), nmD p, nmD p]]) ++ [.tup [.tup [.str "a", .str "b", .str "c", .str "d", .str "e", .str "f", .str "g", .str "h", .str "i", .str "j"], .str "k"]]) ++ [.tup [.tup (((L.take 5).map nmD) ++ [.non]), nmD p], .str "ann", .tup [.tup [], .str "a"]])), .no, .val (sm), .val (.tup [sm, .non, nmD q]), .val (.lst false ((([.non, .tup [.non, .non], .tup [.non, .non, .non, .non], .lst false [.str "a", .non, .non], .tup [.str "a", .str "a", .non]] ++ [.tup [.str "a", .non, .str "a"], .tup [.str "A", .non, .non], .tup [.int 1, .non, .non]]) ++ [.tup [.str "", .non, .non], .tup [.non, .non, .str "abcdefg"], .tup [.non, .non, .tup [.str "a"]], .str "abc"]) ++ [.tup [.non, .bl true, .non]]))]) ?_ ?_
  · exact sIf_fr (tNot1_run (tE_run (e2_run (oE_run (eCall_run (aCons_run (oE_run (eTup_run (lCons_runz (eTup_run (lCons_runz (eC_ap _) (fzd_of rfl) (lCons_runz (eC_ap _) (fzd_of rfl) (lCons_runz (eC_ap _) (fzd_of rfl) (lCons_runz (eC_ap _) (fzd_of rfl) (lCons_runz (eC_ap _) (fzd_of rfl) (lCons_runz (eC_ap _) (fzd_of rfl) (lCons_runz (eC_ap _) (fzd_of rfl) (lCons_runz (eC_ap _) (fzd_of rfl) (lCons_runz (eC_ap _) (fzd_of rfl) lNil_ap))))))))) (by simp)) (fzd_of rfl) (lCons_runz (eC_ap _) (fzd_of rfl) lNil_ap)) (by simp))) aNil_ap) rfl rfl z1 rfl)) (oE_run (eC_ap _)) rfl rfl is_tt))) sNil_ap
  exact sRet_run (eCall_run (aCons_run (oE_run (eTup_run (lCons_runz (eTup_run (lCons_runz (eC_ap _) (fzd_of rfl) (lCons_runz (eC_ap _) (fzd_of rfl) (lCons_runz (eC_ap _) (fzd_of rfl) (lCons_runz (eC_ap _) (fzd_of rfl) (lCons_runz (eC_ap _) (fzd_of rfl) (lCons_runz (eC_ap _) (fzd_of rfl) lNil_ap)))))) (by simp)) (fzd_of rfl) (lCons_runz (eC_ap _) (fzd_of rfl) lNil_ap)) (by simp))) aNil_ap) rfl rfl z2 rfl)
end L2.Ev.W
namespace L2.Ev.W
open PySem PySem.Spec PyProof.Rows
theorem txt_mk {P : Program} {w : World} {K : PySem.W.Frag} {h : Heap} {mg : Str → Option Value} {fa : Addr} (X : K.In h) (G : h.Ns mainGlobals mg) (hfa : mg "law" = some (.ref fa))
    {f0 : Addr} {od0 an0 : Option Addr} {sl0 : Array (Option Value)} {oc0 kV0 dc0 pm0 cd0 ct0 : Value}
    {f1 : Addr} {od1 an1 : Option Addr} {sl1 : Array (Option Value)} {oc1 kV1 dc1 pm1 cd1 ct1 : Value}
    {f2 : Addr} {od2 an2 : Option Addr} {sl2 : Array (Option Value)} {oc2 kV2 dc2 pm2 cd2 ct2 : Value}
    {f3 : Addr} {od3 an3 : Option Addr} {sl3 : Array (Option Value)} {oc3 kV3 dc3 pm3 cd3 ct3 : Value}
    {f4 : Addr} {od4 an4 : Option Addr} {sl4 : Array (Option Value)} {oc4 kV4 dc4 pm4 cd4 ct4 : Value}
    {f5 : Addr} {od5 an5 : Option Addr} {sl5 : Array (Option Value)} {oc5 kV5 dc5 pm5 cd5 ct5 : Value}
    {f6 : Addr} {od6 an6 : Option Addr} {sl6 : Array (Option Value)} {oc6 kV6 dc6 pm6 cd6 ct6 : Value}
    {t_LETTERS : Tok}
    (a0 : PySem.W.nsIn K mainGlobals "_law_drawn" = some (some (.ref f0))) (l0 : K.lookup f0 = some ⟨oc0, od0, .func (PySem.W.fnOf "_law_drawn" "_law_drawn" (defArgs s__law_drawn) (defBody s__law_drawn) (defScope s__law_drawn) .none kV0 dc0 pm0 an0 cd0 ct0), sl0⟩) (c0 : PySem.W.codeIn K cd0 "_law_drawn" = true) (k0 : PySem.W.keepIn K (.ref f0) = true)
    (a1 : PySem.W.nsIn K mainGlobals "_law_names" = some (some (.ref f1))) (l1 : K.lookup f1 = some ⟨oc1, od1, .func (PySem.W.fnOf "_law_names" "_law_names" (defArgs s__law_names) (defBody s__law_names) (defScope s__law_names) .none kV1 dc1 pm1 an1 cd1 ct1), sl1⟩) (c1 : PySem.W.codeIn K cd1 "_law_names" = true) (k1 : PySem.W.keepIn K (.ref f1) = true)
    (a2 : PySem.W.nsIn K mainGlobals "_law_sides" = some (some (.ref f2))) (l2 : K.lookup f2 = some ⟨oc2, od2, .func (PySem.W.fnOf "_law_sides" "_law_sides" (defArgs s__law_sides) (defBody s__law_sides) (defScope s__law_sides) .none kV2 dc2 pm2 an2 cd2 ct2), sl2⟩) (c2 : PySem.W.codeIn K cd2 "_law_sides" = true) (k2 : PySem.W.keepIn K (.ref f2) = true)
    (a3 : PySem.W.nsIn K mainGlobals "is_name" = some (some (.ref f3))) (l3 : K.lookup f3 = some ⟨oc3, od3, .func (PySem.W.fnOf "is_name" "is_name" (defArgs s_is_name) (defBody s_is_name) (defScope s_is_name) .none kV3 dc3 pm3 an3 cd3 ct3), sl3⟩) (c3 : PySem.W.codeIn K cd3 "is_name" = true) (k3 : PySem.W.keepIn K (.ref f3) = true)
    (a4 : PySem.W.nsIn K mainGlobals "is_side" = some (some (.ref f4))) (l4 : K.lookup f4 = some ⟨oc4, od4, .func (PySem.W.fnOf "is_side" "is_side" (defArgs s_is_side) (defBody s_is_side) (defScope s_is_side) .none kV4 dc4 pm4 an4 cd4 ct4), sl4⟩) (c4 : PySem.W.codeIn K cd4 "is_side" = true) (k4 : PySem.W.keepIn K (.ref f4) = true)
    (a5 : PySem.W.nsIn K mainGlobals "is_bases" = some (some (.ref f5))) (l5 : K.lookup f5 = some ⟨oc5, od5, .func (PySem.W.fnOf "is_bases" "is_bases" (defArgs s_is_bases) (defBody s_is_bases) (defScope s_is_bases) .none kV5 dc5 pm5 an5 cd5 ct5), sl5⟩) (c5 : PySem.W.codeIn K cd5 "is_bases" = true) (k5 : PySem.W.keepIn K (.ref f5) = true)
    (a6 : PySem.W.nsIn K mainGlobals "law" = some (some (.ref f6))) (l6 : K.lookup f6 = some ⟨oc6, od6, .func (PySem.W.fnOf "law" "law" (defArgs s_law) (defBody s_law) (defScope s_law) .none kV6 dc6 pm6 an6 cd6 ct6), sl6⟩) (c6 : PySem.W.codeIn K cd6 "law" = true) (k6 : PySem.W.keepIn K (.ref f6) = true)
    (z_all : PySem.W.nsIn K mainGlobals "all" = some none)
    (z_isinstance : PySem.W.nsIn K mainGlobals "isinstance" = some none)
    (z_len : PySem.W.nsIn K mainGlobals "len" = some none)
    (z_list : PySem.W.nsIn K mainGlobals "list" = some none)
    (z_range : PySem.W.nsIn K mainGlobals "range" = some none)
    (z_set : PySem.W.nsIn K mainGlobals "set" = some none)
    (z_str : PySem.W.nsIn K mainGlobals "str" = some none)
    (z_tuple : PySem.W.nsIn K mainGlobals "tuple" = some none)
    (w_LETTERS : PySem.W.nsIn K mainGlobals "LETTERS" = some (some (.str "abcdefghijklmnopqrstuvwxyz" t_LETTERS))) :
    ∃ fd : FuncData, (∀ (s : Shared) (v : Value), BindsTo s fd ⟨[v], []⟩ [("script", v)]) ∧ ∀ base : Heap, K.In base → base.Ns mainGlobals mg → FnOk P w K mg base (L2.CX P w) 4 fa fd ["script"] (spL K f_law) := by
  have e := hfa.symm.trans (PySem.W.mg_of X G a6)
  cases e
  have F0 := fun_mk (st := s__law_drawn) l0 c0 k0
  have b0 := F0.binds (ps := ["script", "k", "many"]) fun _ _ _ _ _ _ us hl => match us, hl with | [_, _, _], _ => rfl
  have F1 := fun_mk (st := s__law_names) l1 c1 k1
  have b1 := F1.binds (ps := ["script", "at", "many"]) fun _ _ _ _ _ _ us hl => match us, hl with | [_, _, _], _ => rfl
  have F2 := fun_mk (st := s__law_sides) l2 c2 k2
  have b2 := F2.binds (ps := ["script", "at"]) fun _ _ _ _ _ _ us hl => match us, hl with | [_, _], _ => rfl
  have F3 := fun_mk (st := s_is_name) l3 c3 k3
  have b3 := F3.binds (ps := ["thing"]) fun _ _ _ _ _ _ us hl => match us, hl with | [_], _ => rfl
  have F4 := fun_mk (st := s_is_side) l4 c4 k4
  have b4 := F4.binds (ps := ["thing"]) fun _ _ _ _ _ _ us hl => match us, hl with | [_], _ => rfl
  have F5 := fun_mk (st := s_is_bases) l5 c5 k5
  have b5 := F5.binds (ps := ["thing"]) fun _ _ _ _ _ _ us hl => match us, hl with | [_], _ => rfl
  have F6 := fun_mk (st := s_law) l6 c6 k6
  have b6 := F6.binds (ps := ["script"]) fun _ _ _ _ _ _ us hl => match us, hl with | [_], _ => rfl
  have T : ∀ base : Heap, Txt ⟨P, w, K, mg, base, fun _ => 0⟩ := fun base => ⟨PySem.W.mg_none_of X G z_all, PySem.W.mg_none_of X G z_isinstance, PySem.W.mg_none_of X G z_len, PySem.W.mg_none_of X G z_list, PySem.W.mg_none_of X G z_range, PySem.W.mg_none_of X G z_set, PySem.W.mg_none_of X G z_str, PySem.W.mg_none_of X G z_tuple, ⟨_, PySem.W.mg_of X G w_LETTERS⟩, ⟨_, _, F0, PySem.W.mg_of X G a0, b0⟩, ⟨_, _, F1, PySem.W.mg_of X G a1, b1⟩, ⟨_, _, F2, PySem.W.mg_of X G a2, b2⟩, ⟨_, _, F3, PySem.W.mg_of X G a3, b3⟩, ⟨_, _, F4, PySem.W.mg_of X G a4, b4⟩, ⟨_, _, F5, PySem.W.mg_of X G a5, b5⟩, ⟨_, _, F6, PySem.W.mg_of X G a6, b6⟩⟩
  exact ⟨_, fun s v => .of_eq rfl, fun base _ _ => fnok_L (fn_ok (S := S_law ⟨P, w, K, mg, base, fun _ => 0⟩) F6 sc_law rfl rfl (d_law (T base) (ok__law_sides (T base)) (ok_is_side (T base)) (ok__law_drawn (T base)) (ok_is_bases (T base))) (Nat.le_of_ble_eq_true rfl))⟩
theorem walk {l : PySem.W.OpenLaw} {q : Program} {loose : List Str} {XP : (Str → Option Value) → Heap → Prop} {YP : World → Heap → Prop} {d : DefRec} {K : Params → PySem.W.Frag}
    (hn : l.most = some 63) (hdf : d.params.defaults = []) (hY : ∀ (w : World) (h : Heap), YP w h → (K w.params).In h)
    (F : ∀ (w : World) (mg : Str → Option Value) (fa : Addr) (h : Heap), (K w.params).In h → h.Ns mainGlobals mg → mg d.name = some (.ref fa) → ∃ fd : FuncData, (∀ (s : Shared) (u : Value), BindsTo s fd ⟨[u], []⟩ [("script", u)]) ∧
        ∀ base : Heap, (K w.params).In base → base.Ns mainGlobals mg → FnOk l.prog w (K w.params) mg base (L2.CX l.prog w) 4 fa fd ["script"] (spL (K w.params) f_law)) :
    PySem.W.WalkO q loose XP YP l.row.toRowW d [] (fun f vs => PySem.call f vs) :=
  L2.walk_of (n := 63) (k := 4) (x := "script") (CX := fun w => L2.CX l.prog w) (sp := fun w => spL (K w.params) f_law) hn (by decide) hdf ⟨rfl, by decide, by decide⟩ hY F (fun w H a ns hl hO hS => ⟨a, ns, _, rfl, law_true ns hl, rfl, hO, hS, fun _ => rfl⟩) fun w H s e s' z => cx_false z
end L2.Ev.W
open PySem PySem.W PyProof.Rows in
set_option maxRecDepth 100000 in
set_option maxHeartbeats 0 in
theorem PySem.Challenge.cw_diamondbook_k01_sides_holds : PySem.Challenge.rw_diamondbook_k01_sides.Holds := by
  w_on; o_law; k_head; (case hw => w_witness2)
  k_fill
  refine L2.Ev.W.walk (l := PySem.Challenge.rw_diamondbook_k01_sides) rfl rfl (fun w h Y => PySem.W.kIn_of Y) ?F
  case F =>
    intro w mg fa h KX G hmg
    refine' L2.Ev.W.txt_mk KX G hmg ?a0 ?l0 ?c0 ?k0 ?a1 ?l1 ?c1 ?k1 ?a2 ?l2 ?c2 ?k2 ?a3 ?l3 ?c3 ?k3 ?a4 ?l4 ?c4 ?k4 ?a5 ?l5 ?c5 ?k5 ?a6 ?l6 ?c6 ?k6 ?z_all ?z_isinstance ?z_len ?z_list ?z_range ?z_set ?z_str ?z_tuple ?w_LETTERS
    (case a0 => first | k_is | rfl | kernel_rfl)
    (case l0 => first | k_is | rfl | kernel_rfl)
    (case c0 => first | k_is | rfl | kernel_rfl)
    (case k0 => first | k_is | rfl | kernel_rfl)
    (case a1 => first | k_is | rfl | kernel_rfl)
    (case l1 => first | k_is | rfl | kernel_rfl)
    (case c1 => first | k_is | rfl | kernel_rfl)
    (case k1 => first | k_is | rfl | kernel_rfl)
    (case a2 => first | k_is | rfl | kernel_rfl)
    (case l2 => first | k_is | rfl | kernel_rfl)
    (case c2 => first | k_is | rfl | kernel_rfl)
    (case k2 => first | k_is | rfl | kernel_rfl)
    (case a3 => first | k_is | rfl | kernel_rfl)
    (case l3 => first | k_is | rfl | kernel_rfl)
    (case c3 => first | k_is | rfl | kernel_rfl)
    (case k3 => first | k_is | rfl | kernel_rfl)
    (case a4 => first | k_is | rfl | kernel_rfl)
    (case l4 => first | k_is | rfl | kernel_rfl)
    (case c4 => first | k_is | rfl | kernel_rfl)
    (case k4 => first | k_is | rfl | kernel_rfl)
    (case a5 => first | k_is | rfl | kernel_rfl)
    (case l5 => first | k_is | rfl | kernel_rfl)
    (case c5 => first | k_is | rfl | kernel_rfl)
    (case k5 => first | k_is | rfl | kernel_rfl)
    (case a6 => first | k_is | rfl | kernel_rfl)
    (case l6 => first | k_is | rfl | kernel_rfl)
    (case c6 => first | k_is | rfl | kernel_rfl)
    (case k6 => first | k_is | rfl | kernel_rfl)
    (case z_all => first | k_is | rfl | kernel_rfl)
    (case z_isinstance => first | k_is | rfl | kernel_rfl)
    (case z_len => first | k_is | rfl | kernel_rfl)
    (case z_list => first | k_is | rfl | kernel_rfl)
    (case z_range => first | k_is | rfl | kernel_rfl)
    (case z_set => first | k_is | rfl | kernel_rfl)
    (case z_str => first | k_is | rfl | kernel_rfl)
    (case z_tuple => first | k_is | rfl | kernel_rfl)
    (case w_LETTERS => first | k_is | rfl | kernel_rfl)
