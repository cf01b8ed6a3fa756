import PyProof.Rows.All
import Wide.All
import OpenK.AllK
import Wide.FinOn
import HandS.ForMost
import HandS.ForExc
import HandS.TupAny
import HandS.Deep
import HandS.IsInst
import HandS.SortInts
import HandS.Conv
import KE.KSortedM
import HandS.Flow
import HandS.Iter
import HandS.Zip
import HandS.SetFor
import PyProof.Rows.AssignMoreSeq
import HandS.StrMore
import HandS.CallSlots
import HandS.HotCalls
import HandS.Head2
import HandS.HeadEnd
import HandS.HeadHook2
import PySem.Challenge.RW_sendsure_k64_whole_windows_of_links
set_option Elab.async false
set_option linter.all false
set_option maxRecDepth 100000
set_option maxHeartbeats 4000000
/-! Ow: programs over trees with owned lists: values, their standing in a heap, what a piece of text does to them -/
namespace Ow
open PySem L2

/-- a value as a tree; a list is one's own (may be changed) or not -/
inductive O where
  | non | bl (b : Bool) | int (i : Int) | str (x : List Nat)
  | tup (xs : List O) | lst (w : Bool) (xs : List O) | scr (ns : List Int)

mutual
def O.fz : O → O
  | .tup xs => .tup (fzs xs)
  | .lst _ xs => .lst false (fzs xs)
  | .non => .non | .bl b => .bl b | .int i => .int i | .str x => .str x | .scr ns => .scr ns
def fzs : List O → List O
  | [] => []
  | x :: xs => x.fz :: fzs xs
end
mutual
/-- nothing in it may be changed -/
def O.fixed : O → Bool
  | .tup xs => fixeds xs
  | .lst w xs => !w && fixeds xs
  | .non => true | .bl _ => true | .int _ => true | .str _ => true | .scr _ => true
def fixeds : List O → Bool
  | [] => true
  | x :: xs => x.fixed && fixeds xs
end
mutual
def Rp (K : PySem.W.Frag) (F H : Hp) : O → V → List Addr → Prop
  | .non, v, fp => v = .non ∧ fp = []
  | .bl b, v, fp => v = .bl b ∧ fp = []
  | .int i, v, fp => v = .int i ∧ fp = []
  | .str x, v, fp => v = .str ⟨x.toArray⟩ ∧ fp = []
  | .scr ns, v, fp => (∃ a, v = .ref a ∧ SqL K F a (ns.map .int)) ∧ fp = []
  | .tup xs, v, fp => ∃ a vs, v = .ref a ∧ SqT K F a vs ∧ Rps K F H xs vs fp
  | .lst w xs, v, fp => ∃ a vs f', v = .ref a ∧ Rps K F H xs vs f' ∧
      ((w = false ∧ F a = some (.lst vs) ∧ fp = f') ∨ (w = true ∧ H a = some (.lst vs) ∧ F a = none ∧ fp = a :: f'))
def Rps (K : PySem.W.Frag) (F H : Hp) : List O → List V → List Addr → Prop
  | [], vs, fp => vs = [] ∧ fp = []
  | x :: xs, vs, fp => ∃ v vs' f1 f2, vs = v :: vs' ∧ Rp K F H x v f1 ∧ Rps K F H xs vs' f2 ∧ fp = f1 ++ f2
end
theorem fzs_map (xs : List O) : fzs xs = xs.map O.fz := by
  induction xs with
  | nil => rfl
  | cons x xs ih => simp [fzs, ih]
theorem fixeds_all (xs : List O) : fixeds xs = xs.all O.fixed := by
  induction xs with
  | nil => rfl
  | cons x xs ih => simp [fixeds, ih]

/-- F is a part of H -/
abbrev Sub (F H : Hp) : Prop := Same F H
theorem sqL_sub {K : PySem.W.Frag} {F H : Hp} {a : Addr} {xs : List V} (e : Sub F H) (h : SqL K F a xs) : SqL K H a xs := e.seq h
theorem sqT_sub {K : PySem.W.Frag} {F H : Hp} {a : Addr} {xs : List V} (e : Sub F H) (h : SqT K F a xs) : SqT K H a xs := by
  rcases h with (h | ⟨o, h⟩) | h
  · exact .inl (.inl (e _ _ h))
  · exact .inl (.inr ⟨o, e _ _ h⟩)
  · exact .inr h

section
variable {K : PySem.W.Frag} {F F' H H' : Hp}
mutual
theorem Rp.keep (hF : Sub F F') : ∀ (o : O) (v : V) (fp : List Addr), Rp K F H o v fp → (∀ a ∈ fp, H' a = H a ∧ F' a = none) → Rp K F' H' o v fp
  | .non, v, fp, h, _ => h
  | .bl b, v, fp, h, _ => h
  | .int i, v, fp, h, _ => h
  | .str x, v, fp, h, _ => h
  | .scr ns, v, fp, h, _ => by
    obtain ⟨⟨a, e, q⟩, z⟩ := h
    exact ⟨⟨a, e, sqL_sub hF q⟩, z⟩
  | .tup xs, v, fp, h, k => by
    obtain ⟨a, vs, e, q, r⟩ := h
    exact ⟨a, vs, e, sqT_sub hF q, Rps.keep hF xs vs fp r k⟩
  | .lst w xs, v, fp, h, k => by
    obtain ⟨a, vs, f', e, r, q⟩ := h
    refine ⟨a, vs, f', e, Rps.keep hF xs vs f' r fun b hb => k b ?_, ?_⟩
    · rcases q with ⟨_, _, rfl⟩ | ⟨_, _, _, rfl⟩
      · exact hb
      · exact List.mem_cons_of_mem _ hb
    · rcases q with ⟨w0, q, rfl⟩ | ⟨w0, q, n, rfl⟩
      · exact .inl ⟨w0, hF _ _ q, rfl⟩
      · have := k a List.mem_cons_self
        exact .inr ⟨w0, by rw [this.1]; exact q, this.2, rfl⟩
theorem Rps.keep (hF : Sub F F') : ∀ (xs : List O) (vs : List V) (fp : List Addr), Rps K F H xs vs fp → (∀ a ∈ fp, H' a = H a ∧ F' a = none) → Rps K F' H' xs vs fp
  | [], vs, fp, h, _ => h
  | x :: xs, vs, fp, h, k => by
    obtain ⟨v, vs', f1, f2, rfl, r1, r2, rfl⟩ := h
    exact ⟨v, vs', f1, f2, rfl, Rp.keep hF x v f1 r1 (fun a ha => k a (List.mem_append_left _ ha)), Rps.keep hF xs vs' f2 r2 (fun a ha => k a (List.mem_append_right _ ha)), rfl⟩
end
mutual
/-- what is fixed has no places of its own -/
theorem Rp.nofp : ∀ (o : O) (v : V) (fp : List Addr), o.fixed = true → Rp K F H o v fp → fp = []
  | .non, v, fp, _, h => h.2
  | .bl b, v, fp, _, h => h.2
  | .int i, v, fp, _, h => h.2
  | .str x, v, fp, _, h => h.2
  | .scr ns, v, fp, _, h => h.2
  | .tup xs, v, fp, f, h => by
    obtain ⟨a, vs, e, q, r⟩ := h
    exact Rps.nofp xs vs fp f r
  | .lst w xs, v, fp, f, h => by
    obtain ⟨a, vs, f', e, r, q⟩ := h
    simp only [O.fixed, Bool.and_eq_true, Bool.not_eq_true'] at f
    rcases q with ⟨_, _, rfl⟩ | ⟨w0, _, _, rfl⟩
    · exact Rps.nofp xs vs fp f.2 r
    · rw [w0] at f; exact absurd f.1 (by decide)
theorem Rps.nofp : ∀ (xs : List O) (vs : List V) (fp : List Addr), fixeds xs = true → Rps K F H xs vs fp → fp = []
  | [], vs, fp, _, h => h.2
  | x :: xs, vs, fp, f, h => by
    obtain ⟨v, vs', f1, f2, rfl, r1, r2, rfl⟩ := h
    simp only [fixeds, Bool.and_eq_true] at f
    rw [Rp.nofp x v f1 f.1 r1, Rps.nofp xs vs' f2 f.2 r2]
    rfl
end
mutual
/-- what is one's own may be given up: it is fixed from then on -/
theorem Rp.fixed (hF : Sub F F') : ∀ (o : O) (v : V) (fp : List Addr), Rp K F H o v fp → (∀ a ∈ fp, F' a = H a) → Rp K F' H' o.fz v []
  | .non, v, fp, h, _ => ⟨h.1, rfl⟩
  | .bl b, v, fp, h, _ => ⟨h.1, rfl⟩
  | .int i, v, fp, h, _ => ⟨h.1, rfl⟩
  | .str x, v, fp, h, _ => ⟨h.1, rfl⟩
  | .scr ns, v, fp, h, _ => by
    obtain ⟨⟨a, e, q⟩, z⟩ := h
    exact ⟨⟨a, e, sqL_sub hF q⟩, rfl⟩
  | .tup xs, v, fp, h, k => by
    obtain ⟨a, vs, e, q, r⟩ := h
    exact ⟨a, vs, e, sqT_sub hF q, Rps.fixed hF xs vs fp r k⟩
  | .lst w xs, v, fp, h, k => by
    obtain ⟨a, vs, f', e, r, q⟩ := h
    refine ⟨a, vs, [], e, Rps.fixed hF xs vs f' r fun b hb => k b ?_, .inl ⟨rfl, ?_, rfl⟩⟩
    · rcases q with ⟨_, _, rfl⟩ | ⟨_, _, _, rfl⟩
      · exact hb
      · exact List.mem_cons_of_mem _ hb
    · rcases q with ⟨w0, q, rfl⟩ | ⟨w0, q, n, rfl⟩
      · exact hF _ _ q
      · rw [k a List.mem_cons_self]; exact q
theorem Rps.fixed (hF : Sub F F') : ∀ (xs : List O) (vs : List V) (fp : List Addr), Rps K F H xs vs fp → (∀ a ∈ fp, F' a = H a) → Rps K F' H' (fzs xs) vs []
  | [], vs, fp, h, _ => ⟨h.1, rfl⟩
  | x :: xs, vs, fp, h, k => by
    obtain ⟨v, vs', f1, f2, rfl, r1, r2, rfl⟩ := h
    exact ⟨v, vs', [], [], rfl, Rp.fixed hF x v f1 r1 (fun a ha => k a (List.mem_append_left _ ha)), Rps.fixed hF xs vs' f2 r2 (fun a ha => k a (List.mem_append_right _ ha)), rfl⟩
end
mutual
theorem O.fz_fixed : ∀ o : O, o.fz.fixed = true
  | .non => rfl
  | .bl _ => rfl
  | .int _ => rfl
  | .str _ => rfl
  | .scr _ => rfl
  | .tup xs => fzs_fixed xs
  | .lst w xs => by simp only [O.fz, O.fixed, Bool.not_false, Bool.true_and]; exact fzs_fixed xs
theorem fzs_fixed : ∀ xs : List O, fixeds (fzs xs) = true
  | [] => rfl
  | x :: xs => by simp only [fzs, fixeds, O.fz_fixed x, fzs_fixed xs, Bool.and_self]
end
mutual
theorem O.fz_of : ∀ o : O, o.fixed = true → o.fz = o
  | .non, _ => rfl
  | .bl _, _ => rfl
  | .int _, _ => rfl
  | .str _, _ => rfl
  | .scr _, _ => rfl
  | .tup xs, h => by simp only [O.fz]; rw [fzs_of xs h]
  | .lst w xs, h => by
    simp only [O.fixed, Bool.and_eq_true, Bool.not_eq_true'] at h
    simp only [O.fz]; rw [fzs_of xs h.2, h.1]
theorem fzs_of : ∀ xs : List O, fixeds xs = true → fzs xs = xs
  | [], _ => rfl
  | x :: xs, h => by
    simp only [fixeds, Bool.and_eq_true] at h
    simp only [fzs]; rw [O.fz_of x h.1, fzs_of xs h.2]
end
mutual
/-- one's own places hold lists, and stand outside F -/
theorem Rp.at : ∀ (o : O) (v : V) (fp : List Addr), Rp K F H o v fp → ∀ a ∈ fp, F a = none ∧ ∃ vs, H a = some (.lst vs)
  | .non, v, fp, h, a, ha => by rw [h.2] at ha; cases ha
  | .bl b, v, fp, h, a, ha => by rw [h.2] at ha; cases ha
  | .int i, v, fp, h, a, ha => by rw [h.2] at ha; cases ha
  | .str x, v, fp, h, a, ha => by rw [h.2] at ha; cases ha
  | .scr ns, v, fp, h, a, ha => by rw [h.2] at ha; cases ha
  | .tup xs, v, fp, h, a, ha => by
    obtain ⟨b, vs, e, q, r⟩ := h
    exact Rps.at xs vs fp r a ha
  | .lst w xs, v, fp, h, a, ha => by
    obtain ⟨b, vs, f', e, r, q⟩ := h
    rcases q with ⟨w0, q, rfl⟩ | ⟨w0, q, n, rfl⟩
    · exact Rps.at xs vs fp r a ha
    · rcases List.mem_cons.mp ha with rfl | ha
      · exact ⟨n, vs, q⟩
      · exact Rps.at xs vs f' r a ha
theorem Rps.at : ∀ (xs : List O) (vs : List V) (fp : List Addr), Rps K F H xs vs fp → ∀ a ∈ fp, F a = none ∧ ∃ vs, H a = some (.lst vs)
  | [], vs, fp, h, a, ha => by rw [h.2] at ha; cases ha
  | x :: xs, vs, fp, h, a, ha => by
    obtain ⟨v, vs', f1, f2, rfl, r1, r2, rfl⟩ := h
    rcases List.mem_append.mp ha with ha | ha
    · exact Rp.at x v f1 r1 a ha
    · exact Rps.at xs vs' f2 r2 a ha
end
end

/-! ### environments, what comes out -/
abbrev Ev := List (Option O)
structure Exn where
  cls : Str
  args : List (Str × O)
inductive R (α : Type) where
  | ok (e : Ev) (a : α)
  | err (e : Ev) (x : Exn)
  | bad
def R.bind {α β : Type} : R α → (Ev → α → R β) → R β
  | .ok e a, k => k e a
  | .err e x, _ => .err e x
  | .bad, _ => .bad
abbrev M (α : Type) := Ev → R α
inductive Ctl where
  | nx | brk | cnt | ret (o : O)

/-- where a body stands: the written part, the classes' places, what is wanted of what is raised -/
structure Cfg where
  K : PySem.W.Frag
  cm : Str → Addr
  E : Value → Option Addr → St → Hp → Prop

structure Rel (K : PySem.W.Frag) (F H : Hp) (σ : St) (env : Ev) (fp : Nat → List Addr) (fr : Addr → Prop) : Prop where
  len : σ.length = env.length
  sub : Sub F H
  sl : ∀ i o, env[i]? = some (some o) → ∃ v, σ[i]? = some (some v) ∧ Rp K F H o v (fp i)
  off : ∀ i, (∀ o, env[i]? ≠ some (some o)) → fp i = []
  nd : ∀ i, (fp i).Nodup
  dj : ∀ i j a, i ≠ j → a ∈ fp i → a ∉ fp j
  fr : ∀ a, fr a → (∃ o, H a = some o) ∧ F a = none ∧ ∀ i, a ∉ fp i

/-- what is at the places of fr stays -/
def Kp (fr : Addr → Prop) (H H' : Hp) : Prop := ∀ a, fr a → H' a = H a
theorem Kp.refl {fr : Addr → Prop} {H : Hp} : Kp fr H H := fun _ _ => rfl
theorem Kp.trans {fr : Addr → Prop} {H H1 H2 : Hp} (a : Kp fr H H1) (b : Kp fr H1 H2) : Kp fr H H2 := fun x hx => (b x hx).trans (a x hx)
theorem Kp.of {fr fr' : Addr → Prop} {H H1 : Hp} (a : Kp fr H H1) (h : ∀ x, fr' x → fr x) : Kp fr' H H1 := fun x hx => a x (h x hx)

/-- an exception as it lies -/
def RpX (c : Cfg) (H : Hp) (x : Exn) (cl : Value) (d : Option Addr) : Prop :=
  cl = .ref (c.cm x.cls) ∧ ((x.args = [] ∧ d = none) ∨ ∃ (a : Addr) (fs : List (Str × V)), d = some a ∧ H a = some (.xd fs) ∧ x.args ≠ [] ∧
    fs.map (·.1) = x.args.map (·.1) ∧ ∀ (f : Str) (o : O), (f, o) ∈ x.args → ∃ v, fs.lookup f = some v ∧ Rp c.K (fun _ => none) H o v [])

def WE (c : Cfg) (F H : Hp) (fr : Addr → Prop) (σ : St) (Q : VK) : R O → Prop
  | .ok env o => ∀ v F' H' fp fv, Sub F F' → Kp fr H H' → Rel c.K F' H' σ env fp fr → Rp c.K F' H' o v fv → fv.Nodup → (∀ a ∈ fv, ¬ fr a ∧ ∀ i, a ∉ fp i) → Q v H'
  | .err env x => ∀ cl d F' H' fp, Sub F F' → Kp fr H H' → Rel c.K F' H' σ env fp fr → RpX c H' x cl d → c.E cl d σ H'
  | .bad => False
/-- what an expression does -/
def EvO (c : Cfg) (te : TE) (f : M O) : Prop := ∀ F H σ env fp fr Q, Rel c.K F H σ env fp fr → WE c F H fr σ Q (f env) → te σ H Q

def WF (c : Cfg) (F H : Hp) (fr : Addr → Prop) (σ : St) (Q : VK) : R O → Prop
  | .ok env o => ∀ v F' H' fp, Sub F F' → Kp fr H H' → Rel c.K F' H' σ env fp fr → Rp c.K F' H' o v [] → Q v H'
  | .err env x => ∀ cl d F' H' fp, Sub F F' → Kp fr H H' → Rel c.K F' H' σ env fp fr → RpX c H' x cl d → c.E cl d σ H'
  | .bad => False
/-- .. whose value has nothing of its own -/
def EvF (c : Cfg) (te : TE) (f : M O) : Prop := ∀ F H σ env fp fr Q, Rel c.K F H σ env fp fr → WF c F H fr σ Q (f env) → te σ H Q

def WP (c : Cfg) (F H : Hp) (fr : Addr → Prop) (σ : St) (Q : VK) : R O → Prop
  | .ok env o => ∀ v F' H' fp fv, Sub F F' → Kp fr H H' → Rel c.K F' H' σ env fp fr → Rp c.K F' H' o v fv → Q v H'
  | .err env x => ∀ cl d F' H' fp, Sub F F' → Kp fr H H' → Rel c.K F' H' σ env fp fr → RpX c H' x cl d → c.E cl d σ H'
  | .bad => False
/-- .. whose value is read at once -/
def EvP (c : Cfg) (te : TE) (f : M O) : Prop := ∀ F H σ env fp fr Q, Rel c.K F H σ env fp fr → WP c F H fr σ Q (f env) → te σ H Q

def mFz (f : M O) : M O := fun env => match f env with
  | .ok e o => .ok e o.fz
  | .err e x => .err e x
  | .bad => .bad

section
variable {c : Cfg} {te ta tb : TE} {f g : M O}
theorem EvO.p (h : EvO c te f) : EvP c te f := fun F H σ env fp fr Q r w => h F H σ env fp fr Q r (by
  cases e : f env with
  | ok env' o => rw [e] at w; exact fun v F' H' fp fv a b c d _ _ => w v F' H' fp fv a b c d
  | err env' x => rw [e] at w; exact w
  | bad => rw [e] at w; exact w)
theorem EvF.p (h : EvF c te f) : EvP c te f := fun F H σ env fp fr Q r w => h F H σ env fp fr Q r (by
  cases e : f env with
  | ok env' o => rw [e] at w; exact fun v F' H' fp a b c d => w v F' H' fp [] a b c d
  | err env' x => rw [e] at w; exact w
  | bad => rw [e] at w; exact w)
theorem EvF.o (h : EvF c te f) : EvO c te f := fun F H σ env fp fr Q r w => h F H σ env fp fr Q r (by
  cases e : f env with
  | ok env' o => rw [e] at w; exact fun v F' H' fp a b c d => w v F' H' fp [] a b c d List.nodup_nil (fun _ z => nomatch z)
  | err env' x => rw [e] at w; exact w
  | bad => rw [e] at w; exact w)

/-- F with the places l of H -/
def with_ (F H : Hp) (l : List Addr) : Hp := fun a => if a ∈ l then H a else F a
theorem with_in {F H : Hp} {l : List Addr} {a : Addr} (h : a ∈ l) : with_ F H l a = H a := if_pos h
theorem with_out {F H : Hp} {l : List Addr} {a : Addr} (h : a ∉ l) : with_ F H l a = F a := if_neg h
theorem with_sub {F H : Hp} {l : List Addr} (h : Sub F H) : Sub (with_ F H l) H := fun a o e => by
  by_cases m : a ∈ l
  · rw [with_in m] at e; exact e
  · rw [with_out m] at e; exact h a o e
theorem sub_with {F H : Hp} {l : List Addr} (h : ∀ a ∈ l, F a = none) : Sub F (with_ F H l) := fun a o e => by
  by_cases m : a ∈ l
  · rw [h a m] at e; cases e
  · rw [with_out m]; exact e
/-- places given up that are no slot's -/
theorem Rel.give {K : PySem.W.Frag} {F H : Hp} {σ : St} {env : Ev} {fp : Nat → List Addr} {fr : Addr → Prop} (r : Rel K F H σ env fp fr) {l : List Addr} (hl : ∀ a ∈ l, F a = none) (h : ∀ a ∈ l, ¬ fr a ∧ ∀ i, a ∉ fp i) : Rel K (with_ F H l) H σ env fp fr where
  len := r.len
  sub := with_sub r.sub
  sl := fun i o e => by
    obtain ⟨v, e1, q⟩ := r.sl i o e
    refine ⟨v, e1, Rp.keep (sub_with hl) o v _ q fun a ha => ⟨rfl, ?_⟩⟩
    rw [with_out fun m => (h a m).2 i ha]
    exact (Rp.at o v _ q a ha).1
  off := r.off
  nd := r.nd
  dj := r.dj
  fr := fun a ha => by
    obtain ⟨x, y, z⟩ := r.fr a ha
    exact ⟨x, by rw [with_out fun m => (h a m).1 ha]; exact y, z⟩
theorem EvO.toF (h : EvO c te f) : EvF c te (mFz f) := fun F H σ env fp fr Q r w => h F H σ env fp fr Q r (by
  unfold mFz at w
  cases e : f env with
  | ok env' o =>
    rw [e] at w
    intro v F' H' fp' fv s k r' q nd d
    have hl : ∀ a ∈ fv, F' a = none := fun a ha => (Rp.at o v fv q a ha).1
    exact w v (with_ F' H' fv) H' fp' (s.trans (sub_with hl)) k (r'.give hl d) (Rp.fixed (sub_with hl) o v fv q fun a ha => with_in ha)
  | err env' x => rw [e] at w; exact w
  | bad => rw [e] at w; exact w)

/-! ### names, constants -/
theorem Rel.refl_k {F H : Hp} {fr : Addr → Prop} : Sub F F ∧ Kp fr H H := ⟨Same.refl _, Kp.refl⟩
def mC (o : O) : M O := fun env => .ok env o
theorem ev_c {v : V} {o : O} (h : ∀ K F H, Rp K F H o v []) : EvF c (tC v) (mC o) := fun F H σ env fp fr Q r w => w v F H fp (Same.refl _) Kp.refl r (h _ _ _)

/-- a name read, not kept -/
def mPk (i : Nat) : M O := fun env => match env[i]? with
  | some (some o) => .ok env o
  | _ => .bad
/-- a name read, kept: what it holds is given up -/
def mVar (i : Nat) : M O := fun env => match env[i]? with
  | some (some o) => .ok (env.set i (some o.fz)) o.fz
  | _ => .bad
/-- a name read for the last time -/
def mMove (i : Nat) : M O := fun env => match env[i]? with
  | some (some o) => .ok (env.set i none) o
  | _ => .bad
theorem evp_var {i : Nat} : EvP c (tVar i) (mPk i) := fun F H σ env fp fr Q r w => by
  unfold mPk at w
  split at w
  · rename_i o e
    obtain ⟨v, e1, q⟩ := r.sl i o e
    exact ⟨v, e1, w v F H fp (fp i) (Same.refl _) Kp.refl r q⟩
  · exact w.elim
theorem getElem?_set' {α : Type} {l : List α} {i j : Nat} {x : α} (hi : i < l.length) : (l.set i x)[j]? = if i = j then some x else l[j]? := by
  rw [List.getElem?_set]
  by_cases h : i = j
  · subst h; simp [hi]
  · simp [h]
theorem lt_of_some {α : Type} {l : List α} {i : Nat} {x : α} (h : l[i]? = some x) : i < l.length := (List.getElem?_eq_some_iff.mp h).1
/-- a slot's own places are taken out -/
theorem Rel.move {K : PySem.W.Frag} {F H : Hp} {σ : St} {env : Ev} {fp : Nat → List Addr} {fr : Addr → Prop} (r : Rel K F H σ env fp fr) {i : Nat} (hi : i < env.length) : Rel K F H σ (env.set i none) (fun k => if k = i then [] else fp k) fr where
  len := by rw [List.length_set]; exact r.len
  sub := r.sub
  sl := fun j o e => by
    rw [getElem?_set' hi] at e
    by_cases h : i = j
    · rw [if_pos h] at e; cases e
    · rw [if_neg h] at e
      rw [if_neg fun z => h z.symm]
      exact r.sl j o e
  off := fun j h => by
    by_cases q : j = i
    · rw [if_pos q]
    · rw [if_neg q]
      refine r.off j fun o e => h o ?_
      rw [getElem?_set' hi, if_neg fun z => q z.symm]
      exact e
  nd := fun j => by
    by_cases q : j = i
    · rw [if_pos q]; exact List.nodup_nil
    · rw [if_neg q]; exact r.nd j
  dj := fun j k a h ha hb => by
    by_cases q : j = i
    · rw [if_pos q] at ha; cases ha
    · by_cases q' : k = i
      · rw [if_pos q'] at hb; cases hb
      · rw [if_neg q] at ha; rw [if_neg q'] at hb
        exact r.dj j k a h ha hb
  fr := fun a ha => by
    obtain ⟨x, y, z⟩ := r.fr a ha
    refine ⟨x, y, fun j h => ?_⟩
    by_cases q : j = i
    · rw [if_pos q] at h; cases h
    · rw [if_neg q] at h; exact z j h
/-- a slot is filled -/
theorem Rel.fill {K : PySem.W.Frag} {F H : Hp} {σ : St} {env : Ev} {fp : Nat → List Addr} {fr : Addr → Prop} (r : Rel K F H σ env fp fr) {i : Nat} {o : O} {v : V} {fv : List Addr} (hi : i < env.length) (q : Rp K F H o v fv) (nd : fv.Nodup)
    (d : ∀ a ∈ fv, ¬ fr a ∧ ∀ j, j ≠ i → a ∉ fp j) : Rel K F H (σ.set i (some v)) (env.set i (some o)) (fun k => if k = i then fv else fp k) fr where
  len := by rw [List.length_set, List.length_set]; exact r.len
  sub := r.sub
  sl := fun j o' e => by
    rw [getElem?_set' hi] at e
    rw [getElem?_set' (by rw [r.len]; exact hi)]
    by_cases h : i = j
    · rw [if_pos h] at e; cases e
      rw [if_pos h, if_pos h.symm]
      exact ⟨v, rfl, q⟩
    · rw [if_neg h] at e
      rw [if_neg h, if_neg fun z => h z.symm]
      exact r.sl j o' e
  off := fun j h => by
    by_cases q : j = i
    · exact absurd (by rw [q, getElem?_set' hi, if_pos rfl]) (h o)
    · rw [if_neg q]
      refine r.off j fun o e => h o ?_
      rw [getElem?_set' hi, if_neg fun z => q z.symm]
      exact e
  nd := fun j => by
    by_cases q : j = i
    · rw [if_pos q]; exact nd
    · rw [if_neg q]; exact r.nd j
  dj := fun j k a h ha hb => by
    by_cases q : j = i
    · rw [if_pos q] at ha
      rw [if_neg fun z => h (q.trans z.symm)] at hb
      exact (d a ha).2 k (fun z => h (q.trans z.symm)) hb
    · rw [if_neg q] at ha
      by_cases q' : k = i
      · rw [if_pos q'] at hb; exact (d a hb).2 j q ha
      · rw [if_neg q'] at hb
        exact r.dj j k a h ha hb
  fr := fun a ha => by
    obtain ⟨x, y, z⟩ := r.fr a ha
    refine ⟨x, y, fun j h => ?_⟩
    by_cases q : j = i
    · rw [if_pos q] at h; exact (d a h).1 ha
    · rw [if_neg q] at h; exact z j h
/-- a slot's value as it is again, F further -/
theorem Rel.refill {K : PySem.W.Frag} {F H : Hp} {σ : St} {env : Ev} {fp : Nat → List Addr} {fr : Addr → Prop} (r : Rel K F H σ env fp fr) {i : Nat} {o : O} {v : V} (hi : i < env.length) (e : σ[i]? = some (some v)) (q : Rp K F H o v []) :
    Rel K F H σ (env.set i (some o)) (fun k => if k = i then [] else fp k) fr := by
  have h := r.fill (fv := []) hi q List.nodup_nil (fun _ z => nomatch z)
  have e' : σ.set i (some v) = σ := by
    apply List.ext_getElem?
    intro j
    rw [getElem?_set' (lt_of_some e)]
    by_cases z : i = j
    · rw [if_pos z, ← z, e]
    · rw [if_neg z]
  rwa [e'] at h
theorem ev_var {i : Nat} : EvF c (tVar i) (mVar i) := fun F H σ env fp fr Q r w => by
  unfold mVar at w
  split at w
  · rename_i o e
    obtain ⟨v, e1, q⟩ := r.sl i o e
    have hl : ∀ a ∈ fp i, F a = none := fun a ha => (Rp.at o v _ q a ha).1
    have r1 := r.move (lt_of_some e)
    have r2 : Rel c.K (with_ F H (fp i)) H σ (env.set i none) (fun k => if k = i then [] else fp k) fr := r1.give hl fun a ha => ⟨fun z => (r.fr a z).2.2 i ha, fun j hj => by
      by_cases z : j = i
      · rw [if_pos z] at hj; cases hj
      · rw [if_neg z] at hj; exact r.dj i j a (fun y => z y.symm) ha hj⟩
    have q2 : Rp c.K (with_ F H (fp i)) H o.fz v [] := Rp.fixed (sub_with hl) o v _ q fun a ha => with_in ha
    have r3 := r2.refill (i := i) (by rw [List.length_set]; exact lt_of_some e) e1 q2
    rw [List.set_set] at r3
    exact ⟨v, e1, w v _ H _ (sub_with hl) Kp.refl r3 q2⟩
  · exact w.elim
theorem ev_move {i : Nat} : EvO c (tVar i) (mMove i) := fun F H σ env fp fr Q r w => by
  unfold mMove at w
  split at w
  · rename_i o e
    obtain ⟨v, e1, q⟩ := r.sl i o e
    exact ⟨v, e1, w v F H _ (fp i) (Same.refl _) Kp.refl (r.move (lt_of_some e)) q (r.nd i) fun a ha => ⟨fun z => (r.fr a z).2.2 i ha, fun j hj => by
      by_cases z : j = i
      · rw [if_pos z] at hj; cases hj
      · rw [if_neg z] at hj; exact r.dj i j a (fun y => z y.symm) ha hj⟩⟩
  · exact w.elim
end
end Ow
set_option Elab.async false
set_option linter.all false
set_option maxRecDepth 100000
set_option maxHeartbeats 4000000
namespace Ow
open PySem L2

/-! ### what stands in a list -/
section
variable {K : PySem.W.Frag} {F H : Hp}
theorem Rps.len : ∀ {xs : List O} {vs : List V} {fp : List Addr}, Rps K F H xs vs fp → vs.length = xs.length
  | [], vs, fp, h => by obtain ⟨rfl, _⟩ := h; rfl
  | x :: xs, vs, fp, h => by
    obtain ⟨v, vs', f1, f2, rfl, r1, r2, rfl⟩ := h
    simp [Rps.len r2]
theorem Rps.get : ∀ {xs : List O} {vs : List V} {fp : List Addr} {i : Nat} {o : O}, Rps K F H xs vs fp → xs[i]? = some o → ∃ v f, vs[i]? = some v ∧ Rp K F H o v f ∧ (∀ a ∈ f, a ∈ fp) ∧ (fp.Nodup → f.Nodup)
  | [], vs, fp, i, o, h, e => by simp at e
  | x :: xs, vs, fp, 0, o, h, e => by
    obtain ⟨v, vs', f1, f2, rfl, r1, r2, rfl⟩ := h
    simp at e; subst e
    exact ⟨v, f1, rfl, r1, fun a ha => List.mem_append_left _ ha, fun n => (List.nodup_append.mp n).1⟩
  | x :: xs, vs, fp, i + 1, o, h, e => by
    obtain ⟨v, vs', f1, f2, rfl, r1, r2, rfl⟩ := h
    obtain ⟨u, f, a, b, c, d⟩ := Rps.get (i := i) r2 (by simpa using e)
    exact ⟨u, f, by simpa using a, b, fun q hq => List.mem_append_right _ (c q hq), fun n => d (List.nodup_append.mp n).2.1⟩
theorem Rps.none_of {xs : List O} {vs : List V} {fp : List Addr} {i : Nat} (h : Rps K F H xs vs fp) (e : xs[i]? = none) : vs[i]? = none := by
  have := h.len
  rw [List.getElem?_eq_none_iff] at e ⊢
  omega
theorem Rps.get0 {xs : List O} {vs : List V} {i : Nat} {o : O} (h : Rps K F H xs vs []) (e : xs[i]? = some o) : ∃ v, vs[i]? = some v ∧ Rp K F H o v [] := by
  obtain ⟨v, f, a, b, c, _⟩ := h.get e
  have : f = [] := List.eq_nil_iff_forall_not_mem.mpr fun a ha => nomatch c a ha
  subst this
  exact ⟨v, a, b⟩
theorem Rps.app : ∀ {xs ys : List O} {vs ws : List V} {f g : List Addr}, Rps K F H xs vs f → Rps K F H ys ws g → Rps K F H (xs ++ ys) (vs ++ ws) (f ++ g)
  | [], ys, vs, ws, f, g, h, h' => by
    obtain ⟨rfl, rfl⟩ := h
    exact h'
  | x :: xs, ys, vs, ws, f, g, h, h' => by
    obtain ⟨v, vs', f1, f2, rfl, r1, r2, rfl⟩ := h
    exact ⟨v, vs' ++ ws, f1, f2 ++ g, rfl, r1, Rps.app r2 h', by simp⟩
theorem Rps.cons0 {x : O} {xs : List O} {v : V} {vs : List V} : Rps K F H (x :: xs) (v :: vs) [] ↔ Rp K F H x v [] ∧ Rps K F H xs vs [] := by
  constructor
  · rintro ⟨w, ws, f1, f2, e, r1, r2, z⟩
    have hz := List.append_eq_nil_iff.mp z.symm
    obtain ⟨rfl, rfl⟩ := hz
    cases e
    exact ⟨r1, r2⟩
  · rintro ⟨a, b⟩
    exact ⟨v, vs, [], [], rfl, a, b, rfl⟩
theorem Rps.drop : ∀ {xs : List O} {vs : List V} (n : Nat), Rps K F H xs vs [] → Rps K F H (xs.drop n) (vs.drop n) []
  | xs, vs, 0, h => h
  | [], vs, n + 1, h => by obtain ⟨rfl, _⟩ := h; exact ⟨rfl, rfl⟩
  | x :: xs, vs, n + 1, h => by
    obtain ⟨v, vs', f1, f2, rfl, _⟩ := id h
    exact Rps.drop n (Rps.cons0.mp h).2
theorem Rps.take : ∀ {xs : List O} {vs : List V} (n : Nat), Rps K F H xs vs [] → Rps K F H (xs.take n) (vs.take n) []
  | xs, vs, 0, h => ⟨rfl, rfl⟩
  | [], vs, n + 1, h => by obtain ⟨rfl, _⟩ := h; exact ⟨rfl, rfl⟩
  | x :: xs, vs, n + 1, h => by
    obtain ⟨v, vs', f1, f2, rfl, _⟩ := id h
    exact Rps.cons0.mpr ⟨(Rps.cons0.mp h).1, Rps.take n (Rps.cons0.mp h).2⟩
theorem Rps.nil0 : Rps K F H [] [] [] := ⟨rfl, rfl⟩
theorem Rps.ints : ∀ (ns : List Int), Rps K F H (ns.map .int) (ns.map .int) []
  | [] => ⟨rfl, rfl⟩
  | n :: ns => Rps.cons0.mpr ⟨⟨rfl, rfl⟩, Rps.ints ns⟩
theorem Rps.strs : ∀ (ns : List (List Nat)), Rps K F H (ns.map .str) (ns.map fun x => .str ⟨x.toArray⟩) []
  | [] => ⟨rfl, rfl⟩
  | n :: ns => Rps.cons0.mpr ⟨⟨rfl, rfl⟩, Rps.strs ns⟩
end

/-! ### operations by values -/
abbrev lim : Nat := 1000000
theorem lim_le {n : Nat} (h : n ≤ lim) : n ≤ sizeLine := Nat.le_trans h (by decide)
theorem lim_lt {n : Nat} (h : n ≤ lim) : n < sizeLine := Nat.lt_of_le_of_lt h (by decide)
/-- what is wanted of a new value -/
def NewW (K : PySem.W.Frag) (F H : Hp) (Q : VK) : Option O → Prop
  | some o => ∀ v F' H' fv, Sub F F' → Sub H H' → Sub F' H' → (∀ a, (∃ o, H a = some o) → F a = none → F' a = none) → Rp K F' H' o v fv → fv.Nodup → (∀ a ∈ fv, H a = none) → Q v H'
  | none => False
theorem NewW.val {K : PySem.W.Frag} {F H : Hp} {Q : VK} {o : O} {v : V} (w : NewW K F H Q (some o)) (s : Sub F H) (h : Rp K F H o v []) : Q v H :=
  w v F H [] (Same.refl _) (Same.refl _) s (fun _ _ h => h) h List.nodup_nil (fun _ z => nomatch z)
theorem sub_upd {F H : Hp} {p : Addr} {o : HO} (s : Sub F H) (h : F p = none) : Sub F (upd H p o) := fun a u e => by
  rw [upd_ne (ne_of_none e h)]; exact s a u e
theorem sub_new {H : Hp} {p : Addr} {o : HO} (h : H p = none) : Sub H (upd H p o) := fun a u e => by
  rw [upd_ne (ne_of_none e h)]; exact e
theorem sub_upd2 {F H : Hp} {p : Addr} {o : HO} (s : Sub F H) : Sub (upd F p o) (upd H p o) := fun a u e => by
  by_cases h : a = p
  · subst h; rw [upd_same] at e ⊢; exact e
  · rw [upd_ne h] at e ⊢; exact s a u e
theorem sub_none {F H : Hp} {p : Addr} (s : Sub F H) (h : H p = none) : F p = none := s.free h
/-- a new list of fixed things -/
theorem NewW.lst {K : PySem.W.Frag} {F H : Hp} {Q : VK} {xs : List O} {vs : List V} {p : Addr} (w : NewW K F H Q (some (.lst true xs))) (s : Sub F H) (h : Rps K F H xs vs []) (hp : H p = Option.none) : Q (.ref p) (upd H p (.lst vs)) := by
  have hf := sub_none s hp
  refine w (.ref p) F (upd H p (.lst vs)) [p] (Same.refl _) (sub_new hp) (sub_upd s hf) (fun _ _ h => h) ⟨p, vs, [], rfl, Rps.keep (Same.refl _) xs vs [] h (fun _ z => nomatch z), .inr ⟨rfl, upd_same, hf, rfl⟩⟩ (by simp) fun a ha => ?_
  simp at ha; subst ha; exact hp
/-- a new tuple of fixed things -/
theorem NewW.tup {K : PySem.W.Frag} {F H : Hp} {Q : VK} {xs : List O} {vs : List V} {p : Addr} (w : NewW K F H Q (some (.tup xs))) (s : Sub F H) (h : Rps K F H xs vs []) (hp : H p = Option.none) : Q (.ref p) (upd H p (.tup vs)) := by
  have hf := sub_none s hp
  refine w (.ref p) (upd F p (.tup vs)) (upd H p (.tup vs)) [] (sub_new hf) (sub_new hp) (sub_upd2 s) (fun a ⟨o, ha⟩ h => ?_) ⟨p, vs, rfl, .inl (.inl upd_same), Rps.keep (sub_new hf) xs vs [] h (fun _ z => nomatch z)⟩ (by simp) fun a ha => nomatch ha
  rw [upd_ne (ne_of_none ha hp)]; exact h

/-- a two-place operation on fixed values; one that only reads -/
def OpF (K : PySem.W.Frag) (r : R2) (op : O → O → Option O) : Prop := ∀ F H x y vx vy Q, Sub F H → Rp K F H x vx [] → Rp K F H y vy [] → NewW K F H Q (op x y) → r vx vy H Q
def OpP (K : PySem.W.Frag) (r : R2) (op : O → O → Option O) : Prop := ∀ F H x y vx vy fx fy Q, Sub F H → Rp K F H x vx fx → Rp K F H y vy fy → NewW K F H Q (op x y) → r vx vy H Q
theorem OpP.f {K : PySem.W.Frag} {r : R2} {op : O → O → Option O} (h : OpP K r op) : OpF K r op := fun F H x y vx vy Q => h F H x y vx vy [] [] Q

def mOp (op : O → O → Option O) (f g : M O) : M O := fun env => (f env).bind fun e x => (g e).bind fun e y => match op x y with
  | some o => .ok e o
  | none => .bad

theorem Rel.new {K : PySem.W.Frag} {F H F' H' : Hp} {σ : St} {env : Ev} {fp : Nat → List Addr} {fr : Addr → Prop} (r : Rel K F H σ env fp fr) (h1 : Sub F F') (h2 : Sub H H') (h3 : Sub F' H') (h4 : ∀ a, (∃ o, H a = some o) → F a = none → F' a = none) : Rel K F' H' σ env fp fr where
  len := r.len
  sub := h3
  sl := fun i o e => by
    obtain ⟨v, e1, q⟩ := r.sl i o e
    refine ⟨v, e1, Rp.keep h1 o v _ q fun a ha => ?_⟩
    obtain ⟨n, vs, hh⟩ := Rp.at o v _ q a ha
    exact ⟨by rw [hh, h2 a _ hh], h4 a ⟨_, hh⟩ n⟩
  off := r.off
  nd := r.nd
  dj := r.dj
  fr := fun a ha => by
    obtain ⟨⟨o, x⟩, y, z⟩ := r.fr a ha
    exact ⟨⟨o, h2 a o x⟩, h4 a ⟨o, x⟩ y, z⟩
theorem Kp.new {fr : Addr → Prop} {K : PySem.W.Frag} {F H H' : Hp} {σ : St} {env : Ev} {fp : Nat → List Addr} (r : Rel K F H σ env fp fr) (h2 : Sub H H') : Kp fr H H' := fun a ha => by
  obtain ⟨⟨o, x⟩, _, _⟩ := r.fr a ha
  rw [x, h2 a o x]
theorem Rel.off_new {K : PySem.W.Frag} {F H : Hp} {σ : St} {env : Ev} {fp : Nat → List Addr} {fr : Addr → Prop} (r : Rel K F H σ env fp fr) {a : Addr} (h : H a = none) : ¬ fr a ∧ ∀ i, a ∉ fp i := by
  refine ⟨fun z => ?_, fun i hi => ?_⟩
  · obtain ⟨⟨o, x⟩, _, _⟩ := r.fr a z
    rw [h] at x; cases x
  · cases e : env[i]? with
    | none => rw [r.off i (by simp [e])] at hi; cases hi
    | some y => cases y with
      | none => rw [r.off i (by simp [e])] at hi; cases hi
      | some o =>
        obtain ⟨v, e1, q⟩ := r.sl i o e
        obtain ⟨n, vs, hh⟩ := Rp.at o v _ q a hi
        rw [h] at hh; cases hh
/-- from a new value to what is wanted -/
theorem newW_of {c : Cfg} {F0 F H H0 : Hp} {σ : St} {env : Ev} {fp : Nat → List Addr} {fr : Addr → Prop} {Q : VK} {o : O} (r : Rel c.K F H σ env fp fr) (s : Sub F0 F) (k : Kp fr H0 H) (w : WE c F0 H0 fr σ Q (.ok env o)) : NewW c.K F H Q (some o) :=
  fun v F' H' fv h1 h2 h3 h4 q nd d => w v F' H' fp fv (s.trans h1) (k.trans (Kp.new r h2)) (r.new h1 h2 h3 h4) q nd fun a ha => r.off_new (d a ha)
theorem WE.bad_of {c : Cfg} {F H : Hp} {fr : Addr → Prop} {σ : St} {Q : VK} {P : Prop} (h : WE c F H fr σ Q .bad) : P := h.elim
/-- what is wanted of a raise, from further on -/
theorem WE.err_up {c : Cfg} {F H F1 H1 : Hp} {fr : Addr → Prop} {σ : St} {Q : VK} {env : Ev} {x : Exn} (s : Sub F F1) (k : Kp fr H H1) (w : WE c F H fr σ Q (.err env x)) :
    ∀ cl d F' H' fp, Sub F1 F' → Kp fr H1 H' → Rel c.K F' H' σ env fp fr → RpX c H' x cl d → c.E cl d σ H' :=
  fun cl d F' H' fp s' k' r q => w cl d F' H' fp (s.trans s') (k.trans k') r q

section
variable {c : Cfg} {ta tb te : TE} {f g : M O} {r : R2} {op : O → O → Option O}
theorem ev_op (ho : OpF c.K r op) (ha : EvF c ta f) (hb : EvF c tb g) : EvO c (tOp r ta tb) (mOp op f g) := fun F H σ env fp fr Q rl w => by
  refine ha F H σ env fp fr _ rl ?_
  unfold mOp at w
  cases e1 : f env with
  | bad => rw [e1] at w; exact w.elim
  | err env1 x => rw [e1] at w; exact w
  | ok env1 x =>
    rw [e1] at w
    intro v1 F1 H1 fp1 s1 k1 r1 q1
    refine hb F1 H1 σ env1 fp1 fr _ r1 ?_
    simp only [R.bind] at w
    cases e2 : g env1 with
    | bad => rw [e2] at w; exact w.elim
    | err env2 x => rw [e2] at w; exact WE.err_up s1 k1 w
    | ok env2 y =>
      rw [e2] at w
      intro v2 F2 H2 fp2 s2 k2 r2 q2
      refine ho F2 H2 x y v1 v2 Q r2.sub (Rp.keep s2 x v1 [] q1 fun _ z => nomatch z) q2 ?_
      simp only [R.bind] at w
      cases e3 : op x y with
      | none => rw [e3] at w; exact w.elim
      | some o => rw [e3] at w; exact newW_of r2 (s1.trans s2) (k1.trans k2) w
/-- an operand that changes nothing -/
structure EvC (c : Cfg) (te : TE) (f : M O) : Prop where
  fm : ∀ env, f env = .bad ∨ ∃ o, f env = .ok env o
  run : ∀ F H σ env fp fr Q o, Rel c.K F H σ env fp fr → f env = .ok env o → (∀ v fv, Rp c.K F H o v fv → Q v H) → te σ H Q
theorem evc_c {v : V} {o : O} (h : ∀ K F H, Rp K F H o v []) : EvC c (tC v) (mC o) := ⟨fun env => .inr ⟨o, rfl⟩, fun F H σ env fp fr Q o' r e w => by
  injection e with _ e
  subst e
  exact w v [] (h _ _ _)⟩
theorem evc_var {i : Nat} : EvC c (tVar i) (mPk i) := by
  refine ⟨fun env => ?_, fun F H σ env fp fr Q o r e w => ?_⟩
  · unfold mPk
    split
    · exact .inr ⟨_, rfl⟩
    · exact .inl rfl
  · unfold mPk at e
    split at e
    · rename_i o' e'
      injection e with _ e3
      subst e3
      obtain ⟨v, e1, q⟩ := r.sl i _ e'
      exact ⟨v, e1, w v (fp i) q⟩
    · cases e
/-- both operands read: the second changes nothing -/
theorem ev_opP (ho : OpP c.K r op) (ha : EvP c ta f) (hb : EvC c tb g) : EvO c (tOp r ta tb) (mOp op f g) := fun F H σ env fp fr Q rl w => by
  refine ha F H σ env fp fr _ rl ?_
  unfold mOp at w
  cases e1 : f env with
  | bad => rw [e1] at w; exact w.elim
  | err env1 x => rw [e1] at w; exact w
  | ok env1 x =>
    rw [e1] at w
    intro v1 F1 H1 fp1 f1 s1 k1 r1 q1
    simp only [R.bind] at w
    rcases hb.fm env1 with e2 | ⟨y, e2⟩
    · rw [e2] at w; exact w.elim
    · rw [e2] at w
      refine hb.run F1 H1 σ env1 fp1 fr _ y r1 e2 fun v2 f2 q2 => ?_
      refine ho F1 H1 x y v1 v2 f1 f2 Q r1.sub q1 q2 ?_
      simp only [R.bind] at w
      cases e3 : op x y with
      | none => rw [e3] at w; exact w.elim
      | some o => rw [e3] at w; exact newW_of r1 s1 k1 w
end

/-! ### the operators -/
def oAdd : O → O → Option O
  | .int i, .int j => some (.int (i + j))
  | .str a, .str b => if a.length + b.length ≤ lim then some (.str (a ++ b)) else none
  | .lst _ xs, .lst _ ys => if xs.length + ys.length ≤ lim then some (.lst true (xs ++ ys)) else none
  | .tup (x :: xs), .tup (y :: ys) => if xs.length + ys.length + 2 ≤ lim then some (.tup ((x :: xs) ++ (y :: ys))) else none
  | _, _ => none
def oSub : O → O → Option O
  | .int i, .int j => some (.int (i - j))
  | _, _ => none
def small (i : Int) : Bool := decide (-(2 ^ 63) ≤ i ∧ i ≤ 2 ^ 63)
def oMul : O → O → Option O
  | .int i, .int j => if small i || small j then some (.int (i * j)) else none
  | .lst _ xs, .int k => if decide (-(2 ^ 62) ≤ k ∧ k ≤ 2 ^ 62) && decide (xs.length * k.toNat ≤ lim) then some (.lst true (List.replicate k.toNat xs).flatten) else none
  | _, _ => none
def oMod : O → O → Option O
  | .int i, .int j => if 0 < j then some (.int (i % j)) else none
  | _, _ => none
def oDiv : O → O → Option O
  | .int i, .int j => if 0 < j ∧ j < 1000000000 then some (.int (i / j)) else none
  | _, _ => none
def oPow : O → O → Option O
  | .int i, .int j => if 0 ≤ j ∧ j ≤ 1000000 ∧ i.natAbs < 2 ^ 63 then some (.int (i ^ j.toNat)) else none
  | _, _ => none
def oShl : O → O → Option O
  | .int i, .int j => if 0 ≤ j ∧ j ≤ 1000000 ∧ i.natAbs < 2 ^ 63 then some (.int (i * 2 ^ j.toNat)) else none
  | _, _ => none
def oShr : O → O → Option O
  | .int i, .int j => if 0 ≤ j then some (.int (i / 2 ^ j.toNat)) else none
  | _, _ => none
def oAnd : O → O → Option O
  | .int i, .int j => some (.int (Builtin.bitAnd i j))
  | _, _ => none
def oXor : O → O → Option O
  | .int i, .int j => some (.int (Builtin.bitXor i j))
  | _, _ => none

def rAddG (K : PySem.W.Frag) : R2 := fun x y H Q => rI0 (fun i j => .int (i + j)) x y H Q ∨ ((∃ i j, x = .str i ∧ y = .str j ∧ i.length + j.length ≤ sizeLine ∧ Q (.str (i ++ j)) H) ∨ (rCat x y H Q ∨ rCatA K x y H Q))
theorem op_addG {X : Cx} : OpR X (binaryOp .Add) (rAddG X.K) := OpR.or op_add (OpR.or op_add_str (OpR.or op_cat op_catA))
theorem str_app (a b : List Nat) : (⟨a.toArray⟩ : Str) ++ ⟨b.toArray⟩ = ⟨(a ++ b).toArray⟩ := by
  show Str.append _ _ = _
  unfold Str.append
  simp
theorem str_len (a : List Nat) : (⟨a.toArray⟩ : Str).length = a.length := by
  show a.toArray.size = a.length
  simp
theorem vof {K : PySem.W.Frag} {F H : Hp} {o : O} {v : V} {fp : List Addr} (q : Rp K F H o v fp) : True := trivial
theorem opf_add {K : PySem.W.Frag} : OpF K (rAddG K) oAdd := fun F H x y vx vy Q s hx hy w => by
  unfold oAdd at w
  split at w
  · obtain ⟨rfl, _⟩ := hx
    obtain ⟨rfl, _⟩ := hy
    exact .inl ⟨_, _, rfl, rfl, w.val s ⟨rfl, rfl⟩⟩
  · rename_i a b
    obtain ⟨rfl, _⟩ := hx
    obtain ⟨rfl, _⟩ := hy
    split at w
    · rename_i hz
      refine .inr (.inl ⟨_, _, rfl, rfl, ?_, ?_⟩)
      · rw [str_len, str_len]; exact lim_le hz
      · rw [str_app]; exact w.val s ⟨rfl, rfl⟩
    · exact w.elim
  · rename_i w1 xs w2 ys
    obtain ⟨a, vs, f', rfl, rx, qx⟩ := hx
    obtain ⟨b, ws, g', rfl, ry, qy⟩ := hy
    rcases qx with ⟨_, qx, e⟩ | ⟨_, _, _, e⟩
    · subst e
      rcases qy with ⟨_, qy, e⟩ | ⟨_, _, _, e⟩
      · subst e
        split at w
        · rename_i hz
          refine .inr (.inr (.inl ⟨a, b, vs, ws, rfl, rfl, s _ _ qx, s _ _ qy, ?_, fun p hp => ?_⟩))
          · rw [rx.len, ry.len]; exact lim_le hz
          · exact w.lst s (by simpa using Rps.app rx ry) hp
        · exact w.elim
      · cases e
    · cases e
  · rename_i x xs y ys
    obtain ⟨a, vs, rfl, qa, rx⟩ := hx
    obtain ⟨b, ws, rfl, qb, ry⟩ := hy
    split at w
    · rename_i hz
      have l1 := rx.len
      have l2 := ry.len
      simp only [List.length_cons] at l1 l2
      have n1 : vs ≠ [] := fun e => by rw [e] at l1; simp at l1
      have n2 : ws ≠ [] := fun e => by rw [e] at l2; simp at l2
      refine .inr (.inr (.inr ⟨a, b, vs, ws, rfl, rfl, sqT_sub s qa, sqT_sub s qb, ?_, fun e => absurd e n1, fun _ e => absurd e n2, fun _ _ p hp => ?_⟩))
      · exact lim_le (by omega)
      · exact w.tup s (by simpa using Rps.app rx ry) hp
    · exact w.elim
  · exact w.elim
theorem opp_sub {K : PySem.W.Frag} : OpP K (rI0 fun i j => .int (i - j)) oSub := fun F H x y vx vy fx fy Q s hx hy w => by
  unfold oSub at w
  split at w
  · obtain ⟨rfl, _⟩ := hx
    obtain ⟨rfl, _⟩ := hy
    exact ⟨_, _, rfl, rfl, w.val s ⟨rfl, rfl⟩⟩
  · exact w.elim
def rMulG : R2 := fun x y H Q => rI CMul (fun i j => .int (i * j)) x y H Q ∨ rRep x y H Q
theorem op_mulG {X : Cx} : OpR X (binaryOp .Mult) rMulG := OpR.or op_mul op_rep
theorem Rps.rep {K : PySem.W.Frag} {F H : Hp} {xs : List O} {vs : List V} (h : Rps K F H xs vs []) : ∀ n : Nat, Rps K F H (List.replicate n xs).flatten (List.replicate n vs).flatten []
  | 0 => Rps.nil0
  | n + 1 => by
    rw [List.replicate_succ, List.replicate_succ, List.flatten_cons, List.flatten_cons]
    exact Rps.app h (Rps.rep h n)
theorem opf_mul {K : PySem.W.Frag} : OpF K rMulG oMul := fun F H x y vx vy Q s hx hy w => by
  unfold oMul at w
  split at w
  · rename_i i j
    obtain ⟨rfl, _⟩ := hx
    obtain ⟨rfl, _⟩ := hy
    split at w
    · rename_i hz
      refine .inl ⟨_, _, rfl, rfl, ?_, w.val s ⟨rfl, rfl⟩⟩
      simp only [Bool.or_eq_true, small, decide_eq_true_eq] at hz
      unfold CMul
      omega
    · exact w.elim
  · rename_i w1 xs k
    obtain ⟨a, vs, f', rfl, rx, qx⟩ := hx
    obtain ⟨rfl, _⟩ := hy
    rcases qx with ⟨_, qx, e⟩ | ⟨_, _, _, e⟩
    · subst e
      split at w
      · rename_i hz
        simp only [Bool.and_eq_true, decide_eq_true_eq] at hz
        refine .inr ⟨a, k, vs, rfl, rfl, s _ _ qx, by omega, by omega, ?_, fun p hp => w.lst s (Rps.rep rx _) hp⟩
        rw [rx.len]; exact lim_le hz.2
      · exact w.elim
    · cases e
  · exact w.elim
theorem opp_mod {K : PySem.W.Frag} : OpP K (rI (fun _ j => 0 < j) fun i j => .int (i % j)) oMod := fun F H x y vx vy fx fy Q s hx hy w => by
  unfold oMod at w
  split at w
  · obtain ⟨rfl, _⟩ := hx
    obtain ⟨rfl, _⟩ := hy
    split at w
    · rename_i h
      exact ⟨_, _, rfl, rfl, h, w.val s ⟨rfl, rfl⟩⟩
    · exact w.elim
  · exact w.elim
theorem opp_div {K : PySem.W.Frag} : OpP K (rI CDiv fun i j => .int (i / j)) oDiv := fun F H x y vx vy fx fy Q s hx hy w => by
  unfold oDiv at w
  split at w
  · obtain ⟨rfl, _⟩ := hx
    obtain ⟨rfl, _⟩ := hy
    split at w
    · rename_i h
      exact ⟨_, _, rfl, rfl, ⟨h.1, by have := h.2; omega⟩, w.val s ⟨rfl, rfl⟩⟩
    · exact w.elim
  · exact w.elim
theorem natAbs_lt {i : Int} {n : Nat} (h : i.natAbs < 2 ^ 63) : i.natAbs < 2 ^ 64 := by omega
theorem opp_pow {K : PySem.W.Frag} : OpP K (rI CPow fun i j => .int (i ^ j.toNat)) oPow := fun F H x y vx vy fx fy Q s hx hy w => by
  unfold oPow at w
  split at w
  · obtain ⟨rfl, _⟩ := hx
    obtain ⟨rfl, _⟩ := hy
    split at w
    · rename_i h
      exact ⟨_, _, rfl, rfl, ⟨h.1, h.2.1, by have := h.2.2; omega⟩, w.val s ⟨rfl, rfl⟩⟩
    · exact w.elim
  · exact w.elim
theorem opp_shl {K : PySem.W.Frag} : OpP K (rI CPow fun i j => .int (i * 2 ^ j.toNat)) oShl := fun F H x y vx vy fx fy Q s hx hy w => by
  unfold oShl at w
  split at w
  · obtain ⟨rfl, _⟩ := hx
    obtain ⟨rfl, _⟩ := hy
    split at w
    · rename_i h
      exact ⟨_, _, rfl, rfl, ⟨h.1, h.2.1, by have := h.2.2; omega⟩, w.val s ⟨rfl, rfl⟩⟩
    · exact w.elim
  · exact w.elim
theorem opp_shr {K : PySem.W.Frag} : OpP K (rI (fun _ j => 0 ≤ j) fun i j => .int (i / 2 ^ j.toNat)) oShr := fun F H x y vx vy fx fy Q s hx hy w => by
  unfold oShr at w
  split at w
  · obtain ⟨rfl, _⟩ := hx
    obtain ⟨rfl, _⟩ := hy
    split at w
    · rename_i h
      exact ⟨_, _, rfl, rfl, h, w.val s ⟨rfl, rfl⟩⟩
    · exact w.elim
  · exact w.elim
theorem opp_and {K : PySem.W.Frag} : OpP K (rI0 fun i j => .int (Builtin.bitAnd i j)) oAnd := fun F H x y vx vy fx fy Q s hx hy w => by
  unfold oAnd at w
  split at w
  · obtain ⟨rfl, _⟩ := hx
    obtain ⟨rfl, _⟩ := hy
    exact ⟨_, _, rfl, rfl, w.val s ⟨rfl, rfl⟩⟩
  · exact w.elim
theorem opp_xor {K : PySem.W.Frag} : OpP K (rI0 fun i j => .int (Builtin.bitXor i j)) oXor := fun F H x y vx vy fx fy Q s hx hy w => by
  unfold oXor at w
  split at w
  · obtain ⟨rfl, _⟩ := hx
    obtain ⟨rfl, _⟩ := hy
    exact ⟨_, _, rfl, rfl, w.val s ⟨rfl, rfl⟩⟩
  · exact w.elim

/-! ### comparisons -/
mutual
def O.data : O → PyData
  | .non => .none | .bl b => .bool b | .int i => .int i | .str x => .str ⟨x.toArray⟩
  | .tup xs => .tuple (datas xs) | .lst _ xs => .list (datas xs)
  | .scr ns => .list (ns.map .int)
def datas : List O → List PyData
  | [] => []
  | x :: xs => x.data :: datas xs
end
mutual
theorem Rp.dp {K : PySem.W.Frag} {F H : Hp} (s : Sub F H) : ∀ (o : O) (v : V) (fp : List Addr), Rp K F H o v fp → Dp K H v o.data
  | .non, v, fp, h => by rw [h.1]; exact .non
  | .bl b, v, fp, h => by rw [h.1]; exact .bl b
  | .int i, v, fp, h => by rw [h.1]; exact .int i
  | .str x, v, fp, h => by rw [h.1]; exact .str _
  | .scr ns, v, fp, h => by
    obtain ⟨⟨a, rfl, q⟩, _⟩ := h
    refine .lst (sqL_sub s q) ?_
    induction ns with
    | nil => exact .nil
    | cons n ns ih => exact .cons (.int n) (scr_all ns)
  | .tup xs, v, fp, h => by
    obtain ⟨a, vs, rfl, q, r⟩ := h
    exact .tup (sqT_sub s q) (Rps.dp s xs vs fp r)
  | .lst w xs, v, fp, h => by
    obtain ⟨a, vs, f', rfl, r, q⟩ := h
    refine .lst ?_ (Rps.dp s xs vs f' r)
    rcases q with ⟨_, q, _⟩ | ⟨_, q, _, _⟩
    · exact .inl (.inl (s _ _ q))
    · exact .inl (.inl q)
theorem scr_all {K : PySem.W.Frag} {H : Hp} : ∀ ns : List Int, DpAll K H (ns.map .int) (ns.map .int)
  | [] => .nil
  | n :: ns => .cons (.int n) (scr_all ns)
theorem Rps.dp {K : PySem.W.Frag} {F H : Hp} (s : Sub F H) : ∀ (xs : List O) (vs : List V) (fp : List Addr), Rps K F H xs vs fp → DpAll K H vs (datas xs)
  | [], vs, fp, h => by rw [h.1]; exact .nil
  | x :: xs, vs, fp, h => by
    obtain ⟨v, vs', f1, f2, rfl, r1, r2, rfl⟩ := h
    exact .cons (Rp.dp s x v f1 r1) (Rps.dp s xs vs' f2 r2)
end
end Ow
set_option Elab.async false
set_option linter.all false
set_option maxRecDepth 100000
set_option maxHeartbeats 4000000
namespace Ow
open PySem L2

def O.flat : O → Bool
  | .non => true | .bl _ => true | .int _ => true | .str _ => true
  | _ => false
/-- == of flat things -/
def eqO : O → O → Bool
  | .non, .non => true
  | .bl a, .bl b => a == b
  | .bl a, .int b => (if a then 1 else 0) == b
  | .int a, .bl b => a == (if b then 1 else 0)
  | .int a, .int b => a == b
  | .str a, .str b => a == b
  | _, _ => false
theorem str_inj {a b : List Nat} : ((⟨a.toArray⟩ : Str) = ⟨b.toArray⟩) ↔ a = b := by
  constructor
  · intro h
    injection h with h
    simpa using h
  · rintro rfl; rfl
theorem flat_of {K : PySem.W.Frag} {F H : Hp} {o : O} {v : V} {fp : List Addr} (h : Rp K F H o v fp) (f : o.flat = true) : flatV v = true ∧ ∀ o' v' fp', Rp K F H o' v' fp' → o'.flat = true → eqV v v' = eqO o o' := by
  have key : ∀ (o : O) (v : V) (fp : List Addr), Rp K F H o v fp → o.flat = true → (o = .non ∧ v = .non) ∨ (∃ b, o = .bl b ∧ v = .bl b) ∨ (∃ i, o = .int i ∧ v = .int i) ∨ ∃ x : List Nat, o = .str x ∧ v = .str ⟨x.toArray⟩ := by
    intro o v fp h f
    cases o with
    | non => exact .inl ⟨rfl, h.1⟩
    | bl b => exact .inr (.inl ⟨b, rfl, h.1⟩)
    | int i => exact .inr (.inr (.inl ⟨i, rfl, h.1⟩))
    | str x => exact .inr (.inr (.inr ⟨x, rfl, h.1⟩))
    | _ => cases f
  refine ⟨?_, fun o' v' fp' h' f' => ?_⟩
  · rcases key o v fp h f with ⟨_, rfl⟩ | ⟨_, _, rfl⟩ | ⟨_, _, rfl⟩ | ⟨_, _, rfl⟩ <;> rfl
  · rcases key o v fp h f with ⟨rfl, rfl⟩ | ⟨b, rfl, rfl⟩ | ⟨b, rfl, rfl⟩ | ⟨b, rfl, rfl⟩ <;>
    rcases key o' v' fp' h' f' with ⟨rfl, rfl⟩ | ⟨b', rfl, rfl⟩ | ⟨b', rfl, rfl⟩ | ⟨b', rfl, rfl⟩ <;> try rfl
    simp only [eqV, eqO]
    rw [Bool.eq_iff_iff]
    simp [str_inj]
theorem flats_of {K : PySem.W.Frag} {F H : Hp} : ∀ {xs : List O} {vs : List V} {fp : List Addr}, Rps K F H xs vs fp → xs.all O.flat = true → vs.all flatV = true ∧ ∀ o v fp', Rp K F H o v fp' → o.flat = true → inV v vs = xs.any fun y => eqO y o
  | [], vs, fp, h, f => by obtain ⟨rfl, _⟩ := h; exact ⟨rfl, fun _ _ _ _ _ => rfl⟩
  | x :: xs, vs, fp, h, f => by
    obtain ⟨v, vs', f1, f2, rfl, r1, r2, rfl⟩ := h
    simp only [List.all_cons, Bool.and_eq_true] at f
    obtain ⟨a, b⟩ := flat_of r1 f.1
    obtain ⟨d, e⟩ := flats_of r2 f.2
    refine ⟨by simp [a, d], fun o w fp' q g => ?_⟩
    have := e o w fp' q g
    unfold inV at this ⊢
    simp only [List.any_cons, b o w fp' q g, this]

def oEq : O → O → Option O
  | .int i, .int j => some (.bl (decide (i = j)))
  | .str a, .str b => some (.bl (decide (a = b)))
  | .bl a, .bl b => some (.bl (decide (a = b)))
  | x, y => if SeqAt.shaped x.data && SeqAt.shaped y.data then some (.bl (PyData.eqv x.data y.data)) else none
def oNot1 : Option O → Option O
  | some (.bl b) => some (.bl (!b))
  | _ => none
def oNe (x y : O) : Option O := oNot1 (oEq x y)
def rEqG (K : PySem.W.Frag) : R2 := fun x y H Q => rEq x y H Q ∨ rEqD K x y H Q
def rNeG (K : PySem.W.Frag) : R2 := fun x y H Q => rNe x y H Q ∨ rNeD K x y H Q
theorem op_eqG {X : Cx} (hu : X.A.units + 64 < cLine) : OpR X (compareOp .Eq) (rEqG X.K) := OpR.or op_eq (op_eqD hu)
theorem op_neG {X : Cx} (hu : X.A.units + 64 < cLine) : OpR X (compareOp .NotEq) (rNeG X.K) := OpR.or op_ne (op_neD hu)
theorem dec_V_int {i j : Int} : decide (V.int i = V.int j) = decide (i = j) := by simp
theorem dec_V_bl {i j : Bool} : decide (V.bl i = V.bl j) = decide (i = j) := by simp
theorem dec_V_str {a b : List Nat} : decide (V.str ⟨a.toArray⟩ = V.str ⟨b.toArray⟩) = decide (a = b) := by simp
theorem opp_eq {K : PySem.W.Frag} : OpP K (rEqG K) oEq := fun F H x y vx vy fx fy Q s hx hy w => by
  unfold oEq at w
  split at w
  · obtain ⟨rfl, _⟩ := hx
    obtain ⟨rfl, _⟩ := hy
    exact .inl ⟨rfl, by rw [dec_V_int]; exact w.val s ⟨rfl, rfl⟩⟩
  · obtain ⟨rfl, _⟩ := hx
    obtain ⟨rfl, _⟩ := hy
    exact .inl ⟨rfl, by rw [dec_V_str]; exact w.val s ⟨rfl, rfl⟩⟩
  · obtain ⟨rfl, _⟩ := hx
    obtain ⟨rfl, _⟩ := hy
    exact .inl ⟨rfl, by rw [dec_V_bl]; exact w.val s ⟨rfl, rfl⟩⟩
  · split at w
    · rename_i h
      rw [Bool.and_eq_true] at h
      exact .inr ⟨_, _, Rp.dp s _ _ _ hx, Rp.dp s _ _ _ hy, h.1, h.2, w.val s ⟨rfl, rfl⟩⟩
    · exact w.elim
theorem opp_ne {K : PySem.W.Frag} : OpP K (rNeG K) oNe := fun F H x y vx vy fx fy Q s hx hy w => by
  unfold oNe oEq at w
  split at w
  · obtain ⟨rfl, _⟩ := hx
    obtain ⟨rfl, _⟩ := hy
    exact .inl ⟨rfl, by rw [dec_V_int]; exact w.val s ⟨rfl, rfl⟩⟩
  · obtain ⟨rfl, _⟩ := hx
    obtain ⟨rfl, _⟩ := hy
    exact .inl ⟨rfl, by rw [dec_V_str]; exact w.val s ⟨rfl, rfl⟩⟩
  · obtain ⟨rfl, _⟩ := hx
    obtain ⟨rfl, _⟩ := hy
    exact .inl ⟨rfl, by rw [dec_V_bl]; exact w.val s ⟨rfl, rfl⟩⟩
  · split at w
    · rename_i h
      rw [Bool.and_eq_true] at h
      exact .inr ⟨_, _, Rp.dp s _ _ _ hx, Rp.dp s _ _ _ hy, h.1, h.2, w.val s ⟨rfl, rfl⟩⟩
    · exact w.elim
def oLt : O → O → Option O
  | .int i, .int j => some (.bl (decide (i < j)))
  | _, _ => none
def oLe : O → O → Option O
  | .int i, .int j => some (.bl (decide (i ≤ j)))
  | _, _ => none
def oGt : O → O → Option O
  | .int i, .int j => some (.bl (decide (j < i)))
  | _, _ => none
def oGe : O → O → Option O
  | .int i, .int j => some (.bl (decide (j ≤ i)))
  | _, _ => none
theorem opp_lt {K : PySem.W.Frag} : OpP K (rI0 fun i j => .bl (decide (i < j))) oLt := fun F H x y vx vy fx fy Q s hx hy w => by
  unfold oLt at w
  split at w
  · obtain ⟨rfl, _⟩ := hx
    obtain ⟨rfl, _⟩ := hy
    exact ⟨_, _, rfl, rfl, w.val s ⟨rfl, rfl⟩⟩
  · exact w.elim
theorem opp_le {K : PySem.W.Frag} : OpP K (rI0 fun i j => .bl (decide (i ≤ j))) oLe := fun F H x y vx vy fx fy Q s hx hy w => by
  unfold oLe at w
  split at w
  · obtain ⟨rfl, _⟩ := hx
    obtain ⟨rfl, _⟩ := hy
    exact ⟨_, _, rfl, rfl, w.val s ⟨rfl, rfl⟩⟩
  · exact w.elim
theorem opp_gt {K : PySem.W.Frag} : OpP K (rI0 fun i j => .bl (decide (j < i))) oGt := fun F H x y vx vy fx fy Q s hx hy w => by
  unfold oGt at w
  split at w
  · obtain ⟨rfl, _⟩ := hx
    obtain ⟨rfl, _⟩ := hy
    exact ⟨_, _, rfl, rfl, w.val s ⟨rfl, rfl⟩⟩
  · exact w.elim
theorem opp_ge {K : PySem.W.Frag} : OpP K (rI0 fun i j => .bl (decide (j ≤ i))) oGe := fun F H x y vx vy fx fy Q s hx hy w => by
  unfold oGe at w
  split at w
  · obtain ⟨rfl, _⟩ := hx
    obtain ⟨rfl, _⟩ := hy
    exact ⟨_, _, rfl, rfl, w.val s ⟨rfl, rfl⟩⟩
  · exact w.elim
def O.isNon : O → Bool
  | .non => true
  | _ => false
def oIsN : O → O → Option O
  | x, .non => some (.bl x.isNon)
  | _, _ => none
theorem isN_of {K : PySem.W.Frag} {F H : Hp} {o : O} {v : V} {fp : List Addr} (h : Rp K F H o v fp) : decide (v = V.non) = o.isNon := by
  cases o with
  | non => obtain ⟨rfl, _⟩ := h; rfl
  | bl b => obtain ⟨rfl, _⟩ := h; rfl
  | int i => obtain ⟨rfl, _⟩ := h; rfl
  | str x => obtain ⟨rfl, _⟩ := h; rfl
  | scr ns => obtain ⟨⟨a, rfl, _⟩, _⟩ := h; rfl
  | tup xs => obtain ⟨a, vs, rfl, _⟩ := h; rfl
  | lst w xs => obtain ⟨a, vs, f, rfl, _⟩ := h; rfl
theorem opp_isN {K : PySem.W.Frag} : OpP K (fun x y H Q => y = .non ∧ Q (.bl (decide (x = .non))) H) oIsN := fun F H x y vx vy fx fy Q s hx hy w => by
  cases y <;> first | exact w.elim | skip
  obtain ⟨rfl, _⟩ := hy
  refine ⟨rfl, ?_⟩
  rw [isN_of hx]
  exact w.val s ⟨rfl, rfl⟩
def oIsNN : O → O → Option O
  | x, .non => some (.bl (!x.isNon))
  | _, _ => none
theorem opp_isNN {K : PySem.W.Frag} : OpP K (fun x y H Q => y = .non ∧ Q (.bl (!decide (x = .non))) H) oIsNN := fun F H x y vx vy fx fy Q s hx hy w => by
  cases y <;> first | exact w.elim | skip
  obtain ⟨rfl, _⟩ := hy
  refine ⟨rfl, ?_⟩
  rw [isN_of hx]
  exact w.val s ⟨rfl, rfl⟩
/-- x in a list or tuple of flat things, one sign in a text, data in a list -/
def oIn : O → O → Option O
  | .str [c], .str z => some (.bl (decide (c ∈ z)))
  | x, .lst _ ys => if x.flat && ys.all O.flat then some (.bl (ys.any fun y => eqO y x))
    else if SeqAt.shaped x.data && SeqAt.shaped (.list (datas ys)) then some (.bl ((datas ys).any fun z => PyData.eqv z x.data)) else none
  | x, .tup ys => if x.flat && ys.all O.flat then some (.bl (ys.any fun y => eqO y x)) else none
  | _, _ => none
def oNotIn (x y : O) : Option O := oNot1 (oIn x y)
def rInG (K : PySem.W.Frag) (neg : Bool) : R2 := fun x y H Q => (∃ (c : Nat) (z : Str), x = .str ⟨#[c]⟩ ∧ y = .str z ∧ Q (.bl (if neg then !decide (c ∈ z.cps.toList) else decide (c ∈ z.cps.toList))) H) ∨ (rIn K neg x y H Q ∨
  (∃ d ds, Dp K H x d ∧ Dp K H y (.list ds) ∧ SeqAt.shaped d = true ∧ SeqAt.shaped (.list ds) = true ∧ Q (.bl (if neg then !ds.any fun z => PyData.eqv z d else ds.any fun z => PyData.eqv z d)) H))
theorem op_inG {X : Cx} (hu : X.A.units + 65 < cLine) : OpR X (compareOp .In) (rInG X.K false) := OpR.or (by simpa using op_in_sign) (OpR.or op_in_seq (op_inD hu))
theorem op_notInG {X : Cx} (hu : X.A.units + 65 < cLine) : OpR X (compareOp .NotIn) (rInG X.K true) := OpR.or (by simpa using op_notIn_sign) (OpR.or op_notIn_seq (op_notInD hu))
theorem list_of {K : PySem.W.Frag} {F H : Hp} {w : Bool} {ys : List O} {v : V} {fp : List Addr} (s : Sub F H) (h : Rp K F H (.lst w ys) v fp) : ∃ a vs f, v = .ref a ∧ H a = some (.lst vs) ∧ Rps K F H ys vs f ∧ (∀ b ∈ f, b ∈ fp) := by
  obtain ⟨a, vs, f, rfl, r, q⟩ := h
  rcases q with ⟨_, q, rfl⟩ | ⟨_, q, _, rfl⟩
  · exact ⟨a, vs, fp, rfl, s _ _ q, r, fun _ h => h⟩
  · exact ⟨a, vs, f, rfl, q, r, fun _ h => List.mem_cons_of_mem _ h⟩
theorem oneSign {c : Nat} : (⟨[c].toArray⟩ : Str) = ⟨#[c]⟩ := rfl
theorem oIn_cases {x y o : O} (h : oIn x y = some o) : ∃ b, o = .bl b ∧ ((∃ c z, x = .str [c] ∧ y = .str z ∧ b = decide (c ∈ z)) ∨
    (∃ w0 ys, (y = .lst w0 ys ∨ y = .tup ys) ∧ x.flat = true ∧ ys.all O.flat = true ∧ b = ys.any fun y => eqO y x) ∨
    (∃ w0 ys, y = .lst w0 ys ∧ SeqAt.shaped x.data = true ∧ SeqAt.shaped (.list (datas ys)) = true ∧ b = (datas ys).any fun z => PyData.eqv z x.data)) := by
  unfold oIn at h
  split at h
  · cases h
    exact ⟨_, rfl, .inl ⟨_, _, rfl, rfl, rfl⟩⟩
  · split at h
    · rename_i hf
      rw [Bool.and_eq_true] at hf
      cases h
      exact ⟨_, rfl, .inr (.inl ⟨_, _, .inl rfl, hf.1, hf.2, rfl⟩)⟩
    · split at h
      · rename_i hf
        rw [Bool.and_eq_true] at hf
        cases h
        exact ⟨_, rfl, .inr (.inr ⟨_, _, rfl, hf.1, hf.2, rfl⟩)⟩
      · cases h
  · split at h
    · rename_i hf
      rw [Bool.and_eq_true] at hf
      cases h
      exact ⟨_, rfl, .inr (.inl ⟨true, _, .inr rfl, hf.1, hf.2, rfl⟩)⟩
    · cases h
  · cases h
theorem opp_inG {K : PySem.W.Frag} (neg : Bool) {F H : Hp} {x y : O} {vx vy : V} {fx fy : List Addr} {Q : VK} (s : Sub F H) (hx : Rp K F H x vx fx) (hy : Rp K F H y vy fy) {b : Bool} (e : oIn x y = some (.bl b)) (w : NewW K F H Q (some (.bl (if neg then !b else b)))) : rInG K neg vx vy H Q := by
  obtain ⟨b', e', key⟩ := oIn_cases e
  cases e'
  rcases key with ⟨c, z, rfl, rfl, rfl⟩ | ⟨w0, ys, hy0, hf1, hf2, rfl⟩ | ⟨w0, ys, rfl, hs1, hs2, rfl⟩
  · obtain ⟨rfl, _⟩ := hx
    obtain ⟨rfl, _⟩ := hy
    exact .inl ⟨c, _, rfl, rfl, w.val s ⟨by simp, rfl⟩⟩
  · obtain ⟨fv, _⟩ := flat_of hx hf1
    rcases hy0 with rfl | rfl
    · obtain ⟨a, vs, f, rfl, ha, r, _⟩ := list_of s hy
      obtain ⟨fvs, e⟩ := flats_of r hf2
      exact .inr (.inl ⟨a, vs, rfl, .inl (.inl (.inl ha)), fv, fvs, by rw [e _ _ _ hx hf1]; exact w.val s ⟨rfl, rfl⟩⟩)
    · obtain ⟨a, vs, rfl, ha, r⟩ := hy
      obtain ⟨fvs, e⟩ := flats_of r hf2
      exact .inr (.inl ⟨a, vs, rfl, .inr (sqT_sub s ha), fv, fvs, by rw [e _ _ _ hx hf1]; exact w.val s ⟨rfl, rfl⟩⟩)
  · exact .inr (.inr ⟨_, _, Rp.dp s _ _ _ hx, Rp.dp s _ _ _ hy, hs1, hs2, w.val s ⟨rfl, rfl⟩⟩)
theorem opp_in {K : PySem.W.Frag} : OpP K (rInG K false) oIn := fun F H x y vx vy fx fy Q s hx hy w => by
  cases e : oIn x y with
  | none => rw [e] at w; exact w.elim
  | some o =>
    obtain ⟨b, rfl, _⟩ := oIn_cases e
    rw [e] at w
    exact opp_inG false s hx hy e w
theorem opp_notIn {K : PySem.W.Frag} : OpP K (rInG K true) oNotIn := fun F H x y vx vy fx fy Q s hx hy w => by
  unfold oNotIn at w
  cases e : oIn x y with
  | none => rw [e] at w; exact w.elim
  | some o =>
    obtain ⟨b, rfl, _⟩ := oIn_cases e
    rw [e] at w
    exact opp_inG true s hx hy e w

/-! ### subscripts -/
def oIx : O → O → Option O
  | .lst _ xs, .int i => match atI xs i with
    | some o => if o.fixed then some o else none
    | none => none
  | .tup xs, .int i => match atI xs i with
    | some o => if o.fixed then some o else none
    | none => none
  | .str z, .int i => if z.length ≤ lim then (match atI z i with
    | some c => some (.str [c])
    | none => none) else none
  | _, _ => none
theorem Rps.atI {K : PySem.W.Frag} {F H : Hp} {xs : List O} {vs : List V} {fp : List Addr} {i : Int} {o : O} (r : Rps K F H xs vs fp) (h : L2.atI xs i = some o) (f : o.fixed = true) : ∃ v, L2.atI vs i = some v ∧ Rp K F H o v [] := by
  unfold L2.atI at h ⊢
  rw [r.len]
  cases e : ixN xs.length i with
  | none => rw [e] at h; cases h
  | some j =>
    rw [e] at h
    obtain ⟨v, f1, a, b, _, _⟩ := r.get (i := j) h
    have z := Rp.nofp o v f1 f b
    subst z
    exact ⟨v, a, b⟩
theorem opp_ix {K : PySem.W.Frag} : OpP K (rIx K) oIx := fun F H x y vx vy fx fy Q s hx hy w => by
  unfold oIx at w
  split at w
  · rename_i w0 xs i
    obtain ⟨rfl, _⟩ := hy
    obtain ⟨a, vs, f, rfl, ha, r, _⟩ := list_of s hx
    split at w
    · rename_i o e
      split at w
      · rename_i hf
        obtain ⟨v, e1, q⟩ := r.atI e hf
        exact .inl ⟨a, vs, i, v, rfl, rfl, .inl (.inl ha), e1, w.val s q⟩
      · exact w.elim
    · exact w.elim
  · rename_i xs i
    obtain ⟨rfl, _⟩ := hy
    obtain ⟨a, vs, rfl, ha, r⟩ := hx
    split at w
    · rename_i o e
      split at w
      · rename_i hf
        obtain ⟨v, e1, q⟩ := r.atI e hf
        exact .inr (.inl ⟨a, vs, i, v, rfl, rfl, sqT_sub s ha, e1, w.val s q⟩)
      · exact w.elim
    · exact w.elim
  · rename_i z i
    obtain ⟨rfl, _⟩ := hx
    obtain ⟨rfl, _⟩ := hy
    split at w
    · rename_i hz
      split at w
      · rename_i c e
        exact .inr (.inr ⟨_, i, c, rfl, rfl, by rw [str_len]; exact lim_le hz, by simpa using e, w.val s ⟨rfl, rfl⟩⟩)
      · exact w.elim
    · exact w.elim
  · exact w.elim
/-- o[e]: the name's value is looked at behind e -/
def mIxN (i : Nat) (g : M O) : M O := fun env => match env[i]? with
  | some (some _) => (g env).bind fun e y => match e[i]? with
    | some (some x) => match oIx x y with
      | some o => .ok e o
      | none => .bad
    | _ => .bad
  | _ => .bad
section
variable {c : Cfg} {ta tb te tl th : TE} {f g : M O} {r : R2} {op : O → O → Option O}
theorem ev_ixN {i : Nat} (hb : EvP c tb g) : EvO c (tOp (rIx c.K) (tVar i) tb) (mIxN i g) := fun F H σ env fp fr Q rl w => by
  unfold mIxN at w
  split at w
  · rename_i o0 e0
    obtain ⟨v, ev, _⟩ := rl.sl i o0 e0
    refine ⟨v, ev, hb F H σ env fp fr _ rl ?_⟩
    cases e2 : g env with
    | bad => rw [e2] at w; exact w.elim
    | err env2 x => rw [e2] at w; exact w
    | ok env2 y =>
      rw [e2] at w
      intro v2 F2 H2 fp2 f2 s2 k2 r2 q2
      simp only [R.bind] at w
      split at w
      · rename_i x ex
        obtain ⟨v', ev', q⟩ := r2.sl i x ex
        rw [ev] at ev'
        cases ev'
        refine opp_ix F2 H2 x y v v2 _ f2 Q r2.sub q q2 ?_
        split at w
        · rename_i o eo
          rw [eo]; exact newW_of r2 s2 k2 w
        · exact w.elim
      · exact w.elim
  · exact w.elim
end
end Ow
set_option Elab.async false
set_option linter.all false
set_option maxRecDepth 100000
set_option maxHeartbeats 4000000
namespace Ow
open PySem L2

/-! ### lists of arguments -/
def WA (c : Cfg) (F H : Hp) (fr : Addr → Prop) (σ : St) (Q : List V → Hp → Prop) : R (List O) → Prop
  | .ok env os => ∀ vs F' H' fp fv, Sub F F' → Kp fr H H' → Rel c.K F' H' σ env fp fr → Rps c.K F' H' os vs fv → fv.Nodup → (∀ a ∈ fv, ¬ fr a ∧ ∀ i, a ∉ fp i) → Q vs H'
  | .err env x => ∀ cl d F' H' fp, Sub F F' → Kp fr H H' → Rel c.K F' H' σ env fp fr → RpX c H' x cl d → c.E cl d σ H'
  | .bad => False
def EvA (c : Cfg) (ta : TA) (f : M (List O)) : Prop := ∀ F H σ env fp fr Q, Rel c.K F H σ env fp fr → WA c F H fr σ Q (f env) → ta σ H Q
def WAF (c : Cfg) (F H : Hp) (fr : Addr → Prop) (σ : St) (Q : List V → Hp → Prop) : R (List O) → Prop
  | .ok env os => ∀ vs F' H' fp, Sub F F' → Kp fr H H' → Rel c.K F' H' σ env fp fr → Rps c.K F' H' os vs [] → Q vs H'
  | .err env x => ∀ cl d F' H' fp, Sub F F' → Kp fr H H' → Rel c.K F' H' σ env fp fr → RpX c H' x cl d → c.E cl d σ H'
  | .bad => False
def EvAF (c : Cfg) (ta : TA) (f : M (List O)) : Prop := ∀ F H σ env fp fr Q, Rel c.K F H σ env fp fr → WAF c F H fr σ Q (f env) → ta σ H Q
def mNil : M (List O) := fun env => .ok env []
def mCons (f : M O) (g : M (List O)) : M (List O) := fun env => (f env).bind fun e x => (g e).bind fun e xs => .ok e (x :: xs)
theorem Rel.weak {K : PySem.W.Frag} {F H : Hp} {σ : St} {env : Ev} {fp : Nat → List Addr} {fr fr' : Addr → Prop} (r : Rel K F H σ env fp fr) (h : ∀ a, fr' a → fr a) : Rel K F H σ env fp fr' :=
  ⟨r.len, r.sub, r.sl, r.off, r.nd, r.dj, fun a ha => r.fr a (h a ha)⟩
section
variable {c : Cfg} {ta tb te : TE} {tx : TA} {f g : M O} {gs : M (List O)}
theorem eva_nil : EvA c tNil mNil := fun F H σ env fp fr Q r w => w [] F H fp [] (Same.refl _) Kp.refl r ⟨rfl, rfl⟩ List.nodup_nil fun _ z => nomatch z
theorem evaf_nil : EvAF c tNil mNil := fun F H σ env fp fr Q r w => w [] F H fp (Same.refl _) Kp.refl r ⟨rfl, rfl⟩
theorem evaf_cons (ha : EvF c ta f) (hb : EvAF c tx gs) : EvAF c (tCons ta tx) (mCons f gs) := fun F H σ env fp fr Q rl w => by
  refine ha F H σ env fp fr _ rl ?_
  unfold mCons at w
  cases e1 : f env with
  | bad => rw [e1] at w; exact w.elim
  | err env1 x => rw [e1] at w; exact w
  | ok env1 x =>
    rw [e1] at w
    intro v1 F1 H1 fp1 s1 k1 r1 q1
    refine hb F1 H1 σ env1 fp1 fr _ r1 ?_
    simp only [R.bind] at w
    cases e2 : gs env1 with
    | bad => rw [e2] at w; exact w.elim
    | err env2 x => rw [e2] at w; exact fun cl d F' H' fp s' k' r q => w cl d F' H' fp (s1.trans s') (k1.trans k') r q
    | ok env2 xs =>
      rw [e2] at w
      intro vs F2 H2 fp2 s2 k2 r2 q2
      exact w (v1 :: vs) F2 H2 fp2 (s1.trans s2) (k1.trans k2) r2 (Rps.cons0.mpr ⟨Rp.keep s2 x v1 [] q1 (fun _ z => nomatch z), q2⟩)
theorem eva_cons (ha : EvO c ta f) (hb : EvA c tx gs) : EvA c (tCons ta tx) (mCons f gs) := fun F H σ env fp fr Q rl w => by
  refine ha F H σ env fp fr _ rl ?_
  unfold mCons at w
  cases e1 : f env with
  | bad => rw [e1] at w; exact w.elim
  | err env1 x => rw [e1] at w; exact w
  | ok env1 x =>
    rw [e1] at w
    intro v1 F1 H1 fp1 fv1 s1 k1 r1 q1 nd1 d1
    have r1' : Rel c.K F1 H1 σ env1 fp1 (fun a => fr a ∨ a ∈ fv1) := ⟨r1.len, r1.sub, r1.sl, r1.off, r1.nd, r1.dj, fun a ha => by
      rcases ha with ha | ha
      · exact r1.fr a ha
      · obtain ⟨n, vs, hh⟩ := Rp.at x v1 fv1 q1 a ha
        exact ⟨⟨_, hh⟩, n, (d1 a ha).2⟩⟩
    refine hb F1 H1 σ env1 fp1 _ _ r1' ?_
    simp only [R.bind] at w
    cases e2 : gs env1 with
    | bad => rw [e2] at w; exact w.elim
    | err env2 x => rw [e2] at w; exact fun cl d F' H' fp s' k' r q => w cl d F' H' fp (s1.trans s') (k1.trans (k'.of fun _ h => .inl h)) (r.weak fun _ h => .inl h) q
    | ok env2 xs =>
      rw [e2] at w
      intro vs F2 H2 fp2 fv2 s2 k2 r2 q2 nd2 d2
      refine w (v1 :: vs) F2 H2 fp2 (fv1 ++ fv2) (s1.trans s2) (k1.trans (k2.of fun _ h => .inl h)) (r2.weak fun _ h => .inl h) ⟨v1, vs, fv1, fv2, rfl, Rp.keep s2 x v1 fv1 q1 fun a ha => ⟨k2 a (.inr ha), (r2.fr a (.inr ha)).2.1⟩, q2, rfl⟩ ?_ fun a ha => ?_
      · exact List.nodup_append.mpr ⟨nd1, nd2, fun a ha b hb e => (d2 b hb).1 (.inr (e ▸ ha))⟩
      · rcases List.mem_append.mp ha with ha | ha
        · exact ⟨(d1 a ha).1, (r2.fr a (.inr ha)).2.2⟩
        · exact ⟨fun z => (d2 a ha).1 (.inl z), (d2 a ha).2⟩

/-- [a, b, ..] -/
def mLst (gs : M (List O)) : M O := fun env => (gs env).bind fun e xs => if xs.length ≤ lim then .ok e (.lst true xs) else .bad
/-- (a, b, ..) -/
def mTup (gs : M (List O)) : M O := fun env => (gs env).bind fun e xs => if xs.length ≤ lim then .ok e (.tup xs) else .bad
theorem ev_lst (h : EvA c tx gs) : EvO c (tLst tx) (mLst gs) := fun F H σ env fp fr Q rl w => by
  refine h F H σ env fp fr _ rl ?_
  unfold mLst at w
  cases e1 : gs env with
  | bad => rw [e1] at w; exact w.elim
  | err env1 x => rw [e1] at w; exact w
  | ok env1 xs =>
    rw [e1] at w
    intro vs F1 H1 fp1 fv s1 k1 r1 q1 nd d
    simp only [R.bind] at w
    split at w
    · rename_i hz
      refine ⟨by rw [q1.len]; exact lim_le hz, fun p hp => ?_⟩
      have hf := sub_none r1.sub hp
      refine w (.ref p) F1 (upd H1 p (.lst vs)) fp1 (p :: fv) s1 (k1.trans (Kp.new r1 (sub_new hp))) (r1.new (Same.refl _) (sub_new hp) (sub_upd r1.sub hf) fun _ _ z => z) ⟨p, vs, fv, rfl, Rps.keep (Same.refl _) xs vs fv q1 fun a ha => ?_, .inr ⟨rfl, upd_same, hf, rfl⟩⟩ ?_ fun a ha => ?_
      · obtain ⟨n, us, hh⟩ := Rps.at xs vs fv q1 a ha
        exact ⟨upd_ne (ne_of_none hh hp), n⟩
      · refine List.nodup_cons.mpr ⟨fun z => ?_, nd⟩
        obtain ⟨n, us, hh⟩ := Rps.at xs vs fv q1 p z
        rw [hp] at hh; cases hh
      · rcases List.mem_cons.mp ha with rfl | ha
        · exact r1.off_new hp
        · exact d a ha
    · exact w.elim
theorem ev_tup (h : EvA c tx gs) : EvO c (tTup tx) (mTup gs) := fun F H σ env fp fr Q rl w => by
  refine h F H σ env fp fr _ rl ?_
  unfold mTup at w
  cases e1 : gs env with
  | bad => rw [e1] at w; exact w.elim
  | err env1 x => rw [e1] at w; exact w
  | ok env1 xs =>
    rw [e1] at w
    intro vs F1 H1 fp1 fv s1 k1 r1 q1 nd d
    simp only [R.bind] at w
    split at w
    · rename_i hz
      refine ⟨by rw [q1.len]; exact lim_le hz, fun p hp => ?_⟩
      have hf := sub_none r1.sub hp
      have hne : ∀ a, (∃ o, H1 a = some o) → F1 a = none → upd F1 p (.tup vs) a = none := fun a ⟨o, ha⟩ n => by rw [upd_ne (ne_of_none ha hp)]; exact n
      refine w (.ref p) (upd F1 p (.tup vs)) (upd H1 p (.tup vs)) fp1 fv (s1.trans (sub_new hf)) (k1.trans (Kp.new r1 (sub_new hp))) (r1.new (sub_new hf) (sub_new hp) (sub_upd2 r1.sub) hne) ⟨p, vs, rfl, .inl (.inl upd_same), Rps.keep (sub_new hf) xs vs fv q1 fun a ha => ?_⟩ nd d
      obtain ⟨n, us, hh⟩ := Rps.at xs vs fv q1 a ha
      exact ⟨upd_ne (ne_of_none hh hp), hne a ⟨_, hh⟩ n⟩
    · exact w.elim

/-! ### calls by values -/
def OpL (K : PySem.W.Frag) (r : List V → Hp → VK → Prop) (op : List O → Option O) : Prop := ∀ F H os vs Q, Sub F H → Rps K F H os vs [] → NewW K F H Q (op os) → r vs H Q
/-- of one value that is only read -/
def OpL1 (K : PySem.W.Frag) (r : List V → Hp → VK → Prop) (op : O → Option O) : Prop := ∀ F H x v fx Q, Sub F H → Rp K F H x v fx → NewW K F H Q (op x) → r [v] H Q
def mCB (op : List O → Option O) (g : M (List O)) : M O := fun env => (g env).bind fun e xs => match op xs with
  | some o => .ok e o
  | none => .bad
def mC1 (op : O → Option O) (f : M O) : M O := fun env => (f env).bind fun e x => match op x with
  | some o => .ok e o
  | none => .bad
variable {r : List V → Hp → VK → Prop}
theorem ev_cb {op : List O → Option O} (ho : OpL c.K r op) (h : EvAF c tx gs) : EvO c (tCB r tx) (mCB op gs) := fun F H σ env fp fr Q rl w => by
  refine h F H σ env fp fr _ rl ?_
  unfold mCB at w
  cases e1 : gs env with
  | bad => rw [e1] at w; exact w.elim
  | err env1 x => rw [e1] at w; exact w
  | ok env1 xs =>
    rw [e1] at w
    intro vs F1 H1 fp1 s1 k1 r1 q1
    refine ho F1 H1 xs vs Q r1.sub q1 ?_
    simp only [R.bind] at w
    split at w
    · rename_i o eo
      rw [eo]; exact newW_of r1 s1 k1 w
    · exact w.elim
theorem ev_c1 {op : O → Option O} (ho : OpL1 c.K r op) (h : EvP c ta f) : EvO c (tCB r (tCons ta tNil)) (mC1 op f) := fun F H σ env fp fr Q rl w => by
  refine h F H σ env fp fr _ rl ?_
  unfold mC1 at w
  cases e1 : f env with
  | bad => rw [e1] at w; exact w.elim
  | err env1 x => rw [e1] at w; exact w
  | ok env1 x =>
    rw [e1] at w
    intro v F1 H1 fp1 fx s1 k1 r1 q1
    refine ho F1 H1 x v fx Q r1.sub q1 ?_
    simp only [R.bind] at w
    split at w
    · rename_i o eo
      rw [eo]; exact newW_of r1 s1 k1 w
    · exact w.elim
/-- a method without arguments, a one-place operation -/
def OpU (K : PySem.W.Frag) (r : V → Hp → VK → Prop) (op : O → Option O) : Prop := ∀ F H x v fx Q, Sub F H → Rp K F H x v fx → NewW K F H Q (op x) → r v H Q
theorem ev_un {r : V → Hp → VK → Prop} {op : O → Option O} (ho : OpU c.K r op) (h : EvP c ta f) : EvO c (tUn r ta) (mC1 op f) := fun F H σ env fp fr Q rl w => by
  refine h F H σ env fp fr _ rl ?_
  unfold mC1 at w
  cases e1 : f env with
  | bad => rw [e1] at w; exact w.elim
  | err env1 x => rw [e1] at w; exact w
  | ok env1 x =>
    rw [e1] at w
    intro v F1 H1 fp1 fx s1 k1 r1 q1
    refine ho F1 H1 x v fx Q r1.sub q1 ?_
    simp only [R.bind] at w
    split at w
    · rename_i o eo
      rw [eo]; exact newW_of r1 s1 k1 w
    · exact w.elim
end

/-! ### the built-in functions -/
section
variable {K : PySem.W.Frag}
def oLen : O → Option O
  | .lst _ xs => some (.int xs.length)
  | .tup xs => some (.int xs.length)
  | .str z => if z.length ≤ lim then some (.int z.length) else none
  | .scr ns => some (.int ns.length)
  | _ => none
theorem opl_len : OpL1 K (fun xs H Q => ∃ x n, xs = [x] ∧ LenV K x H n ∧ Q (.int n) H) oLen := fun F H x v fx Q s hx w => by
  unfold oLen at w
  split at w
  · rename_i w0 xs
    obtain ⟨a, vs, f, rfl, ha, r, _⟩ := list_of s hx
    exact ⟨_, vs.length, rfl, .inl ⟨vs, .inl (.inl ha), rfl⟩, by rw [r.len]; exact w.val s ⟨rfl, rfl⟩⟩
  · rename_i xs
    obtain ⟨a, vs, rfl, ha, r⟩ := hx
    exact ⟨_, vs.length, rfl, .inr ⟨vs, sqT_sub s ha, rfl⟩, by rw [r.len]; exact w.val s ⟨rfl, rfl⟩⟩
  · rename_i z
    obtain ⟨rfl, _⟩ := hx
    split at w
    · rename_i hz
      exact ⟨_, z.length, rfl, ⟨by rw [str_len]; exact lim_le hz, (str_len z).symm⟩, w.val s ⟨rfl, rfl⟩⟩
    · exact w.elim
  · rename_i ns
    obtain ⟨⟨a, rfl, ha⟩, _⟩ := hx
    exact ⟨_, ns.length, rfl, .inl ⟨_, sqL_sub s ha, by simp⟩, w.val s ⟨rfl, rfl⟩⟩
  · exact w.elim
def oList : O → Option O
  | .lst _ xs => if fixeds xs then some (.lst true xs) else none
  | .tup xs => if fixeds xs then some (.lst true xs) else none
  | .scr ns => some (.lst true (ns.map .int))
  | _ => none
theorem opl_list : OpL1 K (fun xs H Q => ∃ p ys, xs = [.ref p] ∧ (SqL K H p ys ∨ SqT K H p ys) ∧ ∀ l, H l = none → Q (.ref l) (upd H l (.lst ys))) oList := fun F H x v fx Q s hx w => by
  unfold oList at w
  split at w
  · rename_i w0 xs
    obtain ⟨a, vs, f, rfl, ha, r, _⟩ := list_of s hx
    split at w
    · rename_i hf
      have z := Rps.nofp xs vs f hf r
      subst z
      exact ⟨a, vs, rfl, .inl (.inl (.inl ha)), fun l hl => w.lst s r hl⟩
    · exact w.elim
  · rename_i xs
    obtain ⟨a, vs, rfl, ha, r⟩ := hx
    split at w
    · rename_i hf
      have z := Rps.nofp xs vs _ hf r
      subst z
      exact ⟨a, vs, rfl, .inr (sqT_sub s ha), fun l hl => w.lst s r hl⟩
    · exact w.elim
  · rename_i ns
    obtain ⟨⟨a, rfl, ha⟩, _⟩ := hx
    exact ⟨a, _, rfl, .inl (sqL_sub s ha), fun l hl => w.lst s (Rps.ints ns) hl⟩
  · exact w.elim
def oAbs : O → Option O
  | .int i => some (.int (if i < 0 then -i else i))
  | _ => none
theorem opl_abs : OpL1 K (fun xs H Q => ∃ i, xs = [.int i] ∧ Q (.int (if i < 0 then -i else i)) H) oAbs := fun F H x v fx Q s hx w => by
  unfold oAbs at w
  split at w
  · obtain ⟨rfl, _⟩ := hx
    exact ⟨_, rfl, w.val s ⟨rfl, rfl⟩⟩
  · exact w.elim
def oInt : O → Option O
  | .int i => some (.int i)
  | .bl k => some (.int (if k then 1 else 0))
  | _ => none
theorem opl_int : OpL1 K (fun xs H Q => (∃ i, xs = [.int i] ∧ Q (.int i) H) ∨ ∃ k, xs = [.bl k] ∧ Q (.int (if k then 1 else 0)) H) oInt := fun F H x v fx Q s hx w => by
  unfold oInt at w
  split at w
  · obtain ⟨rfl, _⟩ := hx
    exact .inl ⟨_, rfl, w.val s ⟨rfl, rfl⟩⟩
  · obtain ⟨rfl, _⟩ := hx
    exact .inr ⟨_, rfl, w.val s ⟨rfl, rfl⟩⟩
  · exact w.elim
def oMin2 : List O → Option O
  | [.int i, .int j] => some (.int (if j < i then j else i))
  | _ => none
def oMax2 : List O → Option O
  | [.int i, .int j] => some (.int (if j > i then j else i))
  | _ => none
theorem opl_min2 : OpL K (fun xs H Q => ∃ i j, xs = [.int i, .int j] ∧ Q (.int (if j < i then j else i)) H) oMin2 := fun F H os vs Q s h w => by
  unfold oMin2 at w
  split at w
  · obtain ⟨v, vs', f1, f2, rfl, ⟨rfl, _⟩, ⟨v2, vs2, f3, f4, rfl, ⟨rfl, _⟩, ⟨rfl, _⟩, _⟩, _⟩ := h
    exact ⟨_, _, rfl, w.val s ⟨rfl, rfl⟩⟩
  · exact w.elim
theorem opl_max2 : OpL K (fun xs H Q => ∃ i j, xs = [.int i, .int j] ∧ Q (.int (if j > i then j else i)) H) oMax2 := fun F H os vs Q s h w => by
  unfold oMax2 at w
  split at w
  · obtain ⟨v, vs', f1, f2, rfl, ⟨rfl, _⟩, ⟨v2, vs2, f3, f4, rfl, ⟨rfl, _⟩, ⟨rfl, _⟩, _⟩, _⟩ := h
    exact ⟨_, _, rfl, w.val s ⟨rfl, rfl⟩⟩
  · exact w.elim
/-- the ints of a list -/
def intsOf : List O → Option (List Int)
  | [] => some []
  | .int i :: r => (intsOf r).map (i :: ·)
  | _ => none
def boolsOf : List O → Option (List Bool)
  | [] => some []
  | .bl i :: r => (boolsOf r).map (i :: ·)
  | _ => none
def strsOf : List O → Option (List (List Nat))
  | [] => some []
  | .str i :: r => (strsOf r).map (i :: ·)
  | _ => none
theorem intsOf_eq : ∀ {xs : List O} {ns : List Int}, intsOf xs = some ns → xs = ns.map .int
  | [], ns, h => by cases h; rfl
  | x :: xs, ns, h => by
    cases x <;> simp only [intsOf] at h <;> first | (cases h; done) | skip
    cases e : intsOf xs with
    | none => rw [e] at h; cases h
    | some m => rw [e] at h; cases h; rw [intsOf_eq e]; rfl
theorem boolsOf_eq : ∀ {xs : List O} {ns : List Bool}, boolsOf xs = some ns → xs = ns.map .bl
  | [], ns, h => by cases h; rfl
  | x :: xs, ns, h => by
    cases x <;> simp only [boolsOf] at h <;> first | (cases h; done) | skip
    cases e : boolsOf xs with
    | none => rw [e] at h; cases h
    | some m => rw [e] at h; cases h; rw [boolsOf_eq e]; rfl
theorem strsOf_eq : ∀ {xs : List O} {ns : List (List Nat)}, strsOf xs = some ns → xs = ns.map .str
  | [], ns, h => by cases h; rfl
  | x :: xs, ns, h => by
    cases x <;> simp only [strsOf] at h <;> first | (cases h; done) | skip
    cases e : strsOf xs with
    | none => rw [e] at h; cases h
    | some m => rw [e] at h; cases h; rw [strsOf_eq e]; rfl
theorem intsOf_map : ∀ ns : List Int, intsOf (ns.map .int) = some ns
  | [] => rfl
  | n :: ns => by simp [intsOf, intsOf_map ns]
theorem boolsOf_map : ∀ ns : List Bool, boolsOf (ns.map .bl) = some ns
  | [] => rfl
  | n :: ns => by simp [boolsOf, boolsOf_map ns]
theorem strsOf_map : ∀ ns : List (List Nat), strsOf (ns.map .str) = some ns
  | [] => rfl
  | n :: ns => by simp [strsOf, strsOf_map ns]
variable {F H : Hp}
theorem rps_ints : ∀ {ns : List Int} {vs : List V} {fp : List Addr}, Rps K F H (ns.map .int) vs fp → vs = ns.map .int
  | [], vs, fp, h => h.1
  | n :: ns, vs, fp, h => by
    obtain ⟨v, vs', f1, f2, rfl, ⟨rfl, _⟩, r2, _⟩ := h
    rw [rps_ints r2]; rfl
theorem rps_bools : ∀ {ns : List Bool} {vs : List V} {fp : List Addr}, Rps K F H (ns.map .bl) vs fp → vs = ns.map .bl
  | [], vs, fp, h => h.1
  | n :: ns, vs, fp, h => by
    obtain ⟨v, vs', f1, f2, rfl, ⟨rfl, _⟩, r2, _⟩ := h
    rw [rps_bools r2]; rfl
theorem rps_strs : ∀ {ns : List (List Nat)} {vs : List V} {fp : List Addr}, Rps K F H (ns.map .str) vs fp → vs = (ns.map fun x => (⟨x.toArray⟩ : Str)).map .str
  | [], vs, fp, h => h.1
  | n :: ns, vs, fp, h => by
    obtain ⟨v, vs', f1, f2, rfl, ⟨rfl, _⟩, r2, _⟩ := h
    rw [rps_strs r2]; rfl
def oSum : O → Option O
  | .lst _ xs => (intsOf xs).map fun ns => .int ns.sum
  | _ => none
theorem opl_sum : OpL1 K (rSum K) oSum := fun F H x v fx Q s hx w => by
  unfold oSum at w
  split at w
  · rename_i w0 xs
    obtain ⟨a, vs, f, rfl, ha, r, _⟩ := list_of s hx
    cases e : intsOf xs with
    | none => rw [e] at w; exact w.elim
    | some ns =>
      rw [e] at w
      rw [intsOf_eq e] at r
      rw [rps_ints r] at ha
      exact ⟨a, ns, rfl, .inl (.inl ha), w.val s ⟨rfl, rfl⟩⟩
  · exact w.elim
def oAll : O → Option O
  | .lst _ xs => (boolsOf xs).map fun ns => .bl (ns.all id)
  | _ => none
theorem opl_all : OpL1 K (rAll K) oAll := fun F H x v fx Q s hx w => by
  unfold oAll at w
  split at w
  · rename_i w0 xs
    obtain ⟨a, vs, f, rfl, ha, r, _⟩ := list_of s hx
    cases e : boolsOf xs with
    | none => rw [e] at w; exact w.elim
    | some ns =>
      rw [e] at w
      rw [boolsOf_eq e] at r
      rw [rps_bools r] at ha
      exact ⟨a, ns, rfl, .inl (.inl ha), w.val s ⟨rfl, rfl⟩⟩
  · exact w.elim
def oAny : O → Option O
  | .lst _ xs => (boolsOf xs).map fun ns => .bl (ns.any id)
  | _ => none
theorem opl_any : OpL1 K (rAny K) oAny := fun F H x v fx Q s hx w => by
  unfold oAny at w
  split at w
  · rename_i w0 xs
    obtain ⟨a, vs, f, rfl, ha, r, _⟩ := list_of s hx
    cases e : boolsOf xs with
    | none => rw [e] at w; exact w.elim
    | some ns =>
      rw [e] at w
      rw [boolsOf_eq e] at r
      rw [rps_bools r] at ha
      exact ⟨a, ns, rfl, .inl (.inl ha), w.val s ⟨rfl, rfl⟩⟩
  · exact w.elim
/-- the ints in rising order -/
def ins1 (x : Int) : List Int → List Int
  | [] => [x]
  | y :: r => if x ≤ y then x :: y :: r else y :: ins1 x r
def isort : List Int → List Int
  | [] => []
  | x :: r => ins1 x (isort r)
theorem ins1_perm (x : Int) : ∀ l : List Int, (ins1 x l).Perm (x :: l)
  | [] => .refl _
  | y :: r => by
    unfold ins1
    split
    · exact .refl _
    · exact ((ins1_perm x r).cons y).trans (.swap x y r)
theorem isort_perm : ∀ l : List Int, (isort l).Perm l
  | [] => .refl _
  | x :: r => (ins1_perm x (isort r)).trans ((isort_perm r).cons x)
theorem ins1_sorted (x : Int) : ∀ l : List Int, l.Pairwise (· ≤ ·) → (ins1 x l).Pairwise (· ≤ ·)
  | [], _ => by simp [ins1]
  | y :: r, h => by
    unfold ins1
    split
    · rename_i hxy
      refine List.Pairwise.cons (fun z hz => ?_) h
      rcases List.mem_cons.mp hz with rfl | hz
      · exact hxy
      · exact Int.le_trans hxy (List.rel_of_pairwise_cons h hz)
    · rename_i hxy
      refine List.Pairwise.cons (fun z hz => ?_) (ins1_sorted x r (List.Pairwise.of_cons h))
      have hz' := (ins1_perm x r).mem_iff.mp hz
      rcases List.mem_cons.mp hz' with rfl | hz'
      · omega
      · exact List.rel_of_pairwise_cons h hz'
theorem isort_sorted : ∀ l : List Int, (isort l).Pairwise (· ≤ ·)
  | [] => List.Pairwise.nil
  | x :: r => ins1_sorted x _ (isort_sorted r)
def oSorted : O → Option O
  | .lst _ xs => (intsOf xs).map fun ns => .lst true ((isort ns).map .int)
  | _ => none
theorem opl_sorted : OpL1 K (rSortedI K) oSorted := fun F H x v fx Q s hx w => by
  unfold oSorted at w
  split at w
  · rename_i w0 xs
    obtain ⟨a, vs, f, rfl, ha, r, _⟩ := list_of s hx
    cases e : intsOf xs with
    | none => rw [e] at w; exact w.elim
    | some ns =>
      rw [e] at w
      rw [intsOf_eq e] at r
      rw [rps_ints r] at ha
      refine ⟨a, ns, rfl, .inl (.inl ha), fun ns' p hp hs hn => ?_⟩
      have e2 : ns' = isort ns := PySem.W.ksm_same (hp.trans (isort_perm ns).symm) hs (isort_sorted ns)
      rw [e2]
      exact w.lst s (Rps.ints _) hn
  · exact w.elim
def oNeg : O → Option O
  | .int i => some (.int (-i))
  | _ => none
theorem opu_neg : OpU K (rU fun i => .int (-i)) oNeg := fun F H x v fx Q s hx w => by
  unfold oNeg at w
  split at w
  · obtain ⟨rfl, _⟩ := hx
    exact ⟨_, rfl, w.val s ⟨rfl, rfl⟩⟩
  · exact w.elim
def oTuple : O → Option O
  | .lst _ xs => if fixeds xs then some (.tup xs) else none
  | .tup xs => if fixeds xs then some (.tup xs) else none
  | _ => none
theorem opl_tuple : OpL1 K (fun xs H Q => ∃ p ys, xs = [.ref p] ∧ ((SqL K H p ys ∧ ∀ l, H l = none → Q (.ref l) (upd H l (.tup ys))) ∨ (SqT K H p ys ∧ Q (.ref p) H))) oTuple := fun F H x v fx Q s hx w => by
  unfold oTuple at w
  split at w
  · rename_i w0 xs
    obtain ⟨a, vs, f, rfl, ha, r, _⟩ := list_of s hx
    split at w
    · rename_i hf
      have z := Rps.nofp xs vs f hf r
      subst z
      exact ⟨a, vs, rfl, .inl ⟨.inl (.inl ha), fun l hl => w.tup s r hl⟩⟩
    · exact w.elim
  · rename_i xs
    obtain ⟨a, vs, rfl, ha, r⟩ := hx
    split at w
    · rename_i hf
      have z := Rps.nofp xs vs _ hf r
      subst z
      exact ⟨a, vs, rfl, .inr ⟨sqT_sub s ha, w.val s ⟨a, vs, rfl, ha, r⟩⟩⟩
    · exact w.elim
  · exact w.elim
/-- isinstance(x, T), T one of the five built-in types met -/
inductive Ty5 where
  | int | bool | str | list | tuple
def Ty5.nm : Ty5 → String
  | .int => "int" | .bool => "bool" | .str => "str" | .list => "list" | .tuple => "tuple"
def isI : O → Ty5 → Option Bool
  | .non, _ => some false
  | .bl _, t => some (match t with | .int => true | .bool => true | _ => false)
  | .int _, t => some (match t with | .int => true | _ => false)
  | .str _, t => some (match t with | .str => true | _ => false)
  | .tup _, t => some (match t with | .tuple => true | _ => false)
  | .lst _ _, t => some (match t with | .list => true | _ => false)
  | .scr _, _ => none
def oIsI (t : Ty5) (x : O) : Option O := (isI x t).map .bl
theorem kit5 (t : Ty5) : kitB "NoneType" t.nm = some false ∧ kitB "bool" t.nm = some (match t with | .int => true | .bool => true | _ => false) ∧ kitB "int" t.nm = some (match t with | .int => true | _ => false) ∧
    kitB "str" t.nm = some (match t with | .str => true | _ => false) ∧ kitB "tuple" t.nm = some (match t with | .tuple => true | _ => false) ∧ kitB "list" t.nm = some (match t with | .list => true | _ => false) := by
  cases t <;> decide +kernel
theorem opl_isi (t : Ty5) {x : O} {v : V} {fx : List Addr} {Q : VK} (s : Sub F H) (hx : Rp K F H x v fx) (w : NewW K F H Q (oIsI t x)) : rIsi K [v, .ty t.nm] H Q := by
  obtain ⟨k1, k2, k3, k4, k5, k6⟩ := kit5 t
  unfold oIsI at w
  cases x with
  | non => obtain ⟨rfl, _⟩ := hx; exact ⟨_, _, _, _, _, rfl, .ty _, .base .non, kit_ty k1, w.val s ⟨rfl, rfl⟩⟩
  | bl b => obtain ⟨rfl, _⟩ := hx; exact ⟨_, _, _, _, _, rfl, .ty _, .base (.bl b), kit_ty k2, w.val s ⟨rfl, rfl⟩⟩
  | int i => obtain ⟨rfl, _⟩ := hx; exact ⟨_, _, _, _, _, rfl, .ty _, .base (.int i), kit_ty k3, w.val s ⟨rfl, rfl⟩⟩
  | str z => obtain ⟨rfl, _⟩ := hx; exact ⟨_, _, _, _, _, rfl, .ty _, .base (.str _), kit_ty k4, w.val s ⟨rfl, rfl⟩⟩
  | tup xs =>
    obtain ⟨a, vs, rfl, ha, r⟩ := hx
    rcases ha with (ha | ⟨o, ha⟩) | ⟨o, its, n, ho, hc, _⟩
    · exact ⟨_, _, _, _, _, rfl, .ty _, .base (.tup (s _ _ ha)), kit_ty k5, w.val s ⟨rfl, rfl⟩⟩
    · exact ⟨_, _, _, _, _, rfl, .ty _, .fTuple (s _ _ ha), kit_ty k5, w.val s ⟨rfl, rfl⟩⟩
    · exact ⟨_, _, _, _, _, rfl, .ty _, .kTuple ho hc, kit_ty k5, w.val s ⟨rfl, rfl⟩⟩
  | lst w0 xs =>
    obtain ⟨a, vs, f, rfl, ha, r, _⟩ := list_of s hx
    exact ⟨_, _, _, _, _, rfl, .ty _, .base (.lst ha), kit_ty k6, w.val s ⟨rfl, rfl⟩⟩
  | scr ns => exact w.elim
end
section
variable {c : Cfg} {ta : TE} {f : M O}
theorem ev_isi (t : Ty5) (h : EvP c ta f) : EvO c (tCB (rIsi c.K) (tCons ta (tCons (tC (.ty t.nm)) tNil))) (mC1 (oIsI t) f) := fun F H σ env fp fr Q rl w => by
  refine h F H σ env fp fr _ rl ?_
  unfold mC1 at w
  cases e1 : f env with
  | bad => rw [e1] at w; exact w.elim
  | err env1 x => rw [e1] at w; exact w
  | ok env1 x =>
    rw [e1] at w
    intro v F1 H1 fp1 fx s1 k1 r1 q1
    refine opl_isi t r1.sub q1 ?_
    simp only [R.bind] at w
    split at w
    · rename_i o eo
      rw [eo]; exact newW_of r1 s1 k1 w
    · exact w.elim
end
end Ow
set_option Elab.async false
set_option linter.all false
set_option maxRecDepth 100000
set_option maxHeartbeats 4000000
namespace Ow
open PySem L2

/-! ### tests -/
def WT (c : Cfg) (F H : Hp) (fr : Addr → Prop) (σ : St) (Q : Bool → Hp → Prop) : R Bool → Prop
  | .ok env b => ∀ F' H' fp, Sub F F' → Kp fr H H' → Rel c.K F' H' σ env fp fr → Q b H'
  | .err env x => ∀ cl d F' H' fp, Sub F F' → Kp fr H H' → Rel c.K F' H' σ env fp fr → RpX c H' x cl d → c.E cl d σ H'
  | .bad => False
def EvT (c : Cfg) (tt : TT) (f : M Bool) : Prop := ∀ F H σ env fp fr Q, Rel c.K F H σ env fp fr → WT c F H fr σ Q (f env) → tt σ H Q
theorem WT.up {c : Cfg} {F H F1 H1 : Hp} {fr : Addr → Prop} {σ : St} {Q : Bool → Hp → Prop} {r : R Bool} (s : Sub F F1) (k : Kp fr H H1) (w : WT c F H fr σ Q r) : WT c F1 H1 fr σ Q r := by
  cases r with
  | ok env b => exact fun F' H' fp s' k' r' => w F' H' fp (s.trans s') (k.trans k') r'
  | err env x => exact fun cl d F' H' fp s' k' r' q => w cl d F' H' fp (s.trans s') (k.trans k') r' q
  | bad => exact w
theorem WE.up {c : Cfg} {F H F1 H1 : Hp} {fr : Addr → Prop} {σ : St} {Q : VK} {r : R O} (s : Sub F F1) (k : Kp fr H H1) (w : WE c F H fr σ Q r) : WE c F1 H1 fr σ Q r := by
  cases r with
  | ok env b => exact fun v F' H' fp fv s' k' r' => w v F' H' fp fv (s.trans s') (k.trans k') r'
  | err env x => exact fun cl d F' H' fp s' k' r' q => w cl d F' H' fp (s.trans s') (k.trans k') r' q
  | bad => exact w
theorem WF.up {c : Cfg} {F H F1 H1 : Hp} {fr : Addr → Prop} {σ : St} {Q : VK} {r : R O} (s : Sub F F1) (k : Kp fr H H1) (w : WF c F H fr σ Q r) : WF c F1 H1 fr σ Q r := by
  cases r with
  | ok env b => exact fun v F' H' fp s' k' r' => w v F' H' fp (s.trans s') (k.trans k') r'
  | err env x => exact fun cl d F' H' fp s' k' r' q => w cl d F' H' fp (s.trans s') (k.trans k') r' q
  | bad => exact w
def mTB (f : M O) : M Bool := fun env => (f env).bind fun e x => match x with
  | .bl b => .ok e b
  | _ => .bad
def truO : O → Option Bool
  | .non => some false
  | .bl b => some b
  | .int i => some (i != 0)
  | .str z => if z.length ≤ lim then some (!z.isEmpty) else none
  | .tup xs => some (!xs.isEmpty)
  | .lst _ xs => some (!xs.isEmpty)
  | .scr ns => some (!ns.isEmpty)
def mTru (f : M O) : M Bool := fun env => (f env).bind fun e x => match truO x with
  | some b => .ok e b
  | none => .bad
def mAnd (f g : M Bool) : M Bool := fun env => (f env).bind fun e b => if b then g e else .ok e false
def mOr (f g : M Bool) : M Bool := fun env => (f env).bind fun e b => if b then .ok e true else g e
def mNot (f : M Bool) : M Bool := fun env => (f env).bind fun e b => .ok e (!b)
section
variable {c : Cfg} {te ta tb : TE} {f g : M O} {tt tu : TT} {p q : M Bool}
theorem rp_bl {K : PySem.W.Frag} {F H : Hp} {b : Bool} {v : V} {fp : List Addr} (h : Rp K F H (.bl b) v fp) : v = .bl b := h.1
theorem evt_B (h : EvP c te f) : EvT c (tB te) (mTB f) := fun F H σ env fp fr Q rl w => by
  refine h F H σ env fp fr _ rl ?_
  unfold mTB at w
  cases e1 : f env with
  | bad => rw [e1] at w; exact w.elim
  | err env1 x => rw [e1] at w; exact w
  | ok env1 x =>
    rw [e1] at w
    intro v F1 H1 fp1 fv s1 k1 r1 q1
    simp only [R.bind] at w
    split at w
    · exact ⟨_, q1.1, w F1 H1 fp1 s1 k1 r1⟩
    · exact w.elim
theorem truV_of {K : PySem.W.Frag} {F H : Hp} {o : O} {v : V} {fp : List Addr} {b : Bool} (s : Sub F H) (h : Rp K F H o v fp) (e : truO o = some b) : TruV K v H b := by
  cases o with
  | non => obtain ⟨rfl, _⟩ := h; cases e; rfl
  | bl k => obtain ⟨rfl, _⟩ := h; cases e; rfl
  | int i => obtain ⟨rfl, _⟩ := h; cases e; rfl
  | str z =>
    obtain ⟨rfl, _⟩ := h
    simp only [truO] at e
    split at e
    · rename_i hz
      cases e
      refine ⟨by rw [str_len]; exact lim_le hz, ?_⟩
      rw [str_len]
      cases z <;> simp
      omega
    · cases e
  | tup xs =>
    obtain ⟨a, vs, rfl, ha, r⟩ := h
    cases e
    refine .inr (.inl ⟨vs, sqT_sub s ha, ?_⟩)
    have := r.len
    cases xs <;> cases vs <;> first | rfl | (simp at this)
  | lst w xs =>
    obtain ⟨a, vs, f, rfl, ha, r, _⟩ := list_of s h
    cases e
    refine .inl ⟨vs, .inl (.inl ha), ?_⟩
    have := r.len
    cases xs <;> cases vs <;> first | rfl | (simp at this)
  | scr ns =>
    obtain ⟨⟨a, rfl, ha⟩, _⟩ := h
    cases e
    refine .inl ⟨_, sqL_sub s ha, ?_⟩
    cases ns <;> rfl
theorem evt_tru (h : EvP c te f) : EvT c (fun σ H Q => te σ H fun x H' => ∃ k, TruV c.K x H' k ∧ Q k H') (mTru f) := fun F H σ env fp fr Q rl w => by
  refine h F H σ env fp fr _ rl ?_
  unfold mTru at w
  cases e1 : f env with
  | bad => rw [e1] at w; exact w.elim
  | err env1 x => rw [e1] at w; exact w
  | ok env1 x =>
    rw [e1] at w
    intro v F1 H1 fp1 fv s1 k1 r1 q1
    simp only [R.bind] at w
    split at w
    · rename_i b eb
      exact ⟨b, truV_of r1.sub q1 eb, w F1 H1 fp1 s1 k1 r1⟩
    · exact w.elim
theorem evt_and (h1 : EvT c tt p) (h2 : EvT c tu q) : EvT c (tAnd tt tu) (mAnd p q) := fun F H σ env fp fr Q rl w => by
  refine h1 F H σ env fp fr _ rl ?_
  unfold mAnd at w
  cases e1 : p env with
  | bad => rw [e1] at w; exact w.elim
  | err env1 x => rw [e1] at w; exact w
  | ok env1 b =>
    rw [e1] at w
    intro F1 H1 fp1 s1 k1 r1
    simp only [R.bind] at w
    cases b with
    | true => exact h2 F1 H1 σ env1 fp1 fr Q r1 (WT.up s1 k1 w)
    | false => exact w F1 H1 fp1 s1 k1 r1
theorem evt_or (h1 : EvT c tt p) (h2 : EvT c tu q) : EvT c (tOr tt tu) (mOr p q) := fun F H σ env fp fr Q rl w => by
  refine h1 F H σ env fp fr _ rl ?_
  unfold mOr at w
  cases e1 : p env with
  | bad => rw [e1] at w; exact w.elim
  | err env1 x => rw [e1] at w; exact w
  | ok env1 b =>
    rw [e1] at w
    intro F1 H1 fp1 s1 k1 r1
    simp only [R.bind] at w
    cases b with
    | false => exact h2 F1 H1 σ env1 fp1 fr Q r1 (WT.up s1 k1 w)
    | true => exact w F1 H1 fp1 s1 k1 r1
theorem evt_not (h1 : EvT c tt p) : EvT c (tNot tt) (mNot p) := fun F H σ env fp fr Q rl w => by
  refine h1 F H σ env fp fr _ rl ?_
  unfold mNot at w
  cases e1 : p env with
  | bad => rw [e1] at w; exact w.elim
  | err env1 x => rw [e1] at w; exact w
  | ok env1 b =>
    rw [e1] at w
    intro F1 H1 fp1 s1 k1 r1
    exact w F1 H1 fp1 s1 k1 r1

/-! ### and, or, not as values (of bools), if-expressions -/
def mAndV (f g : M O) : M O := fun env => (f env).bind fun e x => match x with
  | .bl b => if b then g e else .ok e (.bl false)
  | _ => .bad
def mOrV (f g : M O) : M O := fun env => (f env).bind fun e x => match x with
  | .bl b => if b then .ok e (.bl true) else g e
  | _ => .bad
def mNotV (f : M O) : M O := fun env => (f env).bind fun e x => match x with
  | .bl b => .ok e (.bl (!b))
  | _ => .bad
def mIf (p : M Bool) (f g : M O) : M O := fun env => (p env).bind fun e b => if b then f e else g e
theorem evo_andV (h1 : EvP c ta f) (h2 : EvO c tb g) : EvO c (tAndV ta tb) (mAndV f g) := fun F H σ env fp fr Q rl w => by
  refine h1 F H σ env fp fr _ rl ?_
  unfold mAndV at w
  cases e1 : f env with
  | bad => rw [e1] at w; exact w.elim
  | err env1 x => rw [e1] at w; exact w
  | ok env1 x =>
    rw [e1] at w
    intro v F1 H1 fp1 fv s1 k1 r1 q1
    simp only [R.bind] at w
    split at w
    · rename_i b
      refine ⟨b, q1.1, ?_⟩
      cases b with
      | true => exact h2 F1 H1 σ env1 fp1 fr Q r1 (WE.up s1 k1 w)
      | false => exact w (.bl false) F1 H1 fp1 [] s1 k1 r1 ⟨rfl, rfl⟩ List.nodup_nil fun _ z => nomatch z
    · exact w.elim
theorem evo_orV (h1 : EvP c ta f) (h2 : EvO c tb g) : EvO c (tOrV ta tb) (mOrV f g) := fun F H σ env fp fr Q rl w => by
  refine h1 F H σ env fp fr _ rl ?_
  unfold mOrV at w
  cases e1 : f env with
  | bad => rw [e1] at w; exact w.elim
  | err env1 x => rw [e1] at w; exact w
  | ok env1 x =>
    rw [e1] at w
    intro v F1 H1 fp1 fv s1 k1 r1 q1
    simp only [R.bind] at w
    split at w
    · rename_i b
      refine ⟨b, q1.1, ?_⟩
      cases b with
      | false => exact h2 F1 H1 σ env1 fp1 fr Q r1 (WE.up s1 k1 w)
      | true => exact w (.bl true) F1 H1 fp1 [] s1 k1 r1 ⟨rfl, rfl⟩ List.nodup_nil fun _ z => nomatch z
    · exact w.elim
theorem evo_notV (h1 : EvP c ta f) : EvO c (tNotV ta) (mNotV f) := fun F H σ env fp fr Q rl w => by
  refine h1 F H σ env fp fr _ rl ?_
  unfold mNotV at w
  cases e1 : f env with
  | bad => rw [e1] at w; exact w.elim
  | err env1 x => rw [e1] at w; exact w
  | ok env1 x =>
    rw [e1] at w
    intro v F1 H1 fp1 fv s1 k1 r1 q1
    simp only [R.bind] at w
    split at w
    · rename_i b
      exact ⟨b, q1.1, w (.bl !b) F1 H1 fp1 [] s1 k1 r1 ⟨rfl, rfl⟩ List.nodup_nil fun _ z => nomatch z⟩
    · exact w.elim
theorem evo_if (h0 : EvT c tt p) (h1 : EvO c ta f) (h2 : EvO c tb g) : EvO c (tIf tt ta tb) (mIf p f g) := fun F H σ env fp fr Q rl w => by
  refine h0 F H σ env fp fr _ rl ?_
  unfold mIf at w
  cases e1 : p env with
  | bad => rw [e1] at w; exact w.elim
  | err env1 x => rw [e1] at w; exact w
  | ok env1 b =>
    rw [e1] at w
    intro F1 H1 fp1 s1 k1 r1
    simp only [R.bind] at w
    cases b with
    | true => exact h1 F1 H1 σ env1 fp1 fr Q r1 (WE.up s1 k1 w)
    | false => exact h2 F1 H1 σ env1 fp1 fr Q r1 (WE.up s1 k1 w)
theorem evf_if (h0 : EvT c tt p) (h1 : EvF c ta f) (h2 : EvF c tb g) : EvF c (tIf tt ta tb) (mIf p f g) := fun F H σ env fp fr Q rl w => by
  refine h0 F H σ env fp fr _ rl ?_
  unfold mIf at w
  cases e1 : p env with
  | bad => rw [e1] at w; exact w.elim
  | err env1 x => rw [e1] at w; exact w
  | ok env1 b =>
    rw [e1] at w
    intro F1 H1 fp1 s1 k1 r1
    simp only [R.bind] at w
    cases b with
    | true => exact h1 F1 H1 σ env1 fp1 fr Q r1 (WF.up s1 k1 w)
    | false => exact h2 F1 H1 σ env1 fp1 fr Q r1 (WF.up s1 k1 w)
/-- a < b < c -/
def mChain (op op' : O → O → Option O) (f g h : M O) : M O := fun env => (f env).bind fun e x => (g e).bind fun e y => match op x y with
  | some (.bl b) => if b then (h e).bind fun e z => match op' y z with
    | some o => .ok e o
    | none => .bad
    else .ok e (.bl false)
  | _ => .bad
theorem evo_chain {h : M O} {tc : TE} {r r' : R2} {op op' : O → O → Option O} (ho : OpF c.K r op) (ho' : OpF c.K r' op') (ha : EvF c ta f) (hb : EvF c tb g) (hc : EvF c tc h) : EvO c (tChain r r' ta tb tc) (mChain op op' f g h) := fun F H σ env fp fr Q rl w => by
  refine ha F H σ env fp fr _ rl ?_
  unfold mChain at w
  cases e1 : f env with
  | bad => rw [e1] at w; exact w.elim
  | err env1 x => rw [e1] at w; exact w
  | ok env1 x =>
    rw [e1] at w
    intro v1 F1 H1 fp1 s1 k1 r1 q1
    refine hb F1 H1 σ env1 fp1 fr _ r1 ?_
    simp only [R.bind] at w
    cases e2 : g env1 with
    | bad => rw [e2] at w; exact w.elim
    | err env2 x => rw [e2] at w; exact WE.err_up s1 k1 w
    | ok env2 y =>
      rw [e2] at w
      intro v2 F2 H2 fp2 s2 k2 r2 q2
      simp only [R.bind] at w
      refine ho F2 H2 x y v1 v2 _ r2.sub (Rp.keep s2 x v1 [] q1 fun _ z => nomatch z) q2 ?_
      split at w
      · rename_i b eb
        rw [eb]
        intro v3 F3 H3 fv3 t1 t2 t3 t4 q3 _ _
        refine ⟨b, q3.1, ?_⟩
        have r3 := r2.new t1 t2 t3 t4
        have s3 := (s1.trans s2).trans t1
        have k3 : Kp fr H H3 := (k1.trans k2).trans (Kp.new r2 t2)
        cases b with
        | false => exact w (.bl false) F3 H3 fp2 [] s3 k3 r3 ⟨rfl, rfl⟩ List.nodup_nil fun _ z => nomatch z
        | true =>
          simp only [if_true] at w ⊢
          refine hc F3 H3 σ env2 fp2 fr _ r3 ?_
          cases e3 : h env2 with
          | bad => rw [e3] at w; exact w.elim
          | err env3 x => rw [e3] at w; exact WE.err_up s3 k3 w
          | ok env3 z =>
            rw [e3] at w
            intro v4 F4 H4 fp4 s4 k4 r4 q4
            refine ho' F4 H4 y z v2 v4 Q r4.sub (Rp.keep (t1.trans s4) y v2 [] q2 fun _ z => nomatch z) q4 ?_
            simp only at w
            split at w
            · rename_i o eo
              rw [eo]; exact newW_of r4 (s3.trans s4) (k3.trans k4) w
            · exact w.elim
      · exact w.elim

/-! ### slices -/
def WO (c : Cfg) (F H : Hp) (fr : Addr → Prop) (σ : St) (Q : Option Int → Hp → Prop) : R (Option Int) → Prop
  | .ok env b => ∀ F' H' fp, Sub F F' → Kp fr H H' → Rel c.K F' H' σ env fp fr → Q b H'
  | .err env x => ∀ cl d F' H' fp, Sub F F' → Kp fr H H' → Rel c.K F' H' σ env fp fr → RpX c H' x cl d → c.E cl d σ H'
  | .bad => False
def EvB (c : Cfg) (to : TO) (f : M (Option Int)) : Prop := ∀ F H σ env fp fr Q, Rel c.K F H σ env fp fr → WO c F H fr σ Q (f env) → to σ H Q
def mNoPart : M (Option Int) := fun env => .ok env none
def mPart (f : M O) : M (Option Int) := fun env => (f env).bind fun e x => match x with
  | .int i => .ok e (some i)
  | _ => .bad
theorem evb_none : EvB c tNoPart mNoPart := fun F H σ env fp fr Q rl w => w F H fp (Same.refl _) Kp.refl rl
theorem evb_some (h : EvP c te f) : EvB c (tPart te) (mPart f) := fun F H σ env fp fr Q rl w => by
  refine h F H σ env fp fr _ rl ?_
  unfold mPart at w
  cases e1 : f env with
  | bad => rw [e1] at w; exact w.elim
  | err env1 x => rw [e1] at w; exact w
  | ok env1 x =>
    rw [e1] at w
    intro v F1 H1 fp1 fv s1 k1 r1 q1
    simp only [R.bind] at w
    split at w
    · exact ⟨_, q1.1, w F1 H1 fp1 s1 k1 r1⟩
    · exact w.elim
def cutL {α : Type} (xs : List α) (lo hi : Option Int) : List α := (xs.drop (HT.sIx xs.length 0 lo)).take (HT.sIx xs.length xs.length hi - HT.sIx xs.length 0 lo)
theorem cutL_V (xs : List V) (lo hi : Option Int) : cutV xs lo hi = cutL xs lo hi := rfl
def oSl : O → Option Int → Option Int → Option O
  | .lst _ xs, lo, hi => some (.lst true (cutL xs lo hi))
  | .str z, lo, hi => if z.length ≤ lim then some (.str (cutL z lo hi)) else none
  | .tup xs, lo, hi => some (.tup (cutL xs lo hi))
  | _, _, _ => none
def mSl (f : M O) (g h : M (Option Int)) : M O := fun env => (f env).bind fun e x => (g e).bind fun e lo => (h e).bind fun e hi => match oSl x lo hi with
  | some o => .ok e o
  | none => .bad
def rSlG (K : PySem.W.Frag) : V → Option Int → Option Int → Hp → VK → Prop := fun x lo hi H Q => rSlL K x lo hi H Q ∨ (rSlS x lo hi H Q ∨ rSlA K x lo hi H Q)
theorem SlR.or {X : Cx} {r r' : V → Option Int → Option Int → Hp → VK → Prop} (h : SlR X r) (h' : SlR X r') : SlR X (fun x lo hi H Q => r x lo hi H Q ∨ r' x lo hi H Q) := fun pins s σ H x v vl vu lo hi sl Q I rx hs p1 p2 q => by
  rcases q with q | q
  · exact h pins s σ H x v vl vu lo hi sl Q I rx hs p1 p2 q
  · exact h' pins s σ H x v vl vu lo hi sl Q I rx hs p1 p2 q
theorem sl_G {X : Cx} : SlR X (rSlG X.K) := SlR.or sl_list (SlR.or sl_str sl_tupA)
theorem cutS_eq (z : List Nat) (lo hi : Option Int) : cutS ⟨z.toArray⟩ lo hi = ⟨(cutL z lo hi).toArray⟩ := by
  unfold cutS cutL
  rw [str_len]
theorem ops_sl {K : PySem.W.Frag} {F H : Hp} {x : O} {v : V} {lo hi : Option Int} {Q : VK} (s : Sub F H) (hx : Rp K F H x v []) (w : NewW K F H Q (oSl x lo hi)) : rSlG K v lo hi H Q := by
  unfold oSl at w
  split at w
  · rename_i _ _ w0 xs
    obtain ⟨a, vs, f, rfl, ha, r, hf⟩ := list_of s hx
    have z : f = [] := List.eq_nil_iff_forall_not_mem.mpr fun b hb => nomatch hf b hb
    subst z
    refine .inl ⟨a, vs, rfl, .inl (.inl ha), fun p hp => ?_⟩
    have e : cutV vs lo hi = (vs.drop (HT.sIx xs.length 0 lo)).take (HT.sIx xs.length xs.length hi - HT.sIx xs.length 0 lo) := by
      unfold cutV; rw [r.len]
    rw [e]
    exact w.lst s (Rps.take _ (Rps.drop _ r)) hp
  · rename_i _ _ z
    obtain ⟨rfl, _⟩ := hx
    split at w
    · rename_i hz
      exact .inr (.inl ⟨_, rfl, by rw [str_len]; exact lim_le hz, by rw [cutS_eq]; exact w.val s ⟨rfl, rfl⟩⟩)
    · exact w.elim
  · rename_i _ _ xs
    obtain ⟨a, vs, rfl, ha, r⟩ := hx
    refine .inr (.inr ⟨a, vs, rfl, sqT_sub s ha, fun ⟨h1, h2⟩ => ?_, fun _ p hp => ?_⟩)
    · have e : cutL xs lo hi = xs := by
        unfold cutL
        rw [r.len] at h1 h2
        rw [h1, h2]; simp
      rw [e] at w
      exact w.val s ⟨a, vs, rfl, ha, r⟩
    · have e : cutV vs lo hi = (vs.drop (HT.sIx xs.length 0 lo)).take (HT.sIx xs.length xs.length hi - HT.sIx xs.length 0 lo) := by
        unfold cutV; rw [r.len]
      rw [e]
      exact w.tup s (Rps.take _ (Rps.drop _ r)) hp
  · exact w.elim
theorem ev_sl {tl th : TO} {gl gh : M (Option Int)} (h : EvF c te f) (hl : EvB c tl gl) (hh : EvB c th gh) : EvO c (tSl (rSlG c.K) te tl th) (mSl f gl gh) := fun F H σ env fp fr Q rl w => by
  refine h F H σ env fp fr _ rl ?_
  unfold mSl at w
  cases e1 : f env with
  | bad => rw [e1] at w; exact w.elim
  | err env1 x => rw [e1] at w; exact w
  | ok env1 x =>
    rw [e1] at w
    intro v F1 H1 fp1 s1 k1 r1 q1
    simp only [R.bind] at w
    refine hl F1 H1 σ env1 fp1 fr _ r1 ?_
    cases e2 : gl env1 with
    | bad => rw [e2] at w; exact w.elim
    | err env2 x => rw [e2] at w; exact WE.err_up s1 k1 w
    | ok env2 lo =>
      rw [e2] at w
      intro F2 H2 fp2 s2 k2 r2
      simp only at w
      refine hh F2 H2 σ env2 fp2 fr _ r2 ?_
      cases e3 : gh env2 with
      | bad => rw [e3] at w; exact w.elim
      | err env3 x => rw [e3] at w; exact WE.err_up (s1.trans s2) (k1.trans k2) w
      | ok env3 hi =>
        rw [e3] at w
        intro F3 H3 fp3 s3 k3 r3
        simp only at w
        refine ops_sl r3.sub (Rp.keep (s2.trans s3) x v [] q1 fun _ z => nomatch z) ?_
        split at w
        · rename_i o eo
          rw [eo]; exact newW_of r3 ((s1.trans s2).trans s3) ((k1.trans k2).trans k3) w
        · exact w.elim
end
end Ow
set_option Elab.async false
set_option linter.all false
set_option maxRecDepth 100000
set_option maxHeartbeats 4000000
namespace Ow
open PySem L2

/-! ### statements -/
/-- the slots of B are as they were -/
def AgB (B : List Nat) (σ σ' : St) : Prop := σ'.length = σ.length ∧ ∀ i ∈ B, σ'[i]? = σ[i]?
theorem AgB.refl {B : List Nat} {σ : St} : AgB B σ σ := ⟨rfl, fun _ _ => rfl⟩
theorem AgB.trans {B : List Nat} {σ σ1 σ2 : St} (a : AgB B σ σ1) (b : AgB B σ1 σ2) : AgB B σ σ2 := ⟨b.1.trans a.1, fun i hi => (b.2 i hi).trans (a.2 i hi)⟩
theorem AgB.set {B : List Nat} {σ : St} {j : Nat} {v : Option V} (h : j ∉ B) : AgB B σ (σ.set j v) := ⟨by simp, fun i hi => by
  rw [List.getElem?_set_ne]
  rintro rfl; exact h hi⟩
def WS (c : Cfg) (B : List Nat) (F H : Hp) (fr : Addr → Prop) (σ : St) (D : Ends) : R Ctl → Prop
  | .ok env .nx => ∀ σ' F' H' fp, Sub F F' → Kp fr H H' → AgB B σ σ' → Rel c.K F' H' σ' env fp fr → D.nx σ' H'
  | .ok env .brk => ∀ σ' F' H' fp, Sub F F' → Kp fr H H' → AgB B σ σ' → Rel c.K F' H' σ' env fp fr → D.bk σ' H'
  | .ok env .cnt => ∀ σ' F' H' fp, Sub F F' → Kp fr H H' → AgB B σ σ' → Rel c.K F' H' σ' env fp fr → D.ct σ' H'
  | .ok env (.ret o) => ∀ v σ' F' H' fp fv, Sub F F' → Kp fr H H' → AgB B σ σ' → Rel c.K F' H' σ' env fp fr → Rp c.K F' H' o v fv → fv.Nodup → (∀ a ∈ fv, ¬ fr a ∧ ∀ i, a ∉ fp i) → D.rt v H'
  | .err env x => ∀ cl d σ' F' H' fp, Sub F F' → Kp fr H H' → AgB B σ σ' → Rel c.K F' H' σ' env fp fr → RpX c H' x cl d → c.E cl d σ' H'
  | .bad => False
theorem WS.up {c : Cfg} {B : List Nat} {F H F1 H1 : Hp} {fr : Addr → Prop} {σ σ1 : St} {D : Ends} {r : R Ctl} (s : Sub F F1) (k : Kp fr H H1) (g : AgB B σ σ1) (w : WS c B F H fr σ D r) : WS c B F1 H1 fr σ1 D r := by
  cases r with
  | bad => exact w
  | err env x => exact fun cl d σ' F' H' fp s' k' g' => w cl d σ' F' H' fp (s.trans s') (k.trans k') (g.trans g')
  | ok env a => cases a with
    | nx => exact fun σ' F' H' fp s' k' g' => w σ' F' H' fp (s.trans s') (k.trans k') (g.trans g')
    | brk => exact fun σ' F' H' fp s' k' g' => w σ' F' H' fp (s.trans s') (k.trans k') (g.trans g')
    | cnt => exact fun σ' F' H' fp s' k' g' => w σ' F' H' fp (s.trans s') (k.trans k') (g.trans g')
    | ret o => exact fun v σ' F' H' fp fv s' k' g' => w v σ' F' H' fp fv (s.trans s') (k.trans k') (g.trans g')
/-- what a statement does -/
def EvS (c : Cfg) (B : List Nat) (ts : TS) (f : M Ctl) : Prop := ∀ F H σ env fp fr D, Rel c.K F H σ env fp fr → WS c B F H fr σ D (f env) → ts D σ H
/-- an expression's raise within a statement -/
theorem WS.of_err {c : Cfg} {B : List Nat} {F H : Hp} {fr : Addr → Prop} {σ : St} {D : Ends} {env : Ev} {x : Exn} (w : WS c B F H fr σ D (.err env x)) : ∀ cl d F' H' fp, Sub F F' → Kp fr H H' → Rel c.K F' H' σ env fp fr → RpX c H' x cl d → c.E cl d σ H' :=
  fun cl d F' H' fp s k r q => w cl d σ F' H' fp s k AgB.refl r q

def mNext : M Ctl := fun env => .ok env .nx
def mSeq (f g : M Ctl) : M Ctl := fun env => match f env with
  | .ok e .nx => g e
  | r => r
def mRet (f : M O) : M Ctl := fun env => (f env).bind fun e o => .ok e (.ret o)
def mRetN : M Ctl := fun env => .ok env (.ret .non)
def mIfS (p : M Bool) (f g : M Ctl) : M Ctl := fun env => (p env).bind fun e b => if b then f e else g e
def mDrop (f : M O) : M Ctl := fun env => (f env).bind fun e _ => .ok e .nx
def mBrk : M Ctl := fun env => .ok env .brk
def mCnt : M Ctl := fun env => .ok env .cnt
/-- slots that are not asked any more -/
def delE (ks : List Nat) (env : Ev) : Ev := ks.foldl (fun e k => e.set k none) env
def mKill (ks : List Nat) (f : M Ctl) : M Ctl := fun env => match f env with
  | .ok e .nx => .ok (delE ks e) .nx
  | .ok e .cnt => .ok (delE ks e) .cnt
  | .ok e .brk => .ok (delE ks e) .brk
  | r => r
section
variable {c : Cfg} {B : List Nat} {te ta tb : TE} {f g : M O} {tt : TT} {p : M Bool} {t u : TS} {fs gs : M Ctl}
theorem evs_next : EvS c B tNext mNext := fun F H σ env fp fr D rl w => w σ F H fp (Same.refl _) Kp.refl AgB.refl rl
theorem evs_brk : EvS c B (fun D σ H => D.bk σ H) mBrk := fun F H σ env fp fr D rl w => w σ F H fp (Same.refl _) Kp.refl AgB.refl rl
theorem evs_cnt : EvS c B (fun D σ H => D.ct σ H) mCnt := fun F H σ env fp fr D rl w => w σ F H fp (Same.refl _) Kp.refl AgB.refl rl
theorem evs_seq (h1 : EvS c B t fs) (h2 : EvS c B u gs) : EvS c B (tSeq t u) (mSeq fs gs) := fun F H σ env fp fr D rl w => by
  refine h1 F H σ env fp fr _ rl ?_
  unfold mSeq at w
  cases e1 : fs env with
  | bad => rw [e1] at w; exact w
  | err env1 x => rw [e1] at w; exact w
  | ok env1 a =>
    rw [e1] at w
    cases a with
    | nx =>
      intro σ1 F1 H1 fp1 s1 k1 g1 r1
      exact h2 F1 H1 σ1 env1 fp1 fr D r1 (WS.up s1 k1 g1 w)
    | brk => exact w
    | cnt => exact w
    | ret o => exact w
theorem evs_ret (h : EvO c te f) : EvS c B (tRet te) (mRet f) := fun F H σ env fp fr D rl w => by
  refine h F H σ env fp fr _ rl ?_
  unfold mRet at w
  cases e1 : f env with
  | bad => rw [e1] at w; exact w
  | err env1 x => rw [e1] at w; exact WS.of_err w
  | ok env1 o =>
    rw [e1] at w
    exact fun v F' H' fp' fv s k r q nd d => w v σ F' H' fp' fv s k AgB.refl r q nd d
theorem evs_retN : EvS c B tRetN mRetN := fun F H σ env fp fr D rl w => w .non σ F H fp [] (Same.refl _) Kp.refl AgB.refl rl ⟨rfl, rfl⟩ List.nodup_nil fun _ z => nomatch z
theorem evs_drop (h : EvP c te f) : EvS c B (tDrop te) (mDrop f) := fun F H σ env fp fr D rl w => by
  refine h F H σ env fp fr _ rl ?_
  unfold mDrop at w
  cases e1 : f env with
  | bad => rw [e1] at w; exact w
  | err env1 x => rw [e1] at w; exact WS.of_err w
  | ok env1 o =>
    rw [e1] at w
    exact fun v F' H' fp' fv s k r q => w σ F' H' fp' s k AgB.refl r
theorem evs_if (h0 : EvT c tt p) (h1 : EvS c B t fs) (h2 : EvS c B u gs) : EvS c B (tIfS tt t u) (mIfS p fs gs) := fun F H σ env fp fr D rl w => by
  refine h0 F H σ env fp fr _ rl ?_
  unfold mIfS at w
  cases e1 : p env with
  | bad => rw [e1] at w; exact w
  | err env1 x => rw [e1] at w; exact WS.of_err w
  | ok env1 b =>
    rw [e1] at w
    intro F1 H1 fp1 s1 k1 r1
    simp only [R.bind] at w
    cases b with
    | true => exact h1 F1 H1 σ env1 fp1 fr D r1 (WS.up s1 k1 AgB.refl w)
    | false => exact h2 F1 H1 σ env1 fp1 fr D r1 (WS.up s1 k1 AgB.refl w)
theorem Rel.move' {K : PySem.W.Frag} {F H : Hp} {σ : St} {env : Ev} {fp : Nat → List Addr} {fr : Addr → Prop} (r : Rel K F H σ env fp fr) (i : Nat) : ∃ fp', Rel K F H σ (env.set i none) fp' fr := by
  by_cases h : i < env.length
  · exact ⟨_, r.move h⟩
  · rw [List.set_eq_of_length_le (by omega)]
    exact ⟨fp, r⟩
theorem Rel.del {K : PySem.W.Frag} {F H : Hp} {σ : St} {fr : Addr → Prop} : ∀ (ks : List Nat) {env : Ev} {fp : Nat → List Addr}, Rel K F H σ env fp fr → ∃ fp', Rel K F H σ (delE ks env) fp' fr
  | [], env, fp, r => ⟨fp, r⟩
  | k :: ks, env, fp, r => by
    obtain ⟨fp1, r1⟩ := r.move' k
    exact Rel.del ks r1
theorem evs_kill (ks : List Nat) (h : EvS c B t fs) : EvS c B t (mKill ks fs) := fun F H σ env fp fr D rl w => by
  refine h F H σ env fp fr _ rl ?_
  unfold mKill at w
  cases e1 : fs env with
  | bad => rw [e1] at w; exact w
  | err env1 x => rw [e1] at w; exact w
  | ok env1 a =>
    rw [e1] at w
    cases a with
    | nx => exact fun σ' F' H' fp' s k g r => let ⟨fp2, r2⟩ := r.del ks; w σ' F' H' fp2 s k g r2
    | brk => exact fun σ' F' H' fp' s k g r => let ⟨fp2, r2⟩ := r.del ks; w σ' F' H' fp2 s k g r2
    | cnt => exact fun σ' F' H' fp' s k g r => let ⟨fp2, r2⟩ := r.del ks; w σ' F' H' fp2 s k g r2
    | ret o => exact w

/-! ### targets -/
/-- a target: the value goes where it says -/
def EvG (c : Cfg) (B : List Nat) (g : TG) (h : O → Ev → Option Ev) : Prop := ∀ F H σ env fp fr v o fv (Q : St → Hp → Prop), Rel c.K F H σ env fp fr → Rp c.K F H o v fv → fv.Nodup → (∀ a ∈ fv, ¬ fr a ∧ ∀ i, a ∉ fp i) →
  (match h o env with
    | some env' => ∀ σ' fp', AgB B σ σ' → Rel c.K F H σ' env' fp' fr → Q σ' H
    | none => False) → g v σ H Q
def EvGs (c : Cfg) (B : List Nat) (g : TGs) (h : List O → Ev → Option Ev) : Prop := ∀ F H σ env fp fr vs os fv (Q : St → Hp → Prop), Rel c.K F H σ env fp fr → Rps c.K F H os vs fv → fv.Nodup → (∀ a ∈ fv, ¬ fr a ∧ ∀ i, a ∉ fp i) →
  (match h os env with
    | some env' => ∀ σ' fp', AgB B σ σ' → Rel c.K F H σ' env' fp' fr → Q σ' H
    | none => False) → g vs σ H Q
def hNm (i : Nat) : O → Ev → Option Ev := fun o env => if i < env.length then some (env.set i (some o)) else none
def hNil : List O → Ev → Option Ev
  | [], env => some env
  | _, _ => none
def hCons (h : O → Ev → Option Ev) (hs : List O → Ev → Option Ev) : List O → Ev → Option Ev
  | o :: os, env => (h o env).bind fun e => hs os e
  | _, _ => none
def hTup (hs : List O → Ev → Option Ev) (n : Nat) : O → Ev → Option Ev
  | .tup xs, env => if xs.length = n then hs xs env else none
  | _, _ => none
theorem evg_name {i : Nat} (hi : i ∉ B) : EvG c B (gName i) (hNm i) := fun F H σ env fp fr v o fv Q rl q nd d w => by
  unfold hNm at w
  split at w
  · rename_i env' e
    split at e
    · rename_i hl
      cases e
      exact w _ _ (AgB.set hi) (rl.fill hl q nd fun a ha => ⟨(d a ha).1, fun j _ => (d a ha).2 j⟩)
    · cases e
  · exact w.elim
theorem evgs_nil : EvGs c B gNil hNil := fun F H σ env fp fr vs os fv Q rl q nd d w => by
  cases os with
  | nil => exact ⟨q.1, w σ fp AgB.refl rl⟩
  | cons o os => exact w.elim
/-- what is still to be stored stands by meanwhile -/
theorem evgs_cons {g : TG} {gs : TGs} {h : O → Ev → Option Ev} {hs : List O → Ev → Option Ev} (h1 : EvG c B g h) (h2 : EvGs c B gs hs) : EvGs c B (gCons g gs) (hCons h hs) := fun F H σ env fp fr vs os fv Q rl q nd d w => by
  cases os with
  | nil => exact w.elim
  | cons o os =>
    obtain ⟨v, vs', f1, f2, rfl, q1, q2, rfl⟩ := q
    obtain ⟨n1, n2, n12⟩ := List.nodup_append.mp nd
    simp only [hCons] at w
    have r' : Rel c.K F H σ env fp (fun a => fr a ∨ a ∈ f2) := ⟨rl.len, rl.sub, rl.sl, rl.off, rl.nd, rl.dj, fun a ha => by
      rcases ha with ha | ha
      · exact rl.fr a ha
      · obtain ⟨n, us, hh⟩ := Rps.at os vs' f2 q2 a ha
        exact ⟨⟨_, hh⟩, n, (d a (List.mem_append_right _ ha)).2⟩⟩
    refine ⟨v, vs', rfl, h1 F H σ env fp _ v o f1 _ r' q1 n1 (fun a ha => ⟨fun z => ?_, (d a (List.mem_append_left _ ha)).2⟩) ?_⟩
    · rcases z with z | z
      · exact (d a (List.mem_append_left _ ha)).1 z
      · exact n12 a ha a z rfl
    · cases e : h o env with
      | none => rw [e] at w; exact w.elim
      | some env1 =>
        rw [e] at w
        intro σ1 fp1 g1 r1
        refine h2 F H σ1 env1 fp1 fr vs' os f2 Q (r1.weak fun _ z => .inl z) q2 n2 (fun a ha => ⟨(d a (List.mem_append_right _ ha)).1, (r1.fr a (.inr ha)).2.2⟩) ?_
        simp only [Option.bind] at w
        split at w
        · rename_i env2 e2
          exact fun σ' fp' g' r' => w σ' fp' (g1.trans g') r'
        · exact w.elim
theorem evg_tup {n : Nat} {gs : TGs} {hs : List O → Ev → Option Ev} (h : EvGs c B gs hs) : EvG c B (gTup c.K n gs) (hTup hs n) := fun F H σ env fp fr v o fv Q rl q nd d w => by
  cases o with
  | tup xs =>
    obtain ⟨a, vs, rfl, ha, r⟩ := q
    simp only [hTup] at w
    split at w
    · rename_i env' e
      split at e
      · rename_i hl
        refine ⟨a, vs, rfl, sqT_sub rl.sub ha, by rw [r.len]; exact hl, h F H σ env fp fr vs xs fv Q rl r nd d ?_⟩
        rw [e]; exact w
      · cases e
    · exact w.elim
  | _ => exact w.elim
def mAsg (h : O → Ev → Option Ev) (f : M O) : M Ctl := fun env => (f env).bind fun e o => match h o e with
  | some e' => .ok e' .nx
  | none => .bad
theorem evs_asg {g : TG} {h : O → Ev → Option Ev} (he : EvO c te f) (hg : EvG c B g h) : EvS c B (tAsg te g) (mAsg h f) := fun F H σ env fp fr D rl w => by
  refine he F H σ env fp fr _ rl ?_
  unfold mAsg at w
  cases e1 : f env with
  | bad => rw [e1] at w; exact w
  | err env1 x => rw [e1] at w; exact WS.of_err w
  | ok env1 o =>
    rw [e1] at w
    intro v F1 H1 fp1 fv s1 k1 r1 q1 nd d
    refine hg F1 H1 σ env1 fp1 fr v o fv _ r1 q1 nd d ?_
    simp only [R.bind] at w
    split at w
    · rename_i e' ee
      exact fun σ' fp' g' r' => w σ' F1 H1 fp' s1 k1 g' r'
    · exact w.elim

/-- x op= e at a name -/
def mAug (i : Nat) (op : O → O → Option O) (f : M O) : M Ctl := fun env => match env[i]? with
  | some (some x) => if x.fixed then (f env).bind fun e y => match op x y with
      | some o => if i < e.length then .ok (e.set i (some o)) .nx else .bad
      | none => .bad
    else .bad
  | _ => .bad
theorem evs_aug {i : Nat} {ti : TIp} {op : O → O → Option O} (hi : i ∉ B) (ho : OpF c.K ti op) (h : EvF c te f) : EvS c B (tAug i te ti) (mAug i op f) := fun F H σ env fp fr D rl w => by
  unfold mAug at w
  split at w
  · rename_i x ex
    split at w
    · rename_i hx
      obtain ⟨v, ev, q⟩ := rl.sl i x ex
      have z := Rp.nofp x v _ hx q
      rw [z] at q
      refine ⟨v, ev, h F H σ env fp fr _ rl ?_⟩
      cases e1 : f env with
      | bad => rw [e1] at w; exact w
      | err env1 x => rw [e1] at w; exact WS.of_err w
      | ok env1 y =>
        rw [e1] at w
        intro v1 F1 H1 fp1 s1 k1 r1 q1
        refine ho F1 H1 x y v v1 _ r1.sub (Rp.keep s1 x v [] q fun _ z => nomatch z) q1 ?_
        simp only [R.bind] at w
        split at w
        · rename_i o eo
          rw [eo]
          split at w
          · rename_i hl
            intro v2 F2 H2 fv t1 t2 t3 t4 q2 nd d
            have r2 := r1.new t1 t2 t3 t4
            exact w _ F2 H2 _ (s1.trans t1) (k1.trans (Kp.new r1 t2)) (AgB.set hi) (r2.fill hl q2 nd fun a ha => ⟨(r1.off_new (d a ha)).1, fun j _ => (r1.off_new (d a ha)).2 j⟩)
          · exact w.elim
        · exact w.elim
    · exact w.elim
  · exact w.elim
end
end Ow
set_option Elab.async false
set_option linter.all false
set_option maxRecDepth 100000
set_option maxHeartbeats 4000000
namespace Ow
open PySem L2

/-! ### what is walked -/
/-- the iterator J gives the fixed things of items, while F0 stands -/
def ItS (K : PySem.W.Frag) (J : It) (items : List O) (F0 : Hp) : Prop := ∀ i F H, Sub F0 F → Sub F H →
  (i < items.length → J.go i H ∧ ∀ x H', J.yld i H x H' → ∀ o, items[i]? = some o → ∃ F', Sub F F' ∧ Sub H H' ∧ Sub F' H' ∧ (∀ a, (∃ o, H a = some o) → F a = none → F' a = none) ∧ Rp K F' H' o x []) ∧
  (items.length ≤ i → J.stop i H)
def WI (c : Cfg) (F H : Hp) (fr : Addr → Prop) (σ : St) (Rk : It → Hp → Prop) : R (List O) → Prop
  | .ok env items => ∀ J F' H' fp, Sub F F' → Kp fr H H' → Rel c.K F' H' σ env fp fr → ItS c.K J items F' → Rk J H'
  | .err env x => ∀ cl d F' H' fp, Sub F F' → Kp fr H H' → Rel c.K F' H' σ env fp fr → RpX c H' x cl d → c.E cl d σ H'
  | .bad => False
def EvI (c : Cfg) (wi : TI) (f : M (List O)) : Prop := ∀ F H σ env fp fr Rk, Rel c.K F H σ env fp fr → WI c F H fr σ Rk (f env) → wi σ H Rk
def mItL (f : M O) : M (List O) := fun env => (f env).bind fun e x => match x with
  | .lst _ xs => if fixeds xs then .ok e xs else .bad
  | _ => .bad
def mItT (f : M O) : M (List O) := fun env => (f env).bind fun e x => match x with
  | .tup xs => if fixeds xs then .ok e xs else .bad
  | _ => .bad
def mItS (f : M O) : M (List O) := fun env => (f env).bind fun e x => match x with
  | .str z => .ok e (z.map fun c => .str [c])
  | _ => .bad
def rng (a b : Int) : List Int := (List.range (b - a).toNat).map fun (k : Nat) => a + (k : Int)
def big (i : Int) : Bool := decide (-(2 ^ 61) ≤ i ∧ i ≤ 2 ^ 61)
def mItR1 (g : M (List O)) : M (List O) := fun env => (g env).bind fun e xs => match xs with
  | [.int j] => if big j then .ok e ((rng 0 j).map .int) else .bad
  | _ => .bad
def mItR2 (g : M (List O)) : M (List O) := fun env => (g env).bind fun e xs => match xs with
  | [.int i, .int j] => if big i && big j then .ok e ((rng i j).map .int) else .bad
  | _ => .bad
def enumO (xs : List O) : List O := (List.range xs.length).map fun (k : Nat) => .tup [.int (k : Int), xs.getD k .non]
def mItE (g : M (List O)) : M (List O) := fun env => (g env).bind fun e xs => match xs with
  | [.lst _ ys] => .ok e (enumO ys)
  | _ => .bad
def zipO (xs ys : List O) : List O := (xs.zip ys).map fun p => .tup [p.1, p.2]
def mItZ (g : M (List O)) : M (List O) := fun env => (g env).bind fun e xs => match xs with
  | [.lst _ ys, .lst _ zs] => .ok e (zipO ys zs)
  | _ => .bad
section
variable {c : Cfg} {te ta tb : TE} {f g : M O} {tx : TA} {gs : M (List O)}
theorem same_refl (H : Hp) : Sub H H := Same.refl H
theorem its_keep {K : PySem.W.Frag} {J : It} {items : List O} {F0 F1 : Hp} (h : ItS K J items F0) (s : Sub F0 F1) : ItS K J items F1 := fun i F H h1 h2 => h i F H (s.trans h1) h2
theorem evi_list (h : EvF c te f) : EvI c (iList c.K te) (mItL f) := fun F H σ env fp fr Rk rl w => by
  refine h F H σ env fp fr _ rl ?_
  unfold mItL at w
  cases e1 : f env with
  | bad => rw [e1] at w; exact w.elim
  | err env1 x => rw [e1] at w; exact w
  | ok env1 x =>
    rw [e1] at w
    intro v F1 H1 fp1 s1 k1 r1 q1
    simp only [R.bind] at w
    split at w
    · rename_i w0 xs
      obtain ⟨a, vs, f', rfl, r, q⟩ := q1
      rcases q with ⟨_, ha, e⟩ | ⟨_, _, _, e⟩
      · subst e
        split at w
        · refine ⟨a, rfl, ⟨vs, .inl (.inl (r1.sub _ _ ha))⟩, w _ F1 H1 fp1 s1 k1 r1 fun i F' H' h1 h2 => ?_⟩
          have hH : SqL c.K H' a vs := .inl (.inl (h2 _ _ (h1 _ _ ha)))
          refine ⟨fun hi => ?_, fun hi => ⟨vs, hH, by rw [r.len]; exact hi⟩⟩
          have hi' : i < vs.length := by rw [r.len]; exact hi
          refine ⟨⟨vs, vs[i], hH, by simp [hi']⟩, fun x H2 ⟨e2, y⟩ o eo => ?_⟩
          subst e2
          obtain ⟨v, ev, qv⟩ := r.get0 eo
          have := (y vs hH).symm.trans ev
          cases this
          exact ⟨F', same_refl _, same_refl _, h2, fun _ _ z => z, Rp.keep h1 o _ [] qv fun _ z => nomatch z⟩
        · exact w.elim
      · cases e
    · exact w.elim
theorem evi_tup (h : EvF c te f) : EvI c (iTup c.K te) (mItT f) := fun F H σ env fp fr Rk rl w => by
  refine h F H σ env fp fr _ rl ?_
  unfold mItT at w
  cases e1 : f env with
  | bad => rw [e1] at w; exact w.elim
  | err env1 x => rw [e1] at w; exact w
  | ok env1 x =>
    rw [e1] at w
    intro v F1 H1 fp1 s1 k1 r1 q1
    simp only [R.bind] at w
    split at w
    · rename_i xs
      obtain ⟨a, vs, rfl, ha, r⟩ := q1
      split at w
      · refine ⟨a, rfl, ⟨vs, sqT_sub r1.sub ha⟩, w _ F1 H1 fp1 s1 k1 r1 fun i F' H' h1 h2 => ?_⟩
        have hH : SqT c.K H' a vs := sqT_sub h2 (sqT_sub h1 ha)
        refine ⟨fun hi => ?_, fun hi => ⟨vs, hH, by rw [r.len]; exact hi⟩⟩
        have hi' : i < vs.length := by rw [r.len]; exact hi
        refine ⟨⟨vs, vs[i], hH, by simp [hi']⟩, fun x H2 ⟨e2, y⟩ o eo => ?_⟩
        subst e2
        obtain ⟨v, ev, qv⟩ := r.get0 eo
        have := (y vs hH).symm.trans ev
        cases this
        exact ⟨F', same_refl _, same_refl _, h2, fun _ _ z => z, Rp.keep h1 o _ [] qv fun _ z => nomatch z⟩
      · exact w.elim
    · exact w.elim
theorem evi_str (h : EvP c te f) : EvI c (iStr te) (mItS f) := fun F H σ env fp fr Rk rl w => by
  refine h F H σ env fp fr _ rl ?_
  unfold mItS at w
  cases e1 : f env with
  | bad => rw [e1] at w; exact w.elim
  | err env1 x => rw [e1] at w; exact w
  | ok env1 x =>
    rw [e1] at w
    intro v F1 H1 fp1 fv s1 k1 r1 q1
    simp only [R.bind] at w
    split at w
    · rename_i z
      obtain ⟨rfl, _⟩ := q1
      refine ⟨_, rfl, w _ F1 H1 fp1 s1 k1 r1 fun i F' H' h1 h2 => ?_⟩
      refine ⟨fun hi => ?_, fun hi => ?_⟩
      · simp only [List.length_map] at hi
        refine ⟨by show i < z.toArray.size; simpa using hi, fun x H2 ⟨e2, cc, ec, ex⟩ o eo => ?_⟩
        subst e2
        subst ex
        simp at eo ec
        obtain ⟨c', ec', rfl⟩ := eo
        rw [ec] at ec'
        cases ec'
        exact ⟨F', same_refl _, same_refl _, h2, fun _ _ z => z, rfl, rfl⟩
      · simp only [List.length_map] at hi
        show z.toArray.size ≤ i
        simpa using hi
    · exact w.elim
theorem rng_len (a b : Int) : (rng a b).length = (b - a).toNat := by simp [rng]
theorem rng_get {a b : Int} {i : Nat} (h : i < (b - a).toNat) : (rng a b)[i]? = some (a + (i : Int)) := by
  unfold rng
  rw [List.getElem?_map, List.getElem?_range h]; rfl
theorem its_rng {K : PySem.W.Frag} {a b : Int} {F0 : Hp} : ItS K (Itr a (b - a).toNat) ((rng a b).map .int) F0 := fun i F H h1 h2 => by
  refine ⟨fun hi => ?_, fun hi => ?_⟩
  · rw [List.length_map, rng_len] at hi
    refine ⟨hi, fun x H2 ⟨e2, ex⟩ o eo => ?_⟩
    subst e2
    subst ex
    rw [List.getElem?_map, rng_get hi] at eo
    cases eo
    exact ⟨F, same_refl _, same_refl _, h2, fun _ _ z => z, rfl, rfl⟩
  · rw [List.length_map, rng_len] at hi
    exact hi
theorem big_ok {i : Int} (h : big i = true) : -(2 ^ 62) ≤ i ∧ i < 2 ^ 62 := by
  simp only [big, decide_eq_true_eq] at h
  omega
theorem evi_rng1 (h : EvAF c tx gs) : EvI c (iRng1 tx) (mItR1 gs) := fun F H σ env fp fr Rk rl w => by
  refine h F H σ env fp fr _ rl ?_
  unfold mItR1 at w
  cases e1 : gs env with
  | bad => rw [e1] at w; exact w.elim
  | err env1 x => rw [e1] at w; exact w
  | ok env1 xs =>
    rw [e1] at w
    intro vs F1 H1 fp1 s1 k1 r1 q1
    simp only [R.bind] at w
    split at w
    · rename_i j
      obtain ⟨v, vs', f1, f2, rfl, ⟨rfl, _⟩, ⟨rfl, _⟩, _⟩ := q1
      split at w
      · rename_i hb
        have e0 : j.toNat = (j - 0).toNat := by simp
        refine ⟨j, rfl, (big_ok hb).1, (big_ok hb).2, w _ F1 H1 fp1 s1 k1 r1 ?_⟩
        rw [e0]; exact its_rng
      · exact w.elim
    · exact w.elim
theorem evi_rng2 (h : EvAF c tx gs) : EvI c (iRng2 tx) (mItR2 gs) := fun F H σ env fp fr Rk rl w => by
  refine h F H σ env fp fr _ rl ?_
  unfold mItR2 at w
  cases e1 : gs env with
  | bad => rw [e1] at w; exact w.elim
  | err env1 x => rw [e1] at w; exact w
  | ok env1 xs =>
    rw [e1] at w
    intro vs F1 H1 fp1 s1 k1 r1 q1
    simp only [R.bind] at w
    split at w
    · rename_i i j
      obtain ⟨v, vs', f1, f2, rfl, ⟨rfl, _⟩, ⟨v2, vs2, f3, f4, rfl, ⟨rfl, _⟩, ⟨rfl, _⟩, _⟩, _⟩ := q1
      split at w
      · rename_i hb
        rw [Bool.and_eq_true] at hb
        exact ⟨i, j, rfl, ⟨(big_ok hb.1).1, (big_ok hb.1).2, (big_ok hb.2).1, (big_ok hb.2).2⟩, w _ F1 H1 fp1 s1 k1 r1 its_rng⟩
      · exact w.elim
    · exact w.elim
theorem pair_new {K : PySem.W.Frag} {F H : Hp} {T : Addr} {x y : V} {ox oy : O} (h2 : Sub F H) (nT : H T = none) (qx : Rp K F H ox x []) (qy : Rp K F H oy y []) :
    ∃ F', Sub F F' ∧ Sub H (upd H T (.tup [x, y])) ∧ Sub F' (upd H T (.tup [x, y])) ∧ (∀ a, (∃ o, H a = some o) → F a = none → F' a = none) ∧ Rp K F' (upd H T (.tup [x, y])) (.tup [ox, oy]) (.ref T) [] := by
  have nF := sub_none h2 nT
  refine ⟨upd F T (.tup [x, y]), sub_new nF, sub_new nT, sub_upd2 h2, fun a ⟨o, ha⟩ n => by rw [upd_ne (ne_of_none ha nT)]; exact n, T, [x, y], rfl, .inl (.inl upd_same), ?_⟩
  exact Rps.cons0.mpr ⟨Rp.keep (sub_new nF) ox x [] qx (fun _ z => nomatch z), Rps.cons0.mpr ⟨Rp.keep (sub_new nF) oy y [] qy (fun _ z => nomatch z), rfl, rfl⟩⟩
theorem evi_enum (h : EvAF c tx gs) : EvI c (iEnum c.K tx) (mItE gs) := fun F H σ env fp fr Rk rl w => by
  refine h F H σ env fp fr _ rl ?_
  unfold mItE at w
  cases e1 : gs env with
  | bad => rw [e1] at w; exact w.elim
  | err env1 x => rw [e1] at w; exact w
  | ok env1 xs =>
    rw [e1] at w
    intro vs F1 H1 fp1 s1 k1 r1 q1
    simp only [R.bind] at w
    split at w
    · rename_i w0 ys
      obtain ⟨v, vs', f1, f2, rfl, qv, ⟨rfl, _⟩, ef⟩ := q1
      obtain ⟨rfl, _⟩ := List.append_eq_nil_iff.mp ef.symm
      obtain ⟨a, us, f', rfl, r, q⟩ := qv
      rcases q with ⟨_, ha, e⟩ | ⟨_, _, _, e⟩
      · subst e
        refine ⟨a, us, rfl, .inl (.inl (r1.sub _ _ ha)), w _ F1 H1 fp1 s1 k1 r1 fun i F' H' h1 h2 => ?_⟩
        have hH : SqL c.K H' a us := .inl (.inl (h2 _ _ (h1 _ _ ha)))
        refine ⟨fun hi => ?_, fun hi => ⟨us, hH, by rw [r.len]; simpa [enumO] using hi⟩⟩
        have hi0 : i < ys.length := by simpa [enumO] using hi
        have hi' : i < us.length := by rw [r.len]; exact hi0
        refine ⟨⟨us, us[i], hH, by simp [hi']⟩, fun x H2 ⟨T, y, e1, nT, e2, yy⟩ o eo => ?_⟩
        subst e1 e2
        have eo' : o = .tup [.int (i : Int), ys[i]] := by
          unfold enumO at eo
          rw [List.getElem?_map, List.getElem?_range hi0] at eo
          simp at eo
          rw [← eo]; simp [hi0]
        subst eo'
        obtain ⟨v, ev, qv⟩ := r.get0 (List.getElem?_eq_getElem hi0)
        have := (yy us hH).symm.trans ev
        cases this
        exact pair_new h2 nT ⟨rfl, rfl⟩ (Rp.keep h1 _ _ [] qv fun _ z => nomatch z)
      · cases e
    · exact w.elim
theorem evi_zip (h : EvAF c tx gs) : EvI c (iZip c.K tx) (mItZ gs) := fun F H σ env fp fr Rk rl w => by
  refine h F H σ env fp fr _ rl ?_
  unfold mItZ at w
  cases e1 : gs env with
  | bad => rw [e1] at w; exact w.elim
  | err env1 x => rw [e1] at w; exact w
  | ok env1 xs =>
    rw [e1] at w
    intro vs F1 H1 fp1 s1 k1 r1 q1
    simp only [R.bind] at w
    split at w
    · rename_i w0 ys w1 zs
      obtain ⟨v, vs', f1, f2, rfl, qv, ⟨v2, vs2, f3, f4, rfl, qv2, ⟨rfl, _⟩, ef2⟩, ef⟩ := q1
      obtain ⟨rfl, e0⟩ := List.append_eq_nil_iff.mp ef.symm
      subst e0
      obtain ⟨rfl, _⟩ := List.append_eq_nil_iff.mp ef2.symm
      obtain ⟨a, us, f', rfl, r, q⟩ := qv
      obtain ⟨b, ts, g', rfl, r', q'⟩ := qv2
      rcases q with ⟨_, ha, e⟩ | ⟨_, _, _, e⟩
      · subst e
        rcases q' with ⟨_, hb, e⟩ | ⟨_, _, _, e⟩
        · subst e
          refine ⟨a, b, us, ts, rfl, .inl (.inl (r1.sub _ _ ha)), .inl (.inl (r1.sub _ _ hb)), w _ F1 H1 fp1 s1 k1 r1 fun i F' H' h1 h2 => ?_⟩
          have hH : SqL c.K H' a us := .inl (.inl (h2 _ _ (h1 _ _ ha)))
          have hB : SqL c.K H' b ts := .inl (.inl (h2 _ _ (h1 _ _ hb)))
          have ll : (zipO ys zs).length = min ys.length zs.length := by simp [zipO]
          refine ⟨fun hi => ?_, fun hi => ⟨us, ts, hH, hB, by rw [r.len, r'.len]; rw [ll] at hi; omega⟩⟩
          rw [ll] at hi
          have h3 : i < ys.length := by omega
          have h4 : i < zs.length := by omega
          have h3' : i < us.length := by rw [r.len]; exact h3
          have h4' : i < ts.length := by rw [r'.len]; exact h4
          refine ⟨⟨us, ts, us[i], ts[i], hH, hB, by simp [h3'], by simp [h4']⟩, fun x H2 ⟨T, y1, y2, e1, nT, e2, yy, zz⟩ o eo => ?_⟩
          subst e1 e2
          have eo' : o = .tup [ys[i], zs[i]] := by
            have : (ys.zip zs)[i]? = some (ys[i], zs[i]) := by
              rw [List.getElem?_zip_eq_some]; exact ⟨List.getElem?_eq_getElem h3, List.getElem?_eq_getElem h4⟩
            unfold zipO at eo
            rw [List.getElem?_map, this] at eo
            cases eo; rfl
          subst eo'
          obtain ⟨v1, ev1, qv1⟩ := r.get0 (List.getElem?_eq_getElem h3)
          obtain ⟨v2, ev2, qv2⟩ := r'.get0 (List.getElem?_eq_getElem h4)
          have t1 := (yy us hH).symm.trans ev1
          have t2 := (zz ts hB).symm.trans ev2
          cases t1
          cases t2
          exact pair_new h2 nT (Rp.keep h1 _ _ [] qv1 fun _ z => nomatch z) (Rp.keep h1 _ _ [] qv2 fun _ z => nomatch z)
        · cases e
      · cases e
    · exact w.elim

/-! ### loops -/
def loopF (h : O → Ev → Option Ev) (body : M Ctl) : List O → M Ctl
  | [], env => .ok env .nx
  | o :: r, env => match h o env with
    | none => .bad
    | some env1 => match body env1 with
      | .ok e .nx => loopF h body r e
      | .ok e .cnt => loopF h body r e
      | .ok e .brk => .ok e .nx
      | .ok e (.ret v) => .ok e (.ret v)
      | .err e x => .err e x
      | .bad => .bad
def mFor (it : M (List O)) (h : O → Ev → Option Ev) (body : M Ctl) : M Ctl := fun env => (it env).bind fun e items => loopF h body items e
variable {B : List Nat} {wi : TI} {it : M (List O)} {tg : TG} {h : O → Ev → Option Ev} {ts : TS} {body : M Ctl}
theorem evs_for (hi : EvI c wi it) (hg : EvG c B tg h) (hb : EvS c B ts body) : EvS c B (tFor wi tg ts) (mFor it h body) := fun F H σ env fp fr D rl w => by
  refine hi F H σ env fp fr _ rl ?_
  unfold mFor at w
  cases e1 : it env with
  | bad => rw [e1] at w; exact w
  | err env1 x => rw [e1] at w; exact WS.of_err w
  | ok env1 items =>
    rw [e1] at w
    simp only [R.bind] at w
    intro J F1 H1 fp1 s1 k1 r1 hJ
    refine ⟨fun i m σ' H' => m = items.length - i ∧ i ≤ items.length ∧ ∃ F' env' fp', Sub F1 F' ∧ Kp fr H1 H' ∧ AgB B σ σ' ∧ Rel c.K F' H' σ' env' fp' fr ∧ WS c B F' H' fr σ' D (loopF h body (items.drop i) env'),
      ⟨items.length, by simp, Nat.zero_le _, F1, env1, fp1, same_refl _, Kp.refl, AgB.refl, r1, WS.up s1 k1 AgB.refl w⟩, ?_⟩
    rintro i m σ' H' ⟨rfl, him, F', env', fp', s', k', g', r', w'⟩
    obtain ⟨hgo, hstop⟩ := hJ i F' H' s' r'.sub
    by_cases hlt : i < items.length
    · refine .inr ⟨(hgo hlt).1, fun σ2 H2 => ∃ m', m' < items.length - i ∧ m' = items.length - (i + 1) ∧ i + 1 ≤ items.length ∧ ∃ F' env' fp', Sub F1 F' ∧ Kp fr H1 H2 ∧ AgB B σ σ2 ∧ Rel c.K F' H2 σ2 env' fp' fr ∧ WS c B F' H2 fr σ2 D (loopF h body (items.drop (i + 1)) env'),
        fun σ2 H2 ⟨m', l, e, l2, z⟩ => ⟨m', l, e, l2, z⟩, fun x H2 hy => ?_⟩
      obtain ⟨F2, t1, t2, t3, t4, q⟩ := (hgo hlt).2 x H2 hy items[i] (List.getElem?_eq_getElem hlt)
      have r2 := r'.new t1 t2 t3 t4
      have k2 : Kp fr H' H2 := Kp.new r' t2
      rw [List.drop_eq_getElem_cons hlt] at w'
      refine hg F2 H2 σ' env' fp' fr x items[i] [] _ r2 q List.nodup_nil (fun _ z => nomatch z) ?_
      unfold loopF at w'
      cases eh : h items[i] env' with
      | none => rw [eh] at w'; exact w'.elim
      | some env2 =>
        rw [eh] at w'
        intro σ3 fp3 g3 r3
        refine hb F2 H2 σ3 env2 fp3 fr _ r3 ?_
        simp only at w'
        have w2 := WS.up t1 k2 g3 w'
        cases eb : body env2 with
        | bad => rw [eb] at w2; exact w2
        | err e x => rw [eb] at w2; exact w2
        | ok e a =>
          rw [eb] at w2
          cases a with
          | nx => exact fun σ4 F4 H4 fp4 s4 k4 g4 r4 => ⟨_, by omega, rfl, hlt, F4, e, fp4, (s'.trans t1).trans s4, (k'.trans k2).trans k4, (g'.trans g3).trans g4, r4, WS.up s4 k4 g4 w2⟩
          | cnt => exact fun σ4 F4 H4 fp4 s4 k4 g4 r4 => ⟨_, by omega, rfl, hlt, F4, e, fp4, (s'.trans t1).trans s4, (k'.trans k2).trans k4, (g'.trans g3).trans g4, r4, WS.up s4 k4 g4 w2⟩
          | brk => exact w2
          | ret o => exact w2
    · refine .inl ⟨hstop (by omega), ?_⟩
      rw [List.drop_of_length_le (by omega)] at w'
      exact w' σ' F' H' fp' (same_refl _) Kp.refl AgB.refl r'

def loopW (p : M Bool) (body : M Ctl) : Nat → M Ctl
  | 0, env => .bad
  | n + 1, env => (p env).bind fun e b => if b then (match body e with
      | .ok e .nx => loopW p body n e
      | .ok e .cnt => loopW p body n e
      | .ok e .brk => .ok e .nx
      | .ok e (.ret v) => .ok e (.ret v)
      | .err e x => .err e x
      | .bad => .bad) else .ok e .nx
theorem evs_while {tt : TT} {p : M Bool} (n : Nat) (ht : EvT c tt p) (hb : EvS c B ts body) : EvS c B (tWhile tt ts) (loopW p body n) := fun F H σ env fp fr D rl w => by
  refine ⟨fun m σ' H' => ∃ F' env' fp', Sub F F' ∧ Kp fr H H' ∧ AgB B σ σ' ∧ Rel c.K F' H' σ' env' fp' fr ∧ WS c B F' H' fr σ' D (loopW p body m env'), ⟨n, F, env, fp, same_refl _, Kp.refl, AgB.refl, rl, w⟩, ?_⟩
  rintro m σ' H' ⟨F', env', fp', s', k', g', r', w'⟩
  cases m with
  | zero => exact w'.elim
  | succ m =>
    refine ht F' H' σ' env' fp' fr _ r' ?_
    unfold loopW at w'
    cases e1 : p env' with
    | bad => rw [e1] at w'; exact w'
    | err env1 x => rw [e1] at w'; exact WS.of_err w'
    | ok env1 b =>
      rw [e1] at w'
      simp only [R.bind] at w'
      intro F1 H1 fp1 s1 k1 r1
      cases b with
      | false => exact w' σ' F1 H1 fp1 s1 k1 AgB.refl r1
      | true =>
        simp only [if_true] at w' ⊢
        refine ⟨fun σ2 H2 => ∃ m', m' < m + 1 ∧ ∃ F' env' fp', Sub F F' ∧ Kp fr H H2 ∧ AgB B σ σ2 ∧ Rel c.K F' H2 σ2 env' fp' fr ∧ WS c B F' H2 fr σ2 D (loopW p body m' env'), fun σ2 H2 z => z, ?_⟩
        refine hb F1 H1 σ' env1 fp1 fr _ r1 ?_
        have w2 := WS.up s1 k1 AgB.refl w'
        cases eb : body env1 with
        | bad => rw [eb] at w2; exact w2
        | err e x => rw [eb] at w2; exact w2
        | ok e a =>
          rw [eb] at w2
          cases a with
          | nx => exact fun σ4 F4 H4 fp4 s4 k4 g4 r4 => ⟨m, by omega, F4, e, fp4, (s'.trans s1).trans s4, (k'.trans k1).trans k4, g'.trans g4, r4, WS.up s4 k4 g4 w2⟩
          | cnt => exact fun σ4 F4 H4 fp4 s4 k4 g4 r4 => ⟨m, by omega, F4, e, fp4, (s'.trans s1).trans s4, (k'.trans k1).trans k4, g'.trans g4, r4, WS.up s4 k4 g4 w2⟩
          | brk => exact w2
          | ret o => exact w2

/-! ### list comprehensions -/
def loopC (h : O → Ev → Option Ev) (p : M Bool) (f : M O) (ks : List Nat) : List O → List O → M O
  | [], acc, env => .ok env (.lst true acc)
  | o :: r, acc, env => match h o env with
    | none => .bad
    | some env1 => match p env1 with
      | .ok e true => (match f e with
        | .ok e y => if acc.length < lim then loopC h p f ks r (acc ++ [y]) (delE ks e) else .bad
        | _ => .bad)
      | .ok e false => loopC h p f ks r acc (delE ks e)
      | _ => .bad
def mLc (it : M (List O)) (h : O → Ev → Option Ev) (p : M Bool) (f : M O) (ks : List Nat) : M O := fun env => (it env).bind fun e items => loopC h p f ks items [] (delE ks e)
def mYes : M Bool := fun env => .ok env true
def Cfg.no (c : Cfg) : Cfg := { c with E := fun _ _ _ _ => False }
theorem evt_yes : EvT c tYes mYes := fun F H σ env fp fr Q rl w => w F H fp (same_refl _) Kp.refl rl
theorem delE_len : ∀ (ks : List Nat) (env : Ev), (delE ks env).length = env.length
  | [], env => rfl
  | k :: ks, env => by
    show (delE ks (env.set k none)).length = _
    rw [delE_len ks]; simp
theorem delE_out : ∀ (ks : List Nat) (env : Ev) (i : Nat), i ∉ ks → (delE ks env)[i]? = env[i]?
  | [], env, i, _ => rfl
  | k :: ks, env, i, h => by
    show (delE ks (env.set k none))[i]? = _
    rw [delE_out ks _ i fun z => h (List.mem_cons_of_mem _ z), List.getElem?_set_ne]
    rintro rfl; exact h List.mem_cons_self
theorem delE_in : ∀ (ks : List Nat) (env : Ev) (i : Nat), i ∈ ks → ∀ o, (delE ks env)[i]? ≠ some (some o)
  | k :: ks, env, i, h, o => by
    by_cases hk : i ∈ ks
    · exact delE_in ks _ i hk o
    · rcases List.mem_cons.mp h with rfl | z
      · show (delE ks (env.set i none))[i]? ≠ _
        rw [delE_out ks _ i hk, List.getElem?_set]
        split
        · split
          · simp
          · simp
        · rename_i n; exact absurd rfl n
      · exact absurd z hk
theorem wipe_out : ∀ (ks : List Nat) (σ : St) (i : Nat), i ∉ ks → (wipe σ ks)[i]? = σ[i]?
  | [], σ, i, _ => rfl
  | k :: ks, σ, i, h => by
    show ((wipe σ ks).set k none)[i]? = _
    rw [List.getElem?_set_ne, wipe_out ks σ i fun z => h (List.mem_cons_of_mem _ z)]
    rintro rfl; exact h List.mem_cons_self
/-- the slots ks are of no matter where they hold nothing -/
theorem Rel.slots {K : PySem.W.Frag} {F H : Hp} {σ σ' : St} {env : Ev} {fp : Nat → List Addr} {fr : Addr → Prop} (r : Rel K F H σ env fp fr) (hl : σ'.length = σ.length) (ks : List Nat) (h1 : ∀ i ∈ ks, ∀ o, env[i]? ≠ some (some o)) (h2 : ∀ i, i ∉ ks → σ'[i]? = σ[i]?) : Rel K F H σ' env fp fr where
  len := hl.trans r.len
  sub := r.sub
  sl := fun i o e => by
    have hi : i ∉ ks := fun z => h1 i z o e
    obtain ⟨v, e1, q⟩ := r.sl i o e
    exact ⟨v, by rw [h2 i hi]; exact e1, q⟩
  off := r.off
  nd := r.nd
  dj := r.dj
  fr := r.fr
theorem wipe_len (σ : St) (ks : List Nat) : (wipe σ ks).length = σ.length := wipe_length σ ks
theorem wipe_in : ∀ (ks : List Nat) (σ : St) (i : Nat), i ∈ ks → (wipe σ ks)[i]? = if i < σ.length then some none else none
  | k :: ks, σ, i, h => by
    show ((wipe σ ks).set k none)[i]? = _
    rw [List.getElem?_set]
    by_cases e : k = i
    · subst e
      rw [if_pos rfl, wipe_len]
    · rw [if_neg e]
      rcases List.mem_cons.mp h with rfl | h
      · exact absurd rfl e
      · exact wipe_in ks σ i h
theorem wipe_eq {ks : List Nat} {σ σ' : St} (hl : σ'.length = σ.length) (h : ∀ i, i ∉ ks → σ'[i]? = σ[i]?) : wipe σ' ks = wipe σ ks := by
  apply List.ext_getElem?
  intro i
  by_cases e : i ∈ ks
  · rw [wipe_in ks σ' i e, wipe_in ks σ i e, hl]
  · rw [wipe_out ks σ' i e, wipe_out ks σ i e, h i e]
theorem Rel.wr {K : PySem.W.Frag} {F H : Hp} {σ : St} {env : Ev} {fp : Nat → List Addr} {fr : Addr → Prop} (r : Rel K F H σ env fp fr) {D : Addr} {o : HO} (h1 : F D = none) (h2 : ∀ i, D ∉ fp i) : Rel K F (upd H D o) σ env fp fr where
  len := r.len
  sub := sub_upd r.sub h1
  sl := fun i o' e => by
    obtain ⟨v, e1, q⟩ := r.sl i o' e
    refine ⟨v, e1, Rp.keep (same_refl _) o' v _ q fun a ha => ⟨upd_ne fun z => h2 i (z ▸ ha), (Rp.at o' v _ q a ha).1⟩⟩
  off := r.off
  nd := r.nd
  dj := r.dj
  fr := fun a ha => by
    obtain ⟨⟨x, hx⟩, y, z⟩ := r.fr a ha
    refine ⟨?_, y, z⟩
    by_cases e : a = D
    · subst e; exact ⟨o, upd_same⟩
    · exact ⟨x, by rw [upd_ne e]; exact hx⟩
theorem AgB_off {ks : List Nat} {σ σ' : St} (hl : σ'.length = σ.length) (g : AgB ((List.range σ.length).filter fun i => decide (i ∉ ks)) σ σ') : ∀ i, i ∉ ks → σ'[i]? = σ[i]? := fun i hi => by
  by_cases e : i < σ.length
  · exact g.2 i (List.mem_filter.mpr ⟨List.mem_range.mpr e, decide_eq_true hi⟩)
  · rw [List.getElem?_eq_none (by omega), List.getElem?_eq_none (by omega)]
theorem ev_lc {ks : List Nat} {tt : TT} {p : M Bool} (hi : EvI c wi it) (hg : ∀ B, (∀ k ∈ ks, k ∉ B) → EvG c.no B tg h) (hp : EvT c.no tt p) (hf : EvF c.no te f) : EvO c (tLc wi tg tt te ks) (mLc it h p f ks) := fun F H σ env fp fr Q rl w => by
  refine hi F H σ env fp fr _ rl ?_
  unfold mLc at w
  cases e1 : it env with
  | bad => rw [e1] at w; exact w
  | err env1 x => rw [e1] at w; exact w
  | ok env1 items =>
    rw [e1] at w
    simp only [R.bind] at w
    intro J F1 H1 fp1 s1 k1 r1 hJ D hD
    have w1 := WE.up s1 k1 w
    obtain ⟨fp2, r2⟩ := r1.del ks
    have hF1 : F1 D = none := sub_none r1.sub hD
    have nfr : ¬ fr D := fun z => by
      obtain ⟨⟨o, x⟩, _⟩ := r1.fr D z
      rw [hD] at x; cases x
    have hr0 : Rel c.K F1 (upd H1 D (.lst [])) (wipe σ ks) (delE ks env1) fp2 (fun a => fr a ∨ a = D) := by
      have a1 := r2.new (same_refl _) (sub_new (o := .lst []) hD) (sub_upd r2.sub hF1) fun _ _ z => z
      have a2 := a1.slots (σ' := wipe σ ks) (wipe_len σ ks) ks (fun i hi => delE_in ks env1 i hi) (fun i hi => wipe_out ks σ i hi)
      refine ⟨a2.len, a2.sub, a2.sl, a2.off, a2.nd, a2.dj, fun a ha => ?_⟩
      rcases ha with ha | rfl
      · exact a2.fr a ha
      · exact ⟨⟨_, upd_same⟩, hF1, (r2.off_new hD).2⟩
    refine ⟨fun i m H' => m = items.length - i ∧ i ≤ items.length ∧ ∃ F' env' fp' acc accV, Sub F1 F' ∧ Kp fr H1 H' ∧ Rel c.K F' H' (wipe σ ks) env' fp' (fun a => fr a ∨ a = D) ∧ H' D = some (.lst accV) ∧ Rps c.K F' H' acc accV [] ∧
        (∀ i ∈ ks, ∀ o, env'[i]? ≠ some (some o)) ∧ WE c F1 H1 fr σ Q (loopC h p f ks (items.drop i) acc env'),
      ⟨items.length, by simp, Nat.zero_le _, F1, delE ks env1, fp2, [], [], same_refl _, Kp.new r1 (sub_new hD), hr0, upd_same, ⟨rfl, rfl⟩, fun i hi => delE_in ks env1 i hi, w1⟩, ?_⟩
    rintro i m H' ⟨rfl, him, F', env', fp', acc, accV, s', k', r', hDv, hacc, hks, w'⟩
    obtain ⟨hgo, hstop⟩ := hJ i F' H' s' r'.sub
    have hFD : F' D = none := (r'.fr D (.inr rfl)).2.1
    by_cases hlt : i < items.length
    · refine .inr ⟨(hgo hlt).1, fun H2 => ∃ m', m' < items.length - i ∧ m' = items.length - (i + 1) ∧ i + 1 ≤ items.length ∧ ∃ F' env' fp' acc accV, Sub F1 F' ∧ Kp fr H1 H2 ∧ Rel c.K F' H2 (wipe σ ks) env' fp' (fun a => fr a ∨ a = D) ∧ H2 D = some (.lst accV) ∧ Rps c.K F' H2 acc accV [] ∧
        (∀ i ∈ ks, ∀ o, env'[i]? ≠ some (some o)) ∧ WE c F1 H1 fr σ Q (loopC h p f ks (items.drop (i + 1)) acc env'), fun H2 ⟨m', l, e, l2, z⟩ => ⟨m', l, e, l2, z⟩, fun x H2 hy => ?_⟩
      obtain ⟨F2, t1, t2, t3, t4, q⟩ := (hgo hlt).2 x H2 hy items[i] (List.getElem?_eq_getElem hlt)
      have r2 := r'.new t1 t2 t3 t4
      have k2 : Kp (fun a => fr a ∨ a = D) H' H2 := Kp.new r' t2
      rw [List.drop_eq_getElem_cons hlt] at w'
      refine hg ((List.range (wipe σ ks).length).filter fun i => decide (i ∉ ks)) (fun k hk z => of_decide_eq_true (List.mem_filter.mp z).2 hk) F2 H2 (wipe σ ks) env' fp' _ x items[i] [] _ r2 q List.nodup_nil (fun _ z => nomatch z) ?_
      unfold loopC at w'
      cases eh : h items[i] env' with
      | none => rw [eh] at w'; exact w'.elim
      | some env2 =>
        rw [eh] at w'
        intro σ3 fp3 g3 r3
        have hl3 : σ3.length = (wipe σ ks).length := g3.1
        have off3 := AgB_off hl3 g3
        refine ⟨?_, ?_⟩
        · rw [wipe_eq hl3 off3, wipe_eq (wipe_len σ ks) fun i hi => wipe_out ks σ i hi]
        refine hp F2 H2 σ3 env2 fp3 _ _ r3 ?_
        simp only at w'
        cases ep : p env2 with
        | bad => rw [ep] at w'; exact w'.elim
        | err e x => rw [ep] at w'; exact w'.elim
        | ok env3 b =>
          rw [ep] at w'
          intro F3 H3 fp3' s3 k3 r3'
          cases b with
          | false =>
            simp only at w'
            obtain ⟨fp4, r4⟩ := r3'.del ks
            have r5 := r4.slots (σ' := wipe σ ks) hl3.symm ks (fun i hi => delE_in ks env3 i hi) (fun i hi => (off3 i hi).symm)
            exact ⟨_, by omega, rfl, hlt, F3, delE ks env3, fp4, acc, accV, (s'.trans t1).trans s3, (k'.trans (k2.of fun _ z => .inl z)).trans (k3.of fun _ z => .inl z), r5, by rw [k3 D (.inr rfl), k2 D (.inr rfl)]; exact hDv, Rps.keep (t1.trans s3) acc accV [] hacc (fun _ z => nomatch z), fun i hi => delE_in ks env3 i hi, w'⟩
          | true =>
            simp only [if_true]
            simp only at w'
            refine hf F3 H3 σ3 env3 fp3' _ _ r3' ?_
            cases ef : f env3 with
            | bad => rw [ef] at w'; exact w'.elim
            | err e x => rw [ef] at w'; exact w'.elim
            | ok env4 y =>
              rw [ef] at w'
              intro v F4 H4 fp4 s4 k4 r4 q4
              simp only at w'
              split at w'
              · rename_i hz
                have hD4 : H4 D = some (.lst accV) := by rw [k4 D (.inr rfl), k3 D (.inr rfl), k2 D (.inr rfl)]; exact hDv
                refine ⟨accV, hD4, by rw [hacc.len]; exact Nat.lt_trans hz (by decide), ?_⟩
                have z4 := r4.fr D (.inr rfl)
                have r5 := r4.wr (o := .lst (accV ++ [v])) z4.2.1 z4.2.2
                obtain ⟨fp5, r6⟩ := r5.del ks
                have r7 := r6.slots (σ' := wipe σ ks) hl3.symm ks (fun i hi => delE_in ks env4 i hi) (fun i hi => (off3 i hi).symm)
                have q5 : Rps c.K F4 (upd H4 D (.lst (accV ++ [v]))) (acc ++ [y]) (accV ++ [v]) [] := by
                  have a1 : Rps c.K F4 (upd H4 D (.lst (accV ++ [v]))) acc accV [] := Rps.keep ((t1.trans s3).trans s4) acc accV [] hacc (fun _ z => nomatch z)
                  have a2 : Rps c.K F4 (upd H4 D (.lst (accV ++ [v]))) [y] [v] [] := Rps.cons0.mpr ⟨Rp.keep (same_refl _) y v [] q4 (fun _ z => nomatch z), rfl, rfl⟩
                  simpa using Rps.app a1 a2
                have kk : Kp fr H1 (upd H4 D (.lst (accV ++ [v]))) := fun a ha => by
                  rw [upd_ne fun z => nfr (by rw [← z]; exact ha)]
                  exact (((k'.trans (k2.of fun _ z => .inl z)).trans (k3.of fun _ z => .inl z)).trans (k4.of fun _ z => .inl z)) a ha
                exact ⟨_, by omega, rfl, hlt, F4, delE ks env4, fp5, acc ++ [y], accV ++ [v], ((s'.trans t1).trans s3).trans s4, kk, r7, upd_same, q5, fun i hi => delE_in ks env4 i hi, w'⟩
              · exact w'.elim
    · refine .inl ⟨hstop (by omega), ?_⟩
      rw [List.drop_of_length_le (by omega)] at w'
      have r3 := (r'.weak (fr' := fr) fun _ z => .inl z).slots (σ' := σ) (wipe_len σ ks).symm ks hks fun i hi => (wipe_out ks σ i hi).symm
      refine w' (.ref D) F' H' fp' [D] s' k' r3 ⟨D, accV, [], rfl, hacc, .inr ⟨rfl, hDv, hFD, rfl⟩⟩ (by simp) fun a ha => ?_
      simp at ha
      subst ha
      exact ⟨nfr, (r'.fr a (.inr rfl)).2.2⟩
end
end Ow
set_option Elab.async false
set_option linter.all false
set_option maxRecDepth 100000
set_option maxHeartbeats 4000000
namespace Ow
open PySem L2 PySem.Spec PyProof.Rows

/-! ### defs -/
inductive FR where
  | ret (o : O) (bs : List O)
  | exc (x : Exn) (bs : List O)
  | bad
def getAll (e : Ev) : List Nat → Option (List O)
  | [] => some []
  | i :: r => match e[i]? with
    | some (some o) => (getAll e r).map (o :: ·)
    | _ => none
/-- a def's body, n slots, its own parameters bm are handed back -/
def fnM (n : Nat) (bm : List Nat) (body : M Ctl) (os : List O) : FR :=
  match body (os.map some ++ List.replicate (n - os.length) none) with
  | .ok e .nx => (match getAll e bm with
    | some bs => .ret .non bs
    | none => .bad)
  | .ok e (.ret o) => (match getAll e bm with
    | some bs => .ret o bs
    | none => .bad)
  | .err e x => (match getAll e bm with
    | some bs => .exc x bs
    | none => .bad)
  | _ => .bad
def Oth (F H : Hp) (fp : Nat → List Addr) : Addr → Prop := fun a => (∃ o, H a = some o) ∧ F a = none ∧ ∀ i, a ∉ fp i
def WR (K : PySem.W.Frag) (cm : Str → Addr) (bm : List Nat) (F H : Hp) (fp : Nat → List Addr) (vs : List V) (Q : VK) (E : XK) : FR → Prop
  | .ret o bs => ∀ v F' H' fp' fv, Sub F F' → Kp (Oth F H fp) H H' → Rel K F' H' (bm.map fun i => vs[i]?) (bs.map some) fp' (Oth F H fp) → Rp K F' H' o v fv → fv.Nodup → (∀ a ∈ fv, ¬ Oth F H fp a ∧ ∀ i, a ∉ fp' i) → Q v H'
  | .exc x bs => ∀ cl d F' H' fp', Sub F F' → Kp (Oth F H fp) H H' → Rel K F' H' (bm.map fun i => vs[i]?) (bs.map some) fp' (Oth F H fp) → RpX ⟨K, cm, fun _ _ _ _ => False⟩ H' x cl d → E cl d H'
  | .bad => False
/-- the promise of a def of np parameters -/
def spM (K : PySem.W.Frag) (cm : Str → Addr) (np : Nat) (bm : List Nat) (m : List O → FR) : Sp := fun vs H Q E => ∃ F os fp, os.length = np ∧ Rel K F H (vs.map some) (os.map some) fp (Oth F H fp) ∧ (∀ i, i ∉ bm → fp i = []) ∧ WR K cm bm F H fp vs Q E (m os)
theorem spM.len {K : PySem.W.Frag} {cm : Str → Addr} {np : Nat} {bm : List Nat} {m : List O → FR} {vs : List V} {H : Hp} {Q : VK} {E : XK} (h : spM K cm np bm m vs H Q E) : vs.length = np := by
  obtain ⟨F, os, fp, hl, r, _⟩ := h
  have := r.len
  simp at this
  omega
theorem start_get {N : List Str} {vs : List V} {i : Nat} (h : i < vs.length) : (L2.start N vs)[i]? = some vs[i]? := by
  unfold L2.start
  rw [List.getElem?_append_left (by simpa using h), List.getElem?_map, List.getElem?_eq_getElem h]
  rfl
theorem rel_start {K : PySem.W.Frag} {F H : Hp} {N : List Str} {vs : List V} {os : List O} {fp : Nat → List Addr} {fr : Addr → Prop} (r : Rel K F H (vs.map some) (os.map some) fp fr) (hl : os.length ≤ N.length) :
    Rel K F H (L2.start N vs) (os.map some ++ List.replicate (N.length - os.length) none) fp fr := by
  have hv : vs.length = os.length := by simpa using r.len
  have key : ∀ i o, (os.map some ++ List.replicate (N.length - os.length) none)[i]? = some (some o) → (os.map some)[i]? = some (some o) := fun i o e => by
    by_cases h : i < os.length
    · rw [List.getElem?_append_left (by simpa using h)] at e; exact e
    · rw [List.getElem?_append_right (by simpa using h), List.getElem?_replicate] at e
      split at e <;> cases e
  refine ⟨?_, r.sub, fun i o e => ?_, fun i h => r.off i fun o e => ?_, r.nd, r.dj, r.fr⟩
  · unfold L2.start
    simp
    omega
  · obtain ⟨v, e1, q⟩ := r.sl i o (key i o e)
    refine ⟨v, ?_, q⟩
    unfold L2.start
    rw [List.getElem?_append_left (lt_of_some e1)]; exact e1
  · refine h o ?_
    rw [List.getElem?_append_left (lt_of_some e)]; exact e
theorem getAll_get : ∀ {bm : List Nat} {e : Ev} {bs : List O}, getAll e bm = some bs → bs.length = bm.length ∧ ∀ (k i : Nat), bm[k]? = some i → ∃ o : O, bs[k]? = some o ∧ e[i]? = some (some o)
  | [], e, bs, h => by cases h; exact ⟨rfl, fun k i z => by simp at z⟩
  | j :: r, e, bs, h => by
    unfold getAll at h
    split at h
    · rename_i o eo
      cases e2 : getAll e r with
      | none => rw [e2] at h; cases h
      | some b2 =>
        rw [e2] at h; cases h
        obtain ⟨h1, h2⟩ := getAll_get e2
        refine ⟨by simp [h1], fun k i z => ?_⟩
        cases k with
        | zero => simp at z; subst z; exact ⟨o, rfl, eo⟩
        | succ k => simp at z; obtain ⟨o', a, b⟩ := h2 k i z; exact ⟨o', by simpa using a, b⟩
    · cases h
def fpB (bm : List Nat) (fp : Nat → List Addr) : Nat → List Addr := fun k => match bm[k]? with
  | some i => fp i
  | none => []
theorem rel_back {K : PySem.W.Frag} {F H : Hp} {σ0 σ : L2.St} {vs : List V} {env : Ev} {fp : Nat → List Addr} {fr : Addr → Prop} {bm : List Nat} {bs : List O} (r : Rel K F H σ env fp fr) (hg : getAll env bm = some bs) (hn : bm.Nodup)
    (hσ : ∀ i ∈ bm, σ[i]? = some vs[i]?) : Rel K F H (bm.map fun i => vs[i]?) (bs.map some) (fpB bm fp) fr := by
  obtain ⟨hl, hget⟩ := getAll_get hg
  refine ⟨by simp [hl], r.sub, fun k o e => ?_, fun k h => ?_, fun k => ?_, fun k l a hkl ha hb => ?_, fun a ha => ?_⟩
  · have hk : k < bs.length := by have := lt_of_some e; simpa using this
    have hk' : k < bm.length := by omega
    obtain ⟨o', e1, e2⟩ := hget k bm[k] (List.getElem?_eq_getElem hk')
    rw [List.getElem?_map, e1] at e
    cases e
    obtain ⟨v, e3, q⟩ := r.sl _ _ e2
    have e4 := hσ bm[k] (List.getElem_mem hk')
    rw [e3] at e4
    refine ⟨v, ?_, ?_⟩
    · rw [List.getElem?_map, List.getElem?_eq_getElem hk']
      exact e4.symm
    · unfold fpB
      rw [List.getElem?_eq_getElem hk']; exact q
  · unfold fpB
    cases e : bm[k]? with
    | none => rfl
    | some i =>
      obtain ⟨o, e1, e2⟩ := hget k i e
      exact absurd (by rw [List.getElem?_map, e1]; rfl) (h o)
  · unfold fpB
    cases bm[k]? with
    | none => exact List.nodup_nil
    | some i => exact r.nd i
  · unfold fpB at ha hb
    cases e : bm[k]? with
    | none => rw [e] at ha; cases ha
    | some i =>
      cases e' : bm[l]? with
      | none => rw [e'] at hb; cases hb
      | some j =>
        rw [e] at ha; rw [e'] at hb
        refine r.dj i j a (fun z => hkl ?_) ha hb
        subst z
        exact nd_ix hn e e'
  · obtain ⟨x, y, z⟩ := r.fr a ha
    refine ⟨x, y, fun k h => ?_⟩
    unfold fpB at h
    cases e : bm[k]? with
    | none => rw [e] at h; cases h
    | some i => rw [e] at h; exact z i h
/-- THE RULE for a def -/
theorem fn_ok {P : Program} {w : World} {K : PySem.W.Frag} {mg : Str → Option Value} {base : Heap} {cm : Str → Addr} {x qual : Str} {st : Stmt} {f : Addr} {fd : FuncData} {N ps : List Str} {k : Nat} {bm : List Nat} {body : M Ctl} (F : Fun K x qual st f fd) (S : FnScope N ps (defScope st)) (hbm : bm.Nodup) (hb : ∀ i ∈ bm, i < ps.length)
    (hbody : ∀ (cdv : Value) (A : Around) (outer : List Env) (s : Shared) (H : Hp) (E : XK), Room k (A.deeper (envOfC qual (defScope st) s.heap.objs.size f cdv)) →
      ∃ t, PSs (cxOf (L2.CX P w) P w K mg base N qual (defScope st) f cdv A outer s H E) (defBody st) t ∧ EvS ⟨K, cm, fun cl d _ H' => E cl d H'⟩ bm t body) :
    FnOk P w K mg base (L2.CX P w) (k + 1) f fd ps (spM K cm ps.length bm (fnM N.length bm body)) := by
  refine F.okX S (fun vs H Q E h => h.len) fun cdv A outer s H vs Q E hr h => ?_
  obtain ⟨t, hp, he⟩ := hbody cdv A outer s H E hr
  refine ⟨t, hp, ?_⟩
  obtain ⟨F0, os, fp, hl, r, hfp, hw⟩ := h
  have hv : vs.length = os.length := by simpa using r.len
  have hpl : ps.length ≤ N.length := by have := congrArg List.length S.pre; rw [List.length_take] at this; omega
  refine he F0 H (L2.start N vs) _ fp _ _ (rel_start (N := N) r (by omega)) ?_
  have hσ : ∀ σ' : L2.St, AgB bm (L2.start N vs) σ' → ∀ i ∈ bm, σ'[i]? = some vs[i]? := fun σ' g i hi => by
    rw [g.2 i hi, start_get (by have := hb i hi; omega)]
  unfold fnM at hw
  cases e : body (os.map some ++ List.replicate (N.length - os.length) none) with
  | bad => rw [e] at hw; exact hw
  | err env x =>
    rw [e] at hw
    cases eg : getAll env bm with
    | none => simp only [eg] at hw; exact hw.elim
    | some bs =>
      simp only [eg] at hw
      exact fun cl d σ' F' H' fp' s' k' g' r' q => hw cl d F' H' _ s' k' (rel_back (σ0 := σ') r' eg hbm (hσ σ' g')) q
  | ok env a =>
    rw [e] at hw
    cases a with
    | brk => exact hw.elim
    | cnt => exact hw.elim
    | nx =>
      cases eg : getAll env bm with
      | none => simp only [eg] at hw; exact hw.elim
      | some bs =>
        simp only [eg] at hw
        exact fun σ' F' H' fp' s' k' g' r' => hw .non F' H' _ [] s' k' (rel_back (σ0 := σ') r' eg hbm (hσ σ' g')) ⟨rfl, rfl⟩ List.nodup_nil fun _ z => nomatch z
    | ret o =>
      cases eg : getAll env bm with
      | none => simp only [eg] at hw; exact hw.elim
      | some bs =>
        simp only [eg] at hw
        refine fun v σ' F' H' fp' fv s' k' g' r' q nd d => hw v F' H' _ fv s' k' (rel_back (σ0 := σ') r' eg hbm (hσ σ' g')) q nd fun a ha => ⟨(d a ha).1, fun k h => ?_⟩
        unfold fpB at h
        cases eb : bm[k]? with
        | none => rw [eb] at h; cases h
        | some i => rw [eb] at h; exact (d a ha).2 i h

/-! ### calls of defs -/
inductive Arg where
  | val (f : M O)
  | bor (j : Nat)
def evalArgs : List Arg → M (List (Option O))
  | [], env => .ok env []
  | .val f :: as, env => (f env).bind fun e x => (evalArgs as e).bind fun e xs => .ok e (some x :: xs)
  | .bor j :: as, env => match env[j]? with
    | some (some _) => (evalArgs as env).bind fun e xs => .ok e (none :: xs)
    | _ => .bad
def ArgR (K : PySem.W.Frag) (F H : Hp) (σ : L2.St) : List Arg → List (Option O) → List V → Prop
  | [], [], vs => vs = []
  | .val _ :: as, some o :: xs, vs => ∃ v vs', vs = v :: vs' ∧ Rp K F H o v [] ∧ ArgR K F H σ as xs vs'
  | .bor j :: as, none :: xs, vs => ∃ v vs', vs = v :: vs' ∧ σ[j]? = some (some v) ∧ ArgR K F H σ as xs vs'
  | _, _, _ => False
theorem ArgR.keep {K : PySem.W.Frag} {F H F' H' : Hp} {σ : L2.St} (s : Sub F F') : ∀ {as : List Arg} {xs : List (Option O)} {vs : List V}, ArgR K F H σ as xs vs → ArgR K F' H' σ as xs vs
  | [], [], vs, h => h
  | .val _ :: as, some o :: xs, vs, h => by
    obtain ⟨v, vs', e, q, r⟩ := h
    exact ⟨v, vs', e, Rp.keep s o v [] q (fun _ z => nomatch z), ArgR.keep s r⟩
  | .bor j :: as, none :: xs, vs, h => by
    obtain ⟨v, vs', e, q, r⟩ := h
    exact ⟨v, vs', e, q, ArgR.keep s r⟩
  | [], _ :: _, vs, h => h.elim
  | .val _ :: as, [], vs, h => h.elim
  | .val _ :: as, none :: xs, vs, h => h.elim
  | .bor j :: as, [], vs, h => h.elim
  | .bor j :: as, some _ :: xs, vs, h => h.elim
def WAr (c : Cfg) (F H : Hp) (fr : Addr → Prop) (σ : L2.St) (as : List Arg) (Q : List V → Hp → Prop) : R (List (Option O)) → Prop
  | .ok env xs => ∀ vs F' H' fp, Sub F F' → Kp fr H H' → Rel c.K F' H' σ env fp fr → ArgR c.K F' H' σ as xs vs → Q vs H'
  | .err env x => ∀ cl d F' H' fp, Sub F F' → Kp fr H H' → Rel c.K F' H' σ env fp fr → RpX c H' x cl d → c.E cl d σ H'
  | .bad => False
def EvAr (c : Cfg) (ta : TA) (as : List Arg) : Prop := ∀ F H σ env fp fr Q, Rel c.K F H σ env fp fr → WAr c F H fr σ as Q (evalArgs as env) → ta σ H Q
section
variable {c : Cfg} {te : TE} {tx : TA} {f : M O} {as : List Arg}
theorem evar_nil : EvAr c tNil [] := fun F H σ env fp fr Q r w => w [] F H fp (same_refl _) Kp.refl r rfl
theorem evar_val (ha : EvF c te f) (hb : EvAr c tx as) : EvAr c (tCons te tx) (.val f :: as) := fun F H σ env fp fr Q rl w => by
  refine ha F H σ env fp fr _ rl ?_
  unfold evalArgs at w
  cases e1 : f env with
  | bad => rw [e1] at w; exact w.elim
  | err env1 x => rw [e1] at w; exact w
  | ok env1 x =>
    rw [e1] at w
    intro v1 F1 H1 fp1 s1 k1 r1 q1
    refine hb F1 H1 σ env1 fp1 fr _ r1 ?_
    simp only [R.bind] at w
    cases e2 : evalArgs as env1 with
    | bad => rw [e2] at w; exact w.elim
    | err env2 x => rw [e2] at w; exact fun cl d F' H' fp s' k' r q => w cl d F' H' fp (s1.trans s') (k1.trans k') r q
    | ok env2 xs =>
      rw [e2] at w
      intro vs F2 H2 fp2 s2 k2 r2 q2
      exact w (v1 :: vs) F2 H2 fp2 (s1.trans s2) (k1.trans k2) r2 ⟨v1, vs, rfl, Rp.keep s2 x v1 [] q1 (fun _ z => nomatch z), q2⟩
theorem evar_bor {j : Nat} (hb : EvAr c tx as) : EvAr c (tCons (tVar j) tx) (.bor j :: as) := fun F H σ env fp fr Q rl w => by
  unfold evalArgs at w
  split at w
  · rename_i o e
    obtain ⟨v, ev, q⟩ := rl.sl j o e
    refine ⟨v, ev, hb F H σ env fp fr _ rl ?_⟩
    cases e2 : evalArgs as env with
    | bad => rw [e2] at w; exact w.elim
    | err env2 x => rw [e2] at w; exact fun cl d F' H' fp s' k' r q => w cl d F' H' fp s' k' r q
    | ok env2 xs =>
      rw [e2] at w
      intro vs F2 H2 fp2 s2 k2 r2 q2
      exact w (v :: vs) F2 H2 fp2 s2 k2 r2 ⟨v, vs, rfl, ev, q2⟩
  · exact w.elim
end
/-- the borrowed slots, and their positions -/
def bors : List Arg → List Nat
  | [] => []
  | .val _ :: as => bors as
  | .bor j :: as => j :: bors as
def posB (n : Nat) : List Arg → List Nat
  | [] => []
  | .val _ :: as => posB (n + 1) as
  | .bor _ :: as => n :: posB (n + 1) as
/-- the values for the parameters -/
def fillA (env : Ev) : List Arg → List (Option O) → Option (List O)
  | [], [] => some []
  | .val _ :: as, some o :: xs => (fillA env as xs).map (o :: ·)
  | .bor j :: as, none :: xs => match env[j]? with
    | some (some o) => (fillA env as xs).map (o :: ·)
    | _ => none
  | _, _ => none
def setAll (env : Ev) : List Nat → List O → Ev
  | j :: js, b :: bs => (setAll env js bs).set j (some b)
  | _, _ => env
def mCall (m : List O → FR) (as : List Arg) : M O := fun env => (evalArgs as env).bind fun e xs => match fillA e as xs with
  | some os => (match m os with
    | .ret o bs => .ok (setAll e (bors as) bs) o
    | .exc x bs => .err (setAll e (bors as) bs) x
    | .bad => .bad)
  | none => .bad
theorem args_get {K : PySem.W.Frag} {F H : Hp} {σ : L2.St} {env : Ev} : ∀ {as : List Arg} {xs : List (Option O)} {vs : List V} {os : List O}, ArgR K F H σ as xs vs → fillA env as xs = some os →
    os.length = as.length ∧ vs.length = as.length ∧ ∀ k : Nat, (∀ f : M O, as[k]? = some (Arg.val f) → ∃ (o : O) (v : V), os[k]? = some o ∧ vs[k]? = some v ∧ Rp K F H o v []) ∧
      (∀ j : Nat, as[k]? = some (Arg.bor j) → ∃ (o : O) (v : V), os[k]? = some o ∧ env[j]? = some (some o) ∧ vs[k]? = some v ∧ σ[j]? = some (some v))
  | [], [], vs, os, h, e => by
    cases e
    obtain rfl : vs = [] := h
    exact ⟨rfl, rfl, fun k => ⟨fun f z => by simp at z, fun j z => by simp at z⟩⟩
  | .val g :: as, some o :: xs, vs, os, h, e => by
    obtain ⟨v, vs', rfl, q, r⟩ := h
    simp only [fillA] at e
    cases e2 : fillA env as xs with
    | none => rw [e2] at e; cases e
    | some os' =>
      rw [e2] at e
      cases e
      obtain ⟨h1, h2, h3⟩ := args_get r e2
      refine ⟨by simp [h1], by simp [h2], fun k => ?_⟩
      cases k with
      | zero => exact ⟨fun f z => ⟨o, v, rfl, rfl, q⟩, fun j z => by simp at z⟩
      | succ k => exact ⟨fun f z => by simpa using (h3 k).1 f (by simpa using z), fun j z => by simpa using (h3 k).2 j (by simpa using z)⟩
  | .bor j0 :: as, none :: xs, vs, os, h, e => by
    obtain ⟨v, vs', rfl, q, r⟩ := h
    simp only [fillA] at e
    split at e
    · rename_i o eo
      cases e2 : fillA env as xs with
      | none => rw [e2] at e; cases e
      | some os' =>
        rw [e2] at e
        cases e
        obtain ⟨h1, h2, h3⟩ := args_get r e2
        refine ⟨by simp [h1], by simp [h2], fun k => ?_⟩
        cases k with
        | zero => exact ⟨fun f z => by simp at z, fun j z => by simp at z; subst z; exact ⟨o, v, rfl, eo, rfl, q⟩⟩
        | succ k => exact ⟨fun f z => by simpa using (h3 k).1 f (by simpa using z), fun j z => by simpa using (h3 k).2 j (by simpa using z)⟩
    · cases e
  | [], _ :: _, vs, os, h, e => h.elim
  | .val _ :: as, [], vs, os, h, e => h.elim
  | .val _ :: as, none :: xs, vs, os, h, e => h.elim
  | .bor j :: as, [], vs, os, h, e => h.elim
  | .bor j :: as, some _ :: xs, vs, os, h, e => h.elim
theorem posB_bors : ∀ (as : List Arg) (n : Nat), (posB n as).length = (bors as).length ∧ (∀ t p : Nat, (posB n as)[t]? = some p → n ≤ p ∧ ∃ j : Nat, (bors as)[t]? = some j ∧ as[p - n]? = some (Arg.bor j)) ∧ (∀ k j : Nat, as[k]? = some (Arg.bor j) → ∃ t : Nat, (posB n as)[t]? = some (n + k) ∧ (bors as)[t]? = some j)
  | [], n => ⟨rfl, fun t p z => by simp [posB] at z, fun k j z => by simp at z⟩
  | .val f :: as, n => by
    obtain ⟨h1, h2, h3⟩ := posB_bors as (n + 1)
    refine ⟨h1, fun t p z => ?_, fun k j z => ?_⟩
    · obtain ⟨a, j, b, d⟩ := h2 t p z
      refine ⟨by omega, j, b, ?_⟩
      have : p - n = (p - (n + 1)) + 1 := by omega
      rw [this]; simpa using d
    · cases k with
      | zero => simp at z
      | succ k =>
        obtain ⟨t, a, b⟩ := h3 k j (by simpa using z)
        exact ⟨t, by rw [show n + (k + 1) = n + 1 + k by omega]; exact a, b⟩
  | .bor j0 :: as, n => by
    obtain ⟨h1, h2, h3⟩ := posB_bors as (n + 1)
    refine ⟨by simp [posB, bors, h1], fun t p z => ?_, fun k j z => ?_⟩
    · cases t with
      | zero =>
        simp [posB] at z
        subst z
        exact ⟨Nat.le_refl _, j0, by simp [bors], by simp⟩
      | succ t =>
        obtain ⟨a, j, b, d⟩ := h2 t p (by simpa [posB] using z)
        refine ⟨by omega, j, by simpa [bors] using b, ?_⟩
        have : p - n = (p - (n + 1)) + 1 := by omega
        rw [this]; simpa using d
    · cases k with
      | zero => simp at z; subst z; exact ⟨0, by simp [posB], by simp [bors]⟩
      | succ k =>
        obtain ⟨t, a, b⟩ := h3 k j (by simpa using z)
        exact ⟨t + 1, by rw [show n + (k + 1) = n + 1 + k by omega]; simpa [posB] using a, by simpa [bors] using b⟩
/-- where i stands -/
def ixOf : List Nat → Nat → Option Nat
  | [], _ => none
  | j :: js, i => if j = i then some 0 else (ixOf js i).map (· + 1)
theorem ixOf_some : ∀ {js : List Nat} {i t : Nat}, ixOf js i = some t → js[t]? = some i
  | j :: js, i, t, h => by
    unfold ixOf at h
    split at h
    · rename_i e
      cases h; simp [e]
    · cases e : ixOf js i with
      | none => rw [e] at h; cases h
      | some u => rw [e] at h; cases h; simpa using ixOf_some e
theorem ixOf_none : ∀ {js : List Nat} {i : Nat}, ixOf js i = none → i ∉ js
  | [], i, _ => by simp
  | j :: js, i, h => by
    unfold ixOf at h
    split at h
    · cases h
    · rename_i e
      cases e2 : ixOf js i with
      | none =>
        have := ixOf_none e2
        simp [this]
        exact fun z => e z.symm
      | some u => rw [e2] at h; cases h
theorem ixOf_at {js : List Nat} (hn : js.Nodup) {i t : Nat} (h : js[t]? = some i) : ixOf js i = some t := by
  cases e : ixOf js i with
  | none => exact absurd (List.mem_of_getElem? h) (ixOf_none e)
  | some u => rw [nd_ix hn (ixOf_some e) h]
theorem setAll_len : ∀ (js : List Nat) (bs : List O) (env : Ev), (setAll env js bs).length = env.length
  | [], bs, env => rfl
  | j :: js, [], env => rfl
  | j :: js, b :: bs, env => by
    show ((setAll env js bs).set j (some b)).length = _
    rw [List.length_set, setAll_len js bs env]
theorem setAll_out : ∀ (js : List Nat) (bs : List O) (env : Ev) (i : Nat), i ∉ js → (setAll env js bs)[i]? = env[i]?
  | [], bs, env, i, _ => rfl
  | j :: js, [], env, i, _ => rfl
  | j :: js, b :: bs, env, i, h => by
    show ((setAll env js bs).set j (some b))[i]? = _
    rw [List.getElem?_set_ne, setAll_out js bs env i fun z => h (List.mem_cons_of_mem _ z)]
    rintro rfl; exact h List.mem_cons_self
theorem setAll_in : ∀ (js : List Nat) (bs : List O) (env : Ev) (t j : Nat) (b : O), js.Nodup → js[t]? = some j → bs[t]? = some b → j < env.length → (setAll env js bs)[j]? = some (some b)
  | j0 :: js, b0 :: bs, env, 0, j, b, hn, h1, h2, h3 => by
    simp at h1 h2
    subst h1 h2
    show ((setAll env js bs).set j0 (some b0))[j0]? = _
    rw [List.getElem?_set_self (by rw [setAll_len]; exact h3)]
  | j0 :: js, b0 :: bs, env, t + 1, j, b, hn, h1, h2, h3 => by
    have hm : j ∈ js := List.mem_of_getElem? (by simpa using h1)
    obtain ⟨n1, n2⟩ := List.nodup_cons.mp hn
    show ((setAll env js bs).set j0 (some b0))[j]? = _
    rw [List.getElem?_set_ne (fun z => n1 (by rw [z]; exact hm))]
    exact setAll_in js bs env t j b n2 (by simpa using h1) (by simpa using h2) h3
  | [], bs, env, t, j, b, hn, h1, h2, h3 => by simp at h1
  | _ :: _, [], env, t, j, b, hn, h1, h2, h3 => by simp at h2
def fpA (as : List Arg) (fp : Nat → List Addr) : Nat → List Addr := fun k => match as[k]? with
  | some (.bor j) => fp j
  | _ => []
def fpC (js : List Nat) (fpb fp : Nat → List Addr) : Nat → List Addr := fun i => match ixOf js i with
  | some t => fpb t
  | none => fp i
section
variable {c : Cfg} {tx : TA} {as : List Arg}
theorem ev_call {np : Nat} {bm : List Nat} {m : List O → FR} (h : EvAr c tx as) (hn : (bors as).Nodup) (hp : posB 0 as = bm) (hl : as.length = np) :
    EvO c (tCallS (spM c.K c.cm np bm m) (L2.WE c.E) tx) (mCall m as) := fun F H σ env fp fr Q rl w => by
  refine h F H σ env fp fr _ rl ?_
  unfold mCall at w
  cases e1 : evalArgs as env with
  | bad => rw [e1] at w; exact w.elim
  | err env1 x => rw [e1] at w; exact w
  | ok env1 xs =>
    rw [e1] at w
    intro vs F1 H1 fp1 s1 k1 r1 qa
    simp only [R.bind] at w
    cases e2 : fillA env1 as xs with
    | none => rw [e2] at w; exact w.elim
    | some os =>
      rw [e2] at w
      simp only at w
      obtain ⟨l1, l2, ag⟩ := args_get qa e2
      obtain ⟨lb, pb1, pb2⟩ := posB_bors as 0
      rw [hp] at lb pb1 pb2
      -- the callee's state
      have rA : Rel c.K F1 H1 (vs.map some) (os.map some) (fpA as fp1) (Oth F1 H1 (fpA as fp1)) := by
        refine ⟨by simp [l1, l2], r1.sub, fun k o eo => ?_, fun k ho => ?_, fun k => ?_, fun k l a hkl ha hb => ?_, fun a ha => ha⟩
        · rw [List.getElem?_map] at eo
          cases ea : os[k]? with
          | none => rw [ea] at eo; cases eo
          | some o' =>
            rw [ea] at eo; cases eo
            have hk : k < as.length := by rw [← l1]; exact lt_of_some ea
            cases eas : as[k] with
            | val f =>
              obtain ⟨o2, v, a1, a2, a3⟩ := (ag k).1 f (by rw [List.getElem?_eq_getElem hk, eas])
              rw [ea] at a1; cases a1
              refine ⟨v, by rw [List.getElem?_map, a2]; rfl, ?_⟩
              have z : fpA as fp1 k = [] := by unfold fpA; rw [List.getElem?_eq_getElem hk, eas]
              rw [z]; exact a3
            | bor j =>
              obtain ⟨o2, v, a1, a2, a3, a4⟩ := (ag k).2 j (by rw [List.getElem?_eq_getElem hk, eas])
              rw [ea] at a1; cases a1
              refine ⟨v, by rw [List.getElem?_map, a3]; rfl, ?_⟩
              have z : fpA as fp1 k = fp1 j := by unfold fpA; rw [List.getElem?_eq_getElem hk, eas]
              rw [z]
              obtain ⟨v', b1, b2⟩ := r1.sl j _ a2
              rw [a4] at b1; cases b1
              exact b2
        · unfold fpA
          cases eas : as[k]? with
          | none => rfl
          | some a => cases a with
            | val f => rfl
            | bor j =>
              obtain ⟨o2, v, a1, _⟩ := (ag k).2 j eas
              exact absurd (by rw [List.getElem?_map, a1]; rfl) (ho o2)
        · unfold fpA
          split
          · exact r1.nd _
          · exact List.nodup_nil
        · unfold fpA at ha hb
          split at ha
          · rename_i j1 e3
            split at hb
            · rename_i j2 e4
              obtain ⟨t1, b1, d1⟩ := pb2 k j1 e3
              obtain ⟨t2, b2, d2⟩ := pb2 l j2 e4
              refine r1.dj j1 j2 a (fun z => hkl ?_) ha hb
              subst z
              have := nd_ix hn d1 d2
              subst this
              rw [b1] at b2
              simp at b2; exact b2
            · cases hb
          · cases ha
      have hfp : ∀ i, i ∉ bm → fpA as fp1 i = [] := fun i hi => by
        unfold fpA
        split
        · rename_i j e3
          obtain ⟨t, b, _⟩ := pb2 i j e3
          exact absurd (List.mem_of_getElem? (by simpa using b)) hi
        · rfl
      -- what is no argument's stays
      have oth_fr : ∀ a, fr a → Oth F1 H1 (fpA as fp1) a := fun a ha => by
        obtain ⟨x, y, z⟩ := r1.fr a ha
        refine ⟨x, y, fun k hk => ?_⟩
        unfold fpA at hk
        split at hk
        · exact z _ hk
        · cases hk
      have oth_sl : ∀ i a, i ∉ bors as → a ∈ fp1 i → Oth F1 H1 (fpA as fp1) a := fun i a hi ha => by
        have hat : F1 a = none ∧ ∃ vs, H1 a = some (.lst vs) := by
          cases ei : env1[i]? with
          | none => rw [r1.off i (by simp [ei])] at ha; cases ha
          | some y => cases y with
            | none => rw [r1.off i (by simp [ei])] at ha; cases ha
            | some o =>
              obtain ⟨v, _, q⟩ := r1.sl i o ei
              exact Rp.at o v _ q a ha
        obtain ⟨n, us, hh⟩ := hat
        refine ⟨⟨_, hh⟩, n, fun k hk => ?_⟩
        unfold fpA at hk
        split at hk
        · rename_i j e3
          obtain ⟨t, _, b⟩ := pb2 k j e3
          exact r1.dj i j a (fun z => hi (by rw [z]; exact List.mem_of_getElem? b)) ha hk
        · cases hk
      -- the state behind the call
      have back : ∀ (bs : List O) (F2 H2 : Hp) (fpb : Nat → List Addr), Sub F1 F2 → Kp (Oth F1 H1 (fpA as fp1)) H1 H2 → Rel c.K F2 H2 (bm.map fun i => vs[i]?) (bs.map some) fpb (Oth F1 H1 (fpA as fp1)) →
          Rel c.K F2 H2 σ (setAll env1 (bors as) bs) (fpC (bors as) fpb fp1) fr := fun bs F2 H2 fpb s2 k2 r2 => by
        have lbs : bs.length = (bors as).length := by have := r2.len; simp at this; omega
        have inn : ∀ i t, ixOf (bors as) i = some t → ∃ b v, bs[t]? = some b ∧ σ[i]? = some (some v) ∧ (setAll env1 (bors as) bs)[i]? = some (some b) ∧ Rp c.K F2 H2 b v (fpb t) := fun i t ht => by
          have h1 := ixOf_some ht
          have ht' : t < bs.length := by rw [lbs]; exact lt_of_some h1
          have htm : t < bm.length := by rw [lb]; exact lt_of_some h1
          obtain ⟨_, j, b1, b2⟩ := pb1 t bm[t] (List.getElem?_eq_getElem htm)
          rw [h1] at b1; cases b1
          obtain ⟨o, v, a1, a2, a3, a4⟩ := (ag bm[t]).2 i (by simpa using b2)
          obtain ⟨v', d1, d2⟩ := r2.sl t bs[t] (by rw [List.getElem?_map, List.getElem?_eq_getElem ht']; rfl)
          rw [List.getElem?_map, List.getElem?_eq_getElem htm] at d1
          simp at d1
          rw [a3] at d1; cases d1
          exact ⟨bs[t], v, List.getElem?_eq_getElem ht', a4, setAll_in _ _ _ t i _ hn h1 (List.getElem?_eq_getElem ht') (lt_of_some a2), d2⟩
        refine ⟨by rw [setAll_len]; exact r1.len, r2.sub, fun i o eo => ?_, fun i ho => ?_, fun i => ?_, fun i j a hij ha hb => ?_, fun a ha => ?_⟩
        · cases ei : ixOf (bors as) i with
          | some t =>
            obtain ⟨b, v, _, b2, b3, b4⟩ := inn i t ei
            rw [b3] at eo; cases eo
            refine ⟨v, b2, ?_⟩
            unfold fpC; rw [ei]; exact b4
          | none =>
            have hi := ixOf_none ei
            rw [setAll_out _ _ _ i hi] at eo
            obtain ⟨v, b1, b2⟩ := r1.sl i o eo
            refine ⟨v, b1, ?_⟩
            unfold fpC; rw [ei]
            exact Rp.keep s2 o v _ b2 fun a ha => ⟨k2 a (oth_sl i a hi ha), (r2.fr a (oth_sl i a hi ha)).2.1⟩
        · unfold fpC
          cases ei : ixOf (bors as) i with
          | some t =>
            obtain ⟨b, v, _, _, b3, _⟩ := inn i t ei
            exact absurd b3 (ho b)
          | none =>
            refine r1.off i fun o eo => ho o ?_
            rw [setAll_out _ _ _ i (ixOf_none ei)]; exact eo
        · unfold fpC
          split
          · exact r2.nd _
          · exact r1.nd _
        · unfold fpC at ha hb
          cases ei : ixOf (bors as) i with
          | some t =>
            cases ej : ixOf (bors as) j with
            | some u =>
              rw [ei] at ha; rw [ej] at hb
              refine r2.dj t u a (fun z => hij ?_) ha hb
              subst z
              have h1 := ixOf_some ei
              rw [ixOf_some ej] at h1
              simp at h1; exact h1.symm
            | none =>
              rw [ei] at ha; rw [ej] at hb
              exact (r2.fr a (oth_sl j a (ixOf_none ej) hb)).2.2 t ha
          | none =>
            cases ej : ixOf (bors as) j with
            | some u =>
              rw [ei] at ha; rw [ej] at hb
              exact (r2.fr a (oth_sl i a (ixOf_none ei) ha)).2.2 u hb
            | none =>
              rw [ei] at ha; rw [ej] at hb
              exact r1.dj i j a hij ha hb
        · obtain ⟨x, y, z⟩ := r2.fr a (oth_fr a ha)
          refine ⟨x, y, fun i hi => ?_⟩
          unfold fpC at hi
          split at hi
          · exact z _ hi
          · exact (r1.fr a ha).2.2 i hi
      refine ⟨F1, os, fpA as fp1, by rw [l1, hl], rA, hfp, ?_⟩
      cases em : m os with
      | bad => rw [em] at w; exact w.elim
      | ret o bs =>
        rw [em] at w
        intro v F2 H2 fpb fv s2 k2 r2 q nd d
        refine w v F2 H2 _ fv (s1.trans s2) (k1.trans (k2.of oth_fr)) (back bs F2 H2 fpb s2 k2 r2) q nd fun a ha => ⟨fun z => (d a ha).1 (oth_fr a z), fun i hi => ?_⟩
        unfold fpC at hi
        cases ei : ixOf (bors as) i with
        | some t => rw [ei] at hi; exact (d a ha).2 t hi
        | none => rw [ei] at hi; exact (d a ha).1 (oth_sl i a (ixOf_none ei) hi)
      | exc x bs =>
        rw [em] at w
        exact fun cl d F2 H2 fpb s2 k2 r2 q => w cl d F2 H2 _ (s1.trans s2) (k1.trans (k2.of oth_fr)) (back bs F2 H2 fpb s2 k2 r2) q
end
end Ow
set_option Elab.async false
set_option linter.all false
set_option maxRecDepth 100000
set_option maxHeartbeats 4000000
namespace Ow
open PySem L2

/-! ### places within a value -/
def O.at : List Nat → O → Option O
  | [], o => some o
  | k :: p, .lst _ xs => match xs[k]? with
    | some x => x.at p
    | none => none
  | k :: p, .tup xs => match xs[k]? with
    | some x => x.at p
    | none => none
  | _ :: _, _ => none
def O.put : List Nat → O → O → O
  | [], _, q => q
  | k :: p, .lst w xs, q => match xs[k]? with
    | some x => .lst w (xs.set k (x.put p q))
    | none => .lst w xs
  | k :: p, .tup xs, q => match xs[k]? with
    | some x => .tup (xs.set k (x.put p q))
    | none => .tup xs
  | _ :: _, o, _ => o
def Nav (K : PySem.W.Frag) (F H : Hp) : List Nat → O → V → V → Prop
  | [], o, v, u => u = v
  | k :: p, .lst w xs, v, u => ∃ a vs x y, v = .ref a ∧ H a = some (.lst vs) ∧ xs[k]? = some x ∧ vs[k]? = some y ∧ Nav K F H p x y u
  | k :: p, .tup xs, v, u => ∃ a vs x y, v = .ref a ∧ SqT K F a vs ∧ xs[k]? = some x ∧ vs[k]? = some y ∧ Nav K F H p x y u
  | _ :: _, _, _, _ => False
section
variable {K : PySem.W.Frag} {F H : Hp}
/-- one of several is looked at; what is put there instead -/
theorem Rps.focus (sFH : Sub F H) : ∀ {xs : List O} {vs : List V} {fp : List Addr} {k : Nat} {x : O}, Rps K F H xs vs fp → fp.Nodup → xs[k]? = some x → ∃ (y : V) (f : List Addr), vs[k]? = some y ∧ Rp K F H x y f ∧ f.Nodup ∧ (∀ a ∈ f, a ∈ fp) ∧
    ∀ (F' H' : Hp) (x' : O) (f' : List Addr), Sub F F' → (∀ a ∈ fp, a ∉ f → H' a = H a ∧ F' a = none) → Rp K F' H' x' y f' → f'.Nodup → (∀ a ∈ f', a ∈ f ∨ a ∉ fp) → ∃ fp', Rps K F' H' (xs.set k x') vs fp' ∧ fp'.Nodup ∧ ∀ a ∈ fp', (a ∈ fp ∧ a ∉ f) ∨ a ∈ f'
  | [], vs, fp, k, x, h, nd, e => by simp at e
  | z :: xs, vs, fp, 0, x, h, nd, e => by
    obtain ⟨v, vs', f1, f2, rfl, r1, r2, rfl⟩ := h
    simp at e; subst e
    obtain ⟨n1, n2, n12⟩ := List.nodup_append.mp nd
    refine ⟨v, f1, rfl, r1, n1, fun a ha => List.mem_append_left _ ha, fun F' H' x' f' s k q n d => ⟨f' ++ f2, ⟨v, vs', f', f2, rfl, q, Rps.keep s xs vs' f2 r2 fun a ha => k a (List.mem_append_right _ ha) fun z => n12 a z a ha rfl, rfl⟩, ?_, fun a ha => ?_⟩⟩
    · refine List.nodup_append.mpr ⟨n, n2, fun a ha b hb e => ?_⟩
      subst e
      rcases d a ha with z | z
      · exact n12 a z a hb rfl
      · exact z (List.mem_append_right _ hb)
    · rcases List.mem_append.mp ha with ha | ha
      · exact .inr ha
      · exact .inl ⟨List.mem_append_right _ ha, fun z => n12 a z a ha rfl⟩
  | z :: xs, vs, fp, k + 1, x, h, nd, e => by
    obtain ⟨v, vs', f1, f2, rfl, r1, r2, rfl⟩ := h
    obtain ⟨n1, n2, n12⟩ := List.nodup_append.mp nd
    obtain ⟨y, f, a1, a2, a3, a4, a5⟩ := Rps.focus sFH (k := k) r2 n2 (by simpa using e)
    refine ⟨y, f, by simpa using a1, a2, a3, fun a ha => List.mem_append_right _ (a4 a ha), fun F' H' x' f' s k q n d => ?_⟩
    obtain ⟨g, b1, b2, b3⟩ := a5 F' H' x' f' s (fun a ha hf => k a (List.mem_append_right _ ha) hf) q n fun a ha => by
      rcases d a ha with z | z
      · exact .inl z
      · exact .inr fun y => z (List.mem_append_right _ y)
    have hz : Rp K F' H' z v f1 := Rp.keep s z v f1 r1 fun a ha => k a (List.mem_append_left _ ha) fun w => n12 a ha a (a4 a w) rfl
    refine ⟨f1 ++ g, ⟨v, vs', f1, g, rfl, hz, b1, rfl⟩, List.nodup_append.mpr ⟨n1, b2, fun a ha b hb e => ?_⟩, fun a ha => ?_⟩
    · subst e
      rcases b3 a hb with z | z
      · exact n12 a ha a z.1 rfl
      · rcases d a z with w | w
        · exact n12 a ha a (a4 a w) rfl
        · exact w (List.mem_append_left _ ha)
    · rcases List.mem_append.mp ha with ha | ha
      · exact .inl ⟨List.mem_append_left _ ha, fun w => n12 a ha a (a4 a w) rfl⟩
      · rcases b3 a ha with z | z
        · exact .inl ⟨List.mem_append_right _ z.1, z.2⟩
        · exact .inr z
theorem Rp.focus (sFH : Sub F H) : ∀ (p : List Nat) {o q : O} {v : V} {fp : List Addr}, Rp K F H o v fp → fp.Nodup → o.at p = some q → ∃ (u : V) (fq : List Addr), Nav K F H p o v u ∧ Rp K F H q u fq ∧ fq.Nodup ∧ (∀ a ∈ fq, a ∈ fp) ∧
    ∀ (F' H' : Hp) (q' : O) (fq' : List Addr), Sub F F' → (∀ a ∈ fp, a ∉ fq → H' a = H a ∧ F' a = none) → Rp K F' H' q' u fq' → fq'.Nodup → (∀ a ∈ fq', a ∈ fq ∨ a ∉ fp) → ∃ fp', Rp K F' H' (o.put p q') v fp' ∧ fp'.Nodup ∧ ∀ a ∈ fp', (a ∈ fp ∧ a ∉ fq) ∨ a ∈ fq'
  | [], o, q, v, fp, h, nd, e => by
    cases e
    exact ⟨v, fp, rfl, h, nd, fun _ h => h, fun F' H' q' fq' _ _ hq n _ => ⟨fq', hq, n, fun a ha => .inr ha⟩⟩
  | k :: p, o, q, v, fp, h, nd, e => by
    cases o with
    | lst w xs =>
      simp only [O.at] at e
      cases ex : xs[k]? with
      | none => rw [ex] at e; cases e
      | some x =>
        rw [ex] at e
        obtain ⟨a, vs, f, rfl, r, hq⟩ := h
        have hH : H a = some (.lst vs) := by
          rcases hq with ⟨_, z, _⟩ | ⟨_, z, _, _⟩
          · exact sFH _ _ z
          · exact z
        have nf : f.Nodup := by
          rcases hq with ⟨_, _, rfl⟩ | ⟨_, _, _, rfl⟩
          · exact nd
          · exact (List.nodup_cons.mp nd).2
        have hsub : ∀ b ∈ f, b ∈ fp := by
          rcases hq with ⟨_, _, rfl⟩ | ⟨_, _, _, rfl⟩
          · exact fun _ h => h
          · exact fun _ h => List.mem_cons_of_mem _ h
        obtain ⟨y, f1, a1, a2, a3, a4, a5⟩ := Rps.focus sFH r nf ex
        obtain ⟨u, fq, b1, b2, b3, b4, b5⟩ := Rp.focus sFH p a2 a3 e
        refine ⟨u, fq, ⟨a, vs, x, y, rfl, hH, ex, a1, b1⟩, b2, b3, fun b hb => hsub b (a4 b (b4 b hb)), fun F' H' q' fq' s k' hq' n d => ?_⟩
        obtain ⟨g1, c1, c2, c3⟩ := b5 F' H' q' fq' s (fun b hb hn => k' b (hsub b (a4 b hb)) hn) hq' n fun b hb => by
          rcases d b hb with z | z
          · exact .inl z
          · exact .inr fun y => z (hsub b (a4 b y))
        obtain ⟨g2, d1, d2, d3⟩ := a5 F' H' (x.put p q') g1 s (fun b hb hn => k' b (hsub b hb) fun z => hn (b4 b z)) c1 c2 fun b hb => by
          rcases c3 b hb with z | z
          · exact .inl z.1
          · rcases d b z with w | w
            · exact .inl (b4 b w)
            · exact .inr fun y => w (hsub b y)
        have hmem : ∀ b ∈ g2, (b ∈ f ∧ b ∉ fq) ∨ b ∈ fq' := fun b hb => by
          rcases d3 b hb with z | z
          · exact .inl ⟨z.1, fun w => z.2 (b4 b w)⟩
          · rcases c3 b z with w | w
            · exact .inl ⟨a4 b w.1, w.2⟩
            · exact .inr w
        simp only [O.put, ex]
        rcases hq with ⟨hw, z, rfl⟩ | ⟨hw, z, zF, rfl⟩
        · exact ⟨g2, ⟨a, vs, g2, rfl, d1, .inl ⟨hw, s _ _ z, rfl⟩⟩, d2, hmem⟩
        · have na : a ∉ f := (List.nodup_cons.mp nd).1
          have nq : a ∉ fq := fun w => na (a4 a (b4 a w))
          have ka := k' a List.mem_cons_self nq
          refine ⟨a :: g2, ⟨a, vs, g2, rfl, d1, .inr ⟨hw, by rw [ka.1]; exact z, ka.2, rfl⟩⟩, List.nodup_cons.mpr ⟨fun w => ?_, d2⟩, fun b hb => ?_⟩
          · rcases hmem a w with y | y
            · exact na y.1
            · rcases d a y with x | x
              · exact nq x
              · exact x List.mem_cons_self
          · rcases List.mem_cons.mp hb with rfl | hb
            · exact .inl ⟨List.mem_cons_self, nq⟩
            · rcases hmem b hb with y | y
              · exact .inl ⟨List.mem_cons_of_mem _ y.1, y.2⟩
              · exact .inr y
    | tup xs =>
      simp only [O.at] at e
      cases ex : xs[k]? with
      | none => rw [ex] at e; cases e
      | some x =>
        rw [ex] at e
        obtain ⟨a, vs, rfl, ha, r⟩ := h
        obtain ⟨y, f1, a1, a2, a3, a4, a5⟩ := Rps.focus sFH r nd ex
        obtain ⟨u, fq, b1, b2, b3, b4, b5⟩ := Rp.focus sFH p a2 a3 e
        refine ⟨u, fq, ⟨a, vs, x, y, rfl, ha, ex, a1, b1⟩, b2, b3, fun b hb => a4 b (b4 b hb), fun F' H' q' fq' s k' hq' n d => ?_⟩
        obtain ⟨g1, c1, c2, c3⟩ := b5 F' H' q' fq' s (fun b hb hn => k' b (a4 b hb) hn) hq' n fun b hb => by
          rcases d b hb with z | z
          · exact .inl z
          · exact .inr fun y => z (a4 b y)
        obtain ⟨g2, d1, d2, d3⟩ := a5 F' H' (x.put p q') g1 s (fun b hb hn => k' b hb fun z => hn (b4 b z)) c1 c2 fun b hb => by
          rcases c3 b hb with z | z
          · exact .inl z.1
          · rcases d b z with w | w
            · exact .inl (b4 b w)
            · exact .inr w
        simp only [O.put, ex]
        refine ⟨g2, ⟨a, vs, rfl, sqT_sub s ha, d1⟩, d2, fun b hb => ?_⟩
        rcases d3 b hb with z | z
        · exact .inl ⟨z.1, fun w => z.2 (b4 b w)⟩
        · rcases c3 b z with w | w
          · exact .inl ⟨a4 b w.1, w.2⟩
          · exact .inr w
    | non => cases e
    | bl b => cases e
    | int i => cases e
    | str s => cases e
    | scr ns => cases e

/-- the list at a slot's place is changed -/
theorem Rel.mutate {σ : St} {env : Ev} {fp : Nat → List Addr} {fr : Addr → Prop} (r : Rel K F H σ env fp fr) {i : Nat} {p : List Nat} {o : O} {xs : List O} (e : env[i]? = some (some o)) (ep : o.at p = some (.lst true xs)) :
    ∃ (v : V) (a : Addr) (vs : List V) (f : List Addr), σ[i]? = some (some v) ∧ Nav K F H p o v (.ref a) ∧ H a = some (.lst vs) ∧ Rps K F H xs vs f ∧ f.Nodup ∧ a ∉ f ∧ (∀ b ∈ f, b ∈ fp i) ∧ a ∈ fp i ∧ F a = none ∧
      ∀ (xs' : List O) (vs' : List V) (f' : List Addr), Rps K F H xs' vs' f' → f'.Nodup → (∀ b ∈ f', b ∈ f ∨ (¬ fr b ∧ ∀ j, b ∉ fp j)) →
        ∃ fp', Rel K F (upd H a (.lst vs')) σ (env.set i (some (o.put p (.lst true xs')))) fp' fr ∧ Kp fr H (upd H a (.lst vs')) ∧ ∀ j b, b ∈ fp' j → (∃ j', b ∈ fp j' ) ∨ b ∈ f' := by
  obtain ⟨v, ev, q⟩ := r.sl i o e
  obtain ⟨u, fq, b1, b2, b3, b4, b5⟩ := Rp.focus r.sub p q (r.nd i) ep
  obtain ⟨a, vs, f, rfl, rr, hq⟩ := b2
  rcases hq with ⟨hw, _⟩ | ⟨_, hH, hF, rfl⟩
  · cases hw
  obtain ⟨na, nf⟩ := List.nodup_cons.mp b3
  have ha : a ∈ fp i := b4 a List.mem_cons_self
  refine ⟨v, a, vs, f, ev, b1, hH, rr, nf, na, fun b hb => b4 b (List.mem_cons_of_mem _ hb), ha, hF, fun xs' vs' f' h' n' d' => ?_⟩
  have hi := lt_of_some e
  have na' : a ∉ f' := fun z => by
    rcases d' a z with w | w
    · exact na w
    · exact w.2 i ha
  have hu : ∀ b, b ≠ a → (upd H a (.lst vs')) b = H b := fun b hb => upd_ne hb
  have hnew : Rp K F (upd H a (.lst vs')) (.lst true xs') (.ref a) (a :: f') := ⟨a, vs', f', rfl, Rps.keep (same_refl _) xs' vs' f' h' fun b hb => ⟨hu b fun z => na' (z ▸ hb), (Rps.at xs' vs' f' h' b hb).1⟩, .inr ⟨rfl, upd_same, hF, rfl⟩⟩
  obtain ⟨g, c1, c2, c3⟩ := b5 F (upd H a (.lst vs')) (.lst true xs') (a :: f') (same_refl _) (fun b hb hn => ⟨hu b fun z => hn (z ▸ List.mem_cons_self), (Rp.at o v _ q b hb).1⟩) hnew (List.nodup_cons.mpr ⟨na', n'⟩) fun b hb => by
    rcases List.mem_cons.mp hb with rfl | hb
    · exact .inl List.mem_cons_self
    · rcases d' b hb with w | w
      · exact .inl (List.mem_cons_of_mem _ w)
      · exact .inr (w.2 i)
  have kfr : ∀ b, fr b → b ≠ a := fun b hb z => (r.fr b hb).2.2 i (z ▸ ha)
  have r1 : Rel K F (upd H a (.lst vs')) σ (env.set i none) (fun k => if k = i then [] else fp k) fr := by
    have m := r.move hi
    refine ⟨m.len, sub_upd m.sub hF, fun j o' e' => ?_, m.off, m.nd, m.dj, fun b hb => ?_⟩
    · obtain ⟨v', e1, q'⟩ := m.sl j o' e'
      refine ⟨v', e1, Rp.keep (same_refl _) o' v' _ q' fun b hb => ⟨hu b fun z => ?_, (Rp.at o' v' _ q' b hb).1⟩⟩
      subst z
      by_cases hj : j = i
      · rw [if_pos hj] at hb; cases hb
      · rw [if_neg hj] at hb; exact r.dj i j b (fun y => hj y.symm) ha hb
    · obtain ⟨⟨x, hx⟩, y, z⟩ := m.fr b hb
      exact ⟨⟨x, by rw [hu b (kfr b hb)]; exact hx⟩, y, z⟩
  have r2 := r1.fill (i := i) (by rw [List.length_set]; exact hi) c1 c2 fun b hb => ⟨fun z => ?_, fun j hj => ?_⟩
  · have eσ : σ.set i (some v) = σ := by
      apply List.ext_getElem?
      intro j
      rw [getElem?_set' (lt_of_some ev)]
      by_cases z : i = j
      · rw [if_pos z, ← z, ev]
      · rw [if_neg z]
    rw [eσ, List.set_set] at r2
    refine ⟨_, r2, fun b hb => hu b (kfr b hb), fun j b hb => ?_⟩
    by_cases hj : j = i
    · rw [if_pos hj] at hb
      rcases c3 b hb with z | z
      · exact .inl ⟨i, z.1⟩
      · rcases List.mem_cons.mp z with rfl | z
        · exact .inl ⟨i, ha⟩
        · exact .inr z
    · rw [if_neg hj, if_neg hj] at hb
      exact .inl ⟨j, hb⟩
  · rcases c3 b hb with w | w
    · exact (r.fr b z).2.2 i w.1
    · rcases List.mem_cons.mp w with rfl | w
      · exact (r.fr b z).2.2 i ha
      · rcases d' b w with y | y
        · exact (r.fr b z).2.2 i (b4 b (List.mem_cons_of_mem _ y))
        · exact y.1 z
  · rw [if_neg hj]
    intro hbj
    rcases c3 b hb with w | w
    · exact r.dj i j b (fun y => hj y.symm) w.1 hbj
    · rcases List.mem_cons.mp w with rfl | w
      · exact r.dj i j b (fun y => hj y.symm) ha hbj
      · rcases d' b w with y | y
        · exact r.dj i j b (fun y => hj y.symm) (b4 b (List.mem_cons_of_mem _ y)) hbj
        · exact y.2 j hbj
end
end Ow
set_option Elab.async false
set_option linter.all false
set_option maxRecDepth 100000
set_option maxHeartbeats 4000000
namespace Ow
open PySem L2

/-! ### changing what a name holds -/
def EvPl (c : Cfg) (te : TE) (i : Nat) (p : List Nat) : Prop := ∀ F H σ env fp fr Q o v u, Rel c.K F H σ env fp fr → env[i]? = some (some o) → σ[i]? = some (some v) → Nav c.K F H p o v u → Q u H → te σ H Q
section
variable {c : Cfg} {te ta tb : TE} {f g : M O}
theorem evpl_name {i : Nat} : EvPl c (tVar i) i [] := fun F H σ env fp fr Q o v u r e ev n w => by
  obtain rfl : u = v := n
  exact ⟨u, ev, w⟩
theorem nav_split {K : PySem.W.Frag} {F H : Hp} : ∀ (p : List Nat) (k : Nat) {o : O} {v u' : V}, Nav K F H (p ++ [k]) o v u' → ∃ u a vs, Nav K F H p o v u ∧ u = .ref a ∧ (H a = some (.lst vs) ∨ SqT K F a vs) ∧ vs[k]? = some u'
  | [], k, o, v, u', n => by
    cases o with
    | lst w xs =>
      obtain ⟨a, vs, x, y, e1, e2, e3, e4, e5⟩ := n
      obtain rfl : u' = y := e5
      exact ⟨v, a, vs, rfl, e1, .inl e2, e4⟩
    | tup xs =>
      obtain ⟨a, vs, x, y, e1, e2, e3, e4, e5⟩ := n
      obtain rfl : u' = y := e5
      exact ⟨v, a, vs, rfl, e1, .inr e2, e4⟩
    | non => exact n.elim
    | bl b => exact n.elim
    | int b => exact n.elim
    | str b => exact n.elim
    | scr b => exact n.elim
  | j :: p, k, o, v, u', n => by
    cases o with
    | lst w xs =>
      obtain ⟨a, vs, x, y, e1, e2, e3, e4, e5⟩ := n
      obtain ⟨u, b, us, h1, h2⟩ := nav_split p k e5
      exact ⟨u, b, us, ⟨a, vs, x, y, e1, e2, e3, e4, h1⟩, h2⟩
    | tup xs =>
      obtain ⟨a, vs, x, y, e1, e2, e3, e4, e5⟩ := n
      obtain ⟨u, b, us, h1, h2⟩ := nav_split p k e5
      exact ⟨u, b, us, ⟨a, vs, x, y, e1, e2, e3, e4, h1⟩, h2⟩
    | non => exact n.elim
    | bl b => exact n.elim
    | int b => exact n.elim
    | str b => exact n.elim
    | scr b => exact n.elim
theorem evpl_ix {i k : Nat} {p : List Nat} (h : EvPl c te i p) : EvPl c (tOp (rIx c.K) te (tC (.int (k : Int)))) i (p ++ [k]) := fun F H σ env fp fr Q o v u' r e ev n w => by
  obtain ⟨u, a, vs, n1, rfl, n2, n3⟩ := nav_split p k n
  refine h F H σ env fp fr _ o v _ r e ev n1 ?_
  rcases n2 with n2 | n2
  · exact .inl ⟨a, vs, (k : Int), u', rfl, rfl, .inl (.inl n2), atI_nat n3, w⟩
  · exact .inr (.inl ⟨a, vs, (k : Int), u', rfl, rfl, sqT_sub r.sub n2, atI_nat n3, w⟩)

/-- the list at a place gets one more -/
def mAppP (i : Nat) (p : List Nat) (f : M O) : M O := fun env => match env[i]? with
  | some (some o) => (match o.at p with
    | some (.lst true xs) => (f env).bind fun e y => if y.fixed && decide (xs.length < lim) then .ok (e.set i (some (o.put p (.lst true (xs ++ [y]))))) .non else .bad
    | _ => .bad)
  | _ => .bad
theorem evo_appP {i : Nat} {p : List Nat} (hp : EvPl c ta i p) (hf : EvC c te f) : EvO c (tBM c.K "list" rAppend ta (tCons te tNil)) (mAppP i p f) := fun F H σ env fp fr Q rl w => by
  unfold mAppP at w
  split at w
  · rename_i o e
    split at w
    · rename_i xs ep
      obtain ⟨v, a, vs, f0, ev, nav, hH, rr, nf, naf, sub, ha, hF, chg⟩ := rl.mutate e ep
      refine hp F H σ env fp fr _ o v _ rl e ev nav ⟨.inl ⟨rfl, vs, .inl (.inl hH)⟩, ?_⟩
      rcases hf.fm env with e2 | ⟨y, e2⟩
      · rw [e2] at w; exact w.elim
      · rw [e2] at w
        simp only [R.bind] at w
        refine hf.run F H σ env fp fr _ y rl e2 fun vy fy qy => ?_
        split at w
        · rename_i hz
          rw [Bool.and_eq_true, decide_eq_true_eq] at hz
          have z := Rp.nofp y vy fy hz.1 qy
          subst z
          refine ⟨a, vs, vy, rfl, rfl, hH, by rw [rr.len]; exact Nat.lt_trans hz.2 (by decide), ?_⟩
          obtain ⟨fp', r', k', _⟩ := chg (xs ++ [y]) (vs ++ [vy]) (f0 ++ []) (Rps.app rr (Rps.cons0.mpr ⟨qy, rfl, rfl⟩)) (by simpa using nf) fun b hb => .inl (by simpa using hb)
          exact w .non F _ fp' [] (same_refl _) k' r' ⟨rfl, rfl⟩ List.nodup_nil fun _ z => nomatch z
        · exact w.elim
    · exact w.elim
  · exact w.elim
/-- x.append(e) -/
def mApp (i : Nat) (f : M O) : M O := fun env => match env[i]? with
  | some (some (.lst true _)) => (f env).bind fun e y => (match e[i]? with
    | some (some (.lst true xs)) => if xs.length < lim then .ok (e.set i (some (.lst true (xs ++ [y])))) .non else .bad
    | _ => .bad)
  | _ => .bad
theorem lst_own {K : PySem.W.Frag} {F H : Hp} {xs : List O} {v : V} {fp : List Addr} (h : Rp K F H (.lst true xs) v fp) : ∃ a vs, v = .ref a ∧ H a = some (.lst vs) := by
  obtain ⟨a, vs, f, rfl, r, q⟩ := h
  rcases q with ⟨hw, _⟩ | ⟨_, q, _, _⟩
  · cases hw
  · exact ⟨a, vs, rfl, q⟩
theorem evo_app {i : Nat} (hf : EvO c te f) : EvO c (tBM c.K "list" rAppend (tVar i) (tCons te tNil)) (mApp i f) := fun F H σ env fp fr Q rl w => by
  unfold mApp at w
  split at w
  · rename_i xs0 e
    obtain ⟨v, ev, q⟩ := rl.sl i _ e
    obtain ⟨a, vs, rfl, hH⟩ := lst_own q
    refine ⟨.ref a, ev, .inl ⟨rfl, vs, .inl (.inl hH)⟩, hf F H σ env fp fr _ rl ?_⟩
    cases e2 : f env with
    | bad => rw [e2] at w; exact w.elim
    | err env2 x => rw [e2] at w; exact w
    | ok env2 y =>
      rw [e2] at w
      intro vy F2 H2 fp2 fy s2 k2 r2 qy ny dy
      simp only [R.bind] at w
      split at w
      · rename_i xs e3
        split at w
        · rename_i hz
          obtain ⟨v', a', vs', f0, ev', nav, hH', rr, nf, naf, sub, ha, hF, chg⟩ := r2.mutate (p := []) e3 rfl
          rw [ev] at ev'; cases ev'
          have e4 : V.ref a' = V.ref a := nav
          cases e4
          refine ⟨a, vs', vy, rfl, rfl, hH', by rw [rr.len]; exact Nat.lt_trans hz (by decide), ?_⟩
          obtain ⟨fp', r', k', _⟩ := chg (xs ++ [y]) (vs' ++ [vy]) (f0 ++ fy) (Rps.app rr ⟨vy, [], fy, [], rfl, qy, ⟨rfl, rfl⟩, by simp⟩)
            (List.nodup_append.mpr ⟨nf, ny, fun b hb d hd z => (dy d hd).2 i (z ▸ sub b hb)⟩) fun b hb => by
              rcases List.mem_append.mp hb with z | z
              · exact .inl z
              · exact .inr (dy b z)
          exact w .non F2 _ fp' [] s2 (k2.trans k') r' ⟨rfl, rfl⟩ List.nodup_nil fun _ z => nomatch z
        · exact w.elim
      · exact w.elim
  · exact w.elim
/-- x.pop() -/
def mPop (i : Nat) : M O := fun env => match env[i]? with
  | some (some (.lst true xs)) => (match xs[xs.length - 1]? with
    | some y => if y.fixed then .ok (env.set i (some (.lst true xs.dropLast))) y else .bad
    | none => .bad)
  | _ => .bad
theorem Rps.sub_take {K : PySem.W.Frag} {F H : Hp} : ∀ {xs : List O} {vs : List V} {f : List Addr}, Rps K F H xs vs f → f.Nodup → ∃ f', Rps K F H xs.dropLast vs.dropLast f' ∧ f'.Nodup ∧ ∀ a ∈ f', a ∈ f
  | [], vs, f, h, n => by obtain ⟨rfl, rfl⟩ := h; exact ⟨[], ⟨rfl, rfl⟩, n, fun _ h => h⟩
  | [x], vs, f, h, n => by
    obtain ⟨v, vs', f1, f2, rfl, r1, ⟨rfl, rfl⟩, rfl⟩ := h
    exact ⟨[], ⟨rfl, rfl⟩, List.nodup_nil, fun _ z => nomatch z⟩
  | x :: y :: xs, vs, f, h, n => by
    obtain ⟨v, vs', f1, f2, rfl, r1, r2, rfl⟩ := h
    obtain ⟨v2, vs2, g1, g2, rfl, q1, q2, rfl⟩ := id r2
    obtain ⟨n1, n2, n12⟩ := List.nodup_append.mp n
    obtain ⟨f', a1, a2, a3⟩ := Rps.sub_take r2 n2
    exact ⟨f1 ++ f', ⟨v, (v2 :: vs2).dropLast, f1, f', rfl, r1, a1, rfl⟩, List.nodup_append.mpr ⟨n1, a2, fun a ha b hb => n12 a ha b (a3 b hb)⟩, fun a ha => by
      rcases List.mem_append.mp ha with z | z
      · exact List.mem_append_left _ z
      · exact List.mem_append_right _ (a3 a z)⟩
theorem Rps.sub_erase {K : PySem.W.Frag} {F H : Hp} : ∀ {xs : List O} {vs : List V} {f : List Addr} (k : Nat), Rps K F H xs vs f → f.Nodup → ∃ f', Rps K F H (xs.eraseIdx k) (vs.eraseIdx k) f' ∧ f'.Nodup ∧ ∀ a ∈ f', a ∈ f
  | [], vs, f, k, h, n => by obtain ⟨rfl, rfl⟩ := h; exact ⟨[], ⟨rfl, rfl⟩, n, fun _ h => h⟩
  | x :: xs, vs, f, 0, h, n => by
    obtain ⟨v, vs', f1, f2, rfl, r1, r2, rfl⟩ := h
    exact ⟨f2, r2, (List.nodup_append.mp n).2.1, fun a ha => List.mem_append_right _ ha⟩
  | x :: xs, vs, f, k + 1, h, n => by
    obtain ⟨v, vs', f1, f2, rfl, r1, r2, rfl⟩ := h
    obtain ⟨n1, n2, n12⟩ := List.nodup_append.mp n
    obtain ⟨f', a1, a2, a3⟩ := Rps.sub_erase k r2 n2
    exact ⟨f1 ++ f', ⟨v, vs'.eraseIdx k, f1, f', rfl, r1, a1, rfl⟩, List.nodup_append.mpr ⟨n1, a2, fun a ha b hb => n12 a ha b (a3 b hb)⟩, fun a ha => by
      rcases List.mem_append.mp ha with z | z
      · exact List.mem_append_left _ z
      · exact List.mem_append_right _ (a3 a z)⟩
theorem Rps.sub_set {K : PySem.W.Frag} {F H : Hp} (s : Sub F H) {xs : List O} {vs : List V} {f : List Addr} {k : Nat} {y : O} {vy : V} {fy : List Addr} (h : Rps K F H xs vs f) (n : f.Nodup) (hk : k < xs.length) (q : Rp K F H y vy fy) (ny : fy.Nodup) (d : ∀ a ∈ fy, a ∉ f) :
    ∃ f', Rps K F H (xs.set k y) (vs.set k vy) f' ∧ f'.Nodup ∧ ∀ a ∈ f', a ∈ f ∨ a ∈ fy := by
  induction xs generalizing vs f k with
  | nil => simp at hk
  | cons x xs ih =>
    obtain ⟨v, vs', f1, f2, rfl, r1, r2, rfl⟩ := h
    obtain ⟨n1, n2, n12⟩ := List.nodup_append.mp n
    cases k with
    | zero =>
      exact ⟨fy ++ f2, ⟨vy, vs', fy, f2, rfl, q, r2, rfl⟩, List.nodup_append.mpr ⟨ny, n2, fun a ha b hb z => d a ha (z ▸ List.mem_append_right _ hb)⟩, fun a ha => by
        rcases List.mem_append.mp ha with z | z
        · exact .inr z
        · exact .inl (List.mem_append_right _ z)⟩
    | succ k =>
      obtain ⟨f', a1, a2, a3⟩ := ih (k := k) r2 n2 (by simpa using hk) (fun a ha z => d a ha (List.mem_append_right _ z))
      refine ⟨f1 ++ f', ⟨v, vs'.set k vy, f1, f', rfl, r1, a1, rfl⟩, List.nodup_append.mpr ⟨n1, a2, fun a ha b hb z => ?_⟩, fun a ha => ?_⟩
      · subst z
        rcases a3 a hb with w | w
        · exact n12 a ha a w rfl
        · exact d a w (List.mem_append_left _ ha)
      · rcases List.mem_append.mp ha with z | z
        · exact .inl (List.mem_append_left _ z)
        · rcases a3 a z with w | w
          · exact .inl (List.mem_append_right _ w)
          · exact .inr w
theorem evo_pop {i : Nat} : EvO c (tBM0 c.K "list" rPop (tVar i)) (mPop i) := fun F H σ env fp fr Q rl w => by
  unfold mPop at w
  split at w
  · rename_i xs e
    obtain ⟨v, a, vs, f0, ev, nav, hH, rr, nf, naf, sub, ha, hF, chg⟩ := rl.mutate (p := []) e rfl
    obtain rfl : V.ref a = v := nav
    refine ⟨.ref a, ev, .inl ⟨rfl, vs, .inl (.inl hH)⟩, ?_⟩
    split at w
    · rename_i y ey
      split at w
      · rename_i hy
        obtain ⟨vy, fy, e1, q1, _, _⟩ := rr.get ey
        have z := Rp.nofp y vy fy hy q1
        subst z
        obtain ⟨f', a1, a2, a3⟩ := rr.sub_take nf
        refine ⟨a, vs, vy, rfl, rfl, hH, by rw [rr.len]; exact e1, ?_⟩
        obtain ⟨fp', r', k', _⟩ := chg _ _ f' a1 a2 fun b hb => .inl (a3 b hb)
        exact w vy F _ fp' [] (same_refl _) k' r' (Rp.keep (same_refl _) y vy [] q1 fun _ z => nomatch z) List.nodup_nil fun _ z => nomatch z
      · exact w.elim
    · exact w.elim
  · exact w.elim
/-- x.pop(e), e from 0 on -/
def mPopAt (i : Nat) (f : M O) : M O := fun env => match env[i]? with
  | some (some (.lst true _)) => (f env).bind fun e y => (match e[i]?, y with
    | some (some (.lst true xs)), .int k => if 0 ≤ k ∧ k < 1000000 then (match xs[k.toNat]? with
      | some y => if y.fixed then .ok (e.set i (some (.lst true (xs.eraseIdx k.toNat)))) y else .bad
      | none => .bad) else .bad
    | _, _ => .bad)
  | _ => .bad
theorem seqIx {k : Int} {n : Nat} (h0 : 0 ≤ k) (h1 : k.toNat < n) : seqIndex? k n = some k.toNat := PySem.seqIndex_of h0 (by omega)
theorem evo_popAt {i : Nat} (hf : EvF c te f) : EvO c (tBM c.K "list" rPopAt (tVar i) (tCons te tNil)) (mPopAt i f) := fun F H σ env fp fr Q rl w => by
  unfold mPopAt at w
  split at w
  · rename_i xs0 e
    obtain ⟨v, ev, q⟩ := rl.sl i _ e
    obtain ⟨a, vs, rfl, hH⟩ := lst_own q
    refine ⟨.ref a, ev, .inl ⟨rfl, vs, .inl (.inl hH)⟩, hf F H σ env fp fr _ rl ?_⟩
    cases e2 : f env with
    | bad => rw [e2] at w; exact w.elim
    | err env2 x => rw [e2] at w; exact w
    | ok env2 y =>
      rw [e2] at w
      intro vy F2 H2 fp2 s2 k2 r2 qy
      simp only [R.bind] at w
      split at w
      · rename_i xs k e3
        obtain ⟨rfl, _⟩ := qy
        split at w
        · rename_i hk
          split at w
          · rename_i y ey
            split at w
            · rename_i hy
              obtain ⟨v', a', vs', f0, ev', nav, hH', rr, nf, naf, sub, ha, hF, chg⟩ := r2.mutate (p := []) e3 rfl
              rw [ev] at ev'; cases ev'
              have e4 : V.ref a' = V.ref a := nav
              cases e4
              obtain ⟨vy, fy, e1, q1, _, _⟩ := rr.get ey
              have z := Rp.nofp y vy fy hy q1
              subst z
              obtain ⟨f', a1, a2, a3⟩ := rr.sub_erase k.toNat nf
              have hl : k.toNat < vs'.length := lt_of_some e1
              refine ⟨a, vs', k, k.toNat, vy, rfl, rfl, hH', by omega, by omega, seqIx hk.1 hl, e1, ?_⟩
              obtain ⟨fp', r', k', _⟩ := chg _ _ f' a1 a2 fun b hb => .inl (a3 b hb)
              exact w vy F2 _ fp' [] s2 (k2.trans k') r' (Rp.keep (same_refl _) y vy [] q1 fun _ z => nomatch z) List.nodup_nil fun _ z => nomatch z
            · exact w.elim
          · exact w.elim
        · exact w.elim
      · exact w.elim
  · exact w.elim
theorem idx_first : ∀ (ns : List Int) (k : Int) (m : Nat), m < ns.idxOf k → ns[m]? ≠ some k := by
  intro ns k
  induction ns with
  | nil => intro m _; simp
  | cons x xs ih =>
    intro m hm
    rw [List.idxOf_cons] at hm
    by_cases h : x == k
    · simp [h] at hm
    · simp [h] at hm
      cases m with
      | zero => simp; simpa using h
      | succ m => simp; exact ih m (by omega)
/-- x.remove(e), of ints -/
def mRemove (i : Nat) (f : M O) : M O := fun env => match env[i]? with
  | some (some (.lst true _)) => (f env).bind fun e y => (match e[i]?, y with
    | some (some (.lst true xs)), .int k => (match intsOf xs with
      | some ns => if k ∈ ns then .ok (e.set i (some (.lst true ((ns.eraseIdx (ns.idxOf k)).map .int)))) .non else .bad
      | none => .bad)
    | _, _ => .bad)
  | _ => .bad
theorem evo_remove {i : Nat} (hf : EvF c te f) : EvO c (tBM c.K "list" rRemI (tVar i) (tCons te tNil)) (mRemove i f) := fun F H σ env fp fr Q rl w => by
  unfold mRemove at w
  split at w
  · rename_i xs0 e
    obtain ⟨v, ev, q⟩ := rl.sl i _ e
    obtain ⟨a, vs, rfl, hH⟩ := lst_own q
    refine ⟨.ref a, ev, .inl ⟨rfl, vs, .inl (.inl hH)⟩, hf F H σ env fp fr _ rl ?_⟩
    cases e2 : f env with
    | bad => rw [e2] at w; exact w.elim
    | err env2 x => rw [e2] at w; exact w
    | ok env2 y =>
      rw [e2] at w
      intro vy F2 H2 fp2 s2 k2 r2 qy
      simp only [R.bind] at w
      split at w
      · rename_i xs k e3
        obtain ⟨rfl, _⟩ := qy
        split at w
        · rename_i ns en
          split at w
          · rename_i hk
            obtain ⟨v', a', vs', f0, ev', nav, hH', rr, nf, naf, sub, ha, hF, chg⟩ := r2.mutate (p := []) e3 rfl
            rw [ev] at ev'; cases ev'
            have e4 : V.ref a' = V.ref a := nav
            cases e4
            rw [intsOf_eq en] at rr
            have evs := rps_ints rr
            subst evs
            have hix : ns.idxOf k < ns.length := List.idxOf_lt_length_of_mem hk
            refine ⟨a, ns, k, ns.idxOf k, rfl, rfl, hH', by rw [List.getElem?_eq_getElem hix]; simp, fun m hm => idx_first ns k m hm, ?_⟩
            obtain ⟨fp', r', k', _⟩ := chg ((ns.eraseIdx (ns.idxOf k)).map .int) ((ns.eraseIdx (ns.idxOf k)).map .int) [] (Rps.ints _) List.nodup_nil fun b hb => nomatch hb
            exact w .non F2 _ fp' [] s2 (k2.trans k') r' ⟨rfl, rfl⟩ List.nodup_nil fun _ z => nomatch z
          · exact w.elim
        · exact w.elim
      · exact w.elim
  · exact w.elim
/-- x.extend(e) -/
def mExtend (i : Nat) (f : M O) : M O := fun env => match env[i]? with
  | some (some (.lst true _)) => (f env).bind fun e y => (match e[i]?, y with
    | some (some (.lst true xs)), .lst _ ys => if xs.length + ys.length ≤ lim then .ok (e.set i (some (.lst true (xs ++ ys)))) .non else .bad
    | _, _ => .bad)
  | _ => .bad
theorem evo_extend {i : Nat} (hf : EvF c te f) : EvO c (tBM c.K "list" rExtend (tVar i) (tCons te tNil)) (mExtend i f) := fun F H σ env fp fr Q rl w => by
  unfold mExtend at w
  split at w
  · rename_i xs0 e
    obtain ⟨v, ev, q⟩ := rl.sl i _ e
    obtain ⟨a, vs, rfl, hH⟩ := lst_own q
    refine ⟨.ref a, ev, .inl ⟨rfl, vs, .inl (.inl hH)⟩, hf F H σ env fp fr _ rl ?_⟩
    cases e2 : f env with
    | bad => rw [e2] at w; exact w.elim
    | err env2 x => rw [e2] at w; exact w
    | ok env2 y =>
      rw [e2] at w
      intro vy F2 H2 fp2 s2 k2 r2 qy
      simp only [R.bind] at w
      split at w
      · rename_i xs w0 ys e3
        split at w
        · rename_i hz
          obtain ⟨v', a', vs', f0, ev', nav, hH', rr, nf, naf, sub, ha, hF, chg⟩ := r2.mutate (p := []) e3 rfl
          rw [ev] at ev'; cases ev'
          have e4 : V.ref a' = V.ref a := nav
          cases e4
          obtain ⟨b, us, g, rfl, hb, rb, hg⟩ := list_of r2.sub qy
          have z : g = [] := List.eq_nil_iff_forall_not_mem.mpr fun x hx => nomatch hg x hx
          subst z
          refine ⟨a, b, vs', us, rfl, rfl, hH', hb, by rw [rr.len, rb.len]; exact lim_le hz, ?_⟩
          obtain ⟨fp', r', k', _⟩ := chg (xs ++ ys) (vs' ++ us) (f0 ++ []) (Rps.app rr rb) (by simpa using nf) fun b hb => .inl (by simpa using hb)
          exact w .non F2 _ fp' [] s2 (k2.trans k') r' ⟨rfl, rfl⟩ List.nodup_nil fun _ z => nomatch z
        · exact w.elim
      · exact w.elim
  · exact w.elim
end
end Ow
set_option Elab.async false
set_option linter.all false
set_option maxRecDepth 100000
set_option maxHeartbeats 4000000
namespace Ow
open PySem L2

/-- x[e] = v -/
def mSetI (i : Nat) (g f : M O) : M Ctl := fun env => (f env).bind fun e y => match e[i]? with
  | some (some (.lst true _)) => (g e).bind fun e k => (match e[i]?, k with
    | some (some (.lst true xs)), .int k => (match ixN xs.length k with
      | some j => .ok (e.set i (some (.lst true (xs.set j y)))) .nx
      | none => .bad)
    | _, _ => .bad)
  | _ => .bad
/-- x[e] op= v -/
def mAugI (i : Nat) (op : O → O → Option O) (g f : M O) : M Ctl := fun env => match env[i]? with
  | some (some (.lst true _)) => (g env).bind fun e k => (match e[i]?, k with
    | some (some (.lst true xs)), .int k => if 0 ≤ k ∧ k < 1000000 then (match xs[k.toNat]? with
      | some x => if x.fixed then (f e).bind fun e y => (match op x y with
          | some z => (match e[i]? with
            | some (some (.lst true xs)) => if k.toNat < xs.length ∧ z.fixed = true then .ok (e.set i (some (.lst true (xs.set k.toNat z)))) .nx else .bad
            | _ => .bad)
          | none => .bad) else .bad
      | none => .bad) else .bad
    | _, _ => .bad)
  | _ => .bad
def rGetL (K : PySem.W.Frag) : V → V → Hp → VK → Prop := fun o i H Q => ∃ p xs k v, o = .ref p ∧ i = .int k ∧ SqL K H p xs ∧ 0 ≤ k ∧ k < 2 ^ 62 ∧ xs[k.toNat]? = some v ∧ Q v H
theorem get_list {X : Cx} : PGet X (rGetL X.K) := by
  intro pins s σ H o i ov iv Q I ro ri h
  obtain ⟨p, xs, k, v, rfl, rfl, hq, h0, h1, hk, q⟩ := h
  cases ro
  obtain ⟨t, rfl⟩ := ri
  obtain ⟨its, r, pl, hz⟩ := I.list hq
  obtain ⟨w, ew, rw'⟩ := r.get hk
  exact PyProof.Rows.getItem_listL pl.isList h0 (by omega) ew ⟨v, H, I, rw', q⟩
def rIAddG : R2 := fun x y H Q => rI0 (fun i j => .int (i + j)) x y H Q ∨ (∃ i j, x = .str i ∧ y = .str j ∧ i.length + j.length ≤ sizeLine ∧ Q (.str (i ++ j)) H)
theorem ip_addG {X : Cx} : PIp X .Add rIAddG := OpR.or iop_add iop_add_str
theorem ip_subG {X : Cx} : PIp X .Sub (rI0 fun i j => .int (i - j)) := iop_sub
def oIAdd : O → O → Option O
  | .int i, .int j => some (.int (i + j))
  | .str a, .str b => if a.length + b.length ≤ lim then some (.str (a ++ b)) else none
  | _, _ => none
theorem opp_iadd {K : PySem.W.Frag} : OpP K rIAddG oIAdd := fun F H x y vx vy fx fy Q s hx hy w => by
  unfold oIAdd at w
  split at w
  · obtain ⟨rfl, _⟩ := hx
    obtain ⟨rfl, _⟩ := hy
    exact .inl ⟨_, _, rfl, rfl, w.val s ⟨rfl, rfl⟩⟩
  · obtain ⟨rfl, _⟩ := hx
    obtain ⟨rfl, _⟩ := hy
    split at w
    · rename_i hz
      refine .inr ⟨_, _, rfl, rfl, ?_, ?_⟩
      · rw [str_len, str_len]; exact lim_le hz
      · rw [str_app]; exact w.val s ⟨rfl, rfl⟩
    · exact w.elim
  · exact w.elim
section
variable {c : Cfg} {B : List Nat} {te ta tb ti tv : TE} {f g : M O}
theorem evs_setI {i : Nat} (hv : EvF c tv f) (hg : EvF c ti g) : EvS c B (tAsg tv (gSub (tVar i) ti rSetL)) (mSetI i g f) := fun F H σ env fp fr D rl w => by
  refine hv F H σ env fp fr _ rl ?_
  unfold mSetI at w
  cases e1 : f env with
  | bad => rw [e1] at w; exact (w : False).elim
  | err env1 x => rw [e1] at w; exact WS.of_err w
  | ok env1 y =>
    rw [e1] at w
    intro vy F1 H1 fp1 s1 k1 r1 q1
    simp only [R.bind] at w
    split at w
    · rename_i xs0 e0
      obtain ⟨v, ev, q⟩ := r1.sl i _ e0
      refine ⟨v, ev, hg F1 H1 σ env1 fp1 fr _ r1 ?_⟩
      cases e2 : g env1 with
      | bad => rw [e2] at w; exact (w : False).elim
      | err env2 x => rw [e2] at w; exact fun cl d F' H' fp s k r q => w cl d σ F' H' fp (s1.trans s) (k1.trans k) AgB.refl r q
      | ok env2 kk =>
        rw [e2] at w
        intro vk F2 H2 fp2 s2 k2 r2 q2
        simp only at w
        split at w
        · rename_i xs k e3
          obtain ⟨rfl, _⟩ := q2
          split at w
          · rename_i j ej
            obtain ⟨v', a, vs, f0, ev', nav, hH, rr, nf, naf, sub, ha, hF, chg⟩ := r2.mutate (p := []) e3 rfl
            rw [ev] at ev'; cases ev'
            obtain rfl : V.ref a = v := nav
            have hj : j < xs.length := by
              unfold ixN at ej
              split at ej
              · split at ej
                · cases ej; omega
                · cases ej
              · split at ej
                · cases ej; omega
                · cases ej
            have qy : Rp c.K F2 H2 y vy [] := Rp.keep s2 y vy [] q1 fun _ z => nomatch z
            obtain ⟨f', a1, a2, a3⟩ := rr.sub_set r2.sub nf hj qy List.nodup_nil fun _ z => nomatch z
            refine ⟨a, vs, k, j, rfl, rfl, hH, by rw [rr.len]; exact ej, ?_⟩
            obtain ⟨fp', r', k', _⟩ := chg (xs.set j y) (vs.set j vy) f' a1 a2 fun b hb => by
              rcases a3 b hb with z | z
              · exact .inl z
              · cases z
            exact w σ F2 _ fp' (s1.trans s2) ((k1.trans k2).trans k') AgB.refl r'
          · exact (w : False).elim
        · exact (w : False).elim
    · exact (w : False).elim
theorem evs_augI {i : Nat} {tip : TIp} {op : O → O → Option O} (ho : OpF c.K tip op) (hg : EvF c ti g) (hv : EvF c tv f) : EvS c B (tAugS (tVar i) ti tv (rGetL c.K) tip rSetL) (mAugI i op g f) := fun F H σ env fp fr D rl w => by
  unfold mAugI at w
  split at w
  · rename_i xs0 e0
    obtain ⟨v, ev, q⟩ := rl.sl i _ e0
    refine ⟨v, ev, hg F H σ env fp fr _ rl ?_⟩
    cases e1 : g env with
    | bad => rw [e1] at w; exact (w : False).elim
    | err env1 x => rw [e1] at w; exact WS.of_err w
    | ok env1 kk =>
      rw [e1] at w
      intro vk F1 H1 fp1 s1 k1 r1 q1
      simp only [R.bind] at w
      split at w
      · rename_i xs k e3
        obtain ⟨rfl, _⟩ := q1
        split at w
        · rename_i hk
          split at w
          · rename_i x ex
            split at w
            · rename_i hx
              obtain ⟨v', ev', q'⟩ := r1.sl i _ e3
              rw [ev] at ev'; cases ev'
              obtain ⟨a, vs, f0, rfl, hH, rr, _⟩ := list_of r1.sub q'
              obtain ⟨vx, fx, ex1, qx, _, _⟩ := rr.get ex
              have z := Rp.nofp x vx fx hx qx
              subst z
              refine ⟨a, vs, k, vx, rfl, rfl, .inl (.inl hH), hk.1, by omega, ex1, hv F1 H1 σ env1 fp1 fr _ r1 ?_⟩
              cases e2 : f env1 with
              | bad => rw [e2] at w; exact (w : False).elim
              | err env2 x => rw [e2] at w; exact fun cl d F' H' fp s k r q => w cl d σ F' H' fp (s1.trans s) (k1.trans k) AgB.refl r q
              | ok env2 y =>
                rw [e2] at w
                intro vy F2 H2 fp2 s2 k2 r2 q2
                simp only at w
                refine ho F2 H2 x y vx vy _ r2.sub (Rp.keep s2 x vx [] qx fun _ z => nomatch z) q2 ?_
                split at w
                · rename_i z ez
                  rw [ez]
                  intro vz F3 H3 fz t1 t2 t3 t4 q3 _ _
                  have r3 := r2.new t1 t2 t3 t4
                  have k3 : Kp fr H2 H3 := Kp.new r2 t2
                  split at w
                  · rename_i xs' e4
                    split at w
                    · rename_i hz
                      have zz := Rp.nofp z vz fz hz.2 q3
                      subst zz
                      obtain ⟨v'', a', vs', f1, ev'', nav, hH', rr', nf, naf, sub, ha, hF, chg⟩ := r3.mutate (p := []) e4 rfl
                      rw [ev] at ev''; cases ev''
                      have e5 : V.ref a' = V.ref a := nav
                      cases e5
                      obtain ⟨f', a1, a2, a3⟩ := rr'.sub_set r3.sub nf hz.1 q3 List.nodup_nil fun _ z => nomatch z
                      refine ⟨a, vs', k, k.toNat, rfl, rfl, hH', ?_, ?_⟩
                      · unfold ixN
                        rw [if_pos hk.1, if_pos (by rw [rr'.len]; omega)]
                      · obtain ⟨fp', r', k', _⟩ := chg (xs'.set k.toNat z) (vs'.set k.toNat vz) f' a1 a2 fun b hb => by
                          rcases a3 b hb with y | y
                          · exact .inl y
                          · cases y
                        exact w σ F3 _ fp' ((s1.trans s2).trans t1) (((k1.trans k2).trans k3).trans k') AgB.refl r'
                    · exact (w : False).elim
                  · exact (w : False).elim
                · exact w.elim
            · exact (w : False).elim
          · exact (w : False).elim
        · exact (w : False).elim
      · exact (w : False).elim
  · exact (w : False).elim

/-! ### methods of texts and lists that change nothing -/
def mMs (op : List Nat → O → Option O) (f g : M O) : M O := fun env => (f env).bind fun e x => match x with
  | .str a => (g e).bind fun e y => (match op a y with
    | some o => .ok e o
    | none => .bad)
  | _ => .bad
theorem evo_ms {r : L2.St → V → List V → Hp → VK → Prop} {op : List Nat → O → Option O} (ho : ∀ (σ : L2.St) F H a y vy Q, Sub F H → Rp c.K F H y vy [] → NewW c.K F H Q (op a y) → r σ (.str ⟨a.toArray⟩) [vy] H Q) (hf : EvP c ta f) (hg : EvF c te g) :
    EvO c (tBMS c.K "str" r ta (tCons te tNil)) (mMs op f g) := fun F H σ env fp fr Q rl w => by
  refine hf F H σ env fp fr _ rl ?_
  unfold mMs at w
  cases e1 : f env with
  | bad => rw [e1] at w; exact w.elim
  | err env1 x => rw [e1] at w; exact w
  | ok env1 x =>
    rw [e1] at w
    intro v F1 H1 fp1 fv s1 k1 r1 q1
    simp only [R.bind] at w
    split at w
    · rename_i a
      obtain ⟨rfl, _⟩ := q1
      refine ⟨rfl, hg F1 H1 σ env1 fp1 fr _ r1 ?_⟩
      cases e2 : g env1 with
      | bad => rw [e2] at w; exact w.elim
      | err env2 x => rw [e2] at w; exact WE.err_up s1 k1 w
      | ok env2 y =>
        rw [e2] at w
        intro vy F2 H2 fp2 s2 k2 r2 q2
        refine ho σ F2 H2 a y vy Q r2.sub q2 ?_
        simp only at w
        split at w
        · rename_i o eo
          rw [eo]; exact newW_of r2 (s1.trans s2) (k1.trans k2) w
        · exact w.elim
    · exact w.elim
def joinN (a : List Nat) : List (List Nat) → List Nat
  | [] => []
  | [x] => x
  | x :: y :: r => x ++ a ++ joinN a (y :: r)
theorem join_eq (a : List Nat) : ∀ ys : List (List Nat), Str.join ⟨a.toArray⟩ (ys.map fun x => (⟨x.toArray⟩ : Str)) = ⟨(joinN a ys).toArray⟩
  | [] => rfl
  | [x] => rfl
  | x :: y :: r => by
    show ((⟨x.toArray⟩ : Str) ++ ⟨a.toArray⟩) ++ Str.join ⟨a.toArray⟩ ((y :: r).map fun x => (⟨x.toArray⟩ : Str)) = _
    rw [join_eq a (y :: r), str_app, str_app]
    rfl
theorem TxJ (y : Str) (ps : List Str) : Txt.join y ps = Str.join y ps := PySem.StrLaws.glued_eq_join y ps
def oJoin (a : List Nat) : O → Option O
  | .lst _ xs => (match strsOf xs with
    | some ys => if (ys.map List.length).sum + ys.length * a.length ≤ lim then some (.str (joinN a ys)) else none
    | none => none)
  | _ => none
theorem opm_join {K : PySem.W.Frag} (σ : L2.St) (F H : Hp) (a : List Nat) (y : O) (vy : V) (Q : VK) (s : Sub F H) (h : Rp K F H y vy []) (w : NewW K F H Q (oJoin a y)) :
    ∃ (a' : Str) (p : Addr), ∃ ys : List Str, V.str ⟨a.toArray⟩ = .str a' ∧ [vy] = [.ref p] ∧ (SqL K H p (ys.map V.str) ∨ SqT K H p (ys.map V.str)) ∧ (ys.map (·.length)).sum + ys.length * a'.length ≤ 16777216 ∧ Q (.str (Txt.join a' ys)) H := by
  unfold oJoin at w
  split at w
  · rename_i w0 xs
    split at w
    · rename_i ys ey
      split at w
      · rename_i hz
        obtain ⟨p, vs, f, rfl, hp, r, _⟩ := list_of s h
        rw [strsOf_eq ey] at r
        have ev := rps_strs r
        subst ev
        refine ⟨_, p, ys.map fun x => (⟨x.toArray⟩ : Str), rfl, rfl, .inl (.inl (.inl hp)), ?_, ?_⟩
        · rw [str_len, List.map_map, List.length_map]
          have : (ys.map ((fun x : Str => x.length) ∘ fun x => (⟨x.toArray⟩ : Str))) = ys.map List.length := by
            apply List.map_congr_left; intro x _; exact str_len x
          rw [this]
          exact Nat.le_trans hz (by decide)
        · rw [TxJ, join_eq]; exact w.val s ⟨rfl, rfl⟩
      · exact w.elim
    · exact w.elim
  · exact w.elim
def oIndexS (a : List Nat) : O → Option O
  | .str b => (Txt.index0 ⟨a.toArray⟩ ⟨b.toArray⟩).map fun k => .int (k : Nat)
  | _ => none
theorem opm_indexS {K : PySem.W.Frag} {W : L2.WX} (σ : L2.St) (F H : Hp) (a : List Nat) (y : O) (vy : V) (Q : VK) (s : Sub F H) (h : Rp K F H y vy []) (w : NewW K F H Q (oIndexS a y)) : rIndexX W σ (.str ⟨a.toArray⟩) [vy] H Q := by
  unfold oIndexS at w
  split at w
  · rename_i b
    obtain ⟨rfl, _⟩ := h
    cases e : Txt.index0 ⟨a.toArray⟩ ⟨b.toArray⟩ with
    | none => rw [e] at w; exact w.elim
    | some k =>
      rw [e] at w
      refine ⟨_, _, rfl, rfl, fun k' hk => ?_, fun hn => by rw [e] at hn; cases hn⟩
      rw [e] at hk; cases hk
      exact w.val s ⟨rfl, rfl⟩
  · exact w.elim
/-- xs.index(y), flat things -/
def oIndexL : O → O → Option O
  | .lst _ xs, y => if y.flat && xs.all O.flat then (xs.findIdx? fun z => eqO z y).map fun k => .int (k : Nat) else none
  | _, _ => none
def mMl (op : O → O → Option O) (f g : M O) : M O := fun env => (f env).bind fun e x => match x with
  | .lst w xs => (g e).bind fun e y => (match op (.lst w xs) y with
    | some o => .ok e o
    | none => .bad)
  | _ => .bad
theorem evo_ml {r : V → List V → Hp → VK → Prop} {op : O → O → Option O} (ho : ∀ F H x y vx vy Q, Sub F H → Rp c.K F H x vx [] → Rp c.K F H y vy [] → NewW c.K F H Q (op x y) → r vx [vy] H Q) (hf : EvF c ta f) (hg : EvF c te g) :
    EvO c (tBM c.K "list" r ta (tCons te tNil)) (mMl op f g) := fun F H σ env fp fr Q rl w => by
  refine hf F H σ env fp fr _ rl ?_
  unfold mMl at w
  cases e1 : f env with
  | bad => rw [e1] at w; exact w.elim
  | err env1 x => rw [e1] at w; exact w
  | ok env1 x =>
    rw [e1] at w
    intro v F1 H1 fp1 s1 k1 r1 q1
    simp only [R.bind] at w
    split at w
    · rename_i w0 xs
      obtain ⟨a, vs, f0, rfl, hH, rr, _⟩ := list_of r1.sub q1
      refine ⟨.inl ⟨rfl, vs, .inl (.inl hH)⟩, hg F1 H1 σ env1 fp1 fr _ r1 ?_⟩
      cases e2 : g env1 with
      | bad => rw [e2] at w; exact w.elim
      | err env2 x => rw [e2] at w; exact WE.err_up s1 k1 w
      | ok env2 y =>
        rw [e2] at w
        intro vy F2 H2 fp2 s2 k2 r2 q2
        refine ho F2 H2 _ y _ vy Q r2.sub (Rp.keep s2 _ _ [] q1 fun _ z => nomatch z) q2 ?_
        simp only at w
        split at w
        · rename_i o eo
          rw [eo]; exact newW_of r2 (s1.trans s2) (k1.trans k2) w
        · exact w.elim
    · exact w.elim
theorem opm_indexL {K : PySem.W.Frag} (F H : Hp) (x y : O) (vx vy : V) (Q : VK) (s : Sub F H) (hx : Rp K F H x vx []) (hy : Rp K F H y vy []) (w : NewW K F H Q (oIndexL x y)) : rIndex K vx [vy] H Q := by
  unfold oIndexL at w
  split at w
  · rename_i w0 xs
    split at w
    · rename_i hf
      rw [Bool.and_eq_true] at hf
      obtain ⟨a, vs, f0, rfl, hH, rr, _⟩ := list_of s hx
      obtain ⟨fvs, _⟩ := flats_of rr hf.2
      obtain ⟨fy, _⟩ := flat_of hy hf.1
      cases e : xs.findIdx? fun z => eqO z y with
      | none => rw [e] at w; exact w.elim
      | some k =>
        rw [e] at w
        rw [List.findIdx?_eq_some_iff_getElem] at e
        obtain ⟨hk, h1, h2⟩ := e
        have eqk : ∀ (m : Nat) (hm : m < xs.length) (z : V), vs[m]? = some z → eqV z vy = eqO xs[m] y := fun m hm z hz => by
          obtain ⟨z', f', b1, b2, _, _⟩ := rr.get (List.getElem?_eq_getElem hm)
          rw [hz] at b1; cases b1
          have fl : xs[m].flat = true := List.all_eq_true.mp hf.2 _ (List.getElem_mem hm)
          exact (flat_of b2 fl).2 y vy [] hy hf.1
        have hkv : k < vs.length := by rw [rr.len]; exact hk
        refine ⟨a, vs, vy, k, vs[k], rfl, rfl, .inl (.inl hH), fy, fvs, List.getElem?_eq_getElem hkv, ?_, fun m z hm hz => ?_, w.val s ⟨rfl, rfl⟩⟩
        · rw [eqk k hk _ (List.getElem?_eq_getElem hkv)]; exact h1
        · have hmx : m < xs.length := by omega
          rw [eqk m hmx z hz]
          have := h2 m hm
          simpa using this
    · exact w.elim
  · exact w.elim
end
/-! ### str(n) -/
def strI (i : Int) : List Nat := (Str.ofString (toString i)).cps.toList
def oStr : O → Option O
  | .int i => if i.natAbs < 2 ^ 1000 then some (.str (strI i)) else none
  | _ => none
theorem opl_str {K : PySem.W.Frag} : OpL1 K (fun xs H Q => ∃ i : Int, xs = [.int i] ∧ i.natAbs.log2 < 1920 ∧ Q (.str (toString i)) H) oStr := fun F H x v fx Q s hx w => by
  unfold oStr at w
  split at w
  · rename_i i
    obtain ⟨rfl, _⟩ := hx
    split at w
    · rename_i hi
      refine ⟨i, rfl, ?_, w.val s ⟨by simp [strI], rfl⟩⟩
      by_cases z : i.natAbs = 0
      · rw [z]; decide
      · have := (Nat.log2_lt z).mpr hi
        omega
    · exact w.elim
  · exact w.elim
end Ow
set_option Elab.async false
set_option linter.all false
set_option maxRecDepth 100000
set_option maxHeartbeats 4000000
namespace Ow
open PySem L2

/-! ### a piece of text and what it does, in one -/
abbrev cf (X : Cx) (cm : Str → Addr) (W : L2.WX) : Cfg := ⟨X.K, cm, W⟩
structure XO (X : Cx) (cm : Str → Addr) (W : L2.WX) (e : Expr) (te : TE) (f : M O) : Prop where
  pe : PE X e te
  ev : EvO (cf X cm W) te f
structure XF (X : Cx) (cm : Str → Addr) (W : L2.WX) (e : Expr) (te : TE) (f : M O) : Prop where
  pe : PE X e te
  ev : EvF (cf X cm W) te f
structure XP (X : Cx) (cm : Str → Addr) (W : L2.WX) (e : Expr) (te : TE) (f : M O) : Prop where
  pe : PE X e te
  ev : EvP (cf X cm W) te f
structure XC (X : Cx) (cm : Str → Addr) (W : L2.WX) (e : Expr) (te : TE) (f : M O) : Prop where
  pe : PE X e te
  ev : EvC (cf X cm W) te f
structure XPl (X : Cx) (cm : Str → Addr) (W : L2.WX) (e : Expr) (te : TE) (i : Nat) (p : List Nat) : Prop where
  pe : PE X e te
  ev : EvPl (cf X cm W) te i p
structure XT (X : Cx) (cm : Str → Addr) (W : L2.WX) (e : Expr) (tt : TT) (p : M Bool) : Prop where
  pt : PT X e tt
  ev : EvT (cf X cm W) tt p
structure XW (X : Cx) (cm : Str → Addr) (W : L2.WX) (e : Expr) (tt : TT) (p : M Bool) : Prop where
  pw : PW X e tt
  ev : EvT (cf X cm W) tt p
structure XA (X : Cx) (cm : Str → Addr) (W : L2.WX) (es : List Expr) (ta : TA) (f : M (List O)) : Prop where
  pa : PA X es ta
  ev : EvA (cf X cm W) ta f
structure XAF (X : Cx) (cm : Str → Addr) (W : L2.WX) (es : List Expr) (ta : TA) (f : M (List O)) : Prop where
  pa : PA X es ta
  ev : EvAF (cf X cm W) ta f
structure XAr (X : Cx) (cm : Str → Addr) (W : L2.WX) (es : List Expr) (ta : TA) (as : List Arg) : Prop where
  pa : PA X es ta
  ev : EvAr (cf X cm W) ta as
structure XB (X : Cx) (cm : Str → Addr) (W : L2.WX) (e : Option Expr) (to : TO) (f : M (Option Int)) : Prop where
  po : L2.PO X e to
  ev : EvB (cf X cm W) to f
structure XI (X : Cx) (cm : Str → Addr) (W : L2.WX) (tg e : Expr) (wi : TI) (f : M (List O)) : Prop where
  pi : PI X tg e wi
  ev : EvI (cf X cm W) wi f
structure XG (X : Cx) (cm : Str → Addr) (W : L2.WX) (B : List Nat) (e : Expr) (g : TG) (h : O → Ev → Option Ev) : Prop where
  pg : PG X e g
  ev : EvG (cf X cm W) B g h
structure XGs (X : Cx) (cm : Str → Addr) (W : L2.WX) (B : List Nat) (es : List Expr) (g : TGs) (h : List O → Ev → Option Ev) : Prop where
  pgs : PGs X es g
  ev : EvGs (cf X cm W) B g h
structure XS (X : Cx) (cm : Str → Addr) (W : L2.WX) (B : List Nat) (s : Stmt) (ts : TS) (f : M Ctl) : Prop where
  ps : PS X s ts
  ev : EvS (cf X cm W) B ts f
structure XSs (X : Cx) (cm : Str → Addr) (W : L2.WX) (B : List Nat) (s : List Stmt) (ts : TS) (f : M Ctl) : Prop where
  ps : PSs X s ts
  ev : EvS (cf X cm W) B ts f

theorem EvO.isF {c : Cfg} {te : TE} {f : M O} (h : EvO c te f) (hf : ∀ env e o, f env = .ok e o → o.fixed = true) : EvF c te f := fun F H σ env fp fr Q r w => h F H σ env fp fr Q r (by
  cases e : f env with
  | ok env' o =>
    rw [e] at w
    intro v F' H' fp' fv s k r' q nd d
    have z := Rp.nofp o v fv (hf _ _ _ e) q
    subst z
    exact w v F' H' fp' s k r' q
  | err env' x => rw [e] at w; exact w
  | bad => rw [e] at w; exact w)
theorem mOp_fixed {op : O → O → Option O} (h : ∀ x y o, op x y = some o → o.fixed = true) {f g : M O} : ∀ env e o, mOp op f g env = .ok e o → o.fixed = true := fun env e o he => by
  unfold mOp at he
  cases e1 : f env with
  | bad => rw [e1] at he; cases he
  | err _ _ => rw [e1] at he; cases he
  | ok env1 x =>
    rw [e1] at he
    simp only [R.bind] at he
    cases e2 : g env1 with
    | bad => rw [e2] at he; cases he
    | err _ _ => rw [e2] at he; cases he
    | ok env2 y =>
      rw [e2] at he
      simp only at he
      split at he
      · rename_i o' eo
        cases he
        exact h _ _ _ eo
      · cases he
theorem mC1_fixed {op : O → Option O} (h : ∀ x o, op x = some o → o.fixed = true) {f : M O} : ∀ env e o, mC1 op f env = .ok e o → o.fixed = true := fun env e o he => by
  unfold mC1 at he
  cases e1 : f env with
  | bad => rw [e1] at he; cases he
  | err _ _ => rw [e1] at he; cases he
  | ok env1 x =>
    rw [e1] at he
    simp only [R.bind] at he
    split at he
    · rename_i o' eo
      cases he
      exact h _ _ eo
    · cases he
theorem mCB_fixed {op : List O → Option O} (h : ∀ x o, op x = some o → o.fixed = true) {f : M (List O)} : ∀ env e o, mCB op f env = .ok e o → o.fixed = true := fun env e o he => by
  unfold mCB at he
  cases e1 : f env with
  | bad => rw [e1] at he; cases he
  | err _ _ => rw [e1] at he; cases he
  | ok env1 x =>
    rw [e1] at he
    simp only [R.bind] at he
    split at he
    · rename_i o' eo
      cases he
      exact h _ _ eo
    · cases he
theorem cxK {CX : CXT} {P : Program} {w : World} {K : PySem.W.Frag} {mg : Str → Option Value} {base : Heap} {N : List Str} {qual : Str} {scope : Scope} {f : Addr} {cd : Value} {A : Around} {outer : List Env} {s : Shared} {H : Hp} {E : XK} : (cxOf CX P w K mg base N qual scope f cd A outer s H E).K = K := rfl
theorem blkK {CX : CXT} {P : Program} {w : World} {K : PySem.W.Frag} {mg : Str → Option Value} {base : Heap} {N : List Str} {qual : Str} {scope : Scope} {f : Addr} {cd : Value} {A : Around} {outer : List Env} {s : Shared} {H : Hp} {E : XK} {s1 : Shared} {H1 : Hp} {sc1 : Scope} {e1 : Env} {fp : List Addr} : ((cxOf CX P w K mg base N qual scope f cd A outer s H E).blk s1 H1 sc1 e1 fp).K = K := rfl
section
variable {X : Cx} {K : PySem.W.Frag} {cm : Str → Addr} {W : L2.WX} {B : List Nat} {e a b d : Expr} {es : List Expr} {te ta tb td : TE} {f g h : M O} {pos : Pos} {tx : TA} {gs : M (List O)}
/-! from one reading to another -/
theorem xf_o (h : XO X cm W e te f) : XF X cm W e te (mFz f) := ⟨h.pe, h.ev.toF⟩
theorem xo_f (h : XF X cm W e te f) : XO X cm W e te f := ⟨h.pe, h.ev.o⟩
theorem xp_f (h : XF X cm W e te f) : XP X cm W e te f := ⟨h.pe, h.ev.p⟩
theorem xp_o (h : XO X cm W e te f) : XP X cm W e te f := ⟨h.pe, h.ev.p⟩
/-! constants, names -/
theorem xf_int {i : Int} {j : Nat} : XF X cm W (.Constant (.int i) j pos) (tC (.int i)) (mC (.int i)) := ⟨pe_int, ev_c fun _ _ _ => ⟨rfl, rfl⟩⟩
theorem xf_bl {i : Bool} {j : Nat} : XF X cm W (.Constant (.bool i) j pos) (tC (.bl i)) (mC (.bl i)) := ⟨pe_bl, ev_c fun _ _ _ => ⟨rfl, rfl⟩⟩
theorem xf_non {j : Nat} : XF X cm W (.Constant .none j pos) (tC .non) (mC .non) := ⟨pe_non, ev_c fun _ _ _ => ⟨rfl, rfl⟩⟩
theorem xf_str {s : Str} {j : Nat} (l : List Nat) (hl : s = ⟨l.toArray⟩ := by rfl) : XF X cm W (.Constant (.str s) j pos) (tC (.str s)) (mC (.str l)) := ⟨pe_str, ev_c fun _ _ _ => ⟨by rw [hl], rfl⟩⟩
theorem xc_int {i : Int} {j : Nat} : XC X cm W (.Constant (.int i) j pos) (tC (.int i)) (mC (.int i)) := ⟨pe_int, evc_c fun _ _ _ => ⟨rfl, rfl⟩⟩
theorem xc_non {j : Nat} : XC X cm W (.Constant .none j pos) (tC .non) (mC .non) := ⟨pe_non, evc_c fun _ _ _ => ⟨rfl, rfl⟩⟩
theorem xc_str {s : Str} {j : Nat} (l : List Nat) (hl : s = ⟨l.toArray⟩ := by rfl) : XC X cm W (.Constant (.str s) j pos) (tC (.str s)) (mC (.str l)) := ⟨pe_str, evc_c fun _ _ _ => ⟨by rw [hl], rfl⟩⟩
variable {x : Str} (i : Nat)
theorem xf_var (hN : X.N[i]? = some x := by rfl) (hv : Vis X.env.scope x := by first | exact Or.inl rfl | exact Or.inr (Or.inl rfl) | exact Or.inr (Or.inr rfl)) (hd : (x == ("__debug__" : Str)) = false := by decide) (hcd : (x == ("__classdict__" : Str)) = false := by decide) :
    XF X cm W (.Name x pos) (tVar i) (mVar i) := ⟨pe_var hN hv hd hcd, ev_var⟩
theorem xp_var (hN : X.N[i]? = some x := by rfl) (hv : Vis X.env.scope x := by first | exact Or.inl rfl | exact Or.inr (Or.inl rfl) | exact Or.inr (Or.inr rfl)) (hd : (x == ("__debug__" : Str)) = false := by decide) (hcd : (x == ("__classdict__" : Str)) = false := by decide) :
    XP X cm W (.Name x pos) (tVar i) (mPk i) := ⟨pe_var hN hv hd hcd, evp_var⟩
theorem xc_var (hN : X.N[i]? = some x := by rfl) (hv : Vis X.env.scope x := by first | exact Or.inl rfl | exact Or.inr (Or.inl rfl) | exact Or.inr (Or.inr rfl)) (hd : (x == ("__debug__" : Str)) = false := by decide) (hcd : (x == ("__classdict__" : Str)) = false := by decide) :
    XC X cm W (.Name x pos) (tVar i) (mPk i) := ⟨pe_var hN hv hd hcd, evc_var⟩
theorem xo_move (hN : X.N[i]? = some x := by rfl) (hv : Vis X.env.scope x := by first | exact Or.inl rfl | exact Or.inr (Or.inl rfl) | exact Or.inr (Or.inr rfl)) (hd : (x == ("__debug__" : Str)) = false := by decide) (hcd : (x == ("__classdict__" : Str)) = false := by decide) :
    XO X cm W (.Name x pos) (tVar i) (mMove i) := ⟨pe_var hN hv hd hcd, ev_move⟩
theorem xpl_var (hN : X.N[i]? = some x := by rfl) (hv : Vis X.env.scope x := by first | exact Or.inl rfl | exact Or.inr (Or.inl rfl) | exact Or.inr (Or.inr rfl)) (hd : (x == ("__debug__" : Str)) = false := by decide) (hcd : (x == ("__classdict__" : Str)) = false := by decide) :
    XPl X cm W (.Name x pos) (tVar i) i [] := ⟨pe_var hN hv hd hcd, evpl_name⟩
variable {i}
theorem xpl_ix {k : Nat} {p : List Nat} {j : Nat} {pos' : Pos} {z : Int} (h : XPl X cm W e te i p) (hz : z = (k : Int) := by rfl) (hs : PlainIx (.Constant (.int z) j pos') := by exact fun _ _ => rfl) (hK : X.K = K := by first | exact cxK | exact blkK) :
    XPl X cm W (.Subscript e (.Constant (.int z) j pos') pos) (tOp (rIx K) te (tC (.int z))) i (p ++ [k]) := by subst hK; exact ⟨pe_ix ix_seq h.pe pe_int hs, by subst hz; exact evpl_ix h.ev⟩

/-! operators -/
theorem xo_add (ha : XF X cm W a ta f) (hb : XF X cm W b tb g) (hK : X.K = K := by first | exact cxK | exact blkK) : XO X cm W (.BinOp a .Add b pos) (tOp (rAddG K) ta tb) (mOp oAdd f g) := by subst hK; exact ⟨pe_op op_addG ha.pe hb.pe, ev_op opf_add ha.ev hb.ev⟩
theorem xf_sub (ha : XF X cm W a ta f) (hb : XF X cm W b tb g) : XF X cm W (.BinOp a .Sub b pos) (tOp (rI0 fun i j => .int (i - j)) ta tb) (mOp oSub f g) :=
  ⟨pe_op op_sub ha.pe hb.pe, (ev_op opp_sub.f ha.ev hb.ev).isF (mOp_fixed fun x y o h => by unfold oSub at h; split at h <;> cases h; rfl)⟩
theorem xo_mul (ha : XF X cm W a ta f) (hb : XF X cm W b tb g) : XO X cm W (.BinOp a .Mult b pos) (tOp rMulG ta tb) (mOp oMul f g) := ⟨pe_op op_mulG ha.pe hb.pe, ev_op opf_mul ha.ev hb.ev⟩
theorem xf_mod (ha : XF X cm W a ta f) (hb : XF X cm W b tb g) : XF X cm W (.BinOp a .Mod b pos) (tOp (rI (fun _ j => 0 < j) fun i j => .int (i % j)) ta tb) (mOp oMod f g) :=
  ⟨pe_op op_mod ha.pe hb.pe, (ev_op opp_mod.f ha.ev hb.ev).isF (mOp_fixed fun x y o h => by unfold oMod at h; split at h <;> first | (split at h <;> cases h; rfl) | cases h)⟩
theorem xf_div (ha : XF X cm W a ta f) (hb : XF X cm W b tb g) : XF X cm W (.BinOp a .FloorDiv b pos) (tOp (rI CDiv fun i j => .int (i / j)) ta tb) (mOp oDiv f g) :=
  ⟨pe_op op_fdiv ha.pe hb.pe, (ev_op opp_div.f ha.ev hb.ev).isF (mOp_fixed fun x y o h => by unfold oDiv at h; split at h <;> first | (split at h <;> cases h; rfl) | cases h)⟩
theorem xf_pow (ha : XF X cm W a ta f) (hb : XF X cm W b tb g) : XF X cm W (.BinOp a .Pow b pos) (tOp (rI CPow fun i j => .int (i ^ j.toNat)) ta tb) (mOp oPow f g) :=
  ⟨pe_op op_pow ha.pe hb.pe, (ev_op opp_pow.f ha.ev hb.ev).isF (mOp_fixed fun x y o h => by unfold oPow at h; split at h <;> first | (split at h <;> cases h; rfl) | cases h)⟩
theorem xf_shl (ha : XF X cm W a ta f) (hb : XF X cm W b tb g) : XF X cm W (.BinOp a .LShift b pos) (tOp (rI CPow fun i j => .int (i * 2 ^ j.toNat)) ta tb) (mOp oShl f g) :=
  ⟨pe_op op_shl ha.pe hb.pe, (ev_op opp_shl.f ha.ev hb.ev).isF (mOp_fixed fun x y o h => by unfold oShl at h; split at h <;> first | (split at h <;> cases h; rfl) | cases h)⟩
theorem xf_shr (ha : XF X cm W a ta f) (hb : XF X cm W b tb g) : XF X cm W (.BinOp a .RShift b pos) (tOp (rI (fun _ j => 0 ≤ j) fun i j => .int (i / 2 ^ j.toNat)) ta tb) (mOp oShr f g) :=
  ⟨pe_op op_shr ha.pe hb.pe, (ev_op opp_shr.f ha.ev hb.ev).isF (mOp_fixed fun x y o h => by unfold oShr at h; split at h <;> first | (split at h <;> cases h; rfl) | cases h)⟩
theorem xf_band (ha : XF X cm W a ta f) (hb : XF X cm W b tb g) : XF X cm W (.BinOp a .BitAnd b pos) (tOp (rI0 fun i j => .int (Builtin.bitAnd i j)) ta tb) (mOp oAnd f g) :=
  ⟨pe_op op_and ha.pe hb.pe, (ev_op opp_and.f ha.ev hb.ev).isF (mOp_fixed fun x y o h => by unfold oAnd at h; split at h <;> cases h; rfl)⟩
theorem xf_xor (ha : XF X cm W a ta f) (hb : XF X cm W b tb g) : XF X cm W (.BinOp a .BitXor b pos) (tOp (rI0 fun i j => .int (Builtin.bitXor i j)) ta tb) (mOp oXor f g) :=
  ⟨pe_op op_xor ha.pe hb.pe, (ev_op opp_xor.f ha.ev hb.ev).isF (mOp_fixed fun x y o h => by unfold oXor at h; split at h <;> cases h; rfl)⟩
theorem xf_neg (ha : XF X cm W a ta f) : XF X cm W (.UnaryOp .USub a pos) (tUn (rU fun i => .int (-i)) ta) (mC1 oNeg f) :=
  ⟨pe_un un_neg ha.pe, (ev_un opu_neg ha.ev.p).isF (mC1_fixed fun x o h => by unfold oNeg at h; split at h <;> cases h; rfl)⟩
/-! comparisons: a known way of comparing -/
structure Cmp (X : Cx) (op : CmpOp) (r : R2) (o : O → O → Option O) : Prop where
  run : OpR X (compareOp op) r
  ev : OpP X.K r o
  fx : ∀ x y z, o x y = some z → z.fixed = true
theorem bl_fixed {o : Option O} {z : O} (h : ∀ z, o = some z → ∃ b, z = .bl b) (e : o = some z) : z.fixed = true := by
  obtain ⟨b, rfl⟩ := h z e
  rfl
theorem cmp_lt : Cmp X .Lt (rI0 fun i j => .bl (decide (i < j))) oLt := ⟨op_lt, opp_lt, fun x y z h => by unfold oLt at h; split at h <;> cases h; rfl⟩
theorem cmp_le : Cmp X .LtE (rI0 fun i j => .bl (decide (i ≤ j))) oLe := ⟨op_le, opp_le, fun x y z h => by unfold oLe at h; split at h <;> cases h; rfl⟩
theorem cmp_gt : Cmp X .Gt (rI0 fun i j => .bl (decide (j < i))) oGt := ⟨op_gt, opp_gt, fun x y z h => by unfold oGt at h; split at h <;> cases h; rfl⟩
theorem cmp_ge : Cmp X .GtE (rI0 fun i j => .bl (decide (j ≤ i))) oGe := ⟨op_ge, opp_ge, fun x y z h => by unfold oGe at h; split at h <;> cases h; rfl⟩
theorem room64 {k : Nat} (hr : Room k X.A) : X.A.units + 64 < cLine := by have := hr.un; omega
theorem room65 {k : Nat} (hr : Room k X.A) : X.A.units + 65 < cLine := by have := hr.un; omega
theorem oEq_bl {x y z : O} (h : oEq x y = some z) : ∃ b, z = .bl b := by
  unfold oEq at h
  split at h
  · cases h; exact ⟨_, rfl⟩
  · cases h; exact ⟨_, rfl⟩
  · cases h; exact ⟨_, rfl⟩
  · split at h
    · cases h; exact ⟨_, rfl⟩
    · cases h
theorem oNot1_bl {o : Option O} {z : O} (h : oNot1 o = some z) : ∃ b, z = .bl b := by
  unfold oNot1 at h
  split at h
  · cases h; exact ⟨_, rfl⟩
  · cases h
theorem cmp_eq {k : Nat} (hr : Room k X.A) (hK : X.K = K := by first | exact cxK | exact blkK) : Cmp X .Eq (rEqG K) oEq := by subst hK; exact ⟨op_eqG (room64 hr), opp_eq, fun x y z h => by obtain ⟨b, rfl⟩ := oEq_bl h; rfl⟩
theorem cmp_ne {k : Nat} (hr : Room k X.A) (hK : X.K = K := by first | exact cxK | exact blkK) : Cmp X .NotEq (rNeG K) oNe := by subst hK; exact ⟨op_neG (room64 hr), opp_ne, fun x y z h => by obtain ⟨b, rfl⟩ := oNot1_bl h; rfl⟩
theorem cmp_in {k : Nat} (hr : Room k X.A) (hK : X.K = K := by first | exact cxK | exact blkK) : Cmp X .In (rInG K false) oIn := by subst hK; exact ⟨op_inG (room65 hr), opp_in, fun x y z h => by obtain ⟨b, rfl, _⟩ := oIn_cases h; rfl⟩
theorem cmp_notIn {k : Nat} (hr : Room k X.A) (hK : X.K = K := by first | exact cxK | exact blkK) : Cmp X .NotIn (rInG K true) oNotIn := by subst hK; exact ⟨op_notInG (room65 hr), opp_notIn, fun x y z h => by obtain ⟨b, rfl⟩ := oNot1_bl h; rfl⟩
theorem cmp_isN : Cmp X .Is (fun x y H Q => y = .non ∧ Q (.bl (decide (x = .non))) H) oIsN := ⟨op_isN, opp_isN, fun x y z h => by cases y <;> cases h; rfl⟩
theorem cmp_isNN : Cmp X .IsNot (fun x y H Q => y = .non ∧ Q (.bl (!decide (x = .non))) H) oIsNN := ⟨op_notN, opp_isNN, fun x y z h => by cases y <;> cases h; rfl⟩
variable {op op' : CmpOp} {r r' : R2} {o o' : O → O → Option O}
theorem xf_cmp (hc : Cmp X op r o) (ha : XF X cm W a ta f) (hb : XF X cm W b tb g) (hm : behindInMarks op b = false := by rfl) : XF X cm W (.Compare a [op] [b] pos) (tOp r ta tb) (mOp o f g) :=
  ⟨pe_cmpR hc.run ha.pe hb.pe hm, (ev_op hc.ev.f ha.ev hb.ev).isF (mOp_fixed hc.fx)⟩
/-- .. with operands that are only read, the second changing nothing -/
theorem xf_cmpP (hc : Cmp X op r o) (ha : XP X cm W a ta f) (hb : XC X cm W b tb g) (hm : behindInMarks op b = false := by rfl) : XF X cm W (.Compare a [op] [b] pos) (tOp r ta tb) (mOp o f g) :=
  ⟨pe_cmpR hc.run ha.pe hb.pe hm, (ev_opP hc.ev ha.ev hb.ev).isF (mOp_fixed hc.fx)⟩
theorem xo_chain (hc : Cmp X op r o) (hc' : Cmp X op' r' o') (ha : XF X cm W a ta f) (hb : XF X cm W b tb g) (hd : XF X cm W d td h) (hm : lastMarks [op, op'] [b, d] = false := by with_unfolding_all rfl) :
    XO X cm W (.Compare a [op, op'] [b, d] pos) (tChain r r' ta tb td) (mChain o o' f g h) := ⟨pe_chain hc.run hc'.run ha.pe hb.pe hd.pe hm, evo_chain hc.ev.f hc'.ev.f ha.ev hb.ev hd.ev⟩

/-! tests -/
variable {tt tu : TT} {p q : M Bool}
theorem xt_cmp (hc : Cmp X op r o) (ha : XF X cm W a ta f) (hb : XF X cm W b tb g) (hm : behindInMarks op b = false := by rfl) : XT X cm W (.Compare a [op] [b] pos) (tTest (tOp r ta tb)) (mTB (mOp o f g)) :=
  ⟨pt_cmpR hc.run ha.pe hb.pe hm, evt_B (ev_op hc.ev.f ha.ev hb.ev).p⟩
theorem xt_cmpP (hc : Cmp X op r o) (ha : XP X cm W a ta f) (hb : XC X cm W b tb g) (hm : behindInMarks op b = false := by rfl) : XT X cm W (.Compare a [op] [b] pos) (tTest (tOp r ta tb)) (mTB (mOp o f g)) :=
  ⟨pt_cmpR hc.run ha.pe hb.pe hm, evt_B (ev_opP hc.ev ha.ev hb.ev).p⟩
theorem xt_tru (ha : XP X cm W a ta f) (he : ∀ whole, isTrue a X.env whole = (do let v ← whole; standAt a.pos; holding [v] (truthy v)) := by intro _; rfl) (hK : X.K = K := by first | exact cxK | exact blkK) :
    XT X cm W a (fun σ H Q => ta σ H fun x H' => ∃ k, TruV K x H' k ∧ Q k H') (mTru f) := by subst hK; exact ⟨pt_truth ha.pe he, evt_tru ha.ev⟩
theorem xt_chain (hc : Cmp X op r o) (hc' : Cmp X op' r' o') (ha : XF X cm W a ta f) (hb : XF X cm W b tb g) (hd : XF X cm W d td h) (hm : lastMarks [op, op'] [b, d] = false := by with_unfolding_all rfl) :
    XT X cm W (.Compare a [op, op'] [b, d] pos) (tTest (tChain r r' ta tb td)) (mTB (mChain o o' f g h)) := ⟨pt_chain hc.run hc'.run ha.pe hb.pe hd.pe hm, evt_B (evo_chain hc.ev.f hc'.ev.f ha.ev hb.ev hd.ev).p⟩
theorem xt_not (h : XT X cm W a tt p) : XT X cm W (.UnaryOp .Not a pos) (tNot tt) (mNot p) := ⟨pt_not h.pt, evt_not h.ev⟩
theorem xt_w (h : XW X cm W a tt p) : XT X cm W a tt p := ⟨h.pw.pt, h.ev⟩
theorem xw_and1 (h : XT X cm W a tt p) : XW X cm W (.BoolOp .And [a] pos) tt p := ⟨pw_and1 h.pt, h.ev⟩
theorem xw_or1 (h : XT X cm W a tt p) : XW X cm W (.BoolOp .Or [a] pos) tt p := ⟨pw_or1 h.pt, h.ev⟩
theorem xw_and (h : XT X cm W a tt p) (k : XW X cm W (.BoolOp .And (b :: es) pos) tu q) : XW X cm W (.BoolOp .And (a :: b :: es) pos) (tAnd tt tu) (mAnd p q) := ⟨pw_and h.pt k.pw, evt_and h.ev k.ev⟩
theorem xw_or (h : XT X cm W a tt p) (k : XW X cm W (.BoolOp .Or (b :: es) pos) tu q) : XW X cm W (.BoolOp .Or (a :: b :: es) pos) (tOr tt tu) (mOr p q) := ⟨pw_or h.pt k.pw, evt_or h.ev k.ev⟩
/-! .. as values -/
theorem xo_bo1 {bop : BoolOp} (h : XO X cm W a ta f) : XO X cm W (.BoolOp bop [a] pos) ta f := ⟨pe_one h.pe, h.ev⟩
theorem xo_and (h : XP X cm W a ta f) (k : XO X cm W (.BoolOp .And (b :: es) pos) tb g) : XO X cm W (.BoolOp .And (a :: b :: es) pos) (tAndV ta tb) (mAndV f g) := ⟨pe_and h.pe k.pe, evo_andV h.ev k.ev⟩
theorem xo_or (h : XP X cm W a ta f) (k : XO X cm W (.BoolOp .Or (b :: es) pos) tb g) : XO X cm W (.BoolOp .Or (a :: b :: es) pos) (tOrV ta tb) (mOrV f g) := ⟨pe_or h.pe k.pe, evo_orV h.ev k.ev⟩
theorem xo_not (h : XP X cm W a ta f) : XO X cm W (.UnaryOp .Not a pos) (tNotV ta) (mNotV f) := ⟨pe_not h.pe, evo_notV h.ev⟩
theorem xo_if (ht : XT X cm W d tt p) (ha : XO X cm W a ta f) (hb : XO X cm W b tb g) : XO X cm W (.IfExp d a b pos) (tIf tt ta tb) (mIf p f g) := ⟨pe_ifExp ht.pt ha.pe hb.pe, evo_if ht.ev ha.ev hb.ev⟩
theorem xf_if (ht : XT X cm W d tt p) (ha : XF X cm W a ta f) (hb : XF X cm W b tb g) : XF X cm W (.IfExp d a b pos) (tIf tt ta tb) (mIf p f g) := ⟨pe_ifExp ht.pt ha.pe hb.pe, evf_if ht.ev ha.ev hb.ev⟩
/-! arguments, displays -/
theorem xa_nil : XA X cm W [] tNil mNil := ⟨pa_nil, eva_nil⟩
theorem xa_cons (h : XO X cm W e te f) (k : XA X cm W es tx gs) (hs : starEach (e :: es) X.env = (false, eval e X.env) :: starEach es X.env := by rfl) : XA X cm W (e :: es) (tCons te tx) (mCons f gs) := ⟨pa_cons h.pe k.pa hs, eva_cons h.ev k.ev⟩
theorem xaf_nil : XAF X cm W [] tNil mNil := ⟨pa_nil, evaf_nil⟩
theorem xaf_cons (h : XF X cm W e te f) (k : XAF X cm W es tx gs) (hs : starEach (e :: es) X.env = (false, eval e X.env) :: starEach es X.env := by rfl) : XAF X cm W (e :: es) (tCons te tx) (mCons f gs) := ⟨pa_cons h.pe k.pa hs, evaf_cons h.ev k.ev⟩
theorem xo_lst (h : XA X cm W es tx gs) : XO X cm W (.List es pos) (tLst tx) (mLst gs) := ⟨pe_lst h.pa, ev_lst h.ev⟩
theorem xo_tup {k : Nat} (h : XA X cm W es tx gs) : XO X cm W (.Tuple es k pos) (tTup tx) (mTup gs) := ⟨pe_tup h.pa, ev_tup h.ev⟩
/-! subscripts -/
theorem ix_fixed : ∀ x y z, oIx x y = some z → z.fixed = true := fun x y z h => by
  unfold oIx at h
  split at h
  · split at h
    · split at h
      · rename_i hf; cases h; exact hf
      · cases h
    · cases h
  · split at h
    · split at h
      · rename_i hf; cases h; exact hf
      · cases h
    · cases h
  · split at h
    · split at h
      · cases h; rfl
      · cases h
    · cases h
  · cases h
theorem xf_ix (ha : XF X cm W a ta f) (hb : XF X cm W b tb g) (hs : PlainIx b := by exact fun _ _ => rfl) (hK : X.K = K := by first | exact cxK | exact blkK) : XF X cm W (.Subscript a b pos) (tOp (rIx K) ta tb) (mOp oIx f g) := by subst hK; exact ⟨pe_ix ix_seq ha.pe hb.pe hs, (ev_op opp_ix.f ha.ev hb.ev).isF (mOp_fixed ix_fixed)⟩
theorem xf_ixN (i : Nat) (hb : XP X cm W b tb g) {pos' : Pos} (hs : PlainIx b := by exact fun _ _ => rfl) (hN : X.N[i]? = some x := by rfl) (hv : Vis X.env.scope x := by first | exact Or.inl rfl | exact Or.inr (Or.inl rfl) | exact Or.inr (Or.inr rfl))
    (hd : (x == ("__debug__" : Str)) = false := by decide) (hcd : (x == ("__classdict__" : Str)) = false := by decide) (hK : X.K = K := by first | exact cxK | exact blkK) : XF X cm W (.Subscript (.Name x pos') b pos) (tOp (rIx K) (tVar i) tb) (mIxN i g) := by subst hK; exact ⟨pe_ix ix_seq (pe_var hN hv hd hcd) hb.pe hs, (ev_ixN hb.ev).isF fun env e o he => by
    unfold mIxN at he
    split at he
    · cases e1 : g env with
      | bad => rw [e1] at he; cases he
      | err _ _ => rw [e1] at he; cases he
      | ok env1 y =>
        rw [e1] at he
        simp only [R.bind] at he
        split at he
        · split at he
          · rename_i o' eo
            cases he
            exact ix_fixed _ _ _ eo
          · cases he
        · cases he
    · cases he⟩
theorem xb_none : XB X cm W none tNoPart mNoPart := ⟨po_none, evb_none⟩
theorem xb_some (h : XP X cm W e te f) : XB X cm W (some e) (tPart te) (mPart f) := ⟨po_some h.pe, evb_some h.ev⟩
theorem xo_sl {lo hi : Option Expr} {tl th : TO} {gl gh : M (Option Int)} {p2 : Pos} (h : XF X cm W e te f) (hl : XB X cm W lo tl gl) (hh : XB X cm W hi th gh) (hK : X.K = K := by first | exact cxK | exact blkK) : XO X cm W (.Subscript e (.Slice lo hi none p2) pos) (tSl (rSlG K) te tl th) (mSl f gl gh) := by subst hK; exact ⟨pe_slice sl_G h.pe hl.po hh.po, ev_sl h.ev hl.ev hh.ev⟩
end

/-! ### what the module has -/
/-- the built-in names that are met -/
structure Bt (mg : Str → Option Value) : Prop where
  len : mg "len" = none
  range : mg "range" = none
  list : mg "list" = none
  tuple : mg "tuple" = none
  int : mg "int" = none
  str : mg "str" = none
  bool : mg "bool" = none
  abs : mg "abs" = none
  min : mg "min" = none
  max : mg "max" = none
  sum : mg "sum" = none
  all : mg "all" = none
  any : mg "any" = none
  sorted : mg "sorted" = none
  isinstance : mg "isinstance" = none
  enumerate : mg "enumerate" = none
  zip : mg "zip" = none
  dict : mg "dict" = none
  repr : mg "repr" = none
section
variable {X : Cx} {K : PySem.W.Frag} {cm : Str → Addr} {W : L2.WX} {B : List Nat} {e a b d : Expr} {es : List Expr} {te ta tb td : TE} {f g h : M O} {pos p1 p2 : Pos} {tx : TA} {gs : M (List O)}
theorem xf_len (t : Bt X.mg) (h : XP X cm W a ta f) (hg : Gl X "len" := by rfl) (hs : starEach [a] X.env = (false, eval a X.env) :: starEach [] X.env := by rfl) (hK : X.K = K := by first | exact cxK | exact blkK) : XF X cm W (.Call (.Name "len" p1) [a] [] pos) (tCB (fun xs H Q => ∃ x n, xs = [x] ∧ LenV K x H n ∧ Q (.int n) H) (tCons ta tNil)) (mC1 oLen f) := by subst hK; exact ⟨pe_callB call_len hg t.len PySem.boot_len (pa_cons h.pe pa_nil hs) (by decide) (by decide) hs, (ev_c1 opl_len h.ev).isF (mC1_fixed fun x o h => by unfold oLen at h; split at h <;> first | (cases h; rfl) | (split at h <;> cases h; rfl) | (cases h))⟩
theorem xo_list (t : Bt X.mg) (h : XP X cm W a ta f) (hg : Gl X "list" := by rfl) (hs : starEach [a] X.env = (false, eval a X.env) :: starEach [] X.env := by rfl) (hK : X.K = K := by first | exact cxK | exact blkK) : XO X cm W (.Call (.Name "list" p1) [a] [] pos)
    (tCB (fun xs H Q => ∃ p ys, xs = [.ref p] ∧ (SqL K H p ys ∨ SqT K H p ys) ∧ ∀ l, H l = none → Q (.ref l) (upd H l (.lst ys))) (tCons ta tNil)) (mC1 oList f) := by subst hK; exact ⟨pe_callTy call_list_of hg t.list (by decide +kernel) (pa_cons h.pe pa_nil hs) (by decide) (by decide) hs, ev_c1 opl_list h.ev⟩
theorem xo_tuple (t : Bt X.mg) (h : XP X cm W a ta f) (hg : Gl X "tuple" := by rfl) (hs : starEach [a] X.env = (false, eval a X.env) :: starEach [] X.env := by rfl) (hK : X.K = K := by first | exact cxK | exact blkK) : XO X cm W (.Call (.Name "tuple" p1) [a] [] pos)
    (tCB (fun xs H Q => ∃ p ys, xs = [.ref p] ∧ ((SqL K H p ys ∧ ∀ l, H l = none → Q (.ref l) (upd H l (.tup ys))) ∨ (SqT K H p ys ∧ Q (.ref p) H))) (tCons ta tNil)) (mC1 oTuple f) := by subst hK; exact ⟨pe_callTy call_tuple_of hg t.tuple (by decide +kernel) (pa_cons h.pe pa_nil hs) (by decide) (by decide) hs, ev_c1 opl_tuple h.ev⟩
theorem xf_int1 (t : Bt X.mg) (h : XP X cm W a ta f) (hg : Gl X "int" := by rfl) (hs : starEach [a] X.env = (false, eval a X.env) :: starEach [] X.env := by rfl) : XF X cm W (.Call (.Name "int" p1) [a] [] pos)
    (tCB (fun xs H Q => (∃ i, xs = [.int i] ∧ Q (.int i) H) ∨ ∃ k, xs = [.bl k] ∧ Q (.int (if k then 1 else 0)) H) (tCons ta tNil)) (mC1 oInt f) :=
  ⟨pe_callTy call_int1 hg t.int (by decide +kernel) (pa_cons h.pe pa_nil hs) (by decide) (by decide) hs, (ev_c1 opl_int h.ev).isF (mC1_fixed fun x o h => by unfold oInt at h; split at h <;> cases h <;> rfl)⟩
theorem xf_abs (t : Bt X.mg) (h : XP X cm W a ta f) (hg : Gl X "abs" := by rfl) (hs : starEach [a] X.env = (false, eval a X.env) :: starEach [] X.env := by rfl) : XF X cm W (.Call (.Name "abs" p1) [a] [] pos)
    (tCB (fun xs H Q => ∃ i, xs = [.int i] ∧ Q (.int (if i < 0 then -i else i)) H) (tCons ta tNil)) (mC1 oAbs f) :=
  ⟨pe_callB call_abs hg t.abs (by decide +kernel) (pa_cons h.pe pa_nil hs) (by decide) (by decide) hs, (ev_c1 opl_abs h.ev).isF (mC1_fixed fun x o h => by unfold oAbs at h; split at h <;> cases h; rfl)⟩
theorem xf_str1 (t : Bt X.mg) (h : XP X cm W a ta f) (hg : Gl X "str" := by rfl) (hs : starEach [a] X.env = (false, eval a X.env) :: starEach [] X.env := by rfl) : XF X cm W (.Call (.Name "str" p1) [a] [] pos)
    (tCB (fun xs H Q => ∃ i : Int, xs = [.int i] ∧ i.natAbs.log2 < 1920 ∧ Q (.str (toString i)) H) (tCons ta tNil)) (mC1 oStr f) :=
  ⟨pe_callTy call_str_int hg t.str (by decide +kernel) (pa_cons h.pe pa_nil hs) (by decide) (by decide) hs, (ev_c1 opl_str h.ev).isF (mC1_fixed fun x o h => by unfold oStr at h; split at h <;> first | (split at h <;> cases h; rfl) | cases h)⟩
theorem xf_min2 (t : Bt X.mg) (hc : X.calm = true) (ha : XF X cm W a ta f) (hb : XF X cm W b tb g) (hg : Gl X "min" := by rfl) (hs : starEach [a, b] X.env = (false, eval a X.env) :: starEach [b] X.env := by rfl) (hs2 : starEach [b] X.env = (false, eval b X.env) :: starEach [] X.env := by rfl) (hq : (backTo pos (starEach [b] X.env)).any (·.1) = false := by rfl) :
    XF X cm W (.Call (.Name "min" p1) [a, b] [] pos) (tCB (fun xs H Q => ∃ i j, xs = [.int i, .int j] ∧ Q (.int (if j < i then j else i)) H) (tCons ta (tCons tb tNil))) (mCB oMin2 (mCons f (mCons g mNil))) :=
  ⟨pe_callB (call_min2 hc) hg t.min (by decide +kernel) (pa_cons ha.pe (pa_cons hb.pe pa_nil hs2) hs) (by decide) (by decide) hs hq, (ev_cb opl_min2 (evaf_cons ha.ev (evaf_cons hb.ev evaf_nil))).isF (mCB_fixed fun x o h => by unfold oMin2 at h; split at h <;> cases h; rfl)⟩
theorem xf_max2 (t : Bt X.mg) (hc : X.calm = true) (ha : XF X cm W a ta f) (hb : XF X cm W b tb g) (hg : Gl X "max" := by rfl) (hs : starEach [a, b] X.env = (false, eval a X.env) :: starEach [b] X.env := by rfl) (hs2 : starEach [b] X.env = (false, eval b X.env) :: starEach [] X.env := by rfl) (hq : (backTo pos (starEach [b] X.env)).any (·.1) = false := by rfl) :
    XF X cm W (.Call (.Name "max" p1) [a, b] [] pos) (tCB (fun xs H Q => ∃ i j, xs = [.int i, .int j] ∧ Q (.int (if j > i then j else i)) H) (tCons ta (tCons tb tNil))) (mCB oMax2 (mCons f (mCons g mNil))) :=
  ⟨pe_callB (call_max2 hc) hg t.max (by decide +kernel) (pa_cons ha.pe (pa_cons hb.pe pa_nil hs2) hs) (by decide) (by decide) hs hq, (ev_cb opl_max2 (evaf_cons ha.ev (evaf_cons hb.ev evaf_nil))).isF (mCB_fixed fun x o h => by unfold oMax2 at h; split at h <;> cases h; rfl)⟩
theorem xf_sum (t : Bt X.mg) (hc : X.calm = true) (h : XP X cm W a ta f) (hg : Gl X "sum" := by rfl) (hs : starEach [a] X.env = (false, eval a X.env) :: starEach [] X.env := by rfl) (hK : X.K = K := by first | exact cxK | exact blkK) : XF X cm W (.Call (.Name "sum" p1) [a] [] pos) (tCB (rSum K) (tCons ta tNil)) (mC1 oSum f) := by subst hK; exact ⟨pe_callB (cr_sum hc) hg t.sum (by decide +kernel) (pa_cons h.pe pa_nil hs) (by decide) (by decide) hs, (ev_c1 opl_sum h.ev).isF (mC1_fixed fun x o h => by
    unfold oSum at h; split at h
    · rw [Option.map_eq_some_iff] at h; obtain ⟨_, _, rfl⟩ := h; rfl
    · cases h)⟩
theorem xf_all (t : Bt X.mg) (hc : X.calm = true) (h : XP X cm W a ta f) (hg : Gl X "all" := by rfl) (hs : starEach [a] X.env = (false, eval a X.env) :: starEach [] X.env := by rfl) (hK : X.K = K := by first | exact cxK | exact blkK) : XF X cm W (.Call (.Name "all" p1) [a] [] pos) (tCB (rAll K) (tCons ta tNil)) (mC1 oAll f) := by subst hK; exact ⟨pe_callB (cr_all hc) hg t.all (by decide +kernel) (pa_cons h.pe pa_nil hs) (by decide) (by decide) hs, (ev_c1 opl_all h.ev).isF (mC1_fixed fun x o h => by
    unfold oAll at h; split at h
    · rw [Option.map_eq_some_iff] at h; obtain ⟨_, _, rfl⟩ := h; rfl
    · cases h)⟩
theorem xf_any (t : Bt X.mg) (hc : X.calm = true) (h : XP X cm W a ta f) (hg : Gl X "any" := by rfl) (hs : starEach [a] X.env = (false, eval a X.env) :: starEach [] X.env := by rfl) (hK : X.K = K := by first | exact cxK | exact blkK) : XF X cm W (.Call (.Name "any" p1) [a] [] pos) (tCB (rAny K) (tCons ta tNil)) (mC1 oAny f) := by subst hK; exact ⟨pe_callB (cr_any hc) hg t.any (by decide +kernel) (pa_cons h.pe pa_nil hs) (by decide) (by decide) hs, (ev_c1 opl_any h.ev).isF (mC1_fixed fun x o h => by
    unfold oAny at h; split at h
    · rw [Option.map_eq_some_iff] at h; obtain ⟨_, _, rfl⟩ := h; rfl
    · cases h)⟩
theorem xo_sorted (t : Bt X.mg) (h : XP X cm W a ta f) (hg : Gl X "sorted" := by rfl) (hs : starEach [a] X.env = (false, eval a X.env) :: starEach [] X.env := by rfl) (hK : X.K = K := by first | exact cxK | exact blkK) : XO X cm W (.Call (.Name "sorted" p1) [a] [] pos) (tCB (rSortedI K) (tCons ta tNil)) (mC1 oSorted f) := by subst hK; exact ⟨pe_callB cr_sortedI hg t.sorted (by decide +kernel) (pa_cons h.pe pa_nil hs) (by decide) (by decide) hs, ev_c1 opl_sorted h.ev⟩
/-- isinstance(a, T) -/
theorem xf_isi (t : Bt X.mg) (ty : Ty5) {n : Str} (h : XP X cm W a ta f) (hm : X.mg n = none) (hv : bootBuiltins n = some (.type ty.nm)) (hn : n ≠ "__name__" := by decide) (hdb : (n == ("__debug__" : Str)) = false := by decide) (hgT : Gl X n := by rfl) (hg : Gl X "isinstance" := by rfl)
    (hs : starEach [a, .Name n p2] X.env = (false, eval a X.env) :: starEach [.Name n p2] X.env := by rfl) (hs2 : starEach [.Name n p2] X.env = (false, eval (.Name n p2) X.env) :: starEach [] X.env := by rfl) (hq : (backTo pos (starEach [.Name n p2] X.env)).any (·.1) = false := by rfl) (hK : X.K = K := by first | exact cxK | exact blkK) :
    XF X cm W (.Call (.Name "isinstance" p1) [a, .Name n p2] [] pos) (tCB (rIsi K) (tCons ta (tCons (tC (.ty ty.nm)) tNil))) (mC1 (oIsI ty) f) := by subst hK; exact ⟨pe_callB call_isi hg t.isinstance (by decide +kernel) (pa_cons h.pe (pa_cons (pe_bltn hgT hm hv rfl hn hdb) pa_nil hs2) hs) (by decide) (by decide) hs hq, (ev_isi ty h.ev).isF (mC1_fixed fun x o h => by
    unfold oIsI at h
    rw [Option.map_eq_some_iff] at h; obtain ⟨_, _, rfl⟩ := h; rfl)⟩

/-! ### defs that are called -/
structure Cal (P : Program) (w : World) (K : PySem.W.Frag) (mg : Str → Option Value) (base : Heap) (cm : Str → Addr) (k : Nat) (x : Str) (np : Nat) (bm : List Nat) (m : List O → FR) : Prop where
  ex : ∃ (f : Addr) (fd : FuncData) (ps : List Str), FnOk P w K mg base (L2.CX P w) k f fd ps (spM K cm np bm m) ∧ mg x = some (.ref f) ∧ PySem.W.keepIn K (.ref f) = true ∧ Binds K fd ps []
theorem xar_nil : XAr X cm W [] tNil [] := ⟨pa_nil, evar_nil⟩
theorem xar_val {as : List Arg} (h : XF X cm W e te f) (k : XAr X cm W es tx as) (hs : starEach (e :: es) X.env = (false, eval e X.env) :: starEach es X.env := by rfl) : XAr X cm W (e :: es) (tCons te tx) (.val f :: as) := ⟨pa_cons h.pe k.pa hs, evar_val h.ev k.ev⟩
theorem xar_bor {as : List Arg} {x : Str} (j : Nat) (k : XAr X cm W es tx as) (hN : X.N[j]? = some x := by rfl) (hv : Vis X.env.scope x := by first | exact Or.inl rfl | exact Or.inr (Or.inl rfl) | exact Or.inr (Or.inr rfl))
    (hd : (x == ("__debug__" : Str)) = false := by decide) (hcd : (x == ("__classdict__" : Str)) = false := by decide) (hs : starEach (.Name x p1 :: es) X.env = (false, eval (.Name x p1) X.env) :: starEach es X.env := by rfl) :
    XAr X cm W (.Name x p1 :: es) (tCons (tVar j) tx) (.bor j :: as) := ⟨pa_cons (pe_var hN hv hd hcd) k.pa hs, evar_bor k.ev⟩
theorem xo_call {x : Str} {k j : Nat} {np : Nat} {bm : List Nat} {m : List O → FR} {as : List Arg} (C : Cal X.prog X.w X.K X.mg X.base cm j x np bm m) (hr : Room k X.A) (tk : L2.Takes X W) (h : XAr X cm W (e :: es) tx as) (hjk : j ≤ k := by decide) (hg : Gl X x := by rfl) (hn : (bors as).Nodup := by decide)
    (hp : posB 0 as = bm := by rfl) (hl : as.length = np := by rfl) (hdb : (x == ("__debug__" : Str)) = false := by decide) (he : starEach (e :: es) X.env = (false, eval e X.env) :: starEach es X.env := by rfl) (hpl : (backTo pos (starEach es X.env)).any (·.1) = false := by rfl) :
    XO X cm W (.Call (.Name x p1) (e :: es) [] pos) (tCallS (spM X.K cm np bm m) (L2.WE W) tx) (mCall m as) := by
  obtain ⟨f, fd, ps, F, hm, hk, hb⟩ := C.ex
  exact ⟨pe_callS F (hr.mono hjk) hg hm hk hb (fun σ => passAt tk σ) h.pa hdb he hpl, ev_call h.ev hn hp hl⟩

/-! ### what is walked, targets -/
variable {tg : Expr} {wi : TI} {it : M (List O)} {g0 : TG} {hh : O → Ev → Option Ev}
theorem xi_list (h : XF X cm W e te f) (hK : X.K = K := by first | exact cxK | exact blkK) : XI X cm W tg e (iList K te) (mItL f) := by subst hK; exact ⟨pi_list h.pe, evi_list h.ev⟩
theorem xi_tup (h : XF X cm W e te f) (hK : X.K = K := by first | exact cxK | exact blkK) : XI X cm W tg e (iTup K te) (mItT f) := by subst hK; exact ⟨pi_tup h.pe, evi_tup h.ev⟩
theorem xi_str (h : XP X cm W e te f) : XI X cm W tg e (iStr te) (mItS f) := ⟨pi_str h.pe, evi_str h.ev⟩
theorem xi_rng1 (t : Bt X.mg) (h : XAF X cm W [a] tx gs) (hg : Gl X "range" := by rfl) (hs : starEach [a] X.env = [(false, eval a X.env)] := by rfl) : XI X cm W tg (.Call (.Name "range" p1) [a] [] pos) (iRng1 tx) (mItR1 gs) := ⟨pi_range1 hg t.range h.pa hs, evi_rng1 h.ev⟩
theorem xi_rng2 (t : Bt X.mg) (h : XAF X cm W [a, b] tx gs) (hg : Gl X "range" := by rfl) (hs : starEach [a, b] X.env = [(false, eval a X.env), (false, eval b X.env)] := by rfl) (hs2 : starEach [b] X.env = [(false, eval b X.env)] := by rfl) :
    XI X cm W tg (.Call (.Name "range" p1) [a, b] [] pos) (iRng2 tx) (mItR2 gs) := ⟨pi_range2 hg t.range h.pa hs hs2, evi_rng2 h.ev⟩
theorem xg_nm {x : Str} (i : Nat) (hN : X.N.Nodup) (hi : i ∉ B) (hx : X.N[i]? = some x := by rfl) (hv : Loc X.env.scope x := by first | exact Or.inl rfl | exact Or.inr rfl) (hf : X.fn x = true ∨ X.env.scope.names.lookup x = some .local := by first | exact .inl rfl | exact .inr rfl | assumption) :
    XG X cm W B (.Name x pos) (gName i) (hNm i) := ⟨pg_name hN hx hv hf, evg_name hi⟩
theorem xgs_nil : XGs X cm W B [] gNil hNil := ⟨pgs_nil, evgs_nil⟩
theorem xgs_cons {g1 : TGs} {h1 : List O → Ev → Option Ev} (h : XG X cm W B e g0 hh) (k : XGs X cm W B es g1 h1) (hs : (assignEach (e :: es) X.env).map (·.2) = assign e X.env :: (assignEach es X.env).map (·.2) := by rfl) : XGs X cm W B (e :: es) (gCons g0 g1) (hCons hh h1) := ⟨pgs_cons h.pg k.pgs hs, evgs_cons h.ev k.ev⟩
theorem xg_tup {g1 : TGs} {h1 : List O → Ev → Option Ev} {k n : Nat} (hc : X.calm = true) (h : XGs X cm W B es g1 h1) (hn : (assignEach es X.env).length = n := by rfl) (hst : (assignEach es X.env).findIdx? (·.1) = none := by rfl) (hK : X.K = K := by first | exact cxK | exact blkK) : XG X cm W B (.Tuple es k pos) (gTup K n g1) (hTup h1 n) := by subst hK; exact ⟨pg_tup hc h.pgs hn hst, evg_tup h.ev⟩

/-! ### statements -/
variable {st : Stmt} {sts : List Stmt} {t u : TS} {fs fr : M Ctl} {tt : TT} {p : M Bool}
theorem xss_nil : XSs X cm W B [] tNext mNext := ⟨pss_nil, evs_next⟩
theorem xss_cons (h : XS X cm W B st t fs) (k : XSs X cm W B sts u fr) : XSs X cm W B (st :: sts) (tSeq t u) (mSeq fs fr) := ⟨pss_cons h.ps k.ps, evs_seq h.ev k.ev⟩
theorem xss_one (h : XS X cm W B st t fs) : XSs X cm W B [st] t fs := ⟨pss_one h.ps, h.ev⟩
theorem xss_kill (ks : List Nat) (h : XSs X cm W B sts t fs) : XSs X cm W B sts t (mKill ks fs) := ⟨h.ps, evs_kill ks h.ev⟩
theorem xs_pass : XS X cm W B (.Pass pos) tNext mNext := ⟨ps_pass, evs_next⟩
theorem xs_brk : XS X cm W B (.Break pos) tBreak mBrk := ⟨ps_break, evs_brk⟩
theorem xs_ret (h : XO X cm W e te f) : XS X cm W B (.Return (some e) pos) (tRet te) (mRet f) := ⟨ps_ret h.pe, evs_ret h.ev⟩
theorem xs_retN : XS X cm W B (.Return none pos) tRetN mRetN := ⟨ps_retN, evs_retN⟩
theorem xs_expr (h : XP X cm W e te f) (hs : swapsWith e none pos.line X.env = pure false := by rfl) : XS X cm W B (.Expr e pos) (tDrop te) (mDrop f) := ⟨ps_expr h.pe hs, evs_drop h.ev⟩
theorem xs_if {bs cs : List Stmt} (h : XT X cm W e tt p) (h1 : XSs X cm W B bs t fs) (h2 : XSs X cm W B cs u fr) : XS X cm W B (.If e bs cs pos) (tIfS tt t u) (mIfS p fs fr) := ⟨ps_if h.pt h1.ps h2.ps, evs_if h.ev h1.ev h2.ev⟩
theorem xs_asg (h : XO X cm W e te f) (hg : XG X cm W B tg g0 hh) (h1 : swapsWithSole [tg] e pos.line X.env = pure false := by rfl) (h2 : swappedStores [tg] e X.env = pure none := by rfl) (h3 : (assignEach [tg] X.env).map (·.2) = [assign tg X.env] := by rfl) :
    XS X cm W B (.Assign [tg] e pos) (tAsg te g0) (mAsg hh f) := ⟨ps_asg h.pe hg.pg h1 h2 h3, evs_asg h.ev hg.ev⟩
theorem xs_aug {x : Str} {op : Operator} {ti : TIp} {o : O → O → Option O} {pos' : Pos} (i : Nat) (hN : X.N.Nodup) (hi : i ∉ B) (ho : PIp X op ti) (hv : OpF X.K ti o) (h : XF X cm W e te f) (hx : X.N[i]? = some x := by rfl) (hl : Loc X.env.scope x := by first | exact Or.inl rfl | exact Or.inr rfl)
    (hf : X.fn x = true ∨ X.env.scope.names.lookup x = some .local := by first | exact .inl rfl | exact .inr rfl | assumption) : XS X cm W B (.AugAssign (.Name x pos') op e pos) (tAug i te ti) (mAug i o f) := ⟨ps_aug hN hx hl h.pe ho hf, evs_aug hi hv h.ev⟩
theorem xs_for {bs : List Stmt} (po : PassesOwn (model X.prog X.w) X.A X.env X.xe) (hc : X.calm = true) (hi : XI X cm W tg e wi it) (hg : XG X cm W B tg g0 hh) (hb : XSs X cm W B bs t fs) (h4 : ∀ x, foldedSetIterable e X.env x = pure x := by exact fun _ => rfl) : XS X cm W B (.For tg e bs [] pos) (tFor wi g0 t) (mFor it hh fs) :=
  ⟨ps_for po hc hi.pi hg.pg hb.ps (hs := h4), evs_for hi.ev hg.ev hb.ev⟩
theorem xs_while {bs : List Stmt} (n : Nat) (po : PassesOwn (model X.prog X.w) X.A X.env X.xe) (h : XT X cm W e tt p) (hb : XSs X cm W B bs t fs) : XS X cm W B (.While e bs [] pos) (tWhile tt t) (loopW p fs n) := ⟨ps_while po h.pt hb.ps, evs_while n h.ev hb.ev⟩
/-! comprehensions -/
structure XTs (X : Cx) (cm : Str → Addr) (W : L2.WX) (es : List Expr) (tt : TT) (p : M Bool) : Prop where
  pts : PTs X es tt
  ev : EvT (cf X cm W) tt p
theorem xts_nil : XTs X cm W [] tYes mYes := ⟨pts_nil, evt_yes⟩
theorem xts_one (h : XT X cm W e tt p) : XTs X cm W [e] tt p := ⟨pts_one h.pt, h.ev⟩
abbrev W0 : L2.WX := fun _ _ _ _ => False
theorem xo_lc {elt iter : Expr} {ifs : List Expr} {scope : Scope} (own : List (Str × Nat)) (hc : X.calm = true) (hN : X.N.Nodup) (hi : XI X cm W tg iter wi it) (ok : BlkOk X.N X.env.scope scope own)
    (hg : ∀ (B : List Nat), (∀ k ∈ own.map (·.2), k ∉ B) → ∀ (s : Shared) (H : Hp) (C : Addr) (cl : List (Str × Addr)) (fp : List Addr), XG (X.blk s H scope (compEnvC scope cl C X.env) fp) cm W0 B tg g0 hh)
    (ht : ∀ (s : Shared) (H : Hp) (C : Addr) (cl : List (Str × Addr)) (fp : List Addr), XTs (X.blk s H scope (compEnvC scope cl C X.env) fp) cm W0 ifs tt p)
    (he : ∀ (s : Shared) (H : Hp) (C : Addr) (cl : List (Str × Addr)) (fp : List Addr), XF (X.blk s H scope (compEnvC scope cl C X.env) fp) cm W0 elt te f)
    (h4 : ∀ (x : Value), foldedSetIterable iter X.env x = pure x := by exact fun _ => rfl) :
    XO X cm W (.ListComp elt [⟨tg, iter, ifs, 0⟩] scope pos) (tLc wi g0 tt te (own.map (·.2))) (mLc it hh p f (own.map (·.2))) := by
  refine ⟨pe_lc hc hN hi.pi ok (fun s H C cl fp => (hg [] (fun _ _ z => nomatch z) s H C cl fp).pg) (fun s H C cl fp => (ht s H C cl fp).pts) (fun s H C cl fp => (he s H C cl fp).pe) h4, ?_⟩
  exact ev_lc hi.ev (fun B hB => (hg B hB X.s_0 (fun _ => none) 0 [] []).ev) (ht X.s_0 (fun _ => none) 0 [] []).ev (he X.s_0 (fun _ => none) 0 [] []).ev
end
end Ow
set_option Elab.async false
set_option linter.all false
set_option maxRecDepth 100000
set_option maxHeartbeats 4000000
namespace Ow
open PySem L2
section
variable {X : Cx} {K : PySem.W.Frag} {cm : Str → Addr} {W : L2.WX} {B : List Nat} {e a b d o : Expr} {es : List Expr} {te ta tb td ti : TE} {f g h : M O} {pos p1 p2 apos : Pos} {tx : TA} {gs : M (List O)} {tg : Expr}
theorem xi_enum {elts : List Expr} {kk : Nat} (t : Bt X.mg) (h : XAF X cm W [e] tx gs) (hg : Gl X "enumerate" := by rfl) (hs : starEach [e] X.env = [(false, eval e X.env)] := by rfl) (hK : X.K = K := by first | exact cxK | exact blkK) : XI X cm W (.Tuple elts kk p2) (.Call (.Name "enumerate" p1) [e] [] pos) (iEnum K tx) (mItE gs) := by subst hK; exact ⟨pi_enum hg t.enumerate h.pa hs, evi_enum h.ev⟩
theorem xi_zip {elts : List Expr} {kk : Nat} (t : Bt X.mg) (h : XAF X cm W [a, b] tx gs) (hg : Gl X "zip" := by rfl) (hs : starEach [a, b] X.env = (false, eval a X.env) :: starEach [b] X.env := by rfl) (hs2 : (backTo pos (starEach [b] X.env)).any (·.1) = false := by rfl) (hK : X.K = K := by first | exact cxK | exact blkK) : XI X cm W (.Tuple elts kk p2) (.Call (.Name "zip" p1) [a, b] [] pos) (iZip K tx) (mItZ gs) := by subst hK; exact ⟨pi_zip hg t.zip h.pa hs hs2, evi_zip h.ev⟩
/-! changing lists -/
variable {x : Str} (i : Nat)
theorem xo_app (h : XO X cm W e te f) (hN : X.N[i]? = some x := by rfl) (hv : Vis X.env.scope x := by first | exact Or.inl rfl | exact Or.inr (Or.inl rfl) | exact Or.inr (Or.inr rfl)) (hd : (x == ("__debug__" : Str)) = false := by decide) (hcd : (x == ("__classdict__" : Str)) = false := by decide)
    (hs : starEach [e] X.env = (false, eval e X.env) :: starEach [] X.env := by rfl) (hb : attributeBase (.Name x p1) "append" X.env (eval (.Name x p1) X.env) = eval (.Name x p1) X.env := by rfl)
    (hf : (((backTo pos (starEach [e] X.env)).all fun x => !x.1) && ((backToKw pos (keywordEach [] X.env)).all fun x => x.1.isSome) && decide (([e].length + ([] : List Keyword).length + if ([] : List Keyword).isEmpty = true then 0 else 1) < 30)) = true := by rfl) (hl : (apos.endLine == pos.line) = true := by rfl) (hp : (backTo pos (starEach [] X.env)).any (·.1) = false := by rfl) (hK : X.K = K := by first | exact cxK | exact blkK) :
    XO X cm W (.Call (.Attribute (.Name x p1) "append" apos) [e] [] pos) (tBM K "list" rAppend (tVar i) (tCons te tNil)) (mApp i f) := by subst hK; exact ⟨pe_bm PySem.F.plainAttrs_list PySem.F.slot_list_append PySem.F.type_list_append mt_append (pe_var hN hv hd hcd) (pa_cons h.pe pa_nil hs) hb hf hl hs hp, evo_app h.ev⟩
theorem xo_appP {p : List Nat} (k : XPl X cm W a ta i p) (h : XC X cm W e te f)
    (hs : starEach [e] X.env = (false, eval e X.env) :: starEach [] X.env := by rfl) (hb : attributeBase a "append" X.env (eval a X.env) = eval a X.env := by rfl)
    (hf : (((backTo pos (starEach [e] X.env)).all fun x => !x.1) && ((backToKw pos (keywordEach [] X.env)).all fun x => x.1.isSome) && decide (([e].length + ([] : List Keyword).length + if ([] : List Keyword).isEmpty = true then 0 else 1) < 30)) = true := by rfl) (hl : (apos.endLine == pos.line) = true := by rfl) (hp : (backTo pos (starEach [] X.env)).any (·.1) = false := by rfl) (hK : X.K = K := by first | exact cxK | exact blkK) :
    XO X cm W (.Call (.Attribute a "append" apos) [e] [] pos) (tBM K "list" rAppend ta (tCons te tNil)) (mAppP i p f) := by subst hK; exact ⟨pe_bm PySem.F.plainAttrs_list PySem.F.slot_list_append PySem.F.type_list_append mt_append k.pe (pa_cons h.pe pa_nil hs) hb hf hl hs hp, evo_appP k.ev h.ev⟩
theorem xo_pop (hN : X.N[i]? = some x := by rfl) (hv : Vis X.env.scope x := by first | exact Or.inl rfl | exact Or.inr (Or.inl rfl) | exact Or.inr (Or.inr rfl)) (hd : (x == ("__debug__" : Str)) = false := by decide) (hcd : (x == ("__classdict__" : Str)) = false := by decide)
    (hb : attributeBase (.Name x p1) "pop" X.env (eval (.Name x p1) X.env) = eval (.Name x p1) X.env := by rfl) (hl : (apos.endLine == pos.line) = true := by rfl) (hK : X.K = K := by first | exact cxK | exact blkK) : XO X cm W (.Call (.Attribute (.Name x p1) "pop" apos) [] [] pos) (tBM0 K "list" rPop (tVar i)) (mPop i) := by subst hK; exact ⟨pe_bm0 PySem.F.plainAttrs_list PySem.F.slot_list_pop PySem.F.type_list_pop mt_pop (pe_var hN hv hd hcd) hb hl, evo_pop⟩
theorem xo_popAt (h : XF X cm W e te f) (hN : X.N[i]? = some x := by rfl) (hv : Vis X.env.scope x := by first | exact Or.inl rfl | exact Or.inr (Or.inl rfl) | exact Or.inr (Or.inr rfl)) (hd : (x == ("__debug__" : Str)) = false := by decide) (hcd : (x == ("__classdict__" : Str)) = false := by decide)
    (hs : starEach [e] X.env = (false, eval e X.env) :: starEach [] X.env := by rfl) (hb : attributeBase (.Name x p1) "pop" X.env (eval (.Name x p1) X.env) = eval (.Name x p1) X.env := by rfl)
    (hf : (((backTo pos (starEach [e] X.env)).all fun x => !x.1) && ((backToKw pos (keywordEach [] X.env)).all fun x => x.1.isSome) && decide (([e].length + ([] : List Keyword).length + if ([] : List Keyword).isEmpty = true then 0 else 1) < 30)) = true := by rfl) (hl : (apos.endLine == pos.line) = true := by rfl) (hp : (backTo pos (starEach [] X.env)).any (·.1) = false := by rfl) (hK : X.K = K := by first | exact cxK | exact blkK) :
    XO X cm W (.Call (.Attribute (.Name x p1) "pop" apos) [e] [] pos) (tBM K "list" rPopAt (tVar i) (tCons te tNil)) (mPopAt i f) := by subst hK; exact ⟨pe_bm PySem.F.plainAttrs_list PySem.F.slot_list_pop PySem.F.type_list_pop mt_popAt (pe_var hN hv hd hcd) (pa_cons h.pe pa_nil hs) hb hf hl hs hp, evo_popAt h.ev⟩
theorem xo_remove (h : XF X cm W e te f) (hN : X.N[i]? = some x := by rfl) (hv : Vis X.env.scope x := by first | exact Or.inl rfl | exact Or.inr (Or.inl rfl) | exact Or.inr (Or.inr rfl)) (hd : (x == ("__debug__" : Str)) = false := by decide) (hcd : (x == ("__classdict__" : Str)) = false := by decide)
    (hs : starEach [e] X.env = (false, eval e X.env) :: starEach [] X.env := by rfl) (hb : attributeBase (.Name x p1) "remove" X.env (eval (.Name x p1) X.env) = eval (.Name x p1) X.env := by rfl)
    (hf : (((backTo pos (starEach [e] X.env)).all fun x => !x.1) && ((backToKw pos (keywordEach [] X.env)).all fun x => x.1.isSome) && decide (([e].length + ([] : List Keyword).length + if ([] : List Keyword).isEmpty = true then 0 else 1) < 30)) = true := by rfl) (hl : (apos.endLine == pos.line) = true := by rfl) (hp : (backTo pos (starEach [] X.env)).any (·.1) = false := by rfl) (hK : X.K = K := by first | exact cxK | exact blkK) :
    XO X cm W (.Call (.Attribute (.Name x p1) "remove" apos) [e] [] pos) (tBM K "list" rRemI (tVar i) (tCons te tNil)) (mRemove i f) := by subst hK; exact ⟨pe_bm PySem.F.plainAttrs_list PySem.F.slot_list_remove PySem.F.type_list_remove mt_remove (pe_var hN hv hd hcd) (pa_cons h.pe pa_nil hs) hb hf hl hs hp, evo_remove h.ev⟩
theorem xo_extend (h : XF X cm W e te f) (hN : X.N[i]? = some x := by rfl) (hv : Vis X.env.scope x := by first | exact Or.inl rfl | exact Or.inr (Or.inl rfl) | exact Or.inr (Or.inr rfl)) (hd : (x == ("__debug__" : Str)) = false := by decide) (hcd : (x == ("__classdict__" : Str)) = false := by decide)
    (hs : starEach [e] X.env = (false, eval e X.env) :: starEach [] X.env := by rfl) (hb : attributeBase (.Name x p1) "extend" X.env (eval (.Name x p1) X.env) = eval (.Name x p1) X.env := by rfl)
    (hf : (((backTo pos (starEach [e] X.env)).all fun x => !x.1) && ((backToKw pos (keywordEach [] X.env)).all fun x => x.1.isSome) && decide (([e].length + ([] : List Keyword).length + if ([] : List Keyword).isEmpty = true then 0 else 1) < 30)) = true := by rfl) (hl : (apos.endLine == pos.line) = true := by rfl) (hp : (backTo pos (starEach [] X.env)).any (·.1) = false := by rfl) (hK : X.K = K := by first | exact cxK | exact blkK) :
    XO X cm W (.Call (.Attribute (.Name x p1) "extend" apos) [e] [] pos) (tBM K "list" rExtend (tVar i) (tCons te tNil)) (mExtend i f) := by subst hK; exact ⟨pe_bm PySem.F.plainAttrs_list PySem.F.slot_list_extend PySem.F.type_list_extend mt_extend (pe_var hN hv hd hcd) (pa_cons h.pe pa_nil hs) hb hf hl hs hp, evo_extend h.ev⟩
theorem xf_indexL (k : XF X cm W a ta g) (h : XF X cm W e te f)
    (hs : starEach [e] X.env = (false, eval e X.env) :: starEach [] X.env := by rfl) (hb : attributeBase a "index" X.env (eval a X.env) = eval a X.env := by rfl)
    (hf : (((backTo pos (starEach [e] X.env)).all fun x => !x.1) && ((backToKw pos (keywordEach [] X.env)).all fun x => x.1.isSome) && decide (([e].length + ([] : List Keyword).length + if ([] : List Keyword).isEmpty = true then 0 else 1) < 30)) = true := by rfl) (hl : (apos.endLine == pos.line) = true := by rfl) (hp : (backTo pos (starEach [] X.env)).any (·.1) = false := by rfl) (hK : X.K = K := by first | exact cxK | exact blkK) :
    XO X cm W (.Call (.Attribute a "index" apos) [e] [] pos) (tBM K "list" (rIndex K) ta (tCons te tNil)) (mMl oIndexL g f) := by subst hK; exact ⟨pe_bm PySem.F.plainAttrs_list PySem.F.slot_list_index PySem.F.type_list_index mt_index k.pe (pa_cons h.pe pa_nil hs) hb hf hl hs hp, evo_ml opm_indexL k.ev h.ev⟩
theorem xo_join (k : XP X cm W a ta g) (h : XF X cm W e te f)
    (hs : starEach [e] X.env = (false, eval e X.env) :: starEach [] X.env := by rfl) (hb : attributeBase a "join" X.env (eval a X.env) = eval a X.env := by rfl)
    (hf : (((backTo pos (starEach [e] X.env)).all fun x => !x.1) && ((backToKw pos (keywordEach [] X.env)).all fun x => x.1.isSome) && decide (([e].length + ([] : List Keyword).length + if ([] : List Keyword).isEmpty = true then 0 else 1) < 30)) = true := by rfl) (hl : (apos.endLine == pos.line) = true := by rfl) (hp : (backTo pos (starEach [] X.env)).any (·.1) = false := by rfl) (hK : X.K = K := by first | exact cxK | exact blkK) :
    XO X cm W (.Call (.Attribute a "join" apos) [e] [] pos) (tBMS K "str" (fun _ x xs H Q => ∃ a p, ∃ ys : List Str, x = .str a ∧ xs = [.ref p] ∧ (SqL K H p (ys.map V.str) ∨ SqT K H p (ys.map V.str)) ∧ (ys.map (·.length)).sum + ys.length * a.length ≤ 16777216 ∧ Q (.str (Txt.join a ys)) H) ta (tCons te tNil)) (mMs oJoin g f) := by subst hK; exact ⟨pe_bmS PySem.F.plainAttrs_str PySem.F.slot_str_join PySem.F.type_str_join mt_join.toS k.pe (pa_cons h.pe pa_nil hs) hb hf hl hs hp, evo_ms (fun σ F H a y vy Q s hy w => opm_join σ F H a y vy Q s hy w) k.ev h.ev⟩
theorem xo_indexS (hc : X.calm = true) (tk : L2.Takes X W) (k : XP X cm W a ta g) (h : XF X cm W e te f)
    (hs : starEach [e] X.env = (false, eval e X.env) :: starEach [] X.env := by rfl) (hb : attributeBase a "index" X.env (eval a X.env) = eval a X.env := by rfl)
    (hf : (((backTo pos (starEach [e] X.env)).all fun x => !x.1) && ((backToKw pos (keywordEach [] X.env)).all fun x => x.1.isSome) && decide (([e].length + ([] : List Keyword).length + if ([] : List Keyword).isEmpty = true then 0 else 1) < 30)) = true := by rfl) (hl : (apos.endLine == pos.line) = true := by rfl) (hp : (backTo pos (starEach [] X.env)).any (·.1) = false := by rfl) (hK : X.K = K := by first | exact cxK | exact blkK) :
    XO X cm W (.Call (.Attribute a "index" apos) [e] [] pos) (tBMS K "str" (rIndexX W) ta (tCons te tNil)) (mMs oIndexS g f) := by subst hK; exact ⟨pe_bmS PySem.F.plainAttrs_str PySem.F.slot_str_index PySem.F.type_str_index (mt_indexX hc tk) k.pe (pa_cons h.pe pa_nil hs) hb hf hl hs hp, evo_ms (fun σ F H a y vy Q s hy w => opm_indexS σ F H a y vy Q s hy w) k.ev h.ev⟩
theorem xs_setI (hi : XF X cm W b ti g) (h : XF X cm W e te f) (hN : X.N[i]? = some x := by rfl) (hv : Vis X.env.scope x := by first | exact Or.inl rfl | exact Or.inr (Or.inl rfl) | exact Or.inr (Or.inr rfl)) (hd : (x == ("__debug__" : Str)) = false := by decide) (hcd : (x == ("__classdict__" : Str)) = false := by decide)
    (ha : ∀ v, assign (.Subscript (.Name x p1) b p2) X.env v = (do
      let ov ← holding [v] (eval (.Name x p1) X.env)
      let iv ← holding [v, ov] (eval b X.env)
      standAt p2
      holding [v, ov, iv] (setItem ov iv v)
      release [v, ov, iv] []) := by intros; rfl)
    (h1 : swapsWithSole [.Subscript (.Name x p1) b p2] e pos.line X.env = pure false := by rfl) (h2 : swappedStores [.Subscript (.Name x p1) b p2] e X.env = pure none := by rfl) (h3 : (assignEach [.Subscript (.Name x p1) b p2] X.env).map (·.2) = [assign (.Subscript (.Name x p1) b p2) X.env] := by rfl) :
    XS X cm W B (.Assign [.Subscript (.Name x p1) b p2] e pos) (tAsg te (gSub (tVar i) ti rSetL)) (mSetI i g f) :=
  ⟨ps_asg h.pe (pg_sub (pe_var hN hv hd hcd) hi.pe set_list ha) h1 h2 h3, evs_setI h.ev hi.ev⟩
theorem xs_augI {op : Operator} {tip : TIp} {oo : O → O → Option O} (ho : PIp X op tip) (hw : OpF X.K tip oo) (hi : XF X cm W b ti g) (h : XF X cm W e te f) (hN : X.N[i]? = some x := by rfl) (hv : Vis X.env.scope x := by first | exact Or.inl rfl | exact Or.inr (Or.inl rfl) | exact Or.inr (Or.inr rfl)) (hd : (x == ("__debug__" : Str)) = false := by decide) (hcd : (x == ("__classdict__" : Str)) = false := by decide)
    (ha : ∀ ov iv new, augStore b ov iv new = (do holding [new, ov, iv] (setItem ov iv new); release [new, ov, iv] []; pure .next) := by intros; rfl) :
    XS X cm W B (.AugAssign (.Subscript (.Name x p1) b p2) op e pos) (tAugS (tVar i) ti te (rGetL X.K) tip rSetL) (mAugI i oo g f) :=
  ⟨ps_augS (pe_var hN hv hd hcd) hi.pe get_list h.pe ho set_list ha, evs_augI hw hi.ev h.ev⟩
end
/-- slots forgotten ahead of a statement -/
def mPre (ks : List Nat) (f : M Ctl) : M Ctl := fun env => f (delE ks env)
theorem evs_pre {c : Cfg} {B : List Nat} {t : TS} {fs : M Ctl} (ks : List Nat) (h : EvS c B t fs) : EvS c B t (mPre ks fs) := fun F H σ env fp fr D rl w => by
  obtain ⟨fp', r'⟩ := rl.del ks
  exact h F H σ _ fp' fr D r' w
section
variable {X : Cx} {K : PySem.W.Frag} {cm : Str → Addr} {W : L2.WX} {B : List Nat}
theorem xs_pre {st : Stmt} {t : TS} {fs : M Ctl} (ks : List Nat) (h : XS X cm W B st t fs) : XS X cm W B st t (mPre ks fs) := ⟨h.ps, evs_pre ks h.ev⟩
theorem xs_setLc {elt iter tg : Expr} {ifs : List Expr} {scope : Scope} (own : List (Str × Nat)) {y : Str} {py pos spos : Pos} {wi : TI} {g0 : TG} {hh : O → Ev → Option Ev} {it : M (List O)} {tt : TT} {p : M Bool} {te : TE} {f : M O} (i : Nat) (hc : X.calm = true) (hN : X.N.Nodup) (hiB : i ∉ B) (hi : XI X cm W tg iter wi it) (ok : BlkOk X.N X.env.scope scope own)
    (hg : ∀ (B : List Nat), (∀ k ∈ own.map (·.2), k ∉ B) → ∀ (s : Shared) (H : Hp) (C : Addr) (cl : List (Str × Addr)) (fp : List Addr), XG (X.blk s H scope (compEnvC scope cl C X.env) fp) cm W0 B tg g0 hh)
    (ht : ∀ (s : Shared) (H : Hp) (C : Addr) (cl : List (Str × Addr)) (fp : List Addr), XTs (X.blk s H scope (compEnvC scope cl C X.env) fp) cm W0 ifs tt p)
    (he : ∀ (s : Shared) (H : Hp) (C : Addr) (cl : List (Str × Addr)) (fp : List Addr), XF (X.blk s H scope (compEnvC scope cl C X.env) fp) cm W0 elt te f)
    (hsw : swapsWith (.ListComp elt [⟨tg, iter, ifs, 0⟩] scope pos) (some (.Name y py)) spos.line X.env = pure true) (hy : X.N[i]? = some y := by rfl) (hyl : X.env.scope.names.lookup y = some .local := by rfl) (h4 : ∀ (x : Value), foldedSetIterable iter X.env x = pure x := by exact fun _ => rfl) :
    XS X cm W B (.Assign [.Name y py] (.ListComp elt [⟨tg, iter, ifs, 0⟩] scope pos) spos) (tAsg (tLc wi g0 tt te (own.map (·.2))) (gName i)) (mAsg (hNm i) (mLc it hh p f (own.map (·.2)))) := by
  refine ⟨ps_setLc hc hN hy hyl hsw hi.pi ok (fun s H C cl fp => (hg [] (fun _ _ z => nomatch z) s H C cl fp).pg) (fun s H C cl fp => (ht s H C cl fp).pts) (fun s H C cl fp => (he s H C cl fp).pe) h4, ?_⟩
  exact evs_asg (ev_lc hi.ev (fun B hB => (hg B hB X.s_0 (fun _ => none) 0 [] []).ev) (ht X.s_0 (fun _ => none) 0 [] []).ev (he X.s_0 (fun _ => none) 0 [] []).ev) (evg_name hiB)
/-- list(range(a, b)) -/
def oRgL (lo hi : Int) : Option O := if big lo && big hi && decide (hi - lo ≤ 1000000) then some (.lst true ((rng lo hi).map .int)) else none
def mRgL1 (f : M O) : M O := fun env => (f env).bind fun e x => match x with
  | .int j => (match oRgL 0 j with
    | some o => .ok e o
    | none => .bad)
  | _ => .bad
def mRgL2 (f g : M O) : M O := fun env => (f env).bind fun e x => (g e).bind fun e y => match x, y with
  | .int i, .int j => (match oRgL i j with
    | some o => .ok e o
    | none => .bad)
  | _, _ => .bad
theorem rgV_eq {lo hi : Int} : rgV lo hi = (rng lo hi).map V.int := by
  unfold rgV rng
  rw [List.map_map]; rfl
theorem rgOk {lo hi : Int} (h : (big lo && big hi && decide (hi - lo ≤ 1000000)) = true) : RgOk lo hi := by
  rw [Bool.and_eq_true, Bool.and_eq_true, decide_eq_true_eq] at h
  obtain ⟨⟨h1, h2⟩, h3⟩ := h
  have := big_ok h1
  have := big_ok h2
  exact ⟨by omega, by omega, by omega, by omega, by omega⟩
theorem evo_rgL2 {c : Cfg} {ta tb : TE} {f g : M O} (ha : EvF c ta f) (hb : EvF c tb g) : EvO c (tLstRg (tRg2 ta tb)) (mRgL2 f g) := fun F H σ env fp fr Q rl w => by
  refine ha F H σ env fp fr _ rl ?_
  unfold mRgL2 at w
  cases e1 : f env with
  | bad => rw [e1] at w; exact w.elim
  | err env1 x => rw [e1] at w; exact w
  | ok env1 x =>
    rw [e1] at w
    intro v F1 H1 fp1 s1 k1 r1 q1
    refine hb F1 H1 σ env1 fp1 fr _ r1 ?_
    simp only [R.bind] at w
    cases e2 : g env1 with
    | bad => rw [e2] at w; exact w.elim
    | err env2 x => rw [e2] at w; exact WE.err_up s1 k1 w
    | ok env2 y =>
      rw [e2] at w
      intro v2 F2 H2 fp2 s2 k2 r2 q2
      simp only at w
      split at w
      · rename_i i j
        obtain ⟨rfl, _⟩ := q1
        obtain ⟨rfl, _⟩ := q2
        refine ⟨i, j, rfl, rfl, ?_⟩
        unfold oRgL at w
        by_cases hz : (big i && big j && decide (j - i ≤ 1000000)) = true
        · rw [if_pos hz] at w
          have n := newW_of r2 (s1.trans s2) (k1.trans k2) w
          refine ⟨rgOk hz, fun q hq => ?_⟩
          rw [rgV_eq]
          exact n.lst r2.sub (Rps.ints _) hq
        · rw [if_neg hz] at w; exact w.elim
      · exact w.elim
theorem evo_rgL1 {c : Cfg} {ta : TE} {f : M O} (ha : EvF c ta f) : EvO c (tLstRg (tRg1 ta)) (mRgL1 f) := fun F H σ env fp fr Q rl w => by
  refine ha F H σ env fp fr _ rl ?_
  unfold mRgL1 at w
  cases e1 : f env with
  | bad => rw [e1] at w; exact w.elim
  | err env1 x => rw [e1] at w; exact w
  | ok env1 x =>
    rw [e1] at w
    intro v F1 H1 fp1 s1 k1 r1 q1
    simp only [R.bind] at w
    split at w
    · rename_i j
      obtain ⟨rfl, _⟩ := q1
      refine ⟨j, rfl, ?_⟩
      unfold oRgL at w
      by_cases hz : (big 0 && big j && decide (j - 0 ≤ 1000000)) = true
      · rw [if_pos hz] at w
        have n := newW_of r1 s1 k1 w
        refine ⟨rgOk hz, fun q hq => ?_⟩
        rw [rgV_eq]
        exact n.lst r1.sub (Rps.ints _) hq
      · rw [if_neg hz] at w; exact w.elim
    · exact w.elim
variable {a b : Expr} {ta tb : TE} {f g : M O} {p0 p1 pos : Pos}
theorem xo_rgL2 {p2 : Pos} (t : Bt X.mg) (hc : X.calm = true) (ha : XF X cm W a ta f) (hb : XF X cm W b tb g) (hg : Gl X "list" := by rfl) (hg2 : Gl X "range" := by rfl) (hs : starEach [.Call (.Name "range" p1) [a, b] [] p2] X.env = (false, eval (.Call (.Name "range" p1) [a, b] [] p2) X.env) :: starEach [] X.env := by rfl)
    (h1 : starEach [a, b] X.env = (false, eval a X.env) :: starEach [b] X.env := by rfl) (h2 : starEach [b] X.env = (false, eval b X.env) :: starEach [] X.env := by rfl) (hq : (backTo p2 (starEach [b] X.env)).any (·.1) = false := by rfl) :
    XO X cm W (.Call (.Name "list" p0) [.Call (.Name "range" p1) [a, b] [] p2] [] pos) (tLstRg (tRg2 ta tb)) (mRgL2 f g) := ⟨pe_listRg hc hg t.list (prg_2 hg2 t.range ha.pe hb.pe h1 h2 hq) hs, evo_rgL2 ha.ev hb.ev⟩
theorem xo_rgL1 {p2 : Pos} (t : Bt X.mg) (hc : X.calm = true) (ha : XF X cm W a ta f) (hg : Gl X "list" := by rfl) (hg2 : Gl X "range" := by rfl) (hs : starEach [.Call (.Name "range" p1) [a] [] p2] X.env = (false, eval (.Call (.Name "range" p1) [a] [] p2) X.env) :: starEach [] X.env := by rfl)
    (h1 : starEach [a] X.env = (false, eval a X.env) :: starEach [] X.env := by rfl) :
    XO X cm W (.Call (.Name "list" p0) [.Call (.Name "range" p1) [a] [] p2] [] pos) (tLstRg (tRg1 ta)) (mRgL1 f) := ⟨pe_listRg hc hg t.list (prg_1 hg2 t.range ha.pe h1) hs, evo_rgL1 ha.ev⟩
/-- .. where the level is shown by hand, and the house is named apart from the place -/
theorem xo_callR {P : Program} {w : World} {K : PySem.W.Frag} {mg : Str → Option Value} {base : Heap} {e : Expr} {es : List Expr} {tx : TA} {x : Str} {k j : Nat} {np : Nat} {bm : List Nat} {m : List O → FR} {as : List Arg} (hjk : j ≤ k) (C : Cal P w K mg base cm j x np bm m) (hr : Room k X.A) (tk : L2.Takes X W) (h : XAr X cm W (e :: es) tx as)
    (hX : X.prog = P ∧ X.w = w ∧ X.K = K ∧ X.mg = mg ∧ X.base = base := by exact ⟨rfl, rfl, rfl, rfl, rfl⟩) (hg : Gl X x := by rfl) (hn : (bors as).Nodup := by decide)
    (hp : posB 0 as = bm := by rfl) (hl : as.length = np := by rfl) (hdb : (x == ("__debug__" : Str)) = false := by decide) (he : starEach (e :: es) X.env = (false, eval e X.env) :: starEach es X.env := by rfl) (hpl : (backTo pos (starEach es X.env)).any (·.1) = false := by rfl) :
    XO X cm W (.Call (.Name x p1) (e :: es) [] pos) (tCallS (spM K cm np bm m) (L2.WE W) tx) (mCall m as) := by
  obtain ⟨rfl, rfl, rfl, rfl, rfl⟩ := hX
  exact xo_call C hr tk h hjk hg hn hp hl hdb he hpl
theorem xo_callS {P : Program} {w : World} {K : PySem.W.Frag} {mg : Str → Option Value} {base : Heap} {e : Expr} {es : List Expr} {tx : TA} {x : Str} {k j : Nat} {np : Nat} {bm : List Nat} {m : List O → FR} {as : List Arg} (C : Cal P w K mg base cm j x np bm m) (hr : Room k X.A) (tk : L2.Takes X W) (h : XAr X cm W (e :: es) tx as)
    (hjk : j ≤ k := by decide) (hX : X.prog = P ∧ X.w = w ∧ X.K = K ∧ X.mg = mg ∧ X.base = base := by exact ⟨rfl, rfl, rfl, rfl, rfl⟩) (hg : Gl X x := by rfl) (hn : (bors as).Nodup := by decide)
    (hp : posB 0 as = bm := by rfl) (hl : as.length = np := by rfl) (hdb : (x == ("__debug__" : Str)) = false := by decide) (he : starEach (e :: es) X.env = (false, eval e X.env) :: starEach es X.env := by rfl) (hpl : (backTo pos (starEach es X.env)).any (·.1) = false := by rfl) :
    XO X cm W (.Call (.Name x p1) (e :: es) [] pos) (tCallS (spM K cm np bm m) (L2.WE W) tx) (mCall m as) := by
  obtain ⟨rfl, rfl, rfl, rfl, rfl⟩ := hX
  exact xo_call C hr tk h hjk hg hn hp hl hdb he hpl
end
end Ow
set_option Elab.async false
set_option linter.all false
set_option maxRecDepth 100000
set_option maxHeartbeats 4000000
namespace Ow
open PySem L2 PySem.Spec PyProof.Rows
/-! ### the end: from the plain function to the row -/
theorem fun_of {K : PySem.W.Frag} {x : Str} {st : Stmt} {f : Addr} {fd : FuncData} (F : FunD K x x (defArgs st) (defBody st) (defScope st) [] [] f fd) : Fun K x x st f fd := by
  obtain ⟨oc, od, dV, kV, doc, pm, an, cdv, ct, osl, e, lk, hcd, hD, _⟩ := F.ex
  rcases hD with ⟨_, rfl⟩ | ⟨e2, _⟩
  · exact ⟨⟨oc, od, kV, doc, pm, an, cdv, ct, osl, e, lk, hcd⟩, F.kp⟩
  · exact absurd rfl e2
theorem sp_start {K : PySem.W.Frag} {cm : Str → Addr} {m : List O → FR} {ns : List Int} {H : Hp} {a : Addr} {E : XK} (hS : SqL K H a (ns.map V.int)) (hm : m [.scr ns] = .ret (.bl true) []) : spM K cm 1 [] m [.ref a] H (fun v _ => v = .bl true) E := by
  have key : ∀ (i : Nat) (o : O), (([.scr ns] : List O).map some)[i]? = some (some o) → i = 0 ∧ o = .scr ns := fun i o e => by
    cases i with
    | zero => cases e; exact ⟨rfl, rfl⟩
    | succ i => simp at e
  refine ⟨H, [.scr ns], fun _ => [], rfl, ⟨rfl, fun b o e => e, fun i o e => ?_, fun _ _ => rfl, fun _ => List.nodup_nil, fun _ _ _ _ ha _ => (by cases ha), fun b hb => ?_⟩, fun _ _ => rfl, ?_⟩
  · obtain ⟨rfl, rfl⟩ := key i o e
    exact ⟨.ref a, rfl, ⟨a, rfl, hS⟩, rfl⟩
  · obtain ⟨⟨o, h1⟩, h2, _⟩ := hb
    rw [h1] at h2; cases h2
  · rw [hm]
    intro v F' H' fp' fv _ _ _ q _ _
    exact q.1
/-- the law's end, its exceptions' road hanging on the world -/
theorem law_walk {l : PySem.W.OpenLaw} {n k : Nat} {q : Program} {loose : List Str} {XP : (Str → Option Value) → Heap → Prop} {YP : World → Heap → Prop} {d : DefRec} {x : Str}
    (hn : l.most = some n) (hn2 : n ≤ sizeLine) (hdf : d.params.defaults = []) (hr : Room k callerA)
    (F : ∀ (w : World) (mg : Str → Option Value) (fa : Addr) (h : Heap), YP w h → h.Ns mainGlobals mg → mg d.name = some (.ref fa) →
      ∃ (K : PySem.W.Frag) (fd : FuncData) (m : List O → FR), K.In h ∧ (∀ (s : Shared) (u : Value), BindsTo s fd ⟨[u], []⟩ [(x, u)]) ∧
        (∀ ns : List Int, ns.length ≤ n → m [.scr ns] = .ret (.bl true) []) ∧
        ∀ base : Heap, K.In base → base.Ns mainGlobals mg → FnOk l.prog w K mg base (L2.CX l.prog w) k fa fd [x] (spM K (He.ga K) 1 [] m)) :
    PySem.W.WalkO q loose XP YP l.row.toRowW d [] (fun f vs => PySem.call f vs) := by
  refine Att.attach_call hn hdf fun w s₀ s₁ mg mb fa o pm cd doc a vs ns G Y ho hd hcd hmg hobj hints hlen hg => ?_
  obtain ⟨K, fd, m, KX, hb, hm, hF⟩ := F w mg fa _ Y G.T.g hmg
  exact law_call KX G.T.g G.T.b G.T.builtins G.T.nolimit hg hobj hints (Nat.le_trans hlen hn2) hr hF hb (fun H _ hS => sp_start hS (hm ns hlen)) fun H e s' c => by
    obtain ⟨_, _, _, _, _, _, _, _, _, _, _, _, z⟩ := c
    exact z
end Ow
set_option Elab.async false
set_option linter.all false
set_option maxRecDepth 100000
set_option maxHeartbeats 4000000
namespace Ow
open PySem L2
/-! ### plain reasoning: weakest preconditions of the plain functions -/
/-- what hangs on its arguments in its type alone: simp does not walk into them -/
inductive Dm {α β γ : Type} (a : α) (b : β) (c : γ) : Type where
  | mk
@[irreducible] def Wp {α : Type} (r : R α) (Q : Ev → α → Prop) (E : Ev → Exn → Prop) (_d : Dm Q E () := .mk) : Prop := match r with
  | .ok e a => Q e a
  | .err e x => E e x
  | .bad => False
@[irreducible] def WpO {α : Type} (o : Option α) (P : α → Prop) (_d : Dm P () () := .mk) : Prop := match o with
  | some a => P a
  | none => False
@[irreducible] def WpF (r : FR) (P : O → List O → Prop) (E : Exn → List O → Prop) (_d : Dm P E () := .mk) : Prop := match r with
  | .ret o bs => P o bs
  | .exc x bs => E x bs
  | .bad => False
/-- the rest behind a statement -/
@[irreducible] def SeqC (e : Ev) (c : Ctl) (A : Prop) (Q : Ev → Ctl → Prop) (_d : Dm A Q () := .mk) : Prop := match c with
  | .nx => A
  | c => Q e c
@[irreducible] def KillC (ks : List Nat) (e : Ev) (c : Ctl) (Q : Ev → Ctl → Prop) (_d : Dm ks Q () := .mk) : Prop := match c with
  | .ret o => Q e (.ret o)
  | c => Q (delE ks e) c
@[irreducible] def LoopC (e : Ev) (c : Ctl) (A : Prop) (Q : Ev → Ctl → Prop) (_d : Dm A Q () := .mk) : Prop := match c with
  | .nx => A
  | .cnt => A
  | .brk => Q e .nx
  | .ret o => Q e (.ret o)
@[irreducible] def FnC (bm : List Nat) (e : Ev) (c : Ctl) (P : O → List O → Prop) (_d : Dm P () () := .mk) : Prop := match c with
  | .nx => WpO (getAll e bm) (P .non)
  | .ret o => WpO (getAll e bm) (P o)
  | _ => False
section
variable {α β : Type} {Q Q' : Ev → α → Prop} {E : Ev → Exn → Prop} {e env : Ev} {a : α} {P P' : α → Prop}
theorem wp_ext {r : R α} (h : ∀ e a, Q e a = Q' e a) : Wp r Q E = Wp r Q' E := by cases r <;> first | with_unfolding_all rfl | with_unfolding_all exact h _ _
theorem wpo_ext {r : Option α} (h : ∀ a, P a = P' a) : WpO r P = WpO r P' := by cases r <;> first | with_unfolding_all rfl | with_unfolding_all exact h _
@[simp] theorem wp_ok : Wp (.ok e a) Q E = Q e a := by with_unfolding_all rfl
@[simp] theorem wp_err {x : Exn} : Wp (.err e x) Q E = E e x := by with_unfolding_all rfl
@[simp] theorem wp_bad : Wp (.bad) Q E = False := by with_unfolding_all rfl
@[simp] theorem wpo_some : WpO (some a) P = P a := by with_unfolding_all rfl
@[simp] theorem wpo_none : WpO (none : Option α) P = False := by with_unfolding_all rfl
@[simp] theorem wpo_ite {c : Prop} [Decidable c] {x y : Option α} : WpO (if c then x else y) P = ((c → WpO x P) ∧ (¬ c → WpO y P)) := by by_cases h : c <;> simp [h]
@[simp] theorem wp_ite {c : Prop} [Decidable c] {x y : R α} : Wp (if c then x else y) Q E = ((c → Wp x Q E) ∧ (¬ c → Wp y Q E)) := by by_cases h : c <;> simp [h]
@[simp] theorem wpf_ret {P : O → List O → Prop} {E : Exn → List O → Prop} {o : O} {bs : List O} : WpF (.ret o bs) P E = P o bs := by with_unfolding_all rfl
@[simp] theorem wpf_exc {P : O → List O → Prop} {E : Exn → List O → Prop} {x : Exn} {bs : List O} : WpF (.exc x bs) P E = E x bs := by with_unfolding_all rfl
section
variable {A : Prop} {Q : Ev → Ctl → Prop} {P : O → List O → Prop} {o : O} {ks bm : List Nat}
@[simp] theorem sc_nx : SeqC e .nx A Q = A := by with_unfolding_all rfl
@[simp] theorem sc_brk : SeqC e .brk A Q = Q e .brk := by with_unfolding_all rfl
@[simp] theorem sc_cnt : SeqC e .cnt A Q = Q e .cnt := by with_unfolding_all rfl
@[simp] theorem sc_ret : SeqC e (.ret o) A Q = Q e (.ret o) := by with_unfolding_all rfl
@[simp] theorem kc_nx : KillC ks e .nx Q = Q (delE ks e) .nx := by with_unfolding_all rfl
@[simp] theorem kc_brk : KillC ks e .brk Q = Q (delE ks e) .brk := by with_unfolding_all rfl
@[simp] theorem kc_cnt : KillC ks e .cnt Q = Q (delE ks e) .cnt := by with_unfolding_all rfl
@[simp] theorem kc_ret : KillC ks e (.ret o) Q = Q e (.ret o) := by with_unfolding_all rfl
@[simp] theorem lc_nx : LoopC e .nx A Q = A := by with_unfolding_all rfl
@[simp] theorem lc_brk : LoopC e .brk A Q = Q e .nx := by with_unfolding_all rfl
@[simp] theorem lc_cnt : LoopC e .cnt A Q = A := by with_unfolding_all rfl
@[simp] theorem lc_ret : LoopC e (.ret o) A Q = Q e (.ret o) := by with_unfolding_all rfl
@[simp] theorem fc_nx : FnC bm e .nx P = WpO (getAll e bm) (P .non) := by with_unfolding_all rfl
@[simp] theorem fc_brk : FnC bm e .brk P = False := by with_unfolding_all rfl
@[simp] theorem fc_cnt : FnC bm e .cnt P = False := by with_unfolding_all rfl
@[simp] theorem fc_ret : FnC bm e (.ret o) P = WpO (getAll e bm) (P o) := by with_unfolding_all rfl
end
theorem wp_bind {r : R β} {k : Ev → β → R α} : Wp (r.bind k) Q E = Wp r (fun e b => Wp (k e b) Q E) E := by cases r <;> with_unfolding_all rfl
theorem Wp.mono {r : R α} (h : Wp r Q E) (k : ∀ e a, Q e a → Q' e a) : Wp r Q' E := by cases r <;> first | with_unfolding_all exact k _ _ h | with_unfolding_all exact h
theorem WpF.eq {r : FR} {o : O} {bs : List O} (h : WpF r (fun o' bs' => o' = o ∧ bs' = bs) fun _ _ => False) : r = .ret o bs := by
  cases r with
  | ret o' bs' => have h2 : o' = o ∧ bs' = bs := by (with_unfolding_all exact h)
                  rw [h2.1, h2.2]
  | exc _ _ => with_unfolding_all exact h.elim
  | bad => with_unfolding_all exact h.elim
theorem WpF.of {r : FR} {o : O} {bs : List O} {P : O → List O → Prop} {E : Exn → List O → Prop} (h : r = .ret o bs) (k : P o bs) : WpF r P E := by rw [h]; with_unfolding_all exact k
end
section
variable {Q : Ev → O → Prop} {Qb : Ev → Bool → Prop} {Ql : Ev → List O → Prop} {Qc : Ev → Ctl → Prop} {Qi : Ev → Option Int → Prop} {E : Ev → Exn → Prop} {env : Ev} {f g h : M O} {fs gs : M Ctl} {p q : M Bool} {i : Nat} {o : O}
@[simp] theorem wp_c : Wp (mC o env) Q E = Q env o := by with_unfolding_all rfl
@[simp] theorem wp_pk : Wp (mPk i env) Q E = WpO env[i]? fun o => WpO o fun o => Q env o := by
  unfold mPk; cases env[i]? with
  | none => with_unfolding_all rfl
  | some o => cases o <;> with_unfolding_all rfl
@[simp] theorem wp_var : Wp (mVar i env) Q E = WpO env[i]? fun o => WpO o fun o => Q (env.set i (some o.fz)) o.fz := by
  unfold mVar; cases env[i]? with
  | none => with_unfolding_all rfl
  | some o => cases o <;> with_unfolding_all rfl
@[simp] theorem wp_move : Wp (mMove i env) Q E = WpO env[i]? fun o => WpO o fun o => Q (env.set i none) o := by
  unfold mMove; cases env[i]? with
  | none => with_unfolding_all rfl
  | some o => cases o <;> with_unfolding_all rfl
@[simp] theorem wp_fz : Wp (mFz f env) Q E = Wp (f env) (fun e o => Q e o.fz) E := by unfold mFz; cases f env <;> with_unfolding_all rfl
theorem wp_om {α β : Type} {o : Option α} {k : α → R β} {Q : Ev → β → Prop} : Wp (match o with | some a => k a | none => .bad) Q E = WpO o fun a => Wp (k a) Q E := by cases o <;> with_unfolding_all rfl
@[simp] theorem wp_op {op : O → O → Option O} : Wp (mOp op f g env) Q E = Wp (f env) (fun e x => Wp (g e) (fun e y => WpO (op x y) (Q e)) E) E := by
  unfold mOp; rw [wp_bind]; refine wp_ext fun e x => ?_; rw [wp_bind]; refine wp_ext fun e y => ?_; cases op x y <;> with_unfolding_all rfl
@[simp] theorem wp_ixN : Wp (mIxN i g env) Q E = WpO env[i]? fun o => WpO o fun _ => Wp (g env) (fun e y => WpO e[i]? fun o => WpO o fun x => WpO (oIx x y) (Q e)) E := by
  unfold mIxN; cases env[i]? with
  | none => with_unfolding_all rfl
  | some o => cases o with
    | none => with_unfolding_all rfl
    | some o =>
      with_unfolding_all show Wp (R.bind _ _) Q E = Wp _ _ _
      rw [wp_bind]; refine wp_ext fun e y => ?_; cases e[i]? with
      | none => with_unfolding_all rfl
      | some z => cases z with
        | none => with_unfolding_all rfl
        | some z => with_unfolding_all show Wp (match oIx z y with | some o => _ | none => _) Q E = WpO (oIx z y) (Q e); cases oIx z y <;> with_unfolding_all rfl
@[simp] theorem wp_nil : Wp (mNil env) Ql E = Ql env [] := by with_unfolding_all rfl
@[simp] theorem wp_cons {fl : M (List O)} : Wp (mCons f fl env) Ql E = Wp (f env) (fun e x => Wp (fl e) (fun e xs => Ql e (x :: xs)) E) E := by
  unfold mCons; rw [wp_bind]; refine wp_ext fun e x => ?_; rw [wp_bind]; with_unfolding_all rfl
@[simp] theorem wp_lst {fl : M (List O)} : Wp (mLst fl env) Q E = Wp (fl env) (fun e xs => xs.length ≤ lim ∧ Q e (.lst true xs)) E := by
  unfold mLst; rw [wp_bind]; refine wp_ext fun e xs => ?_; by_cases h : xs.length ≤ lim <;> simp [h]
@[simp] theorem wp_tup {fl : M (List O)} : Wp (mTup fl env) Q E = Wp (fl env) (fun e xs => xs.length ≤ lim ∧ Q e (.tup xs)) E := by
  unfold mTup; rw [wp_bind]; refine wp_ext fun e xs => ?_; by_cases h : xs.length ≤ lim <;> simp [h]
@[simp] theorem wp_cb {op : List O → Option O} {fl : M (List O)} : Wp (mCB op fl env) Q E = Wp (fl env) (fun e xs => WpO (op xs) (Q e)) E := by
  unfold mCB; rw [wp_bind]; refine wp_ext fun e xs => ?_; cases op xs <;> with_unfolding_all rfl
@[simp] theorem wp_c1 {op : O → Option O} : Wp (mC1 op f env) Q E = Wp (f env) (fun e x => WpO (op x) (Q e)) E := by
  unfold mC1; rw [wp_bind]; refine wp_ext fun e xs => ?_; cases op xs <;> with_unfolding_all rfl
@[irreducible] def AsB (o : O) (P : Bool → Prop) (_d : Dm P () () := .mk) : Prop := match o with
  | .bl b => P b
  | _ => False
@[simp] theorem asb {b : Bool} {P : Bool → Prop} : AsB (.bl b) P = P b := by with_unfolding_all rfl
@[simp] theorem wp_tb : Wp (mTB f env) Qb E = Wp (f env) (fun e x => AsB x (Qb e)) E := by
  unfold mTB; rw [wp_bind]; refine wp_ext fun e x => ?_; cases x <;> with_unfolding_all rfl
@[simp] theorem wp_tru : Wp (mTru f env) Qb E = Wp (f env) (fun e x => WpO (truO x) (Qb e)) E := by
  unfold mTru; rw [wp_bind]; refine wp_ext fun e x => ?_; cases truO x <;> with_unfolding_all rfl
/-- a branch by a truth -/
@[irreducible] def Br (b : Bool) (A B : Prop) (_d : Dm A B () := .mk) : Prop := if b then A else B
@[simp] theorem br_true {A B : Prop} : Br true A B = A := by with_unfolding_all rfl
@[simp] theorem br_false {A B : Prop} : Br false A B = B := by with_unfolding_all rfl
theorem br_dec {c : Prop} [Decidable c] {A B : Prop} : Br (decide c) A B = ((c → A) ∧ (¬ c → B)) := by by_cases h : c <;> simp [h]
theorem br_var {b : Bool} {A B : Prop} : Br b A B = ((b = true → A) ∧ (b = false → B)) := by cases b <;> simp
theorem Br.intro {b : Bool} {A B : Prop} (h : b = true → A) (k : b = false → B) : Br b A B := by cases b <;> simp_all
theorem Br.dec {c : Prop} [Decidable c] {A B : Prop} (h : c → A) (k : ¬ c → B) : Br (decide c) A B := by rw [br_dec]; exact ⟨h, k⟩
@[simp] theorem br_not {b : Bool} {A B : Prop} : Br (!b) A B = Br b B A := by cases b <;> with_unfolding_all rfl
@[simp] theorem wp_and : Wp (mAnd p q env) Qb E = Wp (p env) (fun e b => Br b (Wp (q e) Qb E) (Wp (.ok e false) Qb E)) E := by
  unfold mAnd; rw [wp_bind]; refine wp_ext fun e b => ?_; cases b <;> with_unfolding_all rfl
@[simp] theorem wp_or : Wp (mOr p q env) Qb E = Wp (p env) (fun e b => Br b (Wp (.ok e true) Qb E) (Wp (q e) Qb E)) E := by
  unfold mOr; rw [wp_bind]; refine wp_ext fun e b => ?_; cases b <;> with_unfolding_all rfl
@[simp] theorem wp_not : Wp (mNot p env) Qb E = Wp (p env) (fun e b => Qb e (!b)) E := by
  unfold mNot; rw [wp_bind]; with_unfolding_all rfl
@[simp] theorem wp_yes : Wp (mYes env) Qb E = Qb env true := by with_unfolding_all rfl
@[simp] theorem wp_andV : Wp (mAndV f g env) Q E = Wp (f env) (fun e x => AsB x fun b => Br b (Wp (g e) Q E) (Wp (.ok e (.bl false)) Q E)) E := by
  unfold mAndV; rw [wp_bind]; refine wp_ext fun e x => ?_; cases x <;> first | with_unfolding_all rfl | (rename_i b; cases b <;> with_unfolding_all rfl)
@[simp] theorem wp_orV : Wp (mOrV f g env) Q E = Wp (f env) (fun e x => AsB x fun b => Br b (Wp (.ok e (.bl true)) Q E) (Wp (g e) Q E)) E := by
  unfold mOrV; rw [wp_bind]; refine wp_ext fun e x => ?_; cases x <;> first | with_unfolding_all rfl | (rename_i b; cases b <;> with_unfolding_all rfl)
@[simp] theorem wp_notV : Wp (mNotV f env) Q E = Wp (f env) (fun e x => AsB x fun b => Q e (.bl (!b))) E := by
  unfold mNotV; rw [wp_bind]; refine wp_ext fun e x => ?_; cases x <;> with_unfolding_all rfl
@[simp] theorem wp_if : Wp (mIf p f g env) Q E = Wp (p env) (fun e b => Br b (Wp (f e) Q E) (Wp (g e) Q E)) E := by
  unfold mIf; rw [wp_bind]; refine wp_ext fun e b => ?_; cases b <;> with_unfolding_all rfl
@[simp] theorem wp_chain {op op' : O → O → Option O} : Wp (mChain op op' f g h env) Q E = Wp (f env) (fun e x => Wp (g e) (fun e y => WpO (op x y) fun o => AsB o fun b => Br b (Wp (h e) (fun e z => WpO (op' y z) (Q e)) E) (Wp (.ok e (.bl false)) Q E)) E) E := by
  unfold mChain; rw [wp_bind]; refine wp_ext fun e x => ?_; rw [wp_bind]; refine wp_ext fun e y => ?_
  cases op x y with
  | none => with_unfolding_all rfl
  | some o => cases o <;> first | with_unfolding_all rfl | (rename_i b; cases b with
    | false => with_unfolding_all rfl
    | true =>
      with_unfolding_all show Wp (R.bind _ _) Q E = Wp _ _ _
      rw [wp_bind]; refine wp_ext fun e z => ?_; cases op' y z <;> with_unfolding_all rfl)
@[simp] theorem wp_noPart : Wp (mNoPart env) Qi E = Qi env none := by with_unfolding_all rfl
@[irreducible] def AsI (o : O) (P : Int → Prop) (_d : Dm P () () := .mk) : Prop := match o with
  | .int b => P b
  | _ => False
@[simp] theorem asi {b : Int} {P : Int → Prop} : AsI (.int b) P = P b := by with_unfolding_all rfl
@[simp] theorem wp_part : Wp (mPart f env) Qi E = Wp (f env) (fun e x => AsI x fun i => Qi e (some i)) E := by
  unfold mPart; rw [wp_bind]; refine wp_ext fun e x => ?_; cases x <;> with_unfolding_all rfl
@[simp] theorem wp_sl {a b : M (Option Int)} : Wp (mSl f a b env) Q E = Wp (f env) (fun e x => Wp (a e) (fun e lo => Wp (b e) (fun e hi => WpO (oSl x lo hi) (Q e)) E) E) E := by
  unfold mSl; rw [wp_bind]; refine wp_ext fun e x => ?_; rw [wp_bind]; refine wp_ext fun e lo => ?_; rw [wp_bind]; refine wp_ext fun e hi => ?_; cases oSl x lo hi <;> with_unfolding_all rfl
/-! statements -/
@[simp] theorem wp_next : Wp (mNext env) Qc E = Qc env .nx := by with_unfolding_all rfl
@[simp] theorem wp_seq : Wp (mSeq fs gs env) Qc E = Wp (fs env) (fun e c => SeqC e c (Wp (gs e) Qc E) Qc) E := by
  unfold mSeq; cases fs env with
  | ok e c => cases c <;> with_unfolding_all rfl
  | err _ _ => with_unfolding_all rfl
  | bad => with_unfolding_all rfl
@[simp] theorem wp_ret : Wp (mRet f env) Qc E = Wp (f env) (fun e o => Qc e (.ret o)) E := by unfold mRet; rw [wp_bind]; with_unfolding_all rfl
@[simp] theorem wp_retN : Wp (mRetN env) Qc E = Qc env (.ret .non) := by with_unfolding_all rfl
@[simp] theorem wp_ifS : Wp (mIfS p fs gs env) Qc E = Wp (p env) (fun e b => Br b (Wp (fs e) Qc E) (Wp (gs e) Qc E)) E := by
  unfold mIfS; rw [wp_bind]; refine wp_ext fun e b => ?_; cases b <;> with_unfolding_all rfl
@[simp] theorem wp_drop : Wp (mDrop f env) Qc E = Wp (f env) (fun e o => Qc e .nx) E := by unfold mDrop; rw [wp_bind]; with_unfolding_all rfl
@[simp] theorem wp_brk : Wp (mBrk env) Qc E = Qc env .brk := by with_unfolding_all rfl
@[simp] theorem wp_cnt : Wp (mCnt env) Qc E = Qc env .cnt := by with_unfolding_all rfl
@[simp] theorem wp_kill {ks : List Nat} : Wp (mKill ks fs env) Qc E = Wp (fs env) (fun e c => KillC ks e c Qc) E := by
  unfold mKill; cases fs env with
  | ok e c => cases c <;> with_unfolding_all rfl
  | err _ _ => with_unfolding_all rfl
  | bad => with_unfolding_all rfl
@[simp] theorem wp_pre {ks : List Nat} : Wp (mPre ks fs env) Qc E = Wp (fs (delE ks env)) Qc E := by with_unfolding_all rfl
@[simp] theorem wp_asg {hh : O → Ev → Option Ev} : Wp (mAsg hh f env) Qc E = Wp (f env) (fun e o => WpO (hh o e) fun e => Qc e .nx) E := by
  unfold mAsg; rw [wp_bind]; refine wp_ext fun e o => ?_; cases hh o e <;> with_unfolding_all rfl
@[simp] theorem wp_aug {op : O → O → Option O} : Wp (mAug i op f env) Qc E = WpO env[i]? fun o => WpO o fun x => x.fixed = true ∧ Wp (f env) (fun e y => WpO (op x y) fun o => i < e.length ∧ Qc (e.set i (some o)) .nx) E := by
  unfold mAug; cases env[i]? with
  | none => with_unfolding_all rfl
  | some o => cases o with
    | none => with_unfolding_all rfl
    | some x =>
      with_unfolding_all show Wp (if _ then _ else _) _ _ = (_ ∧ _)
      rw [wp_ite]
      by_cases hx : x.fixed = true
      · simp only [hx, not_true_eq_false, false_implies, and_true, true_implies, true_and]
        with_unfolding_all show Wp (R.bind _ _) _ _ = _
        rw [wp_bind]; refine wp_ext fun e y => ?_
        cases op x y with
        | none => with_unfolding_all rfl
        | some o =>
          with_unfolding_all show Wp (if _ then _ else _) _ _ = (_ ∧ _)
          by_cases hl : i < e.length <;> simp [hl]
      · simp [hx]
@[simp] theorem hNm_some {o : O} {env : Ev} : WpO (hNm i o env) P = (i < env.length ∧ P (env.set i (some o))) := by
  unfold hNm; by_cases h : i < env.length <;> simp [h]
@[simp] theorem hNil_some {P : Ev → Prop} : WpO (hNil [] env) P = P env := by with_unfolding_all rfl
@[simp] theorem hCons_some {P : Ev → Prop} {o : O} {os : List O} {hh : O → Ev → Option Ev} {hs : List O → Ev → Option Ev} : WpO (hCons hh hs (o :: os) env) P = WpO (hh o env) fun e => WpO (hs os e) P := by
  with_unfolding_all show WpO ((hh o env).bind fun e => hs os e) P = _
  cases hh o env <;> with_unfolding_all rfl
@[simp] theorem hTup_some {P : Ev → Prop} {os : List O} {n : Nat} {hs : List O → Ev → Option Ev} : WpO (hTup hs n (.tup os) env) P = (os.length = n ∧ WpO (hs os env) P) := by
  unfold hTup; by_cases h : os.length = n <;> simp [h]
/-! calls -/
@[simp] theorem wp_call {m : List O → FR} {as : List Arg} : Wp (mCall m as env) Q E = Wp (evalArgs as env) (fun e xs => WpO (fillA e as xs) fun os => WpF (m os) (fun o bs => Q (setAll e (bors as) bs) o) (fun x bs => E (setAll e (bors as) bs) x)) E := by
  unfold mCall; rw [wp_bind]; refine wp_ext fun e xs => ?_
  cases fillA e as xs with
  | none => with_unfolding_all rfl
  | some os => with_unfolding_all show Wp (match m os with | .ret o bs => _ | .exc x bs => _ | .bad => _) _ _ = _; simp only [wpo_some]; cases m os <;> with_unfolding_all rfl
@[simp] theorem wpf_fnM {n : Nat} {bm : List Nat} {body : M Ctl} {os : List O} {P : O → List O → Prop} {X : Exn → List O → Prop} :
    WpF (fnM n bm body os) P X = Wp (body (os.map some ++ List.replicate (n - os.length) none)) (fun e c => FnC bm e c P) (fun e x => WpO (getAll e bm) (X x)) := by
  unfold fnM
  cases body (os.map some ++ List.replicate (n - os.length) none) with
  | ok e c => cases c with
    | nx => with_unfolding_all show WpF (match getAll e bm with | some bs => _ | none => _) _ _ = _; simp only [wp_ok, fc_nx]; cases getAll e bm <;> with_unfolding_all rfl
    | brk => with_unfolding_all rfl
    | cnt => with_unfolding_all rfl
    | ret o => with_unfolding_all show WpF (match getAll e bm with | some bs => _ | none => _) _ _ = _; simp only [wp_ok, fc_ret]; cases getAll e bm <;> with_unfolding_all rfl
  | err e x => with_unfolding_all show WpF (match getAll e bm with | some bs => _ | none => _) _ _ = _; simp only [wp_err]; cases getAll e bm <;> with_unfolding_all rfl
  | bad => with_unfolding_all rfl
@[simp] theorem wp_a0 {Qa : Ev → List (Option O) → Prop} : Wp (evalArgs [] env) Qa E = Qa env [] := by with_unfolding_all rfl
@[simp] theorem wp_aV {Qa : Ev → List (Option O) → Prop} {as : List Arg} : Wp (evalArgs (.val f :: as) env) Qa E = Wp (f env) (fun e x => Wp (evalArgs as e) (fun e xs => Qa e (some x :: xs)) E) E := by
  with_unfolding_all show Wp ((f env).bind fun e x => (evalArgs as e).bind fun e xs => .ok e (some x :: xs)) Qa E = _
  rw [wp_bind]; refine wp_ext fun e x => ?_; rw [wp_bind]; with_unfolding_all rfl
@[simp] theorem wp_aB {Qa : Ev → List (Option O) → Prop} {as : List Arg} {j : Nat} : Wp (evalArgs (.bor j :: as) env) Qa E = WpO env[j]? fun o => WpO o fun _ => Wp (evalArgs as env) (fun e xs => Qa e (none :: xs)) E := by
  with_unfolding_all show Wp (match env[j]? with | some (some _) => (evalArgs as env).bind fun e xs => .ok e (none :: xs) | _ => .bad) Qa E = _
  cases env[j]? with
  | none => with_unfolding_all rfl
  | some o => cases o with
    | none => with_unfolding_all rfl
    | some o => with_unfolding_all show Wp (R.bind _ _) _ _ = Wp _ _ _; rw [wp_bind]; with_unfolding_all rfl
@[simp] theorem fill0 {P : List O → Prop} : WpO (fillA env [] []) P = P [] := by with_unfolding_all rfl
@[simp] theorem fillV {P : List O → Prop} {as : List Arg} {xs : List (Option O)} : WpO (fillA env (.val f :: as) (some o :: xs)) P = WpO (fillA env as xs) fun r => P (o :: r) := by
  with_unfolding_all show WpO ((fillA env as xs).map (o :: ·)) P = _
  cases fillA env as xs <;> with_unfolding_all rfl
@[simp] theorem fillB {P : List O → Prop} {as : List Arg} {xs : List (Option O)} {j : Nat} : WpO (fillA env (.bor j :: as) (none :: xs)) P = WpO env[j]? fun o => WpO o fun o => WpO (fillA env as xs) fun r => P (o :: r) := by
  with_unfolding_all show WpO (match env[j]? with | some (some o) => _ | _ => none) P = _
  cases env[j]? with
  | none => with_unfolding_all rfl
  | some o => cases o with
    | none => with_unfolding_all rfl
    | some o => simp only [wpo_some]; cases fillA env as xs <;> with_unfolding_all rfl
/-! what is walked -/
def itL : O → Option (List O)
  | .lst _ xs => if fixeds xs then some xs else none
  | _ => none
def itT : O → Option (List O)
  | .tup xs => if fixeds xs then some xs else none
  | _ => none
def itS : O → Option (List O)
  | .str z => some (z.map fun c => .str [c])
  | _ => none
def itR1 : List O → Option (List O)
  | [.int j] => if big j then some ((rng 0 j).map .int) else none
  | _ => none
def itR2 : List O → Option (List O)
  | [.int i, .int j] => if big i && big j then some ((rng i j).map .int) else none
  | _ => none
def itE : List O → Option (List O)
  | [.lst _ ys] => some (enumO ys)
  | _ => none
def itZ : List O → Option (List O)
  | [.lst _ ys, .lst _ zs] => some (zipO ys zs)
  | _ => none
@[simp] theorem wp_itL : Wp (mItL f env) Ql E = Wp (f env) (fun e x => WpO (itL x) (Ql e)) E := by
  unfold mItL; rw [wp_bind]; refine wp_ext fun e x => ?_; cases x <;> first | with_unfolding_all rfl | (rename_i xs; unfold itL; by_cases h : fixeds xs = true <;> simp [h])
@[simp] theorem wp_itT : Wp (mItT f env) Ql E = Wp (f env) (fun e x => WpO (itT x) (Ql e)) E := by
  unfold mItT; rw [wp_bind]; refine wp_ext fun e x => ?_; cases x <;> first | with_unfolding_all rfl | (rename_i xs; unfold itT; by_cases h : fixeds xs = true <;> simp [h])
@[simp] theorem wp_itS : Wp (mItS f env) Ql E = Wp (f env) (fun e x => WpO (itS x) (Ql e)) E := by
  unfold mItS; rw [wp_bind]; refine wp_ext fun e x => ?_; cases x <;> with_unfolding_all rfl
@[simp] theorem wp_itR1 {g : M (List O)} : Wp (mItR1 g env) Ql E = Wp (g env) (fun e x => WpO (itR1 x) (Ql e)) E := by
  unfold mItR1; rw [wp_bind]; refine wp_ext fun e x => ?_; rcases x with _ | ⟨x, _ | ⟨y, r⟩⟩ <;> first | with_unfolding_all rfl | (cases x <;> first | with_unfolding_all rfl | (rename_i j; unfold itR1; by_cases h : big j = true <;> simp [h]))
@[simp] theorem wp_itR2 {g : M (List O)} : Wp (mItR2 g env) Ql E = Wp (g env) (fun e x => WpO (itR2 x) (Ql e)) E := by
  unfold mItR2; rw [wp_bind]; refine wp_ext fun e x => ?_; rcases x with _ | ⟨x, _ | ⟨y, _ | ⟨z, r⟩⟩⟩ <;> first | with_unfolding_all rfl | (cases x <;> first | with_unfolding_all rfl | (cases y <;> first | with_unfolding_all rfl | (rename_i i j; unfold itR2; by_cases h : (big i && big j) = true <;> simp only [h, if_true, if_false, wp_ok, wpo_some, wp_bad, wpo_none] <;> with_unfolding_all rfl)))
@[simp] theorem wp_itE {g : M (List O)} : Wp (mItE g env) Ql E = Wp (g env) (fun e x => WpO (itE x) (Ql e)) E := by
  unfold mItE; rw [wp_bind]; refine wp_ext fun e x => ?_; rcases x with _ | ⟨x, _ | ⟨y, r⟩⟩ <;> first | with_unfolding_all rfl | (cases x <;> with_unfolding_all rfl)
@[simp] theorem wp_itZ {g : M (List O)} : Wp (mItZ g env) Ql E = Wp (g env) (fun e x => WpO (itZ x) (Ql e)) E := by
  unfold mItZ; rw [wp_bind]; refine wp_ext fun e x => ?_; rcases x with _ | ⟨x, _ | ⟨y, _ | ⟨z, r⟩⟩⟩ <;> first | with_unfolding_all rfl | (cases x <;> first | with_unfolding_all rfl | (cases y <;> with_unfolding_all rfl))
@[simp] theorem wp_for {it : M (List O)} {hh : O → Ev → Option Ev} : Wp (mFor it hh fs env) Qc E = Wp (it env) (fun e items => Wp (loopF hh fs items e) Qc E) E := by unfold mFor; rw [wp_bind]
@[simp] theorem wp_lc {it : M (List O)} {hh : O → Ev → Option Ev} {ks : List Nat} : Wp (mLc it hh p f ks env) Q E = Wp (it env) (fun e items => Wp (loopC hh p f ks items [] (delE ks e)) Q E) E := by unfold mLc; rw [wp_bind]
/-! loops -/
theorem wp_loopF {hh : O → Ev → Option Ev} (I : List O → Ev → Prop) (hs : ∀ x r e, I (x :: r) e → WpO (hh x e) fun e => Wp (fs e) (fun e c => LoopC e c (I r e) Qc) E) (hz : ∀ e, I [] e → Qc e .nx) :
    ∀ (items : List O) (env : Ev), I items env → Wp (loopF hh fs items env) Qc E
  | [], env, h => by with_unfolding_all exact hz env h
  | x :: r, env, h => by
    have w := hs x r env h
    unfold loopF
    cases e1 : hh x env with
    | none => rw [e1] at w; with_unfolding_all exact w.elim
    | some env1 =>
      rw [e1] at w
      simp only [wpo_some] at w
      simp only
      cases e2 : fs env1 with
      | bad => rw [e2] at w; with_unfolding_all exact w.elim
      | err e x => rw [e2] at w; with_unfolding_all exact w
      | ok e c =>
        rw [e2] at w
        cases c with
        | nx => with_unfolding_all exact wp_loopF I hs hz r e w
        | cnt => with_unfolding_all exact wp_loopF I hs hz r e w
        | brk => with_unfolding_all exact w
        | ret v => with_unfolding_all exact w
/-- over whole numbers from a up to b -/
theorem wp_loopI {hh : O → Ev → Option Ev} (I : Int → Ev → Prop) {a b : Int} (h0 : I a env)
    (hs : ∀ k e, a ≤ k → k < b → I k e → WpO (hh (.int k) e) fun e => Wp (fs e) (fun e c => LoopC e c (I (k + 1) e) Qc) E) (hz : ∀ e, I (if a ≤ b then b else a) e → Qc e .nx) : Wp (loopF hh fs ((rng a b).map .int) env) Qc E := by
  refine wp_loopF (I := fun l e => ∃ k : Int, a ≤ k ∧ k ≤ (if a ≤ b then b else a) ∧ l = (rng k b).map .int ∧ I k e) ?_ ?_ _ env ⟨a, Int.le_refl a, by split <;> omega, rfl, h0⟩
  · rintro x r e ⟨k, h1, h2, h3, h4⟩
    have hkb : k < b := by
      by_cases h : k < b
      · exact h
      · have : (b - k).toNat = 0 := by omega
        unfold rng at h3; rw [this] at h3; cases h3
    have e1 : rng k b = k :: rng (k + 1) b := by
      unfold rng
      have : (b - k).toNat = (b - (k + 1)).toNat + 1 := by omega
      rw [this, List.range_succ_eq_map]
      simp [List.map_map]
      intro n _
      omega
    rw [e1] at h3
    simp only [List.map_cons, List.cons.injEq] at h3
    obtain ⟨rfl, rfl⟩ := h3
    have w := hs k e h1 hkb h4
    have tr : ∀ e, I (k + 1) e → ∃ k' : Int, a ≤ k' ∧ k' ≤ (if a ≤ b then b else a) ∧ (rng (k + 1) b).map O.int = (rng k' b).map .int ∧ I k' e := fun e z => ⟨k + 1, by omega, by split <;> omega, rfl, z⟩
    revert w
    cases hh (.int k) e with
    | none => with_unfolding_all exact id
    | some e1 =>
      simp only [wpo_some]
      intro w
      cases e2 : fs e1 with
      | bad => rw [e2] at w; with_unfolding_all exact w.elim
      | err e x => rw [e2] at w; with_unfolding_all exact w
      | ok e c =>
        rw [e2] at w
        cases c with
        | nx => with_unfolding_all exact tr _ w
        | cnt => with_unfolding_all exact tr _ w
        | brk => with_unfolding_all exact w
        | ret v => with_unfolding_all exact w
  · rintro e ⟨k, h1, h2, h3, h4⟩
    have : ¬ k < b := fun h => by
      unfold rng at h3
      have : (b - k).toNat = (b - (k + 1)).toNat + 1 := by omega
      rw [this, List.range_succ_eq_map] at h3; cases h3
    have : k = (if a ≤ b then b else a) := by split at h2 <;> rename_i hh <;> simp only [hh, if_true, if_false] <;> omega
    exact hz e (this ▸ h4)
theorem rng_cons {k b : Int} (h : k < b) : rng k b = k :: rng (k + 1) b := by
  unfold rng
  have : (b - k).toNat = (b - (k + 1)).toNat + 1 := by omega
  rw [this, List.range_succ_eq_map]
  simp [List.map_map]
  intro n _
  omega
theorem rng_nil {k b : Int} (h : b ≤ k) : rng k b = [] := by
  unfold rng
  have : (b - k).toNat = 0 := by omega
  rw [this]; with_unfolding_all rfl
/-- a comprehension, step by step -/
theorem wp_loopC {hh : O → Ev → Option Ev} {ks : List Nat} (I : List O → List O → Ev → Prop)
    (hs : ∀ x r acc e, I (x :: r) acc e → WpO (hh x e) fun e => Wp (p e) (fun e b => Br b (Wp (f e) (fun e y => acc.length < lim ∧ I r (acc ++ [y]) (delE ks e)) fun _ _ => False) (I r acc (delE ks e))) fun _ _ => False) (hz : ∀ acc e, I [] acc e → Q e (.lst true acc)) :
    ∀ (items acc : List O) (env : Ev), I items acc env → Wp (loopC hh p f ks items acc env) Q E
  | [], acc, env, h => by with_unfolding_all exact hz acc env h
  | x :: r, acc, env, h => by
    have w := hs x r acc env h
    unfold loopC
    cases e1 : hh x env with
    | none => rw [e1] at w; with_unfolding_all exact w.elim
    | some env1 =>
      rw [e1] at w
      simp only [wpo_some] at w
      simp only
      cases e2 : p env1 with
      | bad => rw [e2] at w; with_unfolding_all exact w.elim
      | err e x => rw [e2] at w; with_unfolding_all exact w.elim
      | ok e b =>
        rw [e2] at w
        cases b with
        | false => with_unfolding_all exact wp_loopC I hs hz r acc _ w
        | true =>
          simp only [wp_ok, br_true] at w
          simp only
          cases e3 : f e with
          | bad => rw [e3] at w; with_unfolding_all exact w.elim
          | err e x => rw [e3] at w; with_unfolding_all exact w.elim
          | ok e y =>
            rw [e3] at w
            simp only [wp_ok] at w
            obtain ⟨w1, w2⟩ := w
            simp only [w1, if_true]
            exact wp_loopC I hs hz r _ _ w2
/-- while, by a measure -/
theorem wp_loopW (I : Nat → Ev → Prop) (hs : ∀ n e, I n e → Wp (p e) (fun e b => Br b (Wp (fs e) (fun e c => LoopC e c (∃ m, m < n ∧ I m e) Qc) E) (Qc e .nx)) E) :
    ∀ (n k : Nat) (env : Ev), n < k → I n env → Wp (loopW p fs k env) Qc E := by
  intro n
  induction n using Nat.strongRecOn with
  | ind n ih =>
    intro k env hk hI
    cases k with
    | zero => omega
    | succ k =>
      have w := hs n env hI
      unfold loopW
      rw [wp_bind]
      cases e1 : p env with
      | bad => rw [e1] at w; with_unfolding_all exact w
      | err e x => rw [e1] at w; with_unfolding_all exact w
      | ok e b =>
        rw [e1] at w
        cases b with
        | false => with_unfolding_all exact w
        | true =>
          simp only [wp_ok, br_true] at w
          simp only [wp_ok, if_true]
          cases e2 : fs e with
          | bad => rw [e2] at w; with_unfolding_all exact w
          | err e x => rw [e2] at w; with_unfolding_all exact w
          | ok e c =>
            rw [e2] at w
            cases c with
            | nx => simp only [wp_ok, lc_nx] at w; obtain ⟨m, hm, hI'⟩ := w; exact ih m hm k e (by omega) hI'
            | cnt => simp only [wp_ok, lc_cnt] at w; obtain ⟨m, hm, hI'⟩ := w; exact ih m hm k e (by omega) hI'
            | brk => with_unfolding_all exact w
            | ret v => with_unfolding_all exact w
/-! lists that change -/
@[irreducible] def AsL (o : O) (P : List O → Prop) (_d : Dm P () () := .mk) : Prop := match o with
  | .lst true xs => P xs
  | _ => False
@[simp] theorem asl {xs : List O} {P : List O → Prop} : AsL (.lst true xs) P = P xs := by with_unfolding_all rfl
@[simp] theorem wp_app : Wp (mApp i f env) Q E = WpO env[i]? fun o => WpO o fun o => AsL o fun _ => Wp (f env) (fun e y => WpO e[i]? fun o => WpO o fun o => AsL o fun xs => xs.length < lim ∧ Q (e.set i (some (.lst true (xs ++ [y])))) .non) E := by
  unfold mApp
  cases env[i]? with
  | none => with_unfolding_all rfl
  | some o => cases o with
    | none => with_unfolding_all rfl
    | some o => cases o with
      | lst w xs => cases w with
        | false => with_unfolding_all rfl
        | true =>
        simp only [wpo_some, asl]
        rw [wp_bind]; refine wp_ext fun e y => ?_
        cases e[i]? with
        | none => with_unfolding_all rfl
        | some o => cases o with
          | none => with_unfolding_all rfl
          | some o => cases o with
            | lst w xs => cases w with
              | false => with_unfolding_all rfl
              | true =>
                simp only [wpo_some, asl]
                by_cases h : xs.length < lim <;> simp [h]
            | _ => with_unfolding_all rfl

      | _ => with_unfolding_all rfl
@[simp] theorem wp_appP {pp : List Nat} : Wp (mAppP i pp f env) Q E = WpO env[i]? fun o => WpO o fun o => WpO (o.at pp) fun q => AsL q fun xs => Wp (f env) (fun e y => (y.fixed = true ∧ xs.length < lim) ∧ Q (e.set i (some (o.put pp (.lst true (xs ++ [y]))))) .non) E := by
  unfold mAppP
  cases env[i]? with
  | none => with_unfolding_all rfl
  | some o => cases o with
    | none => with_unfolding_all rfl
    | some o =>
      simp only [wpo_some]
      cases o.at pp with
      | none => with_unfolding_all rfl
      | some q => cases q with
        | lst w xs =>
          cases w with
          | false => with_unfolding_all rfl
          | true =>
            simp only [wpo_some, asl]
            rw [wp_bind]; refine wp_ext fun e y => ?_
            by_cases h : (y.fixed && decide (xs.length < lim)) = true
            · have h2 := h; rw [Bool.and_eq_true, decide_eq_true_eq] at h2; simp [h2.1, h2.2]
            · rw [if_neg h]; rw [Bool.and_eq_true, decide_eq_true_eq] at h; simp [h]
        | _ => with_unfolding_all rfl
@[simp] theorem wp_setI : Wp (mSetI i g f env) Qc E = Wp (f env) (fun e y => WpO e[i]? fun o => WpO o fun o => AsL o fun _ => Wp (g e) (fun e k => WpO e[i]? fun o => WpO o fun o => AsL o fun xs => AsI k fun k => WpO (ixN xs.length k) fun j => Qc (e.set i (some (.lst true (xs.set j y)))) .nx) E) E := by
  unfold mSetI
  rw [wp_bind]; refine wp_ext fun e y => ?_
  cases e[i]? with
  | none => with_unfolding_all rfl
  | some o => cases o with
    | none => with_unfolding_all rfl
    | some o => cases o with
      | lst w xs => cases w with
        | false => with_unfolding_all rfl
        | true =>
        simp only [wpo_some, asl]
        rw [wp_bind]; refine wp_ext fun e k => ?_
        cases e[i]? with
        | none => with_unfolding_all rfl
        | some o => cases o with
          | none => with_unfolding_all rfl
          | some o => cases o with
            | lst w xs => cases w with
              | false => with_unfolding_all rfl
              | true =>
                cases k with
                | int k => simp only [wpo_some, asl, asi]; cases ixN xs.length k <;> with_unfolding_all rfl
                | _ => with_unfolding_all rfl
            | _ => with_unfolding_all rfl

      | _ => with_unfolding_all rfl
@[simp] theorem wp_augI {op : O → O → Option O} : Wp (mAugI i op g f env) Qc E = WpO env[i]? fun o => WpO o fun o => AsL o fun _ => Wp (g env) (fun e k => WpO e[i]? fun o => WpO o fun o => AsL o fun xs => AsI k fun k => (0 ≤ k ∧ k < 1000000) ∧ WpO xs[k.toNat]? fun x => x.fixed = true ∧ Wp (f e) (fun e y => WpO (op x y) fun z => WpO e[i]? fun o => WpO o fun o => AsL o fun xs => (k.toNat < xs.length ∧ z.fixed = true) ∧ Qc (e.set i (some (.lst true (xs.set k.toNat z)))) .nx) E) E := by
  unfold mAugI
  cases env[i]? with
  | none => with_unfolding_all rfl
  | some o => cases o with
    | none => with_unfolding_all rfl
    | some o => cases o with
      | lst w xs => cases w with
        | false => with_unfolding_all rfl
        | true =>
        simp only [wpo_some, asl]
        rw [wp_bind]; refine wp_ext fun e k => ?_
        cases e[i]? with
        | none => with_unfolding_all rfl
        | some o => cases o with
          | none => with_unfolding_all rfl
          | some o => cases o with
            | lst w xs => cases w with
              | false => with_unfolding_all rfl
              | true =>
                cases k with
                | int k =>
                  simp only [wpo_some, asl, asi]
                  by_cases h : 0 ≤ k ∧ k < 1000000
                  · simp only [h, and_self, if_true, true_and]
                    cases xs[k.toNat]? with
                    | none => with_unfolding_all rfl
                    | some x =>
                      simp only [wpo_some]
                      by_cases hx : x.fixed = true
                      · simp only [hx, if_true, true_and]
                        rw [wp_bind]; refine wp_ext fun e y => ?_
                        cases op x y with
                        | none => with_unfolding_all rfl
                        | some z =>
                          simp only [wpo_some]
                          cases e[i]? with
                          | none => with_unfolding_all rfl
                          | some o => cases o with
                            | none => with_unfolding_all rfl
                            | some o => cases o with
                              | lst w xs => cases w with
                                | false => with_unfolding_all rfl
                                | true =>
                                  simp only [wpo_some, asl]
                                  by_cases hk : k.toNat < xs.length ∧ z.fixed = true
                                  · rw [if_pos hk, wp_ok]; simp [hk]
                                  · rw [if_neg hk, wp_bad]; simp [hk]
                              | _ => with_unfolding_all rfl
                      · simp [hx]
                  · rw [if_neg h, wp_bad]; simp [h]
                | _ => with_unfolding_all rfl
            | _ => with_unfolding_all rfl

      | _ => with_unfolding_all rfl
end
end Ow
set_option Elab.async false
set_option linter.all false
set_option maxRecDepth 100000
set_option maxHeartbeats 4000000
namespace Ow
open PySem L2
section
variable {Q : Ev → O → Prop} {E : Ev → Exn → Prop} {env : Ev} {f g h : M O}
@[simp] theorem wp_rgL1 : Wp (mRgL1 f env) Q E = Wp (f env) (fun e x => AsI x fun j => WpO (oRgL 0 j) (Q e)) E := by
  unfold mRgL1; rw [wp_bind]; refine wp_ext fun e x => ?_; cases x <;> first | with_unfolding_all rfl | (rename_i j; simp only [asi]; cases oRgL 0 j <;> with_unfolding_all rfl)
@[simp] theorem wp_rgL2 : Wp (mRgL2 f g env) Q E = Wp (f env) (fun e x => Wp (g e) (fun e y => AsI x fun i => AsI y fun j => WpO (oRgL i j) (Q e)) E) E := by
  unfold mRgL2; rw [wp_bind]; refine wp_ext fun e x => ?_; rw [wp_bind]; refine wp_ext fun e y => ?_
  cases x <;> cases y <;> first | with_unfolding_all rfl | (simp only [asi]; rename_i i j; cases oRgL i j <;> with_unfolding_all rfl)
end
section
theorem wpo_if {α : Type} {c : Prop} [Decidable c] {v : α} {P : α → Prop} : WpO (if c then some v else none) P = (c ∧ P v) := by by_cases h : c <;> simp [h]
variable {x y : Int} {a b : O} {xs ys : List O} {w w' : Bool} {P : O → Prop}
/-! what stands in trees -/
@[simp] theorem lim_def : lim = 1000000 := rfl
@[simp] theorem bors_nil : bors [] = [] := by with_unfolding_all rfl
@[simp] theorem bors_val {f : M O} {as : List Arg} : bors (.val f :: as) = bors as := by with_unfolding_all rfl
@[simp] theorem bors_bor {j : Nat} {as : List Arg} : bors (.bor j :: as) = j :: bors as := by with_unfolding_all rfl
@[simp] theorem setAll_nil {e : Ev} {bs : List O} : setAll e [] bs = e := by cases bs <;> with_unfolding_all rfl
@[simp] theorem setAll_cons {e : Ev} {j : Nat} {js : List Nat} {b : O} {bs : List O} : setAll e (j :: js) (b :: bs) = (setAll e js bs).set j (some b) := by with_unfolding_all rfl
@[simp] theorem getAll_nil {e : Ev} : getAll e [] = some [] := by with_unfolding_all rfl
@[simp] theorem getAll_cons {e : Ev} {j : Nat} {js : List Nat} {P : List O → Prop} : WpO (getAll e (j :: js)) P = WpO e[j]? fun o => WpO o fun o => WpO (getAll e js) fun bs => P (o :: bs) := by
  with_unfolding_all show WpO (match e[j]? with | some (some o) => (getAll e js).map (o :: ·) | _ => none) P = _
  cases e[j]? with
  | none => with_unfolding_all rfl
  | some o => cases o with
    | none => with_unfolding_all rfl
    | some o => simp only [wpo_some]; cases getAll e js <;> with_unfolding_all rfl
@[simp] theorem delE_nil {e : Ev} : delE [] e = e := by with_unfolding_all rfl
@[simp] theorem delE_cons {k : Nat} {ks : List Nat} {e : Ev} : delE (k :: ks) e = delE ks (e.set k none) := by with_unfolding_all rfl
@[simp] theorem fz_int : (O.int x).fz = .int x := by with_unfolding_all rfl
@[simp] theorem fz_bl {b : Bool} : (O.bl b).fz = .bl b := by with_unfolding_all rfl
@[simp] theorem fz_non : O.non.fz = .non := by with_unfolding_all rfl
@[simp] theorem fz_str {z : List Nat} : (O.str z).fz = .str z := by with_unfolding_all rfl
@[simp] theorem fz_scr {z : List Int} : (O.scr z).fz = .scr z := by with_unfolding_all rfl
@[simp] theorem fz_tup : (O.tup xs).fz = .tup (fzs xs) := by with_unfolding_all rfl
@[simp] theorem fz_lst : (O.lst w xs).fz = .lst false (fzs xs) := by with_unfolding_all rfl
@[simp] theorem fzs_nil : fzs [] = [] := by with_unfolding_all rfl
@[simp] theorem fzs_cons : fzs (a :: xs) = a.fz :: fzs xs := by with_unfolding_all rfl
@[simp] theorem fzs_int {ns : List Int} : fzs (ns.map .int) = ns.map .int := by rw [fzs_map, List.map_map]; with_unfolding_all rfl
@[simp] theorem fzs_append : fzs (xs ++ ys) = fzs xs ++ fzs ys := by simp [fzs_map]
@[simp] theorem fz_fz : a.fz.fz = a.fz := O.fz_of _ (O.fz_fixed _)
@[simp] theorem fzs_fzs : fzs (fzs xs) = fzs xs := fzs_of _ (fzs_fixed _)
@[simp] theorem fx_int : (O.int x).fixed = true := by with_unfolding_all rfl
@[simp] theorem fx_bl {b : Bool} : (O.bl b).fixed = true := by with_unfolding_all rfl
@[simp] theorem fx_non : O.non.fixed = true := by with_unfolding_all rfl
@[simp] theorem fx_str {z : List Nat} : (O.str z).fixed = true := by with_unfolding_all rfl
@[simp] theorem fx_scr {z : List Int} : (O.scr z).fixed = true := by with_unfolding_all rfl
@[simp] theorem fx_tup : (O.tup xs).fixed = fixeds xs := by with_unfolding_all rfl
@[simp] theorem fx_lst : (O.lst w xs).fixed = (!w && fixeds xs) := by with_unfolding_all rfl
@[simp] theorem fxs_nil : fixeds [] = true := by with_unfolding_all rfl
@[simp] theorem fxs_cons : fixeds (a :: xs) = (a.fixed && fixeds xs) := by with_unfolding_all rfl
@[simp] theorem fxs_int {ns : List Int} : fixeds (ns.map .int) = true := by rw [fixeds_all, List.all_map]; simp
@[simp] theorem fxs_append : fixeds (xs ++ ys) = (fixeds xs && fixeds ys) := by simp [fixeds_all]
@[simp] theorem op_add : oAdd (.int x) (.int y) = some (.int (x + y)) := by with_unfolding_all rfl
@[simp] theorem op_addL : WpO (oAdd (.lst w xs) (.lst w' ys)) P = (xs.length + ys.length ≤ lim ∧ P (.lst true (xs ++ ys))) := wpo_if
@[simp] theorem op_iadd : oIAdd (.int x) (.int y) = some (.int (x + y)) := by with_unfolding_all rfl
@[simp] theorem op_sub : oSub (.int x) (.int y) = some (.int (x - y)) := by with_unfolding_all rfl
@[simp] theorem op_mul : WpO (oMul (.int x) (.int y)) P = ((small x || small y) = true ∧ P (.int (x * y))) := wpo_if
@[simp] theorem op_mod : WpO (oMod (.int x) (.int y)) P = (0 < y ∧ P (.int (x % y))) := wpo_if
@[simp] theorem op_div : WpO (oDiv (.int x) (.int y)) P = ((0 < y ∧ y < 1000000000) ∧ P (.int (x / y))) := wpo_if
@[simp] theorem op_pow : WpO (oPow (.int x) (.int y)) P = ((0 ≤ y ∧ y ≤ 1000000 ∧ x.natAbs < 2 ^ 63) ∧ P (.int (x ^ y.toNat))) := wpo_if
@[simp] theorem op_eqI : oEq (.int x) (.int y) = some (.bl (decide (x = y))) := by with_unfolding_all rfl
@[simp] theorem op_neI : oNe (.int x) (.int y) = some (.bl (!decide (x = y))) := by with_unfolding_all rfl
@[simp] theorem op_eqB {x y : Bool} : oEq (.bl x) (.bl y) = some (.bl (decide (x = y))) := by with_unfolding_all rfl
@[simp] theorem op_neB {x y : Bool} : oNe (.bl x) (.bl y) = some (.bl (!decide (x = y))) := by with_unfolding_all rfl
@[simp] theorem op_eqS {x y : List Nat} : oEq (.str x) (.str y) = some (.bl (decide (x = y))) := by with_unfolding_all rfl
@[simp] theorem op_neS {x y : List Nat} : oNe (.str x) (.str y) = some (.bl (!decide (x = y))) := by with_unfolding_all rfl
@[simp] theorem op_lt : oLt (.int x) (.int y) = some (.bl (decide (x < y))) := by with_unfolding_all rfl
@[simp] theorem op_le : oLe (.int x) (.int y) = some (.bl (decide (x ≤ y))) := by with_unfolding_all rfl
@[simp] theorem op_gt : oGt (.int x) (.int y) = some (.bl (decide (y < x))) := by with_unfolding_all rfl
@[simp] theorem op_ge : oGe (.int x) (.int y) = some (.bl (decide (y ≤ x))) := by with_unfolding_all rfl
@[simp] theorem op_isN : oIsN a .non = some (.bl a.isNon) := by cases a <;> with_unfolding_all rfl
@[simp] theorem op_isNN : oIsNN a .non = some (.bl (!a.isNon)) := by cases a <;> with_unfolding_all rfl
@[simp] theorem isNon_non : O.non.isNon = true := by with_unfolding_all rfl
@[simp] theorem isNon_int : (O.int x).isNon = false := by with_unfolding_all rfl
@[simp] theorem isNon_bl {b : Bool} : (O.bl b).isNon = false := by with_unfolding_all rfl
@[simp] theorem isNon_str {z : List Nat} : (O.str z).isNon = false := by with_unfolding_all rfl
@[simp] theorem isNon_tup : (O.tup xs).isNon = false := by with_unfolding_all rfl
@[simp] theorem isNon_lst : (O.lst w xs).isNon = false := by with_unfolding_all rfl
@[simp] theorem op_len : oLen (.lst w xs) = some (.int xs.length) := by with_unfolding_all rfl
@[simp] theorem op_lenT : oLen (.tup xs) = some (.int xs.length) := by with_unfolding_all rfl
@[simp] theorem op_lenC {ns : List Int} : oLen (.scr ns) = some (.int ns.length) := by with_unfolding_all rfl
@[simp] theorem op_listC {ns : List Int} : oList (.scr ns) = some (.lst true (ns.map .int)) := by with_unfolding_all rfl
@[simp] theorem op_list : WpO (oList (.lst w xs)) P = (fixeds xs = true ∧ P (.lst true xs)) := wpo_if
@[simp] theorem op_listT : WpO (oList (.tup xs)) P = (fixeds xs = true ∧ P (.lst true xs)) := wpo_if
@[simp] theorem op_abs : oAbs (.int x) = some (.int (if x < 0 then -x else x)) := by with_unfolding_all rfl
@[simp] theorem op_int : oInt (.int x) = some (.int x) := by with_unfolding_all rfl
@[simp] theorem op_intB {b : Bool} : oInt (.bl b) = some (.int (if b then 1 else 0)) := by with_unfolding_all rfl
@[simp] theorem op_min2 : oMin2 [.int x, .int y] = some (.int (if y < x then y else x)) := by with_unfolding_all rfl
@[simp] theorem op_max2 : oMax2 [.int x, .int y] = some (.int (if y > x then y else x)) := by with_unfolding_all rfl
@[simp] theorem ints_map {ns : List Int} : intsOf (ns.map .int) = some ns := by
  induction ns with
  | nil => with_unfolding_all rfl
  | cons n r ih => simp [intsOf, ih]
@[simp] theorem ints_nil : intsOf [] = some [] := by with_unfolding_all rfl
@[simp] theorem ints_cons : intsOf (.int x :: xs) = (intsOf xs).map (x :: ·) := by with_unfolding_all rfl
@[simp] theorem ints_app : intsOf (xs ++ ys) = (intsOf xs).bind fun p => (intsOf ys).map (p ++ ·) := by
  induction xs with
  | nil => cases e : intsOf ys <;> simp [e]
  | cons a r ih =>
    cases a with
    | int x => simp only [List.cons_append, ints_cons, ih]; cases intsOf r <;> simp; cases intsOf ys <;> simp
    | _ => with_unfolding_all rfl
@[simp] theorem op_sorted : WpO (oSorted (.lst w xs)) P = WpO (intsOf xs) fun ns => P (.lst true ((isort ns).map .int)) := by
  with_unfolding_all show WpO ((intsOf xs).map _) P = _
  cases intsOf xs <;> with_unfolding_all rfl
@[simp] theorem op_sum : WpO (oSum (.lst w xs)) P = WpO (intsOf xs) fun ns => P (.int ns.sum) := by
  with_unfolding_all show WpO ((intsOf xs).map _) P = _
  cases intsOf xs <;> with_unfolding_all rfl
variable {PL : List O → Prop}
@[simp] theorem it_L : WpO (itL (.lst w xs)) PL = (fixeds xs = true ∧ PL xs) := wpo_if
@[simp] theorem it_T : WpO (itT (.tup xs)) PL = (fixeds xs = true ∧ PL xs) := wpo_if
@[simp] theorem it_R1 : WpO (itR1 [.int x]) PL = (big x = true ∧ PL ((rng 0 x).map .int)) := wpo_if
@[simp] theorem it_R2 : WpO (itR2 [.int x, .int y]) PL = ((big x = true ∧ big y = true) ∧ PL ((rng x y).map .int)) := by
  with_unfolding_all show WpO (if (big x && big y) = true then _ else none) PL = _
  rw [wpo_if, Bool.and_eq_true]
@[simp] theorem op_rgL : WpO (oRgL x y) P = ((big x = true ∧ big y = true ∧ y - x ≤ 1000000) ∧ P (.lst true ((rng x y).map .int))) := by
  with_unfolding_all show WpO (if (big x && big y && decide (y - x ≤ 1000000)) = true then _ else none) P = _
  rw [wpo_if, Bool.and_eq_true, Bool.and_eq_true, decide_eq_true_eq]; simp only [and_assoc]
theorem big_of (h : -(2 ^ 61) ≤ x) (h2 : x ≤ 2 ^ 61) : big x = true := by unfold big; exact decide_eq_true ⟨h, h2⟩
theorem small_of (h : -(2 ^ 63) ≤ x) (h2 : x ≤ 2 ^ 63) : small x = true := by unfold small; exact decide_eq_true ⟨h, h2⟩
theorem op_ixI {ns : List Int} {i : Int} (h : 0 ≤ i) (h2 : i < ns.length) : oIx (.lst w (ns.map .int)) (.int i) = some (.int (ns.getD i.toNat 0)) := by
  have e : atI (ns.map O.int) i = some (.int (ns.getD i.toNat 0)) := by
    unfold atI ixN
    rw [List.length_map, if_pos h, if_pos h2]
    simp
    have : i.toNat < ns.length := by omega
    rw [List.getElem?_eq_getElem this]
    simp [List.getD, List.getElem?_eq_getElem this]
  with_unfolding_all show (match atI (ns.map O.int) i with | some o => _ | none => _) = _
  rw [e]; with_unfolding_all rfl
theorem op_ixN {k : Nat} : WpO (oIx (.lst w xs) (.int (k : Int))) P = WpO xs[k]? fun o => o.fixed = true ∧ P o := by
  have e : atI xs (k : Int) = xs[k]? := by
    unfold atI ixN
    rw [if_pos (by omega)]
    by_cases h : k < xs.length
    · rw [if_pos (by omega)]; with_unfolding_all rfl
    · rw [if_neg (by omega), List.getElem?_eq_none (by omega)]; with_unfolding_all rfl
  with_unfolding_all show WpO (match atI xs (k : Int) with | some o => _ | none => _) P = _
  rw [e]
  cases xs[k]? with
  | none => with_unfolding_all rfl
  | some o => simp only [wpo_some, wpo_if]
theorem op_ixNT {k : Nat} : WpO (oIx (.tup xs) (.int (k : Int))) P = WpO xs[k]? fun o => o.fixed = true ∧ P o := by
  have e : atI xs (k : Int) = xs[k]? := by
    unfold atI ixN
    rw [if_pos (by omega)]
    by_cases h : k < xs.length
    · rw [if_pos (by omega)]; with_unfolding_all rfl
    · rw [if_neg (by omega), List.getElem?_eq_none (by omega)]; with_unfolding_all rfl
  with_unfolding_all show WpO (match atI xs (k : Int) with | some o => _ | none => _) P = _
  rw [e]
  cases xs[k]? with
  | none => with_unfolding_all rfl
  | some o => simp only [wpo_some, wpo_if]
@[simp] theorem op_ix0 : WpO (oIx (.lst w xs) (.int 0)) P = WpO xs[0]? fun o => o.fixed = true ∧ P o := op_ixN (k := 0)
@[simp] theorem op_ixT0 : WpO (oIx (.tup xs) (.int 0)) P = WpO xs[0]? fun o => o.fixed = true ∧ P o := op_ixNT (k := 0)
@[simp] theorem op_ix1 : WpO (oIx (.lst w xs) (.int 1)) P = WpO xs[1]? fun o => o.fixed = true ∧ P o := op_ixN (k := 1)
@[simp] theorem op_ixT1 : WpO (oIx (.tup xs) (.int 1)) P = WpO xs[1]? fun o => o.fixed = true ∧ P o := op_ixNT (k := 1)
@[simp] theorem op_ix2 : WpO (oIx (.lst w xs) (.int 2)) P = WpO xs[2]? fun o => o.fixed = true ∧ P o := op_ixN (k := 2)
@[simp] theorem op_ixT2 : WpO (oIx (.tup xs) (.int 2)) P = WpO xs[2]? fun o => o.fixed = true ∧ P o := op_ixNT (k := 2)
@[simp] theorem op_ix3 : WpO (oIx (.lst w xs) (.int 3)) P = WpO xs[3]? fun o => o.fixed = true ∧ P o := op_ixN (k := 3)
@[simp] theorem op_ixT3 : WpO (oIx (.tup xs) (.int 3)) P = WpO xs[3]? fun o => o.fixed = true ∧ P o := op_ixNT (k := 3)
@[simp] theorem op_ix4 : WpO (oIx (.lst w xs) (.int 4)) P = WpO xs[4]? fun o => o.fixed = true ∧ P o := op_ixN (k := 4)
@[simp] theorem op_ixT4 : WpO (oIx (.tup xs) (.int 4)) P = WpO xs[4]? fun o => o.fixed = true ∧ P o := op_ixNT (k := 4)
@[simp] theorem op_ix5 : WpO (oIx (.lst w xs) (.int 5)) P = WpO xs[5]? fun o => o.fixed = true ∧ P o := op_ixN (k := 5)
@[simp] theorem op_ixT5 : WpO (oIx (.tup xs) (.int 5)) P = WpO xs[5]? fun o => o.fixed = true ∧ P o := op_ixNT (k := 5)
@[simp] theorem op_ix6 : WpO (oIx (.lst w xs) (.int 6)) P = WpO xs[6]? fun o => o.fixed = true ∧ P o := op_ixN (k := 6)
@[simp] theorem op_ixT6 : WpO (oIx (.tup xs) (.int 6)) P = WpO xs[6]? fun o => o.fixed = true ∧ P o := op_ixNT (k := 6)
@[simp] theorem op_ix7 : WpO (oIx (.lst w xs) (.int 7)) P = WpO xs[7]? fun o => o.fixed = true ∧ P o := op_ixN (k := 7)
@[simp] theorem op_ixT7 : WpO (oIx (.tup xs) (.int 7)) P = WpO xs[7]? fun o => o.fixed = true ∧ P o := op_ixNT (k := 7)
@[simp] theorem ixN_lit {n k : Nat} {Pn : Nat → Prop} : WpO (ixN n (k : Int)) Pn = (k < n ∧ Pn k) := by
  unfold ixN
  rw [if_pos (by omega)]
  by_cases h : k < n
  · rw [if_pos (by omega)]; simp [h]
  · rw [if_neg (by omega)]; simp [h]
@[simp] theorem ixN_0 {n : Nat} {Pn : Nat → Prop} : WpO (ixN n 0) Pn = (0 < n ∧ Pn 0) := ixN_lit (k := 0)
@[simp] theorem ixN_1 {n : Nat} {Pn : Nat → Prop} : WpO (ixN n 1) Pn = (1 < n ∧ Pn 1) := ixN_lit (k := 1)
@[simp] theorem ixN_2 {n : Nat} {Pn : Nat → Prop} : WpO (ixN n 2) Pn = (2 < n ∧ Pn 2) := ixN_lit (k := 2)
@[simp] theorem ixN_3 {n : Nat} {Pn : Nat → Prop} : WpO (ixN n 3) Pn = (3 < n ∧ Pn 3) := ixN_lit (k := 3)
@[simp] theorem ixN_4 {n : Nat} {Pn : Nat → Prop} : WpO (ixN n 4) Pn = (4 < n ∧ Pn 4) := ixN_lit (k := 4)
@[simp] theorem ixN_5 {n : Nat} {Pn : Nat → Prop} : WpO (ixN n 5) Pn = (5 < n ∧ Pn 5) := ixN_lit (k := 5)
@[simp] theorem ixN_6 {n : Nat} {Pn : Nat → Prop} : WpO (ixN n 6) Pn = (6 < n ∧ Pn 6) := ixN_lit (k := 6)
@[simp] theorem ixN_7 {n : Nat} {Pn : Nat → Prop} : WpO (ixN n 7) Pn = (7 < n ∧ Pn 7) := ixN_lit (k := 7)
end
end Ow
set_option Elab.async false
set_option linter.all false
set_option maxRecDepth 100000
set_option maxHeartbeats 4000000
namespace Ow
open PySem L2
/-! ### calls that only look: what the caller owns is lent, the answer is no object -/
def mCallP (m : List O → FR) (as : List Arg) : M O := fun env => (evalArgs as env).bind fun e xs => match fillA e as xs with
  | some os => (match m (os.map O.fz) with
    | .ret o [] => if o.flat then .ok e o else .bad
    | _ => .bad)
  | none => .bad
theorem Rel.own {K : PySem.W.Frag} {F H : Hp} {σ : L2.St} {env : Ev} {fp : Nat → List Addr} {fr : Addr → Prop} (r : Rel K F H σ env fp fr) {i : Nat} {a : Addr} (h : a ∈ fp i) : F a = none ∧ ∃ vs, H a = some (.lst vs) := by
  cases ei : env[i]? with
  | none => rw [r.off i (by simp [ei])] at h; cases h
  | some y => cases y with
    | none => rw [r.off i (by simp [ei])] at h; cases h
    | some o =>
      obtain ⟨v, _, q⟩ := r.sl i o ei
      exact Rp.at o v _ q a h
theorem flat_rp {K : PySem.W.Frag} {F H F' H' : Hp} {o : O} {v : V} {fv : List Addr} (f : o.flat = true) (q : Rp K F H o v fv) : Rp K F' H' o v [] := by
  cases o <;> first | (cases f; done) | exact ⟨q.1, rfl⟩
section
variable {c : Cfg} {tx : TA} {as : List Arg}
theorem ev_callP {np : Nat} {m : List O → FR} (h : EvAr c tx as) (hl : as.length = np) : EvO c (tCallS (spM c.K c.cm np [] m) (L2.WE c.E) tx) (mCallP m as) := fun F H σ env fp fr Q rl w => by
  refine h F H σ env fp fr _ rl ?_
  unfold mCallP at w
  cases e1 : evalArgs as env with
  | bad => rw [e1] at w; with_unfolding_all exact w.elim
  | err env1 x => rw [e1] at w; with_unfolding_all exact w
  | ok env1 xs =>
    rw [e1] at w
    intro vs F1 H1 fp1 s1 k1 r1 qa
    simp only [R.bind] at w
    cases e2 : fillA env1 as xs with
    | none => rw [e2] at w; with_unfolding_all exact w.elim
    | some os =>
      rw [e2] at w
      simp only at w
      obtain ⟨l1, l2, ag⟩ := args_get qa e2
      obtain ⟨lb, pb1, pb2⟩ := posB_bors as 0
      have inS : ∀ j a, j ∈ bors as → a ∈ fp1 j → a ∈ (bors as).flatMap fp1 := fun j a hj ha => List.mem_flatMap.mpr ⟨j, hj, ha⟩
      have hS : ∀ a ∈ (bors as).flatMap fp1, F1 a = none := fun a ha => by
        obtain ⟨j, _, h2⟩ := List.mem_flatMap.mp ha
        exact (r1.own h2).1
      have rA : Rel c.K (with_ F1 H1 ((bors as).flatMap fp1)) H1 (vs.map some) ((os.map O.fz).map some) (fun _ => []) (Oth (with_ F1 H1 ((bors as).flatMap fp1)) H1 fun _ => []) := by
        refine ⟨by simp [l1, l2], with_sub r1.sub, fun k o eo => ?_, fun k _ => rfl, fun _ => List.nodup_nil, fun _ _ _ _ ha _ => (nomatch ha), fun a ha => ha⟩
        rw [List.getElem?_map, List.getElem?_map] at eo
        cases ea : os[k]? with
        | none => rw [ea] at eo; cases eo
        | some o' =>
          rw [ea] at eo; cases eo
          have hk : k < as.length := by rw [← l1]; exact lt_of_some ea
          cases eas : as[k] with
          | val f =>
            obtain ⟨o2, v, a1, a2, a3⟩ := (ag k).1 f (by rw [List.getElem?_eq_getElem hk, eas])
            rw [ea] at a1; cases a1
            exact ⟨v, by rw [List.getElem?_map, a2]; rfl, Rp.fixed (sub_with hS) _ v _ a3 fun a ha => (nomatch ha)⟩
          | bor j =>
            obtain ⟨o2, v, a1, a2, a3, a4⟩ := (ag k).2 j (by rw [List.getElem?_eq_getElem hk, eas])
            rw [ea] at a1; cases a1
            obtain ⟨v', b1, b2⟩ := r1.sl j _ a2
            rw [a4] at b1; cases b1
            obtain ⟨t, _, hb⟩ := pb2 k j (by rw [List.getElem?_eq_getElem hk, eas])
            exact ⟨v, by rw [List.getElem?_map, a3]; rfl, Rp.fixed (sub_with hS) _ v _ b2 fun a ha => with_in (inS j a (List.mem_of_getElem? hb) ha)⟩
      refine ⟨_, os.map O.fz, fun _ => [], by simp [l1, hl], rA, fun _ _ => rfl, ?_⟩
      cases em : m (os.map O.fz) with
      | bad => rw [em] at w; with_unfolding_all exact w.elim
      | exc x bs => rw [em] at w; with_unfolding_all exact w.elim
      | ret o bs =>
        rw [em] at w
        cases bs with
        | cons b bs => with_unfolding_all exact w.elim
        | nil =>
          simp only at w
          by_cases hf : o.flat = true
          · rw [if_pos hf] at w
            intro v F2 H2 fpb fv s2 k2 r2 q nd d
            have same : ∀ a, (∃ z, H1 a = some z) → F1 a = none → H2 a = H1 a := fun a ⟨z, hz⟩ hn => by
              by_cases m : a ∈ (bors as).flatMap fp1
              · rw [hz]
                exact r2.sub a z (s2 a z (by rw [with_in m]; exact hz))
              · exact k2 a ⟨⟨z, hz⟩, by rw [with_out m]; exact hn, fun _ hh => (nomatch hh)⟩
            have r3 : Rel c.K F1 H2 σ env1 fp1 fr := by
              refine ⟨r1.len, ((sub_with hS).trans s2).trans r2.sub, fun i o' e => ?_, r1.off, r1.nd, r1.dj, fun a ha => ?_⟩
              · obtain ⟨u, e3, q3⟩ := r1.sl i o' e
                refine ⟨u, e3, Rp.keep (Same.refl _) o' u _ q3 fun a ha => ?_⟩
                obtain ⟨h1, vs', h2⟩ := r1.own ha
                exact ⟨same a ⟨_, h2⟩ h1, h1⟩
              · obtain ⟨⟨z, h1⟩, h2, h3⟩ := r1.fr a ha
                exact ⟨⟨z, by rw [same a ⟨z, h1⟩ h2]; exact h1⟩, h2, h3⟩
            refine w v F1 H2 fp1 [] s1 (k1.trans fun a ha => ?_) r3 (flat_rp hf q) List.nodup_nil fun _ hh => (nomatch hh)
            obtain ⟨h1, h2, _⟩ := r1.fr a ha
            exact same a h1 h2
          · rw [if_neg hf] at w; with_unfolding_all exact w.elim
end
section
variable {X : Cx} {cm : Str → Addr} {W : L2.WX} {pos p1 : Pos}
theorem xo_callP {P : Program} {w : World} {K : PySem.W.Frag} {mg : Str → Option Value} {base : Heap} {e : Expr} {es : List Expr} {tx : TA} {x : Str} {k j : Nat} {np : Nat} {m : List O → FR} {as : List Arg} (C : Cal P w K mg base cm j x np [] m) (hr : Room k X.A) (tk : L2.Takes X W) (h : XAr X cm W (e :: es) tx as) (hjk : j ≤ k := by decide)
    (hX : X.prog = P ∧ X.w = w ∧ X.K = K ∧ X.mg = mg ∧ X.base = base := by exact ⟨rfl, rfl, rfl, rfl, rfl⟩) (hg : Gl X x := by rfl) (hl : as.length = np := by rfl) (hdb : (x == ("__debug__" : Str)) = false := by decide) (he : starEach (e :: es) X.env = (false, eval e X.env) :: starEach es X.env := by rfl) (hpl : (backTo pos (starEach es X.env)).any (·.1) = false := by rfl) :
    XO X cm W (.Call (.Name x p1) (e :: es) [] pos) (tCallS (spM K cm np [] m) (L2.WE W) tx) (mCallP m as) := by
  obtain ⟨rfl, rfl, rfl, rfl, rfl⟩ := hX
  obtain ⟨f, fd, ps, F, hm, hk, hb⟩ := C.ex
  exact ⟨pe_callS F (hr.mono hjk) hg hm hk hb (fun σ => passAt tk σ) h.pa hdb he hpl, ev_callP h.ev hl⟩
variable {Q : Ev → O → Prop} {E : Ev → Exn → Prop} {env : Ev}
def WpFl (o : O) (bs : List O) (P : Prop) : Prop := o.flat = true ∧ bs = [] ∧ P
@[simp] theorem wp_callP {m : List O → FR} {as : List Arg} : Wp (mCallP m as env) Q E = Wp (evalArgs as env) (fun e xs => WpO (fillA e as xs) fun os => WpF (m (os.map O.fz)) (fun o bs => o.flat = true ∧ bs = [] ∧ Q e o) (fun _ _ => False)) E := by
  unfold mCallP; rw [wp_bind]; refine wp_ext fun e xs => ?_
  cases fillA e as xs with
  | none => with_unfolding_all rfl
  | some os =>
    simp only [wpo_some]
    cases m (os.map O.fz) with
    | bad => with_unfolding_all rfl
    | exc _ _ => with_unfolding_all rfl
    | ret o bs => cases bs with
      | cons b bs => simp
      | nil => by_cases hf : o.flat = true <;> simp [hf]
end
end Ow
set_option Elab.async false
set_option linter.all false
set_option maxRecDepth 100000
set_option maxHeartbeats 4000000
namespace Ow
open PySem L2
theorem rng_snoc {a b : Int} (h : a ≤ b) : rng a (b + 1) = rng a b ++ [b] := by
  unfold rng
  have : (b + 1 - a).toNat = (b - a).toNat + 1 := by omega
  rw [this, List.range_succ, List.map_append]
  simp
  omega
theorem mem_rng {a b k : Int} : k ∈ rng a b ↔ a ≤ k ∧ k < b := by
  unfold rng
  simp only [List.mem_map, List.mem_range]
  constructor
  · rintro ⟨n, h, rfl⟩; omega
  · rintro ⟨h, h2⟩; exact ⟨(k - a).toNat, by omega, by omega⟩
section
variable {Q : Ev → O → Prop} {E : Ev → Exn → Prop} {env : Ev} {f : M O} {p : M Bool} {hh : O → Ev → Option Ev} {ks : List Nat} {a b : Int}
/-- a comprehension over whole numbers -/
theorem wp_lcI (I : Int → List O → Ev → Prop) (h0 : I a [] env)
    (hs : ∀ k acc e, a ≤ k → k < b → I k acc e → WpO (hh (.int k) e) fun e => Wp (p e) (fun e bb => Br bb (Wp (f e) (fun e y => acc.length < lim ∧ I (k + 1) (acc ++ [y]) (delE ks e)) fun _ _ => False) (I (k + 1) acc (delE ks e))) fun _ _ => False)
    (hz : ∀ acc e, I (if a ≤ b then b else a) acc e → Q e (.lst true acc)) : Wp (loopC hh p f ks ((rng a b).map .int) [] env) Q E := by
  refine wp_loopC (I := fun l acc e => ∃ k : Int, a ≤ k ∧ k ≤ (if a ≤ b then b else a) ∧ l = (rng k b).map .int ∧ I k acc e) ?_ ?_ _ [] env ⟨a, Int.le_refl a, by split <;> omega, rfl, h0⟩
  · rintro x r acc e ⟨k, h1, h2, h3, h4⟩
    have hkb : k < b := by
      by_cases h : k < b
      · exact h
      · rw [rng_nil (by omega)] at h3; cases h3
    rw [rng_cons hkb] at h3
    simp only [List.map_cons, List.cons.injEq] at h3
    obtain ⟨rfl, rfl⟩ := h3
    have w := hs k acc e h1 hkb h4
    have tr : ∀ acc e, I (k + 1) acc e → ∃ k' : Int, a ≤ k' ∧ k' ≤ (if a ≤ b then b else a) ∧ (rng (k + 1) b).map O.int = (rng k' b).map .int ∧ I k' acc e := fun acc e z => ⟨k + 1, by omega, by split <;> omega, rfl, z⟩
    revert w
    cases hh (.int k) e with
    | none => with_unfolding_all exact id
    | some e1 =>
      simp only [wpo_some]
      intro w
      refine Wp.mono w fun e bb w => ?_
      cases bb with
      | false => rw [br_false] at w ⊢; exact tr _ _ w
      | true => rw [br_true] at w ⊢; exact Wp.mono w fun e y w => ⟨w.1, tr _ _ w.2⟩
  · rintro acc e ⟨k, h1, h2, h3, h4⟩
    have : ¬ k < b := fun h => by rw [rng_cons h] at h3; cases h3
    have : k = (if a ≤ b then b else a) := by split at h2 <;> rename_i hh <;> simp only [hh, if_true, if_false] <;> omega
    exact hz acc e (this ▸ h4)
/-- .. where each item is looked at alone -/
theorem wp_lcF (c : Int → Bool) (y : Int → O) (hl : b - a ≤ 1000000)
    (hs : ∀ k, a ≤ k → k < b → WpO (hh (.int k) env) fun e => Wp (p e) (fun e bb => bb = c k ∧ Br (c k) (Wp (f e) (fun e o => o = y k ∧ delE ks e = env) fun _ _ => False) (delE ks e = env)) fun _ _ => False)
    (hz : Q env (.lst true (((rng a b).filter c).map y))) : Wp (loopC hh p f ks ((rng a b).map .int) [] env) Q E := by
  refine wp_lcI (I := fun k acc e => e = env ∧ acc = ((rng a k).filter c).map y) ⟨rfl, by rw [rng_nil (Int.le_refl a)]; rfl⟩ ?_ ?_
  · rintro k acc e h1 h2 ⟨rfl, rfl⟩
    have w := hs k h1 h2
    revert w
    cases hh (.int k) e with
    | none => with_unfolding_all exact id
    | some e1 =>
      simp only [wpo_some]
      intro w
      refine Wp.mono w fun e bb w => ?_
      obtain ⟨rfl, w⟩ := w
      rw [rng_snoc h1]
      cases hc : c k with
      | false =>
        rw [hc, br_false] at w
        rw [br_false]
        exact ⟨w, by simp [hc]⟩
      | true =>
        rw [hc, br_true] at w
        rw [br_true]
        refine Wp.mono w fun e o w => ⟨?_, w.2, by simp [hc, w.1]⟩
        have : ((rng a k).filter c).length ≤ (rng a k).length := List.length_filter_le _ _
        rw [rng_len] at this
        simp only [List.length_map]
        with_unfolding_all show _ < 1000000
        omega
  · rintro acc e ⟨rfl, rfl⟩
    by_cases h : a ≤ b
    · rw [if_pos h]; exact hz
    · rw [if_neg h, rng_nil (Int.le_refl a)]
      rw [rng_nil (by omega)] at hz
      exact hz
end
end Ow
set_option Elab.async false
set_option linter.all false
set_option maxRecDepth 100000
set_option maxHeartbeats 4000000
namespace Ow
open PySem L2
section
variable {Q : Ev → O → Prop} {E : Ev → Exn → Prop} {env : Ev} {f g h : M O} {i : Nat}
@[irreducible] def AsLs (o : O) (P : List O → Prop) (_d : Dm P () () := .mk) : Prop := match o with
  | .lst _ xs => P xs
  | _ => False
@[simp] theorem asls {xs : List O} {w : Bool} {P : List O → Prop} : AsLs (.lst w xs) P = P xs := by with_unfolding_all rfl
@[simp] theorem wp_pop : Wp (mPop i env) Q E = WpO env[i]? fun o => WpO o fun o => AsL o fun xs => WpO (xs[xs.length - 1]?) fun y => y.fixed = true ∧ Q (env.set i (some (.lst true xs.dropLast))) y := by
  unfold mPop
  cases env[i]? with
  | none => with_unfolding_all rfl
  | some o => cases o with
    | none => with_unfolding_all rfl
    | some o => cases o with
      | lst w xs => cases w with
        | false => with_unfolding_all rfl
        | true =>
        simp only [wpo_some, asl]
        cases xs[xs.length - 1]? with
        | none => with_unfolding_all rfl
        | some y => by_cases hy : y.fixed = true <;> simp [hy]
      | _ => with_unfolding_all rfl
@[simp] theorem wp_popAt : Wp (mPopAt i f env) Q E = WpO env[i]? fun o => WpO o fun o => AsL o fun _ => Wp (f env) (fun e y => WpO e[i]? fun o => WpO o fun o => AsL o fun xs => AsI y fun k => (0 ≤ k ∧ k < 1000000) ∧ WpO xs[k.toNat]? fun y => y.fixed = true ∧ Q (e.set i (some (.lst true (xs.eraseIdx k.toNat)))) y) E := by
  unfold mPopAt
  cases env[i]? with
  | none => with_unfolding_all rfl
  | some o => cases o with
    | none => with_unfolding_all rfl
    | some o => cases o with
      | lst w xs => cases w with
        | false => with_unfolding_all rfl
        | true =>
        simp only [wpo_some, asl]
        rw [wp_bind]; refine wp_ext fun e y => ?_
        cases e[i]? with
        | none => with_unfolding_all rfl
        | some o => cases o with
          | none => with_unfolding_all rfl
          | some o => cases o with
            | lst w xs => cases w with
              | false => with_unfolding_all rfl
              | true =>
                cases y with
                | int k =>
                  simp only [wpo_some, asl, asi]
                  by_cases hk : 0 ≤ k ∧ k < 1000000
                  · simp only [hk, and_self, if_true, true_and]
                    cases xs[k.toNat]? with
                    | none => with_unfolding_all rfl
                    | some y => by_cases hy : y.fixed = true <;> simp [hy]
                  · rw [if_neg hk, wp_bad]; simp [hk]
                | _ => with_unfolding_all rfl
            | _ => with_unfolding_all rfl

      | _ => with_unfolding_all rfl
@[simp] theorem wp_remove : Wp (mRemove i f env) Q E = WpO env[i]? fun o => WpO o fun o => AsL o fun _ => Wp (f env) (fun e y => WpO e[i]? fun o => WpO o fun o => AsL o fun xs => AsI y fun k => WpO (intsOf xs) fun ns => k ∈ ns ∧ Q (e.set i (some (.lst true ((ns.eraseIdx (ns.idxOf k)).map .int)))) .non) E := by
  unfold mRemove
  cases env[i]? with
  | none => with_unfolding_all rfl
  | some o => cases o with
    | none => with_unfolding_all rfl
    | some o => cases o with
      | lst w xs => cases w with
        | false => with_unfolding_all rfl
        | true =>
        simp only [wpo_some, asl]
        rw [wp_bind]; refine wp_ext fun e y => ?_
        cases e[i]? with
        | none => with_unfolding_all rfl
        | some o => cases o with
          | none => with_unfolding_all rfl
          | some o => cases o with
            | lst w xs => cases w with
              | false => with_unfolding_all rfl
              | true =>
                cases y with
                | int k =>
                  simp only [wpo_some, asl, asi]
                  cases intsOf xs with
                  | none => with_unfolding_all rfl
                  | some ns => by_cases hk : k ∈ ns <;> simp [hk]
                | _ => with_unfolding_all rfl
            | _ => with_unfolding_all rfl

      | _ => with_unfolding_all rfl
@[simp] theorem wp_extend : Wp (mExtend i f env) Q E = WpO env[i]? fun o => WpO o fun o => AsL o fun _ => Wp (f env) (fun e y => WpO e[i]? fun o => WpO o fun o => AsL o fun xs => AsLs y fun ys => xs.length + ys.length ≤ lim ∧ Q (e.set i (some (.lst true (xs ++ ys)))) .non) E := by
  unfold mExtend
  cases env[i]? with
  | none => with_unfolding_all rfl
  | some o => cases o with
    | none => with_unfolding_all rfl
    | some o => cases o with
      | lst w xs => cases w with
        | false => with_unfolding_all rfl
        | true =>
        simp only [wpo_some, asl]
        rw [wp_bind]; refine wp_ext fun e y => ?_
        cases e[i]? with
        | none => with_unfolding_all rfl
        | some o => cases o with
          | none => with_unfolding_all rfl
          | some o => cases o with
            | lst w xs => cases w with
              | false => with_unfolding_all rfl
              | true =>
                cases y with
                | lst w ys =>
                  simp only [wpo_some, asl, asls]
                  by_cases hk : xs.length + ys.length ≤ lim <;> simp [hk]
                | _ => with_unfolding_all rfl
            | _ => with_unfolding_all rfl

      | _ => with_unfolding_all rfl
end
section
variable {x y : Int} {w : Bool} {ns : List Int} {xs : List O}
theorem flats_int : (ns.map O.int).all O.flat = true := by rw [List.all_map]; simp [O.flat]
theorem any_int : (ns.map O.int).any (fun y => eqO y (.int x)) = decide (x ∈ ns) := by
  induction ns with
  | nil => with_unfolding_all rfl
  | cons n r ih =>
    simp only [List.map_cons, List.any_cons, ih, List.mem_cons]
    by_cases h : n = x
    · subst h; simp [eqO]
    · have : eqO (.int n) (.int x) = false := by show (n == x) = false; simp [h]
      rw [this]
      have h3 : x ≠ n := fun z => h z.symm
      simp [h3]
@[simp] theorem op_inI : oIn (.int x) (.lst w (ns.map .int)) = some (.bl (decide (x ∈ ns))) := by
  with_unfolding_all show (if ((O.int x).flat && (ns.map O.int).all O.flat) = true then _ else _) = _
  rw [flats_int, any_int]; with_unfolding_all rfl
@[simp] theorem op_notInI : oNotIn (.int x) (.lst w (ns.map .int)) = some (.bl (!decide (x ∈ ns))) := by
  with_unfolding_all show oNot1 (oIn _ _) = _
  rw [op_inI]; with_unfolding_all rfl
@[simp] theorem op_inN : oIn (.int x) (.lst w []) = some (.bl false) := by
  have := op_inI (x := x) (w := w) (ns := [])
  simpa using this
theorem cutL_lo {α : Type} {xs : List α} {k : Nat} : cutL xs (some (k : Int)) none = xs.drop k := by
  unfold cutL
  rw [HT.sIx_nat, HT.sIx_none]
  by_cases h : k ≤ xs.length
  · rw [Nat.min_eq_left h, List.take_of_length_le (by simp)]
  · rw [Nat.min_eq_right (by omega), List.drop_eq_nil_of_le (Nat.le_refl _), List.drop_eq_nil_of_le (by omega)]; simp
theorem cutL_hi {α : Type} {xs : List α} {k : Nat} : cutL xs none (some (k : Int)) = xs.take k := by
  unfold cutL
  rw [HT.sIx_nat, HT.sIx_none, Nat.sub_zero, List.drop_zero]
  by_cases h : k ≤ xs.length
  · rw [Nat.min_eq_left h]
  · rw [Nat.min_eq_right (by omega), List.take_of_length_le (Nat.le_refl _), List.take_of_length_le (by omega)]
theorem cutL_mid {α : Type} {xs : List α} {a b : Nat} (h : b ≤ xs.length) : cutL xs (some (a : Int)) (some (b : Int)) = (xs.drop a).take (b - a) := by
  unfold cutL
  rw [HT.sIx_nat, HT.sIx_nat, Nat.min_eq_left h]
  by_cases ha : a ≤ xs.length
  · rw [Nat.min_eq_left ha]
  · rw [Nat.min_eq_right (by omega), List.drop_eq_nil_of_le (Nat.le_refl _), List.drop_eq_nil_of_le (by omega)]; simp
theorem cutL_all {α : Type} {xs : List α} : cutL xs none none = xs := by
  unfold cutL
  rw [HT.sIx_none, HT.sIx_none, Nat.sub_zero, List.drop_zero, List.take_of_length_le (Nat.le_refl _)]
@[simp] theorem op_slL {lo hi : Option Int} : oSl (.lst w xs) lo hi = some (.lst true (cutL xs lo hi)) := by with_unfolding_all rfl
@[simp] theorem op_slT {lo hi : Option Int} : oSl (.tup xs) lo hi = some (.tup (cutL xs lo hi)) := by with_unfolding_all rfl
@[simp] theorem op_slS {z : List Nat} {lo hi : Option Int} {P : O → Prop} : WpO (oSl (.str z) lo hi) P = (z.length ≤ lim ∧ P (.str (cutL z lo hi))) := wpo_if
@[simp] theorem cut_map {α β : Type} {g : α → β} {l : List α} {lo hi : Option Int} : cutL (l.map g) lo hi = (cutL l lo hi).map g := by
  unfold cutL; rw [List.length_map, List.map_take, List.map_drop]
@[simp] theorem cutL_lo1 {α : Type} {xs : List α} : cutL xs (some 1) none = xs.drop 1 := cutL_lo (k := 1)
@[simp] theorem cutL_hi1 {α : Type} {xs : List α} : cutL xs none (some 1) = xs.take 1 := cutL_hi (k := 1)
@[simp] theorem cutL_lo2 {α : Type} {xs : List α} : cutL xs (some 2) none = xs.drop 2 := cutL_lo (k := 2)
@[simp] theorem cutL_hi2 {α : Type} {xs : List α} : cutL xs none (some 2) = xs.take 2 := cutL_hi (k := 2)
@[simp] theorem cutL_lo3 {α : Type} {xs : List α} : cutL xs (some 3) none = xs.drop 3 := cutL_lo (k := 3)
@[simp] theorem cutL_hi3 {α : Type} {xs : List α} : cutL xs none (some 3) = xs.take 3 := cutL_hi (k := 3)
@[simp] theorem cutL_lo4 {α : Type} {xs : List α} : cutL xs (some 4) none = xs.drop 4 := cutL_lo (k := 4)
@[simp] theorem cutL_hi4 {α : Type} {xs : List α} : cutL xs none (some 4) = xs.take 4 := cutL_hi (k := 4)
@[simp] theorem cutL_lo5 {α : Type} {xs : List α} : cutL xs (some 5) none = xs.drop 5 := cutL_lo (k := 5)
@[simp] theorem cutL_hi5 {α : Type} {xs : List α} : cutL xs none (some 5) = xs.take 5 := cutL_hi (k := 5)
theorem rng_split {a b k : Int} (h1 : a ≤ k) (h2 : k < b) : rng a b = rng a k ++ k :: rng (k + 1) b := by
  have : ∀ n : Nat, ∀ k : Int, a ≤ k → k < b → n = (k - a).toNat → rng a b = rng a k ++ k :: rng (k + 1) b := by
    intro n
    induction n with
    | zero =>
      intro k h1 h2 h3
      have h4 : k = a := by omega
      rw [h4, rng_nil (Int.le_refl a), List.nil_append]
      exact rng_cons (by omega)
    | succ n ih =>
      intro k h1 h2 h3
      rw [ih (k - 1) (by omega) (by omega) (by omega), show k - 1 + 1 = k by omega, rng_cons h2]
      have := rng_snoc (a := a) (b := k - 1) (by omega)
      rw [show k - 1 + 1 = k by omega] at this
      rw [this]; simp
  exact this _ k h1 h2 rfl
theorem datas_int : datas (ns.map O.int) = ns.map PyData.int := by
  induction ns with
  | nil => with_unfolding_all rfl
  | cons n r ih => simp only [List.map_cons, datas, O.data, ih]
theorem canLay_ints : ∀ ns : List Int, PyData.canLayAll0 (ns.map PyData.int) = true
  | [] => by with_unfolding_all rfl
  | _ :: r => by simp [PyData.canLayAll0, PyData.canLay0, canLay_ints r]
theorem depth_ints : ∀ ns : List Int, PyData.depthAll (ns.map PyData.int) = 0
  | [] => by with_unfolding_all rfl
  | _ :: r => by simp [PyData.depthAll, PyData.depth, depth_ints r]
theorem shaped_ints (ns : List Int) : SeqAt.shaped (.list (ns.map PyData.int)) = true := by
  simp [SeqAt.shaped, PyData.canLay0, PyData.depth, canLay_ints, depth_ints]
theorem eqv_ints : ∀ ns ms : List Int, PyData.eqvAll (ns.map PyData.int) (ms.map PyData.int) = decide (ns = ms)
  | [], [] => by simp [PyData.eqvAll]
  | [], _ :: _ => by simp [PyData.eqvAll]
  | _ :: _, [] => by simp [PyData.eqvAll]
  | a :: r, b :: t => by
    simp only [List.map_cons, PyData.eqvAll, PyData.eqv, eqv_ints r t]
    by_cases h : a = b <;> by_cases h' : r = t <;> simp [h, h']
theorem op_eqL {ms : List Int} {w' : Bool} : oEq (.lst w (ns.map .int)) (.lst w' (ms.map .int)) = some (.bl (decide (ns = ms))) := by
  show (if (SeqAt.shaped (.list (datas (ns.map O.int))) && SeqAt.shaped (.list (datas (ms.map O.int)))) = true then some (O.bl (PyData.eqv (.list (datas (ns.map O.int))) (.list (datas (ms.map O.int))))) else none) = _
  rw [datas_int, datas_int, shaped_ints, shaped_ints, PyData.eqv, eqv_ints]; simp
theorem op_neL {ms : List Int} {w' : Bool} : oNe (.lst w (ns.map .int)) (.lst w' (ms.map .int)) = some (.bl (!decide (ns = ms))) := by
  unfold oNe; rw [op_eqL]; with_unfolding_all rfl
theorem rng_app {a b c : Int} (h1 : a ≤ c) (h2 : c ≤ b) : rng a b = rng a c ++ rng c b := by
  by_cases h : c < b
  · rw [rng_split h1 h, rng_cons h]
  · have : c = b := by omega
    subst this; rw [rng_nil (Int.le_refl c), List.append_nil]
theorem rng_lt {a b c : Int} (h : a ≤ c) : (rng a b).filter (fun i => decide (i < c)) = rng a (if b < c then b else c) := by
  by_cases hb : b < c
  · rw [if_pos hb, List.filter_eq_self.mpr]
    intro k hk; have := mem_rng.mp hk; exact decide_eq_true (by omega)
  · rw [if_neg hb, rng_app h (by omega), List.filter_append, List.filter_eq_self.mpr, List.filter_eq_nil_iff.mpr, List.append_nil]
    · intro k hk; have := mem_rng.mp hk; simp; omega
    · intro k hk; have := mem_rng.mp hk; exact decide_eq_true (by omega)
end
end Ow
set_option Elab.async false
set_option linter.all false
set_option maxRecDepth 100000
set_option maxHeartbeats 8000000
namespace Ow
open PySem L2

/- slots of sendable: 0 link, 1 first, 2 many -/
def b_sendable : M Ctl := (mRet (mRgL2 (mVar 1) (mCB oMin2 (mCons (mFz (mOp oAdd (mVar 1) (mIxN 0 (mC (.int 0))))) (mCons (mVar 2) mNil)))))
def m_sendable : List O → FR := fnM 3 [] b_sendable

/- slots of number_taken: 0 link, 1 due, 2 x, 3 j -/
def b_number_taken : M Ctl := (mSeq (mPre [3] (mFor (mItR2 (mCons (mVar 1) (mCons (mFz (mOp oAdd (mVar 1) (mIxN 0 (mC (.int 1))))) mNil))) (hNm 3)
  (mKill [3] (mIfS (mTB (mOp oEq (mOp oMod (mVar 3) (mIxN 0 (mC (.int 2)))) (mPk 2)))
  (mRet (mMove 3))
  mNext))))
  (mRet (mC .non)))
def m_number_taken : List O → FR := fnM 4 [] b_number_taken

/- slots of handed_on: 0 due, 1 kept, 2 left -/
def b_handed_on : M Ctl := (mSeq (mAsg (hNm 2) (mC1 oList (mPk 1)))
  (mSeq (mPre [1] (loopW (mTB (mOp oIn (mPk 0) (mPk 2)))
  (mSeq (mDrop (mRemove 2 (mVar 0)))
  (mAug 0 oIAdd (mC (.int 1)))) 1000000))
  (mRet (mTup (mCons (mMove 0) (mCons (mMove 2) mNil))))))
def m_handed_on : List O → FR := fnM 3 [] b_handed_on

/- slots of data_taken: 0 link, 1 due, 2 held, 3 x, 4 j, 5 after, 6 left -/
def b_data_taken : M Ctl := (mSeq (mAsg (hNm 4) (mCall m_number_taken (.val (mVar 0) :: (.val (mVar 1) :: (.val (mVar 3) :: [])))))
  (mSeq (mIfS (mOr (mTB (mOp oIsN (mPk 4) (mC .non))) (mTB (mOp oIn (mPk 4) (mPk 2))))
  (mRet (mTup (mCons (mMove 1) (mCons (mC1 oList (mPk 2)) (mCons (mC .non) mNil)))))
  mNext)
  (mSeq (mAsg (hTup (hCons (hNm 5) (hCons (hNm 6) hNil)) 2) (mCall m_handed_on (.val (mVar 1) :: (.val (mFz (mC1 oSorted (mOp oAdd (mVar 2) (mFz (mLst (mCons (mVar 4) mNil)))))) :: []))))
  (mRet (mTup (mCons (mMove 5) (mCons (mMove 6) (mCons (mMove 4) mNil))))))))
def m_data_taken : List O → FR := fnM 7 [] b_data_taken

/- slots of answer_taken: 0 link, 1 first, 2 many, 3 y, 4 f -/
def b_answer_taken : M Ctl := (mSeq (mPre [4] (mFor (mItR2 (mCons (mVar 1) (mCons (mFz (mOp oAdd (mCB oMin2 (mCons (mFz (mOp oAdd (mVar 1) (mIxN 0 (mC (.int 0))))) (mCons (mVar 2) mNil))) (mC (.int 1)))) mNil))) (hNm 4)
  (mKill [4] (mIfS (mTB (mOp oEq (mOp oMod (mVar 4) (mIxN 0 (mC (.int 2)))) (mPk 3)))
  (mRet (mMove 4))
  mNext))))
  (mRet (mMove 1)))
def m_answer_taken : List O → FR := fnM 5 [] b_answer_taken

/- slots of _law_feed: 0 script -/
def b__law_feed : M Ctl := (mRet (mLst (mCons (mFz (mC1 oList (mPk 0))) (mCons (mC (.int 0)) (mCons (mC (.int 0)) (mCons (mC (.int 1)) mNil))))))
def m__law_feed : List O → FR := fnM 1 [] b__law_feed

/- slots of _law_draw: 0 feed, 1 many, 2 mixed, 3 cell, 4 told -/
def b__law_draw : M Ctl := (mSeq (mIfS (mAnd (mTB (mOp oEq (mIxN 0 (mC (.int 2))) (mC (.int 0)))) (mTB (mOp oLt (mIxN 0 (mC (.int 1))) (mC1 oLen (mIxN 0 (mC (.int 0)))))))
  (mSeq (mAsg (hNm 3) (mC1 oAbs (mC1 oInt (mOp oIx (mIxN 0 (mC (.int 0))) (mIxN 0 (mC (.int 1)))))))
  (mSeq (mAugI 0 oIAdd (mC (.int 1)) (mC (.int 1)))
  (mIfS (mTB (mOp oGe (mVar 3) (mOp oPow (mC (.int 10)) (mC (.int 18)))))
  (mSetI 0 (mC (.int 2)) (mVar 3))
  (mSetI 0 (mC (.int 3)) (mOp oMod (mC1 oInt (mOp oAdd (mFz (mOp oAdd (mFz (mOp oMul (mIxN 0 (mC (.int 3))) (mC (.int 48271)))) (mFz (mOp oMul (mVar 3) (mC (.int 69621)))))) (mIxN 0 (mC (.int 1))))) (mC (.int 2147483647)))))))
  mNext)
  (mSeq (mIfS (mTB (mOp oGt (mIxN 0 (mC (.int 2))) (mC (.int 0))))
  (mSeq (mAsg (hNm 4) (mOp oMod (mC1 oInt (mIxN 0 (mC (.int 2)))) (mVar 1)))
  (mSeq (mSetI 0 (mC (.int 2)) (mOp oDiv (mIxN 0 (mC (.int 2))) (mVar 1)))
  (mRet (mMove 4))))
  mNext)
  (mSeq (mSetI 0 (mC (.int 3)) (mOp oMod (mC1 oInt (mOp oAdd (mFz (mOp oMul (mIxN 0 (mC (.int 3))) (mC (.int 16807)))) (mC (.int 12345)))) (mC (.int 2147483647))))
  (mSeq (mAsg (hNm 2) (mOp oMod (mC1 oInt (mOp oAdd (mFz (mOp oMul (mIxN 0 (mC (.int 3))) (mIxN 0 (mC (.int 3))))) (mIxN 0 (mC (.int 3))))) (mC (.int 2147483629))))
  (mRet (mOp oMod (mOp oDiv (mVar 2) (mC (.int 11))) (mVar 1)))))))
def m__law_draw : List O → FR := fnM 5 [0] b__law_draw

/- slots of _law_same: 0 actual, 1 due, 2 k -/
def b__law_same (mrec : List O → FR) : M Ctl := (mSeq (mIfS (mOr (mTru (mC1 (oIsI .list) (mPk 1))) (mTru (mC1 (oIsI .tuple) (mPk 1))))
  (mSeq (mIfS (mOr (mTB (mOp oNe (mC1 (oIsI .list) (mPk 0)) (mC1 (oIsI .list) (mPk 1)))) (mTB (mOp oNe (mC1 (oIsI .tuple) (mPk 0)) (mC1 (oIsI .tuple) (mPk 1)))))
  (mRet (mC (.bl false)))
  mNext)
  (mRet (mAndV (mOp oEq (mC1 oLen (mPk 0)) (mC1 oLen (mPk 1))) (mC1 oAll (mLc (mItR1 (mCons (mC1 oLen (mPk 1)) mNil)) (hNm 2) mYes (mFz (mCall mrec (.val (mIxN 0 (mPk 2)) :: (.val (mIxN 1 (mPk 2)) :: [])))) [2])))))
  mNext)
  (mSeq (mIfS (mOr (mTB (mOp oIsN (mPk 1) (mC .non))) (mTru (mC1 (oIsI .bool) (mPk 1))))
  (mRet (mIf (mTB (mOp oIsN (mPk 1) (mC .non))) (mOp oIsN (mPk 0) (mC .non)) (mFz (mAndV (mC1 (oIsI .bool) (mPk 0)) (mOp oEq (mPk 0) (mPk 1))))))
  mNext)
  (mSeq (mIfS (mTru (mC1 (oIsI .str) (mPk 1)))
  (mRet (mAndV (mC1 (oIsI .str) (mPk 0)) (mOp oEq (mPk 0) (mPk 1))))
  mNext)
  (mRet (mAndV (mC1 (oIsI .int) (mPk 0)) (mAndV (mNotV (mC1 (oIsI .bool) (mPk 0))) (mOp oEq (mPk 0) (mPk 1))))))))
def m__law_same : Nat → List O → FR
  | 0 => fnM 3 [] (fun _ => .bad)
  | n + 1 => fnM 3 [] (b__law_same (m__law_same n))

/- slots of _law_due: 0 link, 1 due, 2 held, 3 x, 4 fits, 5 kept, 6 near, 7 far, 8 turn, 9 j -/
def b__law_due : M Ctl := (mSeq (mAsg (hTup (hCons (hNm 6) (hCons (hNm 7) (hCons (hNm 8) hNil))) 3) (mVar 0))
  (mSeq (mAsg (hNm 4) (mLc (mItR2 (mCons (mVar 1) (mCons (mFz (mOp oAdd (mVar 1) (mVar 7))) mNil))) (hNm 9) (mTB (mOp oEq (mOp oMod (mOp oSub (mVar 9) (mVar 3)) (mVar 8)) (mC (.int 0)))) (mVar 9) [9]))
  (mSeq (mIfS (mOr (mTB (mOp oEq (mC1 oLen (mPk 4)) (mC (.int 0)))) (mTB (mOp oIn (mIxN 4 (mC (.int 0))) (mPk 2))))
  (mRet (mTup (mCons (mMove 1) (mCons (mC1 oList (mPk 2)) (mCons (mC .non) mNil)))))
  mNext)
  (mSeq (mAsg (hNm 5) (mC1 oSorted (mOp oAdd (mVar 2) (mFz (mSl (mVar 4) mNoPart (mPart (mC (.int 1))))))))
  (mSeq (mPre [0, 2, 3, 6, 7, 8, 9] (loopW (mTB (mOp oIn (mPk 1) (mPk 5)))
  (mSeq (mAsg (hNm 5) (mSl (mVar 5) (mPart (mC (.int 1))) mNoPart))
  (mAug 1 oIAdd (mC (.int 1)))) 1000000))
  (mRet (mTup (mCons (mMove 1) (mCons (mMove 5) (mCons (mIxN 4 (mC (.int 0))) mNil))))))))))
def m__law_due : List O → FR := fnM 10 [] b__law_due

/- slots of law: 0 script, 1 feed, 2 turn, 3 told, 4 link, 5 first, 6 many, 7 due, 8 held, 9 sends, 10 again, 11 x, 12 given, 13 fits, 14 k, 15 i, 16 f -/
def b_law : M Ctl := (mSeq (mAsg (hNm 1) (mCall m__law_feed (.val (mVar 0) :: [])))
  (mSeq (mPre [0, 2, 3, 4, 5, 6, 7, 8, 9, 10, 11, 12, 13, 14, 15, 16] (mFor (mItR1 (mCons (mC (.int 6)) mNil)) (hNm 2)
  (mKill [2, 3, 4, 5, 6, 7, 8, 9, 10, 11, 12, 13] (mSeq (mAsg (hNm 4) (mTup (mCons (mOp oAdd (mC (.int 1)) (mFz (mCall m__law_draw (.bor 1 :: (.val (mC (.int 4)) :: []))))) (mCons (mOp oAdd (mC (.int 1)) (mFz (mCall m__law_draw (.bor 1 :: (.val (mC (.int 4)) :: []))))) (mCons (mOp oAdd (mC (.int 1)) (mFz (mCall m__law_draw (.bor 1 :: (.val (mC (.int 12)) :: []))))) mNil)))))
  (mSeq (mAsg (hNm 5) (mCall m__law_draw (.bor 1 :: (.val (mC (.int 20)) :: []))))
  (mSeq (mAsg (hNm 6) (mOp oAdd (mVar 5) (mFz (mCall m__law_draw (.bor 1 :: (.val (mC (.int 8)) :: []))))))
  (mSeq (mAsg (hNm 7) (mCall m__law_draw (.bor 1 :: (.val (mC (.int 20)) :: []))))
  (mSeq (mAsg (hNm 8) (mLc (mItR2 (mCons (mC (.int 1)) (mCons (mIxN 4 (mC (.int 1))) mNil))) (hNm 14) (mTB (mOp oEq (mCall m__law_draw (.bor 1 :: (.val (mC (.int 2)) :: []))) (mC (.int 0)))) (mFz (mOp oAdd (mVar 7) (mVar 14))) [14]))
  (mSeq (mAsg (hNm 9) (mLc (mItR2 (mCons (mVar 5) (mCons (mVar 6) mNil))) (hNm 15) (mTB (mOp oLt (mVar 15) (mFz (mOp oAdd (mVar 5) (mIxN 4 (mC (.int 0))))))) (mVar 15) [15]))
  (mSeq (mPre [0, 2, 3, 10, 11, 12, 13, 14, 15, 16] (mFor (mItR1 (mCons (mC (.int 2)) mNil)) (hNm 10)
  (mKill [3, 10] (mSeq (mAsg (hNm 3) (mCall m_sendable (.val (mVar 4) :: (.val (mVar 5) :: (.val (mVar 6) :: [])))))
  (mSeq (mIfS (mNot (mTru (mCallP (m__law_same 5) (.bor 3 :: (.bor 9 :: [])))))
  (mRet (mC (.bl false)))
  mNext)
  (mDrop (mApp 3 (mC (.int 0)))))))))
  (mPre [0, 2, 3, 9, 10, 11, 12, 13, 14, 15, 16] (mFor (mItR1 (mCons (mIxN 4 (mC (.int 2))) mNil)) (hNm 11)
  (mKill [3, 10, 11, 12, 13] (mSeq (mAsg (hNm 12) (mC1 oList (mPk 8)))
  (mSeq (mPre [0, 2, 3, 9, 10, 13, 14, 15, 16] (mFor (mItR1 (mCons (mC (.int 2)) mNil)) (hNm 10)
  (mKill [3, 10] (mSeq (mAsg (hNm 3) (mCall m_data_taken (.val (mVar 4) :: (.val (mVar 7) :: (.val (mVar 12) :: (.val (mVar 11) :: []))))))
  (mSeq (mIfS (mOr (mNot (mTru (mCallP (m__law_same 5) (.bor 3 :: (.val (mFz (mCall m__law_due (.val (mVar 4) :: (.val (mVar 7) :: (.val (mVar 8) :: (.val (mVar 11) :: [])))))) :: []))))) (mTB (mOp oNe (mPk 12) (mPk 8))))
  (mRet (mC (.bl false)))
  mNext)
  (mDrop (mAppP 3 [1] (mC (.int 99)))))))))
  (mSeq (mAsg (hNm 13) (mLc (mItR2 (mCons (mVar 5) (mCons (mFz (mOp oAdd (mCB oMin2 (mCons (mFz (mOp oAdd (mVar 5) (mIxN 4 (mC (.int 0))))) (mCons (mVar 6) mNil))) (mC (.int 1)))) mNil))) (hNm 16) (mTB (mOp oEq (mOp oMod (mOp oSub (mVar 16) (mVar 11)) (mIxN 4 (mC (.int 2)))) (mC (.int 0)))) (mVar 16) [16]))
  (mIfS (mNot (mTru (mCallP (m__law_same 5) (.val (mFz (mCall m_answer_taken (.val (mVar 4) :: (.val (mVar 5) :: (.val (mVar 6) :: (.val (mVar 11) :: [])))))) :: (.val (mOp oIx (mFz (mOp oAdd (mVar 13) (mFz (mLst (mCons (mVar 5) mNil))))) (mC (.int 0))) :: [])))))
  (mRet (mC (.bl false)))
  mNext)))))))))))))))))
  (mSeq (mIfS (mNot (mTru (mCallP (m__law_same 5) (.val (mFz (mCall m_data_taken (.val (mFz (mTup (mCons (mC (.int 1)) (mCons (mC (.int 3)) (mCons (mC (.int 4)) mNil))))) :: (.val (mC (.int 5)) :: (.val (mFz (mLst (mCons (mC (.int 6)) mNil))) :: (.val (mC (.int 1)) :: [])))))) :: (.val (mFz (mTup (mCons (mC (.int 7)) (mCons (mLst mNil) (mCons (mC (.int 5)) mNil))))) :: [])))))
  (mRet (mC (.bl false)))
  mNext)
  (mSeq (mIfS (mNot (mTru (mCallP (m__law_same 5) (.val (mFz (mCall m_data_taken (.val (mFz (mTup (mCons (mC (.int 1)) (mCons (mC (.int 2)) (mCons (mC (.int 4)) mNil))))) :: (.val (mC (.int 5)) :: (.val (mFz (mLst mNil)) :: (.val (mC (.int 3)) :: [])))))) :: (.val (mFz (mTup (mCons (mC (.int 5)) (mCons (mLst mNil) (mCons (mC .non) mNil))))) :: [])))))
  (mRet (mC (.bl false)))
  mNext)
  (mSeq (mAsg (hNm 3) (mLst (mCons (mFz (mCall m_sendable (.val (mFz (mTup (mCons (mC (.int 2)) (mCons (mC (.int 1)) (mCons (mC (.int 3)) mNil))))) :: (.val (mC (.int 4)) :: (.val (mC (.int 9)) :: []))))) (mCons (mFz (mCall m_sendable (.val (mFz (mTup (mCons (mC (.int 2)) (mCons (mC (.int 1)) (mCons (mC (.int 3)) mNil))))) :: (.val (mC (.int 4)) :: (.val (mC (.int 4)) :: []))))) (mCons (mFz (mCall m_answer_taken (.val (mFz (mTup (mCons (mC (.int 2)) (mCons (mC (.int 1)) (mCons (mC (.int 3)) mNil))))) :: (.val (mC (.int 4)) :: (.val (mC (.int 9)) :: (.val (mC (.int 0)) :: [])))))) mNil)))))
  (mRet (mCallP (m__law_same 5) (.bor 3 :: (.val (mFz (mLst (mCons (mFz (mLst (mCons (mC (.int 4)) (mCons (mC (.int 5)) mNil)))) (mCons (mFz (mLst mNil)) (mCons (mC (.int 6)) mNil))))) :: [])))))))))
def m_law : List O → FR := fnM 17 [] b_law
end Ow
set_option Elab.async false
set_option linter.all false
set_option maxRecDepth 100000
namespace Ow
open PySem L2
def Feed (o : O) : Prop := ∃ (cells : List Int) (pos bg mix : Int), o = .lst true [.lst false (cells.map .int), .int pos, .int bg, .int mix] ∧ 0 ≤ pos ∧ pos ≤ cells.length ∧ cells.length ≤ 1000 ∧ 0 ≤ bg ∧ 0 ≤ mix ∧ mix < 2147483647
theorem wp_feed {ns : List Int} {P : O → List O → Prop} {X : Exn → List O → Prop} (h : ns.length ≤ 63) (k : ∀ f, Feed f → P f []) : WpF (m__law_feed [.scr ns]) P X := by
  simp (dsimp := false) [m__law_feed, b__law_feed, getAll, lim]
  exact k _ ⟨ns, 0, 0, 1, rfl, by omega, by omega, by omega, by omega, by omega, by omega⟩
theorem wp_draw {f : O} {many : Int} {P : O → List O → Prop} {X : Exn → List O → Prop} (hf : Feed f) (h1 : 0 < many) (h2 : many < 1000000) (k : ∀ t f', 0 ≤ t → t < many → Feed f' → P (.int t) [f']) : WpF (m__law_draw [f, .int many]) P X := by
  obtain ⟨cells, pos, bg, mix, rfl, p1, p2, p3, b1, m1, m2⟩ := hf
  unfold m__law_draw b__law_draw
  rw [wpf_fnM, wp_seq]
  simp only [List.map_cons, List.map_nil, List.length_cons, List.length_nil, List.cons_append, List.nil_append]
  refine Wp.mono (Q := fun e c => c = .nx ∧ ∃ f' c3, Feed f' ∧ e = [some f', some (.int many), none, c3, none]) ?_ ?_
  · simp (dsimp := false)
    refine Br.dec (fun hb => ?_) (fun hb => ?_)
    · simp (dsimp := false)
      refine Br.dec (fun hp => ?_) (fun hp => ?_)
      · simp (dsimp := false) [op_ixI p1 hp]
        generalize (cells[pos.toNat]?).getD 0 = z
        refine Br.dec (fun hz => ?_) (fun hz => ?_)
        · simp (dsimp := false)
          exact ⟨cells, pos + 1, _, mix, rfl, by omega, by omega, p3, by split <;> omega, m1, m2⟩
        · simp (dsimp := false)
          refine ⟨by right; exact small_of (by omega) (by omega), by right; exact small_of (by omega) (by omega), cells, pos + 1, bg, _, rfl, by omega, by omega, p3, b1, by omega, by omega⟩
      · simp (dsimp := false)
        exact ⟨cells, pos, bg, mix, rfl, p1, p2, p3, b1, m1, m2⟩
    · simp (dsimp := false)
      exact ⟨cells, pos, bg, mix, rfl, p1, p2, p3, b1, m1, m2⟩
  · rintro e c ⟨rfl, f', c3, ⟨cells, pos, bg, mix, rfl, p1, p2, p3, b1, m1, m2⟩, rfl⟩
    simp (dsimp := false)
    refine Br.dec (fun hb => ?_) (fun hb => ?_)
    · simp (dsimp := false) [getAll]
      exact ⟨h1, ⟨h1, by omega⟩, k _ _ (Int.emod_nonneg _ (by omega)) (Int.emod_lt_of_pos _ h1) ⟨cells, pos, _, mix, rfl, p1, p2, p3, Int.ediv_nonneg b1 (by omega), m1, m2⟩⟩
    · simp (dsimp := false) [getAll]
      exact ⟨.inl (small_of (by omega) (by omega)), small_of (by omega) (by omega), h1, k _ _ (Int.emod_nonneg _ (by omega)) (Int.emod_lt_of_pos _ h1) ⟨cells, pos, bg, _, rfl, p1, p2, p3, b1, by omega, by omega⟩⟩
end Ow
set_option Elab.async false
set_option linter.all false
set_option maxRecDepth 100000
namespace Ow
open PySem L2
mutual
def plain : Nat → O → Bool
  | 0, _ => false
  | n + 1, .tup xs => decide (xs.length ≤ 1000000) && plains n xs
  | n + 1, .lst w xs => decide (xs.length ≤ 1000000) && (!w && plains n xs)
  | _ + 1, .scr _ => false
  | _ + 1, _ => true
def plains : Nat → List O → Bool
  | _, [] => true
  | n, x :: xs => plain n x && plains n xs
end
theorem plains_all {n : Nat} {xs : List O} : plains n xs = xs.all (plain n) := by
  induction xs with
  | nil => rw [plains]; rfl
  | cons x r ih => rw [plains, ih]; rfl
theorem plains_ints {n : Nat} {ns : List Int} : plains (n + 1) (ns.map .int) = true := by
  rw [plains_all, List.all_map, List.all_eq_true]
  intro x _; with_unfolding_all rfl
theorem plain_ints {n : Nat} {ns : List Int} (h : ns.length ≤ 1000000) : plain (n + 2) (.lst false (ns.map .int)) = true := by
  unfold plain; rw [plains_ints]; simp [h]
theorem bools_true {α : Type} {xs : List α} : boolsOf (xs.map fun _ => O.bl true) = some (xs.map fun _ => true) := by
  induction xs with
  | nil => rfl
  | cons x r ih => simp [boolsOf, ih]
theorem same_self : ∀ (n : Nat) (o : O), plain n o = true → o.fixed = true → m__law_same n [o, o] = .ret (.bl true) []
  | 0, o, h, f => by unfold plain at h; cases h
  | n + 1, o, h, f => by
    apply WpF.eq
    show WpF (fnM 3 [] (b__law_same (m__law_same n)) [o, o]) _ _
    unfold b__law_same
    cases o with
    | int i => simp (dsimp := false) [oIsI, isI, getAll, truO]
    | bl i => simp (dsimp := false) [oIsI, isI, getAll, truO]
    | non => simp (dsimp := false) [oIsI, isI, getAll, truO]
    | str i => simp (dsimp := false) [oIsI, isI, getAll, truO]
    | scr i => unfold plain at h; cases h
    | tup xs =>
      unfold plain at h
      rw [Bool.and_eq_true, decide_eq_true_eq] at h
      obtain ⟨hl, hp⟩ := h
      rw [plains_all, List.all_eq_true] at hp
      rw [fx_tup, fixeds_all, List.all_eq_true] at f
      simp (dsimp := false) [oIsI, isI, getAll, truO]
      refine ⟨big_of (by omega) (by omega), wp_lcF (fun _ => true) (fun _ => .bl true) (by omega) (fun k h1 h2 => ?_) ?_⟩
      · obtain ⟨j, rfl⟩ := Int.eq_ofNat_of_zero_le h1
        have hj : j < xs.length := by omega
        have hm := List.getElem_mem hj
        simp (dsimp := false) [op_ixNT, List.getElem?_eq_getElem hj, f _ hm, delE, same_self n xs[j] (hp _ hm) (f _ hm), bors, setAll]
      · simp (dsimp := false) [oAll, bools_true, getAll]
    | lst w xs =>
      unfold plain at h
      rw [Bool.and_eq_true, decide_eq_true_eq, Bool.and_eq_true] at h
      obtain ⟨hl, hw, hp⟩ := h
      rw [plains_all, List.all_eq_true] at hp
      rw [fx_lst, Bool.and_eq_true, fixeds_all, List.all_eq_true] at f
      obtain ⟨_, f⟩ := f
      simp (dsimp := false) [oIsI, isI, getAll, truO]
      refine ⟨big_of (by omega) (by omega), wp_lcF (fun _ => true) (fun _ => .bl true) (by omega) (fun k h1 h2 => ?_) ?_⟩
      · obtain ⟨j, rfl⟩ := Int.eq_ofNat_of_zero_le h1
        have hj : j < xs.length := by omega
        have hm := List.getElem_mem hj
        simp (dsimp := false) [op_ixN, List.getElem?_eq_getElem hj, f _ hm, delE, same_self n xs[j] (hp _ hm) (f _ hm), bors, setAll]
      · simp (dsimp := false) [oAll, bools_true, getAll]
end Ow
set_option Elab.async false
set_option linter.all false
set_option maxRecDepth 100000
namespace Ow
open PySem L2
theorem sendable_ok {near far turn first many : Int} (h1 : 0 ≤ near) (h2 : near ≤ 100) (h3 : 0 ≤ first) (h4 : first ≤ 100) (h5 : first ≤ many) (h6 : many ≤ 200) :
    m_sendable [.tup [.int near, .int far, .int turn], .int first, .int many] = .ret (.lst true ((rng first (if many < first + near then many else first + near)).map .int)) [] := by
  apply WpF.eq
  simp (dsimp := false) [m_sendable, b_sendable, getAll]
  exact ⟨big_of (by omega) (by omega), big_of (by split <;> omega) (by split <;> omega), by split <;> omega⟩
def adv : Int → List Int → Int × List Int
  | d, [] => (d, [])
  | d, x :: r => if x = d then adv (d + 1) r else (d, x :: r)
def SS (d : Int) (l : List Int) : Prop := l.Pairwise (· < ·) ∧ ∀ x ∈ l, d ≤ x
theorem SS.mem {d x : Int} {r : List Int} (h : SS d (x :: r)) : d ∈ x :: r ↔ x = d := by
  constructor
  · intro m
    rcases List.mem_cons.mp m with e | e
    · exact e.symm
    · have h1 := (List.pairwise_cons.mp h.1).1 d e
      have h2 := h.2 x List.mem_cons_self
      omega
  · rintro rfl; exact List.mem_cons_self
theorem SS.tail {d : Int} {r : List Int} (h : SS d (d :: r)) : SS (d + 1) r := by
  refine ⟨(List.pairwise_cons.mp h.1).2, fun y hy => ?_⟩
  have := (List.pairwise_cons.mp h.1).1 y hy
  omega
theorem handed_ok {d : Int} {l : List Int} {w : Bool} (h : SS d l) (hl : l.length ≤ 1000) :
    m_handed_on [.int d, .lst w (l.map .int)] = .ret (.tup [.int (adv d l).1, .lst true ((adv d l).2.map .int)]) [] := by
  apply WpF.eq
  simp (dsimp := false) [m_handed_on, b_handed_on, delE]
  refine wp_loopW (I := fun n e => ∃ d' l', e = [some (.int d'), none, some (.lst true (l'.map .int))] ∧ SS d' l' ∧ l'.length = n ∧ adv d' l' = adv d l) ?_ l.length _ _ (by omega) ⟨d, l, rfl, h, rfl, rfl⟩
  rintro n e ⟨d', l', rfl, hs, hn, ha⟩
  simp (dsimp := false)
  refine Br.dec (fun hm => ?_) (fun hm => ?_)
  · cases l' with
    | nil => cases hm
    | cons x r =>
      obtain rfl := hs.mem.mp hm
      simp (dsimp := false) [-List.map_cons]
      refine ⟨n - 1, by simp at hn; omega, _, r, ⟨rfl, rfl⟩, hs.tail, by simp at hn ⊢; omega, ?_⟩
      rw [← ha, adv, if_pos rfl]
  · have e : adv d' l' = (d', l') := by
      cases l' with
      | nil => rfl
      | cons x r => rw [adv, if_neg fun z => hm (hs.mem.mpr z)]
    rw [← ha, e]
    simp (dsimp := false) [getAll, lim]
def optO : Option Int → O
  | none => .non
  | some i => .int i
theorem number_ok {near far turn due x : Int} (h1 : 0 ≤ far) (h2 : far ≤ 100) (h3 : 0 ≤ due) (h4 : due ≤ 100) (h5 : 0 < turn) :
    m_number_taken [.tup [.int near, .int far, .int turn], .int due, .int x] = .ret (optO ((rng due (due + far)).find? fun j => decide (j % turn = x))) [] := by
  apply WpF.eq
  simp (dsimp := false) [m_number_taken, b_number_taken, delE]
  refine ⟨⟨big_of (by omega) (by omega), big_of (by omega) (by omega)⟩, ?_⟩
  refine wp_loopI (I := fun k e => e = [some (.tup [.int near, .int far, .int turn]), some (.int due), some (.int x), none] ∧ (∀ j ∈ rng due k, ¬ j % turn = x) ∧ due ≤ k) ?_ ?_ ?_
  · simp [rng_nil (Int.le_refl due)]
  · rintro k e hk1 hk2 ⟨rfl, hf, hk⟩
    simp (dsimp := false)
    refine ⟨h5, ?_⟩
    refine Br.dec (fun hm => ?_) (fun hm => ?_)
    · have hf2 : (rng due k).find? (fun j => decide (j % turn = x)) = none := by simpa using hf
      rw [rng_split hk1 hk2, List.find?_append, hf2]
      simp (dsimp := false) [getAll, hm, optO]
    · simp (dsimp := false) [delE]
      refine ⟨fun j hj => ?_, by omega⟩
      rw [rng_snoc hk] at hj
      rcases List.mem_append.mp hj with hj | hj
      · exact hf j hj
      · obtain rfl := List.mem_singleton.mp hj; exact hm
  · rintro e ⟨rfl, hf, hk⟩
    rw [if_pos (by omega)] at hf
    have hf2 : (rng due (due + far)).find? (fun j => decide (j % turn = x)) = none := by simpa using hf
    rw [hf2]
    simp (dsimp := false) [getAll, optO]
end Ow
set_option Elab.async false
set_option linter.all false
set_option maxRecDepth 100000
namespace Ow
open PySem L2
theorem SS.of {d : Int} {l : List Int} (hn : l.Nodup) (h : ∀ x ∈ l, d ≤ x) : SS d (isort l) := by
  refine ⟨?_, fun x hx => h x ((isort_perm l).mem_iff.mp hx)⟩
  have h1 := isort_sorted l
  have h2 : (isort l).Nodup := (isort_perm l).nodup_iff.mpr hn
  exact (h1.and h2).imp fun ⟨a, b⟩ => by omega
def dtO (due : Int) (held : List Int) : Option Int → O
  | none => .tup [.int due, .lst true (held.map .int), .non]
  | some j => if j ∈ held then .tup [.int due, .lst true (held.map .int), .non] else .tup [.int (adv due (isort (held ++ [j]))).1, .lst true ((adv due (isort (held ++ [j]))).2.map .int), .int j]
/-- what is held -/
structure Held (due far : Int) (held : List Int) : Prop where
  nd : held.Nodup
  ge : ∀ x ∈ held, due ≤ x
  len : held.length ≤ 100
theorem Held.ss {due far : Int} {held : List Int} (h : Held due far held) {j : Int} (hj : j ∉ held) (hd : due ≤ j) : SS due (isort (held ++ [j])) := by
  refine SS.of ?_ fun x hx => ?_
  · rw [List.nodup_append]
    refine ⟨h.nd, by simp, fun a ha b hb => ?_⟩
    obtain rfl := List.mem_singleton.mp hb
    rintro rfl; exact hj ha
  · rcases List.mem_append.mp hx with hx | hx
    · exact h.ge x hx
    · obtain rfl := List.mem_singleton.mp hx; exact hd
theorem isort_len {l : List Int} : (isort l).length = l.length := (isort_perm l).length_eq
theorem data_ok {near far turn due x : Int} {held : List Int} {w : Bool} (h1 : 0 ≤ far) (h2 : far ≤ 100) (h3 : 0 ≤ due) (h4 : due ≤ 100) (h5 : 0 < turn) (hh : Held due far held) :
    m_data_taken [.tup [.int near, .int far, .int turn], .int due, .lst w (held.map .int), .int x] = .ret (dtO due held ((rng due (due + far)).find? fun j => decide (j % turn = x))) [] := by
  apply WpF.eq
  cases hf : (rng due (due + far)).find? fun j => decide (j % turn = x) with
  | none =>
    simp (dsimp := false) [m_data_taken, b_data_taken, number_ok h1 h2 h3 h4 h5, hf, optO, bors, setAll, dtO, getAll, lim]
  | some j =>
    have hj : due ≤ j := (mem_rng.mp (List.mem_of_find?_eq_some hf)).1
    simp (dsimp := false) [m_data_taken, b_data_taken, number_ok h1 h2 h3 h4 h5, hf, optO, bors, setAll, dtO, getAll, lim]
    refine Br.dec (fun hm => ?_) (fun hm => ?_)
    · simp (dsimp := false) [hm, getAll, lim, dtO]
    · have e := handed_ok (w := false) (hh.ss hm hj) (by rw [isort_len]; have := hh.len; simp; omega)
      have := hh.len
      simp (dsimp := false) [hm, getAll, lim, e, bors, setAll, dtO]
      omega
theorem find_ok {a b x turn : Int} (h0 : 0 ≤ x) (h1 : x < turn) : (rng a b).find? (fun j => decide (j % turn = x)) = ((rng a b).filter (fun j => decide ((j - x) % turn = 0))).head? := by
  rw [List.head?_filter]
  congr 1
  funext j
  have := @Int.emod_eq_emod_iff_emod_sub_eq_zero j turn x
  rw [Int.emod_eq_of_lt h0 h1] at this
  exact decide_eq_decide.mpr this
theorem due_ok {near far turn due x : Int} {held : List Int} {w : Bool} (h1 : 0 ≤ far) (h2 : far ≤ 100) (h3 : 0 ≤ due) (h4 : due ≤ 100) (h5 : 0 < turn) (h6 : 0 ≤ x) (h7 : x < turn) (hh : Held due far held) :
    m__law_due [.tup [.int near, .int far, .int turn], .int due, .lst w (held.map .int), .int x] = .ret (dtO due held ((rng due (due + far)).find? fun j => decide (j % turn = x))) [] := by
  apply WpF.eq
  rw [find_ok h6 h7]
  simp (dsimp := false) [m__law_due, b__law_due, delE]
  refine ⟨⟨big_of (by omega) (by omega), big_of (by omega) (by omega)⟩, wp_lcF (fun j => decide ((j - x) % turn = 0)) (fun j => .int j) (by omega) (fun k hk1 hk2 => ?_) ?_⟩
  · simp (dsimp := false) [delE]
    refine ⟨h5, ?_⟩
    by_cases hc : (k - x) % turn = 0 <;> simp (dsimp := false) [hc]
  · have hlen : ((rng due (due + far)).filter (fun j => decide ((j - x) % turn = 0))).length ≤ 100 := by
      refine Nat.le_trans (List.length_filter_le _ _) ?_
      rw [rng_len]; omega
    have hge : ∀ j ∈ (rng due (due + far)).filter (fun j => decide ((j - x) % turn = 0)), due ≤ j := fun j hj => (mem_rng.mp (List.mem_filter.mp hj).1).1
    generalize (rng due (due + far)).filter (fun j => decide ((j - x) % turn = 0)) = fits at hlen hge
    have hl := hh.len
    cases fits with
    | nil => simp (dsimp := false) [dtO, getAll, lim]
    | cons j r =>
      have hj := hge j List.mem_cons_self
      simp (dsimp := false) [dtO, getAll, lim]
      have e0 : ¬ ((r.length : Int) + 1 = 0) := by omega
      simp (dsimp := false) [e0]
      refine Br.dec (fun hm => ?_) (fun hmj => ?_)
      · simp (dsimp := false) [dtO, getAll, lim, hm]
      · have hs := hh.ss hmj hj
        simp (dsimp := false) [dtO, getAll, lim, hmj, delE]
        refine ⟨by omega, ?_⟩
        generalize hL : isort (held ++ [j]) = L at hs
        have hlL : L.length ≤ 101 := by rw [← hL, isort_len]; simp; omega
        refine wp_loopW (I := fun n e => ∃ d' l', e = [none, some (.int d'), none, none, some (.lst false (.int j :: r.map .int)), some (.lst true (l'.map .int)), none, none, none, none] ∧ SS d' l' ∧ l'.length = n ∧ adv d' l' = adv due L) ?_ L.length _ _ (by omega) ⟨due, L, rfl, hs, rfl, rfl⟩
        rintro n e ⟨d', l', rfl, hs, hn, ha⟩
        simp (dsimp := false)
        refine Br.dec (fun hm => ?_) (fun hm => ?_)
        · cases l' with
          | nil => cases hm
          | cons y r' =>
            obtain rfl := hs.mem.mp hm
            simp (dsimp := false)
            refine ⟨n - 1, by simp at hn; omega, _, r', ⟨rfl, rfl⟩, hs.tail, by simp at hn ⊢; omega, ?_⟩
            rw [← ha, adv, if_pos rfl]
        · have e : adv d' l' = (d', l') := by
            cases l' with
            | nil => rfl
            | cons x r => rw [adv, if_neg fun z => hm (hs.mem.mpr z)]
          have e2 : adv due L = (d', l') := by rw [← ha, e]
          simp (dsimp := false) [getAll, lim, dtO, hmj, hL, e2]
theorem answer_ok {near far turn first many y : Int} (h1 : 0 ≤ near) (h2 : near ≤ 100) (h3 : 0 ≤ first) (h4 : first ≤ 100) (h5 : 0 < turn) (h6 : many ≤ 200) (h7 : 0 ≤ many) :
    m_answer_taken [.tup [.int near, .int far, .int turn], .int first, .int many, .int y] = .ret (.int (((rng first ((if many < first + near then many else first + near) + 1)).find? fun j => decide (j % turn = y)).getD first)) [] := by
  apply WpF.eq
  simp (dsimp := false) [m_answer_taken, b_answer_taken, delE]
  generalize hb : (if many < first + near then many else first + near) + 1 = b
  have hb2 : b ≤ 1000 ∧ 0 ≤ b := by split at hb <;> omega
  refine ⟨⟨big_of (by omega) (by omega), big_of (by omega) (by omega)⟩, ?_⟩
  refine wp_loopI (I := fun k e => e = [some (.tup [.int near, .int far, .int turn]), some (.int first), some (.int many), some (.int y), none] ∧ (∀ j ∈ rng first k, ¬ j % turn = y) ∧ first ≤ k) ?_ ?_ ?_
  · simp [rng_nil (Int.le_refl first)]
  · rintro k e hk1 hk2 ⟨rfl, hf, hk⟩
    simp (dsimp := false)
    refine ⟨h5, ?_⟩
    refine Br.dec (fun hm => ?_) (fun hm => ?_)
    · have hf2 : (rng first k).find? (fun j => decide (j % turn = y)) = none := by simpa using hf
      rw [rng_split hk1 hk2, List.find?_append, hf2]
      simp (dsimp := false) [getAll, hm]
    · simp (dsimp := false) [delE]
      refine ⟨fun j hj => ?_, by omega⟩
      rw [rng_snoc hk] at hj
      rcases List.mem_append.mp hj with hj | hj
      · exact hf j hj
      · obtain rfl := List.mem_singleton.mp hj; exact hm
  · rintro e ⟨rfl, hf, hk⟩
    have hf2 : (rng first b).find? (fun j => decide (j % turn = y)) = none := by
      by_cases hfb : first ≤ b
      · rw [if_pos hfb] at hf; simpa using hf
      · rw [rng_nil (by omega)]; rfl
    rw [hf2]
    simp (dsimp := false) [getAll]
end Ow
set_option Elab.async false
set_option linter.all false
set_option maxRecDepth 100000
set_option maxHeartbeats 4000000
namespace Ow
open PySem L2
theorem adv_len : ∀ (l : List Int) (d : Int), (adv d l).2.length ≤ l.length
  | [], d => by simp [adv]
  | x :: r, d => by
    unfold adv
    split
    · exact Nat.le_succ_of_le (adv_len r (d + 1))
    · simp
@[simp] theorem optO_fz {o : Option Int} : (optO o).fz = optO o := by cases o <;> with_unfolding_all rfl
@[simp] theorem optO_fx {o : Option Int} : (optO o).fixed = true := by cases o <;> with_unfolding_all rfl
theorem dt_form {due far : Int} {held : List Int} (hh : Held due far held) (o : Option Int) : ∃ (a : Int) (l : List Int) (z : Option Int), dtO due held o = .tup [.int a, .lst true (l.map .int), optO z] ∧ l.length ≤ 200 := by
  have := hh.len
  cases o with
  | none => exact ⟨due, held, none, rfl, by omega⟩
  | some j =>
    by_cases hm : j ∈ held
    · exact ⟨due, held, none, by simp [dtO, hm, optO], by omega⟩
    · refine ⟨_, _, some j, by simp [dtO, hm, optO]; exact ⟨rfl, rfl⟩, ?_⟩
      refine Nat.le_trans (adv_len _ _) ?_
      rw [isort_len]; simp; omega
theorem plain_dt {a : Int} {l : List Int} {z : Option Int} (hl : l.length ≤ 200) : plain 5 (.tup [.int a, .lst false (l.map .int), optO z]) = true := by
  have h1 : plain 4 (.lst false (l.map .int)) = true := plain_ints (n := 2) (by omega)
  have h2 : plain 4 (.int a) = true := by simp [plain]
  have h3 : plain 4 (optO z) = true := by cases z <;> simp [plain, optO]
  unfold plain
  simp [plains, h1, h2, h3]
theorem plain_int {n : Nat} {i : Int} : plain (n + 1) (.int i) = true := by simp [plain]
theorem law_true (ns : List Int) (h : ns.length ≤ 63) : m_law [.scr ns] = .ret (.bl true) [] := by
  apply WpF.eq
  unfold m_law b_law
  simp (dsimp := false)
  refine wp_feed h fun f hf => ?_
  simp (dsimp := false)
  refine ⟨big_of (by omega) (by omega), ?_⟩
  refine wp_loopI (I := fun k e => ∃ f, Feed f ∧ e = [none, some f, none, none, none, none, none, none, none, none, none, none, none, none, none, none, none]) ⟨f, hf, rfl⟩ ?_ ?_
  · rintro k e _ _ ⟨f, hf, rfl⟩
    simp (dsimp := false)
    refine wp_draw hf (by omega) (by omega) fun near f hn1 hn2 hf => ?_
    simp (dsimp := false)
    refine wp_draw hf (by omega) (by omega) fun far f hf1 hf2 hf => ?_
    simp (dsimp := false)
    refine wp_draw hf (by omega) (by omega) fun turn f ht1 ht2 hf => ?_
    simp (dsimp := false)
    refine wp_draw hf (by omega) (by omega) fun first f hi1 hi2 hf => ?_
    simp (dsimp := false)
    refine wp_draw hf (by omega) (by omega) fun more f hm1 hm2 hf => ?_
    simp (dsimp := false)
    refine wp_draw hf (by omega) (by omega) fun due f hd1 hd2 hf => ?_
    simp (dsimp := false)
    refine ⟨⟨big_of (by omega) (by omega), big_of (by omega) (by omega)⟩, ?_⟩
    generalize hnear : 1 + near = near'
    generalize hfar : 1 + far = far'
    generalize hturn : 1 + turn = turn'
    generalize hmany : first + more = many
    refine wp_lcI (I := fun k' acc e => ∃ f hs, Feed f ∧ acc = hs.map O.int ∧ e = [none, some f, some (.int k), none, some (.tup [.int near', .int far', .int turn']), some (.int first), some (.int many), some (.int due), none, none, none, none, none, none, none, none, none] ∧ hs.Nodup ∧ (∀ x ∈ hs, due ≤ x ∧ x < due + k') ∧ (hs.length : Int) ≤ k') ⟨f, [], hf, rfl, rfl, List.nodup_nil, by simp, by simp⟩ ?_ ?_
    · rintro j acc e h1 h2 ⟨f, hs, hf, rfl, rfl, a1, a2, a3⟩
      simp (dsimp := false)
      refine wp_draw hf (by omega) (by omega) fun t f hi1 hi2 hf => ?_
      simp (dsimp := false)
      refine Br.dec (fun hm => ?_) (fun hm => ?_)
      · simp (dsimp := false)
        refine ⟨by omega, f, hf, hs ++ [due + j], by simp, rfl, ?_, ?_, ?_⟩
        · rw [List.nodup_append]
          refine ⟨a1, by simp, fun a ha b hb => ?_⟩
          obtain rfl := List.mem_singleton.mp hb
          have := a2 a ha
          omega
        · intro x hx
          rcases List.mem_append.mp hx with hx | hx
          · have := a2 x hx; omega
          · obtain rfl := List.mem_singleton.mp hx; omega
        · simp; omega
      · simp (dsimp := false)
        exact ⟨f, hf, hs, rfl, rfl, a1, fun x hx => by have := a2 x hx; omega, by omega⟩
    · rintro acc e ⟨f, held, hf, rfl, rfl, a1, a2, a3⟩
      have hh : Held due far' held := ⟨a1, fun x hx => (a2 x hx).1, by split at a3 <;> omega⟩
      clear a1 a2 a3
      simp (dsimp := false)
      refine ⟨⟨big_of (by omega) (by omega), big_of (by omega) (by omega)⟩, ?_⟩
      refine wp_lcF (fun i => decide (i < first + near')) (fun i => .int i) (by omega) (fun i _ _ => ?_) ?_
      · by_cases hc : i < first + near' <;> simp (dsimp := false) [hc]
      · rw [rng_lt (by omega)]
        generalize hsends : rng first (if many < first + near' then many else first + near') = sends
        have hsl : sends.length ≤ 100 := by rw [← hsends, rng_len]; split <;> omega
        simp (dsimp := false)
        refine ⟨big_of (by omega) (by omega), ?_⟩
        have es : m_sendable [.tup [.int near', .int far', .int turn'], .int first, .int many] = .ret (.lst true (sends.map .int)) [] := by
          rw [sendable_ok (by omega) (by omega) (by omega) (by omega) (by omega) (by omega), hsends]
        refine wp_loopI (I := fun k' e => ∃ w, e = [none, some f, none, none, some (.tup [.int near', .int far', .int turn']), some (.int first), some (.int many), some (.int due), some (.lst true (held.map .int)), some (.lst w (sends.map .int)), none, none, none, none, none, none, none]) ⟨_, rfl⟩ ?_ ?_
        · rintro k' e _ _ ⟨w, rfl⟩
          simp (dsimp := false) [es]
          rw [same_self 5 _ (plain_ints (by omega)) (by simp)]
          simp (dsimp := false) [truO, O.flat]
          omega
        · rintro e ⟨w, rfl⟩
          simp (dsimp := false)
          refine ⟨big_of (by omega) (by omega), ?_⟩
          refine wp_loopI (I := fun k' e => ∃ w, e = [none, some f, none, none, some (.tup [.int near', .int far', .int turn']), some (.int first), some (.int many), some (.int due), some (.lst w (held.map .int)), none, none, none, none, none, none, none, none]) ⟨_, rfl⟩ ?_ ?_
          · rintro x e hx1 hx2 ⟨w, rfl⟩
            simp (dsimp := false)
            refine ⟨big_of (by omega) (by omega), ?_⟩
            obtain ⟨a, l, z, hdt, hl⟩ := dt_form hh ((rng due (due + far')).find? fun j => decide (j % turn' = x))
            have ed := fun w => data_ok (near := near') (w := w) (turn := turn') (x := x) (far := far') (by omega) (by omega) hd1 (by omega) (by omega) hh
            have eu := fun w => due_ok (near := near') (w := w) (turn := turn') (x := x) (far := far') (by omega) (by omega) hd1 (by omega) (by omega) hx1 hx2 hh
            simp only [hdt] at ed eu
            refine wp_loopI (I := fun k' e => ∃ w w2, e = [none, some f, none, none, some (.tup [.int near', .int far', .int turn']), some (.int first), some (.int many), some (.int due), some (.lst w (held.map .int)), none, none, some (.int x), some (.lst w2 (held.map .int)), none, none, none, none]) ⟨_, _, rfl⟩ ?_ ?_
            · rintro k' e _ _ ⟨w, w2, rfl⟩
              have esm := same_self 5 (.tup [.int a, .lst false (l.map .int), optO z]) (plain_dt hl) (by simp)
              simp (dsimp := false) [ed, eu, esm, truO, O.flat, op_neL, O.at, O.put]
              omega
            · rintro e ⟨w, w2, rfl⟩
              simp (dsimp := false)
              have ea := answer_ok (near := near') (far := far') (turn := turn') (first := first) (many := many) (y := x) (by omega) (by omega) hi1 (by omega) (by omega) (by omega) (by omega)
              rw [find_ok hx1 hx2] at ea
              generalize hb : (if many < first + near' then many else first + near') + 1 = b at ea
              have hb2 : b ≤ 1000 ∧ 0 ≤ b := by split at hb <;> omega
              refine ⟨⟨big_of (by omega) (by omega), big_of (by omega) (by omega)⟩, ?_⟩
              refine wp_lcF (fun j => decide ((j - x) % turn' = 0)) (fun j => .int j) (by omega) (fun i _ _ => ?_) ?_
              · simp (dsimp := false)
                refine ⟨by omega, ?_⟩
                by_cases hc : (i - x) % turn' = 0 <;> simp (dsimp := false) [hc]
              · have hfl : ((rng first b).filter (fun j => decide ((j - x) % turn' = 0))).length ≤ 1000 := by
                  refine Nat.le_trans (List.length_filter_le _ _) ?_
                  rw [rng_len]; omega
                generalize (rng first b).filter (fun j => decide ((j - x) % turn' = 0)) = fits at ea hfl
                cases fits with
                | nil =>
                  have esm := same_self 5 (.int first) plain_int (by simp)
                  simp (dsimp := false) [ea, esm, truO, O.flat]
                | cons j r =>
                  have esm := same_self 5 (.int j) plain_int (by simp)
                  simp (dsimp := false) [ea, esm, truO, O.flat]
                  simp at hfl
                  omega
          · rintro e ⟨w, rfl⟩
            simp (dsimp := false)
            exact hf
  · rintro e ⟨f, hf, rfl⟩
    have e1 : m_data_taken [.tup [.int 1, .int 3, .int 4], .int 5, .lst false [.int 6], .int 1] = .ret (.tup [.int 7, .lst true [], .int 5]) [] := by rfl
    have e2 : m_data_taken [.tup [.int 1, .int 2, .int 4], .int 5, .lst false [], .int 3] = .ret (.tup [.int 5, .lst true [], .non]) [] := by rfl
    have e3 : m_sendable [.tup [.int 2, .int 1, .int 3], .int 4, .int 9] = .ret (.lst true [.int 4, .int 5]) [] := by rfl
    have e4 : m_sendable [.tup [.int 2, .int 1, .int 3], .int 4, .int 4] = .ret (.lst true []) [] := by rfl
    have e5 : m_answer_taken [.tup [.int 2, .int 1, .int 3], .int 4, .int 9, .int 0] = .ret (.int 6) [] := by rfl
    have s1 := same_self 5 (.tup [.int 7, .lst false [], .int 5]) (by rfl) (by rfl)
    have s2 := same_self 5 (.tup [.int 5, .lst false [], .non]) (by rfl) (by rfl)
    have s3 := same_self 5 (.lst false [.lst false [.int 4, .int 5], .lst false [], .int 6]) (by rfl) (by rfl)
    simp (dsimp := false) [e1, e2, e3, e4, e5, s1, s2, s3, truO, O.flat]
    trace_state
end Ow
set_option Elab.async false
set_option linter.all false
set_option maxRecDepth 100000
set_option maxHeartbeats 8000000
namespace Ow
open PySem L2
def topS (i : Nat) : Stmt := PySem.Challenge.pw_sendsure_k64_whole_windows_of_links.main.body.getD i (.Pass ⟨0, 0, 0, 0⟩)
section
variable {P : Program} {w : World} {K : PySem.W.Frag} {mg : Str → Option Value} {base : Heap} {cm : Str → Addr}
abbrev s_sendable : Stmt := topS 1
theorem sc_sendable : FnScope ["link", "first", "many"] ["link", "first", "many"] (defScope s_sendable) := ⟨rfl, rfl, rfl, by decide +kernel, rfl, by decide +kernel, by decide +kernel⟩
theorem c_sendable {f : Addr} {fd : FuncData} (F : Fun K "sendable" "sendable" s_sendable f fd) (hm : mg "sendable" = some (.ref f)) (bt : Bt mg) : Cal P w K mg base cm 1 "sendable" 3 [] m_sendable := by
  refine ⟨f, fd, _, fn_ok F sc_sendable (by decide) (by decide) fun cdv A outer s H E hr => ?_, hm, F.kp, (F.binds (ps := ["link", "first", "many"]) fun _ _ _ _ _ _ us hl => match us, hl with | [_, _, _], _ => rfl)⟩
  have tk := takes_of (X := cxOf (L2.CX P w) P w K mg base ["link", "first", "many"] "sendable" (defScope s_sendable) f cdv A outer s H E) (E := E) rfl rfl rfl rfl
  have po := passes_of (X := cxOf (L2.CX P w) P w K mg base ["link", "first", "many"] "sendable" (defScope s_sendable) f cdv A outer s H E) rfl
  have nd := sc_sendable.nd
  have x : ∃ t, XSs (cxOf (L2.CX P w) P w K mg base ["link", "first", "many"] "sendable" (defScope s_sendable) f cdv A outer s H E) cm (fun cl d _ H' => E cl d H') [] (defBody s_sendable) t b_sendable := ⟨_, (xss_one (xs_ret (xo_rgL2 bt rfl (xf_var 1) (xf_min2 bt rfl (xf_o (xo_add (xf_var 1) (xf_ixN 0 (xp_f xf_int)))) (xf_var 2)))))⟩
  obtain ⟨t, x⟩ := x
  exact ⟨t, x.ps, x.ev⟩
abbrev s_number_taken : Stmt := topS 2
theorem sc_number_taken : FnScope ["link", "due", "x", "j"] ["link", "due", "x"] (defScope s_number_taken) := ⟨rfl, rfl, rfl, by decide +kernel, rfl, by decide +kernel, by decide +kernel⟩
theorem c_number_taken {f : Addr} {fd : FuncData} (F : Fun K "number_taken" "number_taken" s_number_taken f fd) (hm : mg "number_taken" = some (.ref f)) (bt : Bt mg) : Cal P w K mg base cm 1 "number_taken" 3 [] m_number_taken := by
  refine ⟨f, fd, _, fn_ok F sc_number_taken (by decide) (by decide) fun cdv A outer s H E hr => ?_, hm, F.kp, (F.binds (ps := ["link", "due", "x"]) fun _ _ _ _ _ _ us hl => match us, hl with | [_, _, _], _ => rfl)⟩
  have tk := takes_of (X := cxOf (L2.CX P w) P w K mg base ["link", "due", "x", "j"] "number_taken" (defScope s_number_taken) f cdv A outer s H E) (E := E) rfl rfl rfl rfl
  have po := passes_of (X := cxOf (L2.CX P w) P w K mg base ["link", "due", "x", "j"] "number_taken" (defScope s_number_taken) f cdv A outer s H E) rfl
  have nd := sc_number_taken.nd
  have x : ∃ t, XSs (cxOf (L2.CX P w) P w K mg base ["link", "due", "x", "j"] "number_taken" (defScope s_number_taken) f cdv A outer s H E) cm (fun cl d _ H' => E cl d H') [] (defBody s_number_taken) t b_number_taken := ⟨_, (xss_cons (xs_pre [3] (xs_for po rfl (xi_rng2 bt (xaf_cons (xf_var 1) (xaf_cons (xf_o (xo_add (xf_var 1) (xf_ixN 0 (xp_f xf_int)))) xaf_nil))) (xg_nm 3 nd (by decide))
  (xss_kill [3] (xss_one (xs_if (xt_cmpP (cmp_eq hr) (xp_f (xf_mod (xf_var 3) (xf_ixN 0 (xp_f xf_int)))) (xc_var 2))
  (xss_one (xs_ret (xo_move 3)))
  xss_nil)))))
  (xss_one (xs_ret (xo_f xf_non))))⟩
  obtain ⟨t, x⟩ := x
  exact ⟨t, x.ps, x.ev⟩
abbrev s_handed_on : Stmt := topS 3
theorem sc_handed_on : FnScope ["due", "kept", "left"] ["due", "kept"] (defScope s_handed_on) := ⟨rfl, rfl, rfl, by decide +kernel, rfl, by decide +kernel, by decide +kernel⟩
theorem c_handed_on {f : Addr} {fd : FuncData} (F : Fun K "handed_on" "handed_on" s_handed_on f fd) (hm : mg "handed_on" = some (.ref f)) (bt : Bt mg) : Cal P w K mg base cm 1 "handed_on" 2 [] m_handed_on := by
  refine ⟨f, fd, _, fn_ok F sc_handed_on (by decide) (by decide) fun cdv A outer s H E hr => ?_, hm, F.kp, (F.binds (ps := ["due", "kept"]) fun _ _ _ _ _ _ us hl => match us, hl with | [_, _], _ => rfl)⟩
  have tk := takes_of (X := cxOf (L2.CX P w) P w K mg base ["due", "kept", "left"] "handed_on" (defScope s_handed_on) f cdv A outer s H E) (E := E) rfl rfl rfl rfl
  have po := passes_of (X := cxOf (L2.CX P w) P w K mg base ["due", "kept", "left"] "handed_on" (defScope s_handed_on) f cdv A outer s H E) rfl
  have nd := sc_handed_on.nd
  have x : ∃ t, XSs (cxOf (L2.CX P w) P w K mg base ["due", "kept", "left"] "handed_on" (defScope s_handed_on) f cdv A outer s H E) cm (fun cl d _ H' => E cl d H') [] (defBody s_handed_on) t b_handed_on := ⟨_, (xss_cons (xs_asg (xo_list bt (xp_var 1)) (xg_nm 2 nd (by decide)))
  (xss_cons (xs_pre [1] (xs_while 1000000 po (xt_cmpP (cmp_in hr) (xp_var 0) (xc_var 2))
  (xss_cons (xs_expr (xp_o (xo_remove 2 (xf_var 0))))
  (xss_one (xs_aug 0 nd (by decide) ip_addG opp_iadd.f xf_int)))))
  (xss_one (xs_ret (xo_tup (xa_cons (xo_move 0) (xa_cons (xo_move 2) xa_nil)))))))⟩
  obtain ⟨t, x⟩ := x
  exact ⟨t, x.ps, x.ev⟩
abbrev s_data_taken : Stmt := topS 4
theorem sc_data_taken : FnScope ["link", "due", "held", "x", "j", "after", "left"] ["link", "due", "held", "x"] (defScope s_data_taken) := ⟨rfl, rfl, rfl, by decide +kernel, rfl, by decide +kernel, by decide +kernel⟩
theorem c_data_taken {f : Addr} {fd : FuncData} (F : Fun K "data_taken" "data_taken" s_data_taken f fd) (hm : mg "data_taken" = some (.ref f)) (bt : Bt mg) (C_number_taken : Cal P w K mg base cm 1 "number_taken" 3 [] m_number_taken) (C_handed_on : Cal P w K mg base cm 1 "handed_on" 2 [] m_handed_on) : Cal P w K mg base cm 2 "data_taken" 4 [] m_data_taken := by
  refine ⟨f, fd, _, fn_ok F sc_data_taken (by decide) (by decide) fun cdv A outer s H E hr => ?_, hm, F.kp, (F.binds (ps := ["link", "due", "held", "x"]) fun _ _ _ _ _ _ us hl => match us, hl with | [_, _, _, _], _ => rfl)⟩
  have tk := takes_of (X := cxOf (L2.CX P w) P w K mg base ["link", "due", "held", "x", "j", "after", "left"] "data_taken" (defScope s_data_taken) f cdv A outer s H E) (E := E) rfl rfl rfl rfl
  have po := passes_of (X := cxOf (L2.CX P w) P w K mg base ["link", "due", "held", "x", "j", "after", "left"] "data_taken" (defScope s_data_taken) f cdv A outer s H E) rfl
  have nd := sc_data_taken.nd
  have x : ∃ t, XSs (cxOf (L2.CX P w) P w K mg base ["link", "due", "held", "x", "j", "after", "left"] "data_taken" (defScope s_data_taken) f cdv A outer s H E) cm (fun cl d _ H' => E cl d H') [] (defBody s_data_taken) t b_data_taken := ⟨_, (xss_cons (xs_asg (xo_callS C_number_taken hr tk (xar_val (xf_var 0) (xar_val (xf_var 1) (xar_val (xf_var 3) xar_nil)))) (xg_nm 4 nd (by decide)))
  (xss_cons (xs_if (xt_w (xw_or (xt_cmpP cmp_isN (xp_var 4) xc_non) (xw_or1 (xt_cmpP (cmp_in hr) (xp_var 4) (xc_var 2)))))
  (xss_one (xs_ret (xo_tup (xa_cons (xo_move 1) (xa_cons (xo_list bt (xp_var 2)) (xa_cons (xo_f xf_non) xa_nil))))))
  xss_nil)
  (xss_cons (xs_asg (xo_callS C_handed_on hr tk (xar_val (xf_var 1) (xar_val (xf_o (xo_sorted bt (xp_o (xo_add (xf_var 2) (xf_o (xo_lst (xa_cons (xo_f (xf_var 4)) xa_nil))))))) xar_nil))) (xg_tup rfl (xgs_cons (xg_nm 5 nd (by decide)) (xgs_cons (xg_nm 6 nd (by decide)) xgs_nil))))
  (xss_one (xs_ret (xo_tup (xa_cons (xo_move 5) (xa_cons (xo_move 6) (xa_cons (xo_move 4) xa_nil)))))))))⟩
  obtain ⟨t, x⟩ := x
  exact ⟨t, x.ps, x.ev⟩
abbrev s_answer_taken : Stmt := topS 5
theorem sc_answer_taken : FnScope ["link", "first", "many", "y", "f"] ["link", "first", "many", "y"] (defScope s_answer_taken) := ⟨rfl, rfl, rfl, by decide +kernel, rfl, by decide +kernel, by decide +kernel⟩
theorem c_answer_taken {f : Addr} {fd : FuncData} (F : Fun K "answer_taken" "answer_taken" s_answer_taken f fd) (hm : mg "answer_taken" = some (.ref f)) (bt : Bt mg) : Cal P w K mg base cm 1 "answer_taken" 4 [] m_answer_taken := by
  refine ⟨f, fd, _, fn_ok F sc_answer_taken (by decide) (by decide) fun cdv A outer s H E hr => ?_, hm, F.kp, (F.binds (ps := ["link", "first", "many", "y"]) fun _ _ _ _ _ _ us hl => match us, hl with | [_, _, _, _], _ => rfl)⟩
  have tk := takes_of (X := cxOf (L2.CX P w) P w K mg base ["link", "first", "many", "y", "f"] "answer_taken" (defScope s_answer_taken) f cdv A outer s H E) (E := E) rfl rfl rfl rfl
  have po := passes_of (X := cxOf (L2.CX P w) P w K mg base ["link", "first", "many", "y", "f"] "answer_taken" (defScope s_answer_taken) f cdv A outer s H E) rfl
  have nd := sc_answer_taken.nd
  have x : ∃ t, XSs (cxOf (L2.CX P w) P w K mg base ["link", "first", "many", "y", "f"] "answer_taken" (defScope s_answer_taken) f cdv A outer s H E) cm (fun cl d _ H' => E cl d H') [] (defBody s_answer_taken) t b_answer_taken := ⟨_, (xss_cons (xs_pre [4] (xs_for po rfl (xi_rng2 bt (xaf_cons (xf_var 1) (xaf_cons (xf_o (xo_add (xf_min2 bt rfl (xf_o (xo_add (xf_var 1) (xf_ixN 0 (xp_f xf_int)))) (xf_var 2)) xf_int)) xaf_nil))) (xg_nm 4 nd (by decide))
  (xss_kill [4] (xss_one (xs_if (xt_cmpP (cmp_eq hr) (xp_f (xf_mod (xf_var 4) (xf_ixN 0 (xp_f xf_int)))) (xc_var 3))
  (xss_one (xs_ret (xo_move 4)))
  xss_nil)))))
  (xss_one (xs_ret (xo_move 1))))⟩
  obtain ⟨t, x⟩ := x
  exact ⟨t, x.ps, x.ev⟩
abbrev s__law_feed : Stmt := topS 7
theorem sc__law_feed : FnScope ["script"] ["script"] (defScope s__law_feed) := ⟨rfl, rfl, rfl, by decide +kernel, rfl, by decide +kernel, by decide +kernel⟩
theorem c__law_feed {f : Addr} {fd : FuncData} (F : Fun K "_law_feed" "_law_feed" s__law_feed f fd) (hm : mg "_law_feed" = some (.ref f)) (bt : Bt mg) : Cal P w K mg base cm 1 "_law_feed" 1 [] m__law_feed := by
  refine ⟨f, fd, _, fn_ok F sc__law_feed (by decide) (by decide) fun cdv A outer s H E hr => ?_, hm, F.kp, (F.binds (ps := ["script"]) fun _ _ _ _ _ _ us hl => match us, hl with | [_], _ => rfl)⟩
  have tk := takes_of (X := cxOf (L2.CX P w) P w K mg base ["script"] "_law_feed" (defScope s__law_feed) f cdv A outer s H E) (E := E) rfl rfl rfl rfl
  have po := passes_of (X := cxOf (L2.CX P w) P w K mg base ["script"] "_law_feed" (defScope s__law_feed) f cdv A outer s H E) rfl
  have nd := sc__law_feed.nd
  have x : ∃ t, XSs (cxOf (L2.CX P w) P w K mg base ["script"] "_law_feed" (defScope s__law_feed) f cdv A outer s H E) cm (fun cl d _ H' => E cl d H') [] (defBody s__law_feed) t b__law_feed := ⟨_, (xss_one (xs_ret (xo_lst (xa_cons (xo_f (xf_o (xo_list bt (xp_var 0)))) (xa_cons (xo_f xf_int) (xa_cons (xo_f xf_int) (xa_cons (xo_f xf_int) xa_nil)))))))⟩
  obtain ⟨t, x⟩ := x
  exact ⟨t, x.ps, x.ev⟩
abbrev s__law_draw : Stmt := topS 8
theorem sc__law_draw : FnScope ["feed", "many", "mixed", "cell", "told"] ["feed", "many"] (defScope s__law_draw) := ⟨rfl, rfl, rfl, by decide +kernel, rfl, by decide +kernel, by decide +kernel⟩
theorem c__law_draw {f : Addr} {fd : FuncData} (F : Fun K "_law_draw" "_law_draw" s__law_draw f fd) (hm : mg "_law_draw" = some (.ref f)) (bt : Bt mg) : Cal P w K mg base cm 1 "_law_draw" 2 [0] m__law_draw := by
  refine ⟨f, fd, _, fn_ok F sc__law_draw (by decide) (by decide) fun cdv A outer s H E hr => ?_, hm, F.kp, (F.binds (ps := ["feed", "many"]) fun _ _ _ _ _ _ us hl => match us, hl with | [_, _], _ => rfl)⟩
  have tk := takes_of (X := cxOf (L2.CX P w) P w K mg base ["feed", "many", "mixed", "cell", "told"] "_law_draw" (defScope s__law_draw) f cdv A outer s H E) (E := E) rfl rfl rfl rfl
  have po := passes_of (X := cxOf (L2.CX P w) P w K mg base ["feed", "many", "mixed", "cell", "told"] "_law_draw" (defScope s__law_draw) f cdv A outer s H E) rfl
  have nd := sc__law_draw.nd
  have x : ∃ t, XSs (cxOf (L2.CX P w) P w K mg base ["feed", "many", "mixed", "cell", "told"] "_law_draw" (defScope s__law_draw) f cdv A outer s H E) cm (fun cl d _ H' => E cl d H') [0] (defBody s__law_draw) t b__law_draw := ⟨_, (xss_cons (xs_if (xt_w (xw_and (xt_cmpP (cmp_eq hr) (xp_f (xf_ixN 0 (xp_f xf_int))) xc_int) (xw_and1 (xt_cmp cmp_lt (xf_ixN 0 (xp_f xf_int)) (xf_len bt (xp_f (xf_ixN 0 (xp_f xf_int))))))))
  (xss_cons (xs_asg (xo_f (xf_abs bt (xp_f (xf_int1 bt (xp_f (xf_ix (xf_ixN 0 (xp_f xf_int)) (xf_ixN 0 (xp_f xf_int)))))))) (xg_nm 3 nd (by decide)))
  (xss_cons (xs_augI 0 ip_addG opp_iadd.f xf_int xf_int)
  (xss_one (xs_if (xt_cmp cmp_ge (xf_var 3) (xf_pow xf_int xf_int))
  (xss_one (xs_setI 0 xf_int (xf_var 3)))
  (xss_one (xs_setI 0 xf_int (xf_mod (xf_int1 bt (xp_o (xo_add (xf_o (xo_add (xf_o (xo_mul (xf_ixN 0 (xp_f xf_int)) xf_int)) (xf_o (xo_mul (xf_var 3) xf_int)))) (xf_ixN 0 (xp_f xf_int))))) xf_int)))))))
  xss_nil)
  (xss_cons (xs_if (xt_cmpP cmp_gt (xp_f (xf_ixN 0 (xp_f xf_int))) xc_int)
  (xss_cons (xs_asg (xo_f (xf_mod (xf_int1 bt (xp_f (xf_ixN 0 (xp_f xf_int)))) (xf_var 1))) (xg_nm 4 nd (by decide)))
  (xss_cons (xs_setI 0 xf_int (xf_div (xf_ixN 0 (xp_f xf_int)) (xf_var 1)))
  (xss_one (xs_ret (xo_move 4)))))
  xss_nil)
  (xss_cons (xs_setI 0 xf_int (xf_mod (xf_int1 bt (xp_o (xo_add (xf_o (xo_mul (xf_ixN 0 (xp_f xf_int)) xf_int)) xf_int))) xf_int))
  (xss_cons (xs_asg (xo_f (xf_mod (xf_int1 bt (xp_o (xo_add (xf_o (xo_mul (xf_ixN 0 (xp_f xf_int)) (xf_ixN 0 (xp_f xf_int)))) (xf_ixN 0 (xp_f xf_int))))) xf_int)) (xg_nm 2 nd (by decide)))
  (xss_one (xs_ret (xo_f (xf_mod (xf_div (xf_var 2) xf_int) (xf_var 1)))))))))⟩
  obtain ⟨t, x⟩ := x
  exact ⟨t, x.ps, x.ev⟩
abbrev s__law_same : Stmt := topS 9
theorem sc__law_same : FnScope ["actual", "due", "k"] ["actual", "due"] (defScope s__law_same) := ⟨rfl, rfl, rfl, by decide +kernel, rfl, by decide +kernel, by decide +kernel⟩
theorem c__law_same {f : Addr} {fd : FuncData} (F : Fun K "_law_same" "_law_same" s__law_same f fd) (hm : mg "_law_same" = some (.ref f)) (bt : Bt mg) : ∀ n : Nat, Cal P w K mg base cm (n + 1) "_law_same" 2 [] (m__law_same n)
  | 0 => ⟨f, fd, _, (fn_ok (k := 0) F sc__law_same (by decide) (by decide) fun cdv A outer s H E hr => ⟨tNever, pss_never, fun _ _ _ _ _ _ _ _ z => (z : False).elim⟩).mono (by decide), hm, F.kp, (F.binds (ps := ["actual", "due"]) fun _ _ _ _ _ _ us hl => match us, hl with | [_, _], _ => rfl)⟩
  | n + 1 => by
    have C__law_same := c__law_same F hm bt n
    refine ⟨f, fd, _, (fn_ok (k := n + 1) F sc__law_same (by decide) (by decide) fun cdv A outer s H E hr => ?_).mono (by omega), hm, F.kp, (F.binds (ps := ["actual", "due"]) fun _ _ _ _ _ _ us hl => match us, hl with | [_, _], _ => rfl)⟩
    have tk := takes_of (X := cxOf (L2.CX P w) P w K mg base ["actual", "due", "k"] "_law_same" (defScope s__law_same) f cdv A outer s H E) (E := E) rfl rfl rfl rfl
    have po := passes_of (X := cxOf (L2.CX P w) P w K mg base ["actual", "due", "k"] "_law_same" (defScope s__law_same) f cdv A outer s H E) rfl
    have nd := sc__law_same.nd
    have x : ∃ t, XSs (cxOf (L2.CX P w) P w K mg base ["actual", "due", "k"] "_law_same" (defScope s__law_same) f cdv A outer s H E) cm (fun cl d _ H' => E cl d H') [] (defBody s__law_same) t (b__law_same (m__law_same n)) := ⟨_, (xss_cons (xs_if (xt_w (xw_or (xt_tru (xp_f (xf_isi bt .list (xp_var 1) bt.list (by decide +kernel)))) (xw_or1 (xt_tru (xp_f (xf_isi bt .tuple (xp_var 1) bt.tuple (by decide +kernel)))))))
  (xss_cons (xs_if (xt_w (xw_or (xt_cmp (cmp_ne hr) (xf_isi bt .list (xp_var 0) bt.list (by decide +kernel)) (xf_isi bt .list (xp_var 1) bt.list (by decide +kernel))) (xw_or1 (xt_cmp (cmp_ne hr) (xf_isi bt .tuple (xp_var 0) bt.tuple (by decide +kernel)) (xf_isi bt .tuple (xp_var 1) bt.tuple (by decide +kernel))))))
  (xss_one (xs_ret (xo_f xf_bl)))
  xss_nil)
  (xss_one (xs_ret (xo_and (xp_f (xf_cmp (cmp_eq hr) (xf_len bt (xp_var 0)) (xf_len bt (xp_var 1)))) (xo_bo1 (xo_f (xf_all bt rfl (xp_o (xo_lc [("k", 2)] rfl nd (xi_rng1 bt (xaf_cons (xf_len bt (xp_var 1)) xaf_nil)) (blkOk_by (N := ["actual", "due", "k"]) (sc := defScope s__law_same) (by decide +kernel)) (fun B hB _ _ _ _ _ => (xg_nm 2 nd (hB 2 (by decide)))) (fun _ _ _ _ _ => xts_nil) (fun _ _ _ _ _ => (xf_o (xo_callR (Nat.le_refl _) C__law_same hr takes0 (xar_val (xf_ixN 0 (xp_var 2)) (xar_val (xf_ixN 1 (xp_var 2)) xar_nil))))))))))))))
  xss_nil)
  (xss_cons (xs_if (xt_w (xw_or (xt_cmpP cmp_isN (xp_var 1) xc_non) (xw_or1 (xt_tru (xp_f (xf_isi bt .bool (xp_var 1) bt.bool (by decide +kernel)))))))
  (xss_one (xs_ret (xo_f (xf_if (xt_cmpP cmp_isN (xp_var 1) xc_non) (xf_cmpP cmp_isN (xp_var 0) xc_non) (xf_o (xo_and (xp_f (xf_isi bt .bool (xp_var 0) bt.bool (by decide +kernel))) (xo_bo1 (xo_f (xf_cmpP (cmp_eq hr) (xp_var 0) (xc_var 1))))))))))
  xss_nil)
  (xss_cons (xs_if (xt_tru (xp_f (xf_isi bt .str (xp_var 1) bt.str (by decide +kernel))))
  (xss_one (xs_ret (xo_and (xp_f (xf_isi bt .str (xp_var 0) bt.str (by decide +kernel))) (xo_bo1 (xo_f (xf_cmpP (cmp_eq hr) (xp_var 0) (xc_var 1)))))))
  xss_nil)
  (xss_one (xs_ret (xo_and (xp_f (xf_isi bt .int (xp_var 0) bt.int (by decide +kernel))) (xo_and (xp_o (xo_not (xp_f (xf_isi bt .bool (xp_var 0) bt.bool (by decide +kernel))))) (xo_bo1 (xo_f (xf_cmpP (cmp_eq hr) (xp_var 0) (xc_var 1)))))))))))⟩
    obtain ⟨t, x⟩ := x
    exact ⟨t, x.ps, x.ev⟩
abbrev s__law_due : Stmt := topS 10
theorem sc__law_due : FnScope ["link", "due", "held", "x", "fits", "kept", "near", "far", "turn", "j"] ["link", "due", "held", "x"] (defScope s__law_due) := ⟨rfl, rfl, rfl, by decide +kernel, rfl, by decide +kernel, by decide +kernel⟩
theorem c__law_due {f : Addr} {fd : FuncData} (F : Fun K "_law_due" "_law_due" s__law_due f fd) (hm : mg "_law_due" = some (.ref f)) (bt : Bt mg) : Cal P w K mg base cm 1 "_law_due" 4 [] m__law_due := by
  refine ⟨f, fd, _, fn_ok F sc__law_due (by decide) (by decide) fun cdv A outer s H E hr => ?_, hm, F.kp, (F.binds (ps := ["link", "due", "held", "x"]) fun _ _ _ _ _ _ us hl => match us, hl with | [_, _, _, _], _ => rfl)⟩
  have tk := takes_of (X := cxOf (L2.CX P w) P w K mg base ["link", "due", "held", "x", "fits", "kept", "near", "far", "turn", "j"] "_law_due" (defScope s__law_due) f cdv A outer s H E) (E := E) rfl rfl rfl rfl
  have po := passes_of (X := cxOf (L2.CX P w) P w K mg base ["link", "due", "held", "x", "fits", "kept", "near", "far", "turn", "j"] "_law_due" (defScope s__law_due) f cdv A outer s H E) rfl
  have nd := sc__law_due.nd
  have x : ∃ t, XSs (cxOf (L2.CX P w) P w K mg base ["link", "due", "held", "x", "fits", "kept", "near", "far", "turn", "j"] "_law_due" (defScope s__law_due) f cdv A outer s H E) cm (fun cl d _ H' => E cl d H') [] (defBody s__law_due) t b__law_due := ⟨_, (xss_cons (xs_asg (xo_f (xf_var 0)) (xg_tup rfl (xgs_cons (xg_nm 6 nd (by decide)) (xgs_cons (xg_nm 7 nd (by decide)) (xgs_cons (xg_nm 8 nd (by decide)) xgs_nil)))))
  (xss_cons (xs_setLc [("j", 9)] 4 rfl nd (by decide) (xi_rng2 bt (xaf_cons (xf_var 1) (xaf_cons (xf_o (xo_add (xf_var 1) (xf_var 7))) xaf_nil))) (blkOk_by (N := ["link", "due", "held", "x", "fits", "kept", "near", "far", "turn", "j"]) (sc := defScope s__law_due) (by decide +kernel)) (fun B hB _ _ _ _ _ => (xg_nm 9 nd (hB 9 (by decide)))) (fun _ _ _ _ _ => (xts_one (xt_cmpP (cmp_eq hr) (xp_f (xf_mod (xf_sub (xf_var 9) (xf_var 3)) (xf_var 8))) xc_int))) (fun _ _ _ _ _ => (xf_var 9)) (sw_true rfl rfl rfl (by decide +kernel)))
  (xss_cons (xs_if (xt_w (xw_or (xt_cmpP (cmp_eq hr) (xp_f (xf_len bt (xp_var 4))) xc_int) (xw_or1 (xt_cmpP (cmp_in hr) (xp_f (xf_ixN 4 (xp_f xf_int))) (xc_var 2)))))
  (xss_one (xs_ret (xo_tup (xa_cons (xo_move 1) (xa_cons (xo_list bt (xp_var 2)) (xa_cons (xo_f xf_non) xa_nil))))))
  xss_nil)
  (xss_cons (xs_asg (xo_sorted bt (xp_o (xo_add (xf_var 2) (xf_o (xo_sl (xf_var 4) xb_none (xb_some (xp_f xf_int))))))) (xg_nm 5 nd (by decide)))
  (xss_cons (xs_pre [0, 2, 3, 6, 7, 8, 9] (xs_while 1000000 po (xt_cmpP (cmp_in hr) (xp_var 1) (xc_var 5))
  (xss_cons (xs_asg (xo_sl (xf_var 5) (xb_some (xp_f xf_int)) xb_none) (xg_nm 5 nd (by decide)))
  (xss_one (xs_aug 1 nd (by decide) ip_addG opp_iadd.f xf_int)))))
  (xss_one (xs_ret (xo_tup (xa_cons (xo_move 1) (xa_cons (xo_move 5) (xa_cons (xo_f (xf_ixN 4 (xp_f xf_int))) xa_nil)))))))))))⟩
  obtain ⟨t, x⟩ := x
  exact ⟨t, x.ps, x.ev⟩
abbrev s_law : Stmt := topS 11
theorem sc_law : FnScope ["script", "feed", "turn", "told", "link", "first", "many", "due", "held", "sends", "again", "x", "given", "fits", "k", "i", "f"] ["script"] (defScope s_law) := ⟨rfl, rfl, rfl, by decide +kernel, rfl, by decide +kernel, by decide +kernel⟩
theorem c_law {f : Addr} {fd : FuncData} (F : Fun K "law" "law" s_law f fd) (hm : mg "law" = some (.ref f)) (bt : Bt mg) (C__law_feed : Cal P w K mg base cm 1 "_law_feed" 1 [] m__law_feed) (C__law_draw : Cal P w K mg base cm 1 "_law_draw" 2 [0] m__law_draw) (C_sendable : Cal P w K mg base cm 1 "sendable" 3 [] m_sendable) (C__law_same : Cal P w K mg base cm 6 "_law_same" 2 [] (m__law_same 5)) (C_data_taken : Cal P w K mg base cm 2 "data_taken" 4 [] m_data_taken) (C__law_due : Cal P w K mg base cm 1 "_law_due" 4 [] m__law_due) (C_answer_taken : Cal P w K mg base cm 1 "answer_taken" 4 [] m_answer_taken) : FnOk P w K mg base (L2.CX P w) 7 f fd ["script"] (spM K cm 1 [] m_law) := by
  refine fn_ok F sc_law (by decide) (by decide) fun cdv A outer s H E hr => ?_
  have tk := takes_of (X := cxOf (L2.CX P w) P w K mg base ["script", "feed", "turn", "told", "link", "first", "many", "due", "held", "sends", "again", "x", "given", "fits", "k", "i", "f"] "law" (defScope s_law) f cdv A outer s H E) (E := E) rfl rfl rfl rfl
  have po := passes_of (X := cxOf (L2.CX P w) P w K mg base ["script", "feed", "turn", "told", "link", "first", "many", "due", "held", "sends", "again", "x", "given", "fits", "k", "i", "f"] "law" (defScope s_law) f cdv A outer s H E) rfl
  have nd := sc_law.nd
  have x : ∃ t, XSs (cxOf (L2.CX P w) P w K mg base ["script", "feed", "turn", "told", "link", "first", "many", "due", "held", "sends", "again", "x", "given", "fits", "k", "i", "f"] "law" (defScope s_law) f cdv A outer s H E) cm (fun cl d _ H' => E cl d H') [] (defBody s_law) t b_law := ⟨_, (xss_cons (xs_asg (xo_callS C__law_feed hr tk (xar_val (xf_var 0) xar_nil)) (xg_nm 1 nd (by decide)))
  (xss_cons (xs_pre [0, 2, 3, 4, 5, 6, 7, 8, 9, 10, 11, 12, 13, 14, 15, 16] (xs_for po rfl (xi_rng1 bt (xaf_cons xf_int xaf_nil)) (xg_nm 2 nd (by decide))
  (xss_kill [2, 3, 4, 5, 6, 7, 8, 9, 10, 11, 12, 13] (xss_cons (xs_asg (xo_tup (xa_cons (xo_add xf_int (xf_o (xo_callS C__law_draw hr tk (xar_bor 1 (xar_val xf_int xar_nil))))) (xa_cons (xo_add xf_int (xf_o (xo_callS C__law_draw hr tk (xar_bor 1 (xar_val xf_int xar_nil))))) (xa_cons (xo_add xf_int (xf_o (xo_callS C__law_draw hr tk (xar_bor 1 (xar_val xf_int xar_nil))))) xa_nil)))) (xg_nm 4 nd (by decide)))
  (xss_cons (xs_asg (xo_callS C__law_draw hr tk (xar_bor 1 (xar_val xf_int xar_nil))) (xg_nm 5 nd (by decide)))
  (xss_cons (xs_asg (xo_add (xf_var 5) (xf_o (xo_callS C__law_draw hr tk (xar_bor 1 (xar_val xf_int xar_nil))))) (xg_nm 6 nd (by decide)))
  (xss_cons (xs_asg (xo_callS C__law_draw hr tk (xar_bor 1 (xar_val xf_int xar_nil))) (xg_nm 7 nd (by decide)))
  (xss_cons (xs_setLc [("k", 14)] 8 rfl nd (by decide) (xi_rng2 bt (xaf_cons xf_int (xaf_cons (xf_ixN 4 (xp_f xf_int)) xaf_nil))) (blkOk_by (N := ["script", "feed", "turn", "told", "link", "first", "many", "due", "held", "sends", "again", "x", "given", "fits", "k", "i", "f"]) (sc := defScope s_law) (by decide +kernel)) (fun B hB _ _ _ _ _ => (xg_nm 14 nd (hB 14 (by decide)))) (fun _ _ _ _ _ => (xts_one (xt_cmpP (cmp_eq hr) (xp_o (xo_callS C__law_draw hr takes0 (xar_bor 1 (xar_val xf_int xar_nil)))) xc_int))) (fun _ _ _ _ _ => (xf_o (xo_add (xf_var 7) (xf_var 14)))) (sw_true rfl rfl rfl (by decide +kernel)))
  (xss_cons (xs_setLc [("i", 15)] 9 rfl nd (by decide) (xi_rng2 bt (xaf_cons (xf_var 5) (xaf_cons (xf_var 6) xaf_nil))) (blkOk_by (N := ["script", "feed", "turn", "told", "link", "first", "many", "due", "held", "sends", "again", "x", "given", "fits", "k", "i", "f"]) (sc := defScope s_law) (by decide +kernel)) (fun B hB _ _ _ _ _ => (xg_nm 15 nd (hB 15 (by decide)))) (fun _ _ _ _ _ => (xts_one (xt_cmp cmp_lt (xf_var 15) (xf_o (xo_add (xf_var 5) (xf_ixN 4 (xp_f xf_int))))))) (fun _ _ _ _ _ => (xf_var 15)) (sw_true rfl rfl rfl (by decide +kernel)))
  (xss_cons (xs_pre [0, 2, 3, 10, 11, 12, 13, 14, 15, 16] (xs_for po rfl (xi_rng1 bt (xaf_cons xf_int xaf_nil)) (xg_nm 10 nd (by decide))
  (xss_kill [3, 10] (xss_cons (xs_asg (xo_callS C_sendable hr tk (xar_val (xf_var 4) (xar_val (xf_var 5) (xar_val (xf_var 6) xar_nil)))) (xg_nm 3 nd (by decide)))
  (xss_cons (xs_if (xt_not (xt_tru (xp_o (xo_callP C__law_same hr tk (xar_bor 3 (xar_bor 9 xar_nil))))))
  (xss_one (xs_ret (xo_f xf_bl)))
  xss_nil)
  (xss_one (xs_expr (xp_o (xo_app 3 (xo_f xf_int))))))))))
  (xss_one (xs_pre [0, 2, 3, 9, 10, 11, 12, 13, 14, 15, 16] (xs_for po rfl (xi_rng1 bt (xaf_cons (xf_ixN 4 (xp_f xf_int)) xaf_nil)) (xg_nm 11 nd (by decide))
  (xss_kill [3, 10, 11, 12, 13] (xss_cons (xs_asg (xo_list bt (xp_var 8)) (xg_nm 12 nd (by decide)))
  (xss_cons (xs_pre [0, 2, 3, 9, 10, 13, 14, 15, 16] (xs_for po rfl (xi_rng1 bt (xaf_cons xf_int xaf_nil)) (xg_nm 10 nd (by decide))
  (xss_kill [3, 10] (xss_cons (xs_asg (xo_callS C_data_taken hr tk (xar_val (xf_var 4) (xar_val (xf_var 7) (xar_val (xf_var 12) (xar_val (xf_var 11) xar_nil))))) (xg_nm 3 nd (by decide)))
  (xss_cons (xs_if (xt_w (xw_or (xt_not (xt_tru (xp_o (xo_callP C__law_same hr tk (xar_bor 3 (xar_val (xf_o (xo_callS C__law_due hr tk (xar_val (xf_var 4) (xar_val (xf_var 7) (xar_val (xf_var 8) (xar_val (xf_var 11) xar_nil)))))) xar_nil)))))) (xw_or1 (xt_cmpP (cmp_ne hr) (xp_var 12) (xc_var 8)))))
  (xss_one (xs_ret (xo_f xf_bl)))
  xss_nil)
  (xss_one (xs_expr (xp_o (xo_appP 3 (xpl_ix (k := 1) (xpl_var 3)) xc_int)))))))))
  (xss_cons (xs_setLc [("f", 16)] 13 rfl nd (by decide) (xi_rng2 bt (xaf_cons (xf_var 5) (xaf_cons (xf_o (xo_add (xf_min2 bt rfl (xf_o (xo_add (xf_var 5) (xf_ixN 4 (xp_f xf_int)))) (xf_var 6)) xf_int)) xaf_nil))) (blkOk_by (N := ["script", "feed", "turn", "told", "link", "first", "many", "due", "held", "sends", "again", "x", "given", "fits", "k", "i", "f"]) (sc := defScope s_law) (by decide +kernel)) (fun B hB _ _ _ _ _ => (xg_nm 16 nd (hB 16 (by decide)))) (fun _ _ _ _ _ => (xts_one (xt_cmpP (cmp_eq hr) (xp_f (xf_mod (xf_sub (xf_var 16) (xf_var 11)) (xf_ixN 4 (xp_f xf_int)))) xc_int))) (fun _ _ _ _ _ => (xf_var 16)) (sw_true rfl rfl rfl (by decide +kernel)))
  (xss_one (xs_if (xt_not (xt_tru (xp_o (xo_callP C__law_same hr tk (xar_val (xf_o (xo_callS C_answer_taken hr tk (xar_val (xf_var 4) (xar_val (xf_var 5) (xar_val (xf_var 6) (xar_val (xf_var 11) xar_nil)))))) (xar_val (xf_ix (xf_o (xo_add (xf_var 13) (xf_o (xo_lst (xa_cons (xo_f (xf_var 5)) xa_nil))))) xf_int) xar_nil))))))
  (xss_one (xs_ret (xo_f xf_bl)))
  xss_nil)))))))))))))))))))
  (xss_cons (xs_if (xt_not (xt_tru (xp_o (xo_callP C__law_same hr tk (xar_val (xf_o (xo_callS C_data_taken hr tk (xar_val (xf_o (xo_tup (xa_cons (xo_f xf_int) (xa_cons (xo_f xf_int) (xa_cons (xo_f xf_int) xa_nil))))) (xar_val xf_int (xar_val (xf_o (xo_lst (xa_cons (xo_f xf_int) xa_nil))) (xar_val xf_int xar_nil)))))) (xar_val (xf_o (xo_tup (xa_cons (xo_f xf_int) (xa_cons (xo_lst xa_nil) (xa_cons (xo_f xf_int) xa_nil))))) xar_nil))))))
  (xss_one (xs_ret (xo_f xf_bl)))
  xss_nil)
  (xss_cons (xs_if (xt_not (xt_tru (xp_o (xo_callP C__law_same hr tk (xar_val (xf_o (xo_callS C_data_taken hr tk (xar_val (xf_o (xo_tup (xa_cons (xo_f xf_int) (xa_cons (xo_f xf_int) (xa_cons (xo_f xf_int) xa_nil))))) (xar_val xf_int (xar_val (xf_o (xo_lst xa_nil)) (xar_val xf_int xar_nil)))))) (xar_val (xf_o (xo_tup (xa_cons (xo_f xf_int) (xa_cons (xo_lst xa_nil) (xa_cons (xo_f xf_non) xa_nil))))) xar_nil))))))
  (xss_one (xs_ret (xo_f xf_bl)))
  xss_nil)
  (xss_cons (xs_asg (xo_lst (xa_cons (xo_f (xf_o (xo_callS C_sendable hr tk (xar_val (xf_o (xo_tup (xa_cons (xo_f xf_int) (xa_cons (xo_f xf_int) (xa_cons (xo_f xf_int) xa_nil))))) (xar_val xf_int (xar_val xf_int xar_nil)))))) (xa_cons (xo_f (xf_o (xo_callS C_sendable hr tk (xar_val (xf_o (xo_tup (xa_cons (xo_f xf_int) (xa_cons (xo_f xf_int) (xa_cons (xo_f xf_int) xa_nil))))) (xar_val xf_int (xar_val xf_int xar_nil)))))) (xa_cons (xo_f (xf_o (xo_callS C_answer_taken hr tk (xar_val (xf_o (xo_tup (xa_cons (xo_f xf_int) (xa_cons (xo_f xf_int) (xa_cons (xo_f xf_int) xa_nil))))) (xar_val xf_int (xar_val xf_int (xar_val xf_int xar_nil))))))) xa_nil)))) (xg_nm 3 nd (by decide)))
  (xss_one (xs_ret (xo_callP C__law_same hr tk (xar_bor 3 (xar_val (xf_o (xo_lst (xa_cons (xo_f (xf_o (xo_lst (xa_cons (xo_f xf_int) (xa_cons (xo_f xf_int) xa_nil))))) (xa_cons (xo_f (xf_o (xo_lst xa_nil))) (xa_cons (xo_f xf_int) xa_nil))))) xar_nil))))))))))⟩
  obtain ⟨t, x⟩ := x
  exact ⟨t, x.ps, x.ev⟩
end
end Ow
set_option Elab.async false
set_option linter.all false
set_option maxRecDepth 100000
set_option maxHeartbeats 8000000
namespace Ow
open PySem L2
def dd_sendable : He.DefD := ⟨("sendable", none), "sendable", "sendable", defArgs s_sendable, defBody s_sendable, defScope s_sendable, [], []⟩
def dd_number_taken : He.DefD := ⟨("number_taken", none), "number_taken", "number_taken", defArgs s_number_taken, defBody s_number_taken, defScope s_number_taken, [], []⟩
def dd_handed_on : He.DefD := ⟨("handed_on", none), "handed_on", "handed_on", defArgs s_handed_on, defBody s_handed_on, defScope s_handed_on, [], []⟩
def dd_data_taken : He.DefD := ⟨("data_taken", none), "data_taken", "data_taken", defArgs s_data_taken, defBody s_data_taken, defScope s_data_taken, [], []⟩
def dd_answer_taken : He.DefD := ⟨("answer_taken", none), "answer_taken", "answer_taken", defArgs s_answer_taken, defBody s_answer_taken, defScope s_answer_taken, [], []⟩
def dd__law_feed : He.DefD := ⟨("_law_feed", none), "_law_feed", "_law_feed", defArgs s__law_feed, defBody s__law_feed, defScope s__law_feed, [], []⟩
def dd__law_draw : He.DefD := ⟨("_law_draw", none), "_law_draw", "_law_draw", defArgs s__law_draw, defBody s__law_draw, defScope s__law_draw, [], []⟩
def dd__law_same : He.DefD := ⟨("_law_same", none), "_law_same", "_law_same", defArgs s__law_same, defBody s__law_same, defScope s__law_same, [], []⟩
def dd__law_due : He.DefD := ⟨("_law_due", none), "_law_due", "_law_due", defArgs s__law_due, defBody s__law_due, defScope s__law_due, [], []⟩
def dd_law : He.DefD := ⟨("law", none), "law", "law", defArgs s_law, defBody s_law, defScope s_law, [], []⟩
def fnD : List He.DefD := [dd_sendable, dd_number_taken, dd_handed_on, dd_data_taken, dd_answer_taken, dd__law_feed, dd__law_draw, dd__law_same, dd__law_due, dd_law]
def faD : List He.Fa := [.glo "sendable", .glo "number_taken", .glo "handed_on", .glo "data_taken", .glo "answer_taken", .glo "_law_feed", .glo "_law_draw", .glo "_law_same", .glo "_law_due", .glo "law", .free "len", .free "range", .free "list", .free "tuple", .free "int", .free "str", .free "bool", .free "abs", .free "min", .free "max", .free "sum", .free "all", .free "any", .free "sorted", .free "isinstance", .free "enumerate", .free "zip", .free "dict", .free "repr"]
abbrev RR : PySem.W.OpenRow := PySem.W.OpenLaw.row PySem.Challenge.rw_sendsure_k64_whole_windows_of_links
abbrev hkD : PySem.W.Hook := He.hookD 4 faD fnD
def obD (s : PySem.W.SharedT) : He.AlD := He.obsDG 4 faD fnD (HandSHeadRun.getT s)
theorem obD_eq (s : PySem.W.SharedT) : obD s = hkD.obs s.abs := He.obsDG_eq (HandSHeadRun.getT_eq s)
theorem runD (w : World) : HandSHeadRun.RunEq RR (PySem.W.view RR.prog [11]) hkD obD 400 ["sendable", "number_taken", "handed_on", "data_taken", "answer_taken", "_law_feed", "_law_draw", "_law_same", "_law_due"] w := by
  intro os
  kernel_rfl
theorem factsD {P : Program} {w : World} {K : PySem.W.Frag} {h : Heap} {mg : Str → Option Value} {f : Addr} (X : K.In h) (G : h.Ns mainGlobals mg) (hfa : mg ("law" : Str) = some (.ref f)) (c : He.SaysD faD fnD K) :
    ∃ fd : FuncData, (∀ (s : Shared) (v : Value), BindsTo s fd ⟨[v], []⟩ [("script", v)]) ∧ ∀ base : Heap, K.In base → base.Ns mainGlobals mg → FnOk P w K mg base (L2.CX P w) 7 f fd ["script"] (spM K (He.ga K) 1 [] m_law) := by
  obtain ⟨fd_sendable, F_sendable⟩ := c.def_ 0 (d := dd_sendable) rfl
  obtain ⟨fd_number_taken, F_number_taken⟩ := c.def_ 1 (d := dd_number_taken) rfl
  obtain ⟨fd_handed_on, F_handed_on⟩ := c.def_ 2 (d := dd_handed_on) rfl
  obtain ⟨fd_data_taken, F_data_taken⟩ := c.def_ 3 (d := dd_data_taken) rfl
  obtain ⟨fd_answer_taken, F_answer_taken⟩ := c.def_ 4 (d := dd_answer_taken) rfl
  obtain ⟨fd__law_feed, F__law_feed⟩ := c.def_ 5 (d := dd__law_feed) rfl
  obtain ⟨fd__law_draw, F__law_draw⟩ := c.def_ 6 (d := dd__law_draw) rfl
  obtain ⟨fd__law_same, F__law_same⟩ := c.def_ 7 (d := dd__law_same) rfl
  obtain ⟨fd__law_due, F__law_due⟩ := c.def_ 8 (d := dd__law_due) rfl
  obtain ⟨fd_law, F_law⟩ := c.def_ 9 (d := dd_law) rfl
  have g_sendable := He.glo_ok X G (c.fact 0 (f := .glo "sendable") rfl)
  have g_number_taken := He.glo_ok X G (c.fact 1 (f := .glo "number_taken") rfl)
  have g_handed_on := He.glo_ok X G (c.fact 2 (f := .glo "handed_on") rfl)
  have g_data_taken := He.glo_ok X G (c.fact 3 (f := .glo "data_taken") rfl)
  have g_answer_taken := He.glo_ok X G (c.fact 4 (f := .glo "answer_taken") rfl)
  have g__law_feed := He.glo_ok X G (c.fact 5 (f := .glo "_law_feed") rfl)
  have g__law_draw := He.glo_ok X G (c.fact 6 (f := .glo "_law_draw") rfl)
  have g__law_same := He.glo_ok X G (c.fact 7 (f := .glo "_law_same") rfl)
  have g__law_due := He.glo_ok X G (c.fact 8 (f := .glo "_law_due") rfl)
  have g_law := He.glo_ok X G (c.fact 9 (f := .glo "law") rfl)
  have e := hfa.symm.trans g_law
  cases e
  have bt : Bt mg := ⟨He.free_ok X G (c.fact 10 (f := .free "len") rfl), He.free_ok X G (c.fact 11 (f := .free "range") rfl), He.free_ok X G (c.fact 12 (f := .free "list") rfl), He.free_ok X G (c.fact 13 (f := .free "tuple") rfl), He.free_ok X G (c.fact 14 (f := .free "int") rfl), He.free_ok X G (c.fact 15 (f := .free "str") rfl), He.free_ok X G (c.fact 16 (f := .free "bool") rfl), He.free_ok X G (c.fact 17 (f := .free "abs") rfl), He.free_ok X G (c.fact 18 (f := .free "min") rfl), He.free_ok X G (c.fact 19 (f := .free "max") rfl), He.free_ok X G (c.fact 20 (f := .free "sum") rfl), He.free_ok X G (c.fact 21 (f := .free "all") rfl), He.free_ok X G (c.fact 22 (f := .free "any") rfl), He.free_ok X G (c.fact 23 (f := .free "sorted") rfl), He.free_ok X G (c.fact 24 (f := .free "isinstance") rfl), He.free_ok X G (c.fact 25 (f := .free "enumerate") rfl), He.free_ok X G (c.fact 26 (f := .free "zip") rfl), He.free_ok X G (c.fact 27 (f := .free "dict") rfl), He.free_ok X G (c.fact 28 (f := .free "repr") rfl)⟩
  have b := FunD.bindsA (ps := ["script"]) F_law fun _ _ _ _ _ _ us hl => match us, hl with | [_], _ => rfl
  refine ⟨fd_law, fun s v => b s [v] rfl, fun base Xb Gb => ?_⟩
  have C_sendable := c_sendable (P := P) (w := w) (base := base) (cm := He.ga K) (fun_of F_sendable) g_sendable bt
  have C_number_taken := c_number_taken (P := P) (w := w) (base := base) (cm := He.ga K) (fun_of F_number_taken) g_number_taken bt
  have C_handed_on := c_handed_on (P := P) (w := w) (base := base) (cm := He.ga K) (fun_of F_handed_on) g_handed_on bt
  have C_data_taken := c_data_taken (P := P) (w := w) (base := base) (cm := He.ga K) (fun_of F_data_taken) g_data_taken bt C_number_taken C_handed_on
  have C_answer_taken := c_answer_taken (P := P) (w := w) (base := base) (cm := He.ga K) (fun_of F_answer_taken) g_answer_taken bt
  have C__law_feed := c__law_feed (P := P) (w := w) (base := base) (cm := He.ga K) (fun_of F__law_feed) g__law_feed bt
  have C__law_draw := c__law_draw (P := P) (w := w) (base := base) (cm := He.ga K) (fun_of F__law_draw) g__law_draw bt
  have C__law_same := c__law_same (P := P) (w := w) (base := base) (cm := He.ga K) (fun_of F__law_same) g__law_same bt 5
  have C__law_due := c__law_due (P := P) (w := w) (base := base) (cm := He.ga K) (fun_of F__law_due) g__law_due bt
  exact c_law (P := P) (w := w) (base := base) (cm := He.ga K) (fun_of F_law) g_law bt C__law_feed C__law_draw C_sendable C__law_same C_data_taken C__law_due C_answer_taken
end Ow
open PySem PySem.W PySem.Calls PyProof.Rows
theorem PySem.Challenge.cw_sendsure_k64_whole_windows_of_links_holds : PySem.Challenge.rw_sendsure_k64_whole_windows_of_links.Holds := by
  w_on; o_law
  refine HandSHeadRun.head_any (r := OpenLaw.row PySem.Challenge.rw_sendsure_k64_whole_windows_of_links) (q := view (OpenLaw.row PySem.Challenge.rw_sendsure_k64_whole_windows_of_links).prog [11]) (H := Ow.hkD) (ob := Ow.obD) (M := 400) (loose := ["sendable", "number_taken", "handed_on", "data_taken", "answer_taken", "_law_feed", "_law_draw", "_law_same", "_law_due"]) (d := HandSHeadRun.topDef (OpenLaw.row PySem.Challenge.rw_sendsure_k64_whole_windows_of_links).prog 11) (kwd := []) Ow.obD_eq
    (by kernel_rfl) (fun s => by kernel_rfl) Ow.runD (by kernel_rfl) (by kernel_rfl) (by kernel_rfl) (by rfl) (by first | assumption | decide +kernel) (by decide +kernel) ⟨rfl, rfl, rfl, rfl, rfl, by decide +kernel⟩ ?hw ?hc
  case hw => w_witness2
  case hc =>
    refine Ow.law_walk (l := PySem.Challenge.rw_sendsure_k64_whole_windows_of_links) (n := 63) (k := 7) (x := "script") rfl (by decide) (by kernel_rfl) ⟨rfl, by decide, by decide⟩ ?F
    intro w mg fa h Y G hmg0
    obtain ⟨K, KX, c⟩ := Y
    have hmg : mg ("law" : PySem.Str) = some (.ref fa) := by
      have e : (HandSHeadRun.topDef (OpenLaw.row PySem.Challenge.rw_sendsure_k64_whole_windows_of_links).prog 11).name = ("law" : PySem.Str) := by kernel_rfl
      rw [← e]
      exact hmg0
    obtain ⟨fd, hb, hF⟩ := Ow.factsD (P := (PySem.Challenge.rw_sendsure_k64_whole_windows_of_links).prog) (w := w) KX G hmg c
    exact ⟨K, fd, _, KX, hb, Ow.law_true, hF⟩
