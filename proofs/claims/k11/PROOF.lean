import PyProof.Rows.All
import Wide.All
import OpenK.AllK
import Wide.FinOn
import HandS.ForMost
import HandS.ForExc
import KE.SortData
import KE.DataEq
import KE.DataFind
import KE.DataIsa
import KE.DataMinMax
import KE.DataAny
import HandS.TupAny
import HandS.TupMul
import HandS.Strs
import KE.DataCmp
import HandS.Style
import HandS.Text
import HandS.IsInst
import HandS.Conv
import HandS.DictTup
import HandS.ExcIs
import HandS.SetFor
import KE.Datum
import PySem.Challenge.RW_onerule_k11_whole_things
section
set_option Elab.async false
set_option linter.all false
set_option maxRecDepth 100000
set_option maxHeartbeats 4000000
/-! ## Mi: a pure meaning of the Python that the laws use, over PyData; what a piece of code means as a function of its names' values; the state relation; what the layer's readings become. -/
namespace Mi
open PySem PySem.Spec L2

abbrev D := PyData

/-- what a piece of code comes to: a value, a refusal of the class so named, or nothing that we speak of. The number: how long the town's list is -/
inductive Res (α : Type) where
  | ok (a : α) (n : Nat)
  | err (c : Str) (n : Nat)
  | bad
def M (α : Type) : Type := Nat → Res α
section
variable {α β γ : Type}
def M.ret (a : α) : M α := fun n => .ok a n
def M.bnd (m : M α) (f : α → M β) : M β := fun n => match m n with
  | .ok a k => f a k
  | .err c k => .err c k
  | .bad => .bad
instance : Monad M where
  pure := M.ret
  bind := M.bnd
def bad : M α := fun _ => .bad
def refuse (c : Str) : M α := fun n => .err c n
def need (b : Bool) : M Unit := if b = true then M.ret () else bad
def noErr (m : M α) : M α := fun n => match m n with
  | .err _ _ => .bad
  | r => r
def ofOpt (o : Option α) : M α := match o with
  | some a => M.ret a
  | none => bad
theorem ret_bnd (a : α) (f : α → M β) : (pure a : M α) >>= f = f a := rfl
theorem bnd_ret (m : M α) : m >>= pure = m := by
  funext n
  show M.bnd m M.ret n = m n
  unfold M.bnd M.ret
  cases m n <;> rfl
theorem bnd_bnd (m : M α) (f : α → M β) (g : β → M γ) : (m >>= f) >>= g = m >>= fun a => f a >>= g := by
  funext n
  show M.bnd (M.bnd m f) g n = M.bnd m (fun a => M.bnd (f a) g) n
  unfold M.bnd
  cases m n <;> rfl
theorem bad_bnd (f : α → M β) : (bad : M α) >>= f = bad := rfl
theorem refuse_bnd (c : Str) (f : α → M β) : (refuse c : M α) >>= f = refuse c := rfl
theorem need_true (f : Unit → M β) : (need true) >>= f = f () := rfl
theorem noErr_ret (a : α) : noErr (pure a : M α) = pure a := rfl
end

/-! ### what is handed about -/
def keyD : Key → D
  | .inl i => .int i
  | .inr x => .str x
def keysD (ks : List Key) : D := .tuple (ks.map keyD)
def townD : D := .dict [(.none, .none)]
def excD (c : Str) : D := .dict [(.none, .str c)]
/-- the law's script -/
def scrD (ns : List Int) : D := .dict [(.none, .list (ns.map PyData.int))]
/-- an exception's object, kept as a value -/
def ExcO (cls : Value) (a : Addr) : HO := .ext fun h => ∃ oe : Obj, h.get? a = some oe ∧ oe.cls = cls ∧ oe.dict = none ∧ ∃ vs, oe.data = .fields vs

section
variable (K : PySem.W.Frag) (mg : Str → Option Value) (τ : Option Addr) (G : Hp)
mutual
/-- v stands for d, by what the heap G says -/
inductive Rep : V → D → Prop
  | non : Rep .non .none
  | bl (b : Bool) : Rep (.bl b) (.bool b)
  | int (i : Int) : Rep (.int i) (.int i)
  | str (x : Str) : Rep (.str x) (.str x)
  | lst {a : Addr} {vs : List V} {ds : List D} : G a = some (.lst vs) → Reps vs ds → Rep (.ref a) (.list ds)
  | tup {a : Addr} {vs : List V} {ds : List D} : SqT K G a vs → Reps vs ds → Rep (.ref a) (.tuple ds)
  | dk {a : Addr} {kvs : List (Key × V)} {ds : List (D × D)} : Rd G a (.dK kvs) → RepK kvs ds → Rep (.ref a) (.dict ds)
  | dt {a : Addr} {kvs : List (List Key × V)} {ds : List (D × D)} : Rd G a (.dT kvs) → RepT kvs ds → Rep (.ref a) (.dict ds)
  | town {a : Addr} : τ = some a → Rep (.ref a) townD
  | scr {a : Addr} {ns : List Int} : ((∃ o, G a = some (.frz o (.lst (ns.map V.int)))) ∨ SqL K (fun _ => none) a (ns.map V.int)) → Rep (.ref a) (scrD ns)
  | exc {a C : Addr} {c : Str} : mg c = some (.ref C) → G a = some (ExcO (.ref C) a) → Rep (.ref a) (excD c)
inductive Reps : List V → List D → Prop
  | nil : Reps [] []
  | cons {v : V} {vs : List V} {d : D} {ds : List D} : Rep v d → Reps vs ds → Reps (v :: vs) (d :: ds)
inductive RepK : List (Key × V) → List (D × D) → Prop
  | nil : RepK [] []
  | cons {k : Key} {v : V} {vs : List (Key × V)} {d : D} {ds : List (D × D)} : Rep v d → RepK vs ds → RepK ((k, v) :: vs) ((keyD k, d) :: ds)
inductive RepT : List (List Key × V) → List (D × D) → Prop
  | nil : RepT [] []
  | cons {k : List Key} {v : V} {vs : List (List Key × V)} {d : D} {ds : List (D × D)} : Rep v d → RepT vs ds → RepT ((k, v) :: vs) ((keysD k, d) :: ds)
end
end

/-- a dict may be locked -/
def Lk : HO → Prop
  | .dK _ => True
  | .dT _ => True
  | _ => False
/-- what G says, H bears (a dict perhaps locked) -/
def Le (G H : Hp) : Prop := ∀ a u, G a = some u → H a = some u ∨ (Lk u ∧ ∃ o, H a = some (.frz o u))
/-- all but the town's list stands -/
def Keep (τ : Option Addr) (H H' : Hp) : Prop := ∀ b o, H b = some o → some b ≠ τ → H' b = some o
/-- from (H, G) to (H', G'): G has grown by new objects -/
structure Step (τ : Option Addr) (H G H' G' : Hp) : Prop where
  keep : Keep τ H H'
  sub : ∀ a u, G a = some u → G' a = some u
  new : ∀ a u, G' a = some u → G a = some u ∨ H a = none
  le : Le G' H'
  nt : ∀ a, τ = some a → G' a = none
def Town (τ : Option Addr) (n : Nat) (H : Hp) : Prop := ∀ a, τ = some a → H a = some (.lst (List.replicate n (.int 0)))

section
variable {K : PySem.W.Frag} {mg : Str → Option Value} {τ : Option Addr} {G G' G1 G2 H H' H1 H2 : Hp}
theorem Le.refl : Le G G := fun _ _ h => .inl h
theorem rd_sub (s : ∀ a u, G a = some u → G' a = some u) : Le G G' := fun a u h => .inl (s a u h)
theorem Le.rd (l : Le G H) {a : Addr} {u : HO} (h : Rd G a u) : Rd H a u := by
  rcases h with h | ⟨o, h⟩
  · rcases l a u h with q | ⟨_, q⟩
    · exact .inl q
    · exact .inr q
  · rcases l a _ h with q | ⟨q, _⟩
    · exact .inr ⟨o, q⟩
    · exact q.elim
theorem Le.list (l : Le G H) {a : Addr} {xs : List V} (h : G a = some (.lst xs)) : H a = some (.lst xs) := (l a _ h).resolve_right fun q => q.1.elim
theorem Le.tuple (l : Le G H) {a : Addr} {xs : List V} (h : G a = some (.tup xs)) : H a = some (.tup xs) := (l a _ h).resolve_right fun q => q.1.elim
theorem Le.none (l : Le G H) {a : Addr} (h : H a = Option.none) : G a = Option.none := by
  cases e : G a with
  | none => rfl
  | some u => rcases l a u e with z | ⟨_, _, z⟩ <;> (rw [h] at z; cases z)
theorem sql_le (l : Le G G') {a : Addr} {vs : List V} (h : SqL K G a vs) : SqL K G' a vs := by
  rcases h with h | h
  · exact .inl (l.rd h)
  · exact .inr h
theorem sqt_le (l : Le G G') {a : Addr} {vs : List V} (h : SqT K G a vs) : SqT K G' a vs := by
  rcases h with h | h
  · exact .inl (l.rd h)
  · exact .inr h
theorem scr_at {a : Addr} {vs : List V} (l : Le G H) (h : (∃ o, G a = some (.frz o (.lst vs))) ∨ SqL K (fun _ => none) a vs) : SqL K H a vs := by
  rcases h with ⟨o, h⟩ | (h | ⟨_, h⟩) | h
  · exact .inl (l.rd (.inr ⟨o, h⟩))
  · cases h
  · cases h
  · exact .inr h
mutual
theorem Rep.sub (s : ∀ a u, G a = some u → G' a = some u) : ∀ {v : V} {d : D}, Rep K mg τ G v d → Rep K mg τ G' v d
  | _, _, .non => .non
  | _, _, .bl b => .bl b
  | _, _, .int i => .int i
  | _, _, .str x => .str x
  | _, _, .lst h r => .lst (s _ _ h) (Reps.sub s r)
  | _, _, .tup h r => .tup (sqt_le (rd_sub s) h) (Reps.sub s r)
  | _, _, .dk h r => .dk ((rd_sub s).rd h) (RepK.sub s r)
  | _, _, .dt h r => .dt ((rd_sub s).rd h) (RepT.sub s r)
  | _, _, .town h => .town h
  | _, _, .scr h => .scr (h.imp (fun ⟨o, h⟩ => ⟨o, s _ _ h⟩) id)
  | _, _, .exc h g => .exc h (s _ _ g)
theorem Reps.sub (s : ∀ a u, G a = some u → G' a = some u) : ∀ {v : List V} {d : List D}, Reps K mg τ G v d → Reps K mg τ G' v d
  | _, _, .nil => .nil
  | _, _, .cons h r => .cons (Rep.sub s h) (Reps.sub s r)
theorem RepK.sub (s : ∀ a u, G a = some u → G' a = some u) : ∀ {v : List (Key × V)} {d : List (D × D)}, RepK K mg τ G v d → RepK K mg τ G' v d
  | _, _, .nil => .nil
  | _, _, .cons h r => .cons (Rep.sub s h) (RepK.sub s r)
theorem RepT.sub (s : ∀ a u, G a = some u → G' a = some u) : ∀ {v : List (List Key × V)} {d : List (D × D)}, RepT K mg τ G v d → RepT K mg τ G' v d
  | _, _, .nil => .nil
  | _, _, .cons h r => .cons (Rep.sub s h) (RepT.sub s r)
end
theorem Keep.refl : Keep τ H H := fun _ _ h _ => h
theorem Keep.trans (a : Keep τ H H1) (b : Keep τ H1 H2) : Keep τ H H2 := fun x o h n => b x o (a x o h n) n
theorem Step.refl (l : Le G H) (nt : ∀ a, τ = some a → G a = none) : Step τ H G H G := ⟨Keep.refl, fun _ _ h => h, fun _ _ h => .inl h, l, nt⟩
theorem Step.trans (a : Step τ H G H1 G1) (b : Step τ H1 G1 H2 G2) : Step τ H G H2 G2 where
  keep := a.keep.trans b.keep
  sub := fun x u h => b.sub x u (a.sub x u h)
  new := fun x u h => by
    rcases b.new x u h with q | q
    · exact a.new x u q
    · refine .inr ?_
      cases e : H x with
      | none => rfl
      | some o =>
        by_cases z : some x = τ
        · have w := b.nt x z.symm
          rw [h] at w
          cases w
        · have w := a.keep x o e z
          rw [q] at w
          cases w
  le := b.le
  nt := b.nt
theorem Reps.length : ∀ {vs : List V} {ds : List D}, Reps K mg τ G vs ds → vs.length = ds.length
  | _, _, .nil => rfl
  | _, _, .cons _ r => congrArg Nat.succ r.length
theorem Reps.get : ∀ {vs : List V} {ds : List D} {i : Nat} {d : D}, Reps K mg τ G vs ds → ds[i]? = some d → ∃ v, vs[i]? = some v ∧ Rep K mg τ G v d
  | _, _, 0, _, .cons h _, e => by
    simp only [List.getElem?_cons_zero, Option.some.injEq] at e
    exact ⟨_, rfl, e ▸ h⟩
  | _, _, i + 1, _, .cons _ r, e => by
    simp only [List.getElem?_cons_succ] at e
    obtain ⟨v, h1, h2⟩ := r.get e
    exact ⟨v, by simpa using h1, h2⟩
  | _, _, _, _, .nil, e => by simp at e
theorem Reps.get' : ∀ {vs : List V} {ds : List D} {i : Nat} {v : V}, Reps K mg τ G vs ds → vs[i]? = some v → ∃ d, ds[i]? = some d ∧ Rep K mg τ G v d
  | _, _, 0, _, .cons h _, e => by
    simp only [List.getElem?_cons_zero, Option.some.injEq] at e
    exact ⟨_, rfl, e ▸ h⟩
  | _, _, i + 1, _, .cons _ r, e => by
    simp only [List.getElem?_cons_succ] at e
    obtain ⟨v, h1, h2⟩ := r.get' e
    exact ⟨v, by simpa using h1, h2⟩
  | _, _, _, _, .nil, e => by simp at e
theorem Reps.append : ∀ {vs ws : List V} {ds es : List D}, Reps K mg τ G vs ds → Reps K mg τ G ws es → Reps K mg τ G (vs ++ ws) (ds ++ es)
  | _, _, _, _, .nil, q => q
  | _, _, _, _, .cons h r, q => .cons h (r.append q)
theorem Reps.one {v : V} {d : D} (h : Rep K mg τ G v d) : Reps K mg τ G [v] [d] := .cons h .nil
theorem Reps.take : ∀ {vs : List V} {ds : List D} (n : Nat), Reps K mg τ G vs ds → Reps K mg τ G (vs.take n) (ds.take n)
  | _, _, 0, _ => by simpa using Reps.nil
  | _, _, _ + 1, .nil => .nil
  | _, _, n + 1, .cons h r => .cons h (r.take n)
theorem Reps.drop : ∀ {vs : List V} {ds : List D} (n : Nat), Reps K mg τ G vs ds → Reps K mg τ G (vs.drop n) (ds.drop n)
  | _, _, 0, r => by simpa using r
  | _, _, _ + 1, .nil => .nil
  | _, _, n + 1, .cons _ r => by simpa using r.drop n
theorem Reps.reverse : ∀ {vs : List V} {ds : List D}, Reps K mg τ G vs ds → Reps K mg τ G vs.reverse ds.reverse
  | _, _, .nil => .nil
  | _, _, .cons h r => by
    rw [List.reverse_cons, List.reverse_cons]
    exact r.reverse.append (.one h)
theorem Reps.set : ∀ {vs : List V} {ds : List D} {v : V} {d : D} (i : Nat), Reps K mg τ G vs ds → Rep K mg τ G v d → Reps K mg τ G (vs.set i v) (ds.set i d)
  | _, _, _, _, _, .nil, _ => .nil
  | _, _, _, _, 0, .cons _ r, h => .cons h r
  | _, _, _, _, i + 1, .cons q r, h => .cons q (r.set i h)
theorem Reps.ints : ∀ ns : List Int, Reps K mg τ G (ns.map V.int) (ns.map PyData.int)
  | [] => .nil
  | n :: r => .cons (.int n) (Reps.ints r)

/-- G with a new object: from H to H with it -/
theorem Step.fresh {p : Addr} {o : HO} (l : Le G H) (nt : ∀ a, τ = some a → G a = none) (tw : ∀ a, τ = some a → H a ≠ none) (hp : H p = none) : Step τ H G (upd H p o) (upd G p o) where
  keep := fun b q e _ => by
    rw [upd_ne (ne_of_none e hp)]
    exact e
  sub := fun b u e => by
    have : b ≠ p := by
      rintro rfl
      rw [l.none hp] at e
      cases e
    rw [upd_ne this]
    exact e
  new := fun b u e => by
    by_cases z : b = p
    · subst z
      exact .inr hp
    · rw [upd_ne z] at e
      exact .inl e
  le := fun b u e => by
    by_cases z : b = p
    · subst z
      rw [upd_same] at e ⊢
      exact .inl e
    · rw [upd_ne z] at e ⊢
      exact l b u e
  nt := fun a e => by
    have : a ≠ p := by
      rintro rfl
      exact tw a e hp
    rw [upd_ne this]
    exact nt a e
/-- the heap grows by an object that G does not tell of -/
theorem Step.other {p : Addr} {o : HO} (l : Le G H) (nt : ∀ a, τ = some a → G a = none) (hp : H p = none) : Step τ H G (upd H p o) G where
  keep := fun b q e _ => by
    rw [upd_ne (ne_of_none e hp)]
    exact e
  sub := fun _ _ e => e
  new := fun _ _ e => .inl e
  le := fun b u e => by
    have z : b ≠ p := by
      rintro rfl
      rw [l.none hp] at e
      cases e
    rw [upd_ne z]
    exact l b u e
  nt := nt
theorem Town.ne {n : Nat} (t : Town τ n H) : ∀ a, τ = some a → H a ≠ none := fun a e z => by
  rw [t a e] at z
  cases z
theorem Town.upd {n : Nat} {p : Addr} {o : HO} (t : Town τ n H) (hp : H p = none) : Town τ n (L2.upd H p o) := fun a e => by
  rw [upd_ne (ne_of_none (t a e) hp)]
  exact t a e
end
end Mi

end

section
set_option Elab.async false
set_option linter.all false
set_option maxRecDepth 100000
set_option maxHeartbeats 4000000
namespace Mi
open PySem PySem.Spec L2

/-! ### the names' values -/
/-- what a name holds: nothing, a value that stands, a list of ours that stands, a list of ours that is still filled, a list of such lists, a dict of ours (keys ints and texts; keys tuples) -/
inductive Sl where
  | no
  | fz (d : D)
  | sh (ds : List D)
  | ow (ds : List D)
  | ow2 (dss : List (List D))
  | dk (ks : List Key) (ds : List D)
  | dt (ks : List (List Key)) (ds : List D)
abbrev Env := List Sl
def Env.at (ρ : Mi.Env) (i : Nat) : Sl := ρ.getD i .no

section
variable (K : PySem.W.Frag) (mg : Str → Option Value) (τ : Option Addr) (H0 G H : Hp)
inductive Rows2 : List Addr → List (List D) → Prop
  | nil : Rows2 [] []
  | cons {b : Addr} {bs : List Addr} {vs : List V} {ds : List D} {dss : List (List D)} : H b = some (.lst vs) → Reps K mg τ G vs ds → Rows2 bs dss → Rows2 (b :: bs) (ds :: dss)
def SlotOk (x : Option (Option V)) : Sl → Prop
  | .no => True
  | .fz d => ∃ v, x = some (some v) ∧ Rep K mg τ G v d
  | .sh ds => ∃ a vs, x = some (some (.ref a)) ∧ G a = some (.lst vs) ∧ Reps K mg τ G vs ds ∧ H0 a = none
  | .ow ds => ∃ a vs, x = some (some (.ref a)) ∧ H a = some (.lst vs) ∧ Reps K mg τ G vs ds
  | .ow2 dss => ∃ (a : Addr) (bs : List Addr), x = some (some (.ref a)) ∧ H a = some (.lst (bs.map V.ref)) ∧ bs.Nodup ∧ a ∉ bs ∧ Rows2 K mg τ G H bs dss
  | .dk ks ds => ∃ a kvs, x = some (some (.ref a)) ∧ H a = some (.dK kvs) ∧ kvs.map (·.1) = ks ∧ Reps K mg τ G (kvs.map (·.2)) ds
  | .dt ks ds => ∃ a kvs, x = some (some (.ref a)) ∧ H a = some (.dT kvs) ∧ kvs.map (·.1) = ks ∧ Reps K mg τ G (kvs.map (·.2)) ds
/-- the objects that a name has for itself -/
def CellOf (x : Option (Option V)) : Sl → Addr → Prop
  | .ow _, a => x = some (some (.ref a))
  | .dk _ _, a => x = some (some (.ref a))
  | .dt _ _, a => x = some (some (.ref a))
  | .ow2 _, a => x = some (some (.ref a)) ∨ ∃ (r : Addr) (bs : List Addr), x = some (some (.ref r)) ∧ H r = some (.lst (bs.map V.ref)) ∧ a ∈ bs
  | _, _ => False
end
/-- the state: since the entry (H0, G0) -/
structure Rel (K : PySem.W.Frag) (mg : Str → Option Value) (τ : Option Addr) (H0 G0 G H : Hp) (σ : L2.St) (ρ : Mi.Env) (n : Nat) : Prop where
  step : Step τ H0 G0 H G
  town : Town τ n H
  len : ρ.length = σ.length
  slots : ∀ i, SlotOk K mg τ H0 G H σ[i]? (ρ.at i)
  cell : ∀ i a, CellOf H σ[i]? (ρ.at i) a → G a = none ∧ H0 a = none ∧ some a ≠ τ
  apart : ∀ i j a, CellOf H σ[i]? (ρ.at i) a → CellOf H σ[j]? (ρ.at j) a → i = j
section
variable {K : PySem.W.Frag} {mg : Str → Option Value} {τ : Option Addr} {H0 G0 G G' G1 H H' H1 : Hp} {σ : L2.St} {ρ : Mi.Env} {n n1 : Nat}
theorem Rows2.sub (s : ∀ a u, G a = some u → G' a = some u) : ∀ {bs : List Addr} {dss : List (List D)}, (∀ b ∈ bs, ∀ o, H b = some o → H' b = some o) → Rows2 K mg τ G H bs dss → Rows2 K mg τ G' H' bs dss
  | _, _, _, .nil => .nil
  | _, _, k, .cons h r q => .cons (k _ List.mem_cons_self _ h) (r.sub s) (Rows2.sub s (fun b hb => k b (List.mem_cons_of_mem _ hb)) q)
theorem Rows2.at : ∀ {bs : List Addr} {dss : List (List D)}, Rows2 K mg τ G H bs dss → ∀ b ∈ bs, ∃ vs, H b = some (.lst vs)
  | _, _, .nil, _, hb => nomatch hb
  | _, _, .cons h r q, b, hb => by
    rcases List.mem_cons.mp hb with e | hb
    · exact e ▸ ⟨_, h⟩
    · exact q.at b hb
theorem cell_there {x : Option (Option V)} : ∀ {s : Sl} {a : Addr}, SlotOk K mg τ H0 G H x s → CellOf H x s a → ∃ o, H a = some o := by
  intro s a ok c
  cases s with
  | no => exact c.elim
  | fz d => exact c.elim
  | sh ds => exact c.elim
  | ow ds =>
    obtain ⟨b, vs, e, h, _⟩ := ok
    have c : x = some (some (.ref a)) := c
    rw [e] at c
    cases c
    exact ⟨_, h⟩
  | dk ks ds =>
    obtain ⟨b, vs, e, h, _⟩ := ok
    have c : x = some (some (.ref a)) := c
    rw [e] at c
    cases c
    exact ⟨_, h⟩
  | dt ks ds =>
    obtain ⟨b, vs, e, h, _⟩ := ok
    have c : x = some (some (.ref a)) := c
    rw [e] at c
    cases c
    exact ⟨_, h⟩
  | ow2 dss =>
    obtain ⟨b, bs, e, h, nd, nb, r⟩ := ok
    rcases c with c | ⟨r', bs', e', h', hm⟩
    · rw [e] at c
      cases c
      exact ⟨_, h⟩
    · rw [e] at e'
      cases e'
      rw [h] at h'
      have z : bs = bs' := by
        have q : bs.map V.ref = bs'.map V.ref := by injection h' with h'; injection h'
        exact (List.map_inj_right (fun x y e => by cases e; rfl)).mp q
      subst z
      obtain ⟨vs, q⟩ := r.at a hm
      exact ⟨_, q⟩
/-- what the step changes nothing of -/
theorem slot_step {x : Option (Option V)} (st : Step τ H G H1 G1) : ∀ {s : Sl}, SlotOk K mg τ H0 G H x s → (∀ a, CellOf H x s a → some a ≠ τ) → SlotOk K mg τ H0 G1 H1 x s := by
  intro s ok nc
  cases s with
  | no => trivial
  | fz d =>
    obtain ⟨v, e, r⟩ := ok
    exact ⟨v, e, r.sub st.sub⟩
  | sh ds =>
    obtain ⟨a, vs, e, g, r, h0⟩ := ok
    exact ⟨a, vs, e, st.sub _ _ g, r.sub st.sub, h0⟩
  | ow ds =>
    obtain ⟨b, vs, e, h, r⟩ := ok
    exact ⟨b, vs, e, st.keep _ _ h (nc b e), r.sub st.sub⟩
  | dk ks ds =>
    obtain ⟨b, vs, e, h, q, r⟩ := ok
    exact ⟨b, vs, e, st.keep _ _ h (nc b e), q, r.sub st.sub⟩
  | dt ks ds =>
    obtain ⟨b, vs, e, h, q, r⟩ := ok
    exact ⟨b, vs, e, st.keep _ _ h (nc b e), q, r.sub st.sub⟩
  | ow2 dss =>
    obtain ⟨b, bs, e, h, nd, nb, r⟩ := ok
    exact ⟨b, bs, e, st.keep _ _ h (nc b (.inl e)), nd, nb, r.sub st.sub fun c hc o q => st.keep _ _ q (nc c (.inr ⟨b, bs, e, h, hc⟩))⟩
theorem refs_inj {bs bs' : List Addr} (h : some (HO.lst (bs.map V.ref)) = some (HO.lst (bs'.map V.ref))) : bs = bs' := by
  have q : bs.map V.ref = bs'.map V.ref := by injection h with h; injection h
  exact (List.map_inj_right (fun x y e => by cases e; rfl)).mp q
theorem cell_step {x : Option (Option V)} (st : Step τ H G H1 G1) : ∀ {s : Sl}, SlotOk K mg τ H0 G H x s → (∀ a, CellOf H x s a → some a ≠ τ) → ∀ a, CellOf H1 x s a → CellOf H x s a := by
  intro s ok nc a c
  cases s with
  | no => exact c.elim
  | fz d => exact c.elim
  | sh ds => exact c.elim
  | ow ds => exact c
  | dk ks ds => exact c
  | dt ks ds => exact c
  | ow2 dss =>
    obtain ⟨b, bs, e, h, nd, nb, r⟩ := ok
    rcases c with c | ⟨r', bs', e', h', hm⟩
    · exact .inl c
    · rw [e] at e'
      cases e'
      have z := (st.keep _ _ h (nc b (.inl e))).symm.trans h'
      exact .inr ⟨b, bs', e, by rw [h, z], hm⟩
theorem Rel.next (R : Rel K mg τ H0 G0 G H σ ρ n) (st : Step τ H G H1 G1) (tw : Town τ n1 H1) : Rel K mg τ H0 G0 G1 H1 σ ρ n1 where
  step := R.step.trans st
  town := tw
  len := R.len
  slots := fun i => slot_step st (R.slots i) fun a c => (R.cell i a c).2.2
  cell := fun i a c => by
    have c0 := cell_step st (R.slots i) (fun a c => (R.cell i a c).2.2) a c
    obtain ⟨h1, h2, h3⟩ := R.cell i a c0
    refine ⟨?_, h2, h3⟩
    cases e : G1 a with
    | none => rfl
    | some u =>
      rcases st.new a u e with q | q
      · rw [h1] at q
        cases q
      · obtain ⟨o, w⟩ := cell_there (R.slots i) c0
        rw [q] at w
        cases w
  apart := fun i j a c d => R.apart i j a (cell_step st (R.slots i) (fun a c => (R.cell i a c).2.2) a c) (cell_step st (R.slots j) (fun a c => (R.cell j a c).2.2) a d)
theorem Rel.le (R : Rel K mg τ H0 G0 G H σ ρ n) : Le G H := R.step.le
theorem Rel.nt (R : Rel K mg τ H0 G0 G H σ ρ n) : ∀ a, τ = some a → G a = none := R.step.nt
theorem Rel.refl (R : Rel K mg τ H0 G0 G H σ ρ n) : Step τ H G H G := Step.refl R.le R.nt
/-- fewer names are known -/
theorem Rel.weak {σ' : L2.St} {ρ' : Mi.Env} (R : Rel K mg τ H0 G0 G H σ ρ n) (hl : ρ'.length = σ'.length) (h : ∀ i, ρ'.at i = .no ∨ (ρ'.at i = ρ.at i ∧ σ'[i]? = σ[i]?)) : Rel K mg τ H0 G0 G H σ' ρ' n where
  step := R.step
  town := R.town
  len := hl
  slots := fun i => by
    rcases h i with e | ⟨e, e'⟩
    · rw [e]; trivial
    · rw [e, e']; exact R.slots i
  cell := fun i a c => by
    rcases h i with e | ⟨e, e'⟩
    · rw [e] at c; exact c.elim
    · rw [e, e'] at c; exact R.cell i a c
  apart := fun i j a c d => by
    rcases h i with e | ⟨e, e'⟩
    · rw [e] at c; exact c.elim
    · rcases h j with f | ⟨f, f'⟩
      · rw [f] at d; exact d.elim
      · rw [e, e'] at c
        rw [f, f'] at d
        exact R.apart i j a c d
end

/-! ### what is wanted of an outcome -/
section
variable {α β : Type}
def Post (mg : Str → Option Value) (τ : Option Addr) (H G : Hp) (E : XK) (rep : Hp → β → α → Prop) (r : Res α) (Q : β → Hp → Prop) : Prop :=
  match r with
  | .ok d n => ∀ v H' G', Step τ H G H' G' → Town τ n H' → rep G' v d → Q v H'
  | .err c n => ∀ C H', mg c = some (.ref C) → Keep τ H H' → Town τ n H' → E (.ref C) none H'
  | .bad => False
variable {γ δ : Type} {mg : Str → Option Value} {τ : Option Addr} {H G H1 G1 : Hp} {E : XK} {rep : Hp → β → α → Prop} {rep2 : Hp → γ → δ → Prop} {Q : β → Hp → Prop} {Q2 : γ → Hp → Prop}
theorem Post.shift (st : Step τ H G H1 G1) : ∀ {r : Res α}, Post mg τ H G E rep r Q → Post mg τ H1 G1 E rep r Q
  | .ok d n, h => fun v H' G' s t p => h v H' G' (st.trans s) t p
  | .err c n, h => fun C H' m k t => h C H' m (st.keep.trans k) t
  | .bad, h => h
theorem Post.mono {Q' : β → Hp → Prop} (i : ∀ v H', Q v H' → Q' v H') : ∀ {r : Res α}, Post mg τ H G E rep r Q → Post mg τ H G E rep r Q'
  | .ok d n, h => fun v H' G' s t p => i _ _ (h v H' G' s t p)
  | .err c n, h => h
  | .bad, h => h
/-- two in a row -/
theorem Post.bind {f : M α} {g : α → M δ} {n : Nat} (h : Post mg τ H G E rep2 ((f >>= g) n) Q2) :
    Post mg τ H G E rep (f n) fun x H1 => ∃ a n1 G1, Step τ H G H1 G1 ∧ Town τ n1 H1 ∧ rep G1 x a ∧ Post mg τ H1 G1 E rep2 (g a n1) Q2 := by
  have h' : Post mg τ H G E rep2 (M.bnd f g n) Q2 := h
  unfold M.bnd at h'
  cases e : f n with
  | ok a k =>
    rw [e] at h'
    exact fun v H' G' s t p => ⟨a, k, G', s, t, p, Post.shift s h'⟩
  | err c k =>
    rw [e] at h'
    exact h'
  | bad =>
    rw [e] at h'
    exact h'.elim
/-- at the value itself -/
theorem Post.ret {d : α} {n : Nat} {v : β} (h : Post mg τ H G E rep ((pure d : M α) n) Q) (l : Step τ H G H G) (t : Town τ n H) (p : rep G v d) : Q v H := h v H G l t p
end

/-! ### the readings that a meaning gives -/
section
variable {α β : Type} (K : PySem.W.Frag) (mg : Str → Option Value)
/-- generic: a value of whatever kind -/
def cG (rep : (τ : Option Addr) → Hp → β → α → Prop) (E : L2.St → XK) (f : Mi.Env → M α) : L2.St → Hp → (β → Hp → Prop) → Prop := fun σ H Q =>
  ∃ τ H0 G0 G ρ n, Rel K mg τ H0 G0 G H σ ρ n ∧ Post mg τ H G (E σ) (rep τ) (f ρ n) Q
abbrev cT (E : L2.St → XK) (f : Mi.Env → M D) : TE := cG K mg (Rep K mg) E f
abbrev cB (E : L2.St → XK) (f : Mi.Env → M Bool) : TT := cG K mg (fun _ _ b c => b = c) E f
abbrev cA (E : L2.St → XK) (f : Mi.Env → M (List D)) : TA := cG K mg (Reps K mg) E f
/-- a new list, not yet told of -/
def PostF (τ : Option Addr) (H G : Hp) (E : XK) (r : Res (List D)) (Q : VK) : Prop :=
  match r with
  | .ok ds n => ∀ p vs H' G', Step τ H G H' G' → Town τ n H' → H p = none → H' p = some (.lst vs) → G' p = none → Reps K mg τ G' vs ds → Q (.ref p) H'
  | .err c n => ∀ C H', mg c = some (.ref C) → Keep τ H H' → Town τ n H' → E (.ref C) none H'
  | .bad => False
def cF (E : L2.St → XK) (f : Mi.Env → M (List D)) : TE := fun σ H Q => ∃ τ H0 G0 G ρ n, Rel K mg τ H0 G0 G H σ ρ n ∧ PostF K mg τ H G (E σ) (f ρ n) Q
end
section
variable {X : Cx} {e : Expr} {t t' : TE} {u u' : TT} {a a' : TA}
theorem pe_mono (h : PE X e t) (i : ∀ σ H Q, t' σ H Q → t σ H Q) : PE X e t' := ⟨fun pins s σ H Q I q => h.run pins s σ H Q I (i σ H Q q)⟩
theorem pt_mono (h : PT X e u) (i : ∀ σ H Q, u' σ H Q → u σ H Q) : PT X e u' := ⟨fun pins s σ H Q I q => h.run pins s σ H Q I (i σ H Q q)⟩
theorem pw_mono (h : PW X e u) (i : ∀ σ H Q, u' σ H Q → u σ H Q) : PW X e u' := ⟨fun wh pins s σ H Q I q => h.run wh pins s σ H Q I (i σ H Q q)⟩
theorem pa_mono {es : List Expr} (h : PA X es a) (i : ∀ σ H Q, a' σ H Q → a σ H Q) : PA X es a' := ⟨fun pos pins s σ H Q I q => h.run pos pins s σ H Q I (i σ H Q q)⟩
theorem ps_mono {st : Stmt} {t t' : TS} (h : PS X st t) (i : ∀ D σ H, t' D σ H → t D σ H) : PS X st t' := ⟨fun pins s σ H D I q => h.run pins s σ H D I (i D σ H q)⟩
theorem pss_mono {st : List Stmt} {t t' : TS} (h : PSs X st t) (i : ∀ D σ H, t' D σ H → t D σ H) : PSs X st t' := ⟨fun pins s σ H D I q => h.run pins s σ H D I (i D σ H q)⟩
end

/-! ### expressions -/
section
variable {X : Cx} {E : L2.St → XK} {e a b c : Expr} {pos : Pos} {fa fb fc : Mi.Env → M D}
def eVar (i : Nat) : Mi.Env → M D := fun ρ => match ρ.at i with
  | .fz d => pure d
  | .sh ds => pure (.list ds)
  | _ => bad
def eC (d : D) : Mi.Env → M D := fun _ => pure d
theorem sl_var {K : PySem.W.Frag} {mg : Str → Option Value} {τ : Option Addr} {H0 G0 G H : Hp} {σ : L2.St} {ρ : Mi.Env} {n : Nat} {i : Nat} {Ex : XK} {Q : VK} (R : Rel K mg τ H0 G0 G H σ ρ n) (h : Post mg τ H G Ex (Rep K mg τ) (eVar i ρ n) Q) : ∃ v, σ[i]? = some (some v) ∧ Q v H := by
  have ok := R.slots i
  unfold eVar at h
  cases q : ρ.at i with
  | fz d =>
    rw [q] at ok h
    obtain ⟨v, e, r⟩ := ok
    exact ⟨v, e, Post.ret h R.refl R.town r⟩
  | sh ds =>
    rw [q] at ok h
    obtain ⟨a, vs, e, g, r, _⟩ := ok
    exact ⟨_, e, Post.ret h R.refl R.town (.lst g r)⟩
  | _ =>
    rw [q] at h
    exact h.elim
theorem x_var (i : Nat) {x : Str} (hN : X.N[i]? = some x := by rfl) (hv : Vis X.env.scope x := by first | exact Or.inl rfl | exact Or.inr (Or.inl rfl) | exact Or.inr (Or.inr rfl)) (hd : (x == ("__debug__" : Str)) = false := by decide)
    (hcd : (x == ("__classdict__" : Str)) = false := by decide) : PE X (.Name x pos) (cT X.K X.mg E (eVar i)) :=
  pe_mono (pv i hN hv hd hcd) fun σ H Q ⟨τ, H0, G0, G, ρ, n, R, h⟩ => sl_var R h
theorem con_of {d : D} {v : V} (hr : ∀ τ G, Rep X.K X.mg τ G v d) (h : PE X e (tC v)) : PE X e (cT X.K X.mg E (eC d)) :=
  pe_mono h fun σ H Q ⟨τ, H0, G0, G, ρ, n, R, h⟩ => Post.ret h R.refl R.town (hr τ G)
theorem x_int {i : Int} {j : Nat} : PE X (.Constant (.int i) j pos) (cT X.K X.mg E (eC (.int i))) := con_of (fun _ _ => .int i) pe_int
theorem x_bl {b : Bool} {j : Nat} : PE X (.Constant (.bool b) j pos) (cT X.K X.mg E (eC (.bool b))) := con_of (fun _ _ => .bl b) pe_bl
theorem x_non {j : Nat} : PE X (.Constant .none j pos) (cT X.K X.mg E (eC .none)) := con_of (fun _ _ => .non) pe_non
theorem x_str {x : Str} {j : Nat} : PE X (.Constant (.str x) j pos) (cT X.K X.mg E (eC (.str x))) := con_of (fun _ _ => .str x) pe_str
/-- a constant of the module -/
theorem x_globI {x : Str} {i : Int} (hm : ∃ t, X.mg x = some (.int i t)) (hg : Gl X x := by rfl) (hd : (x == ("__debug__" : Str)) = false := by decide) : PE X (.Name x pos) (cT X.K X.mg E (eC (.int i))) := by
  obtain ⟨t, hm⟩ := hm
  exact con_of (fun _ _ => .int i) (pe_glob (v := .int i) hg hm ⟨t, rfl⟩ hd)
theorem x_globS {x z : Str} (hm : ∃ t, X.mg x = some (.str z t)) (hg : Gl X x := by rfl) (hd : (x == ("__debug__" : Str)) = false := by decide) : PE X (.Name x pos) (cT X.K X.mg E (eC (.str z))) := by
  obtain ⟨t, hm⟩ := hm
  exact con_of (fun _ _ => .str z) (pe_glob (v := .str z) hg hm ⟨t, rfl⟩ hd)

/-- an operation by values: the rule's reading r follows from the meaning g -/
def OpD (X : Cx) (r : R2) (g : D → D → M D) : Prop := ∀ (τ : Option Addr) (n : Nat) (H G : Hp) (x y : V) (dx dy : D) (E : XK) (Q : VK), Step τ H G H G → Town τ n H → Rep X.K X.mg τ G x dx → Rep X.K X.mg τ G y dy →
  Post X.mg τ H G E (Rep X.K X.mg τ) (g dx dy n) Q → r x y H Q
def e2 (g : D → D → M D) (fa fb : Mi.Env → M D) : Mi.Env → M D := fun ρ => do let x ← fa ρ; let y ← fb ρ; g x y
theorem op_step {r : R2} {g : D → D → M D} (hg : OpD X r g) {σ : L2.St} {H : Hp} {Q : VK} (h : cT X.K X.mg E (e2 g fa fb) σ H Q) :
    cT X.K X.mg E fa σ H fun x H1 => cT X.K X.mg E fb σ H1 fun y H2 => r x y H2 Q := by
  obtain ⟨τ, H0, G0, G, ρ, n, R, h⟩ := h
  refine ⟨τ, H0, G0, G, ρ, n, R, Post.mono (fun x H1 => ?_) (Post.bind (rep := Rep X.K X.mg τ) h)⟩
  rintro ⟨dx, n1, G1, st, tw, rx, h1⟩
  have R1 := R.next st tw
  refine ⟨τ, H0, G0, G1, ρ, n1, R1, Post.mono (fun y H2 => ?_) (Post.bind (rep := Rep X.K X.mg τ) h1)⟩
  rintro ⟨dy, n2, G2, st2, tw2, ry, h2⟩
  exact hg τ n2 H2 G2 x y dx dy (E σ) Q (R1.next st2 tw2).refl tw2 (rx.sub st2.sub) ry h2
theorem x_op {op : Operator} {r : R2} {g : D → D → M D} (ho : OpR X (binaryOp op) r) (hg : OpD X r g) (ha : PE X a (cT X.K X.mg E fa)) (hb : PE X b (cT X.K X.mg E fb)) : PE X (.BinOp a op b pos) (cT X.K X.mg E (e2 g fa fb)) :=
  pe_mono (pe_op ho ha hb) fun _ _ _ h => op_step hg h
theorem x_cmp {op : CmpOp} {r : R2} {g : D → D → M D} (ho : OpR X (compareOp op) r) (hg : OpD X r g) (ha : PE X a (cT X.K X.mg E fa)) (hb : PE X b (cT X.K X.mg E fb)) (hm : behindInMarks op b = false) :
    PE X (.Compare a [op] [b] pos) (cT X.K X.mg E (e2 g fa fb)) := pe_mono (pe_cmpR ho ha hb hm) fun _ _ _ h => op_step hg h
/-- a truth value -/
def asB : D → M Bool
  | .bool b => pure b
  | _ => bad
def tB (f : Mi.Env → M D) : Mi.Env → M Bool := fun ρ => do let x ← f ρ; asB x
theorem test_step {σ : L2.St} {H : Hp} {Q : Bool → Hp → Prop} (h : cB X.K X.mg E (tB fa) σ H Q) : cT X.K X.mg E fa σ H fun x H' => ∃ k, x = .bl k ∧ Q k H' := by
  obtain ⟨τ, H0, G0, G, ρ, n, R, h⟩ := h
  refine ⟨τ, H0, G0, G, ρ, n, R, Post.mono (fun x H1 => ?_) (Post.bind (rep := Rep X.K X.mg τ) h)⟩
  rintro ⟨dx, n1, G1, st, tw, rx, h1⟩
  cases rx with
  | bl k => exact ⟨k, rfl, Post.ret h1 (R.next st tw).refl tw rfl⟩
  | _ => exact h1.elim
theorem x_tcmp {op : CmpOp} {r : R2} {g : D → D → M D} (ho : OpR X (compareOp op) r) (hg : OpD X r g) (ha : PE X a (cT X.K X.mg E fa)) (hb : PE X b (cT X.K X.mg E fb)) (hm : behindInMarks op b = false) :
    PT X (.Compare a [op] [b] pos) (cB X.K X.mg E (tB (e2 g fa fb))) :=
  pt_mono (pt_cmpR (r := r) ho ha hb hm) fun σ H Q h => op_step hg (test_step h)
/-- an expression whose value is True or False -/
theorem x_tval (h : PE X e (cT X.K X.mg E fa)) (he : ∀ whole, isTrue e X.env whole = (do let v ← whole; standAt e.pos; holding [v] (truthy v)) := by intro _; rfl) : PT X e (cB X.K X.mg E (tB fa)) :=
  pt_mono (pt_val h he) fun _ _ _ h => test_step h
end
end Mi

end

section
set_option Elab.async false
set_option linter.all false
set_option maxRecDepth 100000
set_option maxHeartbeats 4000000
namespace Mi
open PySem PySem.Spec L2

/-! ### tools -/
section
variable {α β : Type} {mg : Str → Option Value} {τ : Option Addr} {H G : Hp} {E : XK} {rep : Hp → β → α → Prop} {Q : β → Hp → Prop}
theorem Post.need {b : Bool} {f : Unit → M α} {n : Nat} (h : Post mg τ H G E rep ((need b >>= f) n) Q) : b = true ∧ Post mg τ H G E rep (f () n) Q := by
  cases b with
  | false => exact (show False from h).elim
  | true => exact ⟨rfl, h⟩
end
section
variable {K : PySem.W.Frag} {mg : Str → Option Value} {τ : Option Addr} {H G : Hp} {E : XK} {Q : VK} {n : Nat} {vs : List V} {ds : List D}
theorem Post.newL (h : Post mg τ H G E (Rep K mg τ) ((pure (.list ds) : M D) n) Q) (st : Step τ H G H G) (tw : Town τ n H) (r : Reps K mg τ G vs ds) : ∀ p, H p = none → Q (.ref p) (upd H p (.lst vs)) := fun p hp =>
  have s := Step.fresh (o := .lst vs) st.le st.nt tw.ne hp
  h _ _ _ s (tw.upd hp) (.lst upd_same (r.sub s.sub))
theorem Post.newT (h : Post mg τ H G E (Rep K mg τ) ((pure (.tuple ds) : M D) n) Q) (st : Step τ H G H G) (tw : Town τ n H) (r : Reps K mg τ G vs ds) : ∀ p, H p = none → Q (.ref p) (upd H p (.tup vs)) := fun p hp =>
  have s := Step.fresh (o := .tup vs) st.le st.nt tw.ne hp
  h _ _ _ s (tw.upd hp) (.tup (.inl (.inl upd_same)) (r.sub s.sub))
end
section
variable {X : Cx} {pins : List (Addr × Obj)} {σ : L2.St} {H G : Hp} {s : Shared} {τ : Option Addr} {mg : Str → Option Value}
mutual
theorem Rep.reads (I : Inv X pins σ H s) (l : Le G H) : ∀ {v : V} {d : D} {u : Value}, Rep X.K mg τ G v d → d.plain = true → RelV v u → ∃ as, Reads s.heap u d as
  | _, _, _, .non, _, r => by
    cases r
    exact ⟨_, .none⟩
  | _, _, _, .bl b, _, r => by
    cases r
    exact ⟨_, .bool b⟩
  | _, _, _, .int i, _, r => by
    obtain ⟨t, rfl⟩ := r
    exact ⟨_, .int i t⟩
  | _, _, _, .str x, _, r => by
    obtain ⟨t, rfl⟩ := r
    exact ⟨_, .str x t⟩
  | _, _, _, .lst h q, p, r => by
    cases r
    obtain ⟨its, rv, ⟨o, n, ho, hc, _, hd⟩, _⟩ := I.list (.inl (.inl (l.list h)))
    obtain ⟨as, hr⟩ := Reps.reads I l q p rv
    exact ⟨_, .list ho hc hd hr⟩
  | _, _, _, .tup h q, p, r => by
    cases r
    obtain ⟨its, rv, ⟨o, ho, hc, n, hd⟩, _⟩ := I.tuple (sqt_le l h)
    obtain ⟨as, hr⟩ := Reps.reads I l q p rv
    exact ⟨_, .tuple ho hc hd hr⟩
  | _, _, _, .dk _ _, p, _ => by cases p
  | _, _, _, .dt _ _, p, _ => by cases p
  | _, _, _, .town _, p, _ => by cases p
  | _, _, _, .scr _, p, _ => by cases p
  | _, _, _, .exc _ _, p, _ => by cases p
theorem Reps.reads (I : Inv X pins σ H s) (l : Le G H) : ∀ {vs : List V} {ds : List D} {us : List Value}, Reps X.K mg τ G vs ds → PyData.plainAll ds = true → Vals vs us → ∃ as, ReadsAll s.heap us ds as
  | _, _, _, .nil, _, r => by
    cases r
    exact ⟨_, .nil⟩
  | _, _, _, .cons h q, p, r => by
    cases r with
    | cons r1 r2 =>
      have p' : (PyData.plain _ && PyData.plainAll _) = true := p
      rw [Bool.and_eq_true] at p'
      obtain ⟨as, q1⟩ := Rep.reads I l h p'.1 r1
      obtain ⟨bs, q2⟩ := Reps.reads I l q p'.2 r2
      exact ⟨_, .cons q1 q2⟩
end
end

/-! ### operators -/
section
variable {X : Cx}
def dAdd : D → D → M D
  | .int i, .int j => pure (.int (i + j))
  | .str x, .str y => do need (decide (x.length + y.length ≤ sizeLine)); pure (.str (x ++ y))
  | .list xs, .list ys => do need (decide (xs.length + ys.length ≤ sizeLine)); pure (.list (xs ++ ys))
  | .tuple xs, .tuple ys => do need (decide (xs.length + ys.length ≤ sizeLine)); pure (.tuple (xs ++ ys))
  | _, _ => bad
def rAddA (K : PySem.W.Frag) : R2 := fun x y H Q => (∃ i j, x = .int i ∧ y = .int j ∧ Q (.int (i + j)) H) ∨ (∃ i j, x = .str i ∧ y = .str j ∧ i.length + j.length ≤ sizeLine ∧ Q (.str (i ++ j)) H) ∨ rCat x y H Q ∨ rCatA K x y H Q
theorem op_addA : OpR X (binaryOp .Add) (rAddA X.K) := OpR.or op_add (OpR.or op_add_str (OpR.or op_cat op_catA))
theorem od_add : OpD X (rAddA X.K) dAdd := by
  intro τ n H G x y dx dy E Q st tw rx ry h
  cases rx with
  | int i =>
    cases ry with
    | int j => exact .inl ⟨i, j, rfl, rfl, Post.ret h st tw (.int _)⟩
    | _ => exact (show False from h).elim
  | str i =>
    cases ry with
    | str j =>
      obtain ⟨hz, h⟩ := Post.need h
      exact .inr (.inl ⟨i, j, rfl, rfl, of_decide_eq_true hz, Post.ret h st tw (.str _)⟩)
    | _ => exact (show False from h).elim
  | lst ha qa =>
    cases ry with
    | lst hb qb =>
      obtain ⟨hz, h⟩ := Post.need h
      refine .inr (.inr (.inl ⟨_, _, _, _, rfl, rfl, st.le.list ha, st.le.list hb, ?_, Post.newL h st tw (qa.append qb)⟩))
      rw [qa.length, qb.length]
      exact of_decide_eq_true hz
    | _ => exact (show False from h).elim
  | tup ha qa =>
    cases ry with
    | tup hb qb =>
      obtain ⟨hz, h⟩ := Post.need h
      refine .inr (.inr (.inr ⟨_, _, _, _, rfl, rfl, sqt_le st.le ha, sqt_le st.le hb, ?_, fun e => ?_, fun _ e => ?_, fun _ _ => Post.newT h st tw (qa.append qb)⟩))
      · rw [qa.length, qb.length]
        exact of_decide_eq_true hz
      · subst e
        cases qa
        exact Post.ret h st tw (.tup hb qb)
      · subst e
        cases qb
        rw [List.append_nil] at h
        exact Post.ret h st tw (.tup ha qa)
    | _ => exact (show False from h).elim
  | _ => exact (show False from h).elim
theorem x_add {E : L2.St → XK} {a b : Expr} {pos : Pos} {fa fb : Mi.Env → M D} (ha : PE X a (cT X.K X.mg E fa)) (hb : PE X b (cT X.K X.mg E fb)) : PE X (.BinOp a .Add b pos) (cT X.K X.mg E (e2 dAdd fa fb)) := x_op op_addA od_add ha hb

/-- two ints -/
def dI (g : Int → Int → M D) : D → D → M D
  | .int i, .int j => g i j
  | _, _ => bad
theorem od_int {g : Int → Int → M D} {C : Int → Int → Prop} {f : Int → Int → V} (hg : ∀ (τ : Option Addr) (n : Nat) (H G : Hp) (i j : Int) (E : XK) (Q : VK), Step τ H G H G → Town τ n H → Post X.mg τ H G E (Rep X.K X.mg τ) (g i j n) Q → C i j ∧ Q (f i j) H) :
    OpD X (rI C f) (dI g) := by
  intro τ n H G x y dx dy E Q st tw rx ry h
  cases rx with
  | int i =>
    cases ry with
    | int j => exact ⟨i, j, rfl, rfl, hg τ n H G i j E Q st tw h⟩
    | _ => exact (show False from h).elim
  | _ => exact (show False from h).elim
theorem od_int0 {g : Int → Int → M D} {f : Int → Int → V} (hg : ∀ (τ : Option Addr) (n : Nat) (H G : Hp) (i j : Int) (E : XK) (Q : VK), Step τ H G H G → Town τ n H → Post X.mg τ H G E (Rep X.K X.mg τ) (g i j n) Q → Q (f i j) H) :
    OpD X (rI0 f) (dI g) := by
  intro τ n H G x y dx dy E Q st tw rx ry h
  cases rx with
  | int i =>
    cases ry with
    | int j => exact ⟨i, j, rfl, rfl, hg τ n H G i j E Q st tw h⟩
    | _ => exact (show False from h).elim
  | _ => exact (show False from h).elim
def dSub : D → D → M D := dI fun i j => pure (.int (i - j))
theorem od_sub : OpD X (rI0 fun i j => .int (i - j)) dSub := od_int0 fun τ n H G i j E Q st tw h => Post.ret h st tw (.int _)
def dFdiv : D → D → M D := dI fun i j => do need (decide (0 < j ∧ j < 1073741824)); pure (.int (i / j))
theorem od_fdiv : OpD X (rI CDiv fun i j => .int (i / j)) dFdiv := od_int fun τ n H G i j E Q st tw h => by
  obtain ⟨hz, h⟩ := Post.need h
  have z : 0 < j ∧ j < 1073741824 := of_decide_eq_true hz
  exact ⟨z, Post.ret h st tw (.int _)⟩
def dMod : D → D → M D := dI fun i j => do need (decide (0 < j)); pure (.int (i % j))
theorem od_mod : OpD X (rI (fun _ j => 0 < j) fun i j => .int (i % j)) dMod := od_int fun τ n H G i j E Q st tw h => by
  obtain ⟨hz, h⟩ := Post.need h
  exact ⟨of_decide_eq_true hz, Post.ret h st tw (.int _)⟩
def dPow : D → D → M D := dI fun i j => do need (decide (0 ≤ j ∧ j ≤ 1000000 ∧ i.natAbs < 2 ^ 64)); pure (.int (i ^ j.toNat))
theorem od_pow : OpD X (rI CPow fun i j => .int (i ^ j.toNat)) dPow := od_int fun τ n H G i j E Q st tw h => by
  obtain ⟨hz, h⟩ := Post.need h
  have z : 0 ≤ j ∧ j ≤ 1000000 ∧ i.natAbs < 2 ^ 64 := of_decide_eq_true hz
  exact ⟨z, Post.ret h st tw (.int _)⟩
def dMulI : D → D → M D := dI fun i j => do need (decide ((-(2 ^ 64) < i ∧ i < 2 ^ 64) ∨ (-(2 ^ 64) < j ∧ j < 2 ^ 64))); pure (.int (i * j))
theorem od_mulI : OpD X (rI CMul fun i j => .int (i * j)) dMulI := od_int fun τ n H G i j E Q st tw h => by
  obtain ⟨hz, h⟩ := Post.need h
  have z : (-(2 ^ 64) < i ∧ i < 2 ^ 64) ∨ (-(2 ^ 64) < j ∧ j < 2 ^ 64) := of_decide_eq_true hz
  exact ⟨z, Post.ret h st tw (.int _)⟩
section
variable {E : L2.St → XK} {a b c : Expr} {pos : Pos} {fa fb fc : Mi.Env → M D}
theorem x_sub (ha : PE X a (cT X.K X.mg E fa)) (hb : PE X b (cT X.K X.mg E fb)) : PE X (.BinOp a .Sub b pos) (cT X.K X.mg E (e2 dSub fa fb)) := x_op op_sub od_sub ha hb
theorem x_fdiv (ha : PE X a (cT X.K X.mg E fa)) (hb : PE X b (cT X.K X.mg E fb)) : PE X (.BinOp a .FloorDiv b pos) (cT X.K X.mg E (e2 dFdiv fa fb)) := x_op op_fdiv od_fdiv ha hb
theorem x_mod (ha : PE X a (cT X.K X.mg E fa)) (hb : PE X b (cT X.K X.mg E fb)) : PE X (.BinOp a .Mod b pos) (cT X.K X.mg E (e2 dMod fa fb)) := x_op op_mod od_mod ha hb
theorem x_pow (ha : PE X a (cT X.K X.mg E fa)) (hb : PE X b (cT X.K X.mg E fb)) : PE X (.BinOp a .Pow b pos) (cT X.K X.mg E (e2 dPow fa fb)) := x_op op_pow od_pow ha hb
theorem x_mulI (ha : PE X a (cT X.K X.mg E fa)) (hb : PE X b (cT X.K X.mg E fb)) : PE X (.BinOp a .Mult b pos) (cT X.K X.mg E (e2 dMulI fa fb)) := x_op op_mul od_mulI ha hb
end

/-! ### comparisons -/
/-- data that are compared: no dict within, not too deep -/
def okD (d : D) : Bool := d.plain && decide (d.depth ≤ 60)
theorem okD_of {d : D} (h : okD d = true) : d.plain = true ∧ d.depth ≤ 60 := by
  unfold okD at h
  rw [Bool.and_eq_true] at h
  exact ⟨h.1, of_decide_eq_true h.2⟩
def dEq (x y : D) : M D := do need (okD x && okD y); pure (.bool (PyData.eqv x y))
def dNe (x y : D) : M D := do need (okD x && okD y); pure (.bool (!PyData.eqv x y))
def rEqP (X : Cx) (neg : Bool) : R2 := fun x y H Q => ∃ τ G dx dy, Le G H ∧ Rep X.K X.mg τ G x dx ∧ Rep X.K X.mg τ G y dy ∧ okD dx = true ∧ okD dy = true ∧ Q (.bl (if neg then !PyData.eqv dx dy else PyData.eqv dx dy)) H
theorem op_eqP (hu : X.A.units + 64 < cLine) : OpR X (compareOp .Eq) (rEqP X false) := by
  rintro pins s σ H x y v u Q I rx ry ⟨τ, G, dx, dy, l, hx, hy, ox, oy, q⟩
  obtain ⟨as, r1⟩ := hx.reads I l (okD_of ox).1 rx
  obtain ⟨bs, r2⟩ := hy.reads I l (okD_of oy).1 ry
  have := (okD_of ox).2
  exact PySem.SeqAt.eq_plain r1 r2 (okD_of ox).1 (okD_of oy).1 (by omega) ⟨.bl _, H, I, rfl, q⟩
theorem op_neP (hu : X.A.units + 64 < cLine) : OpR X (compareOp .NotEq) (rEqP X true) := by
  rintro pins s σ H x y v u Q I rx ry ⟨τ, G, dx, dy, l, hx, hy, ox, oy, q⟩
  obtain ⟨as, r1⟩ := hx.reads I l (okD_of ox).1 rx
  obtain ⟨bs, r2⟩ := hy.reads I l (okD_of oy).1 ry
  have := (okD_of ox).2
  exact PySem.SeqAt.ne_plain r1 r2 (okD_of ox).1 (okD_of oy).1 (by omega) ⟨.bl _, H, I, rfl, q⟩
theorem od_eq : OpD X (rEqP X false) dEq := by
  intro τ n H G x y dx dy E Q st tw rx ry h
  obtain ⟨hz, h⟩ := Post.need h
  rw [Bool.and_eq_true] at hz
  exact ⟨τ, G, dx, dy, st.le, rx, ry, hz.1, hz.2, Post.ret h st tw (.bl _)⟩
theorem od_ne : OpD X (rEqP X true) dNe := by
  intro τ n H G x y dx dy E Q st tw rx ry h
  obtain ⟨hz, h⟩ := Post.need h
  rw [Bool.and_eq_true] at hz
  exact ⟨τ, G, dx, dy, st.le, rx, ry, hz.1, hz.2, Post.ret h st tw (.bl _)⟩
def dLt : D → D → M D
  | .int i, .int j => pure (.bool (decide (i < j)))
  | .str i, .str j => pure (.bool (decide (i.cps.toList < j.cps.toList)))
  | _, _ => bad
theorem od_lt : OpD X (fun x y H Q => (∃ i j, x = .int i ∧ y = .int j ∧ Q (.bl (decide (i < j))) H) ∨ (∃ i j, x = .str i ∧ y = .str j ∧ Q (.bl (decide (i.cps.toList < j.cps.toList))) H)) dLt := by
  intro τ n H G x y dx dy E Q st tw rx ry h
  cases rx with
  | int i =>
    cases ry with
    | int j => exact .inl ⟨i, j, rfl, rfl, Post.ret h st tw (.bl _)⟩
    | _ => exact (show False from h).elim
  | str i =>
    cases ry with
    | str j => exact .inr ⟨i, j, rfl, rfl, Post.ret h st tw (.bl _)⟩
    | _ => exact (show False from h).elim
  | _ => exact (show False from h).elim
def dLe : D → D → M D := dI fun i j => pure (.bool (decide (i ≤ j)))
theorem od_le : OpD X (rI0 fun i j => .bl (decide (i ≤ j))) dLe := od_int0 fun τ n H G i j E Q st tw h => Post.ret h st tw (.bl _)
def dGt : D → D → M D := dI fun i j => pure (.bool (decide (j < i)))
theorem od_gt : OpD X (rI0 fun i j => .bl (decide (j < i))) dGt := od_int0 fun τ n H G i j E Q st tw h => Post.ret h st tw (.bl _)
def dGe : D → D → M D := dI fun i j => pure (.bool (decide (j ≤ i)))
theorem od_ge : OpD X (rI0 fun i j => .bl (decide (j ≤ i))) dGe := od_int0 fun τ n H G i j E Q st tw h => Post.ret h st tw (.bl _)
def isNone : D → Bool
  | .none => true
  | _ => false
theorem isNone_rep {τ : Option Addr} {G : Hp} {x : V} {d : D} (r : Rep X.K X.mg τ G x d) : decide (x = .non) = isNone d := by
  cases r <;> first | rfl | (apply decide_eq_false; intro z; cases z)
def dIs (x y : D) : M D := do need (isNone y); pure (.bool (isNone x))
def dIsNot (x y : D) : M D := do need (isNone y); pure (.bool (!isNone x))
theorem od_is : OpD X (fun x y H Q => y = .non ∧ Q (.bl (decide (x = .non))) H) dIs := by
  intro τ n H G x y dx dy E Q st tw rx ry h
  obtain ⟨hz, h⟩ := Post.need h
  refine ⟨?_, ?_⟩
  · rw [← isNone_rep ry] at hz
    exact of_decide_eq_true hz
  · rw [isNone_rep rx]
    exact Post.ret h st tw (.bl _)
theorem od_isNot : OpD X (fun x y H Q => y = .non ∧ Q (.bl (!decide (x = .non))) H) dIsNot := by
  intro τ n H G x y dx dy E Q st tw rx ry h
  obtain ⟨hz, h⟩ := Post.need h
  refine ⟨?_, ?_⟩
  · rw [← isNone_rep ry] at hz
    exact of_decide_eq_true hz
  · rw [isNone_rep rx]
    exact Post.ret h st tw (.bl _)
/-- the one text within the other -/
def inStr (i j : Str) : Bool := !(Builtin.Str.occurrences j i 0 j.length 1).isEmpty
def inD (x : D) (ys : List D) : Bool := ys.any fun y => PyData.eqv y x
def dIn (neg : Bool) : D → D → M D
  | x, .list ys => do need (okD x && okD (.list ys)); pure (.bool (if neg then !inD x ys else inD x ys))
  | x, .tuple ys => do need (okD x && okD (.tuple ys)); pure (.bool (if neg then !inD x ys else inD x ys))
  | .str i, .str j => pure (.bool (if neg then !inStr i j else inStr i j))
  | _, _ => bad
def rInP (X : Cx) (neg : Bool) : R2 := fun x y H Q => (∃ i j, x = .str i ∧ y = .str j ∧ Q (.bl (if neg then !inStr i j else inStr i j)) H) ∨
  (∃ τ G dx ys, Le G H ∧ Rep X.K X.mg τ G x dx ∧ (Rep X.K X.mg τ G y (.list ys) ∨ Rep X.K X.mg τ G y (.tuple ys)) ∧ okD dx = true ∧ okD (.list ys) = true ∧ Q (.bl (if neg then !inD dx ys else inD dx ys)) H)
theorem op_inP (hu : X.A.units + 64 < cLine) : OpR X (compareOp .In) (rInP X false) := by
  refine OpR.or op_in_str ?_
  rintro pins s σ H x y v u Q I rx ry ⟨τ, G, dx, ys, l, hx, hy, ox, oy, q⟩
  obtain ⟨as, r1⟩ := hx.reads I l (okD_of ox).1 rx
  have d1 := (okD_of ox).2
  have d2 : PyData.depthAll ys + 1 ≤ 60 := (okD_of oy).2
  have p2 : PyData.plainAll ys = true := (okD_of oy).1
  rcases hy with hy | hy
  · obtain ⟨bs, r2⟩ := hy.reads I l p2 ry
    exact PySem.SeqAt.in_list_data r2 r1 p2 (okD_of ox).1 (by omega) ⟨.bl _, H, I, rfl, q⟩
  · obtain ⟨bs, r2⟩ := hy.reads I l p2 ry
    exact PySem.SeqAt.in_tuple_data r2 r1 p2 (okD_of ox).1 (by omega) ⟨.bl _, H, I, rfl, q⟩
theorem op_notInP (hu : X.A.units + 64 < cLine) : OpR X (compareOp .NotIn) (rInP X true) := by
  refine OpR.or op_notin_str ?_
  rintro pins s σ H x y v u Q I rx ry ⟨τ, G, dx, ys, l, hx, hy, ox, oy, q⟩
  obtain ⟨as, r1⟩ := hx.reads I l (okD_of ox).1 rx
  have d1 := (okD_of ox).2
  have d2 : PyData.depthAll ys + 1 ≤ 60 := (okD_of oy).2
  have p2 : PyData.plainAll ys = true := (okD_of oy).1
  rcases hy with hy | hy
  · obtain ⟨bs, r2⟩ := hy.reads I l p2 ry
    exact PySem.SeqAt.notIn_list_data r2 r1 p2 (okD_of ox).1 (by omega) ⟨.bl _, H, I, rfl, q⟩
  · obtain ⟨bs, r2⟩ := hy.reads I l p2 ry
    exact PySem.SeqAt.notIn_tuple_data r2 r1 p2 (okD_of ox).1 (by omega) ⟨.bl _, H, I, rfl, q⟩
theorem od_in (neg : Bool) : OpD X (rInP X neg) (dIn neg) := by
  intro τ n H G x y dx dy E Q st tw rx ry h
  have core : ∀ ys, (Rep X.K X.mg τ G y (.list ys) ∨ Rep X.K X.mg τ G y (.tuple ys)) → Post X.mg τ H G E (Rep X.K X.mg τ) ((do need (okD dx && okD (.list ys)); pure (.bool (if neg then !inD dx ys else inD dx ys)) : M D) n) Q → rInP X neg x y H Q := fun ys hy h => by
    obtain ⟨hz, h⟩ := Post.need h
    rw [Bool.and_eq_true] at hz
    exact .inr ⟨τ, G, dx, ys, st.le, rx, hy, hz.1, hz.2, Post.ret h st tw (.bl _)⟩
  cases ry with
  | lst hb qb =>
    cases dx <;> exact core _ (.inl (.lst hb qb)) h
  | tup hb qb =>
    cases dx <;> exact core _ (.inr (.tup hb qb)) h
  | str j =>
    cases rx with
    | str i => exact .inl ⟨i, j, rfl, rfl, Post.ret h st tw (.bl _)⟩
    | _ => exact (show False from h).elim
  | _ => cases rx <;> exact (show False from h).elim
end
end Mi

end

section
set_option Elab.async false
set_option linter.all false
set_option maxRecDepth 100000
set_option maxHeartbeats 4000000
namespace Mi
open PySem PySem.Spec L2

section
variable {X : Cx} {E : L2.St → XK} {a b c e : Expr} {pos : Pos} {fa fb fc f : Mi.Env → M D} {es : List Expr} {fs : Mi.Env → M (List D)}

/-! ### comparisons, as values and as tests -/
theorem x_eq (hu : X.A.units + 64 < cLine) (ha : PE X a (cT X.K X.mg E fa)) (hb : PE X b (cT X.K X.mg E fb)) : PE X (.Compare a [.Eq] [b] pos) (cT X.K X.mg E (e2 dEq fa fb)) := x_cmp (op_eqP hu) od_eq ha hb (nomark _)
theorem x_ne (hu : X.A.units + 64 < cLine) (ha : PE X a (cT X.K X.mg E fa)) (hb : PE X b (cT X.K X.mg E fb)) : PE X (.Compare a [.NotEq] [b] pos) (cT X.K X.mg E (e2 dNe fa fb)) := x_cmp (op_neP hu) od_ne ha hb (nomark _)
theorem x_lt (ha : PE X a (cT X.K X.mg E fa)) (hb : PE X b (cT X.K X.mg E fb)) : PE X (.Compare a [.Lt] [b] pos) (cT X.K X.mg E (e2 dLt fa fb)) := x_cmp (OpR.or op_lt op_lt_str) od_lt ha hb (nomark _)
theorem x_le (ha : PE X a (cT X.K X.mg E fa)) (hb : PE X b (cT X.K X.mg E fb)) : PE X (.Compare a [.LtE] [b] pos) (cT X.K X.mg E (e2 dLe fa fb)) := x_cmp op_le od_le ha hb (nomark _)
theorem x_gt (ha : PE X a (cT X.K X.mg E fa)) (hb : PE X b (cT X.K X.mg E fb)) : PE X (.Compare a [.Gt] [b] pos) (cT X.K X.mg E (e2 dGt fa fb)) := x_cmp op_gt od_gt ha hb (nomark _)
theorem x_ge (ha : PE X a (cT X.K X.mg E fa)) (hb : PE X b (cT X.K X.mg E fb)) : PE X (.Compare a [.GtE] [b] pos) (cT X.K X.mg E (e2 dGe fa fb)) := x_cmp op_ge od_ge ha hb (nomark _)
theorem x_is (ha : PE X a (cT X.K X.mg E fa)) (hb : PE X b (cT X.K X.mg E fb)) : PE X (.Compare a [.Is] [b] pos) (cT X.K X.mg E (e2 dIs fa fb)) := x_cmp op_isN od_is ha hb (nomark _)
theorem x_isNot (ha : PE X a (cT X.K X.mg E fa)) (hb : PE X b (cT X.K X.mg E fb)) : PE X (.Compare a [.IsNot] [b] pos) (cT X.K X.mg E (e2 dIsNot fa fb)) := x_cmp op_notN od_isNot ha hb (nomark _)
theorem x_in (hu : X.A.units + 64 < cLine) (ha : PE X a (cT X.K X.mg E fa)) (hb : PE X b (cT X.K X.mg E fb)) (hm : behindInMarks .In b = false := by rfl) : PE X (.Compare a [.In] [b] pos) (cT X.K X.mg E (e2 (dIn false) fa fb)) := x_cmp (op_inP hu) (od_in false) ha hb hm
theorem x_notIn (hu : X.A.units + 64 < cLine) (ha : PE X a (cT X.K X.mg E fa)) (hb : PE X b (cT X.K X.mg E fb)) (hm : behindInMarks .NotIn b = false := by rfl) : PE X (.Compare a [.NotIn] [b] pos) (cT X.K X.mg E (e2 (dIn true) fa fb)) := x_cmp (op_notInP hu) (od_in true) ha hb hm
theorem t_eq (hu : X.A.units + 64 < cLine) (ha : PE X a (cT X.K X.mg E fa)) (hb : PE X b (cT X.K X.mg E fb)) : PT X (.Compare a [.Eq] [b] pos) (cB X.K X.mg E (tB (e2 dEq fa fb))) := x_tcmp (op_eqP hu) od_eq ha hb (nomark _)
theorem t_ne (hu : X.A.units + 64 < cLine) (ha : PE X a (cT X.K X.mg E fa)) (hb : PE X b (cT X.K X.mg E fb)) : PT X (.Compare a [.NotEq] [b] pos) (cB X.K X.mg E (tB (e2 dNe fa fb))) := x_tcmp (op_neP hu) od_ne ha hb (nomark _)
theorem t_lt (ha : PE X a (cT X.K X.mg E fa)) (hb : PE X b (cT X.K X.mg E fb)) : PT X (.Compare a [.Lt] [b] pos) (cB X.K X.mg E (tB (e2 dLt fa fb))) := x_tcmp (OpR.or op_lt op_lt_str) od_lt ha hb (nomark _)
theorem t_le (ha : PE X a (cT X.K X.mg E fa)) (hb : PE X b (cT X.K X.mg E fb)) : PT X (.Compare a [.LtE] [b] pos) (cB X.K X.mg E (tB (e2 dLe fa fb))) := x_tcmp op_le od_le ha hb (nomark _)
theorem t_gt (ha : PE X a (cT X.K X.mg E fa)) (hb : PE X b (cT X.K X.mg E fb)) : PT X (.Compare a [.Gt] [b] pos) (cB X.K X.mg E (tB (e2 dGt fa fb))) := x_tcmp op_gt od_gt ha hb (nomark _)
theorem t_ge (ha : PE X a (cT X.K X.mg E fa)) (hb : PE X b (cT X.K X.mg E fb)) : PT X (.Compare a [.GtE] [b] pos) (cB X.K X.mg E (tB (e2 dGe fa fb))) := x_tcmp op_ge od_ge ha hb (nomark _)
theorem t_is (ha : PE X a (cT X.K X.mg E fa)) (hb : PE X b (cT X.K X.mg E fb)) : PT X (.Compare a [.Is] [b] pos) (cB X.K X.mg E (tB (e2 dIs fa fb))) := x_tcmp op_isN od_is ha hb (nomark _)
theorem t_isNot (ha : PE X a (cT X.K X.mg E fa)) (hb : PE X b (cT X.K X.mg E fb)) : PT X (.Compare a [.IsNot] [b] pos) (cB X.K X.mg E (tB (e2 dIsNot fa fb))) := x_tcmp op_notN od_isNot ha hb (nomark _)
theorem t_in (hu : X.A.units + 64 < cLine) (ha : PE X a (cT X.K X.mg E fa)) (hb : PE X b (cT X.K X.mg E fb)) (hm : behindInMarks .In b = false := by rfl) : PT X (.Compare a [.In] [b] pos) (cB X.K X.mg E (tB (e2 (dIn false) fa fb))) := x_tcmp (op_inP hu) (od_in false) ha hb hm
theorem t_notIn (hu : X.A.units + 64 < cLine) (ha : PE X a (cT X.K X.mg E fa)) (hb : PE X b (cT X.K X.mg E fb)) (hm : behindInMarks .NotIn b = false := by rfl) : PT X (.Compare a [.NotIn] [b] pos) (cB X.K X.mg E (tB (e2 (dIn true) fa fb))) := x_tcmp (op_notInP hu) (od_in true) ha hb hm

/-- a op1 b op2 c -/
def e3 (g g' : D → D → M D) (fa fb fc : Mi.Env → M D) : Mi.Env → M D := fun ρ => do
  let x ← fa ρ
  let y ← fb ρ
  let r ← g x y
  let k ← asB r
  if k = true then do
    let z ← fc ρ
    g' y z
  else pure (.bool false)
theorem chain_step {r r' : R2} {g g' : D → D → M D} (hg : OpD X r g) (hg' : OpD X r' g') {σ : L2.St} {H : Hp} {Q : VK} (h : cT X.K X.mg E (e3 g g' fa fb fc) σ H Q) :
    tChain r r' (cT X.K X.mg E fa) (cT X.K X.mg E fb) (cT X.K X.mg E fc) σ H Q := by
  obtain ⟨τ, H0, G0, G, ρ, n, R, h⟩ := h
  refine ⟨τ, H0, G0, G, ρ, n, R, Post.mono (fun x H1 => ?_) (Post.bind (rep := Rep X.K X.mg τ) h)⟩
  rintro ⟨dx, n1, G1, st, tw, rx, h1⟩
  have R1 := R.next st tw
  refine ⟨τ, H0, G0, G1, ρ, n1, R1, Post.mono (fun y H2 => ?_) (Post.bind (rep := Rep X.K X.mg τ) h1)⟩
  rintro ⟨dy, n2, G2, st2, tw2, ry, h2⟩
  have R2 := R1.next st2 tw2
  refine hg τ n2 H2 G2 x y dx dy (E σ) _ R2.refl tw2 (rx.sub st2.sub) ry (Post.mono (fun z H3 => ?_) (Post.bind (rep := Rep X.K X.mg τ) h2))
  rintro ⟨dz, n3, G3, st3, tw3, rz, h3⟩
  have R3 := R2.next st3 tw3
  cases rz with
  | bl k =>
    refine ⟨k, rfl, ?_⟩
    cases k with
    | false =>
      rw [if_neg Bool.false_ne_true]
      exact Post.ret h3 R3.refl tw3 (.bl _)
    | true =>
      rw [if_pos rfl]
      refine ⟨τ, H0, G0, G3, ρ, n3, R3, Post.mono (fun w H4 => ?_) (Post.bind (rep := Rep X.K X.mg τ) h3)⟩
      rintro ⟨dw, n4, G4, st4, tw4, rw', h4⟩
      exact hg' τ n4 H4 G4 y w dy dw (E σ) Q (R3.next st4 tw4).refl tw4 ((ry.sub st3.sub).sub st4.sub) rw' h4
  | _ => exact (show False from h3).elim
theorem x_chain {op op' : CmpOp} {r r' : R2} {g g' : D → D → M D} (ho : OpR X (compareOp op) r) (ho' : OpR X (compareOp op') r') (hg : OpD X r g) (hg' : OpD X r' g') (ha : PE X a (cT X.K X.mg E fa)) (hb : PE X b (cT X.K X.mg E fb)) (hc : PE X c (cT X.K X.mg E fc))
    (hm : lastMarks [op, op'] [b, c] = false := by with_unfolding_all rfl) : PE X (.Compare a [op, op'] [b, c] pos) (cT X.K X.mg E (e3 g g' fa fb fc)) := pe_mono (pe_chain ho ho' ha hb hc hm) fun _ _ _ h => chain_step hg hg' h
theorem t_chain {op op' : CmpOp} {r r' : R2} {g g' : D → D → M D} (ho : OpR X (compareOp op) r) (ho' : OpR X (compareOp op') r') (hg : OpD X r g) (hg' : OpD X r' g') (ha : PE X a (cT X.K X.mg E fa)) (hb : PE X b (cT X.K X.mg E fb)) (hc : PE X c (cT X.K X.mg E fc))
    (hm : lastMarks [op, op'] [b, c] = false := by with_unfolding_all rfl) : PT X (.Compare a [op, op'] [b, c] pos) (cB X.K X.mg E (tB (e3 g g' fa fb fc))) :=
  pt_mono (pt_chain (r := r) (r' := r') ho ho' ha hb hc hm) fun _ _ _ h => chain_step hg hg' (test_step h)
/-- 0 <= a < b and its kin -/
theorem x_leLt (ha : PE X a (cT X.K X.mg E fa)) (hb : PE X b (cT X.K X.mg E fb)) (hc : PE X c (cT X.K X.mg E fc)) (hm : lastMarks [.LtE, .Lt] [b, c] = false := by with_unfolding_all rfl) : PE X (.Compare a [.LtE, .Lt] [b, c] pos) (cT X.K X.mg E (e3 dLe dLt fa fb fc)) := x_chain op_le (OpR.or op_lt op_lt_str) od_le od_lt ha hb hc hm
theorem x_leLe (ha : PE X a (cT X.K X.mg E fa)) (hb : PE X b (cT X.K X.mg E fb)) (hc : PE X c (cT X.K X.mg E fc)) (hm : lastMarks [.LtE, .LtE] [b, c] = false := by with_unfolding_all rfl) : PE X (.Compare a [.LtE, .LtE] [b, c] pos) (cT X.K X.mg E (e3 dLe dLe fa fb fc)) := x_chain op_le op_le od_le od_le ha hb hc hm
theorem t_leLt (ha : PE X a (cT X.K X.mg E fa)) (hb : PE X b (cT X.K X.mg E fb)) (hc : PE X c (cT X.K X.mg E fc)) (hm : lastMarks [.LtE, .Lt] [b, c] = false := by with_unfolding_all rfl) : PT X (.Compare a [.LtE, .Lt] [b, c] pos) (cB X.K X.mg E (tB (e3 dLe dLt fa fb fc))) := t_chain op_le (OpR.or op_lt op_lt_str) od_le od_lt ha hb hc hm
theorem t_leLe (ha : PE X a (cT X.K X.mg E fa)) (hb : PE X b (cT X.K X.mg E fb)) (hc : PE X c (cT X.K X.mg E fc)) (hm : lastMarks [.LtE, .LtE] [b, c] = false := by with_unfolding_all rfl) : PT X (.Compare a [.LtE, .LtE] [b, c] pos) (cB X.K X.mg E (tB (e3 dLe dLe fa fb fc))) := t_chain op_le op_le od_le od_le ha hb hc hm
end

/-! ### truth, and, or, not, if-else -/
section
variable {X : Cx} {E : L2.St → XK} {a b c e : Expr} {rest : List Expr} {pos : Pos} {fa fb fc f : Mi.Env → M D} {ta tb tc : Mi.Env → M Bool}
def bNot (t : Mi.Env → M Bool) : Mi.Env → M Bool := fun ρ => do let c ← t ρ; pure (!c)
def bAnd (t u : Mi.Env → M Bool) : Mi.Env → M Bool := fun ρ => do let c ← t ρ; if c = true then u ρ else pure false
def bOr (t u : Mi.Env → M Bool) : Mi.Env → M Bool := fun ρ => do let c ← t ρ; if c = true then pure true else u ρ
theorem t_not (ha : PT X a (cB X.K X.mg E ta)) : PT X (.UnaryOp .Not a pos) (cB X.K X.mg E (bNot ta)) :=
  pt_mono (pt_not ha) fun σ H Q ⟨τ, H0, G0, G, ρ, n, R, h⟩ => ⟨τ, H0, G0, G, ρ, n, R, Post.mono (fun k H1 => by
    rintro ⟨k', n1, G1, st, tw, rfl, h1⟩
    exact Post.ret h1 (R.next st tw).refl tw rfl) (Post.bind (rep := fun _ b c => b = c) h)⟩
theorem w_and1 (ha : PT X a (cB X.K X.mg E ta)) : PW X (.BoolOp .And [a] pos) (cB X.K X.mg E ta) := pw_and1 ha
theorem w_or1 (ha : PT X a (cB X.K X.mg E ta)) : PW X (.BoolOp .Or [a] pos) (cB X.K X.mg E ta) := pw_or1 ha
theorem w_and (ha : PT X a (cB X.K X.mg E ta)) (hb : PW X (.BoolOp .And (b :: rest) pos) (cB X.K X.mg E tb)) : PW X (.BoolOp .And (a :: b :: rest) pos) (cB X.K X.mg E (bAnd ta tb)) :=
  pw_mono (pw_and ha hb) fun σ H Q ⟨τ, H0, G0, G, ρ, n, R, h⟩ => ⟨τ, H0, G0, G, ρ, n, R, Post.mono (fun k H1 => by
    rintro ⟨k', n1, G1, st, tw, rfl, h1⟩
    have R1 := R.next st tw
    cases k with
    | true => exact ⟨τ, H0, G0, G1, ρ, n1, R1, h1⟩
    | false => exact Post.ret h1 R1.refl tw rfl) (Post.bind (rep := fun _ b c => b = c) h)⟩
theorem w_or (ha : PT X a (cB X.K X.mg E ta)) (hb : PW X (.BoolOp .Or (b :: rest) pos) (cB X.K X.mg E tb)) : PW X (.BoolOp .Or (a :: b :: rest) pos) (cB X.K X.mg E (bOr ta tb)) :=
  pw_mono (pw_or ha hb) fun σ H Q ⟨τ, H0, G0, G, ρ, n, R, h⟩ => ⟨τ, H0, G0, G, ρ, n, R, Post.mono (fun k H1 => by
    rintro ⟨k', n1, G1, st, tw, rfl, h1⟩
    have R1 := R.next st tw
    cases k with
    | true => exact Post.ret h1 R1.refl tw rfl
    | false => exact ⟨τ, H0, G0, G1, ρ, n1, R1, h1⟩) (Post.bind (rep := fun _ b c => b = c) h)⟩
/-- a value's truth -/
def dTru : D → M Bool
  | .none => pure false
  | .bool b => pure b
  | .int i => pure (i != 0)
  | .str y => do need (decide (y.length ≤ sizeLine)); pure ((y.length : Int) != 0)
  | .list ds => pure (!ds.isEmpty)
  | .tuple ds => pure (!ds.isEmpty)
  | .dict [(.none, .list ns)] => pure (!ns.isEmpty)
  | _ => bad
def tT (f : Mi.Env → M D) : Mi.Env → M Bool := fun ρ => do let x ← f ρ; dTru x
theorem isEmpty_reps {K : PySem.W.Frag} {mg : Str → Option Value} {τ : Option Addr} {G : Hp} {vs : List V} {ds : List D} (r : Reps K mg τ G vs ds) : vs.isEmpty = ds.isEmpty := by
  cases r <;> rfl
theorem isEmpty_map {α β : Type} (f : α → β) (l : List α) : (l.map f).isEmpty = l.isEmpty := by
  cases l <;> rfl
theorem t_truth (ha : PE X a (cT X.K X.mg E fa)) (he : ∀ whole, isTrue a X.env whole = (do let v ← whole; standAt a.pos; holding [v] (truthy v)) := by intro _; rfl) : PT X a (cB X.K X.mg E (tT fa)) :=
  pt_mono (pt_truth ha he) fun σ H Q ⟨τ, H0, G0, G, ρ, n, R, h⟩ => ⟨τ, H0, G0, G, ρ, n, R, Post.mono (fun x H1 => by
    rintro ⟨dx, n1, G1, st, tw, rx, h1⟩
    have R1 := R.next st tw
    cases rx with
    | non => exact ⟨false, rfl, Post.ret h1 R1.refl tw rfl⟩
    | bl k => exact ⟨k, rfl, Post.ret h1 R1.refl tw rfl⟩
    | int i => exact ⟨_, rfl, Post.ret h1 R1.refl tw rfl⟩
    | str y =>
      obtain ⟨hz, h1⟩ := Post.need h1
      exact ⟨_, ⟨of_decide_eq_true hz, rfl⟩, Post.ret h1 R1.refl tw rfl⟩
    | lst ha qa => exact ⟨_, .inl ⟨_, .inl (.inl (R1.le.list ha)), rfl⟩, Post.ret h1 R1.refl tw (by rw [isEmpty_reps qa])⟩
    | tup ha qa => exact ⟨_, .inr (.inl ⟨_, sqt_le R1.le ha, rfl⟩), Post.ret h1 R1.refl tw (by rw [isEmpty_reps qa])⟩
    | scr hs => exact ⟨_, .inl ⟨_, scr_at R1.le hs, rfl⟩, Post.ret h1 R1.refl tw (by rw [isEmpty_map, isEmpty_map])⟩
    | town _ => exact (show False from h1).elim
    | exc _ _ => exact (show False from h1).elim
    | dk hd rd =>
      cases rd with
      | nil => exact (show False from h1).elim
      | cons r1 r2 =>
        rename_i k v vs d ds
        cases k <;> exact (show False from h1).elim
    | dt hd rd =>
      cases rd with
      | nil => exact (show False from h1).elim
      | cons r1 r2 => exact (show False from h1).elim) (Post.bind (rep := Rep X.K X.mg τ) h)⟩
/-- .. as values (the first ones truth values) -/
def eAnd (fa fb : Mi.Env → M D) : Mi.Env → M D := fun ρ => do let x ← fa ρ; let k ← asB x; if k = true then fb ρ else pure (.bool false)
def eOr (fa fb : Mi.Env → M D) : Mi.Env → M D := fun ρ => do let x ← fa ρ; let k ← asB x; if k = true then pure (.bool true) else fb ρ
def eNot (fa : Mi.Env → M D) : Mi.Env → M D := fun ρ => do let x ← fa ρ; let k ← asB x; pure (.bool (!k))
theorem x_one {op : BoolOp} (ha : PE X a (cT X.K X.mg E fa)) : PE X (.BoolOp op [a] pos) (cT X.K X.mg E fa) := pe_one ha
theorem x_and (ha : PE X a (cT X.K X.mg E fa)) (hb : PE X (.BoolOp .And (b :: rest) pos) (cT X.K X.mg E fb)) : PE X (.BoolOp .And (a :: b :: rest) pos) (cT X.K X.mg E (eAnd fa fb)) :=
  pe_mono (pe_and ha hb) fun σ H Q ⟨τ, H0, G0, G, ρ, n, R, h⟩ => ⟨τ, H0, G0, G, ρ, n, R, Post.mono (fun x H1 => by
    rintro ⟨dx, n1, G1, st, tw, rx, h1⟩
    have R1 := R.next st tw
    cases rx with
    | bl k =>
      refine ⟨k, rfl, ?_⟩
      cases k with
      | true => exact ⟨τ, H0, G0, G1, ρ, n1, R1, h1⟩
      | false => exact Post.ret h1 R1.refl tw (.bl _)
    | _ => exact (show False from h1).elim) (Post.bind (rep := Rep X.K X.mg τ) h)⟩
theorem x_or (ha : PE X a (cT X.K X.mg E fa)) (hb : PE X (.BoolOp .Or (b :: rest) pos) (cT X.K X.mg E fb)) : PE X (.BoolOp .Or (a :: b :: rest) pos) (cT X.K X.mg E (eOr fa fb)) :=
  pe_mono (pe_or ha hb) fun σ H Q ⟨τ, H0, G0, G, ρ, n, R, h⟩ => ⟨τ, H0, G0, G, ρ, n, R, Post.mono (fun x H1 => by
    rintro ⟨dx, n1, G1, st, tw, rx, h1⟩
    have R1 := R.next st tw
    cases rx with
    | bl k =>
      refine ⟨k, rfl, ?_⟩
      cases k with
      | false => exact ⟨τ, H0, G0, G1, ρ, n1, R1, h1⟩
      | true => exact Post.ret h1 R1.refl tw (.bl _)
    | _ => exact (show False from h1).elim) (Post.bind (rep := Rep X.K X.mg τ) h)⟩
theorem x_not (ha : PE X a (cT X.K X.mg E fa)) : PE X (.UnaryOp .Not a pos) (cT X.K X.mg E (eNot fa)) :=
  pe_mono (pe_not ha) fun σ H Q ⟨τ, H0, G0, G, ρ, n, R, h⟩ => ⟨τ, H0, G0, G, ρ, n, R, Post.mono (fun x H1 => by
    rintro ⟨dx, n1, G1, st, tw, rx, h1⟩
    cases rx with
    | bl k => exact ⟨k, rfl, Post.ret h1 (R.next st tw).refl tw (.bl _)⟩
    | _ => exact (show False from h1).elim) (Post.bind (rep := Rep X.K X.mg τ) h)⟩
def eIf (t : Mi.Env → M Bool) (fa fb : Mi.Env → M D) : Mi.Env → M D := fun ρ => do let k ← t ρ; if k = true then fa ρ else fb ρ
theorem x_if (hc : PT X c (cB X.K X.mg E tc)) (ha : PE X a (cT X.K X.mg E fa)) (hb : PE X b (cT X.K X.mg E fb)) : PE X (.IfExp c a b pos) (cT X.K X.mg E (eIf tc fa fb)) :=
  pe_mono (pe_ifExp hc ha hb) fun σ H Q ⟨τ, H0, G0, G, ρ, n, R, h⟩ => ⟨τ, H0, G0, G, ρ, n, R, Post.mono (fun k H1 => by
    rintro ⟨k', n1, G1, st, tw, rfl, h1⟩
    have R1 := R.next st tw
    cases k with
    | true => exact ⟨τ, H0, G0, G1, ρ, n1, R1, h1⟩
    | false => exact ⟨τ, H0, G0, G1, ρ, n1, R1, h1⟩) (Post.bind (rep := fun _ b c => b = c) h)⟩
end

/-! ### argument lists, displays -/
section
variable {X : Cx} {E : L2.St → XK} {a b c e : Expr} {es : List Expr} {pos : Pos} {fa fb fc f : Mi.Env → M D} {fs : Mi.Env → M (List D)}
def aNil : Mi.Env → M (List D) := fun _ => pure []
def aCons (fa : Mi.Env → M D) (fs : Mi.Env → M (List D)) : Mi.Env → M (List D) := fun ρ => do let x ← fa ρ; let xs ← fs ρ; pure (x :: xs)
theorem a_nil : PA X [] (cA X.K X.mg E aNil) := pa_mono pa_nil fun σ H Q ⟨τ, H0, G0, G, ρ, n, R, h⟩ => Post.ret h R.refl R.town .nil
theorem a_cons (ha : PE X e (cT X.K X.mg E fa)) (hr : PA X es (cA X.K X.mg E fs)) (hs : starEach (e :: es) X.env = (false, eval e X.env) :: starEach es X.env := by rfl) : PA X (e :: es) (cA X.K X.mg E (aCons fa fs)) :=
  pa_mono (pa_cons ha hr hs) fun σ H Q ⟨τ, H0, G0, G, ρ, n, R, h⟩ => ⟨τ, H0, G0, G, ρ, n, R, Post.mono (fun x H1 => by
    rintro ⟨dx, n1, G1, st, tw, rx, h1⟩
    have R1 := R.next st tw
    refine ⟨τ, H0, G0, G1, ρ, n1, R1, Post.mono (fun xs H2 => ?_) (Post.bind (rep := Reps X.K X.mg τ) h1)⟩
    rintro ⟨dxs, n2, G2, st2, tw2, rxs, h2⟩
    exact Post.ret h2 (R1.next st2 tw2).refl tw2 (.cons (rx.sub st2.sub) rxs)) (Post.bind (rep := Rep X.K X.mg τ) h)⟩
def eTup (fs : Mi.Env → M (List D)) : Mi.Env → M D := fun ρ => do let xs ← fs ρ; need (decide (xs.length ≤ sizeLine)); pure (.tuple xs)
def lLst (fs : Mi.Env → M (List D)) : Mi.Env → M (List D) := fun ρ => do let xs ← fs ρ; need (decide (xs.length ≤ sizeLine)); pure xs
def eL (fs : Mi.Env → M (List D)) : Mi.Env → M D := fun ρ => do let xs ← fs ρ; pure (.list xs)
theorem x_tup {k : Nat} (h : PA X es (cA X.K X.mg E fs)) : PE X (.Tuple es k pos) (cT X.K X.mg E (eTup fs)) :=
  pe_mono (pe_tup h) fun σ H Q ⟨τ, H0, G0, G, ρ, n, R, h⟩ => ⟨τ, H0, G0, G, ρ, n, R, Post.mono (fun xs H1 => by
    rintro ⟨ds, n1, G1, st, tw, r, h1⟩
    obtain ⟨hz, h1⟩ := Post.need h1
    exact ⟨by rw [r.length]; exact of_decide_eq_true hz, Post.newT h1 (R.next st tw).refl tw r⟩) (Post.bind (rep := Reps X.K X.mg τ) h)⟩
/-- a new list, for itself -/
theorem PostF.ret {K : PySem.W.Frag} {mg : Str → Option Value} {τ : Option Addr} {H G : Hp} {Ex : XK} {Q : VK} {n : Nat} {vs : List V} {ds : List D} (h : PostF K mg τ H G Ex ((pure ds : M (List D)) n) Q) (st : Step τ H G H G) (tw : Town τ n H) (r : Reps K mg τ G vs ds) :
    ∀ p, H p = none → Q (.ref p) (upd H p (.lst vs)) := fun p hp =>
  h p vs _ G (Step.other st.le st.nt hp) (tw.upd hp) hp upd_same (st.le.none hp) r
theorem PostF.shift {K : PySem.W.Frag} {mg : Str → Option Value} {τ : Option Addr} {H G H1 G1 : Hp} {Ex : XK} {Q : VK} (st : Step τ H G H1 G1) (tn : ∀ p, H1 p = none → H p = none) : ∀ {r : Res (List D)}, PostF K mg τ H G Ex r Q → PostF K mg τ H1 G1 Ex r Q
  | .ok d n, h => fun p vs H' G' s t hp h1 h2 r => h p vs H' G' (st.trans s) t (tn p hp) h1 h2 r
  | .err c n, h => fun C H' m k t => h C H' m (st.keep.trans k) t
  | .bad, h => h
theorem none_back {τ : Option Addr} {H G H1 G1 : Hp} {n1 : Nat} (st : Step τ H G H1 G1) (tw : Town τ n1 H1) : ∀ p, H1 p = none → H p = none := fun p hp => by
  cases e : H p with
  | none => rfl
  | some o =>
    by_cases z : some p = τ
    · have q := tw p z.symm
      rw [hp] at q
      cases q
    · have q := st.keep p o e z
      rw [hp] at q
      cases q
theorem PostF.bind {α β : Type} {K : PySem.W.Frag} {mg : Str → Option Value} {τ : Option Addr} {H G : Hp} {Ex : XK} {Q : VK} {rep : Hp → β → α → Prop} {m : M α} {g : α → M (List D)} {n : Nat} (h : PostF K mg τ H G Ex ((m >>= g) n) Q) :
    Post mg τ H G Ex rep (m n) fun x H1 => ∃ a n1 G1, Step τ H G H1 G1 ∧ Town τ n1 H1 ∧ rep G1 x a ∧ PostF K mg τ H1 G1 Ex (g a n1) Q := by
  have h' : PostF K mg τ H G Ex (M.bnd m g n) Q := h
  unfold M.bnd at h'
  cases e : m n with
  | ok a k =>
    rw [e] at h'
    exact fun v H' G' s t p => ⟨a, k, G', s, t, p, PostF.shift s (none_back s t) h'⟩
  | err c k =>
    rw [e] at h'
    exact h'
  | bad =>
    rw [e] at h'
    exact h'.elim
theorem PostF.need {K : PySem.W.Frag} {mg : Str → Option Value} {τ : Option Addr} {H G : Hp} {Ex : XK} {Q : VK} {b : Bool} {f : Unit → M (List D)} {n : Nat} (h : PostF K mg τ H G Ex ((Mi.need b >>= f) n) Q) : b = true ∧ PostF K mg τ H G Ex (f () n) Q := by
  cases b with
  | false => exact (show False from h).elim
  | true => exact ⟨rfl, h⟩
theorem l_lst (h : PA X es (cA X.K X.mg E fs)) : PE X (.List es pos) (cF X.K X.mg E (lLst fs)) :=
  pe_mono (pe_lst h) fun σ H Q ⟨τ, H0, G0, G, ρ, n, R, h⟩ => ⟨τ, H0, G0, G, ρ, n, R, Post.mono (fun xs H1 => by
    rintro ⟨ds, n1, G1, st, tw, r, h1⟩
    obtain ⟨hz, h1⟩ := PostF.need h1
    exact ⟨by rw [r.length]; exact of_decide_eq_true hz, PostF.ret h1 (R.next st tw).refl tw r⟩) (PostF.bind (rep := Reps X.K X.mg τ) h)⟩
/-- the new list stands from now on -/
theorem post_fz {K : PySem.W.Frag} {mg : Str → Option Value} {τ : Option Addr} {H G : Hp} {Ex : XK} {Q : VK} {m : M (List D)} {n n0 : Nat} (tw : Town τ n0 H) (h : Post mg τ H G Ex (Rep K mg τ) ((m >>= fun xs => pure (.list xs)) n) Q) : PostF K mg τ H G Ex (m n) Q := by
  have h' : Post mg τ H G Ex (Rep K mg τ) (M.bnd m (fun xs => pure (.list xs)) n) Q := h
  unfold M.bnd at h'
  cases e : m n with
  | ok ds k =>
    rw [e] at h'
    intro p vs H' G' s t hp h1 h2 r
    have sub : ∀ a u, G' a = some u → upd G' p (.lst vs) a = some u := fun a u z => by
      rw [upd_ne (by rintro rfl; rw [h2] at z; cases z)]
      exact z
    refine h' _ H' (upd G' p (.lst vs)) ⟨s.keep, fun a u z => sub a u (s.sub a u z), fun a u z => ?_, fun a u z => ?_, fun a z => ?_⟩ t (.lst upd_same (r.sub sub))
    · by_cases q : a = p
      · subst q
        exact .inr hp
      · rw [upd_ne q] at z
        exact s.new a u z
    · by_cases q : a = p
      · subst q
        rw [upd_same] at z
        cases z
        exact .inl h1
      · rw [upd_ne q] at z
        exact s.le a u z
    · have : a ≠ p := by
        rintro rfl
        exact tw.ne _ z hp
      rw [upd_ne this]
      exact s.nt a z
  | err c k =>
    rw [e] at h'
    exact h'
  | bad =>
    rw [e] at h'
    exact h'.elim
end
end Mi

end

section
set_option Elab.async false
set_option linter.all false
set_option maxRecDepth 100000
set_option maxHeartbeats 4000000
namespace Mi
open PySem PySem.Spec L2

section
variable {X : Cx} {E : L2.St → XK} {a b c e : Expr} {es : List Expr} {pos : Pos} {fa fb fc f : Mi.Env → M D} {fs : Mi.Env → M (List D)} {ls : Mi.Env → M (List D)}
/-- a new list that stands from now on -/
theorem x_fz (h : PE X e (cF X.K X.mg E ls)) : PE X e (cT X.K X.mg E (eL ls)) :=
  pe_mono h fun σ H Q ⟨τ, H0, G0, G, ρ, n, R, h⟩ => ⟨τ, H0, G0, G, ρ, n, R, post_fz R.town h⟩

/-! ### items -/
theorem ixN_len {n m : Nat} (h : n = m) (i : Int) : ixN n i = ixN m i := by rw [h]
theorem Reps.atI {K : PySem.W.Frag} {mg : Str → Option Value} {τ : Option Addr} {G : Hp} {vs : List V} {ds : List D} {i : Int} {d : D} (r : Reps K mg τ G vs ds) (h : L2.atI ds i = some d) : ∃ v, L2.atI vs i = some v ∧ Rep K mg τ G v d := by
  unfold L2.atI at h ⊢
  rw [r.length]
  cases e : ixN ds.length i with
  | none =>
    rw [e] at h
    cases h
  | some j =>
    rw [e] at h
    exact r.get h
theorem Post.opt {α β γ : Type} {mg : Str → Option Value} {τ : Option Addr} {H G : Hp} {Ex : XK} {rep : Hp → β → α → Prop} {Q : β → Hp → Prop} {o : Option γ} {g : γ → M α} {n : Nat} (h : Post mg τ H G Ex rep ((ofOpt o >>= g) n) Q) : ∃ x, o = some x ∧ Post mg τ H G Ex rep (g x n) Q := by
  cases o with
  | none => exact (show False from h).elim
  | some x => exact ⟨x, rfl, h⟩
theorem Post.opt0 {α β : Type} {mg : Str → Option Value} {τ : Option Addr} {H G : Hp} {Ex : XK} {rep : Hp → β → α → Prop} {Q : β → Hp → Prop} {o : Option α} {n : Nat} (h : Post mg τ H G Ex rep (ofOpt o n) Q) : ∃ x, o = some x ∧ Post mg τ H G Ex rep ((pure x : M α) n) Q := by
  cases o with
  | none => exact (show False from h).elim
  | some x => exact ⟨x, rfl, h⟩
def dIx : D → D → M D
  | .list ds, .int i => ofOpt (atI ds i)
  | .tuple ds, .int i => ofOpt (atI ds i)
  | .str z, .int i => do need (decide (z.length ≤ sizeLine)); let c ← ofOpt (atI z.cps.toList i); pure (.str ⟨#[c]⟩)
  | .dict [(.none, .list ds)], .int i => ofOpt (atI ds i)
  | _, _ => bad
theorem atI_map {α β : Type} (f : α → β) (l : List α) (i : Int) : atI (l.map f) i = (atI l i).map f := by
  unfold atI
  rw [List.length_map]
  cases ixN l.length i with
  | none => rfl
  | some j => simp
theorem od_ix : OpD X (rIx X.K) dIx := by
  intro τ n H G x y dx dy E Q st tw rx ry h
  cases rx with
  | lst ha qa =>
    cases ry with
    | int i =>
      obtain ⟨d, e, h⟩ := Post.opt0 h
      obtain ⟨v, e', r⟩ := qa.atI e
      exact .inl ⟨_, _, _, _, rfl, rfl, .inl (.inl (st.le.list ha)), e', Post.ret h st tw r⟩
    | _ => exact (show False from h).elim
  | tup ha qa =>
    cases ry with
    | int i =>
      obtain ⟨d, e, h⟩ := Post.opt0 h
      obtain ⟨v, e', r⟩ := qa.atI e
      exact .inr (.inl ⟨_, _, _, _, rfl, rfl, sqt_le st.le ha, e', Post.ret h st tw r⟩)
    | _ => exact (show False from h).elim
  | str z =>
    cases ry with
    | int i =>
      obtain ⟨hz, h⟩ := Post.need h
      obtain ⟨c, e, h⟩ := Post.opt h
      exact .inr (.inr ⟨_, _, _, rfl, rfl, of_decide_eq_true hz, e, Post.ret h st tw (.str _)⟩)
    | _ => exact (show False from h).elim
  | scr hs =>
    rename_i ns
    cases ry with
    | int i =>
      obtain ⟨d, e, h⟩ := Post.opt0 h
      rw [atI_map] at e
      cases e1 : atI ns i with
      | none =>
        rw [e1] at e
        cases e
      | some k =>
        rw [e1] at e
        cases e
        exact .inl ⟨_, _, _, .int k, rfl, rfl, scr_at st.le hs, by rw [atI_map, e1]; rfl, Post.ret h st tw (.int _)⟩
    | _ => exact (show False from h).elim
  | dk hd rd =>
    cases rd with
    | nil => exact (show False from h).elim
    | cons r1 r2 =>
      rename_i k v vs d ds
      cases k <;> exact (show False from h).elim
  | dt hd rd =>
    cases rd with
    | nil => exact (show False from h).elim
    | cons r1 r2 => exact (show False from h).elim
  | _ => exact (show False from h).elim
theorem x_ix (ha : PE X a (cT X.K X.mg E fa)) (hb : PE X b (cT X.K X.mg E fb)) (hs : PlainIx b := by exact fun _ _ => rfl) : PE X (.Subscript a b pos) (cT X.K X.mg E (e2 dIx fa fb)) :=
  pe_mono (pe_ix ix_seq ha hb hs) fun _ _ _ h => op_step od_ix h

/-! ### slices -/
def cutD (xs : List D) (lo hi : Option Int) : List D := (xs.drop (HT.sIx xs.length 0 lo)).take (HT.sIx xs.length xs.length hi - HT.sIx xs.length 0 lo)
theorem reps_cut {K : PySem.W.Frag} {mg : Str → Option Value} {τ : Option Addr} {G : Hp} {vs : List V} {ds : List D} (r : Reps K mg τ G vs ds) (lo hi : Option Int) : Reps K mg τ G (cutV vs lo hi) (cutD ds lo hi) := by
  unfold cutV cutD
  rw [r.length]
  exact (r.drop _).take _
def dSl (lo hi : Option Int) : D → M D
  | .list ds => pure (.list (cutD ds lo hi))
  | .tuple ds => pure (.tuple (cutD ds lo hi))
  | .str z => do need (decide (z.length ≤ sizeLine)); pure (.str (cutS z lo hi))
  | _ => bad
def pNo : Mi.Env → M (Option Int) := fun _ => pure none
def asI : D → M Int
  | .int i => pure i
  | _ => bad
def pYes (fa : Mi.Env → M D) : Mi.Env → M (Option Int) := fun ρ => do let x ← fa ρ; let i ← asI x; pure (some i)
abbrev cO (K : PySem.W.Frag) (mg : Str → Option Value) (E : L2.St → XK) (f : Mi.Env → M (Option Int)) : TO := cG K mg (fun _ _ b c => b = c) E f
theorem po_mono {o : Option Expr} {t t' : TO} (h : PO X o t) (i : ∀ σ H Q, t' σ H Q → t σ H Q) : PO X o t' := ⟨fun pins s σ H Q I q => h.run pins s σ H Q I (i σ H Q q)⟩
theorem p_no : PO X none (cO X.K X.mg E pNo) := po_mono po_none fun σ H Q ⟨τ, H0, G0, G, ρ, n, R, h⟩ => Post.ret h R.refl R.town rfl
theorem p_yes (ha : PE X a (cT X.K X.mg E fa)) : PO X (some a) (cO X.K X.mg E (pYes fa)) :=
  po_mono (po_some ha) fun σ H Q ⟨τ, H0, G0, G, ρ, n, R, h⟩ => ⟨τ, H0, G0, G, ρ, n, R, Post.mono (fun x H1 => by
    rintro ⟨dx, n1, G1, st, tw, rx, h1⟩
    cases rx with
    | int i => exact ⟨i, rfl, Post.ret h1 (R.next st tw).refl tw rfl⟩
    | _ => exact (show False from h1).elim) (Post.bind (rep := Rep X.K X.mg τ) h)⟩
def eSl (fa : Mi.Env → M D) (pl ph : Mi.Env → M (Option Int)) : Mi.Env → M D := fun ρ => do let x ← fa ρ; let lo ← pl ρ; let hi ← ph ρ; dSl lo hi x
def rSlP (K : PySem.W.Frag) : V → Option Int → Option Int → Hp → VK → Prop := fun x lo hi H Q => rSlL K x lo hi H Q ∨ rSlA K x lo hi H Q ∨ rSlS x lo hi H Q
theorem cut_whole {ds : List D} {lo hi : Option Int} (h : HT.sIx ds.length 0 lo = 0 ∧ HT.sIx ds.length ds.length hi = ds.length) : cutD ds lo hi = ds := by
  unfold cutD
  rw [h.1, h.2]
  simp
theorem x_sl {p2 : Pos} {lo hi : Option Expr} {pl ph : Mi.Env → M (Option Int)} (ha : PE X a (cT X.K X.mg E fa)) (hl : PO X lo (cO X.K X.mg E pl)) (hh : PO X hi (cO X.K X.mg E ph)) :
    PE X (.Subscript a (.Slice lo hi none p2) pos) (cT X.K X.mg E (eSl fa pl ph)) :=
  pe_mono (pe_slice (r := rSlP X.K) (SlR.or sl_list (SlR.or sl_tupA sl_str)) ha hl hh) fun σ H Q ⟨τ, H0, G0, G, ρ, n, R, h⟩ => ⟨τ, H0, G0, G, ρ, n, R, Post.mono (fun x H1 => by
    rintro ⟨dx, n1, G1, st, tw, rx, h1⟩
    have R1 := R.next st tw
    refine ⟨τ, H0, G0, G1, ρ, n1, R1, Post.mono (fun lo H2 => ?_) (Post.bind (rep := fun _ b c => b = c) h1)⟩
    rintro ⟨_, n2, G2, st2, tw2, rfl, h2⟩
    have R2 := R1.next st2 tw2
    refine ⟨τ, H0, G0, G2, ρ, n2, R2, Post.mono (fun hi H3 => ?_) (Post.bind (rep := fun _ b c => b = c) h2)⟩
    rintro ⟨_, n3, G3, st3, tw3, rfl, h3⟩
    have R3 := R2.next st3 tw3
    have rx3 := (rx.sub st2.sub).sub st3.sub
    cases rx3 with
    | lst hb qb => exact .inl ⟨_, _, rfl, .inl (.inl (R3.le.list hb)), Post.newL h3 R3.refl tw3 (reps_cut qb lo hi)⟩
    | tup hb qb =>
      refine .inr (.inl ⟨_, _, rfl, sqt_le R3.le hb, fun hw => ?_, fun hw => Post.newT h3 R3.refl tw3 (reps_cut qb lo hi)⟩)
      rw [qb.length] at hw
      have h3 : Post X.mg τ H3 G3 (E σ) (Rep X.K X.mg τ) ((pure (.tuple (cutD _ lo hi)) : M D) n3) Q := h3
      rw [cut_whole hw] at h3
      exact Post.ret h3 R3.refl tw3 (.tup hb qb)
    | str z =>
      obtain ⟨hz, h3⟩ := Post.need h3
      exact .inr (.inr ⟨_, rfl, of_decide_eq_true hz, Post.ret h3 R3.refl tw3 (.str _)⟩)
    | _ => exact (show False from h3).elim) (Post.bind (rep := Rep X.K X.mg τ) h)⟩
/-- xs[::-1], a list -/
def lRev (fa : Mi.Env → M D) : Mi.Env → M (List D) := fun ρ => do
  let x ← fa ρ
  match x with
  | .list ds => pure ds.reverse
  | _ => bad
theorem l_rev {k : Nat} {p1 p2 p3 : Pos} (ha : PE X a (cT X.K X.mg E fa)) : PE X (.Subscript a (.Slice none none (some (.UnaryOp .USub (.Constant (.int 1) k p1) p2)) p3) pos) (cF X.K X.mg E (lRev fa)) :=
  pe_mono (pe_revL ha) fun σ H Q ⟨τ, H0, G0, G, ρ, n, R, h⟩ => ⟨τ, H0, G0, G, ρ, n, R, Post.mono (fun x H1 => by
    rintro ⟨dx, n1, G1, st, tw, rx, h1⟩
    have R1 := R.next st tw
    cases rx with
    | lst hb qb => exact ⟨_, _, rfl, .inl (.inl (R1.le.list hb)), PostF.ret h1 R1.refl tw qb.reverse⟩
    | _ => exact (show False from h1).elim) (PostF.bind (rep := Rep X.K X.mg τ) h)⟩

/-! ### built-in calls -/
def CallD (X : Cx) (r : List V → Hp → VK → Prop) (g : List D → M D) : Prop := ∀ (τ : Option Addr) (n : Nat) (H G : Hp) (vs : List V) (ds : List D) (E : XK) (Q : VK), Step τ H G H G → Town τ n H → Reps X.K X.mg τ G vs ds →
  Post X.mg τ H G E (Rep X.K X.mg τ) (g ds n) Q → r vs H Q
def CallF (X : Cx) (r : List V → Hp → VK → Prop) (g : List D → M (List D)) : Prop := ∀ (τ : Option Addr) (n : Nat) (H G : Hp) (vs : List V) (ds : List D) (E : XK) (Q : VK), Step τ H G H G → Town τ n H → Reps X.K X.mg τ G vs ds →
  PostF X.K X.mg τ H G E (g ds n) Q → r vs H Q
def eCall (g : List D → M D) (fs : Mi.Env → M (List D)) : Mi.Env → M D := fun ρ => do let xs ← fs ρ; g xs
def lCall (g : List D → M (List D)) (fs : Mi.Env → M (List D)) : Mi.Env → M (List D) := fun ρ => do let xs ← fs ρ; g xs
theorem call_step {r : List V → Hp → VK → Prop} {g : List D → M D} (hg : CallD X r g) {σ : L2.St} {H : Hp} {Q : VK} (h : cT X.K X.mg E (eCall g fs) σ H Q) : tCB r (cA X.K X.mg E fs) σ H Q := by
  obtain ⟨τ, H0, G0, G, ρ, n, R, h⟩ := h
  refine ⟨τ, H0, G0, G, ρ, n, R, Post.mono (fun xs H1 => ?_) (Post.bind (rep := Reps X.K X.mg τ) h)⟩
  rintro ⟨ds, n1, G1, st, tw, rx, h1⟩
  exact hg τ n1 H1 G1 xs ds (E σ) Q (R.next st tw).refl tw rx h1
theorem callF_step {r : List V → Hp → VK → Prop} {g : List D → M (List D)} (hg : CallF X r g) {σ : L2.St} {H : Hp} {Q : VK} (h : cF X.K X.mg E (lCall g fs) σ H Q) : tCB r (cA X.K X.mg E fs) σ H Q := by
  obtain ⟨τ, H0, G0, G, ρ, n, R, h⟩ := h
  refine ⟨τ, H0, G0, G, ρ, n, R, Post.mono (fun xs H1 => ?_) (PostF.bind (rep := Reps X.K X.mg τ) h)⟩
  rintro ⟨ds, n1, G1, st, tw, rx, h1⟩
  exact hg τ n1 H1 G1 xs ds (E σ) Q (R.next st tw).refl tw rx h1
section
variable {x : Str} {p : Pos} {id T : String} {r : List V → Hp → VK → Prop}
theorem x_callB {g : List D → M D} (hc : CallR X (.builtin id) r) (hd : CallD X r g) (hg : Gl X x) (hm : X.mg x = none) (hv : bootBuiltins x = some (.builtin id)) (ha : PA X (e :: es) (cA X.K X.mg E fs)) (hn : x ≠ "__name__" := by decide) (hdb : (x == ("__debug__" : Str)) = false := by decide)
    (he : starEach (e :: es) X.env = (false, eval e X.env) :: starEach es X.env := by rfl) (hpl : (backTo pos (starEach es X.env)).any (·.1) = false := by rfl) : PE X (.Call (.Name x p) (e :: es) [] pos) (cT X.K X.mg E (eCall g fs)) :=
  pe_mono (pe_callB hc hg hm hv ha hn hdb he hpl) fun _ _ _ h => call_step hd h
theorem x_callTy {g : List D → M D} (hc : CallR X (.type T) r) (hd : CallD X r g) (hg : Gl X x) (hm : X.mg x = none) (hv : bootBuiltins x = some (.type T)) (ha : PA X (e :: es) (cA X.K X.mg E fs)) (hn : x ≠ "__name__" := by decide) (hdb : (x == ("__debug__" : Str)) = false := by decide)
    (he : starEach (e :: es) X.env = (false, eval e X.env) :: starEach es X.env := by rfl) (hpl : (backTo pos (starEach es X.env)).any (·.1) = false := by rfl) : PE X (.Call (.Name x p) (e :: es) [] pos) (cT X.K X.mg E (eCall g fs)) :=
  pe_mono (pe_callTy hc hg hm hv ha hn hdb he hpl) fun _ _ _ h => call_step hd h
theorem l_callTy {g : List D → M (List D)} (hc : CallR X (.type T) r) (hd : CallF X r g) (hg : Gl X x) (hm : X.mg x = none) (hv : bootBuiltins x = some (.type T)) (ha : PA X (e :: es) (cA X.K X.mg E fs)) (hn : x ≠ "__name__" := by decide) (hdb : (x == ("__debug__" : Str)) = false := by decide)
    (he : starEach (e :: es) X.env = (false, eval e X.env) :: starEach es X.env := by rfl) (hpl : (backTo pos (starEach es X.env)).any (·.1) = false := by rfl) : PE X (.Call (.Name x p) (e :: es) [] pos) (cF X.K X.mg E (lCall g fs)) :=
  pe_mono (pe_callTy hc hg hm hv ha hn hdb he hpl) fun _ _ _ h => callF_step hd h
theorem l_callB {g : List D → M (List D)} (hc : CallR X (.builtin id) r) (hd : CallF X r g) (hg : Gl X x) (hm : X.mg x = none) (hv : bootBuiltins x = some (.builtin id)) (ha : PA X (e :: es) (cA X.K X.mg E fs)) (hn : x ≠ "__name__" := by decide) (hdb : (x == ("__debug__" : Str)) = false := by decide)
    (he : starEach (e :: es) X.env = (false, eval e X.env) :: starEach es X.env := by rfl) (hpl : (backTo pos (starEach es X.env)).any (·.1) = false := by rfl) : PE X (.Call (.Name x p) (e :: es) [] pos) (cF X.K X.mg E (lCall g fs)) :=
  pe_mono (pe_callB hc hg hm hv ha hn hdb he hpl) fun _ _ _ h => callF_step hd h
end
/-- functions of one, of two -/
def arg1 {α : Type} (g : D → M α) : List D → M α
  | [x] => g x
  | _ => bad
def arg2 {α : Type} (g : D → D → M α) : List D → M α
  | [x, y] => g x y
  | _ => bad
theorem cd_one {r : List V → Hp → VK → Prop} {g : D → M D} (hg : ∀ (τ : Option Addr) (n : Nat) (H G : Hp) (v : V) (d : D) (E : XK) (Q : VK), Step τ H G H G → Town τ n H → Rep X.K X.mg τ G v d → Post X.mg τ H G E (Rep X.K X.mg τ) (g d n) Q → r [v] H Q) : CallD X r (arg1 g) := by
  intro τ n H G vs ds E Q st tw q h
  cases q with
  | nil => exact (show False from h).elim
  | cons r1 r2 =>
    cases r2 with
    | nil => exact hg τ n H G _ _ E Q st tw r1 h
    | cons _ _ => exact (show False from h).elim
theorem cf_one {r : List V → Hp → VK → Prop} {g : D → M (List D)} (hg : ∀ (τ : Option Addr) (n : Nat) (H G : Hp) (v : V) (d : D) (E : XK) (Q : VK), Step τ H G H G → Town τ n H → Rep X.K X.mg τ G v d → PostF X.K X.mg τ H G E (g d n) Q → r [v] H Q) : CallF X r (arg1 g) := by
  intro τ n H G vs ds E Q st tw q h
  cases q with
  | nil => exact (show False from h).elim
  | cons r1 r2 =>
    cases r2 with
    | nil => exact hg τ n H G _ _ E Q st tw r1 h
    | cons _ _ => exact (show False from h).elim
theorem cd_pair {r : List V → Hp → VK → Prop} {g : D → D → M D} (hg : ∀ (τ : Option Addr) (n : Nat) (H G : Hp) (v w : V) (d e : D) (E : XK) (Q : VK), Step τ H G H G → Town τ n H → Rep X.K X.mg τ G v d → Rep X.K X.mg τ G w e → Post X.mg τ H G E (Rep X.K X.mg τ) (g d e n) Q → r [v, w] H Q) : CallD X r (arg2 g) := by
  intro τ n H G vs ds E Q st tw q h
  cases q with
  | nil => exact (show False from h).elim
  | cons r1 r2 =>
    cases r2 with
    | nil => exact (show False from h).elim
    | cons r2 r3 =>
      cases r3 with
      | nil => exact hg τ n H G _ _ _ _ E Q st tw r1 r2 h
      | cons _ _ => exact (show False from h).elim
/-- len -/
def dLen : D → M D
  | .str x => do need (decide (x.length ≤ sizeLine)); pure (.int x.length)
  | .list ds => pure (.int ds.length)
  | .tuple ds => pure (.int ds.length)
  | .dict [(.none, .none)] => fun n => .ok (.int n) n
  | .dict [(.none, .list ns)] => pure (.int ns.length)
  | _ => bad
theorem cd_len : CallD X (fun xs H Q => ∃ x n, xs = [x] ∧ LenV X.K x H n ∧ Q (.int n) H) (arg1 dLen) := cd_one fun τ n H G v d E Q st tw rx h => by
  cases rx with
  | str x =>
    obtain ⟨hz, h⟩ := Post.need h
    exact ⟨_, _, rfl, ⟨of_decide_eq_true hz, rfl⟩, Post.ret h st tw (.int _)⟩
  | lst ha qa =>
    refine ⟨_, _, rfl, .inl ⟨_, .inl (.inl (st.le.list ha)), rfl⟩, ?_⟩
    rw [qa.length]
    exact Post.ret h st tw (.int _)
  | tup ha qa =>
    refine ⟨_, _, rfl, .inr ⟨_, sqt_le st.le ha, rfl⟩, ?_⟩
    rw [qa.length]
    exact Post.ret h st tw (.int _)
  | town ht =>
    refine ⟨_, _, rfl, .inl ⟨_, .inl (.inl (tw _ ht)), rfl⟩, ?_⟩
    rw [List.length_replicate]
    exact h _ _ _ st tw (.int _)
  | scr hs =>
    refine ⟨_, _, rfl, .inl ⟨_, scr_at st.le hs, rfl⟩, ?_⟩
    rw [List.length_map]
    have h : Post X.mg τ H G E (Rep X.K X.mg τ) ((pure (.int (List.map PyData.int _).length) : M D) n) Q := h
    rw [List.length_map] at h
    exact Post.ret h st tw (.int _)
  | dk hd rd =>
    cases rd with
    | nil => exact (show False from h).elim
    | cons r1 r2 =>
      rename_i k v vs d ds
      cases k <;> exact (show False from h).elim
  | dt hd rd =>
    cases rd with
    | nil => exact (show False from h).elim
    | cons r1 r2 => exact (show False from h).elim
  | _ => exact (show False from h).elim
theorem x_len {p : Pos} (hm : X.mg "len" = none) (ha : PA X [e] (cA X.K X.mg E fs)) (hg : Gl X "len" := by rfl) (he : starEach (e :: []) X.env = (false, eval e X.env) :: starEach [] X.env := by rfl) (hpl : (backTo pos (starEach [] X.env)).any (·.1) = false := by rfl) :
    PE X (.Call (.Name "len" p) [e] [] pos) (cT X.K X.mg E (eCall (arg1 dLen) fs)) := x_callB call_len cd_len hg hm PySem.boot_len ha (he := he) (hpl := hpl)
/-- list(xs) -/
def gList : D → M (List D)
  | .list ds => pure ds
  | .tuple ds => pure ds
  | _ => bad
theorem cf_list : CallF X (fun xs H Q => ∃ p ys, xs = [.ref p] ∧ (SqL X.K H p ys ∨ SqT X.K H p ys) ∧ ∀ l, H l = none → Q (.ref l) (upd H l (.lst ys))) (arg1 gList) := cf_one fun τ n H G v d E Q st tw rx h => by
  cases rx with
  | lst ha qa => exact ⟨_, _, rfl, .inl (.inl (.inl (st.le.list ha))), PostF.ret h st tw qa⟩
  | tup ha qa => exact ⟨_, _, rfl, .inr (sqt_le st.le ha), PostF.ret h st tw qa⟩
  | _ => exact (show False from h).elim
theorem l_list {p : Pos} (hm : X.mg "list" = none) (ha : PA X [e] (cA X.K X.mg E fs)) (hg : Gl X "list" := by rfl) (he : starEach (e :: []) X.env = (false, eval e X.env) :: starEach [] X.env := by rfl) (hpl : (backTo pos (starEach [] X.env)).any (·.1) = false := by rfl) :
    PE X (.Call (.Name "list" p) [e] [] pos) (cF X.K X.mg E (lCall (arg1 gList) fs)) := l_callTy call_list_of cf_list hg hm (by decide +kernel) ha (he := he) (hpl := hpl)
/-- tuple(xs) -/
def gTuple : D → M D
  | .list ds => pure (.tuple ds)
  | .tuple ds => pure (.tuple ds)
  | _ => bad
theorem cd_tuple : CallD X (fun xs H Q => ∃ p ys, xs = [.ref p] ∧ ((SqL X.K H p ys ∧ ∀ l, H l = none → Q (.ref l) (upd H l (.tup ys))) ∨ (SqT X.K H p ys ∧ Q (.ref p) H))) (arg1 gTuple) := cd_one fun τ n H G v d E Q st tw rx h => by
  cases rx with
  | lst ha qa => exact ⟨_, _, rfl, .inl ⟨.inl (.inl (st.le.list ha)), Post.newT h st tw qa⟩⟩
  | tup ha qa => exact ⟨_, _, rfl, .inr ⟨sqt_le st.le ha, Post.ret h st tw (.tup ha qa)⟩⟩
  | _ => exact (show False from h).elim
theorem x_tuple {p : Pos} (hm : X.mg "tuple" = none) (ha : PA X [e] (cA X.K X.mg E fs)) (hg : Gl X "tuple" := by rfl) (he : starEach (e :: []) X.env = (false, eval e X.env) :: starEach [] X.env := by rfl) (hpl : (backTo pos (starEach [] X.env)).any (·.1) = false := by rfl) :
    PE X (.Call (.Name "tuple" p) [e] [] pos) (cT X.K X.mg E (eCall (arg1 gTuple) fs)) := x_callTy call_tuple_of cd_tuple hg hm (by decide +kernel) ha (he := he) (hpl := hpl)
/-- str(n) -/
def gStrI : D → M D
  | .int i => do need (decide (i.natAbs.log2 < 1920)); pure (.str (toString i))
  | _ => bad
theorem cd_str : CallD X (fun xs H Q => ∃ i, xs = [.int i] ∧ i.natAbs.log2 < 1920 ∧ Q (.str (toString i)) H) (arg1 gStrI) := cd_one fun τ n H G v d E Q st tw rx h => by
  cases rx with
  | int i =>
    obtain ⟨hz, h⟩ := Post.need h
    exact ⟨_, rfl, of_decide_eq_true hz, Post.ret h st tw (.str _)⟩
  | _ => exact (show False from h).elim
theorem x_str_int {p : Pos} (hm : X.mg "str" = none) (ha : PA X [e] (cA X.K X.mg E fs)) (hg : Gl X "str" := by rfl) (he : starEach (e :: []) X.env = (false, eval e X.env) :: starEach [] X.env := by rfl) (hpl : (backTo pos (starEach [] X.env)).any (·.1) = false := by rfl) :
    PE X (.Call (.Name "str" p) [e] [] pos) (cT X.K X.mg E (eCall (arg1 gStrI) fs)) := x_callTy call_str_int cd_str hg hm (by decide +kernel) ha (he := he) (hpl := hpl)
/-- max(i, j), min(i, j), ints -/
def gMax2 : D → D → M D := dI fun i j => pure (.int (if j > i then j else i))
def gMin2 : D → D → M D := dI fun i j => pure (.int (if j < i then j else i))
theorem cd_two {k : Int → Int → Int} : CallD X (fun xs H Q => ∃ i j, xs = [.int i, .int j] ∧ Q (.int (k i j)) H) (arg2 (dI fun i j => pure (.int (k i j)))) := cd_pair fun τ n H G v w d e E Q st tw r1 r2 h => by
  cases r1 with
  | int i =>
    cases r2 with
    | int j => exact ⟨i, j, rfl, Post.ret h st tw (.int _)⟩
    | _ => exact (show False from h).elim
  | _ => exact (show False from h).elim
theorem x_max2 {p : Pos} (hc : X.calm = true) (hm : X.mg "max" = none) (ha : PA X [a, b] (cA X.K X.mg E fs)) (hg : Gl X "max" := by rfl) (he : starEach (a :: [b]) X.env = (false, eval a X.env) :: starEach [b] X.env := by rfl) (hpl : (backTo pos (starEach [b] X.env)).any (·.1) = false := by rfl) :
    PE X (.Call (.Name "max" p) [a, b] [] pos) (cT X.K X.mg E (eCall (arg2 gMax2) fs)) := x_callB (call_max2 hc) cd_two hg hm (by decide +kernel) ha (he := he) (hpl := hpl)
theorem x_min2 {p : Pos} (hc : X.calm = true) (hm : X.mg "min" = none) (ha : PA X [a, b] (cA X.K X.mg E fs)) (hg : Gl X "min" := by rfl) (he : starEach (a :: [b]) X.env = (false, eval a X.env) :: starEach [b] X.env := by rfl) (hpl : (backTo pos (starEach [b] X.env)).any (·.1) = false := by rfl) :
    PE X (.Call (.Name "min" p) [a, b] [] pos) (cT X.K X.mg E (eCall (arg2 gMin2) fs)) := x_callB (call_min2 hc) cd_two hg hm (by decide +kernel) ha (he := he) (hpl := hpl)
end
end Mi

end

section
set_option Elab.async false
set_option linter.all false
set_option maxRecDepth 100000
set_option maxHeartbeats 4000000
namespace Mi
open PySem PySem.Spec L2

/-! ### names set -/
section
variable {K : PySem.W.Frag} {mg : Str → Option Value} {τ : Option Addr} {H0 G0 G G' G1 H H' H1 : Hp} {σ : L2.St} {ρ : Mi.Env} {n n1 : Nat}
theorem at_set {ρ : Mi.Env} {i j : Nat} {s : Sl} : Env.at (ρ.set i s) j = if j = i ∧ i < ρ.length then s else ρ.at j := by
  unfold Env.at
  rw [List.getD_eq_getElem?_getD, List.getD_eq_getElem?_getD]
  by_cases h : j = i
  · subst h
    by_cases h2 : j < ρ.length
    · rw [List.getElem?_set_self h2, if_pos ⟨rfl, h2⟩] <;> rfl
    · rw [if_neg (fun z => h2 z.2), List.getElem?_eq_none (by simpa using h2), List.getElem?_eq_none (by simpa using h2)]
  · rw [List.getElem?_set_ne (Ne.symm h), if_neg (fun z => h z.1)]
theorem sig_set {σ : L2.St} {i j : Nat} {v : V} (hl : i < σ.length) : (σ.set i (some v))[j]? = if j = i then some (some v) else σ[j]? := by
  by_cases h : j = i
  · subst h
    rw [List.getElem?_set_self hl, if_pos rfl]
  · rw [List.getElem?_set_ne (Ne.symm h), if_neg h]
/-- a name is given a value that stands -/
theorem Rel.set (R : Rel K mg τ H0 G0 G H σ ρ n) (i : Nat) {v : V} {d : D} (r : Rep K mg τ G v d) : Rel K mg τ H0 G0 G H (σ.set i (some v)) (ρ.set i (.fz d)) n := by
  by_cases hi : i < ρ.length
  · have hs : i < σ.length := by rw [← R.len]; exact hi
    refine ⟨R.step, R.town, by simp [R.len], fun j => ?_, fun j a c => ?_, fun j k a c d => ?_⟩
    · rw [at_set, sig_set hs]
      by_cases h : j = i
      · rw [if_pos h, if_pos ⟨h, hi⟩]
        exact ⟨v, rfl, r⟩
      · rw [if_neg h, if_neg (fun z => h z.1)]
        exact R.slots j
    · rw [at_set, sig_set hs] at c
      by_cases h : j = i
      · rw [if_pos h, if_pos ⟨h, hi⟩] at c
        exact False.elim c
      · rw [if_neg h, if_neg (fun z => h z.1)] at c
        exact R.cell j a c
    · rw [at_set, sig_set hs] at c d
      by_cases h : j = i
      · rw [if_pos h, if_pos ⟨h, hi⟩] at c
        exact False.elim c
      · by_cases h2 : k = i
        · rw [if_pos h2, if_pos ⟨h2, hi⟩] at d
          exact False.elim d
        · rw [if_neg h, if_neg (fun z => h z.1)] at c
          rw [if_neg h2, if_neg (fun z => h2 z.1)] at d
          exact R.apart j k a c d
  · have e1 : ρ.set i (.fz d) = ρ := List.set_eq_of_length_le (by omega)
    have e2 : σ.set i (some v) = σ := List.set_eq_of_length_le (by rw [← R.len]; omega)
    rw [e1, e2]
    exact R
/-- a name is given a new list of its own -/
theorem Rel.own (R : Rel K mg τ H0 G0 G H σ ρ n) (i : Nat) (hi : i < ρ.length) {p : Addr} {s : Sl} (ok : ∀ x, x = some (some (V.ref p)) → SlotOk K mg τ H0 G H x s) (cl : ∀ x a, x = some (some (V.ref p)) → CellOf H x s a → a = p)
    (h0 : H0 p = none) (hG : G p = none) (hτ : some p ≠ τ) (ap : ∀ j, j ≠ i → ¬ CellOf H σ[j]? (ρ.at j) p) : Rel K mg τ H0 G0 G H (σ.set i (some (.ref p))) (ρ.set i s) n := by
  have hs : i < σ.length := by rw [← R.len]; exact hi
  refine ⟨R.step, R.town, by simp [R.len], fun j => ?_, fun j a c => ?_, fun j k a c d => ?_⟩
  · rw [at_set, sig_set hs]
    by_cases h : j = i
    · rw [if_pos h, if_pos ⟨h, hi⟩]
      exact ok _ rfl
    · rw [if_neg h, if_neg (fun z => h z.1)]
      exact R.slots j
  · rw [at_set, sig_set hs] at c
    by_cases h : j = i
    · rw [if_pos h, if_pos ⟨h, hi⟩] at c
      have e := cl _ a rfl c
      subst e
      exact ⟨hG, h0, hτ⟩
    · rw [if_neg h, if_neg (fun z => h z.1)] at c
      exact R.cell j a c
  · rw [at_set, sig_set hs] at c d
    by_cases h : j = i
    · rw [if_pos h, if_pos ⟨h, hi⟩] at c
      have e := cl _ a rfl c
      subst e
      by_cases h2 : k = i
      · rw [h, h2]
      · rw [if_neg h2, if_neg (fun z => h2 z.1)] at d
        exact (ap k h2 d).elim
    · rw [if_neg h, if_neg (fun z => h z.1)] at c
      by_cases h2 : k = i
      · rw [if_pos h2, if_pos ⟨h2, hi⟩] at d
        have e := cl _ a rfl d
        subst e
        exact (ap j h c).elim
      · rw [if_neg h2, if_neg (fun z => h2 z.1)] at d
        exact R.apart j k a c d
/-- an address that was free is no name's -/
theorem Rel.notCell (R : Rel K mg τ H0 G0 G H σ ρ n) {p : Addr} (hp : H p = none) (j : Nat) : ¬ CellOf H σ[j]? (ρ.at j) p := fun c => by
  obtain ⟨o, e⟩ := cell_there (R.slots j) c
  rw [hp] at e
  cases e
end

/-! ### patterns -/
inductive Pat where
  | nm (i : Nat)
  | tup (is : List Nat)
def gSlots : List Nat → TGs
  | [] => gNil
  | i :: r => gCons (gName i) (gSlots r)
def gPat (K : PySem.W.Frag) : Pat → TG
  | .nm i => gName i
  | .tup is => gTup K is.length (gSlots is)
def setAll : List Nat → List D → Mi.Env → Option Mi.Env
  | [], [], ρ => some ρ
  | i :: r, d :: ds, ρ => setAll r ds (ρ.set i (.fz d))
  | _, _, _ => none
def patSet : Pat → D → Mi.Env → Option Mi.Env
  | .nm i, d, ρ => some (ρ.set i (.fz d))
  | .tup is, .tuple ds, ρ => setAll is ds ρ
  | _, _, _ => none
def Pat.slots : Pat → List Nat
  | .nm i => [i]
  | .tup is => is
section
variable {K : PySem.W.Frag} {mg : Str → Option Value} {τ : Option Addr} {H0 G0 G G' G1 H H' H1 : Hp} {σ : L2.St} {ρ ρ' : Mi.Env} {n n1 : Nat}
def sets : List Nat → List V → L2.St → L2.St
  | i :: r, v :: vs, σ => sets r vs (σ.set i (some v))
  | _, _, σ => σ
theorem gSlots_of : ∀ {is : List Nat} {vs : List V} {ds : List D} {σ : L2.St} {ρ ρ' : Mi.Env} {Q : L2.St → Hp → Prop}, Rel K mg τ H0 G0 G H σ ρ n → Reps K mg τ G vs ds → setAll is ds ρ = some ρ' →
    (Rel K mg τ H0 G0 G H (sets is vs σ) ρ' n → Q (sets is vs σ) H) → gSlots is vs σ H Q
  | [], _, _, σ, ρ, ρ', Q, R, .nil, e, q => by
    cases e
    exact ⟨rfl, q R⟩
  | [], _, _, σ, ρ, ρ', Q, R, .cons _ _, e, q => by cases e
  | i :: r, _, _, σ, ρ, ρ', Q, R, .nil, e, q => by cases e
  | i :: r, _, _, σ, ρ, ρ', Q, R, .cons h t, e, q => ⟨_, _, rfl, gSlots_of (R.set i h) t e q⟩
def setP (p : Pat) (v : V) (vs : List V) (σ : L2.St) : L2.St := match p with
  | .nm i => σ.set i (some v)
  | .tup is => sets is vs σ
theorem gPat_of {p : Pat} {v : V} {d : D} {Q : L2.St → Hp → Prop} (R : Rel K mg τ H0 G0 G H σ ρ n) (r : Rep K mg τ G v d) (e : patSet p d ρ = some ρ') (q : ∀ vs, Rel K mg τ H0 G0 G H (setP p v vs σ) ρ' n → Q (setP p v vs σ) H) : gPat K p v σ H Q := by
  cases p with
  | nm i =>
    cases e
    exact q [] (R.set i r)
  | tup is =>
    cases r with
    | tup ha qa =>
      refine ⟨_, _, rfl, sqt_le R.le ha, ?_, gSlots_of R qa e fun R' => q _ R'⟩
      have key : ∀ {is : List Nat} {ds : List D} {ρ ρ' : Mi.Env}, setAll is ds ρ = some ρ' → ds.length = is.length := by
        intro is
        induction is with
        | nil =>
          intro ds ρ ρ' h
          cases ds with
          | nil => rfl
          | cons _ _ => cases h
        | cons i r ih =>
          intro ds ρ ρ' h
          cases ds with
          | nil => cases h
          | cons d ds => exact congrArg Nat.succ (ih h)
      rw [qa.length]
      exact key e
    | _ => cases e
theorem wipe_get {σ : L2.St} {j : Nat} : ∀ {vs : List Nat}, j < σ.length → (wipe σ vs)[j]? = if j ∈ vs then some none else σ[j]?
  | [], _ => by simp [wipe]
  | v :: vs, h => by
    unfold wipe
    by_cases e : v = j
    · subst e
      rw [List.getElem?_set_self (by rw [wipe_length]; exact h), if_pos List.mem_cons_self]
    · rw [List.getElem?_set_ne e, wipe_get h]
      by_cases m : j ∈ vs
      · rw [if_pos m, if_pos (List.mem_cons_of_mem _ m)]
      · rw [if_neg m, if_neg (by simp only [List.mem_cons, not_or]; exact ⟨fun z => e z.symm, m⟩)]
theorem wipe_of {σ σ' : L2.St} {vs : List Nat} (hl : σ.length = σ'.length) (h : ∀ j, j ∉ vs → σ[j]? = σ'[j]?) : wipe σ vs = wipe σ' vs := by
  apply List.ext_getElem?
  intro j
  by_cases hj : j < σ.length
  · rw [wipe_get hj, wipe_get (by rw [← hl]; exact hj)]
    by_cases m : j ∈ vs
    · rw [if_pos m, if_pos m]
    · rw [if_neg m, if_neg m, h j m]
  · rw [List.getElem?_eq_none (by rw [wipe_length]; omega), List.getElem?_eq_none (by rw [wipe_length]; omega)]
theorem sets_out {j : Nat} : ∀ {is : List Nat} {vs : List V} {σ : L2.St}, j ∉ is → (sets is vs σ)[j]? = σ[j]?
  | [], _, _, _ => by unfold sets; rfl
  | i :: r, [], _, _ => by unfold sets; rfl
  | i :: r, v :: vs, σ, h => by
    have h1 : ¬ j = i ∧ j ∉ r := by simpa using h
    unfold sets
    rw [sets_out h1.2, List.getElem?_set_ne (Ne.symm h1.1)]
theorem sets_len : ∀ {is : List Nat} {vs : List V} {σ : L2.St}, (sets is vs σ).length = σ.length
  | [], _, _ => by unfold sets; rfl
  | i :: r, [], _ => by unfold sets; rfl
  | i :: r, v :: vs, σ => by
    unfold sets
    rw [sets_len, List.length_set]
theorem wipe_pat {p : Pat} {v : V} {ws : List V} {vs : List Nat} (h : ∀ i ∈ p.slots, i ∈ vs) : wipe (setP p v ws (wipe σ vs)) vs = wipe σ vs := by
  refine wipe_of ?_ fun j hj => ?_
  · cases p with
    | nm i => simp [setP, wipe_length]
    | tup is => show (sets is ws (wipe σ vs)).length = _; rw [sets_len, wipe_length]
  · rw [← wipe_out (σ := σ) hj]
    cases p with
    | nm i =>
      show ((wipe σ vs).set i (some v))[j]? = _
      rw [List.getElem?_set_ne (fun z : i = j => hj (z ▸ h i (by simp [Pat.slots])))]
    | tup is => exact sets_out fun z => hj (h j z)
end
section
variable {X : Cx} {pos : Pos}
theorem g_nm {i : Nat} {x : Str} (hN : X.N.Nodup) (hi : X.N[i]? = some x) (hx : Loc X.env.scope x) (hf : X.fn x = true ∨ X.env.scope.names.lookup x = some .local := by first | exact .inl rfl | exact .inr rfl | assumption) : PG X (.Name x pos) (gPat X.K (.nm i)) := pg_name hN hi hx hf
theorem g_tup {es : List Expr} {k : Nat} {is : List Nat} (hc : X.calm = true) (h : PGs X es (gSlots is)) (hn : (assignEach es X.env).length = is.length := by rfl) (hst : (assignEach es X.env).findIdx? (·.1) = none := by rfl) : PG X (.Tuple es k pos) (gPat X.K (.tup is)) := pg_tup hc h hn hst
end

/-! ### what is walked -/
def Yields (K : PySem.W.Frag) (mg : Str → Option Value) (τ : Option Addr) (G : Hp) (J : It) (ds : List D) : Prop := ∀ (i : Nat) (Gc Hc : Hp) (m : Nat), (∀ a u, G a = some u → Gc a = some u) → Le Gc Hc → (∀ a, τ = some a → Gc a = none) → Town τ m Hc →
  (i < ds.length → J.go i Hc) ∧ (∀ x Hc' d, ds[i]? = some d → J.yld i Hc x Hc' → ∃ Gc', Step τ Hc Gc Hc' Gc' ∧ Town τ m Hc' ∧ Rep K mg τ Gc' x d) ∧ (ds.length ≤ i → J.stop i Hc)
abbrev cI (K : PySem.W.Frag) (mg : Str → Option Value) (E : L2.St → XK) (f : Mi.Env → M (List D)) : TI := cG K mg (Yields K mg) E f
section
variable {X : Cx} {E : L2.St → XK} {tg a b e iter : Expr} {es : List Expr} {pos : Pos} {fa fb fc f : Mi.Env → M D} {fs ls : Mi.Env → M (List D)}
theorem pi_mono {t t' : TI} (h : PI X tg iter t) (i : ∀ σ H R, t' σ H R → t σ H R) : PI X tg iter t' := ⟨fun pins s σ H R I q => h.run pins s σ H R I (i σ H R q)⟩
theorem pi_or {t t' : TI} (h : PI X tg iter t) (h' : PI X tg iter t') : PI X tg iter (fun σ H R => t σ H R ∨ t' σ H R) := ⟨fun pins s σ H R I q => q.elim (h.run pins s σ H R I) (h'.run pins s σ H R I)⟩
def iSeq (f : Mi.Env → M D) : Mi.Env → M (List D) := fun ρ => do
  let x ← f ρ
  match x with
  | .list ds => pure ds
  | .tuple ds => pure ds
  | _ => bad
theorem yields_list {K : PySem.W.Frag} {mg : Str → Option Value} {τ : Option Addr} {G : Hp} {a : Addr} {vs : List V} {ds : List D} (h : G a = some (.lst vs)) (r : Reps K mg τ G vs ds) : Yields K mg τ G (Itl K a) ds := fun i Gc Hc m sub l nt tw => by
  have ha : SqL K Hc a vs := .inl (.inl (l.list (sub _ _ h)))
  refine ⟨fun hi => ?_, fun x Hc' d hd y => ?_, fun hi => ⟨vs, ha, by rw [r.length]; exact hi⟩⟩
  · obtain ⟨d, hd⟩ : ∃ d, ds[i]? = some d := ⟨_, List.getElem?_eq_getElem hi⟩
    obtain ⟨v, hv, _⟩ := r.get hd
    exact ⟨vs, v, ha, hv⟩
  · obtain ⟨rfl, y⟩ := y
    obtain ⟨v, hv, rv⟩ := r.get hd
    have e := y vs ha
    rw [hv] at e
    cases e
    exact ⟨Gc, Step.refl l nt, tw, rv.sub sub⟩
theorem yields_tup {K : PySem.W.Frag} {mg : Str → Option Value} {τ : Option Addr} {G : Hp} {a : Addr} {vs : List V} {ds : List D} (h : SqT K G a vs) (r : Reps K mg τ G vs ds) : Yields K mg τ G (Itt K a) ds := fun i Gc Hc m sub l nt tw => by
  have ha : SqT K Hc a vs := sqt_le l (sqt_le (rd_sub sub) h)
  refine ⟨fun hi => ?_, fun x Hc' d hd y => ?_, fun hi => ⟨vs, ha, by rw [r.length]; exact hi⟩⟩
  · obtain ⟨d, hd⟩ : ∃ d, ds[i]? = some d := ⟨_, List.getElem?_eq_getElem hi⟩
    obtain ⟨v, hv, _⟩ := r.get hd
    exact ⟨vs, v, ha, hv⟩
  · obtain ⟨rfl, y⟩ := y
    obtain ⟨v, hv, rv⟩ := r.get hd
    have e := y vs ha
    rw [hv] at e
    cases e
    exact ⟨Gc, Step.refl l nt, tw, rv.sub sub⟩
theorem bnd_ok {α β : Type} {m : M α} {g : α → M β} {n k : Nat} {a : α} (e : m n = .ok a k) : (m >>= g) n = g a k := by
  show M.bnd m g n = _
  unfold M.bnd
  rw [e]
theorem i_seq (ha : PE X iter (cT X.K X.mg E fa)) : PI X tg iter (cI X.K X.mg E (iSeq fa)) :=
  pi_mono (pi_or (pi_list ha) (pi_tup ha)) fun σ H Q ⟨τ, H0, G0, G, ρ, n, R, h⟩ => by
    have key : ∀ (P : V → Hp → Prop), (∀ x H1, (∃ d n1 G1, Step τ H G H1 G1 ∧ Town τ n1 H1 ∧ Rep X.K X.mg τ G1 x d ∧ fa ρ n = .ok d n1 ∧
        Post X.mg τ H1 G1 (E σ) (Yields X.K X.mg τ) ((match d with | .list ds => pure ds | .tuple ds => pure ds | _ => bad : M (List D)) n1) Q) → P x H1) → cT X.K X.mg E fa σ H P := fun P hP => by
      refine ⟨τ, H0, G0, G, ρ, n, R, ?_⟩
      have hb := Post.bind (rep := Rep X.K X.mg τ) h
      cases e : fa ρ n with
      | ok d k =>
        rw [e] at hb
        intro v H' G' s t r
        have h2 : Post X.mg τ H G (E σ) (Yields X.K X.mg τ) (((fa ρ) >>= fun x => (match x with | .list ds => pure ds | .tuple ds => pure ds | _ => bad : M (List D))) n) Q := h
        rw [bnd_ok e] at h2
        exact hP v H' ⟨d, k, G', s, t, r, e, Post.shift s h2⟩
      | err c k =>
        rw [e] at hb
        exact hb
      | bad =>
        rw [e] at hb
        exact hb.elim
    cases e : fa ρ n with
    | err c k => exact .inl (key _ fun x H1 ⟨d, n1, G1, _, _, _, e', _⟩ => by rw [e] at e'; cases e')
    | bad => exact .inl (key _ fun x H1 ⟨d, n1, G1, _, _, _, e', _⟩ => by rw [e] at e'; cases e')
    | ok d k =>
      cases d with
      | tuple ds =>
        refine .inr (key _ fun x H1 ⟨d, n1, G1, st, tw, r, e', h1⟩ => ?_)
        rw [e] at e'
        cases e'
        cases r with
        | tup ha qa => exact ⟨_, rfl, ⟨_, sqt_le st.le ha⟩, Post.ret h1 (R.next st tw).refl tw (yields_tup ha qa)⟩
      | _ =>
        refine .inl (key _ fun x H1 ⟨d, n1, G1, st, tw, r, e', h1⟩ => ?_)
        rw [e] at e'
        cases e'
        first
          | (cases r with
             | lst ha qa => exact ⟨_, rfl, ⟨_, .inl (.inl (st.le.list ha))⟩, Post.ret h1 (R.next st tw).refl tw (yields_list ha qa)⟩)
          | exact (show False from h1).elim
theorem yields_range {K : PySem.W.Frag} {mg : Str → Option Value} {τ : Option Addr} {G : Hp} (lo : Int) (k : Nat) : Yields K mg τ G (Itr lo k) ((List.range k).map fun j : Nat => PyData.int (lo + (j : Int))) := fun i Gc Hc m sub l nt tw => by
  refine ⟨fun hi => by simpa [Itr] using hi, fun x Hc' d hd y => ?_, fun hi => by simpa [Itr] using hi⟩
  obtain ⟨rfl, rfl⟩ := y
  rw [List.getElem?_map] at hd
  cases e : (List.range k)[i]? with
  | none =>
    rw [e] at hd
    cases hd
  | some j =>
    rw [e] at hd
    cases hd
    have z : j = i := by
      obtain ⟨h1, h2⟩ := List.getElem?_eq_some_iff.mp e
      rw [List.getElem_range] at h2
      exact h2.symm
    subst z
    exact ⟨Gc, Step.refl l nt, tw, .int _⟩
def iRange1 (fs : Mi.Env → M (List D)) : Mi.Env → M (List D) := fun ρ => do
  let xs ← fs ρ
  match xs with
  | [.int j] => do need (decide (-(2 ^ 62) ≤ j ∧ j < 2 ^ 62)); pure ((List.range j.toNat).map fun k : Nat => PyData.int (0 + (k : Int)))
  | _ => bad
def iRange2 (fs : Mi.Env → M (List D)) : Mi.Env → M (List D) := fun ρ => do
  let xs ← fs ρ
  match xs with
  | [.int i, .int j] => do need (decide (-(2 ^ 62) ≤ i ∧ i < 2 ^ 62 ∧ -(2 ^ 62) ≤ j ∧ j < 2 ^ 62)); pure ((List.range (j - i).toNat).map fun k : Nat => PyData.int (i + (k : Int)))
  | _ => bad
theorem i_range1 {p : Pos} (hm : X.mg "range" = none) (ha : PA X [a] (cA X.K X.mg E fs)) (hg : Gl X "range" := by rfl) (hs : starEach [a] X.env = [(false, eval a X.env)] := by rfl) : PI X tg (.Call (.Name "range" p) [a] [] pos) (cI X.K X.mg E (iRange1 fs)) :=
  pi_mono (pi_range1 hg hm ha hs) fun σ H Q ⟨τ, H0, G0, G, ρ, n, R, h⟩ => ⟨τ, H0, G0, G, ρ, n, R, Post.mono (fun xs H1 => by
    rintro ⟨ds, n1, G1, st, tw, r, h1⟩
    cases r with
    | nil => exact (show False from h1).elim
    | cons r1 r2 =>
      cases r1 with
      | int j =>
        cases r2 with
        | nil =>
          obtain ⟨hz, h1⟩ := Post.need h1
          have z : -(2 ^ 62) ≤ j ∧ j < 2 ^ 62 := of_decide_eq_true hz
          exact ⟨j, rfl, z.1, z.2, Post.ret h1 (R.next st tw).refl tw (yields_range 0 _)⟩
        | cons _ _ => exact (show False from h1).elim
      | _ => exact (show False from h1).elim) (Post.bind (rep := Reps X.K X.mg τ) h)⟩
theorem i_range2 {p : Pos} (hm : X.mg "range" = none) (ha : PA X [a, b] (cA X.K X.mg E fs)) (hg : Gl X "range" := by rfl) (hs : starEach [a, b] X.env = [(false, eval a X.env), (false, eval b X.env)] := by rfl) (hs2 : starEach [b] X.env = [(false, eval b X.env)] := by rfl) :
    PI X tg (.Call (.Name "range" p) [a, b] [] pos) (cI X.K X.mg E (iRange2 fs)) :=
  pi_mono (pi_range2 hg hm ha hs hs2) fun σ H Q ⟨τ, H0, G0, G, ρ, n, R, h⟩ => ⟨τ, H0, G0, G, ρ, n, R, Post.mono (fun xs H1 => by
    rintro ⟨ds, n1, G1, st, tw, r, h1⟩
    cases r with
    | nil => exact (show False from h1).elim
    | cons r1 r2 =>
      cases r1 with
      | int i =>
        cases r2 with
        | nil => exact (show False from h1).elim
        | cons r2 r3 =>
          cases r2 with
          | int j =>
            cases r3 with
            | nil =>
              obtain ⟨hz, h1⟩ := Post.need h1
              have z : -(2 ^ 62) ≤ i ∧ i < 2 ^ 62 ∧ -(2 ^ 62) ≤ j ∧ j < 2 ^ 62 := of_decide_eq_true hz
              exact ⟨i, j, rfl, z, Post.ret h1 (R.next st tw).refl tw (yields_range i _)⟩
            | cons _ _ => exact (show False from h1).elim
          | _ => exact (show False from h1).elim
      | _ => exact (show False from h1).elim) (Post.bind (rep := Reps X.K X.mg τ) h)⟩
end

/-! ### comprehensions -/
def wipeE (ρ : Mi.Env) : List Nat → Mi.Env
  | [] => ρ
  | v :: vs => (wipeE ρ vs).set v .no
theorem wipeE_len (ρ : Mi.Env) : ∀ vs : List Nat, (wipeE ρ vs).length = ρ.length
  | [] => rfl
  | v :: vs => by unfold wipeE; rw [List.length_set, wipeE_len ρ vs]
theorem wipeE_at (ρ : Mi.Env) (j : Nat) : ∀ vs : List Nat, (wipeE ρ vs).at j = if j ∈ vs then .no else ρ.at j
  | [] => by simp [wipeE]
  | v :: vs => by
    unfold wipeE
    rw [at_set, wipeE_len, wipeE_at ρ j vs]
    by_cases e : j = v
    · subst e
      by_cases h : j < ρ.length
      · rw [if_pos ⟨rfl, h⟩, if_pos List.mem_cons_self]
      · rw [if_neg (fun z => h z.2), if_pos List.mem_cons_self]
        have : ρ.at j = .no := by
          unfold Env.at
          rw [List.getD_eq_getElem?_getD, List.getElem?_eq_none (by omega)] <;> rfl
        rw [this]
        split <;> rfl
    · rw [if_neg (fun z => e z.1)]
      by_cases m : j ∈ vs
      · rw [if_pos m, if_pos (List.mem_cons_of_mem _ m)]
      · rw [if_neg m, if_neg (by simp only [List.mem_cons, not_or]; exact ⟨e, m⟩)]
theorem Rel.wipe {K : PySem.W.Frag} {mg : Str → Option Value} {τ : Option Addr} {H0 G0 G H : Hp} {σ : L2.St} {ρ : Mi.Env} {n : Nat} (R : Rel K mg τ H0 G0 G H σ ρ n) (vs : List Nat) : Rel K mg τ H0 G0 G H (L2.wipe σ vs) (wipeE ρ vs) n :=
  R.weak (by rw [wipeE_len, wipe_length, R.len]) fun i => by
    rw [wipeE_at]
    by_cases m : i ∈ vs
    · exact .inl (if_pos m)
    · exact .inr ⟨if_neg m, wipe_out m⟩
def compL (pat : D → Option Mi.Env) (tt : Mi.Env → M Bool) (fe : Mi.Env → M D) : List D → List D → M (List D)
  | [], acc => pure acc
  | d :: r, acc => do
    let ρ' ← ofOpt (pat d)
    let b ← noErr (tt ρ')
    if b = true then do
      let y ← noErr (fe ρ')
      need (decide (acc.length < sizeLine))
      compL pat tt fe r (acc ++ [y])
    else compL pat tt fe r acc
def lComp (fi : Mi.Env → M (List D)) (p : Pat) (own : List Nat) (tt : Mi.Env → M Bool) (fe : Mi.Env → M D) : Mi.Env → M (List D) := fun ρ => do
  let ds ← fi ρ
  compL (fun d => patSet p d (wipeE ρ own)) tt fe ds []
abbrev E0s : L2.St → XK := fun _ _ _ _ => False
def tYesM : Mi.Env → M Bool := fun _ => pure true
section
variable {α β : Type} {K : PySem.W.Frag} {mg : Str → Option Value} {τ : Option Addr} {H1 G1 H G : Hp} {Ex : XK} {Q : VK} {rep : Hp → β → α → Prop} {m : M α} {g : α → M (List D)} {n : Nat}
theorem PostF.bindNo (h : PostF K mg τ H1 G1 Ex ((noErr m >>= g) n) Q) :
    Post mg τ H G (fun _ _ _ => False) rep (m n) fun x H2 => ∃ a n2 G2, Step τ H G H2 G2 ∧ Town τ n2 H2 ∧ rep G2 x a ∧ PostF K mg τ H1 G1 Ex (g a n2) Q := by
  have h' : PostF K mg τ H1 G1 Ex (M.bnd (noErr m) g n) Q := h
  unfold M.bnd noErr at h'
  cases e : m n with
  | ok a k =>
    rw [e] at h'
    exact fun v H' G' s t p => ⟨a, k, G', s, t, p, h'⟩
  | err c k =>
    rw [e] at h'
    exact h'.elim
  | bad =>
    rw [e] at h'
    exact h'.elim
theorem PostF.opt {γ : Type} {o : Option γ} {g : γ → M (List D)} (h : PostF K mg τ H G Ex ((ofOpt o >>= g) n) Q) : ∃ x, o = some x ∧ PostF K mg τ H G Ex (g x n) Q := by
  cases o with
  | none => exact (show False from h).elim
  | some x => exact ⟨x, rfl, h⟩
end
section
variable {X : Cx} {E : L2.St → XK} {tg iter elt : Expr} {ifs : List Expr} {scope : Scope} {own : List (Str × Nat)} {pos : Pos} {p : Pat} {fi : Mi.Env → M (List D)} {tt : Mi.Env → M Bool} {fe : Mi.Env → M D}
theorem lc_step {σ : L2.St} {H : Hp} {vs : List Nat} {Q : VK} (hp : ∀ i ∈ p.slots, i ∈ vs) (h : cF X.K X.mg E (lComp fi p vs tt fe) σ H Q) : tLc (cI X.K X.mg E fi) (gPat X.K p) (cB X.K X.mg E0s tt) (cT X.K X.mg E0s fe) vs σ H Q := by
  obtain ⟨τ, H0, G0, G, ρ, n, R, h⟩ := h
  refine ⟨τ, H0, G0, G, ρ, n, R, Post.mono (fun J H1 => ?_) (PostF.bind (rep := Yields X.K X.mg τ) h)⟩
  rintro ⟨ds, n1, G1, st, tw, ys, h1⟩
  have R1 := R.next st tw
  intro Dn hDn
  refine ⟨fun i m H2 => m = ds.length - i ∧ i ≤ ds.length ∧ ∃ G2 n2 accV accD, Step τ H1 G1 H2 G2 ∧ Town τ n2 H2 ∧ H2 Dn = some (.lst accV) ∧ G2 Dn = none ∧ Reps X.K X.mg τ G2 accV accD ∧
    PostF X.K X.mg τ H1 G1 (E σ) (compL (fun d => patSet p d (wipeE ρ vs)) tt fe (ds.drop i) accD n2) Q, ⟨ds.length, by simp, Nat.zero_le _, G1, n1, [], [], Step.other R1.le R1.nt hDn, tw.upd hDn, upd_same, R1.le.none hDn, .nil, h1⟩, ?_⟩
  rintro i m H2 ⟨rfl, hi, G2, n2, accV, accD, st2, tw2, hD, gD, ra, h2⟩
  have R2 := R1.next st2 tw2
  obtain ⟨yg, yy, ye⟩ := ys i G2 H2 n2 st2.sub st2.le st2.nt tw2
  by_cases hlt : i < ds.length
  · refine .inr ⟨yg hlt, fun H3 => ∃ m', m' = ds.length - (i + 1) ∧ i + 1 ≤ ds.length ∧ ∃ G2 n2 accV accD, Step τ H1 G1 H3 G2 ∧ Town τ n2 H3 ∧ H3 Dn = some (.lst accV) ∧ G2 Dn = none ∧ Reps X.K X.mg τ G2 accV accD ∧
      PostF X.K X.mg τ H1 G1 (E σ) (compL (fun d => patSet p d (wipeE ρ vs)) tt fe (ds.drop (i + 1)) accD n2) Q, fun H3 ⟨m', h1, h2⟩ => ⟨m', by omega, h1, h2⟩, fun x H3 hy => ?_⟩
    have ed : ds[i]? = some ds[i] := List.getElem?_eq_getElem hlt
    obtain ⟨G3, st3, tw3, rx⟩ := yy x H3 _ ed hy
    have R3 := (R2.next st3 tw3).wipe vs
    rw [List.drop_eq_getElem_cons hlt] at h2
    have hneτ : some Dn ≠ τ := fun z => tw2.ne Dn z.symm |> fun w => by
      have := tw.ne Dn z.symm
      exact this hDn
    have keepD : ∀ {Ha Ga Hb Gb : Hp} {av : List V}, Step τ Ha Ga Hb Gb → Ha Dn = some (.lst av) → Ga Dn = none → Hb Dn = some (.lst av) ∧ Gb Dn = none := fun {Ha Ga Hb Gb av} s e1 e2 => by
      refine ⟨s.keep _ _ e1 hneτ, ?_⟩
      cases q : Gb Dn with
      | none => rfl
      | some u =>
        rcases s.new _ _ q with w | w
        · rw [e2] at w; cases w
        · rw [e1] at w; cases w
    obtain ⟨hD3, gD3⟩ := keepD st3 hD gD
    obtain ⟨ρ', eρ, h2⟩ := PostF.opt h2
    refine gPat_of R3 rx eρ fun ws R3 => ⟨wipe_pat hp, ?_⟩
    refine ⟨τ, H0, G0, G3, ρ', n2, R3, Post.mono (fun b H4 => ?_) (PostF.bindNo (rep := fun _ b c => b = c) h2)⟩
    rintro ⟨b', n4, G4, st4, tw4, rfl, h4⟩
    have R4 := R3.next st4 tw4
    obtain ⟨hD4, gD4⟩ := keepD st4 hD3 gD3
    have st24 := (st2.trans st3).trans st4
    cases b with
    | false =>
      rw [if_neg Bool.false_ne_true]
      exact ⟨_, rfl, hlt, G4, n4, accV, accD, st24, tw4, hD4, gD4, (ra.sub st3.sub).sub st4.sub, h4⟩
    | true =>
      rw [if_pos rfl]
      refine ⟨τ, H0, G0, G4, ρ', n4, R4, Post.mono (fun y H5 => ?_) (PostF.bindNo (rep := Rep X.K X.mg τ) h4)⟩
      rintro ⟨dy, n5, G5, st5, tw5, ry, h5⟩
      obtain ⟨hD5, gD5⟩ := keepD st5 hD4 gD4
      obtain ⟨hz, h5⟩ := PostF.need h5
      have ra5 := ((ra.sub st3.sub).sub st4.sub).sub st5.sub
      have st25 := st24.trans st5
      refine ⟨accV, hD5, by rw [ra.length]; exact of_decide_eq_true hz, _, rfl, hlt, G5, n5, accV ++ [y], accD ++ [dy], ⟨fun b o e ne => ?_, st25.sub, st25.new, fun a u e => ?_, st25.nt⟩, fun a e => ?_, upd_same, gD5, ra5.append (.one ry), h5⟩
      · have nb : b ≠ Dn := by
          rintro rfl
          rw [hDn] at e
          cases e
        rw [upd_ne nb]
        exact st25.keep b o e ne
      · have nb : a ≠ Dn := by
          rintro rfl
          rw [gD5] at e
          cases e
        rw [upd_ne nb]
        exact st25.le a u e
      · have nb : a ≠ Dn := by
          rintro rfl
          exact hneτ e.symm
        rw [upd_ne nb]
        exact tw5 a e
  · have e : i = ds.length := by omega
    subst e
    refine .inl ⟨ye (Nat.le_refl _), ?_⟩
    rw [List.drop_length] at h2
    exact h2 Dn accV H2 G2 st2 tw2 hDn hD gD ra
theorem l_comp (hc : X.calm = true) (hN : X.N.Nodup) (hi : PI X tg iter (cI X.K X.mg E fi)) (ok : BlkOk X.N X.env.scope scope own)
    (hg : ∀ (s : Shared) (H : Hp) (C : Addr) (cl : List (Str × Addr)) (fp : List Addr), PG (X.blk s H scope (compEnvC scope cl C X.env) fp) tg (gPat X.K p))
    (ht : ∀ (s : Shared) (H : Hp) (C : Addr) (cl : List (Str × Addr)) (fp : List Addr), PTs (X.blk s H scope (compEnvC scope cl C X.env) fp) ifs (cB X.K X.mg E0s tt))
    (he : ∀ (s : Shared) (H : Hp) (C : Addr) (cl : List (Str × Addr)) (fp : List Addr), PE (X.blk s H scope (compEnvC scope cl C X.env) fp) elt (cT X.K X.mg E0s fe))
    (hp : ∀ i ∈ p.slots, i ∈ own.map (·.2) := by decide) (hs : ∀ x, foldedSetIterable iter X.env x = pure x := by intro _; rfl) :
    PE X (.ListComp elt [⟨tg, iter, ifs, 0⟩] scope pos) (cF X.K X.mg E (lComp fi p (own.map (·.2)) tt fe)) :=
  pe_mono (pe_lc hc hN hi ok hg ht he hs) fun σ H Q h => lc_step hp h
theorem ts_nil {X : Cx} : PTs X [] (cB X.K X.mg E0s tYesM) := ⟨fun pins s σ H Q I h => by
  obtain ⟨τ, H0, G0, G, ρ, n, R, h⟩ := h
  exact pts_nil.run pins s σ H Q I (Post.ret h R.refl R.town rfl)⟩
theorem ts_one {X : Cx} {c : Expr} {t : Mi.Env → M Bool} (h : PT X c (cB X.K X.mg E0s t)) : PTs X [c] (cB X.K X.mg E0s t) := pts_one h
end
end Mi

end

section
set_option Elab.async false
set_option linter.all false
set_option maxRecDepth 100000
set_option maxHeartbeats 4000000
namespace Mi
open PySem PySem.Spec L2

/-! ### statements -/
inductive Fl where
  | nx
  | rt (d : D)
  | bk
  | ct
abbrev MS := Mi.Env → M (Mi.Env × Fl)
section
variable (K : PySem.W.Frag) (mg : Str → Option Value)
def FlOk (τ : Option Addr) (G' : Hp) (Dn : Ends) (σ' : L2.St) (H' : Hp) : Fl → Prop
  | .nx => Dn.nx σ' H'
  | .rt d => ∀ v, Rep K mg τ G' v d → Dn.rt v H'
  | .bk => Dn.bk σ' H'
  | .ct => Dn.ct σ' H'
def PostS (τ : Option Addr) (H0 G0 G : Hp) (E : XK) (r : Res (Mi.Env × Fl)) (Dn : Ends) : Prop :=
  match r with
  | .ok p n => ∀ σ' H' G', Rel K mg τ H0 G0 G' H' σ' p.1 n → (∀ a u, G a = some u → G' a = some u) → FlOk K mg τ G' Dn σ' H' p.2
  | .err c n => ∀ C H', mg c = some (.ref C) → Keep τ H0 H' → Town τ n H' → E (.ref C) none H'
  | .bad => False
def cS (E : XK) (f : MS) : TS := fun Dn σ H => ∃ τ H0 G0 G ρ n, Rel K mg τ H0 G0 G H σ ρ n ∧ PostS K mg τ H0 G0 G E (f ρ n) Dn
end
section
variable {α β : Type} {K : PySem.W.Frag} {mg : Str → Option Value} {τ : Option Addr} {H0 G0 G G1 H H1 : Hp} {σ : L2.St} {ρ : Mi.Env} {n : Nat} {E : XK} {Dn : Ends} {rep : Hp → β → α → Prop}
theorem PostS.shift (s : ∀ a u, G a = some u → G1 a = some u) : ∀ {r : Res (Mi.Env × Fl)}, PostS K mg τ H0 G0 G E r Dn → PostS K mg τ H0 G0 G1 E r Dn
  | .ok d n, h => fun σ' H' G' R k => h σ' H' G' R fun a u e => k a u (s a u e)
  | .err c n, h => h
  | .bad, h => h
theorem PostS.expr {m : M α} {g : α → M (Mi.Env × Fl)} (R : Rel K mg τ H0 G0 G H σ ρ n) (h : PostS K mg τ H0 G0 G E ((m >>= g) n) Dn) :
    Post mg τ H G E rep (m n) fun x H1 => ∃ a n1 G1, Rel K mg τ H0 G0 G1 H1 σ ρ n1 ∧ (∀ b u, G b = some u → G1 b = some u) ∧ rep G1 x a ∧ PostS K mg τ H0 G0 G1 E (g a n1) Dn := by
  have h' : PostS K mg τ H0 G0 G E (M.bnd m g n) Dn := h
  unfold M.bnd at h'
  cases e : m n with
  | ok a k =>
    rw [e] at h'
    exact fun v H' G' s t p => ⟨a, k, G', R.next s t, s.sub, p, PostS.shift s.sub h'⟩
  | err c k =>
    rw [e] at h'
    exact fun C H' mc kp tw => h' C H' mc (R.step.keep.trans kp) tw
  | bad =>
    rw [e] at h'
    exact h'.elim
theorem PostS.exprF {m : M (List D)} {g : List D → M (Mi.Env × Fl)} (R : Rel K mg τ H0 G0 G H σ ρ n) (h : PostS K mg τ H0 G0 G E ((m >>= g) n) Dn) :
    PostF K mg τ H G E (m n) fun x H1 => ∃ ds n1 G1 p vs, Rel K mg τ H0 G0 G1 H1 σ ρ n1 ∧ Step τ H G H1 G1 ∧ x = .ref p ∧ H p = none ∧ H1 p = some (.lst vs) ∧ G1 p = none ∧ Reps K mg τ G1 vs ds ∧ PostS K mg τ H0 G0 G1 E (g ds n1) Dn := by
  have h' : PostS K mg τ H0 G0 G E (M.bnd m g n) Dn := h
  unfold M.bnd at h'
  cases e : m n with
  | ok a k =>
    rw [e] at h'
    exact fun p vs H' G' s t e1 e2 e3 r => ⟨a, k, G', p, vs, R.next s t, s, rfl, e1, e2, e3, r, PostS.shift s.sub h'⟩
  | err c k =>
    rw [e] at h'
    exact fun C H' mc kp tw => h' C H' mc (R.step.keep.trans kp) tw
  | bad =>
    rw [e] at h'
    exact h'.elim
theorem PostF.mono {Q Q' : VK} (i : ∀ v H', Q v H' → Q' v H') : ∀ {r : Res (List D)}, PostF K mg τ H G E r Q → PostF K mg τ H G E r Q'
  | .ok d n, h => fun p vs H' G' s t a b c r => i _ _ (h p vs H' G' s t a b c r)
  | .err c n, h => h
  | .bad, h => h
theorem PostS.need {b : Bool} {g : Unit → M (Mi.Env × Fl)} (h : PostS K mg τ H0 G0 G E ((Mi.need b >>= g) n) Dn) : b = true ∧ PostS K mg τ H0 G0 G E (g () n) Dn := by
  cases b with
  | true => exact ⟨rfl, h⟩
  | false => exact (show False from h).elim
theorem PostS.opt {γ : Type} {o : Option γ} {g : γ → M (Mi.Env × Fl)} (h : PostS K mg τ H0 G0 G E ((ofOpt o >>= g) n) Dn) : ∃ x, o = some x ∧ PostS K mg τ H0 G0 G E (g x n) Dn := by
  cases o with
  | none => exact (show False from h).elim
  | some x => exact ⟨x, rfl, h⟩
theorem PostS.ret {p : Mi.Env × Fl} {H' : Hp} {σ' : L2.St} (h : PostS K mg τ H0 G0 G E ((pure p : M (Mi.Env × Fl)) n) Dn) (R : Rel K mg τ H0 G0 G H' σ' p.1 n) : FlOk K mg τ G Dn σ' H' p.2 := h σ' H' G R fun _ _ e => e
end

def sNx : MS := fun ρ => pure (ρ, .nx)
def sSeq (f g : MS) : MS := fun ρ => f ρ >>= fun p => match p with
  | (ρ', .nx) => g ρ'
  | (ρ', .rt d) => pure (ρ', .rt d)
  | (ρ', .bk) => pure (ρ', .bk)
  | (ρ', .ct) => pure (ρ', .ct)
def sRet (f : Mi.Env → M D) : MS := fun ρ => do let d ← f ρ; pure (ρ, .rt d)
def sIf (c : Mi.Env → M Bool) (f g : MS) : MS := fun ρ => do let b ← c ρ; if b = true then f ρ else g ρ
def sSet (i : Nat) (f : Mi.Env → M D) : MS := fun ρ => do let d ← f ρ; pure (ρ.set i (.fz d), .nx)
def sPat (p : Pat) (f : Mi.Env → M D) : MS := fun ρ => do let d ← f ρ; let ρ' ← ofOpt (patSet p d ρ); pure (ρ', .nx)
def sOwn (i : Nat) (f : Mi.Env → M (List D)) : MS := fun ρ => do let ds ← f ρ; need (decide (i < ρ.length)); pure (ρ.set i (.ow ds), .nx)
def sOwn2 (i : Nat) (f : Mi.Env → M (List D)) : MS := fun ρ => do let ds ← f ρ; need (decide (i < ρ.length ∧ ds = [])); pure (ρ.set i (.ow2 []), .nx)
def sDrop (f : Mi.Env → M D) : MS := fun ρ => do let _ ← f ρ; pure (ρ, .nx)
def sRaise (c : Str) : MS := fun _ => refuse c
def sBreak : MS := fun ρ => pure (ρ, .bk)
def sCont : MS := fun ρ => pure (ρ, .ct)
def forL (p : Pat) (body : MS) : List D → MS
  | [], ρ => pure (ρ, .nx)
  | d :: r, ρ => do
    let ρ1 ← ofOpt (patSet p d ρ)
    body ρ1 >>= fun q => match q with
      | (ρ2, .nx) => forL p body r ρ2
      | (ρ2, .ct) => forL p body r ρ2
      | (ρ2, .bk) => pure (ρ2, .nx)
      | (ρ2, .rt d) => pure (ρ2, .rt d)
def sFor (fi : Mi.Env → M (List D)) (p : Pat) (body : MS) : MS := fun ρ => do let ds ← fi ρ; forL p body ds ρ
def whL (c : Mi.Env → M Bool) (body : MS) : Nat → MS
  | 0, _ => bad
  | k + 1, ρ => do
    let b ← c ρ
    if b = true then
      body ρ >>= fun q => match q with
        | (ρ2, .nx) => whL c body k ρ2
        | (ρ2, .ct) => whL c body k ρ2
        | (ρ2, .bk) => pure (ρ2, .nx)
        | (ρ2, .rt d) => pure (ρ2, .rt d)
    else pure (ρ, .nx)
def sWhile (k : Nat) (c : Mi.Env → M Bool) (body : MS) : MS := fun ρ => whL c body k ρ

section
variable {X : Cx} {E : XK} {W : WX} {pos : Pos} {e : Expr} {st : Stmt} {sts sts' : List Stmt} {f g : MS} {fe : Mi.Env → M D} {fl : Mi.Env → M (List D)} {fc : Mi.Env → M Bool}
abbrev kE (E : XK) : L2.St → XK := fun _ => E
theorem ss_nil : PSs X [] (cS X.K X.mg E sNx) := pss_mono pss_nil fun Dn σ H ⟨τ, H0, G0, G, ρ, n, R, h⟩ => PostS.ret h R
theorem seq_step {Dn : Ends} {σ : L2.St} {H : Hp} (h : cS X.K X.mg E (sSeq f g) Dn σ H) : tSeq (cS X.K X.mg E f) (cS X.K X.mg E g) Dn σ H := by
  obtain ⟨τ, H0, G0, G, ρ, n, R, h⟩ := h
  refine ⟨τ, H0, G0, G, ρ, n, R, ?_⟩
  have h' : PostS X.K X.mg τ H0 G0 G E (M.bnd (f ρ) _ n) Dn := h
  unfold M.bnd at h'
  cases e : f ρ n with
  | ok a k =>
    rw [e] at h'
    obtain ⟨ρ', fl⟩ := a
    cases fl with
    | nx => exact fun σ' H' G' R' s => ⟨τ, H0, G0, G', ρ', k, R', PostS.shift s h'⟩
    | rt d => exact h'
    | bk => exact h'
    | ct => exact h'
  | err c k =>
    rw [e] at h'
    exact h'
  | bad =>
    rw [e] at h'
    exact h'.elim
theorem ss_cons (h : PS X st (cS X.K X.mg E f)) (hs : PSs X sts (cS X.K X.mg E g)) : PSs X (st :: sts) (cS X.K X.mg E (sSeq f g)) := pss_mono (pss_cons h hs) fun _ _ _ h => seq_step h
theorem ss_one (h : PS X st (cS X.K X.mg E f)) : PSs X [st] (cS X.K X.mg E f) := pss_one h
theorem s_pass : PS X (.Pass pos) (cS X.K X.mg E sNx) := ps_mono ps_pass fun Dn σ H ⟨τ, H0, G0, G, ρ, n, R, h⟩ => PostS.ret h R
theorem s_break : PS X (.Break pos) (cS X.K X.mg E sBreak) := ps_mono ps_break fun Dn σ H ⟨τ, H0, G0, G, ρ, n, R, h⟩ => PostS.ret h R
theorem s_cont : PS X (.Continue pos) (cS X.K X.mg E sCont) := ps_mono ps_continue fun Dn σ H ⟨τ, H0, G0, G, ρ, n, R, h⟩ => PostS.ret h R
theorem s_ret (he : PE X e (cT X.K X.mg (kE E) fe)) : PS X (.Return (some e) pos) (cS X.K X.mg E (sRet fe)) :=
  ps_mono (ps_ret he) fun Dn σ H ⟨τ, H0, G0, G, ρ, n, R, h⟩ => ⟨τ, H0, G0, G, ρ, n, R, Post.mono (fun v H1 ⟨d, n1, G1, R1, s, r, h1⟩ => PostS.ret h1 R1 v r) (PostS.expr (rep := Rep X.K X.mg τ) R h)⟩
theorem s_if {c : Expr} (hc : PT X c (cB X.K X.mg (kE E) fc)) (ha : PSs X sts (cS X.K X.mg E f)) (hb : PSs X sts' (cS X.K X.mg E g)) : PS X (.If c sts sts' pos) (cS X.K X.mg E (sIf fc f g)) :=
  ps_mono (ps_if hc ha hb) fun Dn σ H ⟨τ, H0, G0, G, ρ, n, R, h⟩ => ⟨τ, H0, G0, G, ρ, n, R, Post.mono (fun b H1 ⟨b', n1, G1, R1, s, r, h1⟩ => by
    have r : b = b' := r
    subst r
    cases b with
    | true => exact ⟨τ, H0, G0, G1, ρ, n1, R1, h1⟩
    | false => exact ⟨τ, H0, G0, G1, ρ, n1, R1, h1⟩) (PostS.expr (rep := fun _ b c => b = c) R h)⟩
theorem set_step {i : Nat} {Dn : Ends} {σ : L2.St} {H : Hp} (h : cS X.K X.mg E (sSet i fe) Dn σ H) : tAsg (cT X.K X.mg (kE E) fe) (gName i) Dn σ H := by
  obtain ⟨τ, H0, G0, G, ρ, n, R, h⟩ := h
  refine ⟨τ, H0, G0, G, ρ, n, R, Post.mono (fun v H1 ⟨d, n1, G1, R1, s, r, h1⟩ => ?_) (PostS.expr (rep := Rep X.K X.mg τ) R h)⟩
  exact PostS.ret h1 (R1.set i r)
theorem pat_step {p : Pat} {Dn : Ends} {σ : L2.St} {H : Hp} (h : cS X.K X.mg E (sPat p fe) Dn σ H) : tAsg (cT X.K X.mg (kE E) fe) (gPat X.K p) Dn σ H := by
  obtain ⟨τ, H0, G0, G, ρ, n, R, h⟩ := h
  refine ⟨τ, H0, G0, G, ρ, n, R, Post.mono (fun v H1 ⟨d, n1, G1, R1, s, r, h1⟩ => ?_) (PostS.expr (rep := Rep X.K X.mg τ) R h)⟩
  obtain ⟨ρ', e, h1⟩ := PostS.opt h1
  exact gPat_of R1 r e fun vs R2 => PostS.ret h1 R2
theorem own_rel {K : PySem.W.Frag} {mg : Str → Option Value} {τ : Option Addr} {H0 G0 G G1 H H1 : Hp} {σ : L2.St} {ρ : Mi.Env} {n n1 : Nat} {i : Nat} {p : Addr} {s : Sl}
    (R0 : Rel K mg τ H0 G0 G H σ ρ n) (st : Step τ H G H1 G1) (R : Rel K mg τ H0 G0 G1 H1 σ ρ n1) (hp0 : H p = none) (gp : G1 p = none) (hi : i < ρ.length)
    (ok : ∀ x, x = some (some (V.ref p)) → SlotOk K mg τ H0 G1 H1 x s) (cl : ∀ x a, x = some (some (V.ref p)) → CellOf H1 x s a → a = p) :
    Rel K mg τ H0 G0 G1 H1 (σ.set i (some (.ref p))) (ρ.set i s) n1 := by
  have hτ : some p ≠ τ := fun z => by
    have := R0.town p z.symm
    rw [hp0] at this
    cases this
  have h0 : H0 p = none := by
    cases e : H0 p with
    | none => rfl
    | some o =>
      have := R0.step.keep p o e hτ
      rw [hp0] at this
      cases this
  exact R.own i hi ok cl h0 gp hτ fun j hj c => R0.notCell hp0 j (cell_step st (R0.slots j) (fun a c => (R0.cell j a c).2.2) p c)
theorem own_step {i : Nat} {Dn : Ends} {σ : L2.St} {H : Hp} (h : cS X.K X.mg E (sOwn i fl) Dn σ H) : tAsg (cF X.K X.mg (kE E) fl) (gName i) Dn σ H := by
  obtain ⟨τ, H0, G0, G, ρ, n, R, h⟩ := h
  refine ⟨τ, H0, G0, G, ρ, n, R, PostF.mono (fun v H1 ⟨ds, n1, G1, p, vs, R1, s, e, e1, e2, e3, r, h1⟩ => ?_) (PostS.exprF R h)⟩
  subst e
  obtain ⟨hi, h1⟩ := PostS.need h1
  refine PostS.ret h1 (own_rel R s R1 e1 e3 (of_decide_eq_true hi) (fun x e => ⟨p, vs, e, e2, r⟩) fun x a e c => ?_)
  have c : x = some (some (.ref a)) := c
  rw [e] at c
  cases c
  rfl
theorem own2_step {i : Nat} {Dn : Ends} {σ : L2.St} {H : Hp} (h : cS X.K X.mg E (sOwn2 i fl) Dn σ H) : tAsg (cF X.K X.mg (kE E) fl) (gName i) Dn σ H := by
  obtain ⟨τ, H0, G0, G, ρ, n, R, h⟩ := h
  refine ⟨τ, H0, G0, G, ρ, n, R, PostF.mono (fun v H1 ⟨ds, n1, G1, p, vs, R1, s, e, e1, e2, e3, r, h1⟩ => ?_) (PostS.exprF R h)⟩
  subst e
  obtain ⟨hi, h2⟩ := PostS.need h1
  have hi : i < ρ.length ∧ ds = [] := of_decide_eq_true hi
  obtain ⟨hi2, rfl⟩ := hi
  cases r
  have cl : ∀ (x : Option (Option V)) (a : Addr), x = some (some (V.ref p)) → CellOf H1 x (.ow2 []) a → a = p := fun x a e c => by
    rcases c with c | ⟨q, bs, c, h', hm⟩
    · rw [e] at c
      cases c
      rfl
    · rw [e] at c
      cases c
      rw [e2] at h'
      have z := refs_inj (bs := []) h'
      subst z
      cases hm
  exact PostS.ret h2 (own_rel (i := i) (s := .ow2 []) R s R1 e1 e3 hi2 (fun x e => ⟨p, [], e, e2, .nil, by simp, .nil⟩) cl)
theorem fz_step {E : L2.St → XK} {σ : L2.St} {H : Hp} {Q : VK} (h : cT X.K X.mg E (eL fl) σ H Q) : cF X.K X.mg E fl σ H Q := by
  obtain ⟨τ, H0, G0, G, ρ, n, R, h⟩ := h
  exact ⟨τ, H0, G0, G, ρ, n, R, post_fz R.town h⟩
/-- name = e, whatever the reading -/
theorem s_set {i : Nat} {x : Str} {pos' : Pos} (hN : X.N.Nodup) (hi : X.N[i]? = some x) (hx : Loc X.env.scope x) (he : PE X e (cT X.K X.mg (kE E) fe)) (hs : swapsWith e (some (.Name x pos')) pos.line X.env = pure false := by rfl)
    (hf : X.fn x = true ∨ X.env.scope.names.lookup x = some .local := by first | exact .inl rfl | exact .inr rfl | assumption) : PS X (.Assign [.Name x pos'] e pos) (cS X.K X.mg E (sSet i fe)) := ps_mono (ps_set hN hi hx he hs hf) fun _ _ _ h => set_step h
theorem s_own {i : Nat} {x : Str} {pos' : Pos} (hN : X.N.Nodup) (hi : X.N[i]? = some x) (hx : Loc X.env.scope x) (he : PE X e (cF X.K X.mg (kE E) fl)) (hs : swapsWith e (some (.Name x pos')) pos.line X.env = pure false := by rfl)
    (hf : X.fn x = true ∨ X.env.scope.names.lookup x = some .local := by first | exact .inl rfl | exact .inr rfl | assumption) : PS X (.Assign [.Name x pos'] e pos) (cS X.K X.mg E (sOwn i fl)) := ps_mono (ps_set hN hi hx he hs hf) fun _ _ _ h => own_step h
theorem s_own2 {i : Nat} {x : Str} {pos' : Pos} (hN : X.N.Nodup) (hi : X.N[i]? = some x) (hx : Loc X.env.scope x) (he : PE X e (cF X.K X.mg (kE E) fl)) (hs : swapsWith e (some (.Name x pos')) pos.line X.env = pure false := by rfl)
    (hf : X.fn x = true ∨ X.env.scope.names.lookup x = some .local := by first | exact .inl rfl | exact .inr rfl | assumption) : PS X (.Assign [.Name x pos'] e pos) (cS X.K X.mg E (sOwn2 i fl)) := ps_mono (ps_set hN hi hx he hs hf) fun _ _ _ h => own2_step h
/-- name = [e for ..], on one line: stored within -/
theorem s_setLc {i : Nat} {y : Str} {py : Pos} {elt tg iter : Expr} {ifs : List Expr} {scope : Scope} {own : List (Str × Nat)} {spos : Pos} {p : Pat} {fi : Mi.Env → M (List D)} {tt : Mi.Env → M Bool} (hc : X.calm = true) (hN : X.N.Nodup) (hy : X.N[i]? = some y) (hyl : X.env.scope.names.lookup y = some .local)
    (hi : PI X tg iter (cI X.K X.mg (kE E) fi)) (ok : BlkOk X.N X.env.scope scope own)
    (hg : ∀ (s : Shared) (H : Hp) (C : Addr) (cl : List (Str × Addr)) (fp : List Addr), PG (X.blk s H scope (compEnvC scope cl C X.env) fp) tg (gPat X.K p))
    (ht : ∀ (s : Shared) (H : Hp) (C : Addr) (cl : List (Str × Addr)) (fp : List Addr), PTs (X.blk s H scope (compEnvC scope cl C X.env) fp) ifs (cB X.K X.mg E0s tt))
    (he : ∀ (s : Shared) (H : Hp) (C : Addr) (cl : List (Str × Addr)) (fp : List Addr), PE (X.blk s H scope (compEnvC scope cl C X.env) fp) elt (cT X.K X.mg E0s fe))
    (hsw : swapsWith (.ListComp elt [⟨tg, iter, ifs, 0⟩] scope pos) (some (.Name y py)) spos.line X.env = pure true := by rfl)
    (hp : ∀ i ∈ p.slots, i ∈ own.map (·.2) := by decide) (hs : ∀ x, foldedSetIterable iter X.env x = pure x := by intro _; rfl) :
    PS X (.Assign [.Name y py] (.ListComp elt [⟨tg, iter, ifs, 0⟩] scope pos) spos) (cS X.K X.mg E (sSet i (eL (lComp fi p (own.map (·.2)) tt fe)))) :=
  ps_mono (ps_setLc hc hN hy hyl hsw hi ok hg ht he hs) fun _ _ _ h => lc_step hp (fz_step (set_step h))
theorem s_ownLc {i : Nat} {y : Str} {py : Pos} {elt tg iter : Expr} {ifs : List Expr} {scope : Scope} {own : List (Str × Nat)} {spos : Pos} {p : Pat} {fi : Mi.Env → M (List D)} {tt : Mi.Env → M Bool} (hc : X.calm = true) (hN : X.N.Nodup) (hy : X.N[i]? = some y) (hyl : X.env.scope.names.lookup y = some .local)
    (hi : PI X tg iter (cI X.K X.mg (kE E) fi)) (ok : BlkOk X.N X.env.scope scope own)
    (hg : ∀ (s : Shared) (H : Hp) (C : Addr) (cl : List (Str × Addr)) (fp : List Addr), PG (X.blk s H scope (compEnvC scope cl C X.env) fp) tg (gPat X.K p))
    (ht : ∀ (s : Shared) (H : Hp) (C : Addr) (cl : List (Str × Addr)) (fp : List Addr), PTs (X.blk s H scope (compEnvC scope cl C X.env) fp) ifs (cB X.K X.mg E0s tt))
    (he : ∀ (s : Shared) (H : Hp) (C : Addr) (cl : List (Str × Addr)) (fp : List Addr), PE (X.blk s H scope (compEnvC scope cl C X.env) fp) elt (cT X.K X.mg E0s fe))
    (hsw : swapsWith (.ListComp elt [⟨tg, iter, ifs, 0⟩] scope pos) (some (.Name y py)) spos.line X.env = pure true := by rfl)
    (hp : ∀ i ∈ p.slots, i ∈ own.map (·.2) := by decide) (hs : ∀ x, foldedSetIterable iter X.env x = pure x := by intro _; rfl) :
    PS X (.Assign [.Name y py] (.ListComp elt [⟨tg, iter, ifs, 0⟩] scope pos) spos) (cS X.K X.mg E (sOwn i (lComp fi p (own.map (·.2)) tt fe))) :=
  ps_mono (ps_setLc hc hN hy hyl hsw hi ok hg ht he hs) fun _ _ _ h => lc_step hp (own_step h)
theorem s_pat {tg : Expr} {p : Pat} (he : PE X e (cT X.K X.mg (kE E) fe)) (hg : PG X tg (gPat X.K p)) (hs : swapsWithSole [tg] e pos.line X.env = pure false := by rfl) (hw : swappedStores [tg] e X.env = pure none := by rfl)
    (h1 : (assignEach [tg] X.env).map (·.2) = [assign tg X.env] := by rfl) : PS X (.Assign [tg] e pos) (cS X.K X.mg E (sPat p fe)) := ps_mono (ps_asg he hg hs hw h1) fun _ _ _ h => pat_step h
theorem s_drop (he : PE X e (cT X.K X.mg (kE E) fe)) (hs : swapsWith e none pos.line X.env = pure false := by rfl) : PS X (.Expr e pos) (cS X.K X.mg E (sDrop fe)) :=
  ps_mono (ps_expr he hs) fun Dn σ H ⟨τ, H0, G0, G, ρ, n, R, h⟩ => ⟨τ, H0, G0, G, ρ, n, R, Post.mono (fun v H1 ⟨d, n1, G1, R1, s, r, h1⟩ => PostS.ret h1 R1) (PostS.expr (rep := Rep X.K X.mg τ) R h)⟩
theorem s_raise {c : Str} {C : Addr} (hc : X.calm = true) (tk : Takes X (fun c d _ H => E c d H)) (hm : X.mg c = some (.ref C)) (he : PMk X e (fun _ H Q => Q (.ref C) none H)) : PS X (.Raise (some e) none pos) (cS X.K X.mg E (sRaise c)) :=
  ps_mono (ps_raise hc tk he) fun Dn σ H ⟨τ, H0, G0, G, ρ, n, R, h⟩ => h C H hm R.step.keep R.town

/-! ### loops -/
theorem for_step {fi : Mi.Env → M (List D)} {p : Pat} {Dn : Ends} {σ : L2.St} {H : Hp} (h : cS X.K X.mg E (sFor fi p f) Dn σ H) : tFor (cI X.K X.mg (kE E) fi) (gPat X.K p) (cS X.K X.mg E f) Dn σ H := by
  obtain ⟨τ, H0, G0, G, ρ, n, R, h⟩ := h
  refine ⟨τ, H0, G0, G, ρ, n, R, Post.mono (fun J H1 => ?_) (PostS.expr (rep := Yields X.K X.mg τ) R h)⟩
  rintro ⟨ds, n1, G1, R1, s1, ys, h1⟩
  let Inv : Nat → L2.St → Hp → Prop := fun i σ H => i ≤ ds.length ∧ ∃ G2 ρ2 n2, Rel X.K X.mg τ H0 G0 G2 H σ ρ2 n2 ∧ (∀ b u, G1 b = some u → G2 b = some u) ∧ PostS X.K X.mg τ H0 G0 G2 E (forL p f (ds.drop i) ρ2 n2) Dn
  refine ⟨fun i m σ H => m = ds.length - i ∧ Inv i σ H, ⟨ds.length, by simp, Nat.zero_le _, G1, ρ, n1, R1, fun _ _ e => e, h1⟩, ?_⟩
  rintro i m σ2 H2 ⟨rfl, hi, G2, ρ2, n2, R2, s2, h2⟩
  obtain ⟨yg, yy, ye⟩ := ys i G2 H2 n2 s2 R2.le R2.nt R2.town
  by_cases hlt : i < ds.length
  · refine .inr ⟨yg hlt, Inv (i + 1), fun σ' H' q => ⟨ds.length - (i + 1), by omega, rfl, q⟩, fun x H3 hy => ?_⟩
    have ed : ds[i]? = some ds[i] := List.getElem?_eq_getElem hlt
    obtain ⟨G3, st3, tw3, rx⟩ := yy x H3 _ ed hy
    have R3 := R2.next st3 tw3
    rw [List.drop_eq_getElem_cons hlt] at h2
    obtain ⟨ρ', eρ, h2⟩ := PostS.opt h2
    refine gPat_of R3 rx eρ fun ws R4 => ⟨τ, H0, G0, G3, ρ', n2, R4, ?_⟩
    have s3 : ∀ b u, G1 b = some u → G3 b = some u := fun b u e => st3.sub b u (s2 b u e)
    have h2' : PostS X.K X.mg τ H0 G0 G2 E (M.bnd (f ρ') _ n2) Dn := h2
    unfold M.bnd at h2'
    cases e : f ρ' n2 with
    | ok a k =>
      rw [e] at h2'
      obtain ⟨ρ5, fl⟩ := a
      cases fl with
      | nx => exact fun σ' H' G' R' s => ⟨hlt, G', ρ5, k, R', fun b u e => s b u (s3 b u e), PostS.shift (fun b u e => s b u (st3.sub b u e)) h2'⟩
      | ct => exact fun σ' H' G' R' s => ⟨hlt, G', ρ5, k, R', fun b u e => s b u (s3 b u e), PostS.shift (fun b u e => s b u (st3.sub b u e)) h2'⟩
      | rt d => exact fun σ' H' G' R' s => h2' σ' H' G' R' fun b u e => s b u (st3.sub b u e)
      | bk => exact fun σ' H' G' R' s => h2' σ' H' G' R' fun b u e => s b u (st3.sub b u e)
    | err c k =>
      rw [e] at h2'
      exact h2'
    | bad =>
      rw [e] at h2'
      exact h2'.elim
  · have e : i = ds.length := by omega
    subst e
    refine .inl ⟨ye (Nat.le_refl _), ?_⟩
    rw [List.drop_length] at h2
    exact PostS.ret h2 R2
theorem s_for {tg iter : Expr} {body : List Stmt} {fi : Mi.Env → M (List D)} {p : Pat} (hp : PassesOwn (model X.prog X.w) X.A X.env X.xe) (hc : X.calm = true) (hi : PI X tg iter (cI X.K X.mg (kE E) fi)) (hg : PG X tg (gPat X.K p)) (hb : PSs X body (cS X.K X.mg E f))
    (hs : ∀ x, foldedSetIterable iter X.env x = pure x := by intro _; rfl) : PS X (.For tg iter body [] pos) (cS X.K X.mg E (sFor fi p f)) := ps_mono (ps_for hp hc hi hg hb hs) fun _ _ _ h => for_step h
theorem while_step {k : Nat} {Dn : Ends} {σ : L2.St} {H : Hp} (h : cS X.K X.mg E (sWhile k fc f) Dn σ H) : tWhile (cB X.K X.mg (kE E) fc) (cS X.K X.mg E f) Dn σ H := by
  obtain ⟨τ, H0, G0, G, ρ, n, R, h⟩ := h
  let Inv : Nat → L2.St → Hp → Prop := fun m σ H => ∃ G2 ρ2 n2, Rel X.K X.mg τ H0 G0 G2 H σ ρ2 n2 ∧ (∀ b u, G b = some u → G2 b = some u) ∧ PostS X.K X.mg τ H0 G0 G2 E (whL fc f m ρ2 n2) Dn
  refine ⟨Inv, ⟨k, G, ρ, n, R, fun _ _ e => e, h⟩, ?_⟩
  rintro m σ2 H2 ⟨G2, ρ2, n2, R2, s2, h2⟩
  cases m with
  | zero => exact (show False from h2).elim
  | succ m =>
    refine ⟨τ, H0, G0, G2, ρ2, n2, R2, Post.mono (fun b H3 => ?_) (PostS.expr (rep := fun _ b c => b = c) R2 h2)⟩
    rintro ⟨b', n3, G3, R3, s3, rfl, h3⟩
    cases b with
    | false => exact PostS.ret h3 R3
    | true =>
      rw [if_pos rfl]
      refine ⟨Inv m, fun σ' H' q => ⟨m, Nat.lt_succ_self m, q⟩, τ, H0, G0, G3, ρ2, n3, R3, ?_⟩
      have s23 : ∀ b u, G b = some u → G3 b = some u := fun b u e => s3 b u (s2 b u e)
      have h3' : PostS X.K X.mg τ H0 G0 G3 E (M.bnd (f ρ2) _ n3) Dn := h3
      unfold M.bnd at h3'
      cases e : f ρ2 n3 with
      | ok a k =>
        rw [e] at h3'
        obtain ⟨ρ5, fl⟩ := a
        cases fl with
        | nx => exact fun σ' H' G' R' s => ⟨G', ρ5, k, R', fun b u e => s b u (s23 b u e), PostS.shift s h3'⟩
        | ct => exact fun σ' H' G' R' s => ⟨G', ρ5, k, R', fun b u e => s b u (s23 b u e), PostS.shift s h3'⟩
        | rt d => exact h3'
        | bk => exact h3'
      | err c k =>
        rw [e] at h3'
        exact h3'
      | bad =>
        rw [e] at h3'
        exact h3'.elim
theorem s_while {k : Nat} {c : Expr} {body : List Stmt} (hp : PassesOwn (model X.prog X.w) X.A X.env X.xe) (hc : PT X c (cB X.K X.mg (kE E) fc)) (hb : PSs X body (cS X.K X.mg E f)) : PS X (.While c body [] pos) (cS X.K X.mg E (sWhile k fc f)) :=
  ps_mono (ps_while hp hc hb) fun _ _ _ h => while_step h
end
end Mi

end

section
set_option Elab.async false
set_option linter.all false
set_option maxRecDepth 100000
set_option maxHeartbeats 4000000
namespace Mi
open PySem PySem.Spec L2

/-! ### an object that is filled no more: frozen -/
def zipK (ks : List Key) (ds : List D) : List (D × D) := (ks.map keyD).zip ds
def zipT (ks : List (List Key)) (ds : List D) : List (D × D) := (ks.map keysD).zip ds
def frS : Sl → Sl
  | .ow ds => .fz (.list ds)
  | .ow2 dss => .fz (.list (dss.map .list))
  | .dk ks ds => .fz (.dict (zipK ks ds))
  | .dt ks ds => .fz (.dict (zipT ks ds))
  | .no => .no
  | .fz d => .fz d
  | .sh ds => .sh ds
def frz (i : Nat) (ρ : Mi.Env) : Mi.Env := ρ.set i (frS (ρ.at i))
def LD : HO → Prop
  | .lst _ => True
  | .dK _ => True
  | .dT _ => True
  | _ => False
/-! no list and no dict within -/
mutual
def noL : D → Bool
  | .list _ => false
  | .dict _ => false
  | .tuple ds => noLs ds
  | _ => true
def noLs : List D → Bool
  | [] => true
  | d :: r => noL d && noLs r
end
theorem at_ge {ρ : Mi.Env} {i : Nat} (h : ρ.length ≤ i) : ρ.at i = .no := by
  unfold Env.at
  rw [List.getD_eq_getElem?_getD, List.getElem?_eq_none h] <;> rfl
theorem at_set' {ρ : Mi.Env} {i j : Nat} {s : Sl} (hs : ρ.length ≤ i → s = .no) : Env.at (ρ.set i s) j = if j = i then s else ρ.at j := by
  rw [at_set]
  by_cases h : j = i
  · subst h
    by_cases h2 : j < ρ.length
    · rw [if_pos ⟨rfl, h2⟩, if_pos rfl]
    · rw [if_neg (fun z => h2 z.2), if_pos rfl, hs (Nat.le_of_not_lt h2), at_ge (Nat.le_of_not_lt h2)]
  · rw [if_neg (fun z => h z.1), if_neg h]
theorem frz_at (ρ : Mi.Env) (i j : Nat) : (frz i ρ).at j = if j = i then frS (ρ.at i) else ρ.at j := at_set' fun h => by rw [at_ge h]; rfl
structure Grow (G G' : Hp) : Prop where
  sub : ∀ b u, G b = some u → G' b = some u
  old : ∀ b u, G' b = some u → G b = some u ∨ LD u
section
variable {K : PySem.W.Frag} {mg : Str → Option Value} {τ : Option Addr} {H0 G0 G G' G1 H H' H1 : Hp} {σ : L2.St} {ρ ρ' : Mi.Env} {n n1 : Nat}
theorem slot_sub {x : Option (Option V)} (sub : ∀ b u, G b = some u → G' b = some u) : ∀ {s : Sl}, SlotOk K mg τ H0 G H x s → SlotOk K mg τ H0 G' H x s := by
  intro s ok
  cases s with
  | no => trivial
  | fz d =>
    obtain ⟨v, e, r⟩ := ok
    exact ⟨v, e, r.sub sub⟩
  | sh ds =>
    obtain ⟨a, vs, e, g, r, h0⟩ := ok
    exact ⟨a, vs, e, sub _ _ g, r.sub sub, h0⟩
  | ow ds =>
    obtain ⟨b, vs, e, h, r⟩ := ok
    exact ⟨b, vs, e, h, r.sub sub⟩
  | dk ks ds =>
    obtain ⟨b, vs, e, h, q, r⟩ := ok
    exact ⟨b, vs, e, h, q, r.sub sub⟩
  | dt ks ds =>
    obtain ⟨b, vs, e, h, q, r⟩ := ok
    exact ⟨b, vs, e, h, q, r.sub sub⟩
  | ow2 dss =>
    obtain ⟨b, bs, e, h, nd, nb, r⟩ := ok
    exact ⟨b, bs, e, h, nd, nb, r.sub sub fun c hc o q => q⟩
theorem cell_kind {x : Option (Option V)} : ∀ {s : Sl} {a : Addr}, SlotOk K mg τ H0 G H x s → CellOf H x s a → ∃ o, H a = some o ∧ LD o := by
  intro s a ok c
  cases s with
  | no => exact c.elim
  | fz d => exact c.elim
  | sh ds => exact c.elim
  | ow ds =>
    obtain ⟨b, vs, e, h, _⟩ := ok
    have c : x = some (some (.ref a)) := c
    rw [e] at c
    cases c
    exact ⟨_, h, trivial⟩
  | dk ks ds =>
    obtain ⟨b, vs, e, h, _⟩ := ok
    have c : x = some (some (.ref a)) := c
    rw [e] at c
    cases c
    exact ⟨_, h, trivial⟩
  | dt ks ds =>
    obtain ⟨b, vs, e, h, _⟩ := ok
    have c : x = some (some (.ref a)) := c
    rw [e] at c
    cases c
    exact ⟨_, h, trivial⟩
  | ow2 dss =>
    obtain ⟨b, bs, e, h, nd, nb, r⟩ := ok
    rcases c with c | ⟨r', bs', e', h', hm⟩
    · rw [e] at c
      cases c
      exact ⟨_, h, trivial⟩
    · rw [e] at e'
      cases e'
      rw [h] at h'
      have z := refs_inj h'
      subst z
      obtain ⟨vs, q⟩ := r.at a hm
      exact ⟨_, q, trivial⟩
theorem reps_rows (sub : ∀ b u, G b = some u → G' b = some u) : ∀ {bs : List Addr} {dss : List (List D)}, Rows2 K mg τ G H bs dss → (∀ b ∈ bs, G' b = H b) → Reps K mg τ G' (bs.map V.ref) (dss.map PyData.list)
  | _, _, .nil, _ => .nil
  | _, _, .cons h r q, k => .cons (.lst ((k _ List.mem_cons_self).trans h) (r.sub sub)) (reps_rows sub q fun b hb => k b (List.mem_cons_of_mem _ hb))
theorem repK_of : ∀ {kvs : List (Key × V)} {ds : List D}, Reps K mg τ G (kvs.map (·.2)) ds → RepK K mg τ G kvs (zipK (kvs.map (·.1)) ds)
  | [], _, .nil => .nil
  | (k, v) :: r, _, .cons h t => .cons h (repK_of t)
theorem repT_of : ∀ {kvs : List (List Key × V)} {ds : List D}, Reps K mg τ G (kvs.map (·.2)) ds → RepT K mg τ G kvs (zipT (kvs.map (·.1)) ds)
  | [], _, .nil => .nil
  | (k, v) :: r, _, .cons h t => .cons h (repT_of t)
open Classical in
theorem Rel.frz (R : Rel K mg τ H0 G0 G H σ ρ n) (i : Nat) : ∃ G', Rel K mg τ H0 G0 G' H σ (Mi.frz i ρ) n ∧ Grow G G' := by
  let G' : Hp := fun b => if CellOf H σ[i]? (ρ.at i) b then H b else G b
  have gc : ∀ {b}, CellOf H σ[i]? (ρ.at i) b → G' b = H b := fun {b} h => if_pos h
  have gn : ∀ {b}, ¬ CellOf H σ[i]? (ρ.at i) b → G' b = G b := fun {b} h => if_neg h
  have sub : ∀ b u, G b = some u → G' b = some u := fun b u e => by
    rw [gn (fun c => by have := (R.cell i b c).1; rw [e] at this; cases this)]
    exact e
  have old : ∀ b u, G' b = some u → G b = some u ∨ (CellOf H σ[i]? (ρ.at i) b ∧ H b = some u) := fun b u e => by
    by_cases c : CellOf H σ[i]? (ρ.at i) b
    · rw [gc c] at e
      exact .inr ⟨c, e⟩
    · rw [gn c] at e
      exact .inl e
  refine ⟨G', ⟨⟨R.step.keep, fun b u e => sub b u (R.step.sub b u e), fun b u e => ?_, fun b u e => ?_, fun a e => ?_⟩, R.town, by unfold Mi.frz; rw [List.length_set]; exact R.len, fun j => ?_, fun j a c => ?_, fun j k a c d => ?_⟩, sub, fun b u e => ?_⟩
  · rcases old b u e with q | ⟨c, q⟩
    · exact R.step.new b u q
    · exact .inr (R.cell i b c).2.1
  · rcases old b u e with q | ⟨c, q⟩
    · exact R.step.le b u q
    · exact .inl q
  · cases q : G' a with
    | none => rfl
    | some u =>
      rcases old a u q with z | ⟨c, z⟩
      · rw [R.nt a e] at z
        cases z
      · exact absurd e.symm (R.cell i a c).2.2
  · rw [frz_at]
    by_cases h : j = i
    · subst h
      rw [if_pos rfl]
      have ok := R.slots j
      cases q : ρ.at j with
      | no => exact trivial
      | fz d =>
        rw [q] at ok
        exact slot_sub (s := .fz d) sub ok
      | sh d =>
        rw [q] at ok
        exact slot_sub (s := .sh d) sub ok
      | ow ds =>
        rw [q] at ok
        obtain ⟨a, vs, e, h, r⟩ := ok
        exact ⟨.ref a, e, .lst ((gc (by rw [q]; exact e)).trans h) (r.sub sub)⟩
      | ow2 dss =>
        rw [q] at ok
        obtain ⟨a, bs, e, h, nd, nb, r⟩ := ok
        exact ⟨.ref a, e, .lst ((gc (by rw [q]; exact .inl e)).trans h) (reps_rows sub r fun b hb => gc (by rw [q]; exact .inr ⟨a, bs, e, h, hb⟩))⟩
      | dk ks ds =>
        rw [q] at ok
        obtain ⟨a, kvs, e, h, z, r⟩ := ok
        subst z
        exact ⟨.ref a, e, .dk (.inl ((gc (by rw [q]; exact e)).trans h)) (RepK.sub sub (repK_of r))⟩
      | dt ks ds =>
        rw [q] at ok
        obtain ⟨a, kvs, e, h, z, r⟩ := ok
        subst z
        exact ⟨.ref a, e, .dt (.inl ((gc (by rw [q]; exact e)).trans h)) (RepT.sub sub (repT_of r))⟩
    · rw [if_neg h]
      exact slot_sub sub (R.slots j)
  · rw [frz_at] at c
    by_cases h : j = i
    · rw [if_pos h] at c
      revert c
      cases ρ.at i <;> exact fun c => False.elim c
    · rw [if_neg h] at c
      obtain ⟨z1, z2, z3⟩ := R.cell j a c
      refine ⟨?_, z2, z3⟩
      rw [gn fun d => h (R.apart j i a c d)]
      exact z1
  · rw [frz_at] at c d
    by_cases h : j = i
    · rw [if_pos h] at c
      revert c
      cases ρ.at i <;> exact fun c => False.elim c
    · by_cases h2 : k = i
      · rw [if_pos h2] at d
        revert d
        cases ρ.at i <;> exact fun c => False.elim c
      · rw [if_neg h] at c
        rw [if_neg h2] at d
        exact R.apart j k a c d
  · rcases old b u e with q | ⟨c, q⟩
    · exact .inl q
    · obtain ⟨o, z, ld⟩ := cell_kind (R.slots i) c
      rw [q] at z
      cases z
      exact .inr ld

/-! ### borrowed for one expression -/
mutual
theorem Rep.thin {G2 : Hp} (h : ∀ b u, G1 b = some u → ¬ LD u → G2 b = some u) : ∀ {v : V} {d : D}, Rep K mg τ G1 v d → noL d = true → Rep K mg τ G2 v d
  | _, _, .non, _ => .non
  | _, _, .bl b, _ => .bl b
  | _, _, .int i, _ => .int i
  | _, _, .str x, _ => .str x
  | _, _, .lst ha r, e => by unfold noL at e; cases e
  | _, _, .tup (a := a) (vs := vs) ha r, e => by
    unfold noL at e
    refine .tup ?_ (Reps.thin h r e)
    rcases ha with (q | ⟨o, q⟩) | q
    · exact .inl (.inl (h _ _ q (fun z => z)))
    · exact .inl (.inr ⟨o, h _ _ q (fun z => z)⟩)
    · exact .inr q
  | _, _, .dk ha r, e => by unfold noL at e; cases e
  | _, _, .dt ha r, e => by unfold noL at e; cases e
  | _, _, .town h, e => .town h
  | _, _, .scr h, e => by unfold scrD noL at e; cases e
  | _, _, .exc h g, e => by unfold excD noL at e; cases e
theorem Reps.thin {G2 : Hp} (h : ∀ b u, G1 b = some u → ¬ LD u → G2 b = some u) : ∀ {v : List V} {d : List D}, Reps K mg τ G1 v d → noLs d = true → Reps K mg τ G2 v d
  | _, _, .nil, _ => .nil
  | _, _, .cons p r, e => by
    unfold noLs at e
    rw [Bool.and_eq_true] at e
    exact .cons (Rep.thin h p e.1) (Reps.thin h r e.2)
end
open Classical in
theorem Grow.back (g : Grow G G') (st : Step τ H G' H1 G1) : ∃ G2, Step τ H G H1 G2 ∧ (∀ b u, G1 b = some u → ¬ LD u → G2 b = some u) ∧ ∀ b, G1 b = none → G2 b = none := by
  let S : Addr → Prop := fun b => G b = none ∧ G' b ≠ none
  let G2 : Hp := fun b => if S b then none else G1 b
  have gs : ∀ {b}, S b → G2 b = none := fun {b} h => if_pos h
  have gn : ∀ {b}, ¬ S b → G2 b = G1 b := fun {b} h => if_neg h
  have e2 : ∀ {b u}, G2 b = some u → ¬ S b ∧ G1 b = some u := fun {b u} e => by
    by_cases c : S b
    · rw [gs c] at e; cases e
    · exact ⟨c, (gn c).symm.trans e⟩
  refine ⟨G2, ⟨st.keep, fun b u e => ?_, fun b u e => ?_, fun b u e => st.le b u (e2 e).2, fun a e => ?_⟩, fun b u e nl => ?_, fun b e => ?_⟩
  · rw [gn (fun c => by rw [c.1] at e; cases e)]
    exact st.sub b u (g.sub b u e)
  · obtain ⟨c, e⟩ := e2 e
    rcases st.new b u e with q | q
    · refine .inl ?_
      cases z : G b with
      | none => exact absurd ⟨z, fun w => by rw [q] at w; cases w⟩ c
      | some u' => rw [← q]; exact (g.sub b u' z).symm
    · exact .inr q
  · by_cases c : S a
    · exact gs c
    · rw [gn c]
      exact st.nt a e
  · rw [gn (fun c => ?_)]
    · exact e
    · cases z : G' b with
      | none => exact c.2 z
      | some u' =>
        have w := st.sub b u' z
        rw [e] at w
        cases w
        rcases g.old b u z with q | q
        · rw [c.1] at q; cases q
        · exact nl q
  · by_cases c : S b
    · exact gs c
    · rw [gn c]; exact e
end
def eBo (i : Nat) (f : Mi.Env → M D) : Mi.Env → M D := fun ρ => do let d ← f (frz i ρ); need (noL d); pure d
def bBo (i : Nat) (f : Mi.Env → M Bool) : Mi.Env → M Bool := fun ρ => f (frz i ρ)
def lBo (i : Nat) (f : Mi.Env → M (List D)) : Mi.Env → M (List D) := fun ρ => do let ds ← f (frz i ρ); need (noLs ds); pure ds
section
variable {X : Cx} {E : L2.St → XK} {e : Expr} {i : Nat} {f : Mi.Env → M D} {g : Mi.Env → M Bool} {l : Mi.Env → M (List D)}
theorem bo_step {σ : L2.St} {H : Hp} {Q : VK} (h : cT X.K X.mg E (eBo i f) σ H Q) : cT X.K X.mg E f σ H Q := by
  obtain ⟨τ, H0, G0, G, ρ, n, R, h⟩ := h
  obtain ⟨G', R', g⟩ := R.frz i
  refine ⟨τ, H0, G0, G', _, n, R', ?_⟩
  have h' : Post X.mg τ H G (E σ) (Rep X.K X.mg τ) (M.bnd (f (frz i ρ)) _ n) Q := h
  unfold M.bnd at h'
  cases e : f (frz i ρ) n with
  | ok a k =>
    rw [e] at h'
    obtain ⟨z, h'⟩ := Post.need h'
    intro v H1 G1 st tw r
    obtain ⟨G2, st2, th, _⟩ := g.back st
    exact h' v H1 G2 st2 tw (r.thin th z)
  | err c k =>
    rw [e] at h'
    exact h'
  | bad =>
    rw [e] at h'
    exact h'.elim
theorem x_bo (h : PE X e (cT X.K X.mg E f)) : PE X e (cT X.K X.mg E (eBo i f)) := pe_mono h fun _ _ _ h => bo_step h
theorem bbo_step {σ : L2.St} {H : Hp} {Q : Bool → Hp → Prop} (h : cB X.K X.mg E (bBo i g) σ H Q) : cB X.K X.mg E g σ H Q := by
  obtain ⟨τ, H0, G0, G, ρ, n, R, h⟩ := h
  obtain ⟨G', R', gr⟩ := R.frz i
  refine ⟨τ, H0, G0, G', _, n, R', ?_⟩
  have h' : Post X.mg τ H G (E σ) (fun _ b c => b = c) (g (frz i ρ) n) Q := h
  cases e : g (frz i ρ) n with
  | ok a k =>
    rw [e] at h'
    intro v H1 G1 st tw r
    obtain ⟨G2, st2, th, _⟩ := gr.back st
    exact h' v H1 G2 st2 tw r
  | err c k =>
    rw [e] at h'
    exact h'
  | bad =>
    rw [e] at h'
    exact h'.elim
theorem t_bo (h : PT X e (cB X.K X.mg E g)) : PT X e (cB X.K X.mg E (bBo i g)) := pt_mono h fun _ _ _ h => bbo_step h
theorem w_bo (h : PW X e (cB X.K X.mg E g)) : PW X e (cB X.K X.mg E (bBo i g)) := pw_mono h fun _ _ _ h => bbo_step h
theorem lbo_step {σ : L2.St} {H : Hp} {Q : VK} (h : cF X.K X.mg E (lBo i l) σ H Q) : cF X.K X.mg E l σ H Q := by
  obtain ⟨τ, H0, G0, G, ρ, n, R, h⟩ := h
  obtain ⟨G', R', g⟩ := R.frz i
  refine ⟨τ, H0, G0, G', _, n, R', ?_⟩
  have h' : PostF X.K X.mg τ H G (E σ) (M.bnd (l (frz i ρ)) _ n) Q := h
  unfold M.bnd at h'
  cases e : l (frz i ρ) n with
  | ok a k =>
    rw [e] at h'
    obtain ⟨z, h'⟩ := PostF.need h'
    intro p vs H1 G1 st tw e1 e2 e3 r
    obtain ⟨G2, st2, th, nn⟩ := g.back st
    exact h' p vs H1 G2 st2 tw e1 e2 (nn p e3) (r.thin th z)
  | err c k =>
    rw [e] at h'
    exact h'
  | bad =>
    rw [e] at h'
    exact h'.elim
theorem l_bo (h : PE X e (cF X.K X.mg E l)) : PE X e (cF X.K X.mg E (lBo i l)) := pe_mono h fun _ _ _ h => lbo_step h
end
/-- ahead of a statement, frozen for good -/
def sFz (i : Nat) (s : MS) : MS := fun ρ => s (frz i ρ)
section
variable {X : Cx} {E : XK} {st : Stmt} {sts : List Stmt} {i : Nat} {f : MS}
theorem sfz_step {Dn : Ends} {σ : L2.St} {H : Hp} (h : cS X.K X.mg E (sFz i f) Dn σ H) : cS X.K X.mg E f Dn σ H := by
  obtain ⟨τ, H0, G0, G, ρ, n, R, h⟩ := h
  obtain ⟨G', R', g⟩ := R.frz i
  exact ⟨τ, H0, G0, G', _, n, R', PostS.shift g.sub h⟩
theorem s_fz (i : Nat) (h : PS X st (cS X.K X.mg E f)) : PS X st (cS X.K X.mg E (sFz i f)) := ps_mono h fun _ _ _ h => sfz_step h
theorem ss_fz (i : Nat) (h : PSs X sts (cS X.K X.mg E f)) : PSs X sts (cS X.K X.mg E (sFz i f)) := pss_mono h fun _ _ _ h => sfz_step h
end
end Mi

end

section
set_option Elab.async false
set_option linter.all false
set_option maxRecDepth 100000
set_option maxHeartbeats 4000000
namespace Mi
open PySem PySem.Spec L2

/-! ### an object of a name's own is written -/
section
variable {K : PySem.W.Frag} {mg : Str → Option Value} {τ : Option Addr} {H0 G0 G G' G1 H H' H1 : Hp} {σ : L2.St} {ρ ρ' : Mi.Env} {n n1 : Nat}
theorem slot_keep {x : Option (Option V)} : ∀ {s : Sl}, SlotOk K mg τ H0 G H x s → (∀ b, CellOf H x s b → H' b = H b) → SlotOk K mg τ H0 G H' x s := by
  intro s ok k
  cases s with
  | no => trivial
  | fz d => exact ok
  | sh ds => exact ok
  | ow ds =>
    obtain ⟨b, vs, e, h, r⟩ := ok
    exact ⟨b, vs, e, (k b e).trans h, r⟩
  | dk ks ds =>
    obtain ⟨b, vs, e, h, q, r⟩ := ok
    exact ⟨b, vs, e, (k b e).trans h, q, r⟩
  | dt ks ds =>
    obtain ⟨b, vs, e, h, q, r⟩ := ok
    exact ⟨b, vs, e, (k b e).trans h, q, r⟩
  | ow2 dss =>
    obtain ⟨b, bs, e, h, nd, nb, r⟩ := ok
    exact ⟨b, bs, e, (k b (.inl e)).trans h, nd, nb, r.sub (fun _ _ q => q) fun c hc o q => (k c (.inr ⟨b, bs, e, h, hc⟩)).trans q⟩
theorem cell_keep {x : Option (Option V)} : ∀ {s : Sl}, SlotOk K mg τ H0 G H x s → (∀ b, CellOf H x s b → H' b = H b) → ∀ a, CellOf H' x s a → CellOf H x s a := by
  intro s ok k a c
  cases s with
  | no => exact c.elim
  | fz d => exact c.elim
  | sh ds => exact c.elim
  | ow ds => exact c
  | dk ks ds => exact c
  | dt ks ds => exact c
  | ow2 dss =>
    obtain ⟨b, bs, e, h, nd, nb, r⟩ := ok
    rcases c with c | ⟨r', bs', e', h', hm⟩
    · exact .inl c
    · rw [e] at e'
      cases e'
      rw [k b (.inl e)] at h'
      exact .inr ⟨b, bs', e, h', hm⟩
theorem Rel.mut (R : Rel K mg τ H0 G0 G H σ ρ n) {i : Nat} {a : Addr} (c : CellOf H σ[i]? (ρ.at i) a) {o : HO} {s : Sl} (ok : SlotOk K mg τ H0 G (upd H a o) σ[i]? s) (cl : ∀ b, CellOf (upd H a o) σ[i]? s b → CellOf H σ[i]? (ρ.at i) b) :
    Rel K mg τ H0 G0 G (upd H a o) σ (ρ.set i s) n := by
  obtain ⟨ga, h0, ht⟩ := R.cell i a c
  have hi : i < ρ.length := by
    rcases Nat.lt_or_ge i ρ.length with h | h
    · exact h
    · rw [at_ge h] at c
      exact c.elim
  have nea : ∀ j, j ≠ i → ∀ b, CellOf H σ[j]? (ρ.at j) b → upd H a o b = H b := fun j hj b d => upd_ne fun z => hj (R.apart j i b d (z ▸ c))
  refine ⟨⟨fun b q e nt => ?_, R.step.sub, R.step.new, fun b u e => ?_, R.nt⟩, fun b e => ?_, by rw [List.length_set]; exact R.len, fun j => ?_, fun j b d => ?_, fun j k b d e => ?_⟩
  · rw [upd_ne (fun z => by rw [z, h0] at e; cases e)]
    exact R.step.keep b q e nt
  · rw [upd_ne (fun z => by rw [z, ga] at e; cases e)]
    exact R.le b u e
  · rw [upd_ne (fun z => ht (by rw [← z, e]))]
    exact R.town b e
  · rw [at_set]
    by_cases h : j = i
    · subst h
      rw [if_pos ⟨rfl, hi⟩]
      exact ok
    · rw [if_neg (fun z => h z.1)]
      exact slot_keep (R.slots j) (nea j h)
  · rw [at_set] at d
    by_cases h : j = i
    · subst h
      rw [if_pos ⟨rfl, hi⟩] at d
      exact R.cell j b (cl b d)
    · rw [if_neg (fun z => h z.1)] at d
      exact R.cell j b (cell_keep (R.slots j) (nea j h) b d)
  · rw [at_set] at d e
    have d' : CellOf H σ[j]? (ρ.at j) b := by
      by_cases h : j = i
      · subst h
        rw [if_pos ⟨rfl, hi⟩] at d
        exact cl b d
      · rw [if_neg (fun z => h z.1)] at d
        exact cell_keep (R.slots j) (nea j h) b d
    have e' : CellOf H σ[k]? (ρ.at k) b := by
      by_cases h : k = i
      · subst h
        rw [if_pos ⟨rfl, hi⟩] at e
        exact cl b e
      · rw [if_neg (fun z => h z.1)] at e
        exact cell_keep (R.slots k) (nea k h) b e
    exact R.apart j k b d' e'
/-- the list of name i, written -/
theorem Rel.mutL (R : Rel K mg τ H0 G0 G H σ ρ n) {i : Nat} {a : Addr} {ds ds' : List D} {vs' : List V} (hs : ρ.at i = .ow ds) (e : σ[i]? = some (some (.ref a))) (r : Reps K mg τ G vs' ds') :
    Rel K mg τ H0 G0 G (upd H a (.lst vs')) σ (ρ.set i (.ow ds')) n :=
  R.mut (i := i) (a := a) (by rw [hs]; exact e) ⟨a, vs', e, upd_same, r⟩ fun b c => by rw [hs]; exact c
theorem Rel.ow (R : Rel K mg τ H0 G0 G H σ ρ n) {i : Nat} {ds : List D} (hs : ρ.at i = .ow ds) : ∃ a vs, σ[i]? = some (some (.ref a)) ∧ H a = some (.lst vs) ∧ Reps K mg τ G vs ds := by
  have := R.slots i
  rw [hs] at this
  exact this
theorem Rel.ow2 (R : Rel K mg τ H0 G0 G H σ ρ n) {i : Nat} {dss : List (List D)} (hs : ρ.at i = .ow2 dss) : ∃ (a : Addr) (bs : List Addr), σ[i]? = some (some (.ref a)) ∧ H a = some (.lst (bs.map V.ref)) ∧ bs.Nodup ∧ a ∉ bs ∧ Rows2 K mg τ G H bs dss := by
  have := R.slots i
  rw [hs] at this
  exact this
/-- the town's list grows -/
theorem Rel.town1 (R : Rel K mg τ H0 G0 G H σ ρ n) {a : Addr} (e : τ = some a) : Rel K mg τ H0 G0 G (upd H a (.lst (List.replicate (n + 1) (.int 0)))) σ ρ (n + 1) := by
  have nc : ∀ j b, CellOf H σ[j]? (ρ.at j) b → upd H a (.lst (List.replicate (n + 1) (.int 0))) b = H b := fun j b c => upd_ne fun z => (R.cell j b c).2.2 (by rw [e, z])
  refine ⟨⟨fun b q h nt => ?_, R.step.sub, R.step.new, fun b u h => ?_, R.nt⟩, fun b h => ?_, R.len, fun j => slot_keep (R.slots j) (nc j), fun j b c => R.cell j b (cell_keep (R.slots j) (nc j) b c), fun j k b c d => R.apart j k b (cell_keep (R.slots j) (nc j) b c) (cell_keep (R.slots k) (nc k) b d)⟩
  · rw [upd_ne (fun z => nt (by rw [z, e]))]
    exact R.step.keep b q h nt
  · rw [upd_ne (fun z => by rw [z, R.nt a e] at h; cases h)]
    exact R.le b u h
  · rw [e] at h
    cases h
    exact upd_same
theorem repK_ne : ∀ {kvs : List (Key × V)} {ds : List (D × D)}, RepK K mg τ G kvs ds → ∀ p ∈ ds, p.1 ≠ .none
  | _, _, .nil, _, h => nomatch h
  | _, _, .cons (k := k) _ r, p, h => by
    rcases List.mem_cons.mp h with e | h
    · rw [e]
      cases k <;> exact fun z => by cases z
    · exact repK_ne r p h
theorem repT_ne : ∀ {kvs : List (List Key × V)} {ds : List (D × D)}, RepT K mg τ G kvs ds → ∀ p ∈ ds, p.1 ≠ .none
  | _, _, .nil, _, h => nomatch h
  | _, _, .cons (k := k) _ r, p, h => by
    rcases List.mem_cons.mp h with e | h
    · rw [e]
      exact fun z => by cases z
    · exact repT_ne r p h
theorem town_inv {v : V} (h : Rep K mg τ G v townD) : ∃ a, v = .ref a ∧ τ = some a := by
  unfold townD at h
  generalize e : PyData.dict [(.none, .none)] = d at h
  cases h with
  | town h => exact ⟨_, rfl, h⟩
  | dk _ r =>
    cases e
    exact absurd rfl (repK_ne r _ List.mem_cons_self)
  | dt _ r =>
    cases e
    exact absurd rfl (repT_ne r _ List.mem_cons_self)
  | scr _ => unfold scrD at e; cases e
  | exc _ _ => unfold excD at e; cases e
  | _ => cases e
end

def isTown : D → Bool
  | .dict [(.none, .none)] => true
  | _ => false
theorem isTown_eq {d : D} (h : isTown d = true) : d = townD := by
  unfold isTown at h
  split at h
  · rfl
  · cases h
def bump : M Unit := fun n => if n < sizeLine then .ok () (n + 1) else .bad
def sTown (i : Nat) : MS := fun ρ => match ρ.at i with
  | .fz d => do need (isTown d); bump; pure (ρ, .nx)
  | _ => bad
def sApp (i : Nat) (f : Mi.Env → M D) : MS := fun ρ => match ρ.at i with
  | .ow ds => do let d ← f ρ; need (decide (ds.length < sizeLine)); pure (ρ.set i (.ow (ds ++ [d])), .nx)
  | _ => bad
def asL : D → Option (List D)
  | .list es => some es
  | _ => none
def optI : D → Option Int
  | .int k => some k
  | _ => none
def asP : D → Option (D × D)
  | .tuple [a, b] => some (a, b)
  | _ => none
def sExt (i : Nat) (f : Mi.Env → M D) : MS := fun ρ => match ρ.at i with
  | .ow ds => do let d ← f ρ; let es ← ofOpt (asL d); need (decide (ds.length + es.length ≤ sizeLine)); pure (ρ.set i (.ow (ds ++ es)), .nx)
  | _ => bad
/-- rows.append(row), both our own: the row is the rows' now -/
def sApp2 (i j : Nat) : MS := fun ρ => match ρ.at i, ρ.at j with
  | .ow2 dss, .ow ds => do need (decide (dss.length < sizeLine)); pure ((ρ.set j .no).set i (.ow2 (dss ++ [ds])), .nx)
  | _, _ => bad
/-- x[fj] = d -/
def putI (i : Nat) (fj : Mi.Env → M D) (d : D) : Mi.Env → M Mi.Env := fun ρ => match ρ.at i with
  | .ow ds => do let j ← fj ρ; let k ← ofOpt (optI j); let m ← ofOpt (ixN ds.length k); pure (ρ.set i (.ow (ds.set m d)))
  | _ => bad
def sPut (i : Nat) (fj fe : Mi.Env → M D) : MS := fun ρ => do let d ← fe ρ; let ρ' ← putI i fj d ρ; pure (ρ', .nx)
/-- x[a], x[b] = a pair -/
def sPutP (i : Nat) (fa fb fe : Mi.Env → M D) : MS := fun ρ => do
  let d ← fe ρ
  let p ← ofOpt (asP d)
  let ρ1 ← putI i fa p.1 ρ
  let ρ2 ← putI i fb p.2 ρ1
  pure (ρ2, .nx)
/-- x[a][b] = e -/
def put2 (i : Nat) (fa fb : Mi.Env → M D) (d : D) : Mi.Env → M Mi.Env := fun ρ => match ρ.at i with
  | .ow2 dss => do
    let a ← fa ρ
    let k ← ofOpt (optI a)
    let m ← ofOpt (ixN dss.length k)
    let ds ← ofOpt dss[m]?
    let b ← fb ρ
    let k2 ← ofOpt (optI b)
    let m2 ← ofOpt (ixN ds.length k2)
    pure (ρ.set i (.ow2 (dss.set m (ds.set m2 d))))
  | _ => bad
def sPut2 (i : Nat) (fa fb fe : Mi.Env → M D) : MS := fun ρ => do let d ← fe ρ; let ρ' ← put2 i fa fb d ρ; pure (ρ', .nx)
section
variable {X : Cx} {E : XK} {pos cpos apos p2 : Pos} {e ea eb : Expr} {i j : Nat} {fe fa fb : Mi.Env → M D} {x : Str}
theorem s_town {k : Nat} {spos : Pos} (hv : PE X (.Name x p2) (tVar i)) (hbase : attributeBase (.Name x p2) "append" X.env (eval (.Name x p2) X.env) = eval (.Name x p2) X.env := by rfl) (hline : (apos.endLine == cpos.line) = true := by rfl)
    (hs : swapsWith (.Call (.Attribute (.Name x p2) "append" apos) [.Constant (.int 0) k pos] [] cpos) none spos.line X.env = pure false := by rfl) :
    PS X (.Expr (.Call (.Attribute (.Name x p2) "append" apos) [.Constant (.int 0) k pos] [] cpos) spos) (cS X.K X.mg E (sTown i)) :=
  ps_mono (ps_expr (pe_bm (cpos := cpos) PySem.F.plainAttrs_list PySem.F.slot_list_append PySem.F.type_list_append mt_append hv (pa_cons pe_int pa_nil) hbase (hline := hline)) hs) fun Dn σ H ⟨τ, H0, G0, G, ρ, n, R, h⟩ => by
    unfold sTown at h
    have ok := R.slots i
    cases q : ρ.at i with
    | fz d =>
      rw [q] at ok h
      obtain ⟨v, e, r⟩ := ok
      obtain ⟨ht, h⟩ := PostS.need h
      rw [isTown_eq ht] at r
      obtain ⟨a, rfl, ht⟩ := town_inv r
      have h : PostS X.K X.mg τ H0 G0 G E (M.bnd bump (fun _ => pure (ρ, .nx)) n) Dn := h
      unfold M.bnd bump at h
      by_cases hz : n < sizeLine
      · rw [if_pos hz] at h
        refine ⟨_, e, .inl ⟨rfl, _, .inl (.inl (R.town a ht))⟩, ?_⟩
        refine ⟨a, _, .int 0, rfl, rfl, R.town a ht, by rw [List.length_replicate]; exact hz, ?_⟩
        rw [show List.replicate n (V.int 0) ++ [V.int 0] = List.replicate (n + 1) (V.int 0) from List.replicate_succ'.symm]
        exact h σ _ G (R.town1 ht) fun _ _ e => e
      · rw [if_neg hz] at h
        exact h.elim
    | _ =>
      rw [q] at h
      exact (show False from h).elim
theorem s_app (hv : PE X (.Name x p2) (tVar i)) (he : PE X e (cT X.K X.mg (kE E) fe)) (hbase : attributeBase (.Name x p2) "append" X.env (eval (.Name x p2) X.env) = eval (.Name x p2) X.env := by rfl)
    (hfew : ((backTo cpos (starEach (e :: []) X.env)).all (fun x => !x.1) && (backToKw cpos (keywordEach [] X.env)).all (fun x => x.1.isSome)
      && decide ((e :: []).length + ([] : List Keyword).length + (if ([] : List Keyword).isEmpty then 0 else 1) < 30)) = true := by rfl)
    (hline : (apos.endLine == cpos.line) = true := by rfl) (hs1 : starEach (e :: []) X.env = (false, eval e X.env) :: starEach [] X.env := by rfl)
    (hs : swapsWith (.Call (.Attribute (.Name x p2) "append" apos) [e] [] cpos) none pos.line X.env = pure false := by rfl) :
    PS X (.Expr (.Call (.Attribute (.Name x p2) "append" apos) [e] [] cpos) pos) (cS X.K X.mg E (sApp i fe)) :=
  ps_mono (ps_expr (pe_bm (cpos := cpos) PySem.F.plainAttrs_list PySem.F.slot_list_append PySem.F.type_list_append mt_append hv (pa_cons he pa_nil hs1) hbase hfew hline hs1) hs) fun Dn σ H ⟨τ, H0, G0, G, ρ, n, R, h⟩ => by
    unfold sApp at h
    cases q : ρ.at i with
    | ow ds =>
      rw [q] at h
      obtain ⟨a, vs, e1, ha, ra⟩ := R.ow q
      refine ⟨_, e1, .inl ⟨rfl, _, .inl (.inl ha)⟩, τ, H0, G0, G, ρ, n, R, Post.mono (fun v H1 ⟨d, n1, G1, R1, s, r, h1⟩ => ?_) (PostS.expr (rep := Rep X.K X.mg τ) R h)⟩
      obtain ⟨hz, h2⟩ := PostS.need h1
      obtain ⟨a1, vs1, e2, ha1, ra1⟩ := R1.ow q
      rw [e1] at e2
      cases e2
      refine ⟨a, vs1, v, rfl, rfl, ha1, by rw [ra1.length]; exact of_decide_eq_true hz, ?_⟩
      exact PostS.ret h2 (R1.mutL q e1 (ra1.append (.one r)))
    | _ =>
      rw [q] at h
      exact (show False from h).elim
theorem asL_eq {d : D} {es : List D} (h : asL d = some es) : d = .list es := by
  unfold asL at h
  split at h <;> cases h
  rfl
theorem optI_eq {d : D} {k : Int} (h : optI d = some k) : d = .int k := by
  unfold optI at h
  split at h <;> cases h
  rfl
theorem asP_eq {d : D} {p : D × D} (h : asP d = some p) : d = .tuple [p.1, p.2] := by
  unfold asP at h
  split at h <;> cases h
  rfl
theorem rep_int {K : PySem.W.Frag} {mg : Str → Option Value} {τ : Option Addr} {G : Hp} {v : V} {k : Int} (h : Rep K mg τ G v (.int k)) : v = .int k := by cases h; rfl
theorem s_ext (hv : PE X (.Name x p2) (tVar i)) (he : PE X e (cT X.K X.mg (kE E) fe)) (hbase : attributeBase (.Name x p2) "extend" X.env (eval (.Name x p2) X.env) = eval (.Name x p2) X.env := by rfl)
    (hfew : ((backTo cpos (starEach (e :: []) X.env)).all (fun x => !x.1) && (backToKw cpos (keywordEach [] X.env)).all (fun x => x.1.isSome)
      && decide ((e :: []).length + ([] : List Keyword).length + (if ([] : List Keyword).isEmpty then 0 else 1) < 30)) = true := by rfl)
    (hline : (apos.endLine == cpos.line) = true := by rfl) (hs1 : starEach (e :: []) X.env = (false, eval e X.env) :: starEach [] X.env := by rfl)
    (hs : swapsWith (.Call (.Attribute (.Name x p2) "extend" apos) [e] [] cpos) none pos.line X.env = pure false := by rfl) :
    PS X (.Expr (.Call (.Attribute (.Name x p2) "extend" apos) [e] [] cpos) pos) (cS X.K X.mg E (sExt i fe)) :=
  ps_mono (ps_expr (pe_bm (cpos := cpos) PySem.F.plainAttrs_list PySem.F.slot_list_extend PySem.F.type_list_extend mt_extend hv (pa_cons he pa_nil hs1) hbase hfew hline hs1) hs) fun Dn σ H ⟨τ, H0, G0, G, ρ, n, R, h⟩ => by
    unfold sExt at h
    cases q : ρ.at i with
    | ow ds =>
      rw [q] at h
      obtain ⟨a, vs, e1, ha, ra⟩ := R.ow q
      refine ⟨_, e1, .inl ⟨rfl, _, .inl (.inl ha)⟩, τ, H0, G0, G, ρ, n, R, Post.mono (fun v H1 ⟨d, n1, G1, R1, s, r, h1⟩ => ?_) (PostS.expr (rep := Rep X.K X.mg τ) R h)⟩
      obtain ⟨es, ed, h2⟩ := PostS.opt h1
      obtain ⟨hz, h3⟩ := PostS.need h2
      rw [asL_eq ed] at r
      obtain ⟨a1, vs1, e2, ha1, ra1⟩ := R1.ow q
      rw [e1] at e2
      cases e2
      cases r with
      | lst hb rb =>
        refine ⟨a, _, vs1, _, rfl, rfl, ha1, R1.le.list hb, by rw [ra1.length, rb.length]; exact of_decide_eq_true hz, ?_⟩
        exact PostS.ret h3 (R1.mutL q e1 (ra1.append rb))
    | _ =>
      rw [q] at h
      exact (show False from h).elim
/-- x[e] = v, by the slot -/
theorem put_of {τ : Option Addr} {H0 G0 G H : Hp} {σ : L2.St} {ρ : Mi.Env} {n : Nat} {v : V} {d : D} {g : Mi.Env → M (Mi.Env × Fl)} {Dn : Ends} {Q : Hp → Prop} (R : Rel X.K X.mg τ H0 G0 G H σ ρ n) (r : Rep X.K X.mg τ G v d) (h : PostS X.K X.mg τ H0 G0 G E ((putI i fa d ρ >>= g) n) Dn)
    (k : ∀ ρ1 n1 G1 H1, Rel X.K X.mg τ H0 G0 G1 H1 σ ρ1 n1 → (∀ b u, G b = some u → G1 b = some u) → PostS X.K X.mg τ H0 G0 G1 E (g ρ1 n1) Dn → Q H1) :
    tVar i σ H fun o H1 => cT X.K X.mg (kE E) fa σ H1 fun j H2 => rSetL o j v H2 Q := by
  unfold putI at h
  cases q : ρ.at i with
  | ow ds =>
    rw [q] at h
    have h : PostS X.K X.mg τ H0 G0 G E (((fa ρ >>= fun j => ofOpt (optI j) >>= fun k => ofOpt (ixN ds.length k) >>= fun m => pure (ρ.set i (.ow (ds.set m d)))) >>= g) n) Dn := h
    rw [bnd_bnd] at h
    obtain ⟨a, vs, e1, ha, ra⟩ := R.ow q
    refine ⟨_, e1, τ, H0, G0, G, ρ, n, R, Post.mono (fun y H1 ⟨dj, n1, G1, R1, s, ry, h1⟩ => ?_) (PostS.expr (rep := Rep X.K X.mg τ) R h)⟩
    rw [bnd_bnd] at h1
    obtain ⟨kk, ek, h2⟩ := PostS.opt h1
    rw [bnd_bnd] at h2
    obtain ⟨m, em, h3⟩ := PostS.opt h2
    rw [optI_eq ek] at ry
    cases rep_int ry
    obtain ⟨a1, vs1, e2, ha1, ra1⟩ := R1.ow q
    rw [e1] at e2
    cases e2
    refine ⟨a, vs1, kk, m, rfl, rfl, ha1, by rw [ra1.length]; exact em, ?_⟩
    exact k _ _ _ _ (R1.mutL q e1 (ra1.set m (r.sub s))) s h3
  | _ =>
    rw [q] at h
    exact (show False from h).elim
theorem s_put (he : PE X e (cT X.K X.mg (kE E) fe)) (hv : PE X (.Name x p2) (tVar i)) (ha : PE X ea (cT X.K X.mg (kE E) fa))
    (has : ∀ v, assign (.Subscript (.Name x p2) ea apos) X.env v = (do
      let ov ← holding [v] (eval (.Name x p2) X.env)
      let iv ← holding [v, ov] (eval ea X.env)
      standAt apos
      holding [v, ov, iv] (setItem ov iv v)
      release [v, ov, iv] []) := by intro _; rfl)
    (hs : swapsWithSole [.Subscript (.Name x p2) ea apos] e pos.line X.env = pure false := by rfl) (hw : swappedStores [.Subscript (.Name x p2) ea apos] e X.env = pure none := by rfl)
    (h1 : (assignEach [.Subscript (.Name x p2) ea apos] X.env).map (·.2) = [assign (.Subscript (.Name x p2) ea apos) X.env] := by rfl) : PS X (.Assign [.Subscript (.Name x p2) ea apos] e pos) (cS X.K X.mg E (sPut i fa fe)) :=
  ps_mono (ps_asg he (pg_sub hv ha set_list has) hs hw h1) fun Dn σ H ⟨τ, H0, G0, G, ρ, n, R, h⟩ => ⟨τ, H0, G0, G, ρ, n, R, Post.mono (fun v H1 ⟨d, n1, G1, R1, s, r, h1⟩ =>
    put_of R1 r h1 fun ρ1 n2 G2 H2 R2 s2 h2 => PostS.ret h2 R2) (PostS.expr (rep := Rep X.K X.mg τ) R h)⟩
theorem s_putP {kt : Nat} {tpos apos' p3 : Pos} (hc : X.calm = true) (he : PE X e (cT X.K X.mg (kE E) fe)) (hv : PE X (.Name x p2) (tVar i)) (hv' : PE X (.Name x p3) (tVar i)) (ha : PE X ea (cT X.K X.mg (kE E) fa)) (hb : PE X eb (cT X.K X.mg (kE E) fb))
    (has : ∀ v, assign (.Subscript (.Name x p2) ea apos) X.env v = (do
      let ov ← holding [v] (eval (.Name x p2) X.env)
      let iv ← holding [v, ov] (eval ea X.env)
      standAt apos
      holding [v, ov, iv] (setItem ov iv v)
      release [v, ov, iv] []) := by intro _; rfl)
    (hbs : ∀ v, assign (.Subscript (.Name x p3) eb apos') X.env v = (do
      let ov ← holding [v] (eval (.Name x p3) X.env)
      let iv ← holding [v, ov] (eval eb X.env)
      standAt apos'
      holding [v, ov, iv] (setItem ov iv v)
      release [v, ov, iv] []) := by intro _; rfl)
    (hs : swapsWithSole [.Tuple [.Subscript (.Name x p2) ea apos, .Subscript (.Name x p3) eb apos'] kt tpos] e pos.line X.env = pure false := by rfl) (hw : swappedStores [.Tuple [.Subscript (.Name x p2) ea apos, .Subscript (.Name x p3) eb apos'] kt tpos] e X.env = pure none := by rfl)
    (h1 : (assignEach [.Tuple [.Subscript (.Name x p2) ea apos, .Subscript (.Name x p3) eb apos'] kt tpos] X.env).map (·.2) = [assign (.Tuple [.Subscript (.Name x p2) ea apos, .Subscript (.Name x p3) eb apos'] kt tpos) X.env] := by rfl)
    (hn : (assignEach [.Subscript (.Name x p2) ea apos, .Subscript (.Name x p3) eb apos'] X.env).length = 2 := by rfl) (hst : (assignEach [.Subscript (.Name x p2) ea apos, .Subscript (.Name x p3) eb apos'] X.env).findIdx? (·.1) = none := by rfl)
    (hh1 : (assignEach (.Subscript (.Name x p2) ea apos :: [.Subscript (.Name x p3) eb apos']) X.env).map (·.2) = assign (.Subscript (.Name x p2) ea apos) X.env :: (assignEach [.Subscript (.Name x p3) eb apos'] X.env).map (·.2) := by rfl)
    (hh2 : (assignEach (.Subscript (.Name x p3) eb apos' :: []) X.env).map (·.2) = assign (.Subscript (.Name x p3) eb apos') X.env :: (assignEach [] X.env).map (·.2) := by rfl) :
    PS X (.Assign [.Tuple [.Subscript (.Name x p2) ea apos, .Subscript (.Name x p3) eb apos'] kt tpos] e pos) (cS X.K X.mg E (sPutP i fa fb fe)) :=
  ps_mono (ps_asg he (pg_tup hc (pgs_cons (pg_sub hv ha set_list has) (pgs_cons (pg_sub hv' hb set_list hbs) pgs_nil hh2) hh1) hn hst) hs hw h1) fun Dn σ H ⟨τ, H0, G0, G, ρ, n, R, h⟩ => ⟨τ, H0, G0, G, ρ, n, R, Post.mono (fun v H1 ⟨d, n1, G1, R1, s, r, h1⟩ => by
    obtain ⟨p, ep, h2⟩ := PostS.opt h1
    rw [asP_eq ep] at r
    cases r with
    | tup hq rq =>
      cases rq with
      | cons r1 rq =>
        cases rq with
        | cons r2 rq =>
          cases rq
          refine ⟨_, _, rfl, sqt_le R1.le hq, rfl, _, _, rfl, ?_⟩
          refine put_of R1 r1 h2 fun ρ1 n2 G2 H2 R2 s2 h3 => ?_
          refine ⟨_, _, rfl, ?_⟩
          exact put_of R2 (r2.sub s2) h3 fun ρ2 n3 G3 H3 R3 s3 h4 => ⟨rfl, PostS.ret h4 R3⟩) (PostS.expr (rep := Rep X.K X.mg τ) R h)⟩
end
end Mi

end

section
set_option Elab.async false
set_option linter.all false
set_option maxRecDepth 100000
set_option maxHeartbeats 4000000
namespace Mi
open PySem PySem.Spec L2
section
variable {K : PySem.W.Frag} {mg : Str → Option Value} {τ : Option Addr} {H0 G0 G G' G1 H H' H1 : Hp} {σ : L2.St} {ρ ρ' : Mi.Env} {n n1 : Nat}
theorem PostS.exprK {α β : Type} {E : XK} {Dn : Ends} {rep : Hp → β → α → Prop} {m : M α} {g : α → M (Mi.Env × Fl)} (R : Rel K mg τ H0 G0 G H σ ρ n) (h : PostS K mg τ H0 G0 G E ((m >>= g) n) Dn) :
    Post mg τ H G E rep (m n) fun x H1 => ∃ a n1 G1, Rel K mg τ H0 G0 G1 H1 σ ρ n1 ∧ Step τ H G H1 G1 ∧ rep G1 x a ∧ PostS K mg τ H0 G0 G1 E (g a n1) Dn := by
  have h' : PostS K mg τ H0 G0 G E (M.bnd m g n) Dn := h
  unfold M.bnd at h'
  cases e : m n with
  | ok a k =>
    rw [e] at h'
    exact fun v H' G' s t p => ⟨a, k, G', R.next s t, s, p, PostS.shift s.sub h'⟩
  | err c k =>
    rw [e] at h'
    exact fun C H' mc kp tw => h' C H' mc (R.step.keep.trans kp) tw
  | bad =>
    rw [e] at h'
    exact h'.elim
theorem Rows2.snoc : ∀ {bs : List Addr} {dss : List (List D)} {b : Addr} {vs : List V} {ds : List D}, Rows2 K mg τ G H bs dss → H b = some (.lst vs) → Reps K mg τ G vs ds → Rows2 K mg τ G H (bs ++ [b]) (dss ++ [ds])
  | _, _, _, _, _, .nil, h, r => .cons h r .nil
  | _, _, _, _, _, .cons h' r' q, h, r => .cons h' r' (q.snoc h r)
theorem Rows2.len : ∀ {bs : List Addr} {dss : List (List D)}, Rows2 K mg τ G H bs dss → bs.length = dss.length
  | _, _, .nil => rfl
  | _, _, .cons _ _ q => congrArg Nat.succ q.len
theorem Rows2.get : ∀ {bs : List Addr} {dss : List (List D)} {m : Nat} {ds : List D}, Rows2 K mg τ G H bs dss → dss[m]? = some ds → ∃ b vs, bs[m]? = some b ∧ H b = some (.lst vs) ∧ Reps K mg τ G vs ds
  | _, _, 0, _, .cons h r _, e => by
    simp only [List.getElem?_cons_zero, Option.some.injEq] at e
    exact ⟨_, _, rfl, h, e ▸ r⟩
  | _, _, m + 1, _, .cons _ _ q, e => by
    simp only [List.getElem?_cons_succ] at e
    obtain ⟨b, vs, e1, e2, r⟩ := q.get e
    exact ⟨b, vs, by simpa using e1, e2, r⟩
  | _, _, _, _, .nil, e => by simp at e
theorem Rows2.put : ∀ {bs : List Addr} {dss : List (List D)} {m : Nat} {b : Addr} {vs : List V} {ds : List D}, Rows2 K mg τ G H bs dss → bs.Nodup → bs[m]? = some b → Reps K mg τ G vs ds → Rows2 K mg τ G (upd H b (.lst vs)) bs (dss.set m ds)
  | _, _, 0, _, _, _, .cons (b := b') h r q, nd, e, w => by
    simp only [List.getElem?_cons_zero, Option.some.injEq] at e
    subst e
    refine .cons upd_same w (q.sub (fun _ _ z => z) fun c hc o z => ?_)
    rw [upd_ne (fun y : c = b' => (List.nodup_cons.mp nd).1 (y ▸ hc))]
    exact z
  | _, _, m + 1, b, _, _, .cons (b := b') h r q, nd, e, w => by
    simp only [List.getElem?_cons_succ] at e
    refine .cons ?_ r (q.put (List.nodup_cons.mp nd).2 e w)
    rw [upd_ne (fun y : b' = b => (List.nodup_cons.mp nd).1 (y ▸ List.mem_of_getElem? e))]
    exact h
  | _, _, _, _, _, _, .nil, _, e, _ => by simp at e
theorem Rel.app2 (R : Rel K mg τ H0 G0 G H σ ρ n) {i j : Nat} {a b : Addr} {bs : List Addr} {dss : List (List D)} {ds : List D} (hi : ρ.at i = .ow2 dss) (hj : ρ.at j = .ow ds) (ei : σ[i]? = some (some (.ref a))) (ej : σ[j]? = some (some (.ref b)))
    (ha : H a = some (.lst (bs.map V.ref))) : Rel K mg τ H0 G0 G (upd H a (.lst ((bs ++ [b]).map V.ref))) σ ((ρ.set j .no).set i (.ow2 (dss ++ [ds]))) n := by
  have ok := R.slots i
  rw [hi] at ok
  obtain ⟨a', bs', e, h, nd, nb, rr⟩ := ok
  rw [ei] at e
  cases e
  rw [ha] at h
  cases refs_inj h
  have okj := R.slots j
  rw [hj] at okj
  obtain ⟨b', vs, e, hb, rb⟩ := okj
  rw [ej] at e
  cases e
  have ca : CellOf H σ[i]? (ρ.at i) a := by rw [hi]; exact .inl ei
  have cbs : ∀ c ∈ bs, CellOf H σ[i]? (ρ.at i) c := fun c hc => by rw [hi]; exact .inr ⟨a, bs, ei, ha, hc⟩
  have cb : CellOf H σ[j]? (ρ.at j) b := by rw [hj]; exact ej
  have ij : i ≠ j := fun z => by rw [z, hj] at hi; cases hi
  have ab : a ≠ b := fun z => ij (R.apart i j a ca (z ▸ cb))
  have bbs : b ∉ bs := fun hm => ij (R.apart i j b (cbs b hm) cb)
  obtain ⟨ga, h0, ht⟩ := R.cell i a ca
  have li : i < ρ.length := by
    rcases Nat.lt_or_ge i ρ.length with h | h
    · exact h
    · rw [at_ge h] at hi
      cases hi
  have lj : j < ρ.length := by
    rcases Nat.lt_or_ge j ρ.length with h | h
    · exact h
    · rw [at_ge h] at hj
      cases hj
  have atk : ∀ k, Env.at ((ρ.set j .no).set i (.ow2 (dss ++ [ds]))) k = if k = i then .ow2 (dss ++ [ds]) else if k = j then .no else ρ.at k := fun k => by
    rw [at_set, at_set, List.length_set]
    by_cases h : k = i
    · rw [if_pos ⟨h, li⟩, if_pos h]
    · rw [if_neg (fun z => h z.1), if_neg h]
      by_cases h2 : k = j
      · rw [if_pos ⟨h2, lj⟩, if_pos h2]
      · rw [if_neg (fun z => h2 z.1), if_neg h2]
  have nea : ∀ k, k ≠ i → ∀ c, CellOf H σ[k]? (ρ.at k) c → upd H a (.lst ((bs ++ [b]).map V.ref)) c = H c := fun k hk c d => upd_ne fun z => hk (R.apart k i c d (z ▸ ca))
  have back : ∀ k c, CellOf (upd H a (.lst ((bs ++ [b]).map V.ref))) σ[k]? (Env.at ((ρ.set j .no).set i (.ow2 (dss ++ [ds]))) k) c → (k = i ∧ (CellOf H σ[i]? (ρ.at i) c ∨ c = b)) ∨ (k ≠ i ∧ k ≠ j ∧ CellOf H σ[k]? (ρ.at k) c) := fun k c d => by
    rw [atk] at d
    by_cases h : k = i
    · subst h
      rw [if_pos rfl] at d
      refine .inl ⟨rfl, ?_⟩
      rcases d with d | ⟨r, bs', e, h', hm⟩
      · rw [ei] at d
        cases d
        exact .inl ca
      · rw [ei] at e
        cases e
        rw [upd_same] at h'
        cases refs_inj h'
        rcases List.mem_append.mp hm with hm | hm
        · exact .inl (cbs c hm)
        · exact .inr (by simpa using hm)
    · rw [if_neg h] at d
      by_cases h2 : k = j
      · rw [if_pos h2] at d
        exact d.elim
      · rw [if_neg h2] at d
        exact .inr ⟨h, h2, cell_keep (R.slots k) (nea k h) c d⟩
  refine ⟨⟨fun c q e nt => ?_, R.step.sub, R.step.new, fun c u e => ?_, R.nt⟩, fun c e => ?_, by rw [List.length_set, List.length_set]; exact R.len, fun k => ?_, fun k c d => ?_, fun k l c d e => ?_⟩
  · rw [upd_ne (fun z => by rw [z, h0] at e; cases e)]
    exact R.step.keep c q e nt
  · rw [upd_ne (fun z => by rw [z, ga] at e; cases e)]
    exact R.le c u e
  · rw [upd_ne (fun z => ht (by rw [← z, e]))]
    exact R.town c e
  · rw [atk]
    by_cases h : k = i
    · subst h
      rw [if_pos rfl]
      refine ⟨a, bs ++ [b], ei, upd_same, ?_, fun hm => ?_, ?_⟩
      · rw [List.nodup_append]
        exact ⟨nd, by simp, fun x hx y hy z => bbs (by have : y = b := by simpa using hy
                                                       rw [← this, ← z]; exact hx)⟩
      · rcases List.mem_append.mp hm with hm | hm
        · exact nb hm
        · exact ab (by simpa using hm)
      · refine Rows2.snoc (rr.sub (fun _ _ z => z) fun c hc o z => ?_) ?_ rb
        · rw [upd_ne (fun y : c = a => nb (y ▸ hc))]
          exact z
        · rw [upd_ne (Ne.symm ab)]
          exact hb
    · rw [if_neg h]
      by_cases h2 : k = j
      · rw [if_pos h2]
        exact trivial
      · rw [if_neg h2]
        exact slot_keep (R.slots k) (nea k h)
  · rcases back k c d with ⟨_, h | h⟩ | ⟨_, _, h⟩
    · exact R.cell i c h
    · rw [h]
      exact R.cell j b cb
    · exact R.cell k c h
  · rcases back k c d with ⟨hk, h | h⟩ | ⟨hk, hk2, h⟩ <;> rcases back l c e with ⟨hl, h' | h'⟩ | ⟨hl, hl2, h'⟩
    · rw [hk, hl]
    · rw [hk, hl]
    · exact absurd (R.apart i l c h h') (Ne.symm hl)
    · rw [hk, hl]
    · rw [hk, hl]
    · rw [h] at h'
      exact absurd (R.apart j l b cb h') (Ne.symm hl2)
    · exact absurd (R.apart i k c h' h) (Ne.symm hk)
    · rw [h'] at h
      exact absurd (R.apart j k b cb h) (Ne.symm hk2)
    · exact R.apart k l c h h'
end
section
variable {X : Cx} {E : XK} {pos cpos apos ipos p2 : Pos} {e ea eb : Expr} {i j : Nat} {fe fa fb : Mi.Env → M D} {x : Str}
theorem s_app2 (hv : PE X (.Name x p2) (tVar i)) (he : PE X e (tVar j)) (hbase : attributeBase (.Name x p2) "append" X.env (eval (.Name x p2) X.env) = eval (.Name x p2) X.env := by rfl)
    (hfew : ((backTo cpos (starEach (e :: []) X.env)).all (fun x => !x.1) && (backToKw cpos (keywordEach [] X.env)).all (fun x => x.1.isSome)
      && decide ((e :: []).length + ([] : List Keyword).length + (if ([] : List Keyword).isEmpty then 0 else 1) < 30)) = true := by rfl)
    (hline : (apos.endLine == cpos.line) = true := by rfl) (hs1 : starEach (e :: []) X.env = (false, eval e X.env) :: starEach [] X.env := by rfl)
    (hs : swapsWith (.Call (.Attribute (.Name x p2) "append" apos) [e] [] cpos) none pos.line X.env = pure false := by rfl) :
    PS X (.Expr (.Call (.Attribute (.Name x p2) "append" apos) [e] [] cpos) pos) (cS X.K X.mg E (sApp2 i j)) :=
  ps_mono (ps_expr (pe_bm (cpos := cpos) PySem.F.plainAttrs_list PySem.F.slot_list_append PySem.F.type_list_append mt_append hv (pa_cons he pa_nil hs1) hbase hfew hline hs1) hs) fun Dn σ H ⟨τ, H0, G0, G, ρ, n, R, h⟩ => by
    unfold sApp2 at h
    cases q : ρ.at i with
    | ow2 dss =>
      cases q2 : ρ.at j with
      | ow ds =>
        rw [q, q2] at h
        obtain ⟨a, bs, e1, ha, nd, nb, rr⟩ := R.ow2 q
        obtain ⟨b, vs, e2, hb, rb⟩ := R.ow q2
        obtain ⟨hz, h2⟩ := PostS.need h
        refine ⟨_, e1, .inl ⟨rfl, _, .inl (.inl ha)⟩, _, e2, a, _, .ref b, rfl, rfl, ha, by rw [List.length_map, rr.len]; exact of_decide_eq_true hz, ?_⟩
        have z : bs.map V.ref ++ [V.ref b] = (bs ++ [b]).map V.ref := by rw [List.map_append]; rfl
        rw [z]
        exact h2 σ _ G (R.app2 q q2 e1 e2 ha) fun _ _ e => e
      | _ =>
        rw [q, q2] at h
        exact (show False from h).elim
    | _ =>
      rw [q] at h
      exact (show False from h).elim
theorem s_put2 (he : PE X e (cT X.K X.mg (kE E) fe)) (hv : PE X (.Name x p2) (tVar i)) (ha : PE X ea (cT X.K X.mg (kE E) fa)) (hb : PE X eb (cT X.K X.mg (kE E) fb)) (hix : PlainIx ea)
    (has : ∀ v, assign (.Subscript (.Subscript (.Name x p2) ea ipos) eb apos) X.env v = (do
      let ov ← holding [v] (eval (.Subscript (.Name x p2) ea ipos) X.env)
      let iv ← holding [v, ov] (eval eb X.env)
      standAt apos
      holding [v, ov, iv] (setItem ov iv v)
      release [v, ov, iv] []) := by intro _; rfl)
    (hs : swapsWithSole [.Subscript (.Subscript (.Name x p2) ea ipos) eb apos] e pos.line X.env = pure false := by rfl) (hw : swappedStores [.Subscript (.Subscript (.Name x p2) ea ipos) eb apos] e X.env = pure none := by rfl)
    (h1 : (assignEach [.Subscript (.Subscript (.Name x p2) ea ipos) eb apos] X.env).map (·.2) = [assign (.Subscript (.Subscript (.Name x p2) ea ipos) eb apos) X.env] := by rfl) : PS X (.Assign [.Subscript (.Subscript (.Name x p2) ea ipos) eb apos] e pos) (cS X.K X.mg E (sPut2 i fa fb fe)) :=
  ps_mono (ps_asg he (pg_sub (pe_ix ix_list hv ha hix) hb set_list has) hs hw h1) fun Dn σ H ⟨τ, H0, G0, G, ρ, n, R, h⟩ => ⟨τ, H0, G0, G, ρ, n, R, Post.mono (fun v H1 ⟨d, n1, G1, R1, s, r, h1⟩ => by
    unfold put2 at h1
    cases q : ρ.at i with
    | ow2 dss =>
      rw [q] at h1
      have h1 : PostS X.K X.mg τ H0 G0 G1 E (((fa ρ >>= fun a => ofOpt (optI a) >>= fun k => ofOpt (ixN dss.length k) >>= fun m => ofOpt dss[m]? >>= fun ds => fb ρ >>= fun b => ofOpt (optI b) >>= fun k2 => ofOpt (ixN ds.length k2) >>= fun m2 => pure (ρ.set i (.ow2 (dss.set m (ds.set m2 d))))) >>= fun ρ' => pure (ρ', Fl.nx)) n1) Dn := h1
      rw [bnd_bnd] at h1
      obtain ⟨a, bs, e1, hA, nd, nb, rr⟩ := R1.ow2 q
      refine ⟨_, e1, τ, H0, G0, G1, ρ, n1, R1, Post.mono (fun y H2 ⟨da, n2, G2, R2, s2, ry, h2⟩ => ?_) (PostS.expr (rep := Rep X.K X.mg τ) R1 h1)⟩
      rw [bnd_bnd] at h2
      obtain ⟨k, ek, h2⟩ := PostS.opt h2
      rw [bnd_bnd] at h2
      obtain ⟨m, em, h2⟩ := PostS.opt h2
      rw [bnd_bnd] at h2
      obtain ⟨ds, eds, h2⟩ := PostS.opt h2
      rw [bnd_bnd] at h2
      rw [optI_eq ek] at ry
      cases rep_int ry
      obtain ⟨a2, bs2, e2, hA2, nd2, nb2, rr2⟩ := R2.ow2 q
      rw [e1] at e2
      cases e2
      obtain ⟨b, vs, eb, hb, rb⟩ := rr2.get eds
      refine ⟨a, bs2.map V.ref, k, .ref b, rfl, rfl, .inl (.inl hA2), ?_, ?_⟩
      · unfold L2.atI
        rw [List.length_map, rr2.len, em]
        show (bs2.map V.ref)[m]? = _
        rw [List.getElem?_map, eb]
        rfl
      refine ⟨τ, H0, G0, G2, ρ, n2, R2, Post.mono (fun z H3 ⟨db, n3, G3, R3, s3, rz, h3⟩ => ?_) (PostS.exprK (rep := Rep X.K X.mg τ) R2 h2)⟩
      rw [bnd_bnd] at h3
      obtain ⟨k2, ek2, h3⟩ := PostS.opt h3
      rw [bnd_bnd] at h3
      obtain ⟨m2, em2, h3⟩ := PostS.opt h3
      rw [optI_eq ek2] at rz
      cases rep_int rz
      obtain ⟨a3, bs3, e3, hA3, nd3, nb3, rr3⟩ := R3.ow2 q
      rw [e1] at e3
      cases e3
      have eb' : bs3 = bs2 := by
        have ca : CellOf H2 σ[i]? (ρ.at i) a := by rw [q]; exact .inl e1
        have w := s3.keep a _ hA2 (R2.cell i a ca).2.2
        exact refs_inj (hA3.symm.trans w)
      subst eb'
      obtain ⟨b3, vs3, eb3, hb3, rb3⟩ := rr3.get eds
      rw [eb] at eb3
      cases eb3
      refine ⟨b, vs3, k2, m2, rfl, rfl, hb3, by rw [rb3.length]; exact em2, ?_⟩
      have cb : CellOf H3 σ[i]? (ρ.at i) b := by rw [q]; exact .inr ⟨a, bs3, e1, hA3, List.mem_of_getElem? eb⟩
      refine PostS.ret h3 (R3.mut cb ?_ fun c hc => ?_)
      · have ne : a ≠ b := fun z => nb3 (z ▸ List.mem_of_getElem? eb)
        exact ⟨a, bs3, e1, by rw [upd_ne ne]; exact hA3, nd3, nb3, rr3.put nd3 eb (rb3.set m2 (((r.sub s2)).sub s3.sub))⟩
      · rw [q]
        rcases hc with hc | ⟨r', bs', e', h', hm⟩
        · exact .inl hc
        · rw [e1] at e'
          cases e'
          have ne : a ≠ b := fun z => nb3 (z ▸ List.mem_of_getElem? eb)
          rw [upd_ne ne] at h'
          exact .inr ⟨a, bs', e1, h', hm⟩
    | _ =>
      rw [q] at h1
      exact (show False from h1).elim) (PostS.expr (rep := Rep X.K X.mg τ) R h)⟩
end
end Mi

end

section
set_option Elab.async false
set_option linter.all false
set_option maxRecDepth 100000
set_option maxHeartbeats 4000000
namespace Mi
open PySem PySem.Spec L2

/-! ### defs -/
def startE (L : Nat) (ds : List D) : Mi.Env := ds.map .fz ++ List.replicate (L - ds.length) .no
def outD : Mi.Env × Fl → M D
  | (_, .nx) => pure .none
  | (_, .rt d) => pure d
  | _ => bad
/-- a def's meaning: its body's -/
def run (L : Nat) (body : MS) (ds : List D) : M D := body (startE L ds) >>= outD
/-- what a def promises -/
def spM (K : PySem.W.Frag) (mg : Str → Option Value) (ar : Nat) (m : List D → M D) : Sp := fun vs H Q E => ∃ τ n G ds, ds.length = ar ∧ Le G H ∧ (∀ a, τ = some a → G a = none) ∧ Town τ n H ∧ Reps K mg τ G vs ds ∧ Post mg τ H G E (Rep K mg τ) (m ds n) Q
theorem start_at {L : Nat} {ds : List D} (j : Nat) : (startE L ds).at j = match ds[j]? with
  | some d => .fz d
  | none => .no := by
  unfold startE Env.at
  rw [List.getD_eq_getElem?_getD]
  by_cases h : j < ds.length
  · rw [List.getElem?_append_left (by rw [List.length_map]; exact h), List.getElem?_map, List.getElem?_eq_getElem h]
    rfl
  · rw [List.getElem?_append_right (by rw [List.length_map]; omega), List.getElem?_eq_none (l := ds) (by omega), List.getElem?_replicate]
    split <;> rfl
theorem rel_start {K : PySem.W.Frag} {mg : Str → Option Value} {τ : Option Addr} {G H : Hp} {n : Nat} {N : List Str} {vs : List V} {ds : List D} (l : Le G H) (nt : ∀ a, τ = some a → G a = none) (tw : Town τ n H) (r : Reps K mg τ G vs ds) :
    Rel K mg τ H G G H (L2.start N vs) (startE N.length ds) n where
  step := Step.refl l nt
  town := tw
  len := by
    unfold startE L2.start
    rw [List.length_append, List.length_append, List.length_map, List.length_map, List.length_replicate, List.length_replicate, r.length]
  slots := fun j => by
    rw [start_at]
    cases e : ds[j]? with
    | none => trivial
    | some d =>
      obtain ⟨v, ev, rv⟩ := r.get e
      refine ⟨v, ?_, rv⟩
      unfold L2.start
      have hl : j < vs.length := (List.getElem?_eq_some_iff.mp ev).1
      rw [List.getElem?_append_left (by rw [List.length_map]; exact hl), List.getElem?_map, ev]
      rfl
  cell := fun j a c => by
    rw [start_at] at c
    cases e : ds[j]? with
    | none => rw [e] at c; exact c.elim
    | some d => rw [e] at c; exact c.elim
  apart := fun j k a c d => by
    rw [start_at] at c
    cases e : ds[j]? with
    | none => rw [e] at c; exact c.elim
    | some d => rw [e] at c; exact c.elim
theorem body_start {K : PySem.W.Frag} {mg : Str → Option Value} {E : XK} {body : MS} {N : List Str} {ar : Nat} {vs : List V} {H : Hp} {Q : VK} (h : spM K mg ar (run N.length body) vs H Q E) :
    cS K mg E body { nx := fun _ H' => Q .non H', rt := Q } (L2.start N vs) H := by
  obtain ⟨τ, n, G, ds, _, l, nt, tw, r, h⟩ := h
  refine ⟨τ, H, G, G, _, n, rel_start l nt tw r, ?_⟩
  have h' : Post mg τ H G E (Rep K mg τ) (M.bnd (body (startE N.length ds)) outD n) Q := h
  unfold M.bnd at h'
  cases e : body (startE N.length ds) n with
  | ok p k =>
    rw [e] at h'
    obtain ⟨ρ', fl⟩ := p
    cases fl with
    | nx => exact fun σ' H' G' R s => h' .non H' G' R.step R.town .non
    | rt d => exact fun σ' H' G' R s v r => h' v H' G' R.step R.town r
    | bk => exact (show False from h').elim
    | ct => exact (show False from h').elim
  | err c k =>
    rw [e] at h'
    exact h'
  | bad =>
    rw [e] at h'
    exact h'.elim
section
variable {P : Program} {w : World} {K : PySem.W.Frag} {mg : Str → Option Value} {base : Heap}
/-- a def keeps what its body means -/
theorem fn_body {x qual : Str} {st : Stmt} {f : Addr} {fd : FuncData} {N ps : List Str} {k ar : Nat} {body : MS} (F : Fun K x qual st f fd) (S : FnScope N ps (defScope st)) (har : ps.length = ar)
    (hb : ∀ (cdv : Value) (A : Around) (outer : List PySem.Env) (s : Shared) (H : Hp) (E : XK), Room k (A.deeper (PyProof.Rows.envOfC qual (defScope st) s.heap.objs.size f cdv)) →
      PSs (cxOf (L2.CX P w) P w K mg base N qual (defScope st) f cdv A outer s H E) (defBody st) (cS K mg E body)) : FnOk P w K mg base (L2.CX P w) (k + 1) f fd ps (spM K mg ar (run N.length body)) :=
  F.okX S (fun vs H Q E ⟨τ, n, G, ds, hl, _, _, _, r, _⟩ => by rw [r.length, hl, har]) fun cdv A outer s H vs Q E hr h => ⟨_, hb cdv A outer s H E hr, body_start h⟩
/-- of what never comes -/
theorem fn_bad {f : Addr} {fd : FuncData} {ps : List Str} {k ar : Nat} : FnOk P w K mg base (L2.CX P w) k f fd ps (spM K mg ar fun _ => bad) where
  len := fun vs H Q E ⟨_, _, _, _, _, _, _, _, _, h⟩ => h.elim
  run := fun _ _ _ _ _ _ _ _ _ _ _ _ _ ⟨_, _, _, _, _, _, _, _, _, h⟩ => h.elim
end
/-- f(..) -/
def eFn (ar : Nat) (m : List D → M D) (fs : Mi.Env → M (List D)) : Mi.Env → M D := fun ρ => do let ds ← fs ρ; need (decide (ds.length = ar)); m ds
section
variable {X : Cx} {k ar : Nat} {f : Addr} {fd : FuncData} {ps : List Str} {W : WX} {x : Str} {p pos : Pos} {e : Expr} {es : List Expr} {m : List D → M D} {fs : Mi.Env → M (List D)}
theorem x_fn (tk : Takes X W) (F : FnOk X.prog X.w X.K X.mg X.base (L2.CX X.prog X.w) k f fd ps (spM X.K X.mg ar m)) (hr : Room k X.A) (hm : X.mg x = some (.ref f)) (hk : PySem.W.keepIn X.K (.ref f) = true) (hb : Binds X.K fd ps [])
    (ha : PA X (e :: es) (cA X.K X.mg (WE W) fs)) (hg : Gl X x := by rfl) (hdb : (x == ("__debug__" : Str)) = false := by decide) (he : starEach (e :: es) X.env = (false, eval e X.env) :: starEach es X.env := by rfl) (hpl : (backTo pos (starEach es X.env)).any (·.1) = false := by rfl) :
    PE X (.Call (.Name x p) (e :: es) [] pos) (cT X.K X.mg (WE W) (eFn ar m fs)) :=
  pe_mono (pe_callS F hr hg hm hk hb (fun σ => passAt tk σ) ha hdb he hpl) fun σ H Q ⟨τ, H0, G0, G, ρ, n, R, h⟩ => ⟨τ, H0, G0, G, ρ, n, R, Post.mono (fun vs H1 ⟨ds, n1, G1, st, tw, r, h1⟩ => by
    obtain ⟨hz, h2⟩ := Post.need h1
    exact ⟨τ, n1, G1, ds, of_decide_eq_true hz, st.le, st.nt, tw, r, h2⟩) (Post.bind (rep := Reps X.K X.mg τ) h)⟩
end

/-! ### the law itself: first the town's list is laid -/
/-- what the law's body comes to behind its first line; i is the town's name -/
def lawOk (L i : Nat) (body : MS) (ns : List Int) : Prop := ∃ n, (body ((startE L [scrD ns]).set i (.fz townD)) >>= outD) 0 = .ok (.bool true) n
def spLaw (K : PySem.W.Frag) (L i : Nat) (body : MS) : Sp := fun vs H Q _ => ∃ (a : Addr) (ns : List Int), vs = [.ref a] ∧ Only H ∧ SqL K H a (ns.map V.int) ∧ lawOk L i body ns ∧ i < L ∧ ∀ H', Q (.bl true) H'
section
variable {P : Program} {w : World} {K : PySem.W.Frag} {mg : Str → Option Value} {base : Heap}
theorem rel_town {N : List Str} {a p : Addr} {ns : List Int} {H : Hp} {i : Nat} (hO : Only H) (hS : SqL K H a (ns.map V.int)) (hp : H p = none) (hi : i < N.length) :
    Rel K mg (some p) H H H (upd H p (.lst [])) ((L2.start N [.ref a]).set i (some (.ref p))) ((startE N.length [scrD ns]).set i (.fz townD)) 0 := by
  have le : Le H (upd H p (.lst [])) := fun b u e => .inl (by rw [upd_ne (ne_of_none e hp)]; exact e)
  have R0 : Rel K mg (some p) H H H (upd H p (.lst [])) (L2.start N [.ref a]) (startE N.length [scrD ns]) 0 := {
    step := ⟨fun b o e _ => by rw [upd_ne (ne_of_none e hp)]; exact e, fun _ _ e => e, fun _ _ e => .inl e, le, fun b e => by cases e; exact hp⟩
    town := fun b e => by cases e; exact upd_same
    len := by
      unfold startE L2.start
      rw [List.length_append, List.length_append, List.length_map, List.length_map, List.length_replicate, List.length_replicate]
      rfl
    slots := fun j => by
      rw [start_at]
      cases j with
      | zero =>
        refine ⟨.ref a, rfl, .scr ?_⟩
        rcases hS with (q | ⟨o, q⟩) | q
        · rcases hO a with z | ⟨o, xs, z⟩
          · rw [z] at q; cases q
          · rw [z] at q; cases q
        · exact .inl ⟨o, q⟩
        · exact .inr (.inr q)
      | succ j => trivial
    cell := fun j b c => by
      rw [start_at] at c
      cases j with
      | zero => exact c.elim
      | succ j => exact c.elim
    apart := fun j k b c d => by
      rw [start_at] at c
      cases j with
      | zero => exact c.elim
      | succ j => exact c.elim }
  exact R0.set i (.town rfl)
theorem law_body {x qual : Str} {st : Stmt} {sts : List Stmt} {f : Addr} {fd : FuncData} {N : List Str} {sc : Str} {k i : Nat} {body : MS} {y : Str} {py pl pos : Pos} (F : Fun K x qual st f fd) (S : FnScope N [sc] (defScope st)) (hbd : defBody st = .Assign [.Name y py] (.List [] pl) pos :: sts)
    (hN : N.Nodup) (hy : N[i]? = some y)
    (hs : ∀ (cdv : Value) (A : Around) (outer : List PySem.Env) (s : Shared) (H : Hp) (E : XK), PS (cxOf (L2.CX P w) P w K mg base N qual (defScope st) f cdv A outer s H E) (.Assign [.Name y py] (.List [] pl) pos) (tAsg (fun _ H Q => ∀ p, H p = none → Q (.ref p) (upd H p (.lst []))) (gName i)))
    (hb : ∀ (cdv : Value) (A : Around) (outer : List PySem.Env) (s : Shared) (H : Hp) (E : XK), Room k (A.deeper (PyProof.Rows.envOfC qual (defScope st) s.heap.objs.size f cdv)) →
      PSs (cxOf (L2.CX P w) P w K mg base N qual (defScope st) f cdv A outer s H E) sts (cS K mg E body)) : FnOk P w K mg base (L2.CX P w) (k + 1) f fd [sc] (spLaw K N.length i body) :=
  F.okX S (fun vs H Q E ⟨a, ns, e, _⟩ => by rw [e]; rfl) fun cdv A outer s H vs Q E hr ⟨a, ns, e, hO, hS, ⟨n, hok⟩, hi, hq⟩ => by
    subst e
    rw [hbd]
    refine ⟨_, pss_cons (hs cdv A outer s H E) (hb cdv A outer s H E hr), ?_⟩
    intro p hp
    refine ⟨some p, H, H, H, _, 0, rel_town (N := N) hO hS hp hi, ?_⟩
    have h' : M.bnd (body ((startE N.length [scrD ns]).set i (.fz townD))) outD 0 = .ok (.bool true) n := hok
    unfold M.bnd at h'
    cases e : body ((startE N.length [scrD ns]).set i (.fz townD)) 0 with
    | ok q k =>
      rw [e] at h'
      obtain ⟨ρ', fl⟩ := q
      cases fl with
      | nx => cases h'
      | rt d =>
        cases h'
        exact fun σ' H' G' R s v r => by
          cases r
          exact hq H'
      | bk => cases h'
      | ct => cases h'
    | err c k => rw [e] at h'; cases h'
    | bad => rw [e] at h'; cases h'
end
end Mi

end

section
set_option Elab.async false
set_option linter.all false
set_option maxRecDepth 100000
set_option maxHeartbeats 4000000
namespace Mi
open PySem PySem.Spec L2

/-! ### try: .. except C as n: z = n; the caught object is kept -/
theorem excO_ok {P : Program} {w : World} {H : Hp} {h : Heap} {a : Addr} {cls : Value} {oe : Obj} {vs : Array Value} (e : h.get? a = some oe) (z : Zc cls none oe) (d : oe.data = .fields vs) : ObjOk P w H h a (ExcO cls a) :=
  ⟨⟨oe, e, z.1, z.2, vs, d⟩, ⟨oe, e⟩, fun _ _ ⟨o, q, r1, r2, v, r3⟩ k => ⟨o, k o q, r1, r2, v, r3⟩⟩
section
variable {X : Cx} {pins : List (Addr × Obj)} {σ : L2.St} {H : Hp} {s : Shared}
/-- an object that came since the entry, of nobody's, is told of -/
theorem track (I : Inv X pins σ H s) {a : Addr} {cls : Value} {oe : Obj} {vs : Array Value} (e : s.heap.get? a = some oe) (z : Zc cls none oe) (d : oe.data = .fields vs) (na : H a = none) (n0 : X.s_0.heap.get? a = none) (nL : a ≠ X.env.locals)
    (np : ∀ p ∈ X.pn ++ pins, p.1 ≠ a) : Inv X pins σ (upd H a (ExcO cls a)) s := by
  have ne0 : ∀ b o, X.s_0.heap.get? b = some o → b ≠ a := fun b o q w => by
    rw [w, n0] at q
    cases q
  have neH : ∀ b u, H b = some u → b ≠ a := fun b u q => ne_of_none q na
  refine ⟨I.ok, I.os, I.bare, ⟨I.base.keep, I.base.slot, fun b o q n hx => ?_, I.base.there, fun b xs q => ?_, fun b o u q => ?_, fun b ps q => ?_⟩, I.loc, I.cell, ?_, fun y c q => ?_, fun p hp => ?_, fun b u q => ?_, I.len⟩
  · rw [upd_ne (ne0 b o q)]
    exact I.base.free b o q n hx
  · have w := I.base.tups b xs q
    rw [upd_ne (neH b _ w)]
    exact w
  · have w := I.base.frzs b o u q
    rw [upd_ne (neH b _ w)]
    exact w
  · obtain ⟨m, w⟩ := I.base.tbls b ps q
    exact ⟨m, by rw [upd_ne (neH b _ w)]; exact w⟩
  · rw [upd_ne (Ne.symm nL)]
    exact I.free
  · have hca : c ≠ a := fun w => by
      obtain ⟨v, o, ho, hd⟩ := I.cell y c q
      rw [w, e] at ho
      cases ho
      rw [d] at hd
      cases hd
    rw [upd_ne hca]
    exact I.freeC y c q
  · obtain ⟨h1, h2, h3⟩ := I.pin p hp
    exact ⟨h1, by rw [upd_ne (np p hp)]; exact h2, h3⟩
  · by_cases hb : b = a
    · subst hb
      rw [upd_same] at q
      cases q
      exact excO_ok e z d
    · rw [upd_ne hb] at q
      exact (I.hok b u q).stay (fun c v _ r => r) (fun c r => by rw [upd_ne (neH c _ r)]; exact r) fun c xs r => by rw [upd_ne (neH c _ r)]; exact r
end
/-- what is wished of an error in the try's body -/
def wKeep (K : PySem.W.Frag) (c : Value) (i j : Nat) (D : Ends) : WX := fun cls d σ H => PySem.W.exmOne K cls c = some true ∧ d = none ∧ ∀ a, H a = none → D.nx (((σ.set i (some (.ref a))).set j (some (.ref a))).set i none) (upd H a (ExcO cls a))
section
variable {X : Cx} {x n z : Str} {c : Value} {i j : Nat} {body : List Stmt} {np pz pe pa pos pos' : Pos} {tb : WX → TS}
theorem ps_try_keep (hs : X.stack = X.env :: X.outer) (hf : X.env.frame = some X.env.locals) (hex : X.ex = []) (hN : X.N.Nodup) (hi : X.N[i]? = some n) (hln : X.env.kindOf n = some .local) (hc : Names X x c)
    (hsu : ∀ (a : Addr) (pn : List (Addr × Obj)), PSs (X.suite a pn) [.Assign [.Name z pz] (.Name n pe) pa] (tAsg (tVar i) (gName j)))
    (hb : ∀ (W : WX) (pn : List (Addr × Obj)) (xe : Value → Shared → Prop), Takes (X.tr pn xe) W → PassesOwn (model X.prog X.w) X.A X.env xe → PSs (X.tr pn xe) body (tb W)) :
    PS X (.Try body [.ExceptHandler (some (.Name x np)) (some n) [.Assign [.Name z pz] (.Name n pe) pa] pos'] [] [] pos) (fun D σ H => tb (wKeep X.K c i j D) D σ H) := by
  refine ⟨fun pins s σ H D I h => wpAny_Try_except ?_⟩
  have ok := I.ok
  have hfr : X.A.frames = some (X.env :: X.outer) := by rw [ok.frames, hs]
  refine wpAny_mono ((hb (wKeep X.K c i j D) (X.pn ++ pins) (fun e s₁ => wpAny (model X.prog X.w) X.A (noteFrame e X.env) (fun _ s₂ => wpAny (model X.prog X.w) X.A (setFlight e none) (fun _ s₃ =>
    wpAny (model X.prog X.w) X.A (handleBy e X.env [.ExceptHandler (some (.Name x np)) (some n) [.Assign [.Name z pz] (.Name n pe) pa] pos']) (SP X pins D) X.xe s₃) X.xe s₂) X.xe s₁) ?_ PassesOwn.looking).run [] s σ H D (I.toTry _) h) (fun f s1 hsp => ?_) (fun e s1 he => he)
  · rintro u s' ⟨a, B, sI, pins', σ', H', cls, d, rfl, J', nb, up, sky, na, os, ag, hx, rfl, hq⟩
    have J : Inv X pins σ' H' sI := J'.ofTry ok
    have sky' : Sky B (X.env :: X.outer) a (Zc cls none) X.env.locals s'.heap := by rw [← hs]; exact sky
    show wpAny (model X.prog X.w) X.A (noteFrame (.ref a) X.env) _ _ _
    refine Sky.land Zc.steady hfr hf sky' fun h3 fl3 up3 => ?_
    have J3 : Inv X pins σ' H' { s' with heap := h3 } := J.landed nb fl3.1 (up.trans up3) os ag
    obtain ⟨oe3, vs3, he3, hz3, hd3⟩ := fl3.there
    -- the object is none of the frames', and came within the try
    have away : ∀ {hh : Heap} {o : Obj} {vs : Array Value}, hh.FunFrames B (X.env :: X.outer) → hh.get? a = some o → o.data = .fields vs → a ∉ frs (X.env :: X.outer) := fun {hh o vs} ff e dd hm => by
      obtain ⟨_, o', e', hnf⟩ := ff.mem hm
      rw [e] at e'
      cases e'
      exact hnf _ dd
    have nfr := away fl3.2.2.1 he3 hd3
    have nL : a ≠ X.env.locals := fun w => nfr (List.mem_filterMap.mpr ⟨X.env, List.mem_cons_self, by rw [hf, w]⟩)
    have nF : a ∉ X.fs := fun hm => by
      obtain ⟨e, he, q⟩ := List.mem_filterMap.mp hm
      exact nfr (List.mem_filterMap.mpr ⟨e, List.mem_cons_of_mem _ he, q⟩)
    have nI : sI.heap.get? a = none := by
      cases q : sI.heap.get? a with
      | none => rfl
      | some o =>
        have w := nb a o q (by rw [hs]; exact nfr)
        rw [fl3.2.1] at w
        cases w
    have nS : ∀ b o, sI.heap.get? b = some o → b ≠ a := fun b o q w => by
      rw [w, nI] at q
      cases q
    have n0 : a ∉ X.ex → X.s_0.heap.get? a = none := fun hx => by
      cases q : X.s_0.heap.get? a with
      | none => rfl
      | some o =>
        obtain ⟨o', w⟩ := J.base.there a o q hx
        exact absurd rfl (nS a o' w)
    have npin : ∀ p ∈ X.pn ++ pins, p.1 ≠ a := fun p hp => nS p.1 p.2 (J.pin p hp).1
    have S3 := J3.suite he3 hd3 na nL nF
    refine wpAny_handleBy_cons (codeAny_handlers_test ?_) (by intro q; cases q)
    have LT : PySem.W.Looks (model X.prog X.w) h3 (typeOf (.ref a)) cls := fun A Q E s k q => wpAny_typeOf_ref (k _ _ he3) (by rw [hz3.1]; exact q)
    have LM := PySem.W.exm_one (M := model X.prog X.w) (J3.kIn) LT hx
    have test : ∀ {Q : Value → Shared → Prop} {E : Value → Shared → Prop}, Q c { s' with heap := h3 } → wpAny (model X.prog X.w) (X.A.mark (some (.ref a))) (eval (.Name x np) X.env) Q E { s' with heap := h3 } := fun {Q E} q => by
      obtain ⟨hg, hdbg, hm | ⟨hm, hv, hnn⟩⟩ := hc
      · exact ld_glob (X := X.suite a ((a, oe3) :: (X.pn ++ pins))) S3 hg hm q hdbg
      · exact ld_blt (X := X.suite a ((a, oe3) :: (X.pn ++ pins))) S3 hg hm hv q hnn hdbg
    refine test (LM.here (codeAny_handlers_suite_as (HandSPX.lands_againZ fl3 fun h4 fl4 up4 => ?_)))
    have J4 : Inv X pins σ' H' { s' with heap := h4 } := J.landed nb fl4.1 ((up.trans up3).trans up4) os ag
    obtain ⟨oe4, vs4, he4, hz4, hd4⟩ := fl4.there
    have S4 := J4.suite he4 hd4 na nL nF
    refine store_ok (X := X.suite a ((a, oe4) :: (X.pn ++ pins))) (v := .ref a) S4 hN hi (.inl hln) rfl (fun s5 S5 => ?_) (.inr hln)
    refine wpAny_mono ((hsu a ((a, oe4) :: (X.pn ++ pins))).run [] s5 _ H' { nx := fun σ6 H6 => σ6 = (σ'.set i (some (.ref a))).set j (some (.ref a)) ∧ H6 = H', rt := fun _ _ => False } S5 ?_) (fun f s6 hsp => ?_) (fun _ _ w => False.elim w)
    · refine ⟨.ref a, ?_, rfl, rfl⟩
      rw [List.getElem?_set_self]
      obtain ⟨m, hn, hl⟩ := S4.loc
      have := S4.len
      rw [this]
      exact (List.getElem?_eq_some_iff.mp hi).1
    cases f with
    | next =>
      obtain ⟨σ6, H6, S6, e6, e7⟩ := hsp
      subst e6 e7
      have T6 : Inv (X.tr ((a, oe4) :: (X.pn ++ pins)) X.xe) [] ((σ'.set i (some (.ref a))).set j (some (.ref a))) H6 s6 :=
        ⟨ok.toTry _ _, S6.os, S6.bare, S6.base, S6.loc, S6.cell, S6.free, S6.freeC, S6.pin, S6.hok, S6.len⟩
      refine gone_ok (X := X.tr ((a, oe4) :: (X.pn ++ pins)) X.xe) T6 hN hi hln fun s7 J7 => ?_
      have p7 := J7.pin (a, oe4) (List.mem_append_left _ List.mem_cons_self)
      have K7 : Inv X pins (((σ'.set i (some (.ref a))).set j (some (.ref a))).set i none) H6 s7 :=
        ⟨ok, J7.os, J7.bare, J7.base, J7.loc, J7.cell, J7.free, J7.freeC, fun p hp => J7.pin p (List.mem_append_left _ (List.mem_cons_of_mem _ hp)), J7.hok, J7.len⟩
      exact ⟨_, _, track K7 p7.1 hz4 hd4 na (n0 (by rw [hex]; exact fun w => nomatch w)) nL npin, hq a na⟩
    | ret u =>
      obtain ⟨_, _, _, _, _, w⟩ := hsp
      exact w.elim
    | brk =>
      obtain ⟨_, _, _, w⟩ := hsp
      exact w.elim
    | cont =>
      obtain ⟨_, _, _, w⟩ := hsp
      exact w.elim
  · cases f with
    | next =>
      obtain ⟨σ', H', J', q⟩ := hsp
      exact wpAny_execs_nil ⟨σ', H', J'.ofTry ok, q⟩
    | brk =>
      obtain ⟨σ', H', J', q⟩ := hsp
      exact ⟨σ', H', J'.ofTry ok, q⟩
    | cont =>
      obtain ⟨σ', H', J', q⟩ := hsp
      exact ⟨σ', H', J'.ofTry ok, q⟩
    | ret u =>
      obtain ⟨v, σ', H', J', r, q⟩ := hsp
      exact ⟨v, σ', H', J'.ofTry ok, r, q⟩
end
def ranked (names : List Str) (c : Str) : Bool := names.any fun y => decide (y = c)
/-- try: y = e, except .. as n: z = n. names: the classes that may come -/
def sTry (names : List Str) (y i j : Nat) (f : Mi.Env → M D) : MS := fun ρ k => match f ρ k with
  | .ok d k' => .ok (ρ.set y (.fz d), .nx) k'
  | .err c k' => if ranked names c = true then .ok (((ρ.set i (.fz (excD c))).set j (.fz (excD c))).set i .no, .nx) k' else .bad
  | .bad => .bad
section
variable {K : PySem.W.Frag} {mg : Str → Option Value} {τ : Option Addr} {H0 G0 G H : Hp} {σ : L2.St} {ρ : Mi.Env} {n : Nat}
theorem Rel.gone (R : Rel K mg τ H0 G0 G H σ ρ n) (i : Nat) : Rel K mg τ H0 G0 G H (σ.set i none) (ρ.set i .no) n :=
  R.weak (by simp [R.len]) fun j => by
    by_cases h : j = i
    · subst h
      refine .inl ?_
      rw [at_set' fun _ => rfl, if_pos rfl]
    · refine .inr ⟨?_, ?_⟩
      · rw [at_set' fun _ => rfl, if_neg h]
      · rw [List.getElem?_set_ne (Ne.symm h)]
end
section
variable {X : Cx} {E : XK} {x n z y : Str} {c : Value} {i j iy : Nat} {e : Expr} {np pz pe pa py ps pos pos' : Pos} {names : List Str} {fe : Mi.Env → M D}
theorem s_try (hs : X.stack = X.env :: X.outer) (hf : X.env.frame = some X.env.locals) (hex : X.ex = []) (hN : X.N.Nodup) (hi : X.N[i]? = some n) (hln : X.env.kindOf n = some .local) (hc : Names X x c)
    (hj : X.N[j]? = some z) (hlz : X.env.scope.names.lookup z = some .local) (hy : X.N[iy]? = some y) (hly : X.env.scope.names.lookup y = some .local)
    (hx : ∀ c', ranked names c' = true → ∀ C, X.mg c' = some (.ref C) → PySem.W.exmOne X.K (.ref C) c = some true)
    (hsu : ∀ (a : Addr) (pn : List (Addr × Obj)), PSs (X.suite a pn) [.Assign [.Name z pz] (.Name n pe) pa] (tAsg (tVar i) (gName j)))
    (hb : ∀ (W : WX) (pn : List (Addr × Obj)) (xe : Value → Shared → Prop), Takes (X.tr pn xe) W → PE (X.tr pn xe) e (cT X.K X.mg (WE W) fe))
    (hsw : swapsWith e (some (.Name y py)) ps.line X.env = pure false := by rfl) :
    PS X (.Try [.Assign [.Name y py] e ps] [.ExceptHandler (some (.Name x np)) (some n) [.Assign [.Name z pz] (.Name n pe) pa] pos'] [] [] pos) (cS X.K X.mg E (sTry names iy i j fe)) :=
  ps_mono (ps_try_keep (tb := fun W => tAsg (cT X.K X.mg (WE W) fe) (gName iy)) hs hf hex hN hi hln hc hsu fun W pn xe tk _ => pss_one (ps_set hN hy (.inl hly) (hb W pn xe tk) hsw (.inr hly))) fun Dn σ H ⟨τ, H0, G0, G, ρ, k, R, h⟩ => by
    refine ⟨τ, H0, G0, G, ρ, k, R, ?_⟩
    unfold sTry at h
    cases q : fe ρ k with
    | ok d k' =>
      rw [q] at h
      exact fun v H' G' st tw r => h _ H' G' ((R.next st tw).set iy r) st.sub
    | err c' k' =>
      rw [q] at h
      dsimp only at h
      by_cases hr : ranked names c' = true
      · rw [if_pos hr] at h
        intro C H' hm kp tw
        refine ⟨hx c' hr C hm, rfl, fun a na => ?_⟩
        have st : Step τ H G H' G := ⟨kp, fun _ _ e => e, fun _ _ e => .inl e, fun b u g => by
          have nb : some b ≠ τ := fun w => by
            rw [R.nt b w.symm] at g
            cases g
          rcases R.le b u g with w | ⟨l, o, w⟩
          · exact .inl (kp b _ w nb)
          · exact .inr ⟨l, o, kp b _ w nb⟩, R.nt⟩
        have R1 := R.next st tw
        have st2 : Step τ H' G (upd H' a (ExcO (.ref C) a)) (upd G a (ExcO (.ref C) a)) := Step.fresh R1.le R1.nt tw.ne na
        have R2 := R1.next st2 (tw.upd na)
        have rx : Rep X.K X.mg τ (upd G a (ExcO (.ref C) a)) (.ref a) (excD c') := .exc hm upd_same
        exact h _ _ _ (((R2.set i rx).set j rx).gone i) (fun b u e => st2.sub b u e)
      · rw [if_neg hr] at h
        exact h.elim
    | bad =>
      rw [q] at h
      exact h.elim
end

/-! ### isinstance of such an object -/
/-- what the classes have written: each with its name, and the answers -/
structure ExcT (K : PySem.W.Frag) (mg : Str → Option Value) (names : List Str) : Prop where
  cls : ∀ c, ranked names c = true → ∃ C : Addr, mg c = some (.ref C) ∧ ExcC K C
def dIsX (cv : Str → Option Bool) : D → M D
  | .dict [(.none, .str c)] => do let b ← ofOpt (cv c); pure (.bool b)
  | _ => bad
section
variable {X : Cx}
theorem exc_inv {K : PySem.W.Frag} {mg : Str → Option Value} {τ : Option Addr} {G : Hp} {v : V} {c : Str} (h : Rep K mg τ G v (excD c)) : ∃ a C : Addr, v = .ref a ∧ mg c = some (.ref C) ∧ G a = some (ExcO (.ref C) a) := by
  unfold excD at h
  generalize e : PyData.dict [(.none, .str c)] = d at h
  cases h with
  | exc h g =>
    unfold excD at e
    cases e
    exact ⟨_, _, rfl, h, g⟩
  | dk _ r =>
    cases e
    exact absurd rfl (repK_ne r _ List.mem_cons_self)
  | dt _ r =>
    cases e
    exact absurd rfl (repT_ne r _ List.mem_cons_self)
  | scr _ => unfold scrD at e; cases e
  | town _ => unfold townD at e; cases e
  | _ => cases e
/-- isinstance(x, C): x an exception's object that is kept, C a class's name's value -/
def rIsX (K : PySem.W.Frag) (cv : Value) : List V → Hp → VK → Prop := fun xs H Q => ∃ (a D : Addr) (c : V) (b : Bool), xs = [.ref a, c] ∧ (∀ u, RelV c u → u = cv) ∧ H a = some (ExcO (.ref D) a) ∧ ExcC K D ∧ PySem.W.kitOne K (.ref D) cv = some b ∧ Q (.bl b) H
theorem call_isX {cv : Value} : CallR X (.builtin "isinstance") (rIsX X.K cv) := by
  intro pins s σ H xs us Q I r h
  obtain ⟨a, D, c, b, rfl, hcv, hH, C, e, q⟩ := h
  cases r with
  | cons rx rr =>
    cases rr with
    | cons rt rr =>
      cases rr
      cases rx
      have ec := hcv _ rt
      subst ec
      obtain ⟨⟨oe, hget, h1, h2, vs, hv⟩, _⟩ := I.hok a _ hH
      have J : PySem.W.InstAt s.heap a oe D none := by
        obtain ⟨oc, od, oda, osl⟩ := oe
        dsimp only at h1 h2 hv
        subst h1 h2 hv
        exact ⟨hget, rfl, rfl, trivial⟩
      exact PySem.W.kia_one (PySem.W.handS_kitx_exc C.hg C.hk C.hs C.hd C.ha C.hn C.ht C.hm) I.kIn J e (fun z => nomatch z) fun tk => ⟨.bl b, H, I.kept (t' := tk) fun _ _ z => z, rfl, q⟩
end
end Mi

end

section
set_option Elab.async false
set_option linter.all false
set_option maxRecDepth 100000
set_option maxHeartbeats 4000000
namespace Mi
open PySem PySem.Spec L2

section
variable {X : Cx} {E : L2.St → XK} {a b e : Expr} {fa fb fc : Mi.Env → M D} {fs ls : Mi.Env → M (List D)} {p p2 q pos cpos apos : Pos}

/-! ### isinstance of a kept exception's object -/
def excName : D → Option Str
  | .dict [(.none, .str c)] => some c
  | _ => none
theorem excName_eq {d : D} {c : Str} (h : excName d = some c) : d = excD c := by
  unfold excName at h
  split at h <;> cases h
  rfl
def eIsX (cv : Str → Option Bool) (fa : Mi.Env → M D) : Mi.Env → M D := fun ρ => do let x ← fa ρ; let c ← ofOpt (excName x); let b ← ofOpt (cv c); pure (.bool b)
theorem x_isX {cv : Str → Option Bool} {cV : V} {cvalue : Value} (hm : X.mg "isinstance" = none) (ha : PE X a (cT X.K X.mg E fa)) (hb : PE X b (tC cV)) (hcv : ∀ u, RelV cV u → u = cvalue)
    (hp : ∀ c r C, cv c = some r → X.mg c = some (.ref C) → ExcC X.K C ∧ PySem.W.kitOne X.K (.ref C) cvalue = some r) (hg : Gl X "isinstance" := by rfl)
    (hs2 : starEach [b] X.env = (false, eval b X.env) :: starEach [] X.env := by rfl) (he : starEach (a :: [b]) X.env = (false, eval a X.env) :: starEach [b] X.env := by rfl) (hpl : (backTo pos (starEach [b] X.env)).any (·.1) = false := by rfl) :
    PE X (.Call (.Name "isinstance" p) [a, b] [] pos) (cT X.K X.mg E (eIsX cv fa)) :=
  pe_mono (pe_callB (call_isX (cv := cvalue)) hg hm (by decide +kernel) (pa_cons ha (pa_cons hb pa_nil hs2) he) (he := he) (hpl := hpl)) fun σ H Q ⟨τ, H0, G0, G, ρ, n, R, h⟩ => ⟨τ, H0, G0, G, ρ, n, R, Post.mono (fun x H1 ⟨d, n1, G1, st, tw, r, h1⟩ => by
    obtain ⟨c, ec, h2⟩ := Post.opt h1
    obtain ⟨bb, eb, h3⟩ := Post.opt h2
    rw [excName_eq ec] at r
    obtain ⟨ad, C, rfl, hC, hG⟩ := exc_inv r
    obtain ⟨hX, hk⟩ := hp c bb C eb hC
    have hH : H1 ad = some (ExcO (.ref C) ad) := by
      rcases st.le ad _ hG with w | ⟨w, _⟩
      · exact w
      · exact w.elim
    exact ⟨ad, C, cV, bb, rfl, hcv, hH, hX, hk, Post.ret h3 (R.next st tw).refl tw (.bl bb)⟩) (Post.bind (rep := Rep X.K X.mg τ) h)⟩

/-! ### all, any of truth values -/
def blOf : D → Option Bool
  | .bool b => some b
  | _ => none
def blsOf : List D → Option (List Bool)
  | [] => some []
  | d :: r => match blOf d, blsOf r with
    | some b, some bs => some (b :: bs)
    | _, _ => none
theorem blsOf_eq : ∀ {ds : List D} {bs : List Bool}, blsOf ds = some bs → ds = bs.map PyData.bool
  | [], _, h => by cases h; rfl
  | d :: r, bs, h => by
    unfold blsOf at h
    cases e1 : blOf d with
    | none => rw [e1] at h; cases h
    | some b =>
      cases e2 : blsOf r with
      | none => rw [e1, e2] at h; cases h
      | some bs' =>
        rw [e1, e2] at h
        cases h
        rw [blsOf_eq e2]
        unfold blOf at e1
        split at e1 <;> cases e1
        rfl
theorem reps_bls {K : PySem.W.Frag} {mg : Str → Option Value} {τ : Option Addr} {G : Hp} : ∀ {bs : List Bool} {vs : List V}, Reps K mg τ G vs (bs.map PyData.bool) → vs = bs.map V.bl
  | [], _, .nil => rfl
  | b :: bs, _, .cons h r => by
    cases h
    rw [reps_bls r]
    rfl
def gAll (k : List Bool → Bool) : D → M D
  | .list ds => do let bs ← ofOpt (blsOf ds); pure (.bool (k bs))
  | _ => bad
theorem cd_all {k : List Bool → Bool} : CallD X (fun vs H Q => ∃ (a : Addr) (bs : List Bool), vs = [V.ref a] ∧ SqL X.K H a (bs.map V.bl) ∧ Q (.bl (k bs)) H) (arg1 (gAll k)) := cd_one fun τ n H G v d E Q st tw rx h => by
  cases rx with
  | lst ha qa =>
    obtain ⟨bs, e, h⟩ := Post.opt h
    rw [blsOf_eq e] at qa
    cases reps_bls qa
    exact ⟨_, bs, rfl, .inl (.inl (st.le.list ha)), Post.ret h st tw (.bl _)⟩
  | _ => exact (show False from h).elim
theorem x_all (hc : X.calm = true) (hm : X.mg "all" = none) (ha : PA X [e] (cA X.K X.mg E fs)) (hg : Gl X "all" := by rfl) (he : starEach (e :: []) X.env = (false, eval e X.env) :: starEach [] X.env := by rfl) (hpl : (backTo pos (starEach [] X.env)).any (·.1) = false := by rfl) :
    PE X (.Call (.Name "all" p) [e] [] pos) (cT X.K X.mg E (eCall (arg1 (gAll fun bs => bs.all id)) fs)) := x_callB (cr_all hc) cd_all hg hm (by decide +kernel) ha (he := he) (hpl := hpl)
theorem x_any (hc : X.calm = true) (hm : X.mg "any" = none) (ha : PA X [e] (cA X.K X.mg E fs)) (hg : Gl X "any" := by rfl) (he : starEach (e :: []) X.env = (false, eval e X.env) :: starEach [] X.env := by rfl) (hpl : (backTo pos (starEach [] X.env)).any (·.1) = false := by rfl) :
    PE X (.Call (.Name "any" p) [e] [] pos) (cT X.K X.mg E (eCall (arg1 (gAll fun bs => bs.any id)) fs)) := x_callB (cr_any hc) cd_all hg hm (by decide +kernel) ha (he := he) (hpl := hpl)

/-! ### xs.index(x), xs.count(x) of a list -/
def eIdx (fa fb : Mi.Env → M D) : Mi.Env → M D := fun ρ => do
  let x ← fa ρ
  let ds ← ofOpt (asL x)
  let y ← fb ρ
  need (okD (.list ds) && okD y && decide (ds.length ≤ sizeLine))
  let j ← ofOpt (PySem.SeqAt.dataPlace ds y)
  pure (.int (j : Nat))
def eCnt (fa fb : Mi.Env → M D) : Mi.Env → M D := fun ρ => do
  let x ← fa ρ
  let ds ← ofOpt (asL x)
  let y ← fb ρ
  need (okD (.list ds) && okD y && decide (ds.length ≤ sizeLine))
  pure (.int ((ds.countP fun z => PyData.eqv z y : Nat) : Int))
def rSeqP (X : Cx) (res : List D → D → Option Int) : V → List V → Hp → VK → Prop := fun x xs H Q => ∃ τ G ds y dy i, xs = [y] ∧ Le G H ∧ Rep X.K X.mg τ G x (.list ds) ∧ Rep X.K X.mg τ G y dy ∧ okD (.list ds) = true ∧ okD dy = true ∧ ds.length ≤ sizeLine ∧ res ds dy = some i ∧ Q (.int i) H
theorem mt_idx (hu : X.A.units + 64 < cLine) : MtR X "list.index" (rSeqP X fun ds y => (PySem.SeqAt.dataPlace ds y).map fun j => ((j : Nat) : Int)) := by
  rintro pins s σ H x xs v us Q I rx rv ⟨τ, G, ds, y, dy, i, rfl, l, hx, hy, ox, oy, hz, hi, q⟩
  obtain ⟨u, rfl, ru⟩ := rv.one
  obtain ⟨bs, r2⟩ := hy.reads I l (okD_of oy).1 ru
  have d1 := (okD_of oy).2
  have d2 : PyData.depthAll ds + 1 ≤ 60 := (okD_of ox).2
  have p2 : PyData.plainAll ds = true := (okD_of ox).1
  cases hx with
  | lst ha qa =>
    cases rx
    obtain ⟨its, r, pl, hl⟩ := I.list (.inl (.inl (l.list ha)))
    obtain ⟨as, rs⟩ := qa.reads I l p2 r
    obtain ⟨⟨cls, dd, data, sl⟩, n, ho, hc, hdn, hd⟩ := pl
    simp only at hc hd
    subst hc hd
    dsimp only at hi
    obtain ⟨j, ej, rfl⟩ : ∃ j, PySem.SeqAt.dataPlace ds dy = some j ∧ ((j : Nat) : Int) = i := by
      cases w : PySem.SeqAt.dataPlace ds dy with
      | none => rw [w] at hi; cases hi
      | some j => rw [w] at hi; exact ⟨j, rfl, Option.some.inj hi⟩
    have rs' : ReadsAll s.heap its.toArray.toList ds as := by simpa using rs
    obtain ⟨hj, hit, hno⟩ := PySem.SeqAt.hit_at rs' p2 ej
    have hsz : its.toArray.size ≤ sizeLine := by
      rw [PySem.SeqAt.len_at rs']
      exact hz
    have hsl := sizeLine_eq
    exact call_meets PySem.F.slot_list_index ⟨_, ho, rfl⟩ PySem.F.entry_list_index (PySem.F.args_list_index_2 _ _) (PySem.SeqAt.list_indexAt _ its.toArray n dd sl u _ j hj (by omega) hit hno)
      ⟨ho, PySem.SeqAt.items_plain rs' r2 p2 (okD_of oy).1 (by omega), ⟨.int (j : Nat), H, I.tok _, ⟨_, rfl⟩, q⟩⟩
theorem mt_cnt (hu : X.A.units + 64 < cLine) : MtR X "list.count" (rSeqP X fun ds y => some ((ds.countP fun z => PyData.eqv z y : Nat) : Int)) := by
  rintro pins s σ H x xs v us Q I rx rv ⟨τ, G, ds, y, dy, i, rfl, l, hx, hy, ox, oy, hz, hi, q⟩
  obtain ⟨u, rfl, ru⟩ := rv.one
  obtain ⟨bs, r2⟩ := hy.reads I l (okD_of oy).1 ru
  have d1 := (okD_of oy).2
  have d2 : PyData.depthAll ds + 1 ≤ 60 := (okD_of ox).2
  have p2 : PyData.plainAll ds = true := (okD_of ox).1
  cases hx with
  | lst ha qa =>
    cases rx
    obtain ⟨its, r, pl, hl⟩ := I.list (.inl (.inl (l.list ha)))
    obtain ⟨as, rs⟩ := qa.reads I l p2 r
    have rs' : ReadsAll s.heap its.toArray.toList ds as := by simpa using rs
    have hi : ((ds.countP fun z => PyData.eqv z dy : Nat) : Int) = i := Option.some.inj hi
    subst hi
    exact PySem.SeqAt.count_list_data pl.isList rs' r2 p2 (okD_of oy).1 (by omega) ⟨.int _, H, I.tok _, ⟨_, rfl⟩, q⟩
theorem seqm_step {res : List D → D → Option Int} {σ : L2.St} {H : Hp} {Q : VK} (h : cT X.K X.mg E (fun ρ => do let x ← fa ρ; let ds ← ofOpt (asL x); let y ← fb ρ; need (okD (.list ds) && okD y && decide (ds.length ≤ sizeLine)); let i ← ofOpt (res ds y); pure (.int i)) σ H Q) :
    tBM X.K "list" (rSeqP X res) (cT X.K X.mg E fa) (tCons (cT X.K X.mg E fb) tNil) σ H Q := by
  obtain ⟨τ, H0, G0, G, ρ, n, R, h⟩ := h
  refine ⟨τ, H0, G0, G, ρ, n, R, Post.mono (fun x H1 ⟨d, n1, G1, st, tw, r, h1⟩ => ?_) (Post.bind (rep := Rep X.K X.mg τ) h)⟩
  obtain ⟨ds, ed, h2⟩ := Post.opt h1
  rw [asL_eq ed] at r
  have R1 := R.next st tw
  refine ⟨?_, τ, H0, G0, G1, ρ, n1, R1, Post.mono (fun y H2 ⟨dy, n2, G2, st2, tw2, ry, h3⟩ => ?_) (Post.bind (rep := Rep X.K X.mg τ) h2)⟩
  · cases r with
    | lst ha qa => exact .inl ⟨rfl, _, .inl (.inl (st.le.list ha))⟩
  obtain ⟨hz, h4⟩ := Post.need h3
  obtain ⟨i, ei, h5⟩ := Post.opt h4
  rw [Bool.and_eq_true, Bool.and_eq_true] at hz
  exact ⟨τ, G2, ds, y, dy, i, rfl, st2.le, r.sub st2.sub, ry, hz.1.1, hz.1.2, of_decide_eq_true hz.2, ei, Post.ret h5 (R1.next st2 tw2).refl tw2 (.int i)⟩
theorem x_idx (hu : X.A.units + 64 < cLine) (ha : PE X a (cT X.K X.mg E fa)) (hb : PE X b (cT X.K X.mg E fb)) (hbase : attributeBase a "index" X.env (eval a X.env) = eval a X.env := by rfl)
    (hfew : ((backTo cpos (starEach (b :: []) X.env)).all (fun x => !x.1) && (backToKw cpos (keywordEach [] X.env)).all (fun x => x.1.isSome)
      && decide ((b :: []).length + ([] : List Keyword).length + (if ([] : List Keyword).isEmpty then 0 else 1) < 30)) = true := by rfl)
    (hline : (apos.endLine == cpos.line) = true := by rfl) (hs1 : starEach (b :: []) X.env = (false, eval b X.env) :: starEach [] X.env := by rfl) :
    PE X (.Call (.Attribute a "index" apos) [b] [] cpos) (cT X.K X.mg E (eIdx fa fb)) :=
  pe_mono (pe_bm (cpos := cpos) PySem.F.plainAttrs_list PySem.F.slot_list_index PySem.F.type_list_index (mt_idx hu) ha (pa_cons hb pa_nil hs1) hbase hfew hline hs1) fun σ H Q h => seqm_step (by
    obtain ⟨τ, H0, G0, G, ρ, n, R, h⟩ := h
    refine ⟨τ, H0, G0, G, ρ, n, R, ?_⟩
    have e : eIdx fa fb ρ = (do let x ← fa ρ; let ds ← ofOpt (asL x); let y ← fb ρ; need (okD (.list ds) && okD y && decide (ds.length ≤ sizeLine)); let i ← ofOpt ((PySem.SeqAt.dataPlace ds y).map fun j => ((j : Nat) : Int)); pure (.int i)) := by
      unfold eIdx
      congr 1; funext x; congr 1; funext ds; congr 1; funext y; congr 1; funext _
      cases PySem.SeqAt.dataPlace ds y <;> rfl
    exact (congrArg (fun r => Post X.mg τ H G (E σ) (Rep X.K X.mg τ) r Q) (congrFun e n)).mp h)
theorem x_cnt (hu : X.A.units + 64 < cLine) (ha : PE X a (cT X.K X.mg E fa)) (hb : PE X b (cT X.K X.mg E fb)) (hbase : attributeBase a "count" X.env (eval a X.env) = eval a X.env := by rfl)
    (hfew : ((backTo cpos (starEach (b :: []) X.env)).all (fun x => !x.1) && (backToKw cpos (keywordEach [] X.env)).all (fun x => x.1.isSome)
      && decide ((b :: []).length + ([] : List Keyword).length + (if ([] : List Keyword).isEmpty then 0 else 1) < 30)) = true := by rfl)
    (hline : (apos.endLine == cpos.line) = true := by rfl) (hs1 : starEach (b :: []) X.env = (false, eval b X.env) :: starEach [] X.env := by rfl) :
    PE X (.Call (.Attribute a "count" apos) [b] [] cpos) (cT X.K X.mg E (eCnt fa fb)) :=
  pe_mono (pe_bm (cpos := cpos) PySem.F.plainAttrs_list PySem.F.slot_list_count PySem.F.type_list_count (mt_cnt hu) ha (pa_cons hb pa_nil hs1) hbase hfew hline hs1) fun σ H Q h => seqm_step h

/-! ### sorted(set(xs)), len(set(xs)) of ints -/
def intOf : D → Option Int
  | .int i => some i
  | _ => none
def intsOf : List D → Option (List Int)
  | [] => some []
  | d :: r => match intOf d, intsOf r with
    | some b, some bs => some (b :: bs)
    | _, _ => none
theorem intsOf_eq : ∀ {ds : List D} {bs : List Int}, intsOf ds = some bs → ds = bs.map PyData.int
  | [], _, h => by cases h; rfl
  | d :: r, bs, h => by
    unfold intsOf at h
    cases e1 : intOf d with
    | none => rw [e1] at h; cases h
    | some b =>
      cases e2 : intsOf r with
      | none => rw [e1, e2] at h; cases h
      | some bs' =>
        rw [e1, e2] at h
        cases h
        rw [intsOf_eq e2]
        unfold intOf at e1
        split at e1 <;> cases e1
        rfl
theorem intsOf_map : ∀ bs : List Int, intsOf (bs.map PyData.int) = some bs
  | [] => rfl
  | b :: bs => by
    show (match intOf (.int b), intsOf (bs.map PyData.int) with | some b, some bs => some (b :: bs) | _, _ => none) = _
    rw [intsOf_map bs]
    rfl
theorem reps_ints {K : PySem.W.Frag} {mg : Str → Option Value} {τ : Option Addr} {G : Hp} : ∀ {bs : List Int} {vs : List V}, Reps K mg τ G vs (bs.map PyData.int) → vs = bs.map V.int
  | [], _, .nil => rfl
  | b :: bs, _, .cons h r => by
    cases h
    rw [reps_ints r]
    rfl
/-- each once, the least ahead -/
def insI (k : Int) : List Int → List Int
  | [] => [k]
  | m :: r => if k < m then k :: m :: r else if k = m then m :: r else m :: insI k r
def once : List Int → List Int
  | [] => []
  | k :: r => insI k (once r)
theorem mem_insI {k j : Int} : ∀ {l : List Int}, j ∈ insI k l ↔ j = k ∨ j ∈ l
  | [] => by simp [insI]
  | m :: r => by
    unfold insI
    by_cases h : k < m
    · rw [if_pos h]; simp
    · rw [if_neg h]
      by_cases h2 : k = m
      · rw [if_pos h2, h2]; simp
      · rw [if_neg h2]
        simp only [List.mem_cons, mem_insI (l := r)]
        constructor <;> (intro z; rcases z with z | z | z <;> simp [z])
theorem mem_once {j : Int} : ∀ {l : List Int}, j ∈ once l ↔ j ∈ l
  | [] => by simp [once]
  | k :: r => by
    unfold once
    rw [mem_insI, mem_once (l := r), List.mem_cons]
theorem ins_lt {k : Int} : ∀ {l : List Int}, l.Pairwise (· < ·) → (insI k l).Pairwise (· < ·)
  | [], _ => by simp [insI]
  | m :: r, h => by
    obtain ⟨h1, h2⟩ := List.pairwise_cons.mp h
    unfold insI
    by_cases a : k < m
    · rw [if_pos a]
      refine List.pairwise_cons.mpr ⟨fun j hj => ?_, h⟩
      rcases List.mem_cons.mp hj with e | e
      · rw [e]; exact a
      · exact Int.lt_trans a (h1 j e)
    · rw [if_neg a]
      by_cases b : k = m
      · rw [if_pos b]; exact h
      · rw [if_neg b]
        refine List.pairwise_cons.mpr ⟨fun j hj => ?_, ins_lt h2⟩
        rcases mem_insI.mp hj with e | e
        · rw [e]; omega
        · exact h1 j e
theorem once_lt : ∀ l : List Int, (once l).Pairwise (· < ·)
  | [] => List.Pairwise.nil
  | k :: r => ins_lt (once_lt r)
/-- two lists in order, of the same members, are the same -/
theorem lt_same : ∀ {l m : List Int}, l.Pairwise (· < ·) → m.Pairwise (· < ·) → (∀ k, k ∈ l ↔ k ∈ m) → l = m
  | [], [], _, _, _ => rfl
  | [], b :: m, _, _, h => absurd ((h b).mpr List.mem_cons_self) (by simp)
  | a :: l, [], _, _, h => absurd ((h a).mp List.mem_cons_self) (by simp)
  | a :: l, b :: m, hl, hm, h => by
    obtain ⟨h1, h2⟩ := List.pairwise_cons.mp hl
    obtain ⟨g1, g2⟩ := List.pairwise_cons.mp hm
    have e : a = b := by
      rcases List.mem_cons.mp ((h a).mp List.mem_cons_self) with e | e
      · exact e
      · rcases List.mem_cons.mp ((h b).mpr List.mem_cons_self) with e' | e'
        · exact e'.symm
        · have := h1 b e'
          have := g1 a e
          omega
    subst e
    congr 1
    refine lt_same h2 g2 fun k => ⟨fun hk => ?_, fun hk => ?_⟩
    · rcases List.mem_cons.mp ((h k).mp (List.mem_cons_of_mem _ hk)) with e | e
      · have := h1 k hk
        omega
      · exact e
    · rcases List.mem_cons.mp ((h k).mpr (List.mem_cons_of_mem _ hk)) with e | e
      · have := g1 k hk
        omega
      · exact e
end
end Mi

end

section
set_option Elab.async false
set_option linter.all false
set_option maxRecDepth 100000
set_option maxHeartbeats 6400000
/-! set(xs) of a list of ints, in the kit's reading of sets by their order (the tuple's case is the kit's own; this is the list's) -/
namespace Mi
open PySem PySem.Spec PyProof.Rows
section
variable {P : Program} {w : World} {A : Around} {E : Value → Shared → Prop} {s : Shared}
/-- an empty set as __new__ lays it -/
abbrev set0 (w : World) : Obj := { cls := .type "set", dict := none, data := .set #[] 0 (.fresh 0 0 (!w.params.followText "set-order")) }
/-- __init__'s loop over a list's iterator fills it -/
theorem fill_list {l : Addr} {items : Array Value} {ns : List Int} {h0 : Heap} {g : Array GenState} {d : Drawn} {tk : Nat} {os : OsState} {R : Result → Shared → Prop} (hh : A.handled = none) (hl : h0.IsList l items) (hit : IntsAre items.toList ns) (hb : ns.length + 1 < scanBound)
    (hR : ∀ (h' : Heap) (tk' c : Nat), L2.SetR w h' h0.objs.size (fun j => decide (j ∈ ns)) c → c ≤ ns.length → (∀ b o, h0.get? b = some o → h'.get? b = some o) → R (.ok (.ret .none)) { heap := h', gens := g, drawn := d, toks := tk', os := os }) :
    codeAny (model P w) A (.builtin "set.update.loop" ⟨[.ref h0.objs.size, .ref (h0.objs.size + 1)], []⟩) R
      { heap := (h0.push (set0 w)).push { cls := .type "list_iterator", data := .fields #[.ref l, .int 0 0] }, gens := g, drawn := d, toks := tk, os := os } := by
  have hs : items.size = ns.length := by
    have q := IntsAre.length hit
    rwa [Array.length_toList] at q
  obtain ⟨ol, hol, hc, nl, hd⟩ := id hl
  have lt : l < h0.objs.size := Heap.lt_size hol
  have z1 : (h0.push (set0 w)).objs.size = h0.objs.size + 1 := Heap.size_push ..
  have neI : l ≠ h0.objs.size + 1 := Nat.ne_of_lt (Nat.lt_succ_of_lt lt)
  have nS : h0.objs.size ∉ [h0.objs.size + 1, l] := by
    simp only [List.mem_cons, List.not_mem_nil, or_false, not_or]
    exact ⟨Nat.ne_of_lt (Nat.lt_succ_self _), Nat.ne_of_gt lt⟩
  have at0 : ((h0.push (set0 w)).push { cls := .type "list_iterator", data := .fields #[.ref l, .int 0 0] }).get? h0.objs.size = some (set0 w) := Heap.get?_push_of_some _ (Heap.get?_push_size _ rfl)
  have at1 : ((h0.push (set0 w)).push { cls := .type "list_iterator", data := .fields #[.ref l, .int 0 0] }).get? (h0.objs.size + 1) = some { cls := .type "list_iterator", data := .fields #[.ref l, .int 0 0] } := by
    rw [← z1]
    exact Heap.get?_push_size _ rfl
  refine L2.set_update_ints (P := P) (w := w) (A := A) ((Walks.list (show A.in1.handled = none from by simpa using hh) (h0.objs.size + 1) l neI items).toS) h0.objs.size nS ns hs hb (fun i v hv => ?_) (items.size - 0) 0 _ (by omega) (Nat.zero_le _)
    ⟨⟨_, at1, rfl, rfl⟩, (hl.push _).push _⟩ ⟨0, Nat.le_refl 0, L2.setR_new_at at0⟩ fun s' c hm hc' hS => ?_
  · have hi : i < ns.length := by rw [← hs]; exact (Array.getElem?_eq_some_iff.mp hv).1
    obtain ⟨t, e⟩ := IntsAre.int_at hit i v (by rw [Array.getElem?_toList]; exact hv)
    refine ⟨ns[i], t, List.getElem?_eq_getElem hi, ?_⟩
    rw [e, List.getD_eq_getElem?_getD, List.getElem?_eq_getElem hi] <;> rfl
  · obtain ⟨h', g2, d2, tk2, os2⟩ := s'
    obtain rfl : g2 = g := hm.gens
    obtain rfl : d2 = d := hm.drawn
    obtain rfl : os2 = os := hm.os
    refine hR h' tk2 c hS (by rw [← hs]; exact hc') fun b o e => ?_
    have lb := Heap.lt_size e
    exact hm.heap b o (by simp only [List.mem_cons, List.not_mem_nil, or_false, not_or]; exact ⟨Nat.ne_of_lt lb, Nat.ne_of_lt (Nat.lt_succ_of_lt lb)⟩) (Heap.get?_push_of_some _ (Heap.get?_push_of_some _ e))
theorem set_of_list {l : Addr} {items : Array Value} {ns : List Int} {Q : Value → Shared → Prop} (hh : A.handled = none) (hl : s.heap.IsList l items) (hit : IntsAre items.toList ns) (hb : ns.length + 1 < scanBound)
    (h : ∀ (h' : Heap) (tk c : Nat), L2.SetR w h' s.heap.objs.size (fun j => decide (j ∈ ns)) c → c ≤ ns.length → (∀ b o, s.heap.get? b = some o → h'.get? b = some o) → Q (.ref s.heap.objs.size) { s with heap := h', toks := tk }) :
    wpAny (model P w) A (call (.type "set") [.ref l]) Q E s := by
  obtain ⟨c, tl, hmro⟩ := F.called_set.mro
  have hmade := F.called_set.made
  have hsub := F.called_set.sub
  have h1 := F.called_set.notType
  have h2 := F.called_set.canCreate
  have hct := F.typeCall_set_1 (.ref l)
  have hli := F.called_set.init.lookup
  have hbi := F.called_set.init.bind (.ref s.heap.objs.size)
  refine wpAny_call (codeAny_of_tree ?_)
  show wpAny _ _ (callAny (.type "set") _) _ _ _
  refine wpAny_pure ⟨Code.quiet_builtin _ (by decide +kernel), codeAny_builtin F.entry_type_call ?_⟩
  rw [Around.under_plain (weight_type_call_type "set" [.ref l] []) rfl]
  repeat (any_goals (first | assumption | wp_step))
  refine codeAny_mono (L2.code_set_led1 (.ref l) (E := E) (Q₁ := fun obj s₁ => obj = .ref s.heap.objs.size ∧ s₁ = { s with heap := s.heap.push (set0 w) }) ⟨rfl, rfl⟩) fun r s₁ hr => ?_
  cases r with
  | error e => exact hr
  | ok fl =>
    cases fl with
    | ret obj =>
      obtain ⟨rfl, rfl⟩ := hr
      have hT : Shared.TypeIs { s with heap := s.heap.push (set0 w) } (.ref s.heap.objs.size) "set" := ⟨_, Heap.get?_push_size _ rfl, rfl⟩
      repeat (any_goals (first | assumption | wp_step))
      refine codeAny_mono (codeAny_call_builtin (R := wants (fun r s₂ => r = .none ∧ ∃ h' tk c, s₂ = { s with heap := h', toks := tk } ∧ L2.SetR w h' s.heap.objs.size (fun j => decide (j ∈ ns)) c ∧ c ≤ ns.length ∧
          (∀ b o, s.heap.get? b = some o → h'.get? b = some o)) E) F.called_set.init.plain F.entry_set_init (check_set_init_1 hT ?_)) fun r₂ s₂ hr₂ => ?_
      · have hl0 := hl
        obtain ⟨⟨ocls, odict, odata, oslots⟩, hol, hcl, nl, hdl⟩ := hl
        simp only at hcl hdl
        subst hcl hdl
        have hol' : (s.heap.push (set0 w)).get? l = some { cls := .type "list", dict := odict, data := .seq items nl, slots := oslots } := Heap.get?_push_of_some _ hol
        have hsls := F.sub_list_set
        have hslf := F.sub_list_frozenset
        have hne : (Value.type "list" == Value.type "dict") = false := by decide
        unfold Builtin.«set.__init__» noKeywords Builtin.Frozenset.updateFrom
        generalize hPI : pyIter = PI
        wp_walk
        subst hPI
        refine wpAny_pyIter_list (hl0.push _) ?_
        refine wpAny_bind (wpAny_runValue ?_)
        have e1 : (s.heap.push (set0 w)).objs.size = s.heap.objs.size + 1 := Heap.size_push ..
        rw [e1]
        refine fill_list (h0 := s.heap) (by simpa using hh) hl0 hit hb fun h' tk' c' hS hc' hk => ?_
        show wpAny _ _ _ _ _ _
        refine wpAny_pure ?_
        show wpAny _ _ (ret Value.none) _ _ _
        exact wpAny_pure ⟨rfl, h', tk', c', rfl, hS, hc', hk⟩
      · cases r₂ with
        | error e => exact hr₂
        | ok fl₂ =>
          cases fl₂ with
          | ret r =>
            obtain ⟨rfl, h', tk, c', rfl, hS', hc', hk'⟩ := hr₂
            repeat (any_goals (first | assumption | wp_step))
            exact h _ _ _ hS' hc' hk'
          | _ => exact hr₂.elim
    | _ => exact hr.elim
end
end Mi

end

section
set_option Elab.async false
set_option linter.all false
set_option maxRecDepth 100000
set_option maxHeartbeats 4000000
namespace Mi
open PySem PySem.Spec L2
/-- sorted(set(xs)) of ints -/
def tSrt (K : PySem.W.Frag) (ta : TE) : TE := fun σ H Q => ta σ H fun x H1 => ∃ (l : Addr) (ns : List Int), x = V.ref l ∧ (SqL K H1 l (ns.map V.int) ∨ SqT K H1 l (ns.map V.int)) ∧ ns.length < 60 ∧ ∀ p, H1 p = none → Q (.ref p) (upd H1 p (.lst ((once ns).map V.int)))
def tLst2 (K : PySem.W.Frag) (ta : TE) : TE := fun σ H Q => ta σ H fun x H1 => ∃ (l : Addr) (ns : List Int), x = V.ref l ∧ (SqL K H1 l (ns.map V.int) ∨ SqT K H1 l (ns.map V.int)) ∧ ns.length < 60 ∧ Q (.int (once ns).length) H1
section
variable {X : Cx} {E : L2.St → XK} {a b e : Expr} {fa fb fc : Mi.Env → M D} {fs ls : Mi.Env → M (List D)} {p p2 q pos cpos apos : Pos} {ta : TE}
theorem setR_once {w : World} {h : Heap} {a : Addr} {ns : List Int} {c : Nat} (S : SetR w h a (fun j => decide (j ∈ ns)) c) : c = (once ns).length := by
  obtain ⟨o, es, ep, t, _, _, _, _, nd, hm, _, _, hn, _⟩ := S
  have e1 : c = (es.toList.map keyOf).length := by rw [List.length_map, ← hn]; rfl
  have perm : (es.toList.map keyOf).Perm (once ns) := (List.perm_ext_iff_of_nodup nd ((once_lt ns).imp fun h => Int.ne_of_lt h)).mpr fun k => by
    rw [← hm k, mem_once, decide_eq_true_iff]
  rw [e1, perm.length_eq]
theorem set_made {pins : List (Addr × Obj)} {s : Shared} {σ : L2.St} {H : Hp} {l : Addr} {ns : List Int} {Q : Value → Shared → Prop} (hc : X.calm = true) (I : Inv X pins σ H s) (hq : SqL X.K H l (ns.map V.int) ∨ SqT X.K H l (ns.map V.int)) (h64 : ns.length < 60)
    (h : ∀ (s' : Shared) (b : Addr) (c : Nat), Inv X pins σ H s' → SetR X.w s'.heap b (fun j => decide (j ∈ ns)) c → c ≤ ns.length → Q (.ref b) s') : wpAny (model X.prog X.w) X.A (call (.type "set") [.ref l]) Q X.xe s := by
  rcases hq with hq | hq
  · obtain ⟨its, r, pl, hz⟩ := I.list hq
    exact set_of_list (I.ok.hd hc) pl.isList (ns := ns) (by simpa using r.ints) (by unfold scanBound; omega) fun h' tk c hS hc' hk => h _ _ c (I.kept (t' := tk) fun b o e => hk b o e) hS hc'
  · obtain ⟨its, r, pl, hz⟩ := I.tuple hq
    exact call_set_tupI ns (I.ok.hd hc) pl (by simpa using r.ints) (by unfold scanBound; omega) fun h' tk c hS hc' hk => h _ _ c (I.kept (t' := tk) fun b o e => hk b o e) hS hc'
theorem pe_srt (hc : X.calm = true) (hg : Gl X "sorted") (hm : X.mg "sorted" = none) (hg2 : Gl X "set") (hm2 : X.mg "set" = none) (ha : PE X a ta)
    (na : starEach [a] X.env = (false, eval a X.env) :: starEach [] X.env := by rfl) : PE X (.Call (.Name "sorted" p) [.Call (.Name "set" p2) [a] [] q] [] pos) (tSrt X.K ta) := by
  refine ⟨fun pins s σ H Q I h => ?_⟩
  refine PyProof.Rows.Call_ (ld_blt I hg hm (show bootBuiltins "sorted" = some (.builtin "sorted") by decide +kernel) ?_)
  refine PyProof.Rows.callWith_builtin1 (PyProof.Rows.args_cons ?_ rfl) rfl rfl
  refine PyProof.Rows.Call_ (ld_blt I hg2 hm2 PyProof.Rows.boot_set ?_)
  refine PyProof.Rows.callWith_type1 (PyProof.Rows.args_cons (thn (ha.run pins s σ H _ I h) fun v s1 ⟨x, H1, I1, r1, q1⟩ => PyProof.Rows.args_nil ?_) na) na rfl
  obtain ⟨l, ns, rfl, hq, h64, q1⟩ := q1
  cases r1
  refine set_made hc I1 hq h64 fun s2 b c I2 hS hc' => ?_
  refine PyProof.Rows.args_nil ?_
  refine sorted_set hS (I2.ok.hd hc) (by omega) fun s' p' out c2 ms k g o hp hgt hi hs hm hl => ?_
  have e0 : ms = once ns := lt_same hs (once_lt ns) fun k => by rw [hm k, decide_eq_true_iff, mem_once]
  subst e0
  have hlen : ((once ns).map V.int).length ≤ sizeLine := by rw [List.length_map, hl, sizeLine_eq]; omega
  have hn : H1 p' = none := I2.hok.fresh hp
  have J : Inv X pins σ (upd H1 p' (.lst ((once ns).map V.int))) { s2 with heap := s'.heap, gens := s'.gens, drawn := s'.drawn, toks := s'.toks } :=
    I2.call (ch := []) (Un.laid k hp hn) (I2.hok.laid k hp ⟨hlen, out.toList, c2, vals_of_ints hi, hgt⟩) (by rw [g]; exact I2.bare) (fun _ z => nomatch z)
  have e : s' = { s2 with heap := s'.heap, gens := s'.gens, drawn := s'.drawn, toks := s'.toks } := by
    cases s'
    cases s2
    cases o
    rfl
  rw [e]
  exact ⟨.ref p', _, J, rfl, q1 p' hn⟩
theorem pe_lens (hc : X.calm = true) (hg : Gl X "len") (hm : X.mg "len" = none) (hg2 : Gl X "set") (hm2 : X.mg "set" = none) (ha : PE X a ta)
    (na : starEach [a] X.env = (false, eval a X.env) :: starEach [] X.env := by rfl) : PE X (.Call (.Name "len" p) [.Call (.Name "set" p2) [a] [] q] [] pos) (tLst2 X.K ta) := by
  refine ⟨fun pins s σ H Q I h => ?_⟩
  refine PyProof.Rows.Call_ (ld_blt I hg hm PySem.boot_len ?_)
  refine PyProof.Rows.callWith_builtin1 (PyProof.Rows.args_cons ?_ rfl) rfl rfl
  refine PyProof.Rows.Call_ (ld_blt I hg2 hm2 PyProof.Rows.boot_set ?_)
  refine PyProof.Rows.callWith_type1 (PyProof.Rows.args_cons (thn (ha.run pins s σ H _ I h) fun v s1 ⟨x, H1, I1, r1, q1⟩ => PyProof.Rows.args_nil ?_) na) na rfl
  obtain ⟨l, ns, rfl, hq, h64, q1⟩ := q1
  cases r1
  refine set_made hc I1 hq h64 fun s2 b c I2 hS hc' => ?_
  refine PyProof.Rows.args_nil ?_
  have hcn := setR_once hS
  obtain ⟨o, es, ep, t, ho, hex, hd, _, _, _, _, hf, hn, _⟩ := hS
  refine call_len_set ho hex hd hf (by rw [hn] <;> omega) ⟨.int (once ns).length, H1, (I2.tok _).tok _, ⟨_, by rw [hn, hcn]⟩, q1⟩
def seqInts : D → Option (List Int)
  | .list ds => intsOf ds
  | .tuple ds => intsOf ds
  | _ => none
def lSrt (fa : Mi.Env → M D) : Mi.Env → M (List D) := fun ρ => do let x ← fa ρ; let ns ← ofOpt (seqInts x); need (decide (ns.length < 60)); pure ((once ns).map .int)
def eLens (fa : Mi.Env → M D) : Mi.Env → M D := fun ρ => do let x ← fa ρ; let ns ← ofOpt (seqInts x); need (decide (ns.length < 60)); pure (.int (once ns).length)
theorem rep_seqInts {K : PySem.W.Frag} {mg : Str → Option Value} {τ : Option Addr} {G H : Hp} {v : V} {d : D} {ns : List Int} (l : Le G H) (h : seqInts d = some ns) (r : Rep K mg τ G v d) : ∃ a, v = .ref a ∧ (SqL K H a (ns.map V.int) ∨ SqT K H a (ns.map V.int)) := by
  unfold seqInts at h
  cases r with
  | lst ha qa =>
    rw [intsOf_eq h] at qa
    cases reps_ints qa
    exact ⟨_, rfl, .inl (.inl (.inl (l.list ha)))⟩
  | tup ha qa =>
    rw [intsOf_eq h] at qa
    cases reps_ints qa
    exact ⟨_, rfl, .inr (sqt_le l ha)⟩
  | _ => cases h
theorem l_srt (hc : X.calm = true) (hm : X.mg "sorted" = none) (hm2 : X.mg "set" = none) (ha : PE X a (cT X.K X.mg E fa)) (hg : Gl X "sorted" := by rfl) (hg2 : Gl X "set" := by rfl) (na : starEach [a] X.env = (false, eval a X.env) :: starEach [] X.env := by rfl) :
    PE X (.Call (.Name "sorted" p) [.Call (.Name "set" p2) [a] [] q] [] pos) (cF X.K X.mg E (lSrt fa)) :=
  pe_mono (pe_srt hc hg hm hg2 hm2 ha na) fun σ H Q ⟨τ, H0, G0, G, ρ, n, R, h⟩ => ⟨τ, H0, G0, G, ρ, n, R, Post.mono (fun x H1 ⟨d, n1, G1, st, tw, r, h1⟩ => by
    obtain ⟨ns, e, h2⟩ := PostF.opt h1
    obtain ⟨hz, h3⟩ := PostF.need h2
    obtain ⟨l, rfl, hq⟩ := rep_seqInts st.le e r
    exact ⟨l, ns, rfl, hq, of_decide_eq_true hz, PostF.ret h3 (R.next st tw).refl tw (Reps.ints _)⟩) (PostF.bind (rep := Rep X.K X.mg τ) h)⟩
theorem x_lens (hc : X.calm = true) (hm : X.mg "len" = none) (hm2 : X.mg "set" = none) (ha : PE X a (cT X.K X.mg E fa)) (hg : Gl X "len" := by rfl) (hg2 : Gl X "set" := by rfl) (na : starEach [a] X.env = (false, eval a X.env) :: starEach [] X.env := by rfl) :
    PE X (.Call (.Name "len" p) [.Call (.Name "set" p2) [a] [] q] [] pos) (cT X.K X.mg E (eLens fa)) :=
  pe_mono (pe_lens hc hg hm hg2 hm2 ha na) fun σ H Q ⟨τ, H0, G0, G, ρ, n, R, h⟩ => ⟨τ, H0, G0, G, ρ, n, R, Post.mono (fun x H1 ⟨d, n1, G1, st, tw, r, h1⟩ => by
    obtain ⟨ns, e, h2⟩ := Post.opt h1
    obtain ⟨hz, h3⟩ := Post.need h2
    obtain ⟨l, rfl, hq⟩ := rep_seqInts st.le e r
    exact ⟨l, ns, rfl, hq, of_decide_eq_true hz, Post.ret h3 (R.next st tw).refl tw (.int _)⟩) (Post.bind (rep := Rep X.K X.mg τ) h)⟩
/-- a list times a number -/
def lRep (fa fb : Mi.Env → M D) : Mi.Env → M (List D) := fun ρ => do
  let x ← fa ρ
  let ds ← ofOpt (asL x)
  let y ← fb ρ
  let k ← ofOpt (optI y)
  need (decide (0 ≤ k ∧ k < 2 ^ 63 ∧ ds.length * k.toNat ≤ sizeLine))
  pure (List.replicate k.toNat ds).flatten
theorem reps_rep {K : PySem.W.Frag} {mg : Str → Option Value} {τ : Option Addr} {G : Hp} {vs : List V} {ds : List D} (r : Reps K mg τ G vs ds) : ∀ k : Nat, Reps K mg τ G (List.replicate k vs).flatten (List.replicate k ds).flatten
  | 0 => .nil
  | k + 1 => by
    rw [List.replicate_succ, List.replicate_succ, List.flatten_cons, List.flatten_cons]
    exact r.append (reps_rep r k)
theorem l_rep (ha : PE X a (cT X.K X.mg E fa)) (hb : PE X b (cT X.K X.mg E fb)) : PE X (.BinOp a .Mult b pos) (cF X.K X.mg E (lRep fa fb)) :=
  pe_mono (pe_op op_rep ha hb) fun σ H Q ⟨τ, H0, G0, G, ρ, n, R, h⟩ => ⟨τ, H0, G0, G, ρ, n, R, Post.mono (fun x H1 ⟨d, n1, G1, st, tw, r, h1⟩ => by
    obtain ⟨ds, ed, h2⟩ := PostF.opt h1
    rw [asL_eq ed] at r
    have R1 := R.next st tw
    refine ⟨τ, H0, G0, G1, ρ, n1, R1, Post.mono (fun y H2 ⟨dy, n2, G2, st2, tw2, ry, h3⟩ => ?_) (PostF.bind (rep := Rep X.K X.mg τ) (h2))⟩
    obtain ⟨k, ek, h4⟩ := PostF.opt h3
    obtain ⟨hz, h5⟩ := PostF.need h4
    have hz : 0 ≤ k ∧ k < 2 ^ 63 ∧ ds.length * k.toNat ≤ sizeLine := of_decide_eq_true hz
    rw [optI_eq ek] at ry
    cases rep_int ry
    cases r with
    | lst hA qa =>
      have hA2 := st2.le.list (st2.sub _ _ hA)
      exact ⟨_, k, _, rfl, rfl, hA2, by omega, hz.2.1, by rw [qa.length]; exact hz.2.2, PostF.ret h5 (R1.next st2 tw2).refl tw2 (reps_rep (qa.sub st2.sub) _)⟩) (PostF.bind (rep := Rep X.K X.mg τ) h)⟩
end
end Mi

end

section
set_option Elab.async false
set_option linter.all false
set_option maxRecDepth 100000
set_option maxHeartbeats 4000000
namespace Mi
open PySem PySem.Spec L2
def eNeg (fa : Mi.Env → M D) : Mi.Env → M D := fun ρ => do let x ← fa ρ; let k ← ofOpt (optI x); pure (.int (-k))
/-- lo, .., hi - 1 -/
def rgD (a b : Int) : List D := (List.range (b - a).toNat).map fun i => PyData.int (a + (i : Nat))
def lRg1 (fa : Mi.Env → M D) : Mi.Env → M (List D) := fun ρ => do let x ← fa ρ; let k ← ofOpt (optI x); need (decide (0 ≤ k ∧ k ≤ 16777216)); pure (rgD 0 k)
def lRg2 (fa fb : Mi.Env → M D) : Mi.Env → M (List D) := fun ρ => do let x ← fa ρ; let y ← fb ρ; let i ← ofOpt (optI x); let k ← ofOpt (optI y); need (decide (0 ≤ i ∧ k ≤ 16777216 ∧ i ≤ 16777216 ∧ 0 ≤ k)); pure (rgD i k)
def eTRg1 (fa : Mi.Env → M D) : Mi.Env → M D := fun ρ => do let x ← fa ρ; let k ← ofOpt (optI x); need (decide (0 ≤ k ∧ k ≤ 16777216)); pure (.tuple (rgD 0 k))
section
variable {X : Cx} {E : L2.St → XK} {a b e : Expr} {fa fb fc : Mi.Env → M D} {p p2 q pos cpos apos : Pos}
theorem x_neg (ha : PE X a (cT X.K X.mg E fa)) : PE X (.UnaryOp .USub a pos) (cT X.K X.mg E (eNeg fa)) :=
  pe_mono (pe_un un_neg ha) fun σ H Q ⟨τ, H0, G0, G, ρ, n, R, h⟩ => ⟨τ, H0, G0, G, ρ, n, R, Post.mono (fun x H1 ⟨d, n1, G1, st, tw, r, h1⟩ => by
    obtain ⟨k, ek, h2⟩ := Post.opt h1
    rw [optI_eq ek] at r
    cases rep_int r
    exact ⟨k, rfl, Post.ret h2 (R.next st tw).refl tw (.int _)⟩) (Post.bind (rep := Rep X.K X.mg τ) h)⟩
theorem reps_rg {K : PySem.W.Frag} {mg : Str → Option Value} {τ : Option Addr} {G : Hp} (a b : Int) : Reps K mg τ G (rgV a b) (rgD a b) := by
  have h := Reps.ints (K := K) (mg := mg) (τ := τ) (G := G) ((List.range (b - a).toNat).map fun i => a + (i : Nat))
  rw [List.map_map, List.map_map] at h
  exact h
theorem l_rg1 (hc : X.calm = true) (hm : X.mg "list" = none) (hm2 : X.mg "range" = none) (ha : PE X a (cT X.K X.mg E fa)) (hg : Gl X "list" := by rfl) (hg2 : Gl X "range" := by rfl)
    (na : starEach [a] X.env = (false, eval a X.env) :: starEach [] X.env := by rfl) (na2 : starEach [.Call (.Name "range" p2) [a] [] q] X.env = (false, eval (.Call (.Name "range" p2) [a] [] q) X.env) :: starEach [] X.env := by rfl) :
    PE X (.Call (.Name "list" p) [.Call (.Name "range" p2) [a] [] q] [] pos) (cF X.K X.mg E (lRg1 fa)) :=
  pe_mono (pe_listRg hc hg hm (prg_1 hg2 hm2 ha na) na2) fun σ H Q ⟨τ, H0, G0, G, ρ, n, R, h⟩ => ⟨τ, H0, G0, G, ρ, n, R, Post.mono (fun x H1 ⟨d, n1, G1, st, tw, r, h1⟩ => by
    obtain ⟨k, ek, h2⟩ := PostF.opt h1
    obtain ⟨hz, h3⟩ := PostF.need h2
    have hz : 0 ≤ k ∧ k ≤ 16777216 := of_decide_eq_true hz
    rw [optI_eq ek] at r
    cases rep_int r
    exact ⟨k, rfl, RgOk.of_le (by omega) hz.2 (by omega) hz.1, PostF.ret h3 (R.next st tw).refl tw (reps_rg 0 k)⟩) (PostF.bind (rep := Rep X.K X.mg τ) h)⟩
theorem x_tupRg1 (hc : X.calm = true) (hm : X.mg "tuple" = none) (hm2 : X.mg "range" = none) (ha : PE X a (cT X.K X.mg E fa)) (hg : Gl X "tuple" := by rfl) (hg2 : Gl X "range" := by rfl)
    (na : starEach [a] X.env = (false, eval a X.env) :: starEach [] X.env := by rfl) (na2 : starEach [.Call (.Name "range" p2) [a] [] q] X.env = (false, eval (.Call (.Name "range" p2) [a] [] q) X.env) :: starEach [] X.env := by rfl) :
    PE X (.Call (.Name "tuple" p) [.Call (.Name "range" p2) [a] [] q] [] pos) (cT X.K X.mg E (eTRg1 fa)) :=
  pe_mono (pe_tupRg hc hg hm (prg_1 hg2 hm2 ha na) na2) fun σ H Q ⟨τ, H0, G0, G, ρ, n, R, h⟩ => ⟨τ, H0, G0, G, ρ, n, R, Post.mono (fun x H1 ⟨d, n1, G1, st, tw, r, h1⟩ => by
    obtain ⟨k, ek, h2⟩ := Post.opt h1
    obtain ⟨hz, h3⟩ := Post.need h2
    have hz : 0 ≤ k ∧ k ≤ 16777216 := of_decide_eq_true hz
    rw [optI_eq ek] at r
    cases rep_int r
    exact ⟨k, rfl, RgOk.of_le (by omega) hz.2 (by omega) hz.1, Post.newT h3 (R.next st tw).refl tw (reps_rg 0 k)⟩) (Post.bind (rep := Rep X.K X.mg τ) h)⟩
end
end Mi

end

section
set_option Elab.async false
set_option linter.all false
set_option maxRecDepth 100000
set_option maxHeartbeats 4000000
namespace Mi
open PySem PySem.Spec L2

/-! ### what a law's top has written, as the walk wants it -/
def FunAt (K : PySem.W.Frag) (mg : Str → Option Value) (x : Str) (st : Stmt) : Prop := ∃ f fd, Fun K x x st f fd ∧ mg x = some (.ref f)
structure Cal (P : Program) (w : World) (K : PySem.W.Frag) (mg : Str → Option Value) (base : Heap) (k : Nat) (x : Str) (ar : Nat) (m : List D → M D) : Prop where
  ex : ∃ f fd ps, FnOk P w K mg base (L2.CX P w) k f fd ps (spM K mg ar m) ∧ mg x = some (.ref f) ∧ PySem.W.keepIn K (.ref f) = true ∧ Binds K fd ps []
/-- a class whose objects are raised: mg's value, what it has written -/
structure RaiseOk (K : PySem.W.Frag) (mg : Str → Option Value) (c : Str) (C : Addr) : Prop where
  g : mg c = some (.ref C)
  x : PySem.W.excIn K C [.type "ValueError", .type "Exception", .type "BaseException", .type "object"] "ValueError.__new__" = true
  k : PySem.W.keepIn K (.ref C) = true
  b : PySem.W.subIn K (.ref C) (.type "BaseException") = some true
  t : PySem.W.typeIn K (.ref C) = some (.type "type")
def CanRaise (K : PySem.W.Frag) (mg : Str → Option Value) (c : Str) : Prop := ∃ C, RaiseOk K mg c C
section
variable {P : Program} {w : World} {K : PySem.W.Frag} {mg : Str → Option Value} {base : Heap}
theorem fun_at {h : Heap} {x : Str} {st : Stmt} {f : Addr} {oc : Value} {od an : Option Addr} {osl : Array (Option Value)} {kV doc pm cdv ct : Value} (X : K.In h) (G : h.Ns mainGlobals mg) (a : PySem.W.nsIn K mainGlobals x = some (some (.ref f)))
    (l : K.lookup f = some ⟨oc, od, .func (PySem.W.fnOf x x (defArgs st) (defBody st) (defScope st) .none kV doc pm an cdv ct), osl⟩) (c : PySem.W.codeIn K cdv x = true) (k : PySem.W.keepIn K (.ref f) = true) : FunAt K mg x st :=
  ⟨f, _, fun_mk l c k, PySem.W.mg_of X G a⟩
theorem cal_of {x : Str} {st : Stmt} {N ps : List Str} {k ar : Nat} {body : MS} {m : List D → M D} (F : FunAt K mg x st) (S : FnScope N ps (defScope st)) (har : ps.length = ar) (hm : run N.length body = m)
    (hbind : ∀ (kV doc pm : Value) (an : Option Addr) (cdv ct : Value) (us : List Value), us.length = ps.length → bindArgs (PySem.W.fnOf x x (defArgs st) (defBody st) (defScope st) .none kV doc pm an cdv ct) ⟨us, []⟩ = pure (ps.zip us))
    (hb : ∀ (f : Addr) (cdv : Value) (A : Around) (outer : List PySem.Env) (s : Shared) (H : Hp) (E : XK), Room k (A.deeper (PyProof.Rows.envOfC x (defScope st) s.heap.objs.size f cdv)) →
      PSs (cxOf (L2.CX P w) P w K mg base N x (defScope st) f cdv A outer s H E) (defBody st) (cS K mg E body)) : Cal P w K mg base (k + 1) x ar m := by
  subst hm
  obtain ⟨f, fd, F, hm⟩ := F
  exact ⟨f, fd, ps, fn_body F S har fun cdv A outer s H E hr => hb f cdv A outer s H E hr, hm, F.kp, F.binds hbind⟩
theorem Cal.mono {j k ar : Nat} {x : Str} {m : List D → M D} (C : Cal P w K mg base j x ar m) (h : j ≤ k) : Cal P w K mg base k x ar m := by
  obtain ⟨f, fd, ps, F, r⟩ := C.ex
  exact ⟨f, fd, ps, F.mono h, r⟩
end
section
variable {X : Cx} {k ar : Nat} {W : WX} {x : Str} {p pos : Pos} {e : Expr} {es : List Expr} {m : List D → M D} {fs : Mi.Env → M (List D)} {E : XK}
theorem x_cal (tk : Takes X W) (hr : Room k X.A) (C : Cal X.prog X.w X.K X.mg X.base k x ar m) (ha : PA X (e :: es) (cA X.K X.mg (WE W) fs)) (hg : Gl X x := by rfl) (hdb : (x == ("__debug__" : Str)) = false := by decide)
    (he : starEach (e :: es) X.env = (false, eval e X.env) :: starEach es X.env := by rfl) (hpl : (backTo pos (starEach es X.env)).any (·.1) = false := by rfl) : PE X (.Call (.Name x p) (e :: es) [] pos) (cT X.K X.mg (WE W) (eFn ar m fs)) := by
  obtain ⟨f, fd, ps, F, hm, hk, hb⟩ := C.ex
  exact x_fn tk F hr hm hk hb ha hg hdb he hpl
theorem s_raiseC {c msg : Str} {j : Nat} {p p2 pos pos' : Pos} (hc : X.calm = true) (tk : Takes X (fun c d _ H => E c d H)) (R : CanRaise X.K X.mg c) (hg : Gl X c := by rfl) (hdb : (c == ("__debug__" : Str)) = false := by decide) :
    PS X (.Raise (some (.Call (.Name c p) [.Constant (.str msg) j p2] [] pos)) none pos') (cS X.K X.mg E (sRaise c)) := by
  obtain ⟨C, R⟩ := R
  exact s_raise hc tk R.g (pmk_own PySem.F.excBase_ValueError R.x R.g R.k (raises_own R.b R.t) hg hdb)
end
end Mi
namespace Mi
open PySem PySem.Spec L2
theorem kit_own {K : PySem.W.Frag} {C D : Addr} {b : Bool} (h2 : PySem.W.isClsIn K C = true) (h3 : PySem.W.typeIn K (.ref C) = some (.type "type")) (h4 : PySem.W.subIn K (.ref D) (.ref C) = some b) (hs : PySem.W.subIn K (.ref D) (.ref D) = some true) :
    PySem.W.kitOne K (.ref D) (.ref C) = some b := by
  have h2' : (PySem.W.clsIn K C).isSome = true := h2
  have e2 : ((PySem.W.clsIn K C).isSome && PySem.W.typeIn K (.ref C) == some (.type "type")) = true := by rw [h2', h3] <;> rfl
  unfold PySem.W.kitOne
  by_cases e : (Value.ref D == Value.ref C) = true
  · rw [if_pos e]
    have z : D = C := Value.ref.inj (beq_iff_eq.mp e)
    subst z
    rw [hs] at h4
    exact h4
  · rw [if_neg e]
    show (if ((PySem.W.clsIn K C).isSome && PySem.W.typeIn K (.ref C) == some (.type "type")) = true then PySem.W.subIn K (.ref D) (.ref C) else none) = some b
    rw [if_pos e2]
    exact h4
theorem kit_ty {K : PySem.W.Frag} {D : Addr} {T : String} {b : Bool} (h2 : PySem.W.kitMeta T = true) (h4 : PySem.W.subIn K (.ref D) (.type T) = some b) : PySem.W.kitOne K (.ref D) (.type T) = some b := by
  unfold PySem.W.kitOne
  rw [if_neg (fun z => by cases beq_iff_eq.mp z)]
  show (if PySem.W.kitMeta T = true then PySem.W.subIn K (.ref D) (.type T) else none) = some b
  rw [if_pos h2]
  exact h4
theorem walk_end {l : PySem.W.OpenLaw} {q : Program} {loose : List Str} {XP : (Str → Option Value) → Heap → Prop} {YP : World → Heap → Prop} {d : DefRec} {K : Params → PySem.W.Frag} {k L i : Nat} {body : MS} {sc : Str} (hn : l.most = some 63) (hdf : d.params.defaults = [])
    (hr : Room k callerA) (hi : i < L) (hY : ∀ (w : World) (h : Heap), YP w h → (K w.params).In h)
    (F : ∀ (w : World) (mg : Str → Option Value) (fa : Addr) (h : Heap), (K w.params).In h → h.Ns mainGlobals mg → mg d.name = some (.ref fa) →
      ∃ fd : FuncData, (∀ (s : Shared) (u : Value), BindsTo s fd ⟨[u], []⟩ [(sc, u)]) ∧ ∀ base : Heap, (K w.params).In base → base.Ns mainGlobals mg → FnOk l.prog w (K w.params) mg base (L2.CX l.prog w) k fa fd [sc] (spLaw (K w.params) L i body))
    (ht : ∀ ns : List Int, ns.length ≤ 63 → lawOk L i body ns) : PySem.W.WalkO q loose XP YP l.row.toRowW d [] (fun f vs => PySem.call f vs) :=
  L2.walk_of (n := 63) (k := k) (x := sc) (CX := fun w => L2.CX l.prog w) (sp := fun w => spLaw (K w.params) L i body) hn (by decide) hdf hr hY F
    (fun w H a ns hl hO hS => ⟨a, ns, rfl, hO, hS, ht ns hl, hi, fun _ => rfl⟩) fun w H s e s' ⟨_, _, _, _, _, _, _, _, _, _, _, _, z⟩ => z
end Mi

end

section
set_option Elab.async false
set_option linter.all false
set_option maxRecDepth 100000
set_option maxHeartbeats 4000000
/-! running the meanings -/
namespace Mi
open PySem PySem.Spec L2
def Res.bd {α β : Type} (r : Res α) (f : α → M β) : Res β := match r with
  | .ok a k => f a k
  | .err c k => .err c k
  | .bad => .bad
section
variable {α β : Type}
@[simp] theorem bnd_app (m : M α) (f : α → M β) (n : Nat) : (m >>= f) n = (m n).bd f := by
  show M.bnd m f n = _
  unfold M.bnd Res.bd
  cases m n <;> rfl
@[simp] theorem bd_ok (a : α) (k : Nat) (f : α → M β) : (Res.ok a k).bd f = f a k := rfl
@[simp] theorem bd_err (c : Str) (k : Nat) (f : α → M β) : (Res.err c k : Res α).bd f = .err c k := rfl
@[simp] theorem bd_bad (f : α → M β) : (Res.bad : Res α).bd f = .bad := rfl
@[simp] theorem pure_app (a : α) (n : Nat) : (pure a : M α) n = .ok a n := rfl
@[simp] theorem refuse_app (c : Str) (n : Nat) : (refuse c : M α) n = .err c n := rfl
@[simp] theorem bad_app (n : Nat) : (bad : M α) n = .bad := rfl
@[simp] theorem need_app (b : Bool) (n : Nat) : need b n = if b = true then .ok () n else .bad := by
  cases b <;> rfl
@[simp] theorem some_app (a : α) (n : Nat) : (ofOpt (some a) : M α) n = .ok a n := rfl
@[simp] theorem none_app (n : Nat) : (ofOpt none : M α) n = .bad := rfl
theorem noErr_app (m : M α) (n : Nat) : noErr m n = match m n with
  | .err _ _ => .bad
  | r => r := rfl
theorem noErr_ok {m : M α} {n k : Nat} {a : α} (h : m n = .ok a k) : noErr m n = .ok a k := by
  rw [noErr_app, h]
end
@[simp] theorem at_0 (s : Sl) (ρ : List Sl) : Env.at (s :: ρ) 0 = s := rfl
@[simp] theorem at_s (s : Sl) (ρ : List Sl) (i : Nat) : Env.at (s :: ρ) (i + 1) = Env.at ρ i := rfl
/-- a pure turn: nothing said to the town -/
theorem compL_ok {pat : D → Option Mi.Env} {tt : Mi.Env → M Bool} {fe : Mi.Env → M D} {n : Nat} {p : D → Bool} {g : D → D} : ∀ {ds acc : List D},
    (∀ d ∈ ds, ∃ ρ, pat d = some ρ ∧ tt ρ n = .ok (p d) n ∧ (p d = true → fe ρ n = .ok (g d) n)) → acc.length + ds.length ≤ sizeLine → compL pat tt fe ds acc n = .ok (acc ++ (ds.filter p).map g) n
  | [], acc, _, _ => by simp [compL]
  | d :: r, acc, h, hz => by
    obtain ⟨ρ, e1, e2, e3⟩ := h d List.mem_cons_self
    have ih : ∀ acc', acc'.length + r.length ≤ sizeLine → compL pat tt fe r acc' n = .ok (acc' ++ (r.filter p).map g) n := fun acc' hz' => compL_ok (fun d hd => h d (List.mem_cons_of_mem _ hd)) hz'
    simp only [List.length_cons] at hz
    unfold compL
    rw [e1, bnd_app, some_app, bd_ok, bnd_app, noErr_ok e2, bd_ok]
    cases e : p d with
    | false =>
      rw [if_neg Bool.false_ne_true, ih acc (by omega), List.filter_cons_of_neg (by rw [e]; exact Bool.false_ne_true)]
    | true =>
      rw [if_pos rfl, bnd_app, noErr_ok (e3 e), bd_ok, bnd_app, need_app, if_pos (decide_eq_true (by omega)), bd_ok, ih _ (by rw [List.length_append, List.length_singleton]; omega), List.filter_cons_of_pos e]
      simp
theorem lComp_ok {fi : Mi.Env → M (List D)} {pt : Pat} {own : List Nat} {tt : Mi.Env → M Bool} {fe : Mi.Env → M D} {ρ : Mi.Env} {n n1 : Nat} {ds : List D} (p : D → Bool) (g : D → D) (hi : fi ρ n = .ok ds n1)
    (h : ∀ d ∈ ds, ∃ ρ', patSet pt d (wipeE ρ own) = some ρ' ∧ tt ρ' n1 = .ok (p d) n1 ∧ (p d = true → fe ρ' n1 = .ok (g d) n1)) (hz : ds.length ≤ sizeLine) : lComp fi pt own tt fe ρ n = .ok ((ds.filter p).map g) n1 := by
  unfold lComp
  rw [bnd_app, hi, bd_ok, compL_ok h (by simpa using hz)]
  simp
/-- .. with one name, all kept -/
theorem lComp_all {fi : Mi.Env → M (List D)} {i : Nat} {own : List Nat} {fe : Mi.Env → M D} {ρ : Mi.Env} {n n1 : Nat} {ds : List D} (g : D → D) (hi : fi ρ n = .ok ds n1)
    (h : ∀ d ∈ ds, fe ((wipeE ρ own).set i (.fz d)) n1 = .ok (g d) n1) (hz : ds.length ≤ sizeLine) : lComp fi (.nm i) own tYesM fe ρ n = .ok (ds.map g) n1 := by
  rw [lComp_ok (fun _ => true) g hi (fun d hd => ⟨_, rfl, rfl, fun _ => h d hd⟩) hz, List.filter_eq_self.mpr fun _ _ => rfl]
theorem lComp_if {fi : Mi.Env → M (List D)} {i : Nat} {own : List Nat} {tt : Mi.Env → M Bool} {fe : Mi.Env → M D} {ρ : Mi.Env} {n n1 : Nat} {ds : List D} (p : D → Bool) (g : D → D) (hi : fi ρ n = .ok ds n1)
    (h : ∀ d ∈ ds, tt ((wipeE ρ own).set i (.fz d)) n1 = .ok (p d) n1) (h2 : ∀ d ∈ ds, p d = true → fe ((wipeE ρ own).set i (.fz d)) n1 = .ok (g d) n1) (hz : ds.length ≤ sizeLine) : lComp fi (.nm i) own tt fe ρ n = .ok ((ds.filter p).map g) n1 :=
  lComp_ok p g hi (fun d hd => ⟨_, rfl, h d hd, h2 d hd⟩) hz
/-- a for-loop by an invariant of the turn -/
theorem forL_inv {pt : Pat} {body : MS} (I : Nat → Mi.Env → Nat → Prop) : ∀ {ds : List D} {k : Nat} {ρ : Mi.Env} {n : Nat}, I k ρ n →
    (∀ (j : Nat) (d : D) (ρ : Mi.Env) (n : Nat), ds[j]? = some d → I (k + j) ρ n → ∃ ρ1, patSet pt d ρ = some ρ1 ∧ ∃ ρ2 n2, body ρ1 n = .ok (ρ2, .nx) n2 ∧ I (k + j + 1) ρ2 n2) →
    ∃ ρ' n', forL pt body ds ρ n = .ok (ρ', .nx) n' ∧ I (k + ds.length) ρ' n'
  | [], k, ρ, n, h, _ => ⟨ρ, n, rfl, h⟩
  | d :: r, k, ρ, n, h, st => by
    obtain ⟨ρ1, e1, ρ2, n2, e2, h2⟩ := st 0 d ρ n rfl h
    obtain ⟨ρ', n', e3, h3⟩ := forL_inv (ds := r) (k := k + 1) (ρ := ρ2) (n := n2) I h2 fun j d' ρ n hj hI => by
      have := st (j + 1) d' ρ n (by simpa using hj) (by rw [show k + (j + 1) = k + 1 + j by omega]; exact hI)
      rw [show k + (j + 1) + 1 = k + 1 + j + 1 by omega] at this
      exact this
    refine ⟨ρ', n', ?_, by rw [List.length_cons, show k + (r.length + 1) = k + 1 + r.length by omega]; exact h3⟩
    unfold forL
    rw [bnd_app, e1, some_app, bd_ok, bnd_app, e2, bd_ok]
    exact e3
end Mi

end

section
set_option Elab.async false
set_option linter.all false
set_option maxRecDepth 100000
set_option maxHeartbeats 4000000
namespace Mi
open PySem PySem.Spec L2
/-! each construct, run at a state -/
def Res.bdB {α : Type} (r : Res Bool) (f g : M α) : Res α := match r with
  | .ok b k => if b = true then f k else g k
  | .err c k => .err c k
  | .bad => .bad
def seqR (r : Res (Mi.Env × Fl)) (g : MS) : Res (Mi.Env × Fl) := match r with
  | .ok (ρ, .nx) k => g ρ k
  | .ok (ρ, .rt d) k => .ok (ρ, .rt d) k
  | .ok (ρ, .bk) k => .ok (ρ, .bk) k
  | .ok (ρ, .ct) k => .ok (ρ, .ct) k
  | .err c k => .err c k
  | .bad => .bad
def outR (r : Res (Mi.Env × Fl)) : Res D := match r with
  | .ok (_, .nx) k => .ok .none k
  | .ok (_, .rt d) k => .ok d k
  | .ok (_, .bk) _ => .bad
  | .ok (_, .ct) _ => .bad
  | .err c k => .err c k
  | .bad => .bad
def varM : Sl → M D
  | .fz d => pure d
  | .sh ds => pure (.list ds)
  | _ => bad
section
variable {α β : Type} {ρ : Mi.Env} {n k : Nat} {f g : MS} {fa fb fc : Mi.Env → M D} {fs ls : Mi.Env → M (List D)} {tc td : Mi.Env → M Bool} {i j : Nat}
@[simp] theorem bdB_t (f g : M α) : (Res.ok true k).bdB f g = f k := rfl
@[simp] theorem bdB_f (f g : M α) : (Res.ok false k).bdB f g = g k := rfl
theorem bdB_ok (b : Bool) (f g : M α) : (Res.ok b k).bdB f g = if b = true then f k else g k := rfl
@[simp] theorem bdB_err (c : Str) (f g : M α) : (Res.err c k).bdB f g = .err c k := rfl
@[simp] theorem bdB_bad (f g : M α) : (Res.bad).bdB f g = .bad := rfl
@[simp] theorem seqR_nx (g : MS) : seqR (.ok (ρ, .nx) k) g = g ρ k := rfl
@[simp] theorem seqR_rt (d : D) (g : MS) : seqR (.ok (ρ, .rt d) k) g = .ok (ρ, .rt d) k := rfl
@[simp] theorem seqR_err (c : Str) (g : MS) : seqR (.err c k) g = .err c k := rfl
@[simp] theorem seqR_bad (g : MS) : seqR .bad g = .bad := rfl
@[simp] theorem outR_nx : outR (.ok (ρ, .nx) k) = .ok .none k := rfl
@[simp] theorem outR_rt (d : D) : outR (.ok (ρ, .rt d) k) = .ok d k := rfl
@[simp] theorem outR_err (c : Str) : outR (.err c k) = .err c k := rfl
@[simp] theorem outR_bad : outR .bad = .bad := rfl
@[simp] theorem varM_fz (d : D) : varM (.fz d) n = .ok d n := rfl
@[simp] theorem varM_sh (ds : List D) : varM (.sh ds) n = .ok (.list ds) n := rfl
@[simp] theorem run_app (L : Nat) (b : MS) (ds : List D) : Mi.run L b ds n = outR (b (startE L ds) n) := by
  unfold Mi.run
  rw [bnd_app]
  cases h : b (startE L ds) n with
  | ok p k =>
    obtain ⟨ρ, fl⟩ := p
    cases fl <;> rfl
  | _ => rfl
@[simp] theorem eVar_app : eVar i ρ n = varM (ρ.at i) n := by
  unfold eVar varM
  cases ρ.at i <;> rfl
@[simp] theorem eC_app (d : D) : eC d ρ n = .ok d n := rfl
@[simp] theorem e2_app (h : D → D → M D) : e2 h fa fb ρ n = (fa ρ n).bd fun x => fb ρ >>= h x := bnd_app _ _ _
@[simp] theorem tB_app : tB fa ρ n = (fa ρ n).bd asB := bnd_app _ _ _
@[simp] theorem asB_app (b : Bool) : asB (.bool b) n = .ok b n := rfl
@[simp] theorem tT_app : tT fa ρ n = (fa ρ n).bd dTru := bnd_app _ _ _
@[simp] theorem bNot_app : bNot tc ρ n = (tc ρ n).bd fun b => pure (!b) := bnd_app _ _ _
@[simp] theorem bAnd_app : bAnd tc td ρ n = (tc ρ n).bdB (td ρ) (pure false) := by
  unfold bAnd
  rw [bnd_app]
  cases tc ρ n with
  | ok b k => cases b <;> rfl
  | _ => rfl
@[simp] theorem bOr_app : bOr tc td ρ n = (tc ρ n).bdB (pure true) (td ρ) := by
  unfold bOr
  rw [bnd_app]
  cases tc ρ n with
  | ok b k => cases b <;> rfl
  | _ => rfl
@[simp] theorem eIf_app : eIf tc fa fb ρ n = (tc ρ n).bdB (fa ρ) (fb ρ) := by
  unfold eIf
  rw [bnd_app]
  cases tc ρ n with
  | ok b k => cases b <;> rfl
  | _ => rfl
@[simp] theorem eAnd_app : eAnd fa fb ρ n = ((fa ρ n).bd asB).bdB (fb ρ) (pure (.bool false)) := by
  unfold eAnd
  rw [bnd_app]
  cases fa ρ n with
  | ok d k =>
    show (asB d >>= _) k = (asB d k).bdB _ _
    rw [bnd_app]
    cases asB d k with
    | ok b k => cases b <;> rfl
    | _ => rfl
  | _ => rfl
@[simp] theorem eOr_app : eOr fa fb ρ n = ((fa ρ n).bd asB).bdB (pure (.bool true)) (fb ρ) := by
  unfold eOr
  rw [bnd_app]
  cases fa ρ n with
  | ok d k =>
    show (asB d >>= _) k = (asB d k).bdB _ _
    rw [bnd_app]
    cases asB d k with
    | ok b k => cases b <;> rfl
    | _ => rfl
  | _ => rfl
@[simp] theorem eNot_app : eNot fa ρ n = ((fa ρ n).bd asB).bd fun b => pure (.bool (!b)) := by
  unfold eNot
  rw [bnd_app]
  cases fa ρ n <;> first | rfl | exact bnd_app _ _ _
@[simp] theorem aNil_app : aNil ρ n = .ok [] n := rfl
@[simp] theorem aCons_app : aCons fa fs ρ n = (fa ρ n).bd fun x => fs ρ >>= fun xs => pure (x :: xs) := bnd_app _ _ _
@[simp] theorem eCall_app (h : List D → M D) : eCall h fs ρ n = (fs ρ n).bd h := bnd_app _ _ _
@[simp] theorem lCall_app (h : List D → M (List D)) : lCall h fs ρ n = (fs ρ n).bd h := bnd_app _ _ _
@[simp] theorem arg1_app (h : D → M α) (d : D) : arg1 h [d] = h d := rfl
@[simp] theorem arg2_app (h : D → D → M α) (d e : D) : arg2 h [d, e] = h d e := rfl
@[simp] theorem eFn_app (ar : Nat) (m : List D → M D) : eFn ar m fs ρ n = (fs ρ n).bd fun ds => need (decide (ds.length = ar)) >>= fun _ => m ds := bnd_app _ _ _
@[simp] theorem eTup_app : eTup fs ρ n = (fs ρ n).bd fun xs => need (decide (xs.length ≤ sizeLine)) >>= fun _ => pure (.tuple xs) := bnd_app _ _ _
@[simp] theorem lLst_app : lLst fs ρ n = (fs ρ n).bd fun xs => need (decide (xs.length ≤ sizeLine)) >>= fun _ => pure xs := bnd_app _ _ _
@[simp] theorem eL_app : eL fs ρ n = (fs ρ n).bd fun xs => pure (.list xs) := bnd_app _ _ _
@[simp] theorem e3_app (g g' : D → D → M D) : e3 g g' fa fb fc ρ n = (fa ρ n).bd fun x => fb ρ >>= fun y => g x y >>= fun z => asB z >>= fun k => if k = true then fc ρ >>= g' y else pure (.bool false) := bnd_app _ _ _
@[simp] theorem sNx_app : sNx ρ n = .ok (ρ, .nx) n := rfl
@[simp] theorem sSeq_app : sSeq f g ρ n = seqR (f ρ n) g := by
  unfold sSeq
  rw [bnd_app]
  cases f ρ n with
  | ok p k =>
    obtain ⟨ρ, fl⟩ := p
    cases fl <;> rfl
  | _ => rfl
@[simp] theorem sRet_app : sRet fa ρ n = (fa ρ n).bd fun d => pure (ρ, .rt d) := bnd_app _ _ _
@[simp] theorem sIf_app : sIf tc f g ρ n = (tc ρ n).bdB (f ρ) (g ρ) := by
  unfold sIf
  rw [bnd_app]
  cases tc ρ n with
  | ok b k => cases b <;> rfl
  | _ => rfl
@[simp] theorem sSet_app : sSet i fa ρ n = (fa ρ n).bd fun d => pure (ρ.set i (.fz d), .nx) := bnd_app _ _ _
@[simp] theorem sPat_app (p : Pat) : sPat p fa ρ n = (fa ρ n).bd fun d => ofOpt (patSet p d ρ) >>= fun ρ' => pure (ρ', .nx) := bnd_app _ _ _
@[simp] theorem sOwn_app : sOwn i fs ρ n = (fs ρ n).bd fun ds => need (decide (i < ρ.length)) >>= fun _ => pure (ρ.set i (.ow ds), .nx) := bnd_app _ _ _
@[simp] theorem sOwn2_app : sOwn2 i fs ρ n = (fs ρ n).bd fun ds => need (decide (i < ρ.length ∧ ds = [])) >>= fun _ => pure (ρ.set i (.ow2 []), .nx) := bnd_app _ _ _
@[simp] theorem sDrop_app : sDrop fa ρ n = (fa ρ n).bd fun _ => pure (ρ, .nx) := bnd_app _ _ _
@[simp] theorem sRaise_app (c : Str) : sRaise c ρ n = .err c n := rfl
@[simp] theorem sFz_app : sFz i f ρ n = f (frz i ρ) n := rfl
@[simp] theorem eBo_app : eBo i fa ρ n = (fa (frz i ρ) n).bd fun d => need (noL d) >>= fun _ => pure d := bnd_app _ _ _
@[simp] theorem bBo_app : bBo i tc ρ n = tc (frz i ρ) n := rfl
@[simp] theorem lBo_app : lBo i fs ρ n = (fs (frz i ρ) n).bd fun ds => need (noLs ds) >>= fun _ => pure ds := bnd_app _ _ _
@[simp] theorem iSeq_list (ds : List D) (h : fa ρ n = .ok (.list ds) k) : iSeq fa ρ n = .ok ds k := by
  unfold iSeq
  rw [bnd_app, h]
  rfl
@[simp] theorem iSeq_tup (ds : List D) (h : fa ρ n = .ok (.tuple ds) k) : iSeq fa ρ n = .ok ds k := by
  unfold iSeq
  rw [bnd_app, h]
  rfl
@[simp] theorem sFor_app (fi : Mi.Env → M (List D)) (p : Pat) : sFor fi p f ρ n = (fi ρ n).bd fun ds => forL p f ds ρ := bnd_app _ _ _
@[simp] theorem ite_app (c : Prop) [Decidable c] (f g : M α) : (if c then f else g) n = if c then f n else g n := by
  split <;> rfl
-- what the operations come to
@[simp] theorem dIx_tup (ds : List D) (i : Int) : dIx (.tuple ds) (.int i) = ofOpt (atI ds i) := rfl
@[simp] theorem dIx_lst (ds : List D) (i : Int) : dIx (.list ds) (.int i) = ofOpt (atI ds i) := rfl
@[simp] theorem dIx_scr (ns : List Int) (i : Int) : dIx (scrD ns) (.int i) = ofOpt (atI (ns.map PyData.int) i) := rfl
@[simp] theorem dMod_int (i j : Int) : dMod (.int i) (.int j) = (need (decide (0 < j)) >>= fun _ => pure (.int (i % j))) := rfl
@[simp] theorem dFdiv_int (i j : Int) : dFdiv (.int i) (.int j) = (need (decide (0 < j ∧ j < 1073741824)) >>= fun _ => pure (.int (i / j))) := rfl
@[simp] theorem dMul_int (i j : Int) : dMulI (.int i) (.int j) = (need (decide ((-(2 ^ 64) < i ∧ i < 2 ^ 64) ∨ (-(2 ^ 64) < j ∧ j < 2 ^ 64))) >>= fun _ => pure (.int (i * j))) := rfl
@[simp] theorem dPow_int (i j : Int) : dPow (.int i) (.int j) = (need (decide (0 ≤ j ∧ j ≤ 1000000 ∧ i.natAbs < 2 ^ 64)) >>= fun _ => pure (.int (i ^ j.toNat))) := rfl
@[simp] theorem dSub_int (i j : Int) : dSub (.int i) (.int j) = pure (.int (i - j)) := rfl
@[simp] theorem dAdd_int (i j : Int) : dAdd (.int i) (.int j) = pure (.int (i + j)) := rfl
@[simp] theorem dLe_int (i j : Int) : dLe (.int i) (.int j) = pure (.bool (decide (i ≤ j))) := rfl
@[simp] theorem dLt_int (i j : Int) : dLt (.int i) (.int j) = pure (.bool (decide (i < j))) := rfl
@[simp] theorem dGt_int (i j : Int) : dGt (.int i) (.int j) = pure (.bool (decide (j < i))) := rfl
@[simp] theorem dGe_int (i j : Int) : dGe (.int i) (.int j) = pure (.bool (decide (j ≤ i))) := rfl
@[simp] theorem dLen_tup (ds : List D) : dLen (.tuple ds) = pure (.int ds.length) := rfl
@[simp] theorem dLen_lst (ds : List D) : dLen (.list ds) = pure (.int ds.length) := rfl
@[simp] theorem dLen_scr (ns : List Int) : dLen (scrD ns) = pure (.int (ns.map PyData.int).length) := rfl
@[simp] theorem dLen_town : dLen townD n = .ok (.int n) n := rfl
@[simp] theorem dTru_scr (ns : List Int) : dTru (scrD ns) = pure (!(ns.map PyData.int).isEmpty) := rfl
@[simp] theorem dTru_bool (b : Bool) : dTru (.bool b) = pure b := rfl
@[simp] theorem dTru_lst (ds : List D) : dTru (.list ds) = pure (!ds.isEmpty) := rfl
@[simp] theorem dTru_tup (ds : List D) : dTru (.tuple ds) = pure (!ds.isEmpty) := rfl
@[simp] theorem gTuple_lst (ds : List D) : gTuple (.list ds) = pure (.tuple ds) := rfl
@[simp] theorem gTuple_tup (ds : List D) : gTuple (.tuple ds) = pure (.tuple ds) := rfl
@[simp] theorem gList_lst (ds : List D) : gList (.list ds) = pure ds := rfl
@[simp] theorem gList_tup (ds : List D) : gList (.tuple ds) = pure ds := rfl
@[simp] theorem gMin2_int (i j : Int) : gMin2 (.int i) (.int j) = pure (.int (if j < i then j else i)) := rfl
@[simp] theorem gMax2_int (i j : Int) : gMax2 (.int i) (.int j) = pure (.int (if j > i then j else i)) := rfl
@[simp] theorem optI_int (i : Int) : optI (.int i) = some i := rfl
@[simp] theorem asL_lst (ds : List D) : asL (.list ds) = some ds := rfl
@[simp] theorem asP_tup (a b : D) : asP (.tuple [a, b]) = some (a, b) := rfl
@[simp] theorem frS_ow (ds : List D) : frS (.ow ds) = .fz (.list ds) := rfl
@[simp] theorem frS_ow2 (dss : List (List D)) : frS (.ow2 dss) = .fz (.list (dss.map .list)) := rfl
@[simp] theorem frS_fz (d : D) : frS (.fz d) = .fz d := rfl
@[simp] theorem frS_no : frS .no = .no := rfl
@[simp] theorem eNeg_app : eNeg fa ρ n = (fa ρ n).bd fun x => ofOpt (optI x) >>= fun k => pure (.int (-k)) := bnd_app _ _ _
@[simp] theorem lRg1_app : lRg1 fa ρ n = (fa ρ n).bd fun x => ofOpt (optI x) >>= fun k => need (decide (0 ≤ k ∧ k ≤ 16777216)) >>= fun _ => pure (rgD 0 k) := bnd_app _ _ _
theorem iRange1_int {j : Int} (h : fs ρ n = .ok [.int j] k) : iRange1 fs ρ n = (need (decide (-(2 ^ 62) ≤ j ∧ j < 2 ^ 62)) >>= fun _ => pure ((List.range j.toNat).map fun k : Nat => PyData.int (0 + (k : Int)))) k := by
  unfold iRange1
  rw [bnd_app, h, bd_ok]
theorem iRange1_nat {j : Nat} (h : fs ρ n = .ok [.int (j : Int)] k) (hj : j ≤ 1000000) : iRange1 fs ρ n = .ok ((List.range j).map fun k : Nat => PyData.int (k : Int)) k := by
  rw [iRange1_int h, bnd_app, need_app, if_pos (decide_eq_true (by omega)), bd_ok, pure_app, Int.toNat_natCast]
  simp only [Int.zero_add]
end
end Mi

end

section
set_option Elab.async false
set_option linter.all false
set_option maxRecDepth 100000
set_option maxHeartbeats 4000000
namespace Mi
open PySem PySem.Spec L2
/-! things, rows, tables -/
abbrev natD (x : Nat) : D := .int (x : Int)
def rowD (r : List Nat) : D := .tuple (r.map natD)
def tabD (T : List (List Nat)) : D := .tuple (T.map rowD)
/-- a table of s things -/
structure Tb (s : Nat) (T : List (List Nat)) : Prop where
  len : T.length = s
  row : ∀ r ∈ T, r.length = s ∧ ∀ x ∈ r, x < s
def cellT (T : List (List Nat)) (i j : Nat) : Nat := (T.getD i []).getD j 0
@[simp] theorem atI_cast {α : Type} (xs : List α) (k : Nat) : atI xs (k : Int) = xs[k]? := by
  unfold L2.atI L2.ixN
  rw [if_pos (by omega)]
  by_cases h : (k : Int) < xs.length
  · rw [if_pos h]
    simp
  · rw [if_neg h, List.getElem?_eq_none (by omega)]
    rfl
theorem compL_map {α : Type} {enc : α → D} {pat : D → Option Mi.Env} {tt : Mi.Env → M Bool} {fe : Mi.Env → M D} {n : Nat} {p : α → Bool} {g : α → D} : ∀ {xs : List α} {acc : List D},
    (∀ x ∈ xs, ∃ ρ, pat (enc x) = some ρ ∧ tt ρ n = .ok (p x) n ∧ (p x = true → fe ρ n = .ok (g x) n)) → acc.length + xs.length ≤ sizeLine → compL pat tt fe (xs.map enc) acc n = .ok (acc ++ (xs.filter p).map g) n
  | [], acc, _, _ => by simp [compL]
  | d :: r, acc, h, hz => by
    obtain ⟨ρ, e1, e2, e3⟩ := h d List.mem_cons_self
    have ih : ∀ acc', acc'.length + r.length ≤ sizeLine → compL pat tt fe (r.map enc) acc' n = .ok (acc' ++ (r.filter p).map g) n := fun acc' hz' => compL_map (fun d hd => h d (List.mem_cons_of_mem _ hd)) hz'
    simp only [List.length_cons] at hz
    rw [List.map_cons]
    unfold compL
    rw [e1, bnd_app, some_app, bd_ok, bnd_app, noErr_ok e2, bd_ok]
    cases e : p d with
    | false =>
      rw [if_neg Bool.false_ne_true, ih acc (by omega), List.filter_cons_of_neg (by rw [e]; exact Bool.false_ne_true)]
    | true =>
      rw [if_pos rfl, bnd_app, noErr_ok (e3 e), bd_ok, bnd_app, need_app, if_pos (decide_eq_true (by omega)), bd_ok, ih _ (by rw [List.length_append, List.length_singleton]; omega), List.filter_cons_of_pos e]
      simp
/-- [fe for i in xs if tt] -/
theorem lComp_mapIf {α : Type} (enc : α → D) {fi : Mi.Env → M (List D)} {i : Nat} {own : List Nat} {tt : Mi.Env → M Bool} {fe : Mi.Env → M D} {ρ : Mi.Env} {n n1 : Nat} (xs : List α) (p : α → Bool) (g : α → D) (hi : fi ρ n = .ok (xs.map enc) n1)
    (h : ∀ x ∈ xs, tt ((wipeE ρ own).set i (.fz (enc x))) n1 = .ok (p x) n1) (h2 : ∀ x ∈ xs, p x = true → fe ((wipeE ρ own).set i (.fz (enc x))) n1 = .ok (g x) n1) (hz : xs.length ≤ 1000000) : lComp fi (.nm i) own tt fe ρ n = .ok ((xs.filter p).map g) n1 := by
  have hs := sizeLine_eq
  unfold lComp
  rw [bnd_app, hi, bd_ok, compL_map (p := p) (g := g) (fun x hx => ⟨_, rfl, h x hx, h2 x hx⟩) (by simp; omega)]
  simp
theorem lComp_map {α : Type} (enc : α → D) {fi : Mi.Env → M (List D)} {i : Nat} {own : List Nat} {fe : Mi.Env → M D} {ρ : Mi.Env} {n n1 : Nat} (xs : List α) (g : α → D) (hi : fi ρ n = .ok (xs.map enc) n1)
    (h : ∀ x ∈ xs, fe ((wipeE ρ own).set i (.fz (enc x))) n1 = .ok (g x) n1) (hz : xs.length ≤ 1000000) : lComp fi (.nm i) own tYesM fe ρ n = .ok (xs.map g) n1 := by
  rw [lComp_mapIf enc xs (fun _ => true) g hi (fun _ _ => rfl) (fun x hx _ => h x hx) hz, List.filter_eq_self.mpr fun _ _ => rfl]
/-- for x in xs, by an invariant -/
theorem forL_map {α : Type} (enc : α → D) {i : Nat} {body : MS} (I : Nat → Mi.Env → Nat → Prop) : ∀ {xs : List α} {k : Nat} {ρ : Mi.Env} {n : Nat}, I k ρ n →
    (∀ (j : Nat) (x : α) (ρ : Mi.Env) (n : Nat), xs[j]? = some x → I (k + j) ρ n → ∃ ρ2 n2, body (ρ.set i (.fz (enc x))) n = .ok (ρ2, .nx) n2 ∧ I (k + j + 1) ρ2 n2) →
    ∃ ρ' n', forL (.nm i) body (xs.map enc) ρ n = .ok (ρ', .nx) n' ∧ I (k + xs.length) ρ' n'
  | [], k, ρ, n, h, _ => ⟨ρ, n, rfl, h⟩
  | d :: r, k, ρ, n, h, st => by
    obtain ⟨ρ2, n2, e2, h2⟩ := st 0 d ρ n rfl h
    obtain ⟨ρ', n', e3, h3⟩ := forL_map enc (xs := r) (k := k + 1) (ρ := ρ2) (n := n2) I h2 fun j d' ρ n hj hI => by
      have := st (j + 1) d' ρ n (by simpa using hj) (by rw [show k + (j + 1) = k + 1 + j by omega]; exact hI)
      rw [show k + (j + 1) + 1 = k + 1 + j + 1 by omega] at this
      exact this
    refine ⟨ρ', n', ?_, by rw [List.length_cons, show k + (r.length + 1) = k + 1 + r.length by omega]; exact h3⟩
    rw [List.map_cons]
    unfold forL
    rw [show patSet (.nm i) (enc d) ρ = some (ρ.set i (.fz (enc d))) from rfl, bnd_app, some_app, bd_ok, bnd_app, e2, bd_ok]
    exact e3
theorem range_map (s : Nat) : (List.range s).map (fun k : Nat => PyData.int (k : Int)) = (List.range s).map natD := rfl
theorem rg_map (s : Nat) : rgD 0 (s : Int) = (List.range s).map natD := by
  unfold rgD
  simp [natD]
theorem range_get {s j x : Nat} (h : (List.range s)[j]? = some x) : x = j ∧ j < s := by
  obtain ⟨h1, h2⟩ := List.getElem?_eq_some_iff.mp h
  rw [List.getElem_range] at h2
  exact ⟨h2.symm, by simpa using h1⟩
section
variable {s : Nat} {T : List (List Nat)}
theorem Tb.get (t : Tb s T) {i : Nat} (hi : i < s) : T[i]? = some (T.getD i []) := by
  have : i < T.length := by rw [t.len]; exact hi
  rw [List.getD_eq_getElem?_getD, List.getElem?_eq_getElem this]
  rfl
theorem Tb.rowAt (t : Tb s T) {i : Nat} (hi : i < s) : (T.getD i []).length = s ∧ ∀ x ∈ T.getD i [], x < s := t.row _ (List.mem_of_getElem? (t.get hi))
theorem Tb.cell (t : Tb s T) {i j : Nat} (hi : i < s) (hj : j < s) : (T.getD i [])[j]? = some (cellT T i j) ∧ cellT T i j < s := by
  obtain ⟨h1, h2⟩ := t.rowAt hi
  have hl : j < (T.getD i []).length := by rw [h1]; exact hj
  have e : (T.getD i [])[j]? = some (cellT T i j) := by
    unfold cellT
    rw [List.getD_eq_getElem?_getD (l := T.getD i []), List.getElem?_eq_getElem hl]
    rfl
  exact ⟨e, h2 _ (List.mem_of_getElem? e)⟩
/-- table[i] -/
theorem Tb.ixRow (t : Tb s T) {i : Nat} (hi : i < s) : (T.map rowD)[i]? = some (rowD (T.getD i [])) := by
  rw [List.getElem?_map, t.get hi]
  rfl
theorem Tb.ixCell (t : Tb s T) {i j : Nat} (hi : i < s) (hj : j < s) : ((T.getD i []).map natD)[j]? = some (natD (cellT T i j)) := by
  rw [List.getElem?_map, (t.cell hi hj).1]
  rfl
end
end Mi

end

section
set_option Elab.async false
set_option linter.all false
set_option maxRecDepth 100000
set_option maxHeartbeats 4000000
namespace Mi
open PySem PySem.Spec L2 PySem.W
instance : Datum Nat where
  toD := natD
  plain _ := rfl
  eqv a b := by
    show PyData.eqv (.int (a : Int)) (.int (b : Int)) = _
    simp only [PyData.eqv]
    rw [Bool.eq_iff_iff, beq_iff_eq, decide_eq_true_eq]
    omega
  depth := 0
  depth_le _ := Nat.le_refl _
/-- not too deep -/
class Shal (α : Type) [DecidableEq α] [Datum α] : Prop where
  le : Datum.depth α ≤ 50
instance : Shal Nat := ⟨by decide⟩
instance : Shal Int := ⟨by decide⟩
instance : Shal Bool := ⟨by decide⟩
instance : Shal Str := ⟨by decide⟩
section
variable {α β : Type} [DecidableEq α] [Datum α] [DecidableEq β] [Datum β]
theorem okD_toD (h : Datum.depth α ≤ 60) (a : α) : okD (Datum.toD a) = true := by
  unfold okD
  rw [Datum.plain, Bool.true_and]
  exact decide_eq_true (Nat.le_trans (Datum.depth_le a) h)
theorem okD_list (h : Datum.depth α ≤ 59) (xs : List α) : okD (.list (xs.map Datum.toD)) = true := okD_toD (α := List α) (by show Datum.depth α + 1 ≤ 60; omega) xs
theorem dEq_at (h : Datum.depth α ≤ 60) (a b : α) : dEq (Datum.toD a) (Datum.toD b) = pure (.bool (decide (a = b))) := by
  unfold dEq
  rw [okD_toD h, okD_toD h, Datum.eqv]
  rfl
theorem dNe_at (h : Datum.depth α ≤ 60) (a b : α) : dNe (Datum.toD a) (Datum.toD b) = pure (.bool (!decide (a = b))) := by
  unfold dNe
  rw [okD_toD h, okD_toD h, Datum.eqv]
  rfl
theorem inD_at (a : α) (xs : List α) : inD (Datum.toD a) (xs.map Datum.toD) = decide (a ∈ xs) := by
  unfold inD
  rw [Bool.eq_iff_iff, List.any_eq_true, decide_eq_true_eq]
  constructor
  · rintro ⟨d, hd, e⟩
    obtain ⟨x, hx, rfl⟩ := List.mem_map.mp hd
    rw [Datum.eqv, decide_eq_true_eq] at e
    exact e ▸ hx
  · exact fun hx => ⟨_, List.mem_map.mpr ⟨a, hx, rfl⟩, by rw [Datum.eqv]; exact decide_eq_true rfl⟩
theorem dIn_at (h : Datum.depth α ≤ 59) (neg : Bool) (a : α) (xs : List α) : dIn neg (Datum.toD a) (.list (xs.map Datum.toD)) = pure (.bool (if neg then !decide (a ∈ xs) else decide (a ∈ xs))) := by
  have e : dIn neg (Datum.toD a) (.list (xs.map Datum.toD)) = (need (okD (Datum.toD a) && okD (.list (xs.map Datum.toD))) >>= fun _ => pure (.bool (if neg then !inD (Datum.toD a) (xs.map Datum.toD) else inD (Datum.toD a) (xs.map Datum.toD)))) := by
    unfold dIn
    cases Datum.toD a <;> rfl
  rw [e, okD_toD (by omega), okD_list h, inD_at]
  rfl
theorem place_at (a : α) : ∀ (xs : List α), a ∈ xs → PySem.SeqAt.dataPlace (xs.map Datum.toD) (Datum.toD a) = some (xs.idxOf a)
  | [], h => by cases h
  | x :: r, h => by
    unfold PySem.SeqAt.dataPlace
    rw [List.map_cons, List.findIdx?_cons, Datum.eqv]
    by_cases e : x = a
    · rw [if_pos (decide_eq_true e), e, List.idxOf_cons_self]
    · rw [if_neg (by simpa using e), List.idxOf_cons, show (x == a) = false from by simpa using e]
      have hm : a ∈ r := by
        rcases List.mem_cons.mp h with z | z
        · exact absurd z.symm e
        · exact z
      have ih := place_at a r hm
      unfold PySem.SeqAt.dataPlace at ih
      rw [ih]
      rfl
theorem eIdx_at {fa fb : Mi.Env → M D} {ρ : Mi.Env} {n n1 n2 : Nat} (h : Datum.depth α ≤ 59) {a : α} {xs : List α} (h1 : fa ρ n = .ok (.list (xs.map Datum.toD)) n1) (h2 : fb ρ n1 = .ok (Datum.toD a) n2) (hm : a ∈ xs) (hz : xs.length ≤ 1000000) :
    eIdx fa fb ρ n = .ok (natD (xs.idxOf a)) n2 := by
  have hs := sizeLine_eq
  unfold eIdx
  rw [bnd_app, h1, bd_ok, asL_lst, bnd_app, some_app, bd_ok, bnd_app, h2, bd_ok, bnd_app, need_app, okD_list h, okD_toD (by omega), if_pos (by
    rw [Bool.true_and, Bool.true_and, List.length_map]
    exact decide_eq_true (by omega)), bd_ok, place_at a xs hm]
  rfl
end
@[simp] theorem toD_nat (x : Nat) : (Datum.toD x : D) = natD x := rfl
theorem dEq_nat (a b : Nat) : dEq (natD a) (natD b) = pure (.bool (decide (a = b))) := dEq_at (α := Nat) (by decide) a b
theorem dNe_nat (a b : Nat) : dNe (natD a) (natD b) = pure (.bool (!decide (a = b))) := dNe_at (α := Nat) (by decide) a b
theorem dEq_nats (a b : List Nat) : dEq (.list (a.map natD)) (.list (b.map natD)) = pure (.bool (decide (a = b))) := dEq_at (α := List Nat) (by decide) a b
theorem dNe_nats (a b : List Nat) : dNe (.list (a.map natD)) (.list (b.map natD)) = pure (.bool (!decide (a = b))) := dNe_at (α := List Nat) (by decide) a b
theorem dIn_nats (neg : Bool) (a : Nat) (b : List Nat) : dIn neg (natD a) (.list (b.map natD)) = pure (.bool (if neg then !decide (a ∈ b) else decide (a ∈ b))) := dIn_at (α := Nat) (by decide) neg a b
theorem noLs_nat : ∀ xs : List Nat, noLs (xs.map natD) = true
  | [] => rfl
  | x :: r => by
    rw [List.map_cons]
    unfold noLs
    rw [noLs_nat r]
    rfl
theorem blsOf_map : ∀ bs : List Bool, blsOf (bs.map PyData.bool) = some bs
  | [] => rfl
  | b :: r => by
    rw [List.map_cons]
    unfold blsOf
    rw [blsOf_map r]
    rfl
theorem gAll_bls (k : List Bool → Bool) (bs : List Bool) (n : Nat) : gAll k (.list (bs.map PyData.bool)) n = .ok (.bool (k bs)) n := by
  show (ofOpt (blsOf (bs.map PyData.bool)) >>= fun bs => (pure (.bool (k bs)) : M D)) n = _
  rw [blsOf_map]
  rfl
end Mi
namespace Mi
open PySem PySem.Spec L2 PySem.W
section
variable {ρ : Mi.Env} {n n1 n2 n3 k : Nat} {f g : MS} {fa fb fc : Mi.Env → M D} {fs ls : Mi.Env → M (List D)} {tc td : Mi.Env → M Bool} {i j : Nat}
theorem sApp_ok {ds : List D} {d : D} (h : ρ.at i = .ow ds) (hf : fa ρ n = .ok d n1) (hz : ds.length ≤ 1000000) : sApp i fa ρ n = .ok (ρ.set i (.ow (ds ++ [d])), .nx) n1 := by
  have hs := sizeLine_eq
  unfold sApp
  rw [h]
  show (fa ρ >>= _) n = _
  rw [bnd_app, hf, bd_ok, bnd_app, need_app, if_pos (decide_eq_true (by omega)), bd_ok]
  rfl
theorem sExt_ok {ds es : List D} (h : ρ.at i = .ow ds) (hf : fa ρ n = .ok (.list es) n1) (hz : ds.length + es.length ≤ 1000000) : sExt i fa ρ n = .ok (ρ.set i (.ow (ds ++ es)), .nx) n1 := by
  have hs := sizeLine_eq
  unfold sExt
  rw [h]
  show (fa ρ >>= _) n = _
  rw [bnd_app, hf, bd_ok, asL_lst, bnd_app, some_app, bd_ok, bnd_app, need_app, if_pos (decide_eq_true (by omega)), bd_ok]
  rfl
theorem sApp2_ok {ds : List D} {dss : List (List D)} (h : ρ.at i = .ow2 dss) (h2 : ρ.at j = .ow ds) (hz : dss.length ≤ 1000000) : sApp2 i j ρ n = .ok ((ρ.set j .no).set i (.ow2 (dss ++ [ds])), .nx) n := by
  have hs := sizeLine_eq
  unfold sApp2
  rw [h, h2]
  show (need _ >>= _) n = _
  rw [bnd_app, need_app, if_pos (decide_eq_true (by omega)), bd_ok]
  rfl
theorem ixN_cast {m a : Nat} (h : a < m) : L2.ixN m (a : Int) = some a := by
  unfold L2.ixN
  rw [if_pos (by omega), if_pos (by omega), Int.toNat_natCast]
theorem putI_ok {ds : List D} {d : D} {a : Nat} (h : ρ.at i = .ow ds) (ha : fa ρ n = .ok (natD a) n1) (hl : a < ds.length) : putI i fa d ρ n = .ok (ρ.set i (.ow (ds.set a d))) n1 := by
  unfold putI
  rw [h]
  show (fa ρ >>= _) n = _
  rw [bnd_app, ha, bd_ok, optI_int, bnd_app, some_app, bd_ok, ixN_cast hl, bnd_app, some_app, bd_ok]
  rfl
theorem sPut_ok {ds : List D} {d : D} {a : Nat} (hd : fb ρ n = .ok d n1) (h : ρ.at i = .ow ds) (ha : fa ρ n1 = .ok (natD a) n2) (hl : a < ds.length) : sPut i fa fb ρ n = .ok (ρ.set i (.ow (ds.set a d)), .nx) n2 := by
  unfold sPut
  rw [bnd_app, hd, bd_ok, bnd_app, putI_ok h ha hl, bd_ok]
  rfl
theorem sPutP_ok {ds : List D} {d1 d2 : D} {a b : Nat} (hd : fc ρ n = .ok (.tuple [d1, d2]) n1) (h : ρ.at i = .ow ds) (hi : i < ρ.length) (ha : fa ρ n1 = .ok (natD a) n2) (hl : a < ds.length)
    (hb : fb (ρ.set i (.ow (ds.set a d1))) n2 = .ok (natD b) n3) (hlb : b < ds.length) : sPutP i fa fb fc ρ n = .ok ((ρ.set i (.ow (ds.set a d1))).set i (.ow ((ds.set a d1).set b d2)), .nx) n3 := by
  unfold sPutP
  rw [bnd_app, hd, bd_ok, asP_tup, bnd_app, some_app, bd_ok, bnd_app, putI_ok h ha hl, bd_ok, bnd_app, putI_ok (ds := ds.set a d1) (by rw [at_set, if_pos ⟨rfl, hi⟩]) hb (by rw [List.length_set]; exact hlb), bd_ok]
  rfl
theorem sPut2_ok {ds : List D} {dss : List (List D)} {d : D} {a b : Nat} (hd : fc ρ n = .ok d n1) (h : ρ.at i = .ow2 dss) (ha : fa ρ n1 = .ok (natD a) n2) (hl : a < dss.length) (hr : dss[a]? = some ds) (hb : fb ρ n2 = .ok (natD b) n3) (hlb : b < ds.length) :
    sPut2 i fa fb fc ρ n = .ok (ρ.set i (.ow2 (dss.set a (ds.set b d))), .nx) n3 := by
  unfold sPut2
  rw [bnd_app, hd, bd_ok, bnd_app]
  have e : put2 i fa fb d ρ n1 = .ok (ρ.set i (.ow2 (dss.set a (ds.set b d)))) n3 := by
    unfold put2
    rw [h]
    show (fa ρ >>= _) n1 = _
    rw [bnd_app, ha, bd_ok, optI_int, bnd_app, some_app, bd_ok, ixN_cast hl, bnd_app, some_app, bd_ok, hr, bnd_app, some_app, bd_ok, bnd_app, hb, bd_ok, optI_int, bnd_app, some_app, bd_ok, ixN_cast hlb, bnd_app, some_app, bd_ok]
    rfl
  rw [e, bd_ok]
  rfl
theorem sFor_ok {fi : Mi.Env → M (List D)} {p : Pat} {ds : List D} (hi : fi ρ n = .ok ds n1) : sFor fi p f ρ n = forL p f ds ρ n1 := by
  rw [sFor_app, hi, bd_ok]
end
end Mi
namespace Mi
open PySem PySem.Spec L2 PySem.W
section
variable {ρ : Mi.Env} {n n1 n2 n3 k : Nat} {fa fb fc : Mi.Env → M D} {fs ls : Mi.Env → M (List D)} {tc td : Mi.Env → M Bool} {i j : Nat} {x d : D} {ds : List D}
theorem ixT_ok (h1 : fa ρ n = .ok (.tuple ds) n1) (h2 : fb ρ n1 = .ok (natD i) n2) (h3 : ds[i]? = some x) : e2 dIx fa fb ρ n = .ok x n2 := by
  rw [e2_app, h1, bd_ok, bnd_app, h2, bd_ok, dIx_tup, atI_cast, h3, some_app]
theorem ixL_ok (h1 : fa ρ n = .ok (.list ds) n1) (h2 : fb ρ n1 = .ok (natD i) n2) (h3 : ds[i]? = some x) : e2 dIx fa fb ρ n = .ok x n2 := by
  rw [e2_app, h1, bd_ok, bnd_app, h2, bd_ok, dIx_lst, atI_cast, h3, some_app]
theorem ixD_ok (h1 : fa ρ n = .ok d n1) (h2 : fb ρ n1 = .ok (natD i) n2) (h3 : dIx d (natD i) = ofOpt (some x)) : e2 dIx fa fb ρ n = .ok x n2 := by
  rw [e2_app, h1, bd_ok, bnd_app, h2, bd_ok, h3, some_app]
theorem tupC_ok {xs : List D} (h : ls ρ n = .ok xs n1) : eCall (arg1 gTuple) (aCons (eL ls) aNil) ρ n = .ok (.tuple xs) n1 := by
  rw [eCall_app, aCons_app, eL_app, h, bd_ok]
  rfl
theorem lenT_ok {xs : List D} (h : fa ρ n = .ok (.tuple xs) n1) : eCall (arg1 dLen) (aCons fa aNil) ρ n = .ok (natD xs.length) n1 := by
  rw [eCall_app, aCons_app, h, bd_ok]
  rfl
theorem lenL_ok {xs : List D} (h : fa ρ n = .ok (.list xs) n1) : eCall (arg1 dLen) (aCons fa aNil) ρ n = .ok (natD xs.length) n1 := by
  rw [eCall_app, aCons_app, h, bd_ok]
  rfl
theorem rng_ok (h : fa ρ n = .ok (natD j) n1) (hj : j ≤ 1000000) : iRange1 (aCons fa aNil) ρ n = .ok ((List.range j).map natD) n1 :=
  iRange1_nat (by rw [aCons_app, h, bd_ok]; rfl) hj
theorem map_get {α β : Type} (f : α → β) {xs : List α} {i : Nat} {a : α} (h : xs[i]? = some a) : (xs.map f)[i]? = some (f a) := by
  rw [List.getElem?_map, h]
  rfl
theorem range_at {s i : Nat} (h : i < s) : (List.range s)[i]? = some i := by
  rw [List.getElem?_range h]
theorem snoc_range {α : Type} (f : Nat → α) (k : Nat) : (List.range (k + 1)).map f = (List.range k).map f ++ [f k] := by
  rw [List.range_succ, List.map_append]
  rfl
end
end Mi
namespace Mi
open PySem PySem.Spec L2 PySem.W
theorem forL_map0 {α : Type} (enc : α → D) {i : Nat} {body : MS} (I : Nat → Mi.Env → Nat → Prop) {xs : List α} {ρ : Mi.Env} {n : Nat} (h : I 0 ρ n)
    (st : ∀ (j : Nat) (x : α) (ρ : Mi.Env) (n : Nat), xs[j]? = some x → I j ρ n → ∃ ρ2 n2, body (ρ.set i (.fz (enc x))) n = .ok (ρ2, .nx) n2 ∧ I (j + 1) ρ2 n2) :
    ∃ ρ' n', forL (.nm i) body (xs.map enc) ρ n = .ok (ρ', .nx) n' ∧ I xs.length ρ' n' := by
  have := forL_map enc (i := i) (body := body) I (xs := xs) (k := 0) (ρ := ρ) (n := n) h fun j x ρ n hx hI => by
    rw [Nat.zero_add] at hI ⊢
    exact st j x ρ n hx hI
  rw [Nat.zero_add] at this
  exact this
/-- over 0, 1, .., s - 1 -/
theorem forL_range {i s : Nat} {body : MS} (I : Nat → Mi.Env → Nat → Prop) {ρ : Mi.Env} {n : Nat} (h : I 0 ρ n)
    (st : ∀ (x : Nat) (ρ : Mi.Env) (n : Nat), x < s → I x ρ n → ∃ ρ2 n2, body (ρ.set i (.fz (natD x))) n = .ok (ρ2, .nx) n2 ∧ I (x + 1) ρ2 n2) :
    ∃ ρ' n', forL (.nm i) body ((List.range s).map natD) ρ n = .ok (ρ', .nx) n' ∧ I s ρ' n' := by
  have := forL_map0 natD (i := i) (body := body) I (xs := List.range s) (ρ := ρ) (n := n) h fun j x ρ n hx hI => by
    obtain ⟨rfl, hl⟩ := range_get hx
    exact st x ρ n hl hI
  rw [List.length_range] at this
  exact this
end Mi
namespace Mi
open PySem PySem.Spec L2 PySem.W
section
variable {ρ : Mi.Env} {n n1 n2 n3 k : Nat} {fa fb fc : Mi.Env → M D} {fs ls : Mi.Env → M (List D)} {tc td : Mi.Env → M Bool} {i j : Nat} {x y d : D} {ds : List D}
theorem e2_ok {h : D → D → M D} {r : Res D} (h1 : fa ρ n = .ok x n1) (h2 : fb ρ n1 = .ok y n2) (h3 : h x y n2 = r) : e2 h fa fb ρ n = r := by
  rw [e2_app, h1, bd_ok, bnd_app, h2, bd_ok]
  exact h3
theorem var_ok (h : ρ.at i = .fz d) : eVar i ρ n = .ok d n := by
  rw [eVar_app, h]
  rfl
theorem cons_ok (h1 : fa ρ n = .ok x n1) (h2 : fs ρ n1 = .ok ds n2) : aCons fa fs ρ n = .ok (x :: ds) n2 := by
  rw [aCons_app, h1, bd_ok, bnd_app, h2, bd_ok]
  rfl
theorem eL_ok (h : ls ρ n = .ok ds n1) : eL ls ρ n = .ok (.list ds) n1 := by
  rw [eL_app, h, bd_ok]
  rfl
theorem lst_ok (h : fs ρ n = .ok ds n1) (hz : ds.length ≤ 1000000) : lLst fs ρ n = .ok ds n1 := by
  have hs := sizeLine_eq
  rw [lLst_app, h, bd_ok, bnd_app, need_app, if_pos (decide_eq_true (by omega)), bd_ok]
  rfl
theorem tup_ok (h : fs ρ n = .ok ds n1) (hz : ds.length ≤ 1000000) : eTup fs ρ n = .ok (.tuple ds) n1 := by
  have hs := sizeLine_eq
  rw [eTup_app, h, bd_ok, bnd_app, need_app, if_pos (decide_eq_true (by omega)), bd_ok]
  rfl
theorem call1_ok {g : D → M D} {r : Res D} (h : fa ρ n = .ok x n1) (h2 : g x n1 = r) : eCall (arg1 g) (aCons fa aNil) ρ n = r := by
  rw [eCall_app, cons_ok h rfl, bd_ok]
  exact h2
theorem call2_ok {g : D → D → M D} {r : Res D} (h : fa ρ n = .ok x n1) (h' : fb ρ n1 = .ok y n2) (h2 : g x y n2 = r) : eCall (arg2 g) (aCons fa (aCons fb aNil)) ρ n = r := by
  rw [eCall_app, cons_ok h (cons_ok h' rfl), bd_ok]
  exact h2
theorem fn_ok {ar : Nat} {m : List D → M D} {r : Res D} (h : fs ρ n = .ok ds n1) (hl : ds.length = ar) (h2 : m ds n1 = r) : eFn ar m fs ρ n = r := by
  rw [eFn_app, h, bd_ok, bnd_app, need_app, if_pos (decide_eq_true hl), bd_ok]
  exact h2
theorem addN (a b : Nat) : dAdd (natD a) (natD b) n = .ok (natD (a + b)) n := by
  show Res.ok (PyData.int ((a : Int) + b)) n = _
  rw [← Int.natCast_add]
theorem modN {a s : Nat} (h : 0 < s) : dMod (natD a) (natD s) n = .ok (natD (a % s)) n := by
  rw [dMod_int, bnd_app, need_app, if_pos (decide_eq_true (by omega)), bd_ok, ← Int.natCast_emod]
  rfl
theorem modI {a : Int} {s : Nat} (h : 0 < s) : ∃ z : Nat, z < s ∧ (z : Int) = a % s ∧ dMod (.int a) (natD s) n = .ok (natD z) n := by
  have h1 : 0 ≤ a % (s : Int) := Int.emod_nonneg _ (by omega)
  have h2 : a % (s : Int) < s := Int.emod_lt_of_pos _ (by omega)
  refine ⟨(a % (s : Int)).toNat, by omega, by omega, ?_⟩
  rw [dMod_int, bnd_app, need_app, if_pos (decide_eq_true (by omega)), bd_ok, pure_app]
  congr 2
  show _ = ((_ : Nat) : Int)
  omega
theorem mulN {a b : Nat} (h : a < 1000000) : dMulI (natD a) (natD b) n = .ok (natD (a * b)) n := by
  rw [dMul_int, bnd_app, need_app, if_pos (decide_eq_true (.inl (by omega))), bd_ok, ← Int.natCast_mul]
  rfl
theorem minN (a b : Nat) : gMin2 (natD a) (natD b) n = .ok (natD (min a b)) n := by
  rw [gMin2_int, pure_app]
  congr 2
  show (if (b : Int) < a then (b : Int) else a) = ((min a b : Nat) : Int)
  split <;> omega
theorem maxN (a b : Nat) : gMax2 (natD a) (natD b) n = .ok (natD (max a b)) n := by
  rw [gMax2_int, pure_app]
  congr 2
  show (if (b : Int) > a then (b : Int) else a) = ((max a b : Nat) : Int)
  split <;> omega
end
end Mi
namespace Mi
open PySem PySem.Spec L2 PySem.W
section
variable {ρ ρ1 : Mi.Env} {n n1 n2 n3 k : Nat} {f g : MS} {fa fb fc : Mi.Env → M D} {fs ls : Mi.Env → M (List D)} {tc td : Mi.Env → M Bool} {i j : Nat} {x y d : D} {ds : List D} {r : Res (Mi.Env × Fl)}
theorem seq_ok (h1 : f ρ n = .ok (ρ1, .nx) n1) (h2 : g ρ1 n1 = r) : sSeq f g ρ n = r := by
  rw [sSeq_app, h1]
  exact h2
theorem seq_rt (h1 : f ρ n = .ok (ρ1, .rt d) n1) : sSeq f g ρ n = .ok (ρ1, .rt d) n1 := by
  rw [sSeq_app, h1]
  rfl
theorem seq_err {c : Str} (h1 : f ρ n = .err c n1) : sSeq f g ρ n = .err c n1 := by
  rw [sSeq_app, h1]
  rfl
theorem set_ok (h : fa ρ n = .ok d n1) : sSet i fa ρ n = .ok (ρ.set i (.fz d), .nx) n1 := by
  rw [sSet_app, h, bd_ok]
  rfl
theorem ret_ok (h : fa ρ n = .ok d n1) : sRet fa ρ n = .ok (ρ, .rt d) n1 := by
  rw [sRet_app, h, bd_ok]
  rfl
theorem drop_ok (h : fa ρ n = .ok d n1) : sDrop fa ρ n = .ok (ρ, .nx) n1 := by
  rw [sDrop_app, h, bd_ok]
  rfl
theorem if_ok {b : Bool} (h : tc ρ n = .ok b n1) (h2 : (if b = true then f ρ n1 else g ρ n1) = r) : sIf tc f g ρ n = r := by
  rw [sIf_app, h, bdB_ok]
  exact h2
theorem if_t (h : tc ρ n = .ok true n1) (h2 : f ρ n1 = r) : sIf tc f g ρ n = r := if_ok h h2
theorem if_f (h : tc ρ n = .ok false n1) (h2 : g ρ n1 = r) : sIf tc f g ρ n = r := if_ok h h2
theorem own_ok (h : fs ρ n = .ok ds n1) (hi : i < ρ.length) : sOwn i fs ρ n = .ok (ρ.set i (.ow ds), .nx) n1 := by
  rw [sOwn_app, h, bd_ok, bnd_app, need_app, if_pos (decide_eq_true hi), bd_ok]
  rfl
theorem own2_ok (hi : i < ρ.length) : sOwn2 i (lLst aNil) ρ n = .ok (ρ.set i (.ow2 []), .nx) n := by
  rw [sOwn2_app, lst_ok rfl (by simp), bd_ok, bnd_app, need_app, if_pos (decide_eq_true ⟨hi, rfl⟩), bd_ok]
  rfl
theorem tB_ok {b : Bool} (h : fa ρ n = .ok (.bool b) n1) : tB fa ρ n = .ok b n1 := by
  rw [tB_app, h, bd_ok]
  rfl
theorem ifE_ok {b : Bool} {r : Res D} (h : tc ρ n = .ok b n1) (h2 : (if b = true then fa ρ n1 else fb ρ n1) = r) : eIf tc fa fb ρ n = r := by
  rw [eIf_app, h, bdB_ok]
  exact h2
theorem rg1_ok (h : fa ρ n = .ok (natD j) n1) (hj : j ≤ 1000000) : lRg1 fa ρ n = .ok ((List.range j).map natD) n1 := by
  rw [lRg1_app, h, bd_ok, optI_int, bnd_app, some_app, bd_ok, bnd_app, need_app, if_pos (decide_eq_true (by omega)), bd_ok, pure_app, rg_map]
theorem run_ok {L : Nat} {b : MS} {ρ' : Mi.Env} (h : b (startE L ds) n = .ok (ρ', .rt d) n1) : Mi.run L b ds n = .ok d n1 := by
  rw [run_app, h]
  rfl
theorem run_nx {L : Nat} {b : MS} {ρ' : Mi.Env} (h : b (startE L ds) n = .ok (ρ', .nx) n1) : Mi.run L b ds n = .ok .none n1 := by
  rw [run_app, h]
  rfl
theorem run_err {L : Nat} {b : MS} {c : Str} (h : b (startE L ds) n = .err c n1) : Mi.run L b ds n = .err c n1 := by
  rw [run_app, h]
  rfl
theorem eBo_ok (h : fa (frz i ρ) n = .ok d n1) (hl : noL d = true) : eBo i fa ρ n = .ok d n1 := by
  rw [eBo_app, h, bd_ok, bnd_app, need_app, if_pos hl, bd_ok]
  rfl
theorem ltN (a b : Nat) : dLt (natD a) (natD b) n = .ok (.bool (decide (a < b))) n := by
  show Res.ok (PyData.bool (decide ((a : Int) < b))) n = _
  congr 2
  exact decide_eq_decide.mpr (by omega)
theorem leN (a b : Nat) : dLe (natD a) (natD b) n = .ok (.bool (decide (a ≤ b))) n := by
  show Res.ok (PyData.bool (decide ((a : Int) ≤ b))) n = _
  congr 2
  exact decide_eq_decide.mpr (by omega)
theorem gtN (a b : Nat) : dGt (natD a) (natD b) n = .ok (.bool (decide (b < a))) n := by
  show Res.ok (PyData.bool (decide ((b : Int) < a))) n = _
  congr 2
  exact decide_eq_decide.mpr (by omega)
theorem eqN (a b : Nat) : dEq (natD a) (natD b) n = .ok (.bool (decide (a = b))) n := by
  rw [dEq_nat]
  rfl
end
end Mi

end

section
set_option Elab.async false
set_option linter.all false
set_option maxRecDepth 100000
set_option maxHeartbeats 4000000
namespace Mi
open PySem PySem.Spec L2 PySem.W
section
variable {ρ ρ1 : Mi.Env} {n n1 n2 n3 k : Nat} {f g : MS} {fa fb fc : Mi.Env → M D} {fs ls : Mi.Env → M (List D)} {tc td : Mi.Env → M Bool} {i j : Nat} {x y d : D} {ds : List D} {r : Res (Mi.Env × Fl)}
theorem chainT {p q : D → D → M D} {x y z : D} {r : Res D} (h1 : fa ρ n = .ok x n1) (h2 : fb ρ n1 = .ok y n2) (h3 : p x y n2 = .ok (.bool true) n2) (h4 : fc ρ n2 = .ok z n3) (h5 : q y z n3 = r) : e3 p q fa fb fc ρ n = r := by
  rw [e3_app, h1, bd_ok, bnd_app, h2, bd_ok, bnd_app, h3, bd_ok, bnd_app, asB_app, bd_ok, if_pos rfl, bnd_app, h4, bd_ok]
  exact h5
theorem chainF {p q : D → D → M D} {x y : D} (h1 : fa ρ n = .ok x n1) (h2 : fb ρ n1 = .ok y n2) (h3 : p x y n2 = .ok (.bool false) n2) : e3 p q fa fb fc ρ n = .ok (.bool false) n2 := by
  rw [e3_app, h1, bd_ok, bnd_app, h2, bd_ok, bnd_app, h3, bd_ok, bnd_app, asB_app, bd_ok, if_neg Bool.false_ne_true]
  rfl
theorem leLeN {a b c : Nat} (h1 : fa ρ n = .ok (natD a) n1) (h2 : fb ρ n1 = .ok (natD b) n2) (h4 : fc ρ n2 = .ok (natD c) n2) : e3 dLe dLe fa fb fc ρ n = .ok (.bool (decide (a ≤ b ∧ b ≤ c))) n2 := by
  by_cases h : a ≤ b
  · rw [chainT h1 h2 (by rw [leN, decide_eq_true h]) h4 (leN b c)]
    congr 2
    exact decide_eq_decide.mpr ⟨fun z => ⟨h, z⟩, fun z => z.2⟩
  · rw [chainF h1 h2 (by rw [leN, decide_eq_false h]), decide_eq_false (fun z => h z.1)]
theorem leLtI {a : Int} {b : Int} {c : Int} (h1 : fa ρ n = .ok (.int a) n1) (h2 : fb ρ n1 = .ok (.int b) n2) (h4 : fc ρ n2 = .ok (.int c) n2) : e3 dLe dLt fa fb fc ρ n = .ok (.bool (decide (a ≤ b ∧ b < c))) n2 := by
  by_cases h : a ≤ b
  · rw [chainT h1 h2 (show _ = Res.ok (PyData.bool true) n2 by rw [dLe_int, pure_app, decide_eq_true h]) h4 (show _ = Res.ok (PyData.bool (decide (b < c))) n2 from rfl)]
    congr 2
    exact decide_eq_decide.mpr ⟨fun z => ⟨h, z⟩, fun z => z.2⟩
  · rw [chainF h1 h2 (show _ = Res.ok (PyData.bool false) n2 by rw [dLe_int, pure_app, decide_eq_false h]), decide_eq_false (fun z => h z.1)]
theorem allC {α : Type} {xs : List α} {p : α → Bool} (h : ls ρ n = .ok (xs.map fun x => PyData.bool (p x)) n1) : eCall (arg1 (gAll fun bs => bs.all id)) (aCons (eL ls) aNil) ρ n = .ok (.bool (xs.all p)) n1 := by
  refine call1_ok (eL_ok h) ?_
  have e : (xs.map fun x => PyData.bool (p x)) = (xs.map p).map PyData.bool := by rw [List.map_map]; rfl
  rw [e, gAll_bls]
  congr 2
  rw [List.all_map]
  rfl
theorem anyC {α : Type} {xs : List α} {p : α → Bool} (h : ls ρ n = .ok (xs.map fun x => PyData.bool (p x)) n1) : eCall (arg1 (gAll fun bs => bs.any id)) (aCons (eL ls) aNil) ρ n = .ok (.bool (xs.any p)) n1 := by
  refine call1_ok (eL_ok h) ?_
  have e : (xs.map fun x => PyData.bool (p x)) = (xs.map p).map PyData.bool := by rw [List.map_map]; rfl
  rw [e, gAll_bls]
  congr 2
  rw [List.any_map]
  rfl
theorem tT_ok {b : Bool} (h : fa ρ n = .ok x n1) (h2 : dTru x n1 = .ok b n1) : tT fa ρ n = .ok b n1 := by
  rw [tT_app, h, bd_ok]
  exact h2
theorem tTb {b : Bool} (h : fa ρ n = .ok (.bool b) n1) : tT fa ρ n = .ok b n1 := tT_ok h rfl
theorem not_ok {b : Bool} (h : tc ρ n = .ok b n1) : bNot tc ρ n = .ok (!b) n1 := by
  rw [bNot_app, h, bd_ok]
  rfl
theorem or_t (h : tc ρ n = .ok true n1) : bOr tc td ρ n = .ok true n1 := by
  rw [bOr_app, h]
  rfl
theorem or_f {r : Res Bool} (h : tc ρ n = .ok false n1) (h2 : td ρ n1 = r) : bOr tc td ρ n = r := by
  rw [bOr_app, h]
  exact h2
theorem or_ok {a b : Bool} (h : tc ρ n = .ok a n1) (h2 : td ρ n1 = .ok b n1) : bOr tc td ρ n = .ok (a || b) n1 := by
  cases a with
  | true => exact or_t h
  | false => exact or_f h h2
theorem and_f (h : tc ρ n = .ok false n1) : bAnd tc td ρ n = .ok false n1 := by
  rw [bAnd_app, h]
  rfl
theorem and_t {r : Res Bool} (h : tc ρ n = .ok true n1) (h2 : td ρ n1 = r) : bAnd tc td ρ n = r := by
  rw [bAnd_app, h]
  exact h2
theorem and_ok {a b : Bool} (h : tc ρ n = .ok a n1) (h2 : td ρ n1 = .ok b n1) : bAnd tc td ρ n = .ok (a && b) n1 := by
  cases a with
  | false => exact and_f h
  | true => exact and_t h h2
theorem seqT {xs : List D} (h : fa ρ n = .ok (.tuple xs) n1) : iSeq fa ρ n = .ok xs n1 := iSeq_tup xs h
theorem seqL {xs : List D} (h : fa ρ n = .ok (.list xs) n1) : iSeq fa ρ n = .ok xs n1 := iSeq_list xs h
theorem try_ok {names : List Str} (h : fa ρ n = .ok d n1) : sTry names k i j fa ρ n = .ok (ρ.set k (.fz d), .nx) n1 := by
  unfold sTry
  rw [h]
theorem try_err {names : List Str} {c : Str} (h : fa ρ n = .err c n1) (hr : ranked names c = true) : sTry names k i j fa ρ n = .ok (((ρ.set i (.fz (excD c))).set j (.fz (excD c))).set i .no, .nx) n1 := by
  unfold sTry
  rw [h]
  dsimp only
  rw [if_pos hr]
theorem eFn_err {ar : Nat} {m : List D → M D} {c : Str} (h : fs ρ n = .ok ds n1) (hl : ds.length = ar) (h2 : m ds n1 = .err c n2) : eFn ar m fs ρ n = .err c n2 := fn_ok h hl h2
theorem drop_err {c : Str} (h : fa ρ n = .err c n1) : sDrop fa ρ n = .err c n1 := by
  rw [sDrop_app, h]
  rfl
theorem isX_ok {cv : Str → Option Bool} {c : Str} {b : Bool} (h : fa ρ n = .ok (excD c) n1) (h2 : cv c = some b) : eIsX cv fa ρ n = .ok (.bool b) n1 := by
  unfold eIsX
  rw [bnd_app, h, bd_ok]
  show (ofOpt (excName (excD c)) >>= _) n1 = _
  rw [show excName (excD c) = some c from rfl, bnd_app, some_app, bd_ok, h2, bnd_app, some_app, bd_ok]
  rfl
theorem neg_ok {a : Int} (h : fa ρ n = .ok (.int a) n1) : eNeg fa ρ n = .ok (.int (-a)) n1 := by
  rw [eNeg_app, h, bd_ok, optI_int, bnd_app, some_app, bd_ok]
  rfl
theorem listT_ok {xs : List D} (h : fa ρ n = .ok (.tuple xs) n1) : lCall (arg1 gList) (aCons fa aNil) ρ n = .ok xs n1 := by
  rw [lCall_app, cons_ok h rfl, bd_ok]
  rfl
theorem listL_ok {xs : List D} (h : fa ρ n = .ok (.list xs) n1) : lCall (arg1 gList) (aCons fa aNil) ρ n = .ok xs n1 := by
  rw [lCall_app, cons_ok h rfl, bd_ok]
  rfl
/-- once, of nats -/
def onceN (xs : List Nat) : List Nat := (once (xs.map Int.ofNat)).map Int.toNat
theorem seqInts_nats (xs : List Nat) : intsOf (xs.map natD) = some (xs.map Int.ofNat) := by
  have := intsOf_map (xs.map Int.ofNat)
  rw [List.map_map] at this
  exact this
theorem once_nats (xs : List Nat) : (once (xs.map Int.ofNat)).map PyData.int = (onceN xs).map natD := by
  unfold onceN
  rw [List.map_map]
  refine List.map_congr_left fun z hz => ?_
  obtain ⟨w, _, rfl⟩ := List.mem_map.mp (mem_once.mp hz)
  rfl
theorem mem_onceN {x : Nat} {xs : List Nat} : x ∈ onceN xs ↔ x ∈ xs := by
  unfold onceN
  rw [List.mem_map]
  constructor
  · rintro ⟨z, hz, rfl⟩
    obtain ⟨w, hw, rfl⟩ := List.mem_map.mp (mem_once.mp hz)
    exact hw
  · exact fun h => ⟨Int.ofNat x, mem_once.mpr (List.mem_map.mpr ⟨x, h, rfl⟩), rfl⟩
theorem onceN_lt (xs : List Nat) : (onceN xs).Pairwise (· < ·) := by
  unfold onceN
  rw [List.pairwise_map]
  refine (once_lt _).imp_of_mem fun {a b} ha hb h => ?_
  obtain ⟨v, _, rfl⟩ := List.mem_map.mp (mem_once.mp ha)
  obtain ⟨w, _, rfl⟩ := List.mem_map.mp (mem_once.mp hb)
  simpa using h
theorem srtT_ok {xs : List Nat} (h : fa ρ n = .ok (.tuple (xs.map natD)) n1) (hz : xs.length < 60) : lSrt fa ρ n = .ok ((onceN xs).map natD) n1 := by
  unfold lSrt
  rw [bnd_app, h, bd_ok, show seqInts (.tuple (xs.map natD)) = some (xs.map Int.ofNat) from seqInts_nats xs, bnd_app, some_app, bd_ok, bnd_app, need_app, if_pos (decide_eq_true (by simpa using hz)), bd_ok, pure_app, once_nats]
theorem srtL_ok {xs : List Nat} (h : fa ρ n = .ok (.list (xs.map natD)) n1) (hz : xs.length < 60) : lSrt fa ρ n = .ok ((onceN xs).map natD) n1 := by
  unfold lSrt
  rw [bnd_app, h, bd_ok, show seqInts (.list (xs.map natD)) = some (xs.map Int.ofNat) from seqInts_nats xs, bnd_app, some_app, bd_ok, bnd_app, need_app, if_pos (decide_eq_true (by simpa using hz)), bd_ok, pure_app, once_nats]
end
end Mi
namespace Mi
open PySem PySem.Spec L2 PySem.W
section
variable {ρ ρ2 : Mi.Env} {n n2 : Nat} {body : MS} {i : Nat} {d : D} {r : List D}
theorem forL_nil {p : Pat} : forL p body [] ρ n = .ok (ρ, .nx) n := rfl
theorem forL_eq : forL (.nm i) body (d :: r) ρ n = (body (ρ.set i (.fz d)) n).bd fun q => match q with
      | (ρ2, .nx) => forL (.nm i) body r ρ2
      | (ρ2, .ct) => forL (.nm i) body r ρ2
      | (ρ2, .bk) => pure (ρ2, .nx)
      | (ρ2, .rt d) => pure (ρ2, .rt d) := bnd_app _ _ _
theorem forL_nx (h : body (ρ.set i (.fz d)) n = .ok (ρ2, .nx) n2) : forL (.nm i) body (d :: r) ρ n = forL (.nm i) body r ρ2 n2 := by
  rw [forL_eq, h]
  rfl
theorem forL_err {c : Str} (h : body (ρ.set i (.fz d)) n = .err c n2) : forL (.nm i) body (d :: r) ρ n = .err c n2 := by
  rw [forL_eq, h]
  rfl
theorem forL_rt {e : D} (h : body (ρ.set i (.fz d)) n = .ok (ρ2, .rt e) n2) : forL (.nm i) body (d :: r) ρ n = .ok (ρ2, .rt e) n2 := by
  rw [forL_eq, h]
  rfl
end
/-- while, k turns at most: the invariant holds ahead of each test; the measure falls -/
theorem whL_inv {c : Mi.Env → M Bool} {body : MS} (I : Mi.Env → Nat → Prop) (μ : Mi.Env → Nat) (st : ∀ ρ n, I ρ n → ∃ b n1, c ρ n = .ok b n1 ∧ (b = true → ∃ ρ2 n2, body ρ n1 = .ok (ρ2, .nx) n2 ∧ I ρ2 n2 ∧ μ ρ2 < μ ρ) ∧ (b = false → I ρ n1)) :
    ∀ (k : Nat) (ρ : Mi.Env) (n : Nat), I ρ n → μ ρ < k → ∃ ρ' n' n0, whL c body k ρ n = .ok (ρ', .nx) n' ∧ I ρ' n' ∧ I ρ' n0 ∧ c ρ' n0 = .ok false n'
  | 0, _, _, _, h => absurd h (Nat.not_lt_zero _)
  | k + 1, ρ, n, h, hm => by
    obtain ⟨b, n1, e, ht, hf⟩ := st ρ n h
    have e0 : whL c body (k + 1) ρ n = (if b = true then (body ρ >>= fun q => match q with
        | (ρ2, .nx) => whL c body k ρ2
        | (ρ2, .ct) => whL c body k ρ2
        | (ρ2, .bk) => pure (ρ2, .nx)
        | (ρ2, .rt d) => pure (ρ2, .rt d) : M (Mi.Env × Fl)) else pure (ρ, .nx)) n1 := by
      show (c ρ >>= _) n = _
      rw [bnd_app, e, bd_ok] <;> rfl
    cases b with
    | false =>
      refine ⟨ρ, n1, n, ?_, hf rfl, h, e⟩
      rw [e0, if_neg Bool.false_ne_true]
      rfl
    | true =>
      obtain ⟨ρ2, n2, e2, h2, hl⟩ := ht rfl
      obtain ⟨ρ', n', n0, e3, h3, h4, h5⟩ := whL_inv I μ st k ρ2 n2 h2 (by omega)
      refine ⟨ρ', n', n0, ?_, h3, h4, h5⟩
      rw [e0, if_pos rfl, bnd_app, e2, bd_ok]
      exact e3
end Mi

end

section
set_option Elab.async false
set_option linter.all false
set_option maxRecDepth 100000
set_option maxHeartbeats 4000000
/-! what each def of law_k11_whole_things means -/
namespace Lk11
open PySem PySem.Spec L2 Mi
def raised : List Str := ["BadTable", "BadThing"]
def isx_BadLeading (c : Str) : Option Bool := if ranked raised c = true then some (decide (c = "BadLeading")) else none
def isx_BadNumber (c : Str) : Option Bool := if ranked raised c = true then some (decide (c = "BadNumber")) else none
def isx_BadParting (c : Str) : Option Bool := if ranked raised c = true then some (decide (c = "BadParting")) else none
def isx_BadSaying (c : Str) : Option Bool := if ranked raised c = true then some (decide (c = "BadSaying")) else none
def isx_BadTable (c : Str) : Option Bool := if ranked raised c = true then some (decide (c = "BadTable")) else none
def isx_BadText (c : Str) : Option Bool := if ranked raised c = true then some (decide (c = "BadText")) else none
def isx_BadThing (c : Str) : Option Bool := if ranked raised c = true then some (decide (c = "BadThing")) else none
def isx_TooGreat (c : Str) : Option Bool := if ranked raised c = true then some (decide (c = "TooGreat")) else none
def isx_ValueError (c : Str) : Option Bool := if ranked raised c = true then some true else none
/-- 0 table, 1 size, 2 row, 3 thing -/
def b_look_table : MS :=
    (sSeq (sSet 1 (eCall (arg1 dLen) (aCons (eVar 0) aNil)))
    (sSeq (sIf (bOr (bNot (tB (e3 dLe dLe (eC (.int 1)) (eVar 1) (eC (.int 6))))) (bNot (tT (eCall (arg1 (gAll fun bs => bs.all id)) (aCons (eL (lComp (iSeq (eVar 0)) (.nm 2) [2] tYesM (e2 dEq (eCall (arg1 dLen) (aCons (eVar 2) aNil)) (eVar 1)))) aNil)))))
    (sRaise "BadTable")
    sNx)
    (sIf (bNot (tT (eCall (arg1 (gAll fun bs => bs.all id)) (aCons (eL (lComp (iSeq (eVar 0)) (.nm 2) [2] tYesM (eCall (arg1 (gAll fun bs => bs.all id)) (aCons (eL (lComp (iSeq (eVar 2)) (.nm 3) [3] tYesM (e3 dLe dLt (eC (.int 0)) (eVar 3) (eVar 1)))) aNil)))) aNil))))
    (sRaise "BadTable")
    sNx)))
def f_look_table : List D → M D := run 4 b_look_table
/-- 0 table, 1 thing -/
def b_look_thing : MS :=
    (sIf (bNot (tB (e3 dLe dLt (eC (.int 0)) (eVar 1) (eCall (arg1 dLen) (aCons (eVar 0) aNil)))))
    (sRaise "BadThing")
    sNx)
def f_look_thing : List D → M D := run 2 b_look_thing
/-- 0 table, 1 some, 2 thing -/
def b_look_things : MS :=
    (sSeq (sDrop (eFn 1 f_look_table (aCons (eVar 0) aNil)))
    (sFor (iSeq (eVar 1)) (.nm 2)
    (sDrop (eFn 2 f_look_thing (aCons (eVar 0) (aCons (eVar 2) aNil))))))
def f_look_things : List D → M D := run 3 b_look_things
/-- 0 table, 1 k, 2 row -/
def b_turned : MS :=
    (sSeq (sDrop (eFn 1 f_look_table (aCons (eVar 0) aNil)))
    (sRet (eCall (arg1 gTuple) (aCons (eL (lComp (iRange1 (aCons (eCall (arg1 dLen) (aCons (eVar 0) aNil)) aNil)) (.nm 1) [1] tYesM (eCall (arg1 gTuple) (aCons (eL (lComp (iSeq (eVar 0)) (.nm 2) [2] tYesM (e2 dIx (eVar 2) (eVar 1)))) aNil)))) aNil))))
def f_turned : List D → M D := run 3 b_turned
/-- 0 table, 1 thing -/
def b_idle : MS :=
    (sSeq (sDrop (eFn 1 f_look_table (aCons (eVar 0) aNil)))
    (sRet (eL (lComp (iRange1 (aCons (eCall (arg1 dLen) (aCons (eVar 0) aNil)) aNil)) (.nm 1) [1] (tB (e2 dEq (e2 dIx (e2 dIx (eVar 0) (eVar 1)) (eVar 1)) (eVar 1))) (eVar 1)))))
def f_idle : List D → M D := run 2 b_idle
/-- 0 table, 1 every, 2 left, 3 right, 4 thing, 5 row -/
def b_units : MS :=
    (sSeq (sDrop (eFn 1 f_look_table (aCons (eVar 0) aNil)))
    (sSeq (sSet 1 (eL (lRg1 (eCall (arg1 dLen) (aCons (eVar 0) aNil)))))
    (sSeq (sSet 2 (eL (lComp (iSeq (eVar 1)) (.nm 4) [4] (tB (e2 dEq (eL (lCall (arg1 gList) (aCons (e2 dIx (eVar 0) (eVar 4)) aNil))) (eVar 1))) (eVar 4))))
    (sSeq (sSet 3 (eL (lComp (iSeq (eVar 1)) (.nm 4) [4] (tB (e2 dEq (eL (lComp (iSeq (eVar 0)) (.nm 5) [5] tYesM (e2 dIx (eVar 5) (eVar 4)))) (eVar 1))) (eVar 4))))
    (sRet (eTup (aCons (eVar 2) (aCons (eVar 3) aNil))))))))
def f_units : List D → M D := run 6 b_units
/-- 0 table, 1 every, 2 left, 3 right, 4 thing, 5 other -/
def b_noughts : MS :=
    (sSeq (sDrop (eFn 1 f_look_table (aCons (eVar 0) aNil)))
    (sSeq (sSet 1 (eL (lRg1 (eCall (arg1 dLen) (aCons (eVar 0) aNil)))))
    (sSeq (sSet 2 (eL (lComp (iSeq (eVar 1)) (.nm 4) [4] (tT (eCall (arg1 (gAll fun bs => bs.all id)) (aCons (eL (lComp (iSeq (eVar 1)) (.nm 5) [5] tYesM (e2 dEq (e2 dIx (e2 dIx (eVar 0) (eVar 4)) (eVar 5)) (eVar 4)))) aNil))) (eVar 4))))
    (sSeq (sSet 3 (eL (lComp (iSeq (eVar 1)) (.nm 4) [4] (tT (eCall (arg1 (gAll fun bs => bs.all id)) (aCons (eL (lComp (iSeq (eVar 1)) (.nm 5) [5] tYesM (e2 dEq (e2 dIx (e2 dIx (eVar 0) (eVar 5)) (eVar 4)) (eVar 4)))) aNil))) (eVar 4))))
    (sRet (eTup (aCons (eVar 2) (aCons (eVar 3) aNil))))))))
def f_noughts : List D → M D := run 6 b_noughts
/-- 0 table, 1 thing, 2 found, 3 here -/
def b_power_row : MS :=
    (sSeq (sDrop (eFn 2 f_look_things (aCons (eVar 0) (aCons (eL (lLst (aCons (eVar 1) aNil))) aNil))))
    (sSeq (sOwn 2 (lLst (aCons (eVar 1) aNil)))
    (sSeq (sSet 3 (e2 dIx (e2 dIx (eVar 0) (eVar 1)) (eVar 1)))
    (sSeq (sWhile 4096 (bBo 2 (tB (e2 (dIn true) (eVar 3) (eVar 2))))
    (sSeq (sApp 2 (eVar 3))
    (sSet 3 (e2 dIx (e2 dIx (eVar 0) (eVar 3)) (eVar 1)))))
    (sFz 2 (sRet (eTup (aCons (eVar 2) (aCons (eIdx (eVar 2) (eVar 3)) aNil)))))))))
def f_power_row : List D → M D := run 4 b_power_row
/-- 0 _law_script, 1 _law_k -/
def b_law_cell : MS :=
    (sSeq (sIf (tT (eVar 0))
    (sRet (e2 dIx (eVar 0) (e2 dMod (eVar 1) (eCall (arg1 dLen) (aCons (eVar 0) aNil)))))
    sNx)
    (sRet (eC (.int 0))))
def f_law_cell : List D → M D := run 2 b_law_cell
/-- 0 _law_script, 1 _law_k, 2 _law_number -/
def b_law_mix : MS :=
    (sSeq (sSet 2 (e2 dMod (e2 dAdd (eFn 2 f_law_cell (aCons (eVar 0) (aCons (eVar 1) aNil))) (e2 dMulI (eC (.int 104729)) (e2 dAdd (eVar 1) (eC (.int 1))))) (eC (.int 4294967291))))
    (sSeq (sSet 2 (e2 dMod (e2 dPow (eVar 2) (eC (.int 5))) (eC (.int 4294967279))))
    (sRet (e2 dMod (e2 dAdd (e2 dMulI (e2 dFdiv (eVar 2) (eC (.int 64))) (eC (.int 69621))) (eVar 2)) (eC (.int 4294967231))))))
def f_law_mix : List D → M D := run 3 b_law_mix
/-- 0 _law_script, 1 _law_town, 2 _law_many -/
def b_law_draw : MS :=
    (sSeq (sTown 1)
    (sRet (e2 dMod (e2 dFdiv (eFn 2 f_law_mix (aCons (eVar 0) (aCons (eCall (arg1 dLen) (aCons (eVar 1) aNil)) aNil))) (eC (.int 8))) (eVar 2))))
def f_law_draw : List D → M D := run 3 b_law_draw
/-- 0 _law_caught, 1 _law_kinds, 2 _law_words -/
def b_law_refusal : MS :=
    (sSeq (sIf (tB (e2 dIs (eVar 0) (eC .none)))
    (sRet (eTup (aCons (eC (.str "ok")) aNil)))
    sNx)
    (sSeq (sSet 1 (eL (lLst (aCons (eIsX isx_BadTable (eVar 0)) (aCons (eIsX isx_BadThing (eVar 0)) (aCons (eIsX isx_BadParting (eVar 0)) aNil))))))
    (sSeq (sSet 1 (e2 dAdd (eVar 1) (eL (lLst (aCons (eIsX isx_BadSaying (eVar 0)) (aCons (eIsX isx_BadLeading (eVar 0)) (aCons (eIsX isx_BadNumber (eVar 0)) aNil)))))))
    (sSeq (sSet 1 (e2 dAdd (eVar 1) (eL (lLst (aCons (eIsX isx_TooGreat (eVar 0)) (aCons (eIsX isx_BadText (eVar 0)) aNil))))))
    (sSeq (sIf (bOr (tB (e2 dNe (eCnt (eVar 1) (eC (.bool true))) (eC (.int 1)))) (bNot (tT (eIsX isx_ValueError (eVar 0)))))
    (sRet (eTup (aCons (eC (.str "wrong")) aNil)))
    sNx)
    (sSeq (sSet 2 (eL (lLst (aCons (eC (.str "table")) (aCons (eC (.str "thing")) (aCons (eC (.str "parting")) (aCons (eC (.str "saying")) (aCons (eC (.str "leading")) (aCons (eC (.str "number")) (aCons (eC (.str "great")) (aCons (eC (.str "text")) aNil)))))))))))
    (sRet (eTup (aCons (eC (.str "refused")) (aCons (e2 dIx (eVar 2) (eIdx (eVar 1) (eC (.bool true)))) aNil))))))))))
def f_law_refusal : List D → M D := run 3 b_law_refusal
/-- 0 _law_table_here, 1 _law_names, 2 _law_back, 3 _law_found, 4 _law_a, 5 _law_thing, 6 _law_b -/
def b_law_named : MS :=
    (sSeq (sSet 2 (eL (lComp (iRange1 (aCons (eCall (arg1 dLen) (aCons (eVar 1) aNil)) aNil)) (.nm 5) [5] tYesM (eIdx (eVar 1) (eVar 5)))))
    (sSeq (sOwn 3 (lLst aNil))
    (sSeq (sFor (iRange1 (aCons (eCall (arg1 dLen) (aCons (eVar 1) aNil)) aNil)) (.nm 4)
    (sApp 3 (eCall (arg1 gTuple) (aCons (eL (lComp (iRange1 (aCons (eCall (arg1 dLen) (aCons (eVar 1) aNil)) aNil)) (.nm 6) [6] tYesM (e2 dIx (eVar 1) (e2 dIx (e2 dIx (eVar 0) (e2 dIx (eVar 2) (eVar 4))) (e2 dIx (eVar 2) (eVar 6)))))) aNil))))
    (sFz 3 (sRet (eCall (arg1 gTuple) (aCons (eVar 3) aNil)))))))
def f_law_named : List D → M D := run 7 b_law_named
/-- 0 _law_script, 1 _law_town, 2 _law_most, 3 _law_size, 4 _law_kind, 5 _law_rows, 6 _law_a, 7 _law_names, 8 _law_k, 9 _law_row, 10 _law_b, 11 _law_at, 12 _law_some -/
def b_law_table : MS :=
    (sSeq (sSet 3 (e2 dAdd (eC (.int 1)) (eFn 3 f_law_draw (aCons (eVar 0) (aCons (eVar 1) (aCons (eVar 2) aNil))))))
    (sSeq (sSet 4 (eFn 3 f_law_draw (aCons (eVar 0) (aCons (eVar 1) (aCons (eC (.int 8)) aNil)))))
    (sSeq (sOwn2 5 (lLst aNil))
    (sSeq (sFor (iRange1 (aCons (eVar 3) aNil)) (.nm 6)
    (sSeq (sOwn 9 (lLst aNil))
    (sSeq (sFor (iRange1 (aCons (eVar 3) aNil)) (.nm 10)
    (sSeq (sSet 12 (eL (lLst (aCons (e2 dMod (e2 dAdd (eVar 6) (eVar 10)) (eVar 3)) (aCons (eCall (arg2 gMin2) (aCons (eVar 6) (aCons (eVar 10) aNil))) (aCons (eCall (arg2 gMax2) (aCons (eVar 6) (aCons (eVar 10) aNil))) (aCons (eVar 6) (aCons (eVar 10) (aCons (e2 dMod (e2 dSub (eVar 6) (eVar 10)) (eVar 3)) (aCons (e2 dMod (e2 dMulI (eVar 6) (eVar 10)) (eVar 3)) aNil))))))))))
    (sApp 9 (eIf (tB (e2 dLt (eVar 4) (eC (.int 7)))) (e2 dIx (eVar 12) (eVar 4)) (eFn 3 f_law_draw (aCons (eVar 0) (aCons (eVar 1) (aCons (eVar 3) aNil))))))))
    (sApp2 5 9))))
    (sSeq (sIf (tB (e2 dEq (eFn 3 f_law_draw (aCons (eVar 0) (aCons (eVar 1) (aCons (eC (.int 3)) aNil)))) (eC (.int 0))))
    (sPut2 5 (eFn 3 f_law_draw (aCons (eVar 0) (aCons (eVar 1) (aCons (eVar 3) aNil)))) (eFn 3 f_law_draw (aCons (eVar 0) (aCons (eVar 1) (aCons (eVar 3) aNil)))) (eFn 3 f_law_draw (aCons (eVar 0) (aCons (eVar 1) (aCons (eVar 3) aNil)))))
    sNx)
    (sSeq (sOwn 7 (lRg1 (eVar 3)))
    (sSeq (sFor (iRange1 (aCons (eVar 3) aNil)) (.nm 8)
    (sSeq (sSet 11 (eFn 3 f_law_draw (aCons (eVar 0) (aCons (eVar 1) (aCons (eVar 3) aNil)))))
    (sPutP 7 (eVar 8) (eVar 11) (eBo 7 (eTup (aCons (e2 dIx (eVar 7) (eVar 11)) (aCons (e2 dIx (eVar 7) (eVar 8)) aNil)))))))
    (sFz 5 (sFz 7 (sRet (eFn 2 f_law_named (aCons (eL (lComp (iSeq (eVar 5)) (.nm 9) [9] tYesM (eCall (arg1 gTuple) (aCons (eVar 9) aNil)))) (aCons (eVar 7) aNil)))))))))))))
def f_law_table : List D → M D := run 13 b_law_table
/-- 0 _law_table_here, 1 _law_thing, 2 _law_caught, 3 _law_found, 4 e -/
def b_law_told : MS :=
    (sSeq (sSet 2 (eC .none))
    (sSeq (sSet 3 (eC .none))
    (sSeq (sTry raised 3 4 2 (eFn 2 f_power_row (aCons (eVar 0) (aCons (eVar 1) aNil))))
    (sRet (eIf (tB (e2 dIs (eVar 2) (eC .none))) (eVar 3) (eFn 1 f_law_refusal (aCons (eVar 2) aNil)))))))
def f_law_told : List D → M D := run 5 b_law_told
/-- 0 _law_script, 1 _law_town, 2 _law_table_here, 3 _law_size, 4 _law_every, 5 _law_about, 6 _law_left, 7 _law_right, 8 _law_low, 9 _law_high, 10 _law_thing, 11 _law_row, 12 _law_a, 13 _law_b -/
def b_law : MS :=
    (sSeq (sSet 2 (eFn 3 f_law_table (aCons (eVar 0) (aCons (eVar 1) (aCons (eC (.int 6)) aNil)))))
    (sSeq (sSet 3 (eCall (arg1 dLen) (aCons (eVar 2) aNil)))
    (sSeq (sSet 4 (eL (lRg1 (eVar 3))))
    (sSeq (sSet 5 (eL (lComp (iSeq (eVar 4)) (.nm 12) [12] tYesM (eL (lComp (iSeq (eVar 4)) (.nm 13) [13] tYesM (e2 dIx (e2 dIx (eVar 2) (eVar 13)) (eVar 12)))))))
    (sSeq (sIf (tB (e2 dNe (eFn 1 f_idle (aCons (eVar 2) aNil)) (eL (lComp (iSeq (eVar 4)) (.nm 10) [10] (tB (e2 dEq (e2 dIx (e2 dIx (eVar 2) (eVar 10)) (eVar 10)) (eVar 10))) (eVar 10)))))
    (sRet (eC (.bool false)))
    sNx)
    (sSeq (sSet 6 (eL (lComp (iSeq (eVar 4)) (.nm 10) [10] (tB (e2 dEq (eL (lCall (arg1 gList) (aCons (e2 dIx (eVar 2) (eVar 10)) aNil))) (eVar 4))) (eVar 10))))
    (sSeq (sSet 7 (eL (lComp (iSeq (eVar 4)) (.nm 10) [10] (tB (e2 dEq (e2 dIx (eVar 5) (eVar 10)) (eVar 4))) (eVar 10))))
    (sSeq (sIf (bOr (tB (e2 dNe (eFn 1 f_units (aCons (eVar 2) aNil)) (eTup (aCons (eVar 6) (aCons (eVar 7) aNil))))) (bAnd (tB (e2 dGt (eCall (arg1 dLen) (aCons (eVar 6) aNil)) (eC (.int 0)))) (bAnd (tB (e2 dGt (eCall (arg1 dLen) (aCons (eVar 7) aNil)) (eC (.int 0)))) (tB (e2 dNe (eVar 6) (eVar 7))))))
    (sRet (eC (.bool false)))
    sNx)
    (sSeq (sSet 8 (eL (lComp (iSeq (eVar 4)) (.nm 10) [10] (tB (e2 dEq (eL (lSrt (e2 dIx (eVar 2) (eVar 10)))) (eL (lLst (aCons (eVar 10) aNil))))) (eVar 10))))
    (sSeq (sSet 9 (eL (lComp (iSeq (eVar 4)) (.nm 10) [10] (tB (e2 dEq (eL (lSrt (e2 dIx (eVar 5) (eVar 10)))) (eL (lLst (aCons (eVar 10) aNil))))) (eVar 10))))
    (sSeq (sIf (bOr (tB (e2 dNe (eFn 1 f_noughts (aCons (eVar 2) aNil)) (eTup (aCons (eVar 8) (aCons (eVar 9) aNil))))) (bOr (tB (e2 dNe (eFn 1 f_units (aCons (eFn 1 f_turned (aCons (eVar 2) aNil)) aNil)) (eTup (aCons (eVar 7) (aCons (eVar 6) aNil))))) (tB (e2 dNe (eFn 1 f_noughts (aCons (eFn 1 f_turned (aCons (eVar 2) aNil)) aNil)) (eTup (aCons (eVar 9) (aCons (eVar 8) aNil)))))))
    (sRet (eC (.bool false)))
    sNx)
    (sSeq (sFor (iSeq (eVar 4)) (.nm 10)
    (sSeq (sOwn 11 (lLst (aCons (eVar 10) aNil)))
    (sSeq (sWhile 4096 (bBo 11 (tB (e2 (dIn true) (e2 dIx (e2 dIx (eVar 2) (e2 dIx (eVar 11) (eNeg (eC (.int 1))))) (eVar 10)) (eVar 11))))
    (sApp 11 (eBo 11 (e2 dIx (e2 dIx (eVar 2) (e2 dIx (eVar 11) (eNeg (eC (.int 1))))) (eVar 10)))))
    (sFz 11 (sIf (tB (e2 dNe (eFn 2 f_law_told (aCons (eVar 2) (aCons (eVar 10) aNil))) (eTup (aCons (eVar 11) (aCons (eIdx (eVar 11) (e2 dIx (e2 dIx (eVar 2) (e2 dIx (eVar 11) (eNeg (eC (.int 1))))) (eVar 10))) aNil)))))
    (sRet (eC (.bool false)))
    sNx)))))
    (sRet (e2 dEq (eL (lComp (iSeq (eTup (aCons (eNeg (eC (.int 1))) (aCons (eVar 3) aNil)))) (.nm 10) [10] tYesM (eFn 2 f_law_told (aCons (eVar 2) (aCons (eVar 10) aNil))))) (eL (lRep (eL (lLst (aCons (eTup (aCons (eC (.str "refused")) (aCons (eC (.str "thing")) aNil))) aNil))) (eC (.int 2))))))))))))))))))
end Lk11

end

section
namespace Lk11
open PySem PySem.Spec L2 Mi
set_option maxRecDepth 100000
set_option linter.all false
/-! ### the law's draws: any number below the bound, the town longer by one -/
theorem atI_ok {α : Type} {xs : List α} {i : Int} (h0 : 0 ≤ i) (h1 : i < xs.length) : ∃ x, atI xs i = some x ∧ xs[i.toNat]? = some x := by
  have hl : i.toNat < xs.length := by omega
  refine ⟨xs[i.toNat], ?_, List.getElem?_eq_getElem hl⟩
  unfold L2.atI L2.ixN
  rw [if_pos h0, if_pos h1]
  exact List.getElem?_eq_getElem hl
theorem cell_ok (ns : List Int) (k : Nat) (n : Nat) : ∃ c : Int, f_law_cell [scrD ns, .int (k : Int)] n = .ok (.int c) n := by
  cases ns with
  | nil => exact ⟨0, rfl⟩
  | cons a r =>
    obtain ⟨x, e, m⟩ := atI_ok (xs := PyData.int a :: r.map PyData.int) (i := (k : Int) % ((r.length : Int) + 1)) (Int.emod_nonneg _ (by omega)) (by
      rw [List.length_cons, List.length_map]
      exact Int.emod_lt_of_pos _ (by omega))
    have hx : ∃ c, x = PyData.int c := by
      have := List.mem_of_getElem? m
      rcases List.mem_cons.mp this with e | e
      · exact ⟨a, e⟩
      · obtain ⟨c, _, rfl⟩ := List.mem_map.mp e
        exact ⟨c, rfl⟩
    obtain ⟨c, rfl⟩ := hx
    refine ⟨c, ?_⟩
    simp [f_law_cell, b_law_cell, startE, e]
theorem mix_ok (ns : List Int) (k : Nat) (n : Nat) : ∃ m : Int, 0 ≤ m ∧ f_law_mix [scrD ns, .int (k : Int)] n = .ok (.int m) n := by
  obtain ⟨c, hc⟩ := cell_ok ns k n
  have h1 : 0 ≤ (c + 104729 * ((k : Int) + 1)) % 4294967291 := Int.emod_nonneg _ (by omega)
  have h2 : (c + 104729 * ((k : Int) + 1)) % 4294967291 < 4294967291 := Int.emod_lt_of_pos _ (by omega)
  have h3 : 0 ≤ ((c + 104729 * ((k : Int) + 1)) % 4294967291) ^ 5 % 4294967279 := Int.emod_nonneg _ (by omega)
  have h4 : ((c + 104729 * ((k : Int) + 1)) % 4294967291) ^ 5 % 4294967279 < 4294967279 := Int.emod_lt_of_pos _ (by omega)
  generalize hx : (c + 104729 * ((k : Int) + 1)) % 4294967291 = x at h1 h2 h3 h4
  generalize hy : x ^ 5 % 4294967279 = y at h3 h4
  refine ⟨(y / 64 * 69621 + y) % 4294967231, Int.emod_nonneg _ (by omega), ?_⟩
  have b1 : x.natAbs < 18446744073709551616 := by omega
  simp [f_law_mix, b_law_mix, startE, hc, hx, b1, hy]
theorem draw_ok (ns : List Int) (many n : Nat) (hm : 1 ≤ many) (hn : n < 1000000) : ∃ x : Nat, x < many ∧ f_law_draw [scrD ns, townD, .int (many : Int)] n = .ok (.int (x : Int)) (n + 1) := by
  obtain ⟨m, hm0, e⟩ := mix_ok ns (n + 1) (n + 1)
  have h1 : 0 ≤ m / 8 % (many : Int) := Int.emod_nonneg _ (by omega)
  have h2 : m / 8 % (many : Int) < many := Int.emod_lt_of_pos _ (by omega)
  obtain ⟨x, hx⟩ : ∃ x : Nat, m / 8 % (many : Int) = x := ⟨_, (Int.toNat_of_nonneg h1).symm⟩
  refine ⟨x, by omega, ?_⟩
  have e' : f_law_mix [scrD ns, .int ((n : Int) + 1)] (n + 1) = .ok (.int m) (n + 1) := by
    have := e
    simpa using this
  have hz : n < sizeLine := by rw [sizeLine_eq]; omega
  have ht : isTown townD = true := rfl
  have st : sTown 1 [.fz (scrD ns), .fz townD, .fz (.int (many : Int))] n = .ok ([.fz (scrD ns), .fz townD, .fz (.int (many : Int))], .nx) (n + 1) := by
    simp [sTown, ht, Mi.bump, hz]
  simp [f_law_draw, b_law_draw, startE, st, e', hm0, hx, (show 0 < many from hm)]
/-! ### the law's tables -/
def namedT (T : List (List Nat)) (nm : List Nat) : List (List Nat) := (List.range nm.length).map fun a => (List.range nm.length).map fun b => nm.getD (cellT T (nm.idxOf a) (nm.idxOf b)) 0
/-- names of s things: each once -/
structure Nms (s : Nat) (nm : List Nat) : Prop where
  len : nm.length = s
  mem : ∀ i, i ∈ nm ↔ i < s
theorem Nms.ix {s : Nat} {nm : List Nat} (h : Nms s nm) {i : Nat} (hi : i < s) : nm.idxOf i < s := by
  have := List.idxOf_lt_length_of_mem ((h.mem i).mpr hi)
  rw [h.len] at this
  exact this
theorem Nms.get {s : Nat} {nm : List Nat} (h : Nms s nm) {i : Nat} (hi : i < s) : nm[i]? = some (nm.getD i 0) ∧ nm.getD i 0 < s := by
  have hl : i < nm.length := by rw [h.len]; exact hi
  have e : nm[i]? = some (nm.getD i 0) := by
    rw [List.getD_eq_getElem?_getD, List.getElem?_eq_getElem hl]
    rfl
  exact ⟨e, (h.mem _).mp (List.mem_of_getElem? e)⟩
theorem namedT_tb {s : Nat} {T : List (List Nat)} {nm : List Nat} (t : Tb s T) (h : Nms s nm) : Tb s (namedT T nm) where
  len := by unfold namedT; rw [List.length_map, List.length_range, h.len]
  row := fun r hr => by
    unfold namedT at hr
    obtain ⟨a, ha, rfl⟩ := List.mem_map.mp hr
    have ha : a < s := by rw [← h.len]; simpa using ha
    refine ⟨by rw [List.length_map, List.length_range, h.len], fun x hx => ?_⟩
    obtain ⟨b, hb, rfl⟩ := List.mem_map.mp hx
    have hb : b < s := by rw [← h.len]; simpa using hb
    exact (h.get (t.cell (h.ix ha) (h.ix hb)).2).2
theorem named_ok {s : Nat} {T : List (List Nat)} {nm : List Nat} {d : D} (t : Tb s T) (h : Nms s nm) (hs : s ≤ 100) (hix : ∀ i : Nat, dIx d (natD i) = ofOpt ((T.map rowD)[i]?)) (n : Nat) :
    f_law_named [d, .list (nm.map natD)] n = .ok (tabD (namedT T nm)) n := by
  have hl := h.len
  let bk : D := .list ((List.range s).map fun i => natD (nm.idxOf i))
  let rw' : Nat → D := fun a => rowD ((List.range s).map fun b => nm.getD (cellT T (nm.idxOf a) (nm.idxOf b)) 0)
  have hlen : (nm.map natD).length = s := by rw [List.length_map, hl]
  have hr : ∀ ρ : Mi.Env, ρ.at 1 = .fz (.list (nm.map natD)) → iRange1 (aCons (eCall (arg1 dLen) (aCons (eVar 1) aNil)) aNil) ρ n = .ok ((List.range s).map natD) n := fun ρ e => by
    rw [← hlen]
    exact rng_ok (lenL_ok (by rw [eVar_app, e]; rfl)) (by rw [hlen]; omega)
  have h1 : lComp (iRange1 (aCons (eCall (arg1 dLen) (aCons (eVar 1) aNil)) aNil)) (.nm 5) [5] tYesM (eIdx (eVar 1) (eVar 5)) [.fz d, .fz (.list (nm.map natD)), .no, .no, .no, .no, .no] n = .ok ((List.range s).map fun i => natD (nm.idxOf i)) n :=
    lComp_map natD (List.range s) _ (hr _ rfl) (fun x hx => eIdx_at (α := Nat) (by decide) (n1 := n) (xs := nm) rfl rfl ((h.mem x).mpr (by simpa using hx)) (by omega)) (by simp; omega)
  obtain ⟨ρ', n', h2, hn, x4, e⟩ := forL_range (s := s) (i := 4) (body := sApp 3 (eCall (arg1 gTuple) (aCons (eL (lComp (iRange1 (aCons (eCall (arg1 dLen) (aCons (eVar 1) aNil)) aNil)) (.nm 6) [6] tYesM (e2 dIx (eVar 1) (e2 dIx (e2 dIx (eVar 0) (e2 dIx (eVar 2) (eVar 4))) (e2 dIx (eVar 2) (eVar 6)))))) aNil)))
    (fun k ρ m => m = n ∧ ∃ x4, ρ = [.fz d, .fz (.list (nm.map natD)), .fz bk, .ow ((List.range k).map rw'), x4, .no, .no])
    (ρ := [.fz d, .fz (.list (nm.map natD)), .fz bk, .ow [], .no, .no, .no]) (n := n) ⟨rfl, .no, rfl⟩ (by
      rintro x ρ m hx ⟨rfl, x4, rfl⟩
      refine ⟨_, _, sApp_ok (ds := (List.range x).map rw') (d := rw' x) rfl (tupC_ok ?_) (by simp; omega), rfl, .fz (natD x), ?_⟩
      · rw [List.map_map]
        exact lComp_map natD (List.range s) _ (hr _ rfl) (fun y hy => by
          have hy : y < s := by simpa using hy
          refine ixL_ok (i := cellT T (nm.idxOf x) (nm.idxOf y)) rfl (ixT_ok (i := nm.idxOf y) (ds := (T.getD (nm.idxOf x) []).map natD) (ixD_ok (i := nm.idxOf x) rfl (ixL_ok rfl rfl (map_get _ (range_at hx))) (by rw [hix, t.ixRow (h.ix hx)]; rfl)) (ixL_ok rfl rfl (map_get _ (range_at hy))) (t.ixCell (h.ix hx) (h.ix hy))) ?_
          exact map_get _ (h.get (t.cell (h.ix hx) (h.ix hy)).2).1) (by simp; omega)
      · rw [snoc_range]
        rfl)
  subst hn e
  have e0 : tabD (namedT T nm) = .tuple ((List.range s).map rw') := by
    unfold tabD namedT
    rw [List.map_map, hl]
    rfl
  rw [e0]
  have h1' : eL (lComp (iRange1 (aCons (eCall (arg1 dLen) (aCons (eVar 1) aNil)) aNil)) (.nm 5) [5] tYesM (eIdx (eVar 1) (eVar 5))) [.fz d, .fz (.list (nm.map natD)), .no, .no, .no, .no, .no] n' = .ok bk n' := by
    rw [eL_app, h1, bd_ok]
    rfl
  have hf := sFor_ok (f := sApp 3 (eCall (arg1 gTuple) (aCons (eL (lComp (iRange1 (aCons (eCall (arg1 dLen) (aCons (eVar 1) aNil)) aNil)) (.nm 6) [6] tYesM (e2 dIx (eVar 1) (e2 dIx (e2 dIx (eVar 0) (e2 dIx (eVar 2) (eVar 4))) (e2 dIx (eVar 2) (eVar 6)))))) aNil))) (p := .nm 4)
    (hr [.fz d, .fz (.list (nm.map natD)), .fz bk, .ow [], .no, .no, .no] rfl)
  rw [h2] at hf
  have hw : sOwn 3 (lLst aNil) [.fz d, .fz (.list (nm.map natD)), .fz bk, .no, .no, .no, .no] n' = .ok ([.fz d, .fz (.list (nm.map natD)), .fz bk, .ow [], .no, .no, .no], .nx) n' := by simp
  simp only [f_law_named, run_app, b_law_named, sSeq_app, sSet_app]
  rw [show startE 7 [d, .list (nm.map natD)] = [.fz d, .fz (.list (nm.map natD)), .no, .no, .no, .no, .no] from rfl, h1', bd_ok, pure_app, seqR_nx]
  simp only [sSeq_app, List.set]
  rw [hw, seqR_nx, sSeq_app, hf, seqR_nx]
  rfl
theorem swap_nms {s : Nat} {nm : List Nat} (h : Nms s nm) {i j : Nat} (hi : i < s) (hj : j < s) : Nms s ((nm.set i (nm.getD j 0)).set j (nm.getD i 0)) where
  len := by rw [List.length_set, List.length_set, h.len]
  mem := fun x => by
    rw [← h.mem x]
    have li : i < nm.length := by rw [h.len]; exact hi
    have lj : j < nm.length := by rw [h.len]; exact hj
    have gi := (h.get hi).1
    have gj := (h.get hj).1
    constructor
    · intro hx
      obtain ⟨p, hp⟩ := List.mem_iff_getElem?.mp hx
      by_cases e : p = j
      · subst e
        rw [List.getElem?_set_self (by rw [List.length_set]; exact lj)] at hp
        cases hp
        exact List.mem_of_getElem? gi
      · rw [List.getElem?_set_ne (Ne.symm e)] at hp
        by_cases e2 : p = i
        · subst e2
          rw [List.getElem?_set_self li] at hp
          cases hp
          exact List.mem_of_getElem? gj
        · rw [List.getElem?_set_ne (Ne.symm e2)] at hp
          exact List.mem_of_getElem? hp
    · intro hx
      obtain ⟨p, hp⟩ := List.mem_iff_getElem?.mp hx
      by_cases e : p = i
      · subst e
        rw [gi] at hp
        cases hp
        exact List.mem_iff_getElem?.mpr ⟨j, List.getElem?_set_self (by rw [List.length_set]; exact lj)⟩
      · by_cases e2 : p = j
        · subst e2
          rw [gj] at hp
          cases hp
          refine List.mem_iff_getElem?.mpr ⟨i, ?_⟩
          rw [List.getElem?_set_ne e, List.getElem?_set_self li]
        · refine List.mem_iff_getElem?.mpr ⟨p, ?_⟩
          rw [List.getElem?_set_ne (Ne.symm e2), List.getElem?_set_ne (Ne.symm e)]
          exact hp
theorem range_nms (s : Nat) : Nms s (List.range s) := ⟨List.length_range, fun i => List.mem_range⟩
/-- f(script, town, e) as it stands in the law's defs -/
theorem drawE {ns : List Int} {ρ : Mi.Env} {n : Nat} {i j : Nat} {fa : Mi.Env → M D} {many : Nat} (h0 : ρ.at i = .fz (scrD ns)) (h1 : ρ.at j = .fz townD) (ha : fa ρ n = .ok (natD many) n) (hm : 1 ≤ many) (hn : n < 1000000) :
    ∃ x : Nat, x < many ∧ eFn 3 f_law_draw (aCons (eVar i) (aCons (eVar j) (aCons fa aNil))) ρ n = .ok (natD x) (n + 1) := by
  obtain ⟨x, hx, e⟩ := draw_ok ns many n hm hn
  refine ⟨x, hx, ?_⟩
  simp [h0, h1, ha, e]
def rowsL (R : List (List Nat)) : List (List D) := R.map fun r => r.map natD
theorem some_ok {ρ : Mi.Env} {n s a b : Nat} (hs : 1 ≤ s) (ha : a < s) (hb : b < s) (h3 : ρ.at 3 = .fz (natD s)) (h6 : ρ.at 6 = .fz (natD a)) (h10 : ρ.at 10 = .fz (natD b)) (hs2 : s ≤ 100) :
    ∃ ys : List Nat, ys.length = 7 ∧ (∀ y ∈ ys, y < s) ∧
      eL (lLst (aCons (e2 dMod (e2 dAdd (eVar 6) (eVar 10)) (eVar 3)) (aCons (eCall (arg2 gMin2) (aCons (eVar 6) (aCons (eVar 10) aNil))) (aCons (eCall (arg2 gMax2) (aCons (eVar 6) (aCons (eVar 10) aNil))) (aCons (eVar 6) (aCons (eVar 10) (aCons (e2 dMod (e2 dSub (eVar 6) (eVar 10)) (eVar 3)) (aCons (e2 dMod (e2 dMulI (eVar 6) (eVar 10)) (eVar 3)) aNil)))))))) ρ n = .ok (.list (ys.map natD)) n := by
  obtain ⟨z, hz, _, ez⟩ := modI (n := n) (a := (a : Int) - b) (s := s) (by omega)
  refine ⟨[(a + b) % s, min a b, max a b, a, b, z, a * b % s], rfl, ?_, ?_⟩
  · intro y hy
    simp only [List.mem_cons, List.not_mem_nil, or_false] at hy
    rcases hy with rfl | rfl | rfl | rfl | rfl | rfl | rfl
    · exact Nat.mod_lt _ (by omega)
    · omega
    · omega
    · exact ha
    · exact hb
    · omega
    · exact Nat.mod_lt _ (by omega)
  · have v3 := var_ok (n := n) h3
    have v6 := var_ok (n := n) h6
    have v10 := var_ok (n := n) h10
    exact eL_ok (lst_ok (cons_ok (e2_ok (e2_ok v6 v10 (addN a b)) v3 (modN (by omega))) (cons_ok (call2_ok v6 v10 (minN a b)) (cons_ok (call2_ok v6 v10 (maxN a b)) (cons_ok v6 (cons_ok v10 (cons_ok (e2_ok (e2_ok v6 v10 rfl) v3 ez)
      (cons_ok (e2_ok (e2_ok v6 v10 (mulN (by omega))) v3 (modN (by omega))) rfl))))))) (by simp))
/-- the rows as they are drawn -/
def RowsOk (s k : Nat) (R : List (List Nat)) : Prop := R.length = k ∧ ∀ r ∈ R, r.length = s ∧ ∀ x ∈ r, x < s
def envT (ns : List Int) (most s kd : Nat) (v5 v6 v7 v8 v9 v10 v11 v12 : Sl) : Mi.Env := [.fz (scrD ns), .fz townD, .fz (natD most), .fz (natD s), .fz (natD kd), v5, v6, v7, v8, v9, v10, v11, v12]
theorem rowLoop_ok (ns : List Int) (most s kd a n : Nat) (hs : 1 ≤ s) (hs2 : s ≤ 6) (ha : a < s) (R : List (List Nat)) (v8 v10 v11 v12 : Sl) (hn : n < 900000) :
    ∃ (w : List Nat) (u10 u12 : Sl) (n' : Nat), w.length = s ∧ (∀ x ∈ w, x < s) ∧ n' ≤ n + s ∧
      sFor (iRange1 (aCons (eVar 3) aNil)) (.nm 10)
    (sSeq (sSet 12 (eL (lLst (aCons (e2 dMod (e2 dAdd (eVar 6) (eVar 10)) (eVar 3)) (aCons (eCall (arg2 gMin2) (aCons (eVar 6) (aCons (eVar 10) aNil))) (aCons (eCall (arg2 gMax2) (aCons (eVar 6) (aCons (eVar 10) aNil))) (aCons (eVar 6) (aCons (eVar 10) (aCons (e2 dMod (e2 dSub (eVar 6) (eVar 10)) (eVar 3)) (aCons (e2 dMod (e2 dMulI (eVar 6) (eVar 10)) (eVar 3)) aNil))))))))))
    (sApp 9 (eIf (tB (e2 dLt (eVar 4) (eC (.int 7)))) (e2 dIx (eVar 12) (eVar 4)) (eFn 3 f_law_draw (aCons (eVar 0) (aCons (eVar 1) (aCons (eVar 3) aNil)))))))
      (envT ns most s kd (.ow2 (rowsL R)) (.fz (natD a)) .no v8 (.ow []) v10 v11 v12) n = .ok (envT ns most s kd (.ow2 (rowsL R)) (.fz (natD a)) .no v8 (.ow (w.map natD)) u10 v11 u12, .nx) n' := by
  obtain ⟨ρ', n', e, hn', w, u10, u12, hw, hwx, rfl⟩ := forL_range (s := s) (i := 10) (body := sSeq (sSet 12 (eL (lLst (aCons (e2 dMod (e2 dAdd (eVar 6) (eVar 10)) (eVar 3)) (aCons (eCall (arg2 gMin2) (aCons (eVar 6) (aCons (eVar 10) aNil))) (aCons (eCall (arg2 gMax2) (aCons (eVar 6) (aCons (eVar 10) aNil))) (aCons (eVar 6) (aCons (eVar 10) (aCons (e2 dMod (e2 dSub (eVar 6) (eVar 10)) (eVar 3)) (aCons (e2 dMod (e2 dMulI (eVar 6) (eVar 10)) (eVar 3)) aNil))))))))))
    (sApp 9 (eIf (tB (e2 dLt (eVar 4) (eC (.int 7)))) (e2 dIx (eVar 12) (eVar 4)) (eFn 3 f_law_draw (aCons (eVar 0) (aCons (eVar 1) (aCons (eVar 3) aNil)))))))
    (fun k ρ m => m ≤ n + k ∧ ∃ (w : List Nat) (u10 u12 : Sl), w.length = k ∧ (∀ x ∈ w, x < s) ∧ ρ = envT ns most s kd (.ow2 (rowsL R)) (.fz (natD a)) .no v8 (.ow (w.map natD)) u10 v11 u12)
    (ρ := envT ns most s kd (.ow2 (rowsL R)) (.fz (natD a)) .no v8 (.ow []) v10 v11 v12) (n := n) ⟨by omega, [], v10, v12, rfl, (fun _ h => nomatch h), rfl⟩ (by
      rintro b ρ m hb ⟨hm, w, u10, u12, hw, hwx, rfl⟩
      obtain ⟨ys, hy7, hys, ey⟩ := some_ok (n := m) (ρ := (envT ns most s kd (.ow2 (rowsL R)) (.fz (natD a)) .no v8 (.ow (w.map natD)) u10 v11 u12).set 10 (.fz (natD b))) hs ha hb rfl rfl rfl (by omega)
      obtain ⟨x, m', hx, hm', ex⟩ : ∃ x m', x < s ∧ m' ≤ m + 1 ∧ eIf (tB (e2 dLt (eVar 4) (eC (.int 7)))) (e2 dIx (eVar 12) (eVar 4)) (eFn 3 f_law_draw (aCons (eVar 0) (aCons (eVar 1) (aCons (eVar 3) aNil))))
          (((envT ns most s kd (.ow2 (rowsL R)) (.fz (natD a)) .no v8 (.ow (w.map natD)) u10 v11 u12).set 10 (.fz (natD b))).set 12 (.fz (.list (ys.map natD)))) m = .ok (natD x) m' := by
        by_cases hk : kd < 7
        · have hl : kd < ys.length := by omega
          refine ⟨ys[kd], m, hys _ (List.getElem_mem hl), by omega, ifE_ok (tB_ok (e2_ok rfl rfl (ltN kd 7))) ?_⟩
          rw [if_pos (decide_eq_true hk)]
          exact ixL_ok rfl rfl (map_get _ (List.getElem?_eq_getElem hl))
        · obtain ⟨x, hx, ex⟩ := drawE (i := 0) (j := 1) (fa := eVar 3) (ρ := ((envT ns most s kd (.ow2 (rowsL R)) (.fz (natD a)) .no v8 (.ow (w.map natD)) u10 v11 u12).set 10 (.fz (natD b))).set 12 (.fz (.list (ys.map natD)))) (n := m) (many := s) rfl rfl rfl hs (by omega)
          refine ⟨x, m + 1, hx, by omega, ifE_ok (tB_ok (e2_ok rfl rfl (ltN kd 7))) ?_⟩
          rw [if_neg (by simpa using hk)]
          exact ex
      refine ⟨_, _, seq_ok (set_ok ey) (sApp_ok (ds := w.map natD) rfl ex (by simp; omega)), by omega, w ++ [x], .fz (natD b), .fz (.list (ys.map natD)), by simp [hw], ?_, ?_⟩
      · intro y hy
        rcases List.mem_append.mp hy with h | h
        · exact hwx y h
        · rw [List.mem_singleton.mp h]
          exact hx
      · rw [List.map_append]
        rfl)
  exact ⟨w, u10, u12, n', hw, hwx, hn', by rw [sFor_ok (rng_ok (j := s) (n1 := n) rfl (by omega)), e]⟩
abbrev bRow : MS := sFor (iRange1 (aCons (eVar 3) aNil)) (.nm 10)
    (sSeq (sSet 12 (eL (lLst (aCons (e2 dMod (e2 dAdd (eVar 6) (eVar 10)) (eVar 3)) (aCons (eCall (arg2 gMin2) (aCons (eVar 6) (aCons (eVar 10) aNil))) (aCons (eCall (arg2 gMax2) (aCons (eVar 6) (aCons (eVar 10) aNil))) (aCons (eVar 6) (aCons (eVar 10) (aCons (e2 dMod (e2 dSub (eVar 6) (eVar 10)) (eVar 3)) (aCons (e2 dMod (e2 dMulI (eVar 6) (eVar 10)) (eVar 3)) aNil))))))))))
    (sApp 9 (eIf (tB (e2 dLt (eVar 4) (eC (.int 7)))) (e2 dIx (eVar 12) (eVar 4)) (eFn 3 f_law_draw (aCons (eVar 0) (aCons (eVar 1) (aCons (eVar 3) aNil)))))))
theorem rowsLoop_ok (ns : List Int) (most s kd n : Nat) (hs : 1 ≤ s) (hs2 : s ≤ 6) (hn : n < 800000) :
    ∃ (R : List (List Nat)) (u6 u10 u12 : Sl) (n' : Nat), RowsOk s s R ∧ n' ≤ n + s * s ∧
      sFor (iRange1 (aCons (eVar 3) aNil)) (.nm 6) (sSeq (sOwn 9 (lLst aNil)) (sSeq bRow (sApp2 5 9)))
      (envT ns most s kd (.ow2 []) .no .no .no .no .no .no .no) n = .ok (envT ns most s kd (.ow2 (rowsL R)) u6 .no .no .no u10 .no u12, .nx) n' := by
  obtain ⟨ρ', n', e, hn', R, u6, u10, u12, hR, rfl⟩ := forL_range (s := s) (i := 6) (body := sSeq (sOwn 9 (lLst aNil)) (sSeq bRow (sApp2 5 9)))
    (fun k ρ m => m ≤ n + k * s ∧ ∃ (R : List (List Nat)) (u6 u10 u12 : Sl), RowsOk s k R ∧ ρ = envT ns most s kd (.ow2 (rowsL R)) u6 .no .no .no u10 .no u12)
    (ρ := envT ns most s kd (.ow2 []) .no .no .no .no .no .no .no) (n := n) ⟨by omega, [], .no, .no, .no, ⟨rfl, fun _ h => nomatch h⟩, rfl⟩ (by
      rintro a ρ m ha ⟨hm, R, u6, u10, u12, hR, rfl⟩
      have hm2 : m < 900000 := by
        have : a * s ≤ 36 := Nat.le_trans (Nat.mul_le_mul (show a ≤ 6 by omega) hs2) (by omega)
        omega
      obtain ⟨w, v10, v12, n', hw, hwx, hn', e⟩ := rowLoop_ok ns most s kd a m hs hs2 ha R .no u10 .no u12 hm2
      refine ⟨envT ns most s kd (.ow2 (rowsL (R ++ [w]))) (.fz (natD a)) .no .no .no v10 .no v12, n', seq_ok (own_ok rfl (by show 9 < 13; omega)) (seq_ok (show bRow _ _ = _ from e) ?_), by rw [Nat.succ_mul]; omega, R ++ [w], .fz (natD a), v10, v12, ⟨by rw [List.length_append, hR.1]; rfl, fun r hr => ?_⟩, rfl⟩
      · have e2 := sApp2_ok (i := 5) (j := 9) (n := n') (ρ := envT ns most s kd (.ow2 (rowsL R)) (.fz (natD a)) .no .no (.ow (w.map natD)) v10 .no v12) rfl rfl (by unfold rowsL; rw [List.length_map, hR.1]; omega)
        rw [e2]
        unfold rowsL
        rw [List.map_append]
        rfl
      · rcases List.mem_append.mp hr with h | h
        · exact hR.2 r h
        · rw [List.mem_singleton.mp h]
          exact ⟨hw, hwx⟩)
  exact ⟨R, u6, u10, u12, n', hR, hn', by rw [sFor_ok (rng_ok (j := s) (n1 := n) rfl (by omega)), e]⟩
theorem rowsL_set {s : Nat} {R : List (List Nat)} (hR : RowsOk s s R) {a b x : Nat} (ha : a < s) (hb : b < s) (hx : x < s) :
    ∃ R', RowsOk s s R' ∧ ∃ w : List Nat, (rowsL R)[a]? = some (w.map natD) ∧ w.length = s ∧ (rowsL R).set a ((w.map natD).set b (natD x)) = rowsL R' := by
  have la : a < R.length := by rw [hR.1]; exact ha
  have hw := hR.2 _ (List.getElem_mem la)
  refine ⟨R.set a (R[a].set b x), ⟨by rw [List.length_set]; exact hR.1, fun r hr => ?_⟩, R[a], ?_, hw.1, ?_⟩
  · rcases List.mem_or_eq_of_mem_set hr with h | h
    · exact hR.2 r h
    · rw [h, List.length_set]
      refine ⟨hw.1, fun y hy => ?_⟩
      rcases List.mem_or_eq_of_mem_set hy with h | h
      · exact hw.2 y h
      · rw [h]
        exact hx
  · unfold rowsL
    rw [List.getElem?_map, List.getElem?_eq_getElem la]
    rfl
  · unfold rowsL
    rw [List.map_set, List.map_set]
theorem swapLoop_ok (ns : List Int) (most s kd n : Nat) (hs : 1 ≤ s) (hs2 : s ≤ 6) (R : List (List Nat)) (v6 v9 v10 v12 : Sl) (hn : n < 900000) :
    ∃ (nm : List Nat) (u8 u11 : Sl) (n' : Nat), Nms s nm ∧ n' ≤ n + s ∧
      sFor (iRange1 (aCons (eVar 3) aNil)) (.nm 8)
    (sSeq (sSet 11 (eFn 3 f_law_draw (aCons (eVar 0) (aCons (eVar 1) (aCons (eVar 3) aNil)))))
    (sPutP 7 (eVar 8) (eVar 11) (eBo 7 (eTup (aCons (e2 dIx (eVar 7) (eVar 11)) (aCons (e2 dIx (eVar 7) (eVar 8)) aNil))))))
      (envT ns most s kd (.ow2 (rowsL R)) v6 (.ow ((List.range s).map natD)) .no v9 v10 .no v12) n = .ok (envT ns most s kd (.ow2 (rowsL R)) v6 (.ow (nm.map natD)) u8 v9 v10 u11 v12, .nx) n' := by
  obtain ⟨ρ', n', e, hn', nm, u8, u11, hN, rfl⟩ := forL_range (s := s) (i := 8) (body := sSeq (sSet 11 (eFn 3 f_law_draw (aCons (eVar 0) (aCons (eVar 1) (aCons (eVar 3) aNil)))))
    (sPutP 7 (eVar 8) (eVar 11) (eBo 7 (eTup (aCons (e2 dIx (eVar 7) (eVar 11)) (aCons (e2 dIx (eVar 7) (eVar 8)) aNil))))))
    (fun k ρ m => m ≤ n + k ∧ ∃ (nm : List Nat) (u8 u11 : Sl), Nms s nm ∧ ρ = envT ns most s kd (.ow2 (rowsL R)) v6 (.ow (nm.map natD)) u8 v9 v10 u11 v12)
    (ρ := envT ns most s kd (.ow2 (rowsL R)) v6 (.ow ((List.range s).map natD)) .no v9 v10 .no v12) (n := n) ⟨by omega, List.range s, .no, .no, range_nms s, rfl⟩ (by
      rintro k ρ m hk ⟨hm, nm, u8, u11, hN, rfl⟩
      obtain ⟨x, hx, ex⟩ := drawE (i := 0) (j := 1) (fa := eVar 3) (ρ := (envT ns most s kd (.ow2 (rowsL R)) v6 (.ow (nm.map natD)) u8 v9 v10 u11 v12).set 8 (.fz (natD k))) (n := m) (many := s) rfl rfl rfl hs (by omega)
      have hl := hN.len
      refine ⟨_, _, seq_ok (set_ok ex) (sPutP_ok (ds := nm.map natD) (a := k) (b := x) (n1 := m + 1) (n2 := m + 1) (n3 := m + 1) (d1 := natD (nm.getD x 0)) (d2 := natD (nm.getD k 0)) (eBo_ok (tup_ok (cons_ok (ixL_ok (i := x) rfl rfl (map_get _ (hN.get hx).1)) (cons_ok (ixL_ok (i := k) rfl rfl (map_get _ (hN.get hk).1)) rfl)) (by simp)) rfl) rfl (by show 7 < 13; omega) rfl (by simp; omega) rfl (by simp; omega)), by omega,
        (nm.set k (nm.getD x 0)).set x (nm.getD k 0), .fz (natD k), .fz (natD x), swap_nms hN hk hx, ?_⟩
      rw [List.map_set, List.map_set]
      rfl)
  exact ⟨nm, u8, u11, n', hN, hn', by rw [sFor_ok (rng_ok (j := s) (n1 := n) rfl (by omega)), e]⟩
theorem rows_tb {s : Nat} {R : List (List Nat)} (h : RowsOk s s R) : Tb s R := ⟨h.1, h.2⟩
/-- the law's table is a table -/
theorem table_ok (ns : List Int) (most n : Nat) (h1 : 1 ≤ most) (h6 : most ≤ 6) (hn : n < 700000) :
    ∃ (s : Nat) (T : List (List Nat)) (n' : Nat), 1 ≤ s ∧ s ≤ most ∧ Tb s T ∧ n' ≤ n + 100 ∧ f_law_table [scrD ns, townD, natD most] n = .ok (tabD T) n' := by
  obtain ⟨x, hx, e1⟩ := drawE (ns := ns) (i := 0) (j := 1) (fa := eVar 2) (ρ := startE 13 [scrD ns, townD, natD most]) (n := n) (many := most) rfl rfl rfl h1 (by omega)
  have hs2 : 1 + x ≤ 6 := by omega
  obtain ⟨kd, hkd, eK⟩ := drawE (ns := ns) (i := 0) (j := 1) (fa := eC (.int 8)) (ρ := (startE 13 [scrD ns, townD, natD most]).set 3 (.fz (natD (1 + x)))) (n := n + 1) (many := 8) rfl rfl rfl (by omega) (by omega)
  obtain ⟨R, u6, u10, u12, n3, hR, hn3, e3⟩ := rowsLoop_ok ns most (1 + x) kd (n + 1 + 1) (by omega) hs2 (by omega)
  have hn3' : n3 ≤ n + 38 := by
    have : (1 + x) * (1 + x) ≤ 36 := Nat.le_trans (Nat.mul_le_mul hs2 hs2) (by omega)
    omega
  obtain ⟨c, hc, e4⟩ := drawE (ns := ns) (i := 0) (j := 1) (fa := eC (.int 3)) (ρ := envT ns most (1 + x) kd (.ow2 (rowsL R)) u6 .no .no .no u10 .no u12) (n := n3) (many := 3) rfl rfl rfl (by omega) (by omega)
  obtain ⟨R', n5, hR', hn5, e5⟩ : ∃ R' n5, RowsOk (1 + x) (1 + x) R' ∧ n5 ≤ n3 + 4 ∧ sIf (tB (e2 dEq (eFn 3 f_law_draw (aCons (eVar 0) (aCons (eVar 1) (aCons (eC (.int 3)) aNil)))) (eC (.int 0))))
    (sPut2 5 (eFn 3 f_law_draw (aCons (eVar 0) (aCons (eVar 1) (aCons (eVar 3) aNil)))) (eFn 3 f_law_draw (aCons (eVar 0) (aCons (eVar 1) (aCons (eVar 3) aNil)))) (eFn 3 f_law_draw (aCons (eVar 0) (aCons (eVar 1) (aCons (eVar 3) aNil)))))
    sNx (envT ns most (1 + x) kd (.ow2 (rowsL R)) u6 .no .no .no u10 .no u12) n3 = .ok (envT ns most (1 + x) kd (.ow2 (rowsL R')) u6 .no .no .no u10 .no u12, .nx) n5 := by
    have ht : tB (e2 dEq (eFn 3 f_law_draw (aCons (eVar 0) (aCons (eVar 1) (aCons (eC (.int 3)) aNil)))) (eC (.int 0))) (envT ns most (1 + x) kd (.ow2 (rowsL R)) u6 .no .no .no u10 .no u12) n3 = .ok (decide (c = 0)) (n3 + 1) := tB_ok (e2_ok e4 rfl (eqN c 0))
    by_cases hc0 : c = 0
    · have dr : ∀ m, m < 900000 → ∃ y : Nat, y < 1 + x ∧ eFn 3 f_law_draw (aCons (eVar 0) (aCons (eVar 1) (aCons (eVar 3) aNil))) (envT ns most (1 + x) kd (.ow2 (rowsL R)) u6 .no .no .no u10 .no u12) m = .ok (natD y) (m + 1) :=
        fun m hm => drawE (i := 0) (j := 1) rfl rfl rfl (by omega) (by omega)
      obtain ⟨y, hy, ey⟩ := dr (n3 + 1) (by omega)
      obtain ⟨a, ha, ea⟩ := dr (n3 + 1 + 1) (by omega)
      obtain ⟨b, hb, eb⟩ := dr (n3 + 1 + 1 + 1) (by omega)
      obtain ⟨R', hR', w, hw, hwl, es⟩ := rowsL_set hR ha hb hy
      refine ⟨R', n3 + 1 + 1 + 1 + 1, hR', by omega, if_ok ht ?_⟩
      rw [if_pos (decide_eq_true hc0), sPut2_ok (ds := w.map natD) (dss := rowsL R) ey rfl ea (by unfold rowsL; rw [List.length_map, hR.1]; exact ha) hw eb (by rw [List.length_map, hwl]; exact hb), es]
      rfl
    · refine ⟨R, n3 + 1, hR, by omega, if_ok ht ?_⟩
      rw [if_neg (by simpa using hc0)]
      rfl
  obtain ⟨nm, u8, u11, n6, hN, hn6, e6⟩ := swapLoop_ok ns most (1 + x) kd n5 (by omega) hs2 R' u6 .no u10 u12 (by omega)
  have t := rows_tb hR'
  refine ⟨1 + x, namedT R' nm, n6, by omega, by omega, namedT_tb t hN, by omega, ?_⟩
  have e7 : lComp (iSeq (eVar 5)) (.nm 9) [9] tYesM (eCall (arg1 gTuple) (aCons (eVar 9) aNil)) (frz 7 (frz 5 (envT ns most (1 + x) kd (.ow2 (rowsL R')) u6 (.ow (nm.map natD)) u8 .no u10 u11 u12))) n6 = .ok (R'.map rowD) n6 :=
    lComp_map (fun r : List Nat => PyData.list (r.map natD)) R' (fun r => rowD r) (iSeq_list _ (by
      show Res.ok (PyData.list ((rowsL R').map PyData.list)) n6 = _
      unfold rowsL
      rw [List.map_map]
      rfl)) (fun r hr => rfl) (by rw [hR'.1]; omega)
  refine run_ok (ρ' := frz 7 (frz 5 (envT ns most (1 + x) kd (.ow2 (rowsL R')) u6 (.ow (nm.map natD)) u8 .no u10 u11 u12))) ?_
  refine seq_ok (set_ok (e2_ok (x := natD 1) rfl e1 (addN 1 x))) ?_
  refine seq_ok (set_ok eK) ?_
  refine seq_ok (own2_ok (by show 5 < 13; omega)) ?_
  refine seq_ok e3 ?_
  refine seq_ok e5 ?_
  refine seq_ok (own_ok (n1 := n5) (rg1_ok (j := 1 + x) (n1 := n5) rfl (by omega)) (by show 7 < 13; omega)) ?_
  refine seq_ok e6 ?_
  show sRet _ _ n6 = _
  refine ret_ok (fn_ok (cons_ok (eL_ok e7) (cons_ok rfl rfl)) rfl ?_)
  exact named_ok t hN (by omega) (fun i => by
    show ofOpt (atI (R'.map rowD) (i : Int)) = _
    rw [atI_cast]) n6
/-! ### tables are looked at -/
theorem look_table_ok {s : Nat} {T : List (List Nat)} (t : Tb s T) (h1 : 1 ≤ s) (h6 : s ≤ 6) (n : Nat) : f_look_table [tabD T] n = .ok .none n := by
  have hl : (T.map rowD).length = s := by rw [List.length_map, t.len]
  have c0 : eCall (arg1 dLen) (aCons (eVar 0) aNil) (startE 4 [tabD T]) n = .ok (natD s) n := by
    rw [lenT_ok (xs := T.map rowD) rfl, hl]
  have r1 : lComp (iSeq (eVar 0)) (.nm 2) [2] tYesM (e2 dEq (eCall (arg1 dLen) (aCons (eVar 2) aNil)) (eVar 1)) [.fz (tabD T), .fz (natD s), .no, .no] n = .ok (T.map fun r => PyData.bool (decide (r.length = s))) n :=
    lComp_map rowD T _ (seqT rfl) (fun r hr => e2_ok (lenT_ok (xs := r.map natD) rfl) rfl (by rw [List.length_map]; exact eqN _ _)) (by rw [t.len]; omega)
  have r2 : lComp (iSeq (eVar 0)) (.nm 2) [2] tYesM (eCall (arg1 (gAll fun bs => bs.all id)) (aCons (eL (lComp (iSeq (eVar 2)) (.nm 3) [3] tYesM (e3 dLe dLt (eC (.int 0)) (eVar 3) (eVar 1)))) aNil)) [.fz (tabD T), .fz (natD s), .no, .no] n = .ok (T.map fun r => PyData.bool (r.all fun x => decide ((0 : Int) ≤ (x : Int) ∧ (x : Int) < (s : Int)))) n :=
    lComp_map rowD T _ (seqT rfl) (fun r hr => allC (lComp_map natD r _ (seqT rfl) (fun x hx => leLtI (a := 0) rfl rfl rfl) (by rw [(t.row r hr).1]; omega))) (by rw [t.len]; omega)
  have a1 : (T.all fun r => decide (r.length = s)) = true := List.all_eq_true.mpr fun r hr => decide_eq_true (t.row r hr).1
  have a2 : (T.all fun r => r.all fun x => decide ((0 : Int) ≤ (x : Int) ∧ (x : Int) < (s : Int))) = true := List.all_eq_true.mpr fun r hr => List.all_eq_true.mpr fun x hx => decide_eq_true (by have := (t.row r hr).2 x hx; omega)
  refine run_nx (ρ' := [.fz (tabD T), .fz (natD s), .no, .no]) ?_
  refine seq_ok (set_ok c0) ?_
  refine seq_ok (n1 := n) (if_f (n1 := n) (or_f (n1 := n) ?_ ?_) rfl) (if_f (n1 := n) ?_ rfl)
  · rw [not_ok (tB_ok (leLeN (a := 1) (b := s) (c := 6) rfl rfl rfl)), decide_eq_true (show 1 ≤ s ∧ s ≤ 6 from ⟨h1, h6⟩)]
    rfl
  · refine (not_ok (tTb (allC r1))).trans ?_
    rw [a1]
    rfl
  · refine (not_ok (tTb (allC r2))).trans ?_
    rw [a2]
    rfl
theorem look_thing_ok {s : Nat} {T : List (List Nat)} (t : Tb s T) {x : Nat} (hx : x < s) (n : Nat) : f_look_thing [tabD T, natD x] n = .ok .none n := by
  have hl : (T.map rowD).length = s := by rw [List.length_map, t.len]
  refine run_nx (ρ' := [.fz (tabD T), .fz (natD x)]) (if_f (n1 := n) ?_ rfl)
  refine (not_ok (tB_ok (leLtI (a := 0) (b := (x : Int)) (c := (s : Int)) rfl rfl (by rw [lenT_ok (xs := T.map rowD) rfl, hl])))).trans ?_
  rw [decide_eq_true (show (0 : Int) ≤ (x : Int) ∧ (x : Int) < (s : Int) by omega)]
  rfl
theorem look_thing_err {s : Nat} {T : List (List Nat)} (t : Tb s T) {x : Int} (hx : ¬ (0 ≤ x ∧ x < s)) (n : Nat) : f_look_thing [tabD T, .int x] n = .err "BadThing" n := by
  have hl : (T.map rowD).length = s := by rw [List.length_map, t.len]
  refine run_err (if_t (n1 := n) ?_ rfl)
  refine (not_ok (tB_ok (leLtI (a := 0) (b := x) (c := (s : Int)) rfl rfl (by rw [lenT_ok (xs := T.map rowD) rfl, hl])))).trans ?_
  rw [decide_eq_false hx]
  rfl
theorem look_one_ok {s : Nat} {T : List (List Nat)} (t : Tb s T) (h1 : 1 ≤ s) (h6 : s ≤ 6) {x : Nat} (hx : x < s) (n : Nat) : f_look_things [tabD T, .list [natD x]] n = .ok .none n := by
  refine run_nx (ρ' := [.fz (tabD T), .fz (.list [natD x]), .fz (natD x)]) ?_
  refine seq_ok (drop_ok (fn_ok (cons_ok rfl rfl) rfl (look_table_ok t h1 h6 n))) ?_
  rw [sFor_ok (ds := [natD x]) (n1 := n) (seqL rfl)]
  exact (forL_nx (drop_ok (fn_ok (cons_ok rfl (cons_ok rfl rfl)) rfl (look_thing_ok t hx n)))).trans rfl
theorem look_one_err {s : Nat} {T : List (List Nat)} (t : Tb s T) (h1 : 1 ≤ s) (h6 : s ≤ 6) {x : Int} (hx : ¬ (0 ≤ x ∧ x < s)) (n : Nat) : f_look_things [tabD T, .list [.int x]] n = .err "BadThing" n := by
  refine run_err ?_
  refine seq_ok (drop_ok (fn_ok (cons_ok rfl rfl) rfl (look_table_ok t h1 h6 n))) ?_
  rw [sFor_ok (ds := [.int x]) (n1 := n) (seqL rfl)]
  exact forL_err (drop_err (fn_ok (cons_ok rfl (cons_ok rfl rfl)) rfl (look_thing_err t hx n)))
def turnT (s : Nat) (T : List (List Nat)) : List (List Nat) := (List.range s).map fun k => T.map fun row => row.getD k 0
theorem turnT_tb {s : Nat} {T : List (List Nat)} (t : Tb s T) : Tb s (turnT s T) where
  len := by unfold turnT; rw [List.length_map, List.length_range]
  row := fun r hr => by
    unfold turnT at hr
    obtain ⟨k, hk, rfl⟩ := List.mem_map.mp hr
    have hk : k < s := by simpa using hk
    refine ⟨by rw [List.length_map, t.len], fun x hx => ?_⟩
    obtain ⟨row, hrow, rfl⟩ := List.mem_map.mp hx
    obtain ⟨h1, h2⟩ := t.row row hrow
    have hl : k < row.length := by rw [h1]; exact hk
    rw [List.getD_eq_getElem?_getD, List.getElem?_eq_getElem hl]
    exact h2 _ (List.getElem_mem hl)
theorem turnT_cell {s : Nat} {T : List (List Nat)} (t : Tb s T) {i j : Nat} (hi : i < s) (hj : j < s) : cellT (turnT s T) i j = cellT T j i := by
  have e : (turnT s T).getD i [] = T.map fun row => row.getD i 0 := by
    unfold turnT
    rw [List.getD_eq_getElem?_getD, map_get _ (range_at hi)]
    rfl
  unfold cellT
  rw [e, List.getD_eq_getElem?_getD, map_get _ (t.get hj)]
  rfl
theorem turned_ok {s : Nat} {T : List (List Nat)} (t : Tb s T) (h1 : 1 ≤ s) (h6 : s ≤ 6) (n : Nat) : f_turned [tabD T] n = .ok (tabD (turnT s T)) n := by
  have hl : (T.map rowD).length = s := by rw [List.length_map, t.len]
  refine run_ok (ρ' := [.fz (tabD T), .no, .no]) ?_
  refine seq_ok (drop_ok (fn_ok (cons_ok rfl rfl) rfl (look_table_ok t h1 h6 n))) (ret_ok ?_)
  have e : tabD (turnT s T) = .tuple ((List.range s).map fun k => rowD (T.map fun row => row.getD k 0)) := by
    unfold tabD turnT
    rw [List.map_map]
    rfl
  rw [e]
  refine tupC_ok (lComp_map natD (List.range s) _ ?_ (fun k hk => ?_) (by simp; omega))
  · refine rng_ok ?_ (by omega)
    rw [lenT_ok (xs := T.map rowD) rfl, hl]
  · have hk : k < s := by simpa using hk
    have e2' : rowD (T.map fun row => row.getD k 0) = .tuple (T.map fun row => natD (row.getD k 0)) := by
      unfold rowD
      rw [List.map_map]
      rfl
    rw [e2']
    refine tupC_ok (lComp_map rowD T _ (seqT rfl) (fun row hrow => ixT_ok (i := k) rfl rfl ?_) (by rw [t.len]; omega))
    have hlr : k < row.length := by rw [(t.row row hrow).1]; exact hk
    rw [map_get natD (List.getElem?_eq_getElem hlr), List.getD_eq_getElem?_getD, List.getElem?_eq_getElem hlr]
    rfl
theorem refusal_thing (n : Nat) : f_law_refusal [excD "BadThing"] n = .ok (.tuple [.str "refused", .str "thing"]) n := by kernel_rfl
theorem cellE_ok {s : Nat} {T : List (List Nat)} (t : Tb s T) {ρ : Mi.Env} {n : Nat} {fa fi fj : Mi.Env → M D} {i j : Nat} (h0 : fa ρ n = .ok (tabD T) n) (hi : fi ρ n = .ok (natD i) n) (hj : fj ρ n = .ok (natD j) n) (li : i < s) (lj : j < s) :
    e2 dIx (e2 dIx fa fi) fj ρ n = .ok (natD (cellT T i j)) n := ixT_ok (ixT_ok h0 hi (t.ixRow li)) hj (t.ixCell li lj)
theorem lenTab {s : Nat} {T : List (List Nat)} (t : Tb s T) {ρ : Mi.Env} {n : Nat} {fa : Mi.Env → M D} (h0 : fa ρ n = .ok (tabD T) n) : eCall (arg1 dLen) (aCons fa aNil) ρ n = .ok (natD s) n := by
  rw [lenT_ok h0, List.length_map, t.len]
def idleL (s : Nat) (T : List (List Nat)) : List Nat := (List.range s).filter fun i => decide (cellT T i i = i)
def unL (s : Nat) (T : List (List Nat)) : List Nat := (List.range s).filter fun i => decide (T.getD i [] = List.range s)
def unR (s : Nat) (T : List (List Nat)) : List Nat := (List.range s).filter fun i => decide ((T.map fun row => row.getD i 0) = List.range s)
def noL' (s : Nat) (T : List (List Nat)) : List Nat := (List.range s).filter fun i => (List.range s).all fun j => decide (cellT T i j = i)
def noR' (s : Nat) (T : List (List Nat)) : List Nat := (List.range s).filter fun i => (List.range s).all fun j => decide (cellT T j i = i)
section
variable {s : Nat} {T : List (List Nat)}
theorem row_eq (t : Tb s T) {i : Nat} (hi : i < s) : T.getD i [] = (List.range s).map fun j => cellT T i j := by
  apply List.ext_getElem?
  intro j
  by_cases hj : j < s
  · rw [(t.cell hi hj).1, map_get _ (range_at hj)]
  · rw [List.getElem?_eq_none (by rw [(t.rowAt hi).1]; omega), List.getElem?_eq_none (by simp; omega)]
theorem col_eq (t : Tb s T) (i : Nat) : (T.map fun row => row.getD i 0) = (List.range s).map fun j => cellT T j i := by
  apply List.ext_getElem?
  intro j
  by_cases hj : j < s
  · rw [map_get _ (t.get hj), map_get _ (range_at hj)]
    rfl
  · rw [List.getElem?_eq_none (by rw [List.length_map, t.len]; omega), List.getElem?_eq_none (by simp; omega)]
theorem map_id {f : Nat → Nat} (h : (List.range s).map f = List.range s) {j : Nat} (hj : j < s) : f j = j := by
  have e : ((List.range s).map f)[j]? = (List.range s)[j]? := by rw [h]
  rw [map_get f (range_at hj), range_at hj] at e
  exact Option.some.inj e
theorem un_one (t : Tb s T) {e f : Nat} (he : e ∈ unL s T) (hf : f ∈ unR s T) : e = f := by
  unfold unL at he
  unfold unR at hf
  rw [List.mem_filter, List.mem_range, decide_eq_true_eq] at he hf
  have h1 := he.2
  rw [row_eq t he.1] at h1
  have h2 := hf.2
  rw [col_eq t f] at h2
  have a := map_id h1 hf.1
  have b := map_id h2 he.1
  omega
theorem un_same (t : Tb s T) (hl : unL s T ≠ []) (hr : unR s T ≠ []) : unL s T = unR s T := by
  obtain ⟨e0, he0⟩ := List.exists_mem_of_ne_nil _ hl
  obtain ⟨f0, hf0⟩ := List.exists_mem_of_ne_nil _ hr
  have key : ∀ x, x ∈ unL s T ↔ x ∈ unR s T := fun x => ⟨fun h => by rw [un_one t h hf0]; exact hf0, fun h => by rw [← un_one t he0 h]; exact he0⟩
  have h1 : unL s T = (List.range s).filter fun i => decide (i ∈ unL s T) := by
    conv => lhs; unfold unL
    refine List.filter_congr fun x hx => ?_
    unfold unL
    rw [decide_eq_decide, List.mem_filter, decide_eq_true_eq]
    exact ⟨fun h => ⟨hx, h⟩, fun h => h.2⟩
  have h2 : unR s T = (List.range s).filter fun i => decide (i ∈ unR s T) := by
    conv => lhs; unfold unR
    refine List.filter_congr fun x hx => ?_
    unfold unR
    rw [decide_eq_decide, List.mem_filter, decide_eq_true_eq]
    exact ⟨fun h => ⟨hx, h⟩, fun h => h.2⟩
  rw [h1, h2]
  exact List.filter_congr fun x _ => decide_eq_decide.mpr (key x)
theorem unL_turn (t : Tb s T) : unL s (turnT s T) = unR s T := by
  unfold unL unR
  refine List.filter_congr fun x hx => ?_
  have hx : x < s := by simpa using hx
  have e : (turnT s T).getD x [] = T.map fun row => row.getD x 0 := by
    unfold turnT
    rw [List.getD_eq_getElem?_getD, map_get _ (range_at hx)]
    rfl
  rw [e]
theorem unR_turn (t : Tb s T) : unR s (turnT s T) = unL s T := by
  unfold unL unR
  refine List.filter_congr fun x hx => ?_
  have hx : x < s := by simpa using hx
  rw [col_eq (turnT_tb t) x, row_eq t hx]
  have e : ((List.range s).map fun j => cellT (turnT s T) j x) = (List.range s).map fun j => cellT T x j := List.map_congr_left fun j hj => turnT_cell t (by simpa using hj) hx
  rw [e]
theorem noL_turn (t : Tb s T) : noL' s (turnT s T) = noR' s T := by
  unfold noL' noR'
  refine List.filter_congr fun x hx => ?_
  have hx : x < s := by simpa using hx
  rw [Bool.eq_iff_iff, List.all_eq_true, List.all_eq_true]
  exact ⟨fun h j hj => by have := h j hj; rwa [turnT_cell t hx (by simpa using hj)] at this, fun h j hj => by rw [turnT_cell t hx (by simpa using hj)]; exact h j hj⟩
theorem noR_turn (t : Tb s T) : noR' s (turnT s T) = noL' s T := by
  unfold noL' noR'
  refine List.filter_congr fun x hx => ?_
  have hx : x < s := by simpa using hx
  rw [Bool.eq_iff_iff, List.all_eq_true, List.all_eq_true]
  exact ⟨fun h j hj => by have := h j hj; rwa [turnT_cell t (by simpa using hj) hx] at this, fun h j hj => by rw [turnT_cell t (by simpa using hj) hx]; exact h j hj⟩
theorem once_one {x : Nat} {l : List Nat} (hl : l ≠ []) : onceN l = [x] ↔ ∀ y ∈ l, y = x := by
  constructor
  · intro h y hy
    have := mem_onceN.mpr hy
    rw [h] at this
    simpa using this
  · intro h
    have hp := onceN_lt l
    have hm : ∀ y, y ∈ onceN l → y = x := fun y hy => h y (mem_onceN.mp hy)
    obtain ⟨z, hz⟩ := List.exists_mem_of_ne_nil _ hl
    have hx : x ∈ onceN l := mem_onceN.mpr (h z hz ▸ hz)
    cases e : onceN l with
    | nil => rw [e] at hx; cases hx
    | cons a r =>
      rw [e] at hp hm
      have ha := hm a List.mem_cons_self
      cases r with
      | nil => rw [ha]
      | cons b r' =>
        have hb := hm b (List.mem_cons_of_mem _ List.mem_cons_self)
        have := (List.pairwise_cons.mp hp).1 b List.mem_cons_self
        omega
theorem noL_once (t : Tb s T) (hs : 1 ≤ s) : ((List.range s).filter fun i => decide (onceN (T.getD i []) = [i])) = noL' s T := by
  unfold noL'
  refine List.filter_congr fun x hx => ?_
  have hx : x < s := by simpa using hx
  have hne : T.getD x [] ≠ [] := fun h => by have := (t.rowAt hx).1; rw [h] at this; simp at this; omega
  rw [Bool.eq_iff_iff, decide_eq_true_eq, once_one hne, List.all_eq_true, row_eq t hx]
  constructor
  · exact fun h j hj => decide_eq_true (h _ (List.mem_map.mpr ⟨j, hj, rfl⟩))
  · intro h y hy
    obtain ⟨j, hj, rfl⟩ := List.mem_map.mp hy
    exact of_decide_eq_true (h j hj)
theorem noR_once (t : Tb s T) (hs : 1 ≤ s) : ((List.range s).filter fun i => decide (onceN ((List.range s).map fun j => cellT T j i) = [i])) = noR' s T := by
  unfold noR'
  refine List.filter_congr fun x hx => ?_
  have hne : ((List.range s).map fun j => cellT T j x) ≠ [] := fun h => by have := congrArg List.length h; simp at this; omega
  rw [Bool.eq_iff_iff, decide_eq_true_eq, once_one hne, List.all_eq_true]
  constructor
  · exact fun h j hj => decide_eq_true (h _ (List.mem_map.mpr ⟨j, hj, rfl⟩))
  · intro h y hy
    obtain ⟨j, hj, rfl⟩ := List.mem_map.mp hy
    exact of_decide_eq_true (h j hj)
end
section
variable {s : Nat} {T : List (List Nat)}
theorem idle_ok (t : Tb s T) (h1 : 1 ≤ s) (h6 : s ≤ 6) (n : Nat) : f_idle [tabD T] n = .ok (.list ((idleL s T).map natD)) n := by
  refine run_ok (ρ' := [.fz (tabD T), .no]) ?_
  refine seq_ok (drop_ok (fn_ok (cons_ok rfl rfl) rfl (look_table_ok t h1 h6 n))) (ret_ok (eL_ok ?_))
  exact lComp_mapIf natD (List.range s) (fun i => decide (cellT T i i = i)) natD (rng_ok (lenTab t rfl) (by omega)) (fun x hx => by
    have hx : x < s := by simpa using hx
    exact tB_ok (e2_ok (cellE_ok t rfl rfl rfl hx hx) rfl (eqN _ _))) (fun x hx _ => rfl) (by simp; omega)
theorem units_ok (t : Tb s T) (h1 : 1 ≤ s) (h6 : s ≤ 6) (n : Nat) : f_units [tabD T] n = .ok (.tuple [.list ((unL s T).map natD), .list ((unR s T).map natD)]) n := by
  refine run_ok (ρ' := [.fz (tabD T), .fz (.list ((List.range s).map natD)), .fz (.list ((unL s T).map natD)), .fz (.list ((unR s T).map natD)), .no, .no]) ?_
  refine seq_ok (drop_ok (fn_ok (cons_ok rfl rfl) rfl (look_table_ok t h1 h6 n))) ?_
  refine seq_ok (set_ok (eL_ok (rg1_ok (lenTab t rfl) (by omega)))) ?_
  have eL1 : lComp (iSeq (eVar 1)) (.nm 4) [4] (tB (e2 dEq (eL (lCall (arg1 gList) (aCons (e2 dIx (eVar 0) (eVar 4)) aNil))) (eVar 1))) (eVar 4) [.fz (tabD T), .fz (.list ((List.range s).map natD)), .no, .no, .no, .no] n = .ok ((unL s T).map natD) n :=
    lComp_mapIf natD (List.range s) (fun i => decide (T.getD i [] = List.range s)) natD (seqL rfl) (fun x hx => by
      have hx : x < s := by simpa using hx
      refine tB_ok (e2_ok (x := .list ((T.getD x []).map natD)) (y := .list ((List.range s).map natD)) (eL_ok (listT_ok (ixT_ok rfl rfl (t.ixRow hx)))) rfl ?_)
      rw [dEq_nats]
      rfl) (fun x hx _ => rfl) (by simp; omega)
  refine seq_ok (set_ok (eL_ok eL1)) ?_
  have eR1 : lComp (iSeq (eVar 1)) (.nm 4) [4] (tB (e2 dEq (eL (lComp (iSeq (eVar 0)) (.nm 5) [5] tYesM (e2 dIx (eVar 5) (eVar 4)))) (eVar 1))) (eVar 4) [.fz (tabD T), .fz (.list ((List.range s).map natD)), .fz (.list ((unL s T).map natD)), .no, .no, .no] n = .ok ((unR s T).map natD) n :=
    lComp_mapIf natD (List.range s) (fun i => decide ((T.map fun row => row.getD i 0) = List.range s)) natD (seqL rfl) (fun x hx => by
      have hx : x < s := by simpa using hx
      have e : lComp (iSeq (eVar 0)) (.nm 5) [5] tYesM (e2 dIx (eVar 5) (eVar 4)) [.fz (tabD T), .fz (.list ((List.range s).map natD)), .fz (.list ((unL s T).map natD)), .no, .fz (natD x), .no] n = .ok ((T.map fun row => row.getD x 0).map natD) n := by
        rw [List.map_map]
        refine lComp_map rowD T _ (seqT rfl) (fun row hrow => ixT_ok (i := x) rfl rfl ?_) (by rw [t.len]; omega)
        have hlr : x < row.length := by rw [(t.row row hrow).1]; exact hx
        rw [map_get natD (List.getElem?_eq_getElem hlr)]
        show _ = some (natD (row.getD x 0))
        rw [List.getD_eq_getElem?_getD, List.getElem?_eq_getElem hlr]
        rfl
      refine tB_ok (e2_ok (n1 := n) (n2 := n) (x := .list ((T.map fun row => row.getD x 0).map natD)) (y := .list ((List.range s).map natD)) (eL_ok (n1 := n) (ds := (T.map fun row => row.getD x 0).map natD) e) rfl ?_)
      rw [dEq_nats]
      rfl) (fun x hx _ => rfl) (by simp; omega)
  refine seq_ok (set_ok (eL_ok eR1)) ?_
  exact ret_ok (tup_ok (cons_ok rfl (cons_ok rfl rfl)) (by simp))
theorem noughts_ok (t : Tb s T) (h1 : 1 ≤ s) (h6 : s ≤ 6) (n : Nat) : f_noughts [tabD T] n = .ok (.tuple [.list ((noL' s T).map natD), .list ((noR' s T).map natD)]) n := by
  refine run_ok (ρ' := [.fz (tabD T), .fz (.list ((List.range s).map natD)), .fz (.list ((noL' s T).map natD)), .fz (.list ((noR' s T).map natD)), .no, .no]) ?_
  refine seq_ok (drop_ok (fn_ok (cons_ok rfl rfl) rfl (look_table_ok t h1 h6 n))) ?_
  refine seq_ok (set_ok (eL_ok (rg1_ok (lenTab t rfl) (by omega)))) ?_
  have eL1 : lComp (iSeq (eVar 1)) (.nm 4) [4] (tT (eCall (arg1 (gAll fun bs => bs.all id)) (aCons (eL (lComp (iSeq (eVar 1)) (.nm 5) [5] tYesM (e2 dEq (e2 dIx (e2 dIx (eVar 0) (eVar 4)) (eVar 5)) (eVar 4)))) aNil))) (eVar 4) [.fz (tabD T), .fz (.list ((List.range s).map natD)), .no, .no, .no, .no] n = .ok ((noL' s T).map natD) n :=
    lComp_mapIf natD (List.range s) (fun i => (List.range s).all fun j => decide (cellT T i j = i)) natD (seqL rfl) (fun x hx => by
      have hx : x < s := by simpa using hx
      exact tTb (allC (lComp_map natD (List.range s) _ (seqL rfl) (fun y hy => e2_ok (cellE_ok t rfl rfl rfl hx (by simpa using hy)) rfl (eqN _ _)) (by simp; omega)))) (fun x hx _ => rfl) (by simp; omega)
  refine seq_ok (set_ok (eL_ok eL1)) ?_
  have eR1 : lComp (iSeq (eVar 1)) (.nm 4) [4] (tT (eCall (arg1 (gAll fun bs => bs.all id)) (aCons (eL (lComp (iSeq (eVar 1)) (.nm 5) [5] tYesM (e2 dEq (e2 dIx (e2 dIx (eVar 0) (eVar 5)) (eVar 4)) (eVar 4)))) aNil))) (eVar 4) [.fz (tabD T), .fz (.list ((List.range s).map natD)), .fz (.list ((noL' s T).map natD)), .no, .no, .no] n = .ok ((noR' s T).map natD) n :=
    lComp_mapIf natD (List.range s) (fun i => (List.range s).all fun j => decide (cellT T j i = i)) natD (seqL rfl) (fun x hx => by
      have hx : x < s := by simpa using hx
      exact tTb (allC (lComp_map natD (List.range s) _ (seqL rfl) (fun y hy => e2_ok (cellE_ok t rfl rfl rfl (by simpa using hy) hx) rfl (eqN _ _)) (by simp; omega)))) (fun x hx _ => rfl) (by simp; omega)
  refine seq_ok (set_ok (eL_ok eR1)) ?_
  exact ret_ok (tup_ok (cons_ok rfl (cons_ok rfl rfl)) (by simp))
/-! a thing again and again -/
def pw (T : List (List Nat)) (x : Nat) : Nat → Nat
  | 0 => x
  | k + 1 => cellT T (pw T x k) x
def pwL (T : List (List Nat)) (x k : Nat) : List Nat := (List.range (k + 1)).map (pw T x)
theorem pw_lt (t : Tb s T) {x : Nat} (hx : x < s) : ∀ k, pw T x k < s
  | 0 => hx
  | k + 1 => (t.cell (pw_lt t hx k) hx).2
theorem nodup_short : ∀ {s : Nat} {l : List Nat}, l.Nodup → (∀ x ∈ l, x < s) → l.length ≤ s
  | 0, [], _, _ => Nat.le_refl _
  | 0, x :: _, _, h => absurd (h x List.mem_cons_self) (Nat.not_lt_zero _)
  | s + 1, l, nd, h => by
    have ih := nodup_short (s := s) (l := l.filter fun x => decide (x ≠ s)) (nd.filter _) fun x hx => by
      rw [List.mem_filter, decide_eq_true_eq] at hx
      have := h x hx.1
      omega
    have h2 : (l.filter fun x => decide (x = s)).length ≤ 1 := by
      have nd2 : (l.filter fun x => decide (x = s)).Nodup := nd.filter _
      cases e : l.filter fun x => decide (x = s) with
      | nil => simp
      | cons a r =>
        cases r with
        | nil => simp
        | cons b r' =>
          rw [e] at nd2
          have ha : a ∈ l.filter fun x => decide (x = s) := by rw [e]; exact List.mem_cons_self
          have hb : b ∈ l.filter fun x => decide (x = s) := by rw [e]; exact List.mem_cons_of_mem _ List.mem_cons_self
          rw [List.mem_filter, decide_eq_true_eq] at ha hb
          exact absurd (ha.2.trans hb.2.symm) ((List.pairwise_cons.mp nd2).1 b List.mem_cons_self)
    have h3 : l.length = (l.filter fun x => decide (x = s)).length + (l.filter fun x => decide (x ≠ s)).length := by
      clear ih h2 h nd
      induction l with
      | nil => rfl
      | cons a r ih =>
        by_cases e : a = s
        · rw [List.filter_cons_of_pos (by simpa using e), List.filter_cons_of_neg (by simpa using e), List.length_cons, List.length_cons, ih]
          omega
        · rw [List.filter_cons_of_neg (by simpa using e), List.filter_cons_of_pos (by simpa using e), List.length_cons, List.length_cons, ih]
          omega
    omega
theorem pwL_snoc (x k : Nat) : pwL T x (k + 1) = pwL T x k ++ [pw T x (k + 1)] := snoc_range _ _
theorem pwL_len (x k : Nat) : (pwL T x k).length = k + 1 := by unfold pwL; simp
theorem pwL_bound (t : Tb s T) {x k : Nat} (hx : x < s) (nd : (pwL T x k).Nodup) : k + 1 ≤ s := by
  have := nodup_short nd (s := s) fun y hy => by
    unfold pwL at hy
    obtain ⟨i, _, rfl⟩ := List.mem_map.mp hy
    exact pw_lt t hx i
  rwa [pwL_len] at this
theorem pwL_grow {x k : Nat} (nd : (pwL T x k).Nodup) (h : pw T x (k + 1) ∉ pwL T x k) : (pwL T x (k + 1)).Nodup := by
  rw [pwL_snoc, List.nodup_append]
  exact ⟨nd, by simp, fun a ha b hb e => h (by have : b = pw T x (k + 1) := by simpa using hb
                                               rw [← this, ← e]; exact ha)⟩
/-- where it comes round is one -/
theorem pw_uniq {x k j : Nat} (h1 : (pwL T x k).Nodup) (h2 : pw T x (k + 1) ∈ pwL T x k) (g1 : (pwL T x j).Nodup) (g2 : pw T x (j + 1) ∈ pwL T x j) : k = j := by
  have key : ∀ {a b : Nat}, a < b → pw T x (a + 1) ∈ pwL T x a → (pwL T x b).Nodup → False := fun {a b} hab hm nd => by
    unfold pwL at hm nd
    obtain ⟨i, hi, e⟩ := List.mem_map.mp hm
    have hi : i < a + 1 := by simpa using hi
    have := List.pairwise_iff_getElem.mp nd i (a + 1) (by simp; omega) (by simp; omega) (by omega)
    refine this ?_
    simp only [List.getElem_map, List.getElem_range]
    exact e
  rcases Nat.lt_trichotomy k j with h | h | h
  · exact (key h h2 g1).elim
  · exact h
  · exact (key h g2 h1).elim
end
section
variable {s : Nat} {T : List (List Nat)}
theorem in_nats {ρ : Mi.Env} {n : Nat} {fa fb : Mi.Env → M D} {x : Nat} {l : List Nat} (h1 : fa ρ n = .ok (natD x) n) (h2 : fb ρ n = .ok (.list (l.map natD)) n) : tB (e2 (dIn true) fa fb) ρ n = .ok (!decide (x ∈ l)) n := by
  refine tB_ok (e2_ok h1 h2 ?_)
  rw [dIn_nats]
  rfl
def envP (T : List (List Nat)) (x k : Nat) : Mi.Env := [.fz (tabD T), .fz (natD x), .ow ((pwL T x k).map natD), .fz (natD (pw T x (k + 1)))]
theorem power_row_ok (t : Tb s T) (h1 : 1 ≤ s) (h6 : s ≤ 6) {x : Nat} (hx : x < s) (n : Nat) : ∃ k, (pwL T x k).Nodup ∧ pw T x (k + 1) ∈ pwL T x k ∧
    f_power_row [tabD T, natD x] n = .ok (.tuple [.list ((pwL T x k).map natD), natD ((pwL T x k).idxOf (pw T x (k + 1)))]) n := by
  obtain ⟨ρ', n', n0, e, ⟨rfl, k, nd, rfl⟩, ⟨rfl, _⟩, hc⟩ := whL_inv (c := bBo 2 (tB (e2 (dIn true) (eVar 3) (eVar 2)))) (body := sSeq (sApp 2 (eVar 3)) (sSet 3 (e2 dIx (e2 dIx (eVar 0) (eVar 3)) (eVar 1))))
    (fun ρ m => m = n ∧ ∃ k, (pwL T x k).Nodup ∧ ρ = envP T x k) (fun ρ => match ρ.at 2 with | .ow ds => 100 - ds.length | _ => 0) (by
      rintro ρ m ⟨rfl, k, nd, rfl⟩
      refine ⟨!decide (pw T x (k + 1) ∈ pwL T x k), m, (show (tB (e2 (dIn true) (eVar 3) (eVar 2))) (frz 2 (envP T x k)) m = _ from in_nats rfl rfl), fun h => ?_, fun _ => ⟨rfl, k, nd, rfl⟩⟩
      have hn : pw T x (k + 1) ∉ pwL T x k := by simpa using h
      have nd2 := pwL_grow nd hn
      have hb := pwL_bound t hx nd2
      refine ⟨envP T x (k + 1), m, seq_ok (n1 := m) (sApp_ok (ds := (pwL T x k).map natD) (d := natD (pw T x (k + 1))) rfl rfl (by rw [List.length_map, pwL_len]; omega)) ?_, ⟨rfl, k + 1, nd2, rfl⟩, ?_⟩
      · refine (set_ok (cellE_ok t rfl rfl rfl (pw_lt t hx (k + 1)) hx)).trans ?_
        unfold envP
        rw [pwL_snoc, List.map_append]
        rfl
      · show 100 - ((pwL T x (k + 1)).map natD).length < 100 - ((pwL T x k).map natD).length
        rw [List.length_map, List.length_map, pwL_len, pwL_len]
        omega) 4096 (envP T x 0) n ⟨rfl, 0, by simp [pwL], rfl⟩ (by show 100 - _ < 4096; omega)
  have hm : pw T x (k + 1) ∈ pwL T x k := by
    have e2 : bBo 2 (tB (e2 (dIn true) (eVar 3) (eVar 2))) (envP T x k) n0 = .ok (!decide (pw T x (k + 1) ∈ pwL T x k)) n0 := (show (tB (e2 (dIn true) (eVar 3) (eVar 2))) (frz 2 (envP T x k)) n0 = _ from in_nats rfl rfl)
    rw [e2] at hc
    injection hc with hc _
    simpa using hc
  refine ⟨k, nd, hm, run_ok (ρ' := frz 2 (envP T x k)) ?_⟩
  refine seq_ok (n1 := n0) (drop_ok (fn_ok (cons_ok rfl (cons_ok (eL_ok (lst_ok (cons_ok rfl rfl) (by simp))) rfl)) rfl (look_one_ok t h1 h6 hx n0))) ?_
  refine seq_ok (n1 := n0) (own_ok (lst_ok (cons_ok rfl rfl) (by simp)) (by show 2 < 4; omega)) ?_
  refine seq_ok (n1 := n0) (set_ok (cellE_ok t rfl rfl rfl hx hx)) ?_
  refine seq_ok (n1 := n0) (show sWhile 4096 _ _ (envP T x 0) n0 = _ from e) ?_
  have hz := pwL_bound t hx nd
  exact ret_ok (tup_ok (cons_ok rfl (cons_ok (eIdx_at (α := Nat) (by decide) (n1 := n0) (xs := pwL T x k) (a := pw T x (k + 1)) rfl rfl hm (by rw [pwL_len]; omega)) rfl)) (by simp))
theorem power_row_err (t : Tb s T) (h1 : 1 ≤ s) (h6 : s ≤ 6) {x : Int} (hx : ¬ (0 ≤ x ∧ x < s)) (n : Nat) : f_power_row [tabD T, .int x] n = .err "BadThing" n :=
  run_err (seq_err (drop_err (fn_ok (cons_ok rfl (cons_ok (eL_ok (lst_ok (cons_ok rfl rfl) (by simp))) rfl)) rfl (look_one_err t h1 h6 hx n))))
theorem told_ok (t : Tb s T) (h1 : 1 ≤ s) (h6 : s ≤ 6) {x : Nat} (hx : x < s) (n : Nat) : ∃ k, (pwL T x k).Nodup ∧ pw T x (k + 1) ∈ pwL T x k ∧
    f_law_told [tabD T, natD x] n = .ok (.tuple [.list ((pwL T x k).map natD), natD ((pwL T x k).idxOf (pw T x (k + 1)))]) n := by
  obtain ⟨k, a, b, e⟩ := power_row_ok t h1 h6 hx n
  refine ⟨k, a, b, ?_⟩
  refine run_ok (ρ' := [.fz (tabD T), .fz (natD x), .fz .none, .fz (.tuple [.list ((pwL T x k).map natD), natD ((pwL T x k).idxOf (pw T x (k + 1)))]), .no]) ?_
  refine seq_ok (n1 := n) (set_ok rfl) (seq_ok (n1 := n) (set_ok rfl) (seq_ok (n1 := n) (try_ok (fn_ok (cons_ok rfl (cons_ok rfl rfl)) rfl e)) ?_))
  exact ret_ok (ifE_ok (tB_ok (b := true) rfl) rfl)
theorem told_err (t : Tb s T) (h1 : 1 ≤ s) (h6 : s ≤ 6) {x : Int} (hx : ¬ (0 ≤ x ∧ x < s)) (n : Nat) : f_law_told [tabD T, .int x] n = .ok (.tuple [.str "refused", .str "thing"]) n := by
  refine run_ok (ρ' := [.fz (tabD T), .fz (.int x), .fz (excD "BadThing"), .fz .none, .no]) ?_
  refine seq_ok (n1 := n) (set_ok rfl) (seq_ok (n1 := n) (set_ok rfl) (seq_ok (n1 := n) (try_err (c := "BadThing") (fn_ok (cons_ok rfl (cons_ok rfl rfl)) rfl (power_row_err t h1 h6 hx n)) (by decide +kernel)) ?_))
  exact ret_ok (ifE_ok (tB_ok (b := false) rfl) (fn_ok (cons_ok rfl rfl) rfl (refusal_thing n)))
end
section
variable {s : Nat} {T : List (List Nat)}
def aboutD (s : Nat) (T : List (List Nat)) : D := .list ((List.range s).map fun a => PyData.list (((List.range s).map fun b => cellT T b a).map natD))
def envL (ns : List Int) (s : Nat) (T : List (List Nat)) (v6 v7 v8 v9 v10 v11 v12 v13 : Sl) : Mi.Env :=
  [.fz (scrD ns), .fz townD, .fz (tabD T), .fz (natD s), .fz (.list ((List.range s).map natD)), .fz (aboutD s T), v6, v7, v8, v9, v10, v11, v12, v13]
theorem lastI (l : List Nat) (x : Nat) : atI ((l ++ [x]).map natD) (-1) = some (natD x) := by
  rw [List.map_append]
  exact L2.atI_last _ _
theorem pwL_last (x k : Nat) : ∃ l, pwL T x k = l ++ [pw T x k] := ⟨_, by unfold pwL; exact snoc_range _ _⟩
/-- table[row[-1]][thing] -/
theorem nextE (t : Tb s T) {x k : Nat} (hx : x < s) {ρ : Mi.Env} {n : Nat} (h2 : ρ.at 2 = .fz (tabD T)) (h10 : ρ.at 10 = .fz (natD x)) (h11 : ρ.at 11 = .fz (.list ((pwL T x k).map natD))) :
    e2 dIx (e2 dIx (eVar 2) (e2 dIx (eVar 11) (eNeg (eC (.int 1))))) (eVar 10) ρ n = .ok (natD (pw T x (k + 1))) n := by
  refine cellE_ok t (var_ok h2) ?_ (var_ok h10) (pw_lt t hx k) hx
  refine e2_ok (var_ok h11) (neg_ok (a := 1) rfl) ?_
  obtain ⟨l, e⟩ := pwL_last (T := T) x k
  rw [e]
  show ofOpt (atI ((l ++ [pw T x k]).map natD) (-1)) n = _
  rw [lastI]
  rfl
/-- one thing of the law's loop -/
theorem thing_ok (t : Tb s T) (h1 : 1 ≤ s) (h6 : s ≤ 6) (ns : List Int) {x : Nat} (hx : x < s) (n : Nat) (v6 v7 v8 v9 v11 v12 v13 : Sl) : ∃ u11,
    (sSeq (sOwn 11 (lLst (aCons (eVar 10) aNil)))
    (sSeq (sWhile 4096 (bBo 11 (tB (e2 (dIn true) (e2 dIx (e2 dIx (eVar 2) (e2 dIx (eVar 11) (eNeg (eC (.int 1))))) (eVar 10)) (eVar 11))))
    (sApp 11 (eBo 11 (e2 dIx (e2 dIx (eVar 2) (e2 dIx (eVar 11) (eNeg (eC (.int 1))))) (eVar 10)))))
    (sFz 11 (sIf (tB (e2 dNe (eFn 2 f_law_told (aCons (eVar 2) (aCons (eVar 10) aNil))) (eTup (aCons (eVar 11) (aCons (eIdx (eVar 11) (e2 dIx (e2 dIx (eVar 2) (e2 dIx (eVar 11) (eNeg (eC (.int 1))))) (eVar 10))) aNil)))))
    (sRet (eC (.bool false)))
    sNx)))) (envL ns s T v6 v7 v8 v9 (.fz (natD x)) v11 v12 v13) n = .ok (envL ns s T v6 v7 v8 v9 (.fz (natD x)) u11 v12 v13, .nx) n := by
  obtain ⟨ρ', n', n0, e, ⟨rfl, k, nd, rfl⟩, ⟨rfl, _⟩, hc⟩ := whL_inv (c := bBo 11 (tB (e2 (dIn true) (e2 dIx (e2 dIx (eVar 2) (e2 dIx (eVar 11) (eNeg (eC (.int 1))))) (eVar 10)) (eVar 11)))) (body := sApp 11 (eBo 11 (e2 dIx (e2 dIx (eVar 2) (e2 dIx (eVar 11) (eNeg (eC (.int 1))))) (eVar 10))))
    (fun ρ m => m = n ∧ ∃ k, (pwL T x k).Nodup ∧ ρ = envL ns s T v6 v7 v8 v9 (.fz (natD x)) (.ow ((pwL T x k).map natD)) v12 v13) (fun ρ => match ρ.at 11 with | .ow ds => 100 - ds.length | _ => 0) (by
      rintro ρ m ⟨rfl, k, nd, rfl⟩
      have ne : e2 dIx (e2 dIx (eVar 2) (e2 dIx (eVar 11) (eNeg (eC (.int 1))))) (eVar 10) (frz 11 (envL ns s T v6 v7 v8 v9 (.fz (natD x)) (.ow ((pwL T x k).map natD)) v12 v13)) m = .ok (natD (pw T x (k + 1))) m := nextE t hx rfl rfl rfl
      refine ⟨!decide (pw T x (k + 1) ∈ pwL T x k), m, (show (tB (e2 (dIn true) _ _)) (frz 11 (envL ns s T v6 v7 v8 v9 (.fz (natD x)) (.ow ((pwL T x k).map natD)) v12 v13)) m = _ from in_nats ne rfl), fun h => ?_, fun _ => ⟨rfl, k, nd, rfl⟩⟩
      have hn : pw T x (k + 1) ∉ pwL T x k := by simpa using h
      have nd2 := pwL_grow nd hn
      have hb := pwL_bound t hx nd2
      refine ⟨envL ns s T v6 v7 v8 v9 (.fz (natD x)) (.ow ((pwL T x (k + 1)).map natD)) v12 v13, m, ?_, ⟨rfl, k + 1, nd2, rfl⟩, ?_⟩
      · refine (sApp_ok (ds := (pwL T x k).map natD) (d := natD (pw T x (k + 1))) rfl (eBo_ok ne rfl) (by rw [List.length_map, pwL_len]; omega)).trans ?_
        rw [pwL_snoc, List.map_append]
        rfl
      · show 100 - ((pwL T x (k + 1)).map natD).length < 100 - ((pwL T x k).map natD).length
        rw [List.length_map, List.length_map, pwL_len, pwL_len]
        omega) 4096 (envL ns s T v6 v7 v8 v9 (.fz (natD x)) (.ow ((pwL T x 0).map natD)) v12 v13) n ⟨rfl, 0, by simp [pwL], rfl⟩ (by show 100 - _ < 4096; omega)
  have ne : e2 dIx (e2 dIx (eVar 2) (e2 dIx (eVar 11) (eNeg (eC (.int 1))))) (eVar 10) (frz 11 (envL ns s T v6 v7 v8 v9 (.fz (natD x)) (.ow ((pwL T x k).map natD)) v12 v13)) n0 = .ok (natD (pw T x (k + 1))) n0 := nextE t hx rfl rfl rfl
  have hm : pw T x (k + 1) ∈ pwL T x k := by
    have e2 : bBo 11 (tB (e2 (dIn true) (e2 dIx (e2 dIx (eVar 2) (e2 dIx (eVar 11) (eNeg (eC (.int 1))))) (eVar 10)) (eVar 11))) (envL ns s T v6 v7 v8 v9 (.fz (natD x)) (.ow ((pwL T x k).map natD)) v12 v13) n0 = .ok (!decide (pw T x (k + 1) ∈ pwL T x k)) n0 := in_nats ne rfl
    rw [e2] at hc
    injection hc with hc _
    simpa using hc
  obtain ⟨j, nj, mj, ej⟩ := told_ok t h1 h6 hx n0
  have hkj := pw_uniq nj mj nd hm
  subst hkj
  have hz := pwL_bound t hx nd
  refine ⟨.fz (.list ((pwL T x j).map natD)), ?_⟩
  refine seq_ok (n1 := n0) (own_ok (lst_ok (cons_ok rfl rfl) (by simp)) (by show 11 < 14; omega)) ?_
  refine seq_ok (n1 := n0) (show sWhile 4096 _ _ (envL ns s T v6 v7 v8 v9 (.fz (natD x)) (.ow ((pwL T x 0).map natD)) v12 v13) n0 = _ from e) ?_
  refine if_f (n1 := n0) (tB_ok (e2_ok (n1 := n0) (n2 := n0) (fn_ok (cons_ok rfl (cons_ok rfl rfl)) rfl ej) (tup_ok (cons_ok rfl (cons_ok (eIdx_at (α := Nat) (by decide) (n1 := n0) (xs := pwL T x j) (a := pw T x (j + 1)) rfl ne mj (by rw [pwL_len]; omega)) rfl)) (by simp)) ?_)) rfl
  have := dNe_at (α := List Nat × Nat) (by decide) (pwL T x j, (pwL T x j).idxOf (pw T x (j + 1))) (pwL T x j, (pwL T x j).idxOf (pw T x (j + 1)))
  rw [decide_eq_true rfl] at this
  exact congrFun this n0
theorem idle_law (t : Tb s T) (ns : List Int) (n : Nat) : lComp (iSeq (eVar 4)) (.nm 10) [10] (tB (e2 dEq (e2 dIx (e2 dIx (eVar 2) (eVar 10)) (eVar 10)) (eVar 10))) (eVar 10) (envL ns s T .no .no .no .no .no .no .no .no) n = .ok ((idleL s T).map natD) n ∨ 6 < s := by
  by_cases hs : 6 < s
  · exact .inr hs
  exact .inl (lComp_mapIf natD (List.range s) (fun i => decide (cellT T i i = i)) natD (seqL rfl) (fun x hx => by
    have hx : x < s := by simpa using hx
    exact tB_ok (e2_ok (cellE_ok t rfl rfl rfl hx hx) rfl (eqN _ _))) (fun x hx _ => rfl) (by simp; omega))
end
theorem law_true (ns : List Int) (hns : ns.length ≤ 63) : lawOk 14 1 b_law ns := by
  obtain ⟨s, T, n, h1, h6, t, _, e0⟩ := table_ok ns 6 0 (by omega) (by omega) (by omega)
  refine ⟨n, ?_⟩
  have ev : (fun d : D => d) = fun d => d := rfl
  suffices h : ∃ ρ', b_law ((startE 14 [scrD ns]).set 1 (.fz townD)) 0 = .ok (ρ', .rt (.bool true)) n by
    obtain ⟨ρ', h⟩ := h
    rw [bnd_app, h, bd_ok]
    rfl
  have hl6 : (List.range s).length ≤ 1000000 := by simp; omega
  have aR : ∀ {x : Nat}, x < s → ((List.range s).map fun a => PyData.list (((List.range s).map fun b => cellT T b a).map natD))[x]? = some (PyData.list (((List.range s).map fun b => cellT T b x).map natD)) := fun {x} hx => map_get _ (range_at hx)
  have eq2 : ∀ (a b : List Nat × List Nat), dNe (PySem.W.Datum.toD a) (PySem.W.Datum.toD b) = pure (.bool (!decide (a = b))) := fun a b => dNe_at (α := List Nat × List Nat) (by decide) a b
  -- the first lines
  have about : lComp (iSeq (eVar 4)) (.nm 12) [12] tYesM (eL (lComp (iSeq (eVar 4)) (.nm 13) [13] tYesM (e2 dIx (e2 dIx (eVar 2) (eVar 13)) (eVar 12)))) [.fz (scrD ns), .fz townD, .fz (tabD T), .fz (natD s), .fz (.list ((List.range s).map natD)), .no, .no, .no, .no, .no, .no, .no, .no, .no] n
      = .ok ((List.range s).map fun a => PyData.list (((List.range s).map fun b => cellT T b a).map natD)) n :=
    lComp_map natD (List.range s) _ (seqL rfl) (fun a ha => by
      have ha : a < s := by simpa using ha
      refine eL_ok ?_
      rw [List.map_map]
      exact lComp_map natD (List.range s) _ (seqL rfl) (fun b hb => cellE_ok t rfl rfl rfl (by simpa using hb) ha) hl6) hl6
  have idl := (idle_law t ns n).resolve_right (by omega)
  have lft : lComp (iSeq (eVar 4)) (.nm 10) [10] (tB (e2 dEq (eL (lCall (arg1 gList) (aCons (e2 dIx (eVar 2) (eVar 10)) aNil))) (eVar 4))) (eVar 10) (envL ns s T .no .no .no .no .no .no .no .no) n = .ok ((unL s T).map natD) n :=
    lComp_mapIf natD (List.range s) (fun i => decide (T.getD i [] = List.range s)) natD (seqL rfl) (fun x hx => by
      have hx : x < s := by simpa using hx
      refine tB_ok (e2_ok (n1 := n) (n2 := n) (x := .list ((T.getD x []).map natD)) (y := .list ((List.range s).map natD)) (eL_ok (listT_ok (ixT_ok rfl rfl (t.ixRow hx)))) rfl ?_)
      rw [dEq_nats]
      rfl) (fun x hx _ => rfl) hl6
  have rgt : lComp (iSeq (eVar 4)) (.nm 10) [10] (tB (e2 dEq (e2 dIx (eVar 5) (eVar 10)) (eVar 4))) (eVar 10) (envL ns s T (.fz (.list ((unL s T).map natD))) .no .no .no .no .no .no .no) n = .ok ((unR s T).map natD) n :=
    lComp_mapIf natD (List.range s) (fun i => decide ((T.map fun row => row.getD i 0) = List.range s)) natD (seqL rfl) (fun x hx => by
      have hx : x < s := by simpa using hx
      rw [col_eq t x]
      refine tB_ok (e2_ok (n1 := n) (n2 := n) (x := .list (((List.range s).map fun b => cellT T b x).map natD)) (y := .list ((List.range s).map natD)) (ixL_ok rfl rfl (aR hx)) rfl ?_)
      rw [dEq_nats]
      rfl) (fun x hx _ => rfl) hl6
  have low : lComp (iSeq (eVar 4)) (.nm 10) [10] (tB (e2 dEq (eL (lSrt (e2 dIx (eVar 2) (eVar 10)))) (eL (lLst (aCons (eVar 10) aNil))))) (eVar 10) (envL ns s T (.fz (.list ((unL s T).map natD))) (.fz (.list ((unR s T).map natD))) .no .no .no .no .no .no) n = .ok ((noL' s T).map natD) n := by
    rw [← noL_once t h1]
    exact lComp_mapIf natD (List.range s) (fun i => decide (onceN (T.getD i []) = [i])) natD (seqL rfl) (fun x hx => by
      have hx : x < s := by simpa using hx
      refine tB_ok (e2_ok (n1 := n) (n2 := n) (x := .list ((onceN (T.getD x [])).map natD)) (y := .list ([x].map natD)) (eL_ok (srtT_ok (xs := T.getD x []) (ixT_ok rfl rfl (t.ixRow hx)) (by rw [(t.rowAt hx).1]; omega))) (eL_ok (lst_ok (cons_ok rfl rfl) (by simp))) ?_)
      rw [dEq_nats]
      rfl) (fun x hx _ => rfl) hl6
  have hig : lComp (iSeq (eVar 4)) (.nm 10) [10] (tB (e2 dEq (eL (lSrt (e2 dIx (eVar 5) (eVar 10)))) (eL (lLst (aCons (eVar 10) aNil))))) (eVar 10) (envL ns s T (.fz (.list ((unL s T).map natD))) (.fz (.list ((unR s T).map natD))) (.fz (.list ((noL' s T).map natD))) .no .no .no .no .no) n = .ok ((noR' s T).map natD) n := by
    rw [← noR_once t h1]
    exact lComp_mapIf natD (List.range s) (fun i => decide (onceN ((List.range s).map fun j => cellT T j i) = [i])) natD (seqL rfl) (fun x hx => by
      have hx : x < s := by simpa using hx
      refine tB_ok (e2_ok (n1 := n) (n2 := n) (x := .list ((onceN ((List.range s).map fun j => cellT T j x)).map natD)) (y := .list ([x].map natD)) (eL_ok (srtL_ok (xs := (List.range s).map fun j => cellT T j x) (ixL_ok rfl rfl (aR hx)) (by simp; omega))) (eL_ok (lst_ok (cons_ok rfl rfl) (by simp))) ?_)
      rw [dEq_nats]
      rfl) (fun x hx _ => rfl) hl6
  let E := fun v10 v11 => envL ns s T (.fz (.list ((unL s T).map natD))) (.fz (.list ((unR s T).map natD))) (.fz (.list ((noL' s T).map natD))) (.fz (.list ((noR' s T).map natD))) v10 v11 .no .no
  have tt := turnT_tb t
  have tud : ∀ ρ : Mi.Env, ρ.at 2 = .fz (tabD T) → eFn 1 f_turned (aCons (eVar 2) aNil) ρ n = .ok (tabD (turnT s T)) n := fun ρ h => fn_ok (cons_ok (var_ok h) rfl) rfl (turned_ok t h1 h6 n)
  obtain ⟨ρ', n', e9, hn9, u10, u11, e9'⟩ := forL_range (s := s) (i := 10) (body := sSeq (sOwn 11 (lLst (aCons (eVar 10) aNil)))
    (sSeq (sWhile 4096 (bBo 11 (tB (e2 (dIn true) (e2 dIx (e2 dIx (eVar 2) (e2 dIx (eVar 11) (eNeg (eC (.int 1))))) (eVar 10)) (eVar 11))))
    (sApp 11 (eBo 11 (e2 dIx (e2 dIx (eVar 2) (e2 dIx (eVar 11) (eNeg (eC (.int 1))))) (eVar 10)))))
    (sFz 11 (sIf (tB (e2 dNe (eFn 2 f_law_told (aCons (eVar 2) (aCons (eVar 10) aNil))) (eTup (aCons (eVar 11) (aCons (eIdx (eVar 11) (e2 dIx (e2 dIx (eVar 2) (e2 dIx (eVar 11) (eNeg (eC (.int 1))))) (eVar 10))) aNil)))))
    (sRet (eC (.bool false)))
    sNx)))) (fun _ ρ m => m = n ∧ ∃ u10 u11, ρ = E u10 u11) (ρ := E .no .no) (n := n) ⟨rfl, .no, .no, rfl⟩ (by
      rintro x ρ m hx ⟨rfl, u10, u11, rfl⟩
      obtain ⟨w, e⟩ := thing_ok t h1 h6 ns hx m (.fz (.list ((unL s T).map natD))) (.fz (.list ((unR s T).map natD))) (.fz (.list ((noL' s T).map natD))) (.fz (.list ((noR' s T).map natD))) u11 .no .no
      exact ⟨_, _, e, rfl, .fz (natD x), w, rfl⟩)
  subst hn9 e9'
  refine ⟨E u10 u11, ?_⟩
  refine seq_ok (set_ok (fn_ok (cons_ok rfl (cons_ok rfl (cons_ok rfl rfl))) rfl e0)) ?_
  refine seq_ok (n1 := n') (set_ok (lenTab t rfl)) ?_
  refine seq_ok (n1 := n') (set_ok (eL_ok (rg1_ok (j := s) rfl (by omega)))) ?_
  refine seq_ok (n1 := n') (set_ok (eL_ok about)) ?_
  refine seq_ok (n1 := n') (if_f (n1 := n') (tB_ok (e2_ok (n1 := n') (n2 := n') (fn_ok (cons_ok rfl rfl) rfl (idle_ok t h1 h6 n')) (eL_ok idl) ?_)) rfl) ?_
  · rw [dNe_nats, decide_eq_true rfl]
    rfl
  refine seq_ok (n1 := n') (set_ok (eL_ok lft)) ?_
  refine seq_ok (n1 := n') (set_ok (eL_ok rgt)) ?_
  refine seq_ok (n1 := n') (if_f (n1 := n') (or_f (n1 := n') (tB_ok (e2_ok (n1 := n') (n2 := n') (fn_ok (cons_ok rfl rfl) rfl (units_ok t h1 h6 n')) (tup_ok (cons_ok rfl (cons_ok rfl rfl)) (by simp)) ?_)) ?_) rfl) ?_
  · have := eq2 (unL s T, unR s T) (unL s T, unR s T)
    rw [decide_eq_true rfl] at this
    exact congrFun this n'
  · have c1 : tB (e2 dGt (eCall (arg1 dLen) (aCons (eVar 6) aNil)) (eC (.int 0))) (envL ns s T (.fz (.list ((unL s T).map natD))) (.fz (.list ((unR s T).map natD))) .no .no .no .no .no .no) n' = .ok (decide (0 < ((unL s T).map natD).length)) n' := tB_ok (e2_ok (lenL_ok rfl) rfl (gtN _ 0))
    have c2 : tB (e2 dGt (eCall (arg1 dLen) (aCons (eVar 7) aNil)) (eC (.int 0))) (envL ns s T (.fz (.list ((unL s T).map natD))) (.fz (.list ((unR s T).map natD))) .no .no .no .no .no .no) n' = .ok (decide (0 < ((unR s T).map natD).length)) n' := tB_ok (e2_ok (lenL_ok rfl) rfl (gtN _ 0))
    have c3 : tB (e2 dNe (eVar 6) (eVar 7)) (envL ns s T (.fz (.list ((unL s T).map natD))) (.fz (.list ((unR s T).map natD))) .no .no .no .no .no .no) n' = .ok (!decide (unL s T = unR s T)) n' := tB_ok (e2_ok rfl rfl (by rw [dNe_nats]; rfl))
    refine (and_ok c1 (and_ok c2 c3)).trans ?_
    congr 1
    by_cases a : unL s T = []
    · rw [a]
      rfl
    · by_cases b : unR s T = []
      · rw [b]
        simp
      · rw [un_same t a b]
        simp
  refine seq_ok (n1 := n') (set_ok (eL_ok low)) ?_
  refine seq_ok (n1 := n') (set_ok (eL_ok hig)) ?_
  refine seq_ok (n1 := n') (if_f (n1 := n') (or_f (n1 := n') (tB_ok (e2_ok (n1 := n') (n2 := n') (fn_ok (cons_ok rfl rfl) rfl (noughts_ok t h1 h6 n')) (tup_ok (cons_ok rfl (cons_ok rfl rfl)) (by simp)) ?_))
    (or_f (n1 := n') (tB_ok (e2_ok (n1 := n') (n2 := n') (fn_ok (cons_ok (tud _ rfl) rfl) rfl (units_ok tt h1 h6 n')) (tup_ok (cons_ok rfl (cons_ok rfl rfl)) (by simp)) ?_)) (tB_ok (e2_ok (n1 := n') (n2 := n') (fn_ok (cons_ok (tud _ rfl) rfl) rfl (noughts_ok tt h1 h6 n')) (tup_ok (cons_ok rfl (cons_ok rfl rfl)) (by simp)) ?_)))) rfl) ?_
  · have := eq2 (noL' s T, noR' s T) (noL' s T, noR' s T)
    rw [decide_eq_true rfl] at this
    exact congrFun this n'
  · rw [unL_turn t, unR_turn t]
    have := eq2 (unR s T, unL s T) (unR s T, unL s T)
    rw [decide_eq_true rfl] at this
    exact congrFun this n'
  · rw [noL_turn t, noR_turn t]
    have := eq2 (noR' s T, noL' s T) (noR' s T, noL' s T)
    rw [decide_eq_true rfl] at this
    exact congrFun this n'
  refine seq_ok (n1 := n') ?_ (ret_ok (e2_ok (n1 := n') (n2 := n') (x := .list [.tuple [.str "refused", .str "thing"], .tuple [.str "refused", .str "thing"]]) (y := .list [.tuple [.str "refused", .str "thing"], .tuple [.str "refused", .str "thing"]]) (eL_ok ?_) ?_ (by kernel_rfl)))
  · rw [sFor_ok (ds := (List.range s).map natD) (n1 := n') (seqL rfl)]
    exact e9
  · refine (lComp_map PyData.int [-1, (s : Int)] (fun _ => .tuple [.str "refused", .str "thing"]) (seqT (tup_ok (cons_ok (neg_ok (a := 1) rfl) (cons_ok rfl rfl)) (by simp))) (fun x hx => fn_ok (cons_ok rfl (cons_ok rfl rfl)) rfl (told_err t h1 h6 (by
      simp only [List.mem_cons, List.not_mem_nil, or_false] at hx
      omega) n')) (by simp))
  · kernel_rfl
end Lk11

end

section
set_option Elab.async false
set_option linter.all false
set_option maxRecDepth 100000
set_option maxHeartbeats 4000000
/-! the walk of law_k11_whole_things -/
namespace Lk11
open PySem PySem.Spec L2 Mi
def top (i : Nat) : Stmt := PySem.Challenge.pw_onerule_k11_whole_things.main.body.getD i (.Pass ⟨0, 0, 0, 0⟩)
structure Tx (K : PySem.W.Frag) (mg : Str → Option Value) : Prop where
  z_ValueError : mg "ValueError" = none
  z_all : mg "all" = none
  z_isinstance : mg "isinstance" = none
  z_len : mg "len" = none
  z_list : mg "list" = none
  z_max : mg "max" = none
  z_min : mg "min" = none
  z_range : mg "range" = none
  z_set : mg "set" = none
  z_sorted : mg "sorted" = none
  z_tuple : mg "tuple" = none
  g_MOST : ∃ t, mg "MOST" = some (.int 6 t)
  r_BadTable : CanRaise K mg "BadTable"
  r_BadThing : CanRaise K mg "BadThing"
  e_RuleError : ∃ C : Addr, mg "RuleError" = some (.ref C) ∧ ∀ c, ranked raised c = true → ∀ D, mg c = some (.ref D) → PySem.W.exmOne K (.ref D) (.ref C) = some true
  i_BadLeading : ∃ C : Addr, mg "BadLeading" = some (.ref C) ∧ ∀ c r D, isx_BadLeading c = some r → mg c = some (.ref D) → ExcC K D ∧ PySem.W.kitOne K (.ref D) (.ref C) = some r
  i_BadNumber : ∃ C : Addr, mg "BadNumber" = some (.ref C) ∧ ∀ c r D, isx_BadNumber c = some r → mg c = some (.ref D) → ExcC K D ∧ PySem.W.kitOne K (.ref D) (.ref C) = some r
  i_BadParting : ∃ C : Addr, mg "BadParting" = some (.ref C) ∧ ∀ c r D, isx_BadParting c = some r → mg c = some (.ref D) → ExcC K D ∧ PySem.W.kitOne K (.ref D) (.ref C) = some r
  i_BadSaying : ∃ C : Addr, mg "BadSaying" = some (.ref C) ∧ ∀ c r D, isx_BadSaying c = some r → mg c = some (.ref D) → ExcC K D ∧ PySem.W.kitOne K (.ref D) (.ref C) = some r
  i_BadTable : ∃ C : Addr, mg "BadTable" = some (.ref C) ∧ ∀ c r D, isx_BadTable c = some r → mg c = some (.ref D) → ExcC K D ∧ PySem.W.kitOne K (.ref D) (.ref C) = some r
  i_BadText : ∃ C : Addr, mg "BadText" = some (.ref C) ∧ ∀ c r D, isx_BadText c = some r → mg c = some (.ref D) → ExcC K D ∧ PySem.W.kitOne K (.ref D) (.ref C) = some r
  i_BadThing : ∃ C : Addr, mg "BadThing" = some (.ref C) ∧ ∀ c r D, isx_BadThing c = some r → mg c = some (.ref D) → ExcC K D ∧ PySem.W.kitOne K (.ref D) (.ref C) = some r
  i_TooGreat : ∃ C : Addr, mg "TooGreat" = some (.ref C) ∧ ∀ c r D, isx_TooGreat c = some r → mg c = some (.ref D) → ExcC K D ∧ PySem.W.kitOne K (.ref D) (.ref C) = some r
  i_ValueError : ∀ c r D, isx_ValueError c = some r → mg c = some (.ref D) → ExcC K D ∧ PySem.W.kitOne K (.ref D) (.type "ValueError") = some r
section
variable {P : Program} {w : World} {K : PySem.W.Frag} {mg : Str → Option Value} {base : Heap}
abbrev st_look_table : Stmt := top 12
theorem sc_look_table : FnScope ["table", "size", "row", "thing"] ["table"] (defScope st_look_table) := ⟨rfl, rfl, rfl, by decide +kernel, rfl, by decide +kernel, by decide +kernel⟩
theorem ok_look_table (T : Tx K mg) (F : FunAt K mg "look_table" st_look_table)  : Cal P w K mg base 1 "look_table" 1 f_look_table :=
  cal_of (k := 0) (body := b_look_table) F sc_look_table rfl rfl (fun _ _ _ _ _ _ us hl => match us, hl with | [_], _ => rfl) fun f cdv A outer s H E hr =>
    have S := sc_look_table
    (ss_cons (s_set (i := 1) S.nd rfl (Or.inr rfl) (x_len T.z_len (a_cons (x_var 0) a_nil)))
    (ss_cons (s_if (PW.pt (w_or (t_not (t_leLe x_int (x_var 1) (x_globI T.g_MOST))) (w_or1 (t_not (t_truth (x_all rfl T.z_all (a_cons (x_fz (l_comp rfl S.nd (i_seq (x_var 0)) (blkOk_by (own := [("row", 2)]) (by kernel_rfl)) (fun _ _ _ _ _ => (g_nm (i := 2) S.nd rfl (by first | exact Or.inl rfl | exact Or.inr rfl))) (fun _ _ _ _ _ => ts_nil) (fun _ _ _ _ _ => (x_eq hr.units (x_len T.z_len (a_cons (x_var 2) a_nil)) (x_var 1))))) a_nil)))))))
    (ss_one (s_raiseC rfl (takes_of rfl rfl rfl rfl) T.r_BadTable))
    ss_nil)
    (ss_one (s_if (t_not (t_truth (x_all rfl T.z_all (a_cons (x_fz (l_comp rfl S.nd (i_seq (x_var 0)) (blkOk_by (own := [("row", 2)]) (by kernel_rfl)) (fun _ _ _ _ _ => (g_nm (i := 2) S.nd rfl (by first | exact Or.inl rfl | exact Or.inr rfl))) (fun _ _ _ _ _ => ts_nil) (fun _ _ _ _ _ => (x_all rfl T.z_all (a_cons (x_fz (l_comp rfl S.nd (i_seq (x_var 2)) (blkOk_by (own := [("thing", 3)]) (by kernel_rfl)) (fun _ _ _ _ _ => (g_nm (i := 3) S.nd rfl (by first | exact Or.inl rfl | exact Or.inr rfl))) (fun _ _ _ _ _ => ts_nil) (fun _ _ _ _ _ => (x_leLt x_int (x_var 3) (x_var 1))))) a_nil))))) a_nil))))
    (ss_one (s_raiseC rfl (takes_of rfl rfl rfl rfl) T.r_BadTable))
    ss_nil))))
abbrev st_look_thing : Stmt := top 13
theorem sc_look_thing : FnScope ["table", "thing"] ["table", "thing"] (defScope st_look_thing) := ⟨rfl, rfl, rfl, by decide +kernel, rfl, by decide +kernel, by decide +kernel⟩
theorem ok_look_thing (T : Tx K mg) (F : FunAt K mg "look_thing" st_look_thing)  : Cal P w K mg base 1 "look_thing" 2 f_look_thing :=
  cal_of (k := 0) (body := b_look_thing) F sc_look_thing rfl rfl (fun _ _ _ _ _ _ us hl => match us, hl with | [_, _], _ => rfl) fun f cdv A outer s H E hr =>
    have S := sc_look_thing
    (ss_one (s_if (t_not (t_leLt x_int (x_var 1) (x_len T.z_len (a_cons (x_var 0) a_nil))))
    (ss_one (s_raiseC rfl (takes_of rfl rfl rfl rfl) T.r_BadThing))
    ss_nil))
abbrev st_look_things : Stmt := top 14
theorem sc_look_things : FnScope ["table", "some", "thing"] ["table", "some"] (defScope st_look_things) := ⟨rfl, rfl, rfl, by decide +kernel, rfl, by decide +kernel, by decide +kernel⟩
theorem ok_look_things (T : Tx K mg) (F : FunAt K mg "look_things" st_look_things) (c_look_table : Cal P w K mg base 1 "look_table" 1 f_look_table) (c_look_thing : Cal P w K mg base 1 "look_thing" 2 f_look_thing) : Cal P w K mg base 2 "look_things" 2 f_look_things :=
  cal_of (k := 1) (body := b_look_things) F sc_look_things rfl rfl (fun _ _ _ _ _ _ us hl => match us, hl with | [_, _], _ => rfl) fun f cdv A outer s H E hr =>
    have S := sc_look_things
    (ss_cons (s_drop (x_cal (takes_of rfl rfl rfl rfl) (hr.mono (by decide)) c_look_table (a_cons (x_var 0) a_nil)))
    (ss_one (s_for (passes_of rfl) rfl (i_seq (x_var 1)) (g_nm (i := 2) S.nd rfl (Or.inl rfl))
    (ss_one (s_drop (x_cal (takes_of rfl rfl rfl rfl) (hr.mono (by decide)) c_look_thing (a_cons (x_var 0) (a_cons (x_var 2) a_nil))))))))
abbrev st_turned : Stmt := top 15
theorem sc_turned : FnScope ["table", "k", "row"] ["table"] (defScope st_turned) := ⟨rfl, rfl, rfl, by decide +kernel, rfl, by decide +kernel, by decide +kernel⟩
theorem ok_turned (T : Tx K mg) (F : FunAt K mg "turned" st_turned) (c_look_table : Cal P w K mg base 1 "look_table" 1 f_look_table) : Cal P w K mg base 2 "turned" 1 f_turned :=
  cal_of (k := 1) (body := b_turned) F sc_turned rfl rfl (fun _ _ _ _ _ _ us hl => match us, hl with | [_], _ => rfl) fun f cdv A outer s H E hr =>
    have S := sc_turned
    (ss_cons (s_drop (x_cal (takes_of rfl rfl rfl rfl) (hr.mono (by decide)) c_look_table (a_cons (x_var 0) a_nil)))
    (ss_one (s_ret (x_tuple T.z_tuple (a_cons (x_fz (l_comp rfl S.nd (i_range1 T.z_range (a_cons (x_len T.z_len (a_cons (x_var 0) a_nil)) a_nil)) (blkOk_by (own := [("k", 1)]) (by kernel_rfl)) (fun _ _ _ _ _ => (g_nm (i := 1) S.nd rfl (by first | exact Or.inl rfl | exact Or.inr rfl))) (fun _ _ _ _ _ => ts_nil) (fun _ _ _ _ _ => (x_tuple T.z_tuple (a_cons (x_fz (l_comp rfl S.nd (i_seq (x_var 0)) (blkOk_by (own := [("row", 2)]) (by kernel_rfl)) (fun _ _ _ _ _ => (g_nm (i := 2) S.nd rfl (by first | exact Or.inl rfl | exact Or.inr rfl))) (fun _ _ _ _ _ => ts_nil) (fun _ _ _ _ _ => (x_ix (x_var 2) (x_var 1))))) a_nil))))) a_nil)))))
abbrev st_idle : Stmt := top 17
theorem sc_idle : FnScope ["table", "thing"] ["table"] (defScope st_idle) := ⟨rfl, rfl, rfl, by decide +kernel, rfl, by decide +kernel, by decide +kernel⟩
theorem ok_idle (T : Tx K mg) (F : FunAt K mg "idle" st_idle) (c_look_table : Cal P w K mg base 1 "look_table" 1 f_look_table) : Cal P w K mg base 2 "idle" 1 f_idle :=
  cal_of (k := 1) (body := b_idle) F sc_idle rfl rfl (fun _ _ _ _ _ _ us hl => match us, hl with | [_], _ => rfl) fun f cdv A outer s H E hr =>
    have S := sc_idle
    (ss_cons (s_drop (x_cal (takes_of rfl rfl rfl rfl) (hr.mono (by decide)) c_look_table (a_cons (x_var 0) a_nil)))
    (ss_one (s_ret (x_fz (l_comp rfl S.nd (i_range1 T.z_range (a_cons (x_len T.z_len (a_cons (x_var 0) a_nil)) a_nil)) (blkOk_by (own := [("thing", 1)]) (by kernel_rfl)) (fun _ _ _ _ _ => (g_nm (i := 1) S.nd rfl (by first | exact Or.inl rfl | exact Or.inr rfl))) (fun _ _ _ _ _ => (ts_one (t_eq hr.units (x_ix (x_ix (x_var 0) (x_var 1)) (x_var 1)) (x_var 1)))) (fun _ _ _ _ _ => (x_var 1)))))))
abbrev st_units : Stmt := top 18
theorem sc_units : FnScope ["table", "every", "left", "right", "thing", "row"] ["table"] (defScope st_units) := ⟨rfl, rfl, rfl, by decide +kernel, rfl, by decide +kernel, by decide +kernel⟩
theorem ok_units (T : Tx K mg) (F : FunAt K mg "units" st_units) (c_look_table : Cal P w K mg base 1 "look_table" 1 f_look_table) : Cal P w K mg base 2 "units" 1 f_units :=
  cal_of (k := 1) (body := b_units) F sc_units rfl rfl (fun _ _ _ _ _ _ us hl => match us, hl with | [_], _ => rfl) fun f cdv A outer s H E hr =>
    have S := sc_units
    (ss_cons (s_drop (x_cal (takes_of rfl rfl rfl rfl) (hr.mono (by decide)) c_look_table (a_cons (x_var 0) a_nil)))
    (ss_cons (s_set (i := 1) S.nd rfl (Or.inr rfl) (x_fz (l_rg1 rfl T.z_list T.z_range (x_len T.z_len (a_cons (x_var 0) a_nil)))))
    (ss_cons (s_setLc (i := 2) rfl S.nd rfl rfl (i_seq (x_var 1)) (blkOk_by (own := [("thing", 4)]) (by kernel_rfl)) (fun _ _ _ _ _ => (g_nm (i := 4) S.nd rfl (by first | exact Or.inl rfl | exact Or.inr rfl))) (fun _ _ _ _ _ => (ts_one (t_eq hr.units (x_fz (l_list T.z_list (a_cons (x_ix (x_var 0) (x_var 4)) a_nil))) (x_var 1)))) (fun _ _ _ _ _ => (x_var 4)))
    (ss_cons (s_setLc (i := 3) rfl S.nd rfl rfl (i_seq (x_var 1)) (blkOk_by (own := [("thing", 4)]) (by kernel_rfl)) (fun _ _ _ _ _ => (g_nm (i := 4) S.nd rfl (by first | exact Or.inl rfl | exact Or.inr rfl))) (fun _ _ _ _ _ => (ts_one (t_eq hr.units (x_fz (l_comp rfl S.nd (i_seq (x_var 0)) (blkOk_by (own := [("row", 5)]) (by kernel_rfl)) (fun _ _ _ _ _ => (g_nm (i := 5) S.nd rfl (by first | exact Or.inl rfl | exact Or.inr rfl))) (fun _ _ _ _ _ => ts_nil) (fun _ _ _ _ _ => (x_ix (x_var 5) (x_var 4))))) (x_var 1)))) (fun _ _ _ _ _ => (x_var 4)))
    (ss_one (s_ret (x_tup (a_cons (x_var 2) (a_cons (x_var 3) a_nil)))))))))
abbrev st_noughts : Stmt := top 19
theorem sc_noughts : FnScope ["table", "every", "left", "right", "thing", "other"] ["table"] (defScope st_noughts) := ⟨rfl, rfl, rfl, by decide +kernel, rfl, by decide +kernel, by decide +kernel⟩
theorem ok_noughts (T : Tx K mg) (F : FunAt K mg "noughts" st_noughts) (c_look_table : Cal P w K mg base 1 "look_table" 1 f_look_table) : Cal P w K mg base 2 "noughts" 1 f_noughts :=
  cal_of (k := 1) (body := b_noughts) F sc_noughts rfl rfl (fun _ _ _ _ _ _ us hl => match us, hl with | [_], _ => rfl) fun f cdv A outer s H E hr =>
    have S := sc_noughts
    (ss_cons (s_drop (x_cal (takes_of rfl rfl rfl rfl) (hr.mono (by decide)) c_look_table (a_cons (x_var 0) a_nil)))
    (ss_cons (s_set (i := 1) S.nd rfl (Or.inr rfl) (x_fz (l_rg1 rfl T.z_list T.z_range (x_len T.z_len (a_cons (x_var 0) a_nil)))))
    (ss_cons (s_setLc (i := 2) rfl S.nd rfl rfl (i_seq (x_var 1)) (blkOk_by (own := [("thing", 4)]) (by kernel_rfl)) (fun _ _ _ _ _ => (g_nm (i := 4) S.nd rfl (by first | exact Or.inl rfl | exact Or.inr rfl))) (fun _ _ _ _ _ => (ts_one (t_truth (x_all rfl T.z_all (a_cons (x_fz (l_comp rfl S.nd (i_seq (x_var 1)) (blkOk_by (own := [("other", 5)]) (by kernel_rfl)) (fun _ _ _ _ _ => (g_nm (i := 5) S.nd rfl (by first | exact Or.inl rfl | exact Or.inr rfl))) (fun _ _ _ _ _ => ts_nil) (fun _ _ _ _ _ => (x_eq hr.units (x_ix (x_ix (x_var 0) (x_var 4)) (x_var 5)) (x_var 4))))) a_nil))))) (fun _ _ _ _ _ => (x_var 4)))
    (ss_cons (s_setLc (i := 3) rfl S.nd rfl rfl (i_seq (x_var 1)) (blkOk_by (own := [("thing", 4)]) (by kernel_rfl)) (fun _ _ _ _ _ => (g_nm (i := 4) S.nd rfl (by first | exact Or.inl rfl | exact Or.inr rfl))) (fun _ _ _ _ _ => (ts_one (t_truth (x_all rfl T.z_all (a_cons (x_fz (l_comp rfl S.nd (i_seq (x_var 1)) (blkOk_by (own := [("other", 5)]) (by kernel_rfl)) (fun _ _ _ _ _ => (g_nm (i := 5) S.nd rfl (by first | exact Or.inl rfl | exact Or.inr rfl))) (fun _ _ _ _ _ => ts_nil) (fun _ _ _ _ _ => (x_eq hr.units (x_ix (x_ix (x_var 0) (x_var 5)) (x_var 4)) (x_var 4))))) a_nil))))) (fun _ _ _ _ _ => (x_var 4)))
    (ss_one (s_ret (x_tup (a_cons (x_var 2) (a_cons (x_var 3) a_nil)))))))))
abbrev st_power_row : Stmt := top 20
theorem sc_power_row : FnScope ["table", "thing", "found", "here"] ["table", "thing"] (defScope st_power_row) := ⟨rfl, rfl, rfl, by decide +kernel, rfl, by decide +kernel, by decide +kernel⟩
theorem ok_power_row (T : Tx K mg) (F : FunAt K mg "power_row" st_power_row) (c_look_things : Cal P w K mg base 2 "look_things" 2 f_look_things) : Cal P w K mg base 3 "power_row" 2 f_power_row :=
  cal_of (k := 2) (body := b_power_row) F sc_power_row rfl rfl (fun _ _ _ _ _ _ us hl => match us, hl with | [_, _], _ => rfl) fun f cdv A outer s H E hr =>
    have S := sc_power_row
    (ss_cons (s_drop (x_cal (takes_of rfl rfl rfl rfl) (hr.mono (by decide)) c_look_things (a_cons (x_var 0) (a_cons (x_fz (l_lst (a_cons (x_var 1) a_nil))) a_nil))))
    (ss_cons (s_own (i := 2) S.nd rfl (Or.inl rfl) (l_lst (a_cons (x_var 1) a_nil)))
    (ss_cons (s_set (i := 3) S.nd rfl (Or.inl rfl) (x_ix (x_ix (x_var 0) (x_var 1)) (x_var 1)))
    (ss_cons (s_while (passes_of rfl) (t_bo (i := 2) (t_notIn hr.units (x_var 3) (x_var 2)))
    (ss_cons (s_app (pv 2) (x_var 3))
    (ss_one (s_set (i := 3) S.nd rfl (Or.inl rfl) (x_ix (x_ix (x_var 0) (x_var 3)) (x_var 1))))))
    (ss_one (s_fz 2 (s_ret (x_tup (a_cons (x_var 2) (a_cons (x_idx hr.units (x_var 2) (x_var 3)) a_nil))))))))))
abbrev st_law_cell : Stmt := top 22
theorem sc_law_cell : FnScope ["_law_script", "_law_k"] ["_law_script", "_law_k"] (defScope st_law_cell) := ⟨rfl, rfl, rfl, by decide +kernel, rfl, by decide +kernel, by decide +kernel⟩
theorem ok_law_cell (T : Tx K mg) (F : FunAt K mg "_law_cell" st_law_cell)  : Cal P w K mg base 1 "_law_cell" 2 f_law_cell :=
  cal_of (k := 0) (body := b_law_cell) F sc_law_cell rfl rfl (fun _ _ _ _ _ _ us hl => match us, hl with | [_, _], _ => rfl) fun f cdv A outer s H E hr =>
    have S := sc_law_cell
    (ss_cons (s_if (t_truth (x_var 0))
    (ss_one (s_ret (x_ix (x_var 0) (x_mod (x_var 1) (x_len T.z_len (a_cons (x_var 0) a_nil))))))
    ss_nil)
    (ss_one (s_ret x_int)))
abbrev st_law_mix : Stmt := top 23
theorem sc_law_mix : FnScope ["_law_script", "_law_k", "_law_number"] ["_law_script", "_law_k"] (defScope st_law_mix) := ⟨rfl, rfl, rfl, by decide +kernel, rfl, by decide +kernel, by decide +kernel⟩
theorem ok_law_mix (T : Tx K mg) (F : FunAt K mg "_law_mix" st_law_mix) (c_law_cell : Cal P w K mg base 1 "_law_cell" 2 f_law_cell) : Cal P w K mg base 2 "_law_mix" 2 f_law_mix :=
  cal_of (k := 1) (body := b_law_mix) F sc_law_mix rfl rfl (fun _ _ _ _ _ _ us hl => match us, hl with | [_, _], _ => rfl) fun f cdv A outer s H E hr =>
    have S := sc_law_mix
    (ss_cons (s_set (i := 2) S.nd rfl (Or.inl rfl) (x_mod (x_add (x_cal (takes_of rfl rfl rfl rfl) (hr.mono (by decide)) c_law_cell (a_cons (x_var 0) (a_cons (x_var 1) a_nil))) (x_mulI x_int (x_add (x_var 1) x_int))) x_int))
    (ss_cons (s_set (i := 2) S.nd rfl (Or.inl rfl) (x_mod (x_pow (x_var 2) x_int) x_int))
    (ss_one (s_ret (x_mod (x_add (x_mulI (x_fdiv (x_var 2) x_int) x_int) (x_var 2)) x_int)))))
abbrev st_law_draw : Stmt := top 24
theorem sc_law_draw : FnScope ["_law_script", "_law_town", "_law_many"] ["_law_script", "_law_town", "_law_many"] (defScope st_law_draw) := ⟨rfl, rfl, rfl, by decide +kernel, rfl, by decide +kernel, by decide +kernel⟩
theorem ok_law_draw (T : Tx K mg) (F : FunAt K mg "_law_draw" st_law_draw) (c_law_mix : Cal P w K mg base 2 "_law_mix" 2 f_law_mix) : Cal P w K mg base 3 "_law_draw" 3 f_law_draw :=
  cal_of (k := 2) (body := b_law_draw) F sc_law_draw rfl rfl (fun _ _ _ _ _ _ us hl => match us, hl with | [_, _, _], _ => rfl) fun f cdv A outer s H E hr =>
    have S := sc_law_draw
    (ss_cons (s_town (pv 1))
    (ss_one (s_ret (x_mod (x_fdiv (x_cal (takes_of rfl rfl rfl rfl) (hr.mono (by decide)) c_law_mix (a_cons (x_var 0) (a_cons (x_len T.z_len (a_cons (x_var 1) a_nil)) a_nil))) x_int) (x_var 2)))))
abbrev st_law_refusal : Stmt := top 25
theorem sc_law_refusal : FnScope ["_law_caught", "_law_kinds", "_law_words"] ["_law_caught"] (defScope st_law_refusal) := ⟨rfl, rfl, rfl, by decide +kernel, rfl, by decide +kernel, by decide +kernel⟩
theorem ok_law_refusal (T : Tx K mg) (F : FunAt K mg "_law_refusal" st_law_refusal)  : Cal P w K mg base 1 "_law_refusal" 1 f_law_refusal :=
  cal_of (k := 0) (body := b_law_refusal) F sc_law_refusal rfl rfl (fun _ _ _ _ _ _ us hl => match us, hl with | [_], _ => rfl) fun f cdv A outer s H E hr =>
    have S := sc_law_refusal
    (ss_cons (s_if (t_is (x_var 0) x_non)
    (ss_one (s_ret (x_tup (a_cons x_str a_nil))))
    ss_nil)
    (ss_cons (s_set (i := 1) S.nd rfl (Or.inl rfl) (x_fz (l_lst (a_cons (T.i_BadTable.elim fun C hC => x_isX T.z_isinstance (x_var 0) (pe_glob (v := .ref C) rfl hC.1 rfl) (fun _ h => h) hC.2) (a_cons (T.i_BadThing.elim fun C hC => x_isX T.z_isinstance (x_var 0) (pe_glob (v := .ref C) rfl hC.1 rfl) (fun _ h => h) hC.2) (a_cons (T.i_BadParting.elim fun C hC => x_isX T.z_isinstance (x_var 0) (pe_glob (v := .ref C) rfl hC.1 rfl) (fun _ h => h) hC.2) a_nil))))))
    (ss_cons (s_set (i := 1) S.nd rfl (Or.inl rfl) (x_add (x_var 1) (x_fz (l_lst (a_cons (T.i_BadSaying.elim fun C hC => x_isX T.z_isinstance (x_var 0) (pe_glob (v := .ref C) rfl hC.1 rfl) (fun _ h => h) hC.2) (a_cons (T.i_BadLeading.elim fun C hC => x_isX T.z_isinstance (x_var 0) (pe_glob (v := .ref C) rfl hC.1 rfl) (fun _ h => h) hC.2) (a_cons (T.i_BadNumber.elim fun C hC => x_isX T.z_isinstance (x_var 0) (pe_glob (v := .ref C) rfl hC.1 rfl) (fun _ h => h) hC.2) a_nil)))))))
    (ss_cons (s_set (i := 1) S.nd rfl (Or.inl rfl) (x_add (x_var 1) (x_fz (l_lst (a_cons (T.i_TooGreat.elim fun C hC => x_isX T.z_isinstance (x_var 0) (pe_glob (v := .ref C) rfl hC.1 rfl) (fun _ h => h) hC.2) (a_cons (T.i_BadText.elim fun C hC => x_isX T.z_isinstance (x_var 0) (pe_glob (v := .ref C) rfl hC.1 rfl) (fun _ h => h) hC.2) a_nil))))))
    (ss_cons (s_if (PW.pt (w_or (t_ne hr.units (x_cnt hr.units (x_var 1) x_bl) x_int) (w_or1 (t_not (t_truth (x_isX T.z_isinstance (x_var 0) (pe_bltn (v := .ty "ValueError") rfl T.z_ValueError (by decide +kernel) rfl) (fun _ h => h) T.i_ValueError))))))
    (ss_one (s_ret (x_tup (a_cons x_str a_nil))))
    ss_nil)
    (ss_cons (s_set (i := 2) S.nd rfl (Or.inl rfl) (x_fz (l_lst (a_cons x_str (a_cons x_str (a_cons x_str (a_cons x_str (a_cons x_str (a_cons x_str (a_cons x_str (a_cons x_str a_nil)))))))))))
    (ss_one (s_ret (x_tup (a_cons x_str (a_cons (x_ix (x_var 2) (x_idx hr.units (x_var 1) x_bl)) a_nil)))))))))))
abbrev st_law_named : Stmt := top 27
theorem sc_law_named : FnScope ["_law_table_here", "_law_names", "_law_back", "_law_found", "_law_a", "_law_thing", "_law_b"] ["_law_table_here", "_law_names"] (defScope st_law_named) := ⟨rfl, rfl, rfl, by decide +kernel, rfl, by decide +kernel, by decide +kernel⟩
theorem ok_law_named (T : Tx K mg) (F : FunAt K mg "_law_named" st_law_named)  : Cal P w K mg base 1 "_law_named" 2 f_law_named :=
  cal_of (k := 0) (body := b_law_named) F sc_law_named rfl rfl (fun _ _ _ _ _ _ us hl => match us, hl with | [_, _], _ => rfl) fun f cdv A outer s H E hr =>
    have S := sc_law_named
    (ss_cons (s_set (i := 2) S.nd rfl (Or.inr rfl) (x_fz (l_comp rfl S.nd (i_range1 T.z_range (a_cons (x_len T.z_len (a_cons (x_var 1) a_nil)) a_nil)) (blkOk_by (own := [("_law_thing", 5)]) (by kernel_rfl)) (fun _ _ _ _ _ => (g_nm (i := 5) S.nd rfl (by first | exact Or.inl rfl | exact Or.inr rfl))) (fun _ _ _ _ _ => ts_nil) (fun _ _ _ _ _ => (x_idx hr.units (x_var 1) (x_var 5))))))
    (ss_cons (s_own (i := 3) S.nd rfl (Or.inl rfl) (l_lst a_nil))
    (ss_cons (s_for (passes_of rfl) rfl (i_range1 T.z_range (a_cons (x_len T.z_len (a_cons (x_var 1) a_nil)) a_nil)) (g_nm (i := 4) S.nd rfl (Or.inr rfl))
    (ss_one (s_app (pv 3) (x_tuple T.z_tuple (a_cons (x_fz (l_comp rfl S.nd (i_range1 T.z_range (a_cons (x_len T.z_len (a_cons (x_var 1) a_nil)) a_nil)) (blkOk_by (own := [("_law_b", 6)]) (by kernel_rfl)) (fun _ _ _ _ _ => (g_nm (i := 6) S.nd rfl (by first | exact Or.inl rfl | exact Or.inr rfl))) (fun _ _ _ _ _ => ts_nil) (fun _ _ _ _ _ => (x_ix (x_var 1) (x_ix (x_ix (x_var 0) (x_ix (x_var 2) (x_var 4))) (x_ix (x_var 2) (x_var 6))))))) a_nil)))))
    (ss_one (s_fz 3 (s_ret (x_tuple T.z_tuple (a_cons (x_var 3) a_nil))))))))
abbrev st_law_table : Stmt := top 26
theorem sc_law_table : FnScope ["_law_script", "_law_town", "_law_most", "_law_size", "_law_kind", "_law_rows", "_law_a", "_law_names", "_law_k", "_law_row", "_law_b", "_law_at", "_law_some"] ["_law_script", "_law_town", "_law_most"] (defScope st_law_table) := ⟨rfl, rfl, rfl, by decide +kernel, rfl, by decide +kernel, by decide +kernel⟩
theorem ok_law_table (T : Tx K mg) (F : FunAt K mg "_law_table" st_law_table) (c_law_draw : Cal P w K mg base 3 "_law_draw" 3 f_law_draw) (c_law_named : Cal P w K mg base 1 "_law_named" 2 f_law_named) : Cal P w K mg base 4 "_law_table" 3 f_law_table :=
  cal_of (k := 3) (body := b_law_table) F sc_law_table rfl rfl (fun _ _ _ _ _ _ us hl => match us, hl with | [_, _, _], _ => rfl) fun f cdv A outer s H E hr =>
    have S := sc_law_table
    (ss_cons (s_set (i := 3) S.nd rfl (Or.inl rfl) (x_add x_int (x_cal (takes_of rfl rfl rfl rfl) (hr.mono (by decide)) c_law_draw (a_cons (x_var 0) (a_cons (x_var 1) (a_cons (x_var 2) a_nil))))))
    (ss_cons (s_set (i := 4) S.nd rfl (Or.inl rfl) (x_cal (takes_of rfl rfl rfl rfl) (hr.mono (by decide)) c_law_draw (a_cons (x_var 0) (a_cons (x_var 1) (a_cons x_int a_nil)))))
    (ss_cons (s_own2 (i := 5) S.nd rfl (Or.inl rfl) (l_lst a_nil))
    (ss_cons (s_for (passes_of rfl) rfl (i_range1 T.z_range (a_cons (x_var 3) a_nil)) (g_nm (i := 6) S.nd rfl (Or.inl rfl))
    (ss_cons (s_own (i := 9) S.nd rfl (Or.inl rfl) (l_lst a_nil))
    (ss_cons (s_for (passes_of rfl) rfl (i_range1 T.z_range (a_cons (x_var 3) a_nil)) (g_nm (i := 10) S.nd rfl (Or.inl rfl))
    (ss_cons (s_set (i := 12) S.nd rfl (Or.inl rfl) (x_fz (l_lst (a_cons (x_mod (x_add (x_var 6) (x_var 10)) (x_var 3)) (a_cons (x_min2 rfl T.z_min (a_cons (x_var 6) (a_cons (x_var 10) a_nil))) (a_cons (x_max2 rfl T.z_max (a_cons (x_var 6) (a_cons (x_var 10) a_nil))) (a_cons (x_var 6) (a_cons (x_var 10) (a_cons (x_mod (x_sub (x_var 6) (x_var 10)) (x_var 3)) (a_cons (x_mod (x_mulI (x_var 6) (x_var 10)) (x_var 3)) a_nil))))))))))
    (ss_one (s_app (pv 9) (x_if (t_lt (x_var 4) x_int) (x_ix (x_var 12) (x_var 4)) (x_cal (takes_of rfl rfl rfl rfl) (hr.mono (by decide)) c_law_draw (a_cons (x_var 0) (a_cons (x_var 1) (a_cons (x_var 3) a_nil)))))))))
    (ss_one (s_app2 (pv 5) (pv 9))))))
    (ss_cons (s_if (t_eq hr.units (x_cal (takes_of rfl rfl rfl rfl) (hr.mono (by decide)) c_law_draw (a_cons (x_var 0) (a_cons (x_var 1) (a_cons x_int a_nil)))) x_int)
    (ss_one (s_put2 (x_cal (takes_of rfl rfl rfl rfl) (hr.mono (by decide)) c_law_draw (a_cons (x_var 0) (a_cons (x_var 1) (a_cons (x_var 3) a_nil)))) (pv 5) (x_cal (takes_of rfl rfl rfl rfl) (hr.mono (by decide)) c_law_draw (a_cons (x_var 0) (a_cons (x_var 1) (a_cons (x_var 3) a_nil)))) (x_cal (takes_of rfl rfl rfl rfl) (hr.mono (by decide)) c_law_draw (a_cons (x_var 0) (a_cons (x_var 1) (a_cons (x_var 3) a_nil)))) (by exact fun _ _ => rfl)))
    ss_nil)
    (ss_cons (s_own (i := 7) S.nd rfl (Or.inl rfl) (l_rg1 rfl T.z_list T.z_range (x_var 3)))
    (ss_cons (s_for (passes_of rfl) rfl (i_range1 T.z_range (a_cons (x_var 3) a_nil)) (g_nm (i := 8) S.nd rfl (Or.inl rfl))
    (ss_cons (s_set (i := 11) S.nd rfl (Or.inl rfl) (x_cal (takes_of rfl rfl rfl rfl) (hr.mono (by decide)) c_law_draw (a_cons (x_var 0) (a_cons (x_var 1) (a_cons (x_var 3) a_nil)))))
    (ss_one (s_putP rfl (x_bo (i := 7) (x_tup (a_cons (x_ix (x_var 7) (x_var 11)) (a_cons (x_ix (x_var 7) (x_var 8)) a_nil)))) (pv 7) (pv 7) (x_var 8) (x_var 11)))))
    (ss_one (s_fz 5 (s_fz 7 (s_ret (x_cal (takes_of rfl rfl rfl rfl) (hr.mono (by decide)) c_law_named (a_cons (x_fz (l_comp rfl S.nd (i_seq (x_var 5)) (blkOk_by (own := [("_law_row", 9)]) (by kernel_rfl)) (fun _ _ _ _ _ => (g_nm (i := 9) S.nd rfl (by first | exact Or.inl rfl | exact Or.inr rfl))) (fun _ _ _ _ _ => ts_nil) (fun _ _ _ _ _ => (x_tuple T.z_tuple (a_cons (x_var 9) a_nil))))) (a_cons (x_var 7) a_nil))))))))))))))
abbrev st_law_told : Stmt := top 28
theorem sc_law_told : FnScope ["_law_table_here", "_law_thing", "_law_caught", "_law_found", "e"] ["_law_table_here", "_law_thing"] (defScope st_law_told) := ⟨rfl, rfl, rfl, by decide +kernel, rfl, by decide +kernel, by decide +kernel⟩
theorem ok_law_told (T : Tx K mg) (F : FunAt K mg "_law_told" st_law_told) (c_power_row : Cal P w K mg base 3 "power_row" 2 f_power_row) (c_law_refusal : Cal P w K mg base 1 "_law_refusal" 1 f_law_refusal) : Cal P w K mg base 4 "_law_told" 2 f_law_told :=
  cal_of (k := 3) (body := b_law_told) F sc_law_told rfl rfl (fun _ _ _ _ _ _ us hl => match us, hl with | [_, _], _ => rfl) fun f cdv A outer s H E hr =>
    have S := sc_law_told
    (ss_cons (s_set (i := 2) S.nd rfl (Or.inl rfl) x_non)
    (ss_cons (s_set (i := 3) S.nd rfl (Or.inl rfl) x_non)
    (ss_cons (T.e_RuleError.elim fun C hC => s_try rfl rfl rfl S.nd (i := 4) rfl rfl ⟨rfl, by decide, Or.inl hC.1⟩ (j := 2) rfl rfl (iy := 3) rfl rfl hC.2 (fun a pn => pss_one (ps_set (i := 2) S.nd rfl (Or.inl rfl) (pv 4))) (fun W pn xe tk => (x_cal tk (hr.mono (by decide)) c_power_row (a_cons (x_var 0) (a_cons (x_var 1) a_nil)))))
    (ss_one (s_ret (x_if (t_is (x_var 2) x_non) (x_var 3) (x_cal (takes_of rfl rfl rfl rfl) (hr.mono (by decide)) c_law_refusal (a_cons (x_var 2) a_nil))))))))
abbrev st_law : Stmt := top 29
theorem sc_law : FnScope ["_law_script", "_law_town", "_law_table_here", "_law_size", "_law_every", "_law_about", "_law_left", "_law_right", "_law_low", "_law_high", "_law_thing", "_law_row", "_law_a", "_law_b"] ["_law_script"] (defScope st_law) := ⟨rfl, rfl, rfl, by decide +kernel, rfl, by decide +kernel, by decide +kernel⟩
theorem ok_law (T : Tx K mg) {f : Addr} {fd : FuncData} (F : Fun K "law" "law" st_law f fd) (c_law_table : Cal P w K mg base 4 "_law_table" 3 f_law_table) (c_idle : Cal P w K mg base 2 "idle" 1 f_idle) (c_units : Cal P w K mg base 2 "units" 1 f_units) (c_noughts : Cal P w K mg base 2 "noughts" 1 f_noughts) (c_turned : Cal P w K mg base 2 "turned" 1 f_turned) (c_law_told : Cal P w K mg base 4 "_law_told" 2 f_law_told) : FnOk P w K mg base (L2.CX P w) 5 f fd ["_law_script"] (spLaw K 14 1 b_law) :=
  have S := sc_law
  law_body (k := 4) (N := ["_law_script", "_law_town", "_law_table_here", "_law_size", "_law_every", "_law_about", "_law_left", "_law_right", "_law_low", "_law_high", "_law_thing", "_law_row", "_law_a", "_law_b"]) (i := 1) F sc_law rfl sc_law.nd rfl (fun cdv A outer s H E => ps_mono (ps_set (i := 1) S.nd rfl (Or.inl rfl) (pe_lst pa_nil)) fun _ _ _ h => ⟨by decide, h⟩) fun cdv A outer s H E hr =>
    (ss_cons (s_set (i := 2) S.nd rfl (Or.inr rfl) (x_cal (takes_of rfl rfl rfl rfl) (hr.mono (by decide)) c_law_table (a_cons (x_var 0) (a_cons (x_var 1) (a_cons x_int a_nil)))))
    (ss_cons (s_set (i := 3) S.nd rfl (Or.inl rfl) (x_len T.z_len (a_cons (x_var 2) a_nil)))
    (ss_cons (s_set (i := 4) S.nd rfl (Or.inr rfl) (x_fz (l_rg1 rfl T.z_list T.z_range (x_var 3))))
    (ss_cons (s_set (i := 5) S.nd rfl (Or.inr rfl) (x_fz (l_comp rfl S.nd (i_seq (x_var 4)) (blkOk_by (own := [("_law_a", 12)]) (by kernel_rfl)) (fun _ _ _ _ _ => (g_nm (i := 12) S.nd rfl (by first | exact Or.inl rfl | exact Or.inr rfl))) (fun _ _ _ _ _ => ts_nil) (fun _ _ _ _ _ => (x_fz (l_comp rfl S.nd (i_seq (x_var 4)) (blkOk_by (own := [("_law_b", 13)]) (by kernel_rfl)) (fun _ _ _ _ _ => (g_nm (i := 13) S.nd rfl (by first | exact Or.inl rfl | exact Or.inr rfl))) (fun _ _ _ _ _ => ts_nil) (fun _ _ _ _ _ => (x_ix (x_ix (x_var 2) (x_var 13)) (x_var 12)))))))))
    (ss_cons (s_if (t_ne hr.units (x_cal (takes_of rfl rfl rfl rfl) (hr.mono (by decide)) c_idle (a_cons (x_var 2) a_nil)) (x_fz (l_comp rfl S.nd (i_seq (x_var 4)) (blkOk_by (own := [("_law_thing", 10)]) (by kernel_rfl)) (fun _ _ _ _ _ => (g_nm (i := 10) S.nd rfl (by first | exact Or.inl rfl | exact Or.inr rfl))) (fun _ _ _ _ _ => (ts_one (t_eq hr.units (x_ix (x_ix (x_var 2) (x_var 10)) (x_var 10)) (x_var 10)))) (fun _ _ _ _ _ => (x_var 10)))))
    (ss_one (s_ret x_bl))
    ss_nil)
    (ss_cons (s_setLc (i := 6) rfl S.nd rfl rfl (i_seq (x_var 4)) (blkOk_by (own := [("_law_thing", 10)]) (by kernel_rfl)) (fun _ _ _ _ _ => (g_nm (i := 10) S.nd rfl (by first | exact Or.inl rfl | exact Or.inr rfl))) (fun _ _ _ _ _ => (ts_one (t_eq hr.units (x_fz (l_list T.z_list (a_cons (x_ix (x_var 2) (x_var 10)) a_nil))) (x_var 4)))) (fun _ _ _ _ _ => (x_var 10)))
    (ss_cons (s_setLc (i := 7) rfl S.nd rfl rfl (i_seq (x_var 4)) (blkOk_by (own := [("_law_thing", 10)]) (by kernel_rfl)) (fun _ _ _ _ _ => (g_nm (i := 10) S.nd rfl (by first | exact Or.inl rfl | exact Or.inr rfl))) (fun _ _ _ _ _ => (ts_one (t_eq hr.units (x_ix (x_var 5) (x_var 10)) (x_var 4)))) (fun _ _ _ _ _ => (x_var 10)))
    (ss_cons (s_if (PW.pt (w_or (t_ne hr.units (x_cal (takes_of rfl rfl rfl rfl) (hr.mono (by decide)) c_units (a_cons (x_var 2) a_nil)) (x_tup (a_cons (x_var 6) (a_cons (x_var 7) a_nil)))) (w_or1 (PW.pt (w_and (t_gt (x_len T.z_len (a_cons (x_var 6) a_nil)) x_int) (w_and (t_gt (x_len T.z_len (a_cons (x_var 7) a_nil)) x_int) (w_and1 (t_ne hr.units (x_var 6) (x_var 7)))))))))
    (ss_one (s_ret x_bl))
    ss_nil)
    (ss_cons (s_setLc (i := 8) rfl S.nd rfl rfl (i_seq (x_var 4)) (blkOk_by (own := [("_law_thing", 10)]) (by kernel_rfl)) (fun _ _ _ _ _ => (g_nm (i := 10) S.nd rfl (by first | exact Or.inl rfl | exact Or.inr rfl))) (fun _ _ _ _ _ => (ts_one (t_eq hr.units (x_fz (l_srt rfl T.z_sorted T.z_set (x_ix (x_var 2) (x_var 10)))) (x_fz (l_lst (a_cons (x_var 10) a_nil)))))) (fun _ _ _ _ _ => (x_var 10)))
    (ss_cons (s_setLc (i := 9) rfl S.nd rfl rfl (i_seq (x_var 4)) (blkOk_by (own := [("_law_thing", 10)]) (by kernel_rfl)) (fun _ _ _ _ _ => (g_nm (i := 10) S.nd rfl (by first | exact Or.inl rfl | exact Or.inr rfl))) (fun _ _ _ _ _ => (ts_one (t_eq hr.units (x_fz (l_srt rfl T.z_sorted T.z_set (x_ix (x_var 5) (x_var 10)))) (x_fz (l_lst (a_cons (x_var 10) a_nil)))))) (fun _ _ _ _ _ => (x_var 10)))
    (ss_cons (s_if (PW.pt (w_or (t_ne hr.units (x_cal (takes_of rfl rfl rfl rfl) (hr.mono (by decide)) c_noughts (a_cons (x_var 2) a_nil)) (x_tup (a_cons (x_var 8) (a_cons (x_var 9) a_nil)))) (w_or (t_ne hr.units (x_cal (takes_of rfl rfl rfl rfl) (hr.mono (by decide)) c_units (a_cons (x_cal (takes_of rfl rfl rfl rfl) (hr.mono (by decide)) c_turned (a_cons (x_var 2) a_nil)) a_nil)) (x_tup (a_cons (x_var 7) (a_cons (x_var 6) a_nil)))) (w_or1 (t_ne hr.units (x_cal (takes_of rfl rfl rfl rfl) (hr.mono (by decide)) c_noughts (a_cons (x_cal (takes_of rfl rfl rfl rfl) (hr.mono (by decide)) c_turned (a_cons (x_var 2) a_nil)) a_nil)) (x_tup (a_cons (x_var 9) (a_cons (x_var 8) a_nil))))))))
    (ss_one (s_ret x_bl))
    ss_nil)
    (ss_cons (s_for (passes_of rfl) rfl (i_seq (x_var 4)) (g_nm (i := 10) S.nd rfl (Or.inl rfl))
    (ss_cons (s_own (i := 11) S.nd rfl (Or.inl rfl) (l_lst (a_cons (x_var 10) a_nil)))
    (ss_cons (s_while (passes_of rfl) (t_bo (i := 11) (t_notIn hr.units (x_ix (x_ix (x_var 2) (x_ix (x_var 11) (x_neg x_int))) (x_var 10)) (x_var 11)))
    (ss_one (s_app (pv 11) (x_bo (i := 11) (x_ix (x_ix (x_var 2) (x_ix (x_var 11) (x_neg x_int))) (x_var 10))))))
    (ss_one (s_fz 11 (s_if (t_ne hr.units (x_cal (takes_of rfl rfl rfl rfl) (hr.mono (by decide)) c_law_told (a_cons (x_var 2) (a_cons (x_var 10) a_nil))) (x_tup (a_cons (x_var 11) (a_cons (x_idx hr.units (x_var 11) (x_ix (x_ix (x_var 2) (x_ix (x_var 11) (x_neg x_int))) (x_var 10))) a_nil))))
    (ss_one (s_ret x_bl))
    ss_nil))))))
    (ss_one (s_ret (x_eq hr.units (x_fz (l_comp rfl S.nd (i_seq (x_tup (a_cons (x_neg x_int) (a_cons (x_var 3) a_nil)))) (blkOk_by (own := [("_law_thing", 10)]) (by kernel_rfl)) (fun _ _ _ _ _ => (g_nm (i := 10) S.nd rfl (by first | exact Or.inl rfl | exact Or.inr rfl))) (fun _ _ _ _ _ => ts_nil) (fun _ _ _ _ _ => (x_cal takes0 (hr.mono (by decide)) c_law_told (a_cons (x_var 2) (a_cons (x_var 10) a_nil)))))) (x_fz (l_rep (x_fz (l_lst (a_cons (x_tup (a_cons x_str (a_cons x_str a_nil))) a_nil))) x_int)))))))))))))))))
end
end Lk11

end

section
set_option Elab.async false
set_option linter.all false
set_option maxRecDepth 100000
set_option maxHeartbeats 4000000
/-! the end of law_k11_whole_things -/
namespace Lk11
open PySem PySem.Spec L2 Mi
theorem ranked_mem {c : Str} (h : ranked raised c = true) : c = "BadTable" ∨ c = "BadThing" := by
  unfold ranked raised at h
  simp only [List.any_cons, List.any_nil, Bool.or_false, Bool.or_eq_true, decide_eq_true_eq] at h
  simpa [eq_comm] using h
theorem isx_BadLeading_of {c : Str} {r : Bool} (h : isx_BadLeading c = some r) : ranked raised c = true ∧ r = decide (c = "BadLeading") := by
  unfold isx_BadLeading at h
  split at h
  · rename_i z; exact ⟨z, (Option.some.inj h).symm⟩
  · cases h
theorem isx_BadNumber_of {c : Str} {r : Bool} (h : isx_BadNumber c = some r) : ranked raised c = true ∧ r = decide (c = "BadNumber") := by
  unfold isx_BadNumber at h
  split at h
  · rename_i z; exact ⟨z, (Option.some.inj h).symm⟩
  · cases h
theorem isx_BadParting_of {c : Str} {r : Bool} (h : isx_BadParting c = some r) : ranked raised c = true ∧ r = decide (c = "BadParting") := by
  unfold isx_BadParting at h
  split at h
  · rename_i z; exact ⟨z, (Option.some.inj h).symm⟩
  · cases h
theorem isx_BadSaying_of {c : Str} {r : Bool} (h : isx_BadSaying c = some r) : ranked raised c = true ∧ r = decide (c = "BadSaying") := by
  unfold isx_BadSaying at h
  split at h
  · rename_i z; exact ⟨z, (Option.some.inj h).symm⟩
  · cases h
theorem isx_BadTable_of {c : Str} {r : Bool} (h : isx_BadTable c = some r) : ranked raised c = true ∧ r = decide (c = "BadTable") := by
  unfold isx_BadTable at h
  split at h
  · rename_i z; exact ⟨z, (Option.some.inj h).symm⟩
  · cases h
theorem isx_BadText_of {c : Str} {r : Bool} (h : isx_BadText c = some r) : ranked raised c = true ∧ r = decide (c = "BadText") := by
  unfold isx_BadText at h
  split at h
  · rename_i z; exact ⟨z, (Option.some.inj h).symm⟩
  · cases h
theorem isx_BadThing_of {c : Str} {r : Bool} (h : isx_BadThing c = some r) : ranked raised c = true ∧ r = decide (c = "BadThing") := by
  unfold isx_BadThing at h
  split at h
  · rename_i z; exact ⟨z, (Option.some.inj h).symm⟩
  · cases h
theorem isx_TooGreat_of {c : Str} {r : Bool} (h : isx_TooGreat c = some r) : ranked raised c = true ∧ r = decide (c = "TooGreat") := by
  unfold isx_TooGreat at h
  split at h
  · rename_i z; exact ⟨z, (Option.some.inj h).symm⟩
  · cases h
theorem isx_ValueError_of {c : Str} {r : Bool} (h : isx_ValueError c = some r) : ranked raised c = true ∧ r = true := by
  unfold isx_ValueError at h
  split at h
  · rename_i z; exact ⟨z, (Option.some.inj h).symm⟩
  · cases h
theorem all_mk {P : Program} {w : World} {K : PySem.W.Frag} {h : Heap} {mg : Str → Option Value} {fa : Addr} (X : K.In h) (G : h.Ns mainGlobals mg) (hfa : mg "law" = some (.ref fa))
    {tk_MOST : Tok}
    {C_RuleError : Addr}
    {C_BadTable : Addr}
    {C_BadThing : Addr}
    {C_BadParting : Addr}
    {C_BadSaying : Addr}
    {C_BadLeading : Addr}
    {C_BadNumber : Addr}
    {C_TooGreat : Addr}
    {C_BadText : Addr}
    {f_look_table : Addr} {od_look_table an_look_table : Option Addr} {sl_look_table : Array (Option Value)} {oc_look_table kV_look_table dc_look_table pm_look_table cd_look_table ct_look_table : Value}
    {f_look_thing : Addr} {od_look_thing an_look_thing : Option Addr} {sl_look_thing : Array (Option Value)} {oc_look_thing kV_look_thing dc_look_thing pm_look_thing cd_look_thing ct_look_thing : Value}
    {f_look_things : Addr} {od_look_things an_look_things : Option Addr} {sl_look_things : Array (Option Value)} {oc_look_things kV_look_things dc_look_things pm_look_things cd_look_things ct_look_things : Value}
    {f_turned : Addr} {od_turned an_turned : Option Addr} {sl_turned : Array (Option Value)} {oc_turned kV_turned dc_turned pm_turned cd_turned ct_turned : Value}
    {f_idle : Addr} {od_idle an_idle : Option Addr} {sl_idle : Array (Option Value)} {oc_idle kV_idle dc_idle pm_idle cd_idle ct_idle : Value}
    {f_units : Addr} {od_units an_units : Option Addr} {sl_units : Array (Option Value)} {oc_units kV_units dc_units pm_units cd_units ct_units : Value}
    {f_noughts : Addr} {od_noughts an_noughts : Option Addr} {sl_noughts : Array (Option Value)} {oc_noughts kV_noughts dc_noughts pm_noughts cd_noughts ct_noughts : Value}
    {f_power_row : Addr} {od_power_row an_power_row : Option Addr} {sl_power_row : Array (Option Value)} {oc_power_row kV_power_row dc_power_row pm_power_row cd_power_row ct_power_row : Value}
    {f_law_cell : Addr} {od_law_cell an_law_cell : Option Addr} {sl_law_cell : Array (Option Value)} {oc_law_cell kV_law_cell dc_law_cell pm_law_cell cd_law_cell ct_law_cell : Value}
    {f_law_mix : Addr} {od_law_mix an_law_mix : Option Addr} {sl_law_mix : Array (Option Value)} {oc_law_mix kV_law_mix dc_law_mix pm_law_mix cd_law_mix ct_law_mix : Value}
    {f_law_draw : Addr} {od_law_draw an_law_draw : Option Addr} {sl_law_draw : Array (Option Value)} {oc_law_draw kV_law_draw dc_law_draw pm_law_draw cd_law_draw ct_law_draw : Value}
    {f_law_refusal : Addr} {od_law_refusal an_law_refusal : Option Addr} {sl_law_refusal : Array (Option Value)} {oc_law_refusal kV_law_refusal dc_law_refusal pm_law_refusal cd_law_refusal ct_law_refusal : Value}
    {f_law_named : Addr} {od_law_named an_law_named : Option Addr} {sl_law_named : Array (Option Value)} {oc_law_named kV_law_named dc_law_named pm_law_named cd_law_named ct_law_named : Value}
    {f_law_table : Addr} {od_law_table an_law_table : Option Addr} {sl_law_table : Array (Option Value)} {oc_law_table kV_law_table dc_law_table pm_law_table cd_law_table ct_law_table : Value}
    {f_law_told : Addr} {od_law_told an_law_told : Option Addr} {sl_law_told : Array (Option Value)} {oc_law_told kV_law_told dc_law_told pm_law_told cd_law_told ct_law_told : Value}
    {f_law : Addr} {od_law an_law : Option Addr} {sl_law : Array (Option Value)} {oc_law kV_law dc_law pm_law cd_law ct_law : Value}
    (z_ValueError : PySem.W.nsIn K mainGlobals "ValueError" = some none)
    (z_all : PySem.W.nsIn K mainGlobals "all" = some none)
    (z_isinstance : PySem.W.nsIn K mainGlobals "isinstance" = some none)
    (z_len : PySem.W.nsIn K mainGlobals "len" = some none)
    (z_list : PySem.W.nsIn K mainGlobals "list" = some none)
    (z_max : PySem.W.nsIn K mainGlobals "max" = some none)
    (z_min : PySem.W.nsIn K mainGlobals "min" = some none)
    (z_range : PySem.W.nsIn K mainGlobals "range" = some none)
    (z_set : PySem.W.nsIn K mainGlobals "set" = some none)
    (z_sorted : PySem.W.nsIn K mainGlobals "sorted" = some none)
    (z_tuple : PySem.W.nsIn K mainGlobals "tuple" = some none)
    (g_MOST : PySem.W.nsIn K mainGlobals "MOST" = some (some (.int 6 tk_MOST)))
    (a_RuleError : PySem.W.nsIn K mainGlobals "RuleError" = some (some (.ref C_RuleError)))
    (m_RuleError : PySem.W.isClsIn K C_RuleError = true)
    (t_RuleError : PySem.W.typeIn K (.ref C_RuleError) = some (.type "type"))
    (b_RuleError : PySem.W.subIn K (.ref C_RuleError) (.type "BaseException") = some true)
    (hd_RuleError : PySem.W.hasDictIn K C_RuleError = true)
    (a_BadTable : PySem.W.nsIn K mainGlobals "BadTable" = some (some (.ref C_BadTable)))
    (m_BadTable : PySem.W.isClsIn K C_BadTable = true)
    (t_BadTable : PySem.W.typeIn K (.ref C_BadTable) = some (.type "type"))
    (b_BadTable : PySem.W.subIn K (.ref C_BadTable) (.type "BaseException") = some true)
    (a_BadThing : PySem.W.nsIn K mainGlobals "BadThing" = some (some (.ref C_BadThing)))
    (m_BadThing : PySem.W.isClsIn K C_BadThing = true)
    (t_BadThing : PySem.W.typeIn K (.ref C_BadThing) = some (.type "type"))
    (b_BadThing : PySem.W.subIn K (.ref C_BadThing) (.type "BaseException") = some true)
    (a_BadParting : PySem.W.nsIn K mainGlobals "BadParting" = some (some (.ref C_BadParting)))
    (m_BadParting : PySem.W.isClsIn K C_BadParting = true)
    (t_BadParting : PySem.W.typeIn K (.ref C_BadParting) = some (.type "type"))
    (a_BadSaying : PySem.W.nsIn K mainGlobals "BadSaying" = some (some (.ref C_BadSaying)))
    (m_BadSaying : PySem.W.isClsIn K C_BadSaying = true)
    (t_BadSaying : PySem.W.typeIn K (.ref C_BadSaying) = some (.type "type"))
    (a_BadLeading : PySem.W.nsIn K mainGlobals "BadLeading" = some (some (.ref C_BadLeading)))
    (m_BadLeading : PySem.W.isClsIn K C_BadLeading = true)
    (t_BadLeading : PySem.W.typeIn K (.ref C_BadLeading) = some (.type "type"))
    (a_BadNumber : PySem.W.nsIn K mainGlobals "BadNumber" = some (some (.ref C_BadNumber)))
    (m_BadNumber : PySem.W.isClsIn K C_BadNumber = true)
    (t_BadNumber : PySem.W.typeIn K (.ref C_BadNumber) = some (.type "type"))
    (a_TooGreat : PySem.W.nsIn K mainGlobals "TooGreat" = some (some (.ref C_TooGreat)))
    (m_TooGreat : PySem.W.isClsIn K C_TooGreat = true)
    (t_TooGreat : PySem.W.typeIn K (.ref C_TooGreat) = some (.type "type"))
    (a_BadText : PySem.W.nsIn K mainGlobals "BadText" = some (some (.ref C_BadText)))
    (m_BadText : PySem.W.isClsIn K C_BadText = true)
    (t_BadText : PySem.W.typeIn K (.ref C_BadText) = some (.type "type"))
    (x_BadTable : PySem.W.excIn K C_BadTable [.type "ValueError", .type "Exception", .type "BaseException", .type "object"] "ValueError.__new__" = true)
    (k_BadTable : PySem.W.keepIn K (.ref C_BadTable) = true)
    (s_BadTable : PySem.W.subIn K (.ref C_BadTable) (.ref C_BadTable) = some true)
    (hg_BadTable : PySem.W.findIn K (.ref C_BadTable) "__getattribute__" = some (some (.builtin "BaseException.__getattribute__")))
    (hk_BadTable : PySem.W.findIn K (.ref C_BadTable) "__getattr__" = some none)
    (hd_BadTable : PySem.W.hasDictIn K C_BadTable = true)
    (ha_BadTable : PySem.W.findIn K (.ref C_BadTable) "__class__" = some (some (.builtin "object.__class__")))
    (hm_BadTable : PySem.W.mroIn K C_BadTable (.type "object") = some true)
    (s_BadTable_BadLeading : PySem.W.subIn K (.ref C_BadTable) (.ref C_BadLeading) = some false)
    (s_BadTable_BadNumber : PySem.W.subIn K (.ref C_BadTable) (.ref C_BadNumber) = some false)
    (s_BadTable_BadParting : PySem.W.subIn K (.ref C_BadTable) (.ref C_BadParting) = some false)
    (s_BadTable_BadSaying : PySem.W.subIn K (.ref C_BadTable) (.ref C_BadSaying) = some false)
    (s_BadTable_BadText : PySem.W.subIn K (.ref C_BadTable) (.ref C_BadText) = some false)
    (s_BadTable_BadThing : PySem.W.subIn K (.ref C_BadTable) (.ref C_BadThing) = some false)
    (s_BadTable_TooGreat : PySem.W.subIn K (.ref C_BadTable) (.ref C_TooGreat) = some false)
    (s_BadTable_ValueError : PySem.W.subIn K (.ref C_BadTable) (.type "ValueError") = some true)
    (s_BadTable_RuleError : PySem.W.subIn K (.ref C_BadTable) (.ref C_RuleError) = some true)
    (x_BadThing : PySem.W.excIn K C_BadThing [.type "ValueError", .type "Exception", .type "BaseException", .type "object"] "ValueError.__new__" = true)
    (k_BadThing : PySem.W.keepIn K (.ref C_BadThing) = true)
    (s_BadThing : PySem.W.subIn K (.ref C_BadThing) (.ref C_BadThing) = some true)
    (hg_BadThing : PySem.W.findIn K (.ref C_BadThing) "__getattribute__" = some (some (.builtin "BaseException.__getattribute__")))
    (hk_BadThing : PySem.W.findIn K (.ref C_BadThing) "__getattr__" = some none)
    (hd_BadThing : PySem.W.hasDictIn K C_BadThing = true)
    (ha_BadThing : PySem.W.findIn K (.ref C_BadThing) "__class__" = some (some (.builtin "object.__class__")))
    (hm_BadThing : PySem.W.mroIn K C_BadThing (.type "object") = some true)
    (s_BadThing_BadLeading : PySem.W.subIn K (.ref C_BadThing) (.ref C_BadLeading) = some false)
    (s_BadThing_BadNumber : PySem.W.subIn K (.ref C_BadThing) (.ref C_BadNumber) = some false)
    (s_BadThing_BadParting : PySem.W.subIn K (.ref C_BadThing) (.ref C_BadParting) = some false)
    (s_BadThing_BadSaying : PySem.W.subIn K (.ref C_BadThing) (.ref C_BadSaying) = some false)
    (s_BadThing_BadTable : PySem.W.subIn K (.ref C_BadThing) (.ref C_BadTable) = some false)
    (s_BadThing_BadText : PySem.W.subIn K (.ref C_BadThing) (.ref C_BadText) = some false)
    (s_BadThing_TooGreat : PySem.W.subIn K (.ref C_BadThing) (.ref C_TooGreat) = some false)
    (s_BadThing_ValueError : PySem.W.subIn K (.ref C_BadThing) (.type "ValueError") = some true)
    (s_BadThing_RuleError : PySem.W.subIn K (.ref C_BadThing) (.ref C_RuleError) = some true)
    (hn : PySem.W.specialIn K (.builtin "object.__class__") "__get__" = some (some (.builtin "getset_descriptor.__get__")))
    (ht : PySem.W.takesIn K (.builtin "object.__class__") = some true)
    (fa_look_table : PySem.W.nsIn K mainGlobals "look_table" = some (some (.ref f_look_table)))
    (fl_look_table : K.lookup f_look_table = some ⟨oc_look_table, od_look_table, .func (PySem.W.fnOf "look_table" "look_table" (defArgs st_look_table) (defBody st_look_table) (defScope st_look_table) .none kV_look_table dc_look_table pm_look_table an_look_table cd_look_table ct_look_table), sl_look_table⟩)
    (fc_look_table : PySem.W.codeIn K cd_look_table "look_table" = true)
    (fk_look_table : PySem.W.keepIn K (.ref f_look_table) = true)
    (fa_look_thing : PySem.W.nsIn K mainGlobals "look_thing" = some (some (.ref f_look_thing)))
    (fl_look_thing : K.lookup f_look_thing = some ⟨oc_look_thing, od_look_thing, .func (PySem.W.fnOf "look_thing" "look_thing" (defArgs st_look_thing) (defBody st_look_thing) (defScope st_look_thing) .none kV_look_thing dc_look_thing pm_look_thing an_look_thing cd_look_thing ct_look_thing), sl_look_thing⟩)
    (fc_look_thing : PySem.W.codeIn K cd_look_thing "look_thing" = true)
    (fk_look_thing : PySem.W.keepIn K (.ref f_look_thing) = true)
    (fa_look_things : PySem.W.nsIn K mainGlobals "look_things" = some (some (.ref f_look_things)))
    (fl_look_things : K.lookup f_look_things = some ⟨oc_look_things, od_look_things, .func (PySem.W.fnOf "look_things" "look_things" (defArgs st_look_things) (defBody st_look_things) (defScope st_look_things) .none kV_look_things dc_look_things pm_look_things an_look_things cd_look_things ct_look_things), sl_look_things⟩)
    (fc_look_things : PySem.W.codeIn K cd_look_things "look_things" = true)
    (fk_look_things : PySem.W.keepIn K (.ref f_look_things) = true)
    (fa_turned : PySem.W.nsIn K mainGlobals "turned" = some (some (.ref f_turned)))
    (fl_turned : K.lookup f_turned = some ⟨oc_turned, od_turned, .func (PySem.W.fnOf "turned" "turned" (defArgs st_turned) (defBody st_turned) (defScope st_turned) .none kV_turned dc_turned pm_turned an_turned cd_turned ct_turned), sl_turned⟩)
    (fc_turned : PySem.W.codeIn K cd_turned "turned" = true)
    (fk_turned : PySem.W.keepIn K (.ref f_turned) = true)
    (fa_idle : PySem.W.nsIn K mainGlobals "idle" = some (some (.ref f_idle)))
    (fl_idle : K.lookup f_idle = some ⟨oc_idle, od_idle, .func (PySem.W.fnOf "idle" "idle" (defArgs st_idle) (defBody st_idle) (defScope st_idle) .none kV_idle dc_idle pm_idle an_idle cd_idle ct_idle), sl_idle⟩)
    (fc_idle : PySem.W.codeIn K cd_idle "idle" = true)
    (fk_idle : PySem.W.keepIn K (.ref f_idle) = true)
    (fa_units : PySem.W.nsIn K mainGlobals "units" = some (some (.ref f_units)))
    (fl_units : K.lookup f_units = some ⟨oc_units, od_units, .func (PySem.W.fnOf "units" "units" (defArgs st_units) (defBody st_units) (defScope st_units) .none kV_units dc_units pm_units an_units cd_units ct_units), sl_units⟩)
    (fc_units : PySem.W.codeIn K cd_units "units" = true)
    (fk_units : PySem.W.keepIn K (.ref f_units) = true)
    (fa_noughts : PySem.W.nsIn K mainGlobals "noughts" = some (some (.ref f_noughts)))
    (fl_noughts : K.lookup f_noughts = some ⟨oc_noughts, od_noughts, .func (PySem.W.fnOf "noughts" "noughts" (defArgs st_noughts) (defBody st_noughts) (defScope st_noughts) .none kV_noughts dc_noughts pm_noughts an_noughts cd_noughts ct_noughts), sl_noughts⟩)
    (fc_noughts : PySem.W.codeIn K cd_noughts "noughts" = true)
    (fk_noughts : PySem.W.keepIn K (.ref f_noughts) = true)
    (fa_power_row : PySem.W.nsIn K mainGlobals "power_row" = some (some (.ref f_power_row)))
    (fl_power_row : K.lookup f_power_row = some ⟨oc_power_row, od_power_row, .func (PySem.W.fnOf "power_row" "power_row" (defArgs st_power_row) (defBody st_power_row) (defScope st_power_row) .none kV_power_row dc_power_row pm_power_row an_power_row cd_power_row ct_power_row), sl_power_row⟩)
    (fc_power_row : PySem.W.codeIn K cd_power_row "power_row" = true)
    (fk_power_row : PySem.W.keepIn K (.ref f_power_row) = true)
    (fa_law_cell : PySem.W.nsIn K mainGlobals "_law_cell" = some (some (.ref f_law_cell)))
    (fl_law_cell : K.lookup f_law_cell = some ⟨oc_law_cell, od_law_cell, .func (PySem.W.fnOf "_law_cell" "_law_cell" (defArgs st_law_cell) (defBody st_law_cell) (defScope st_law_cell) .none kV_law_cell dc_law_cell pm_law_cell an_law_cell cd_law_cell ct_law_cell), sl_law_cell⟩)
    (fc_law_cell : PySem.W.codeIn K cd_law_cell "_law_cell" = true)
    (fk_law_cell : PySem.W.keepIn K (.ref f_law_cell) = true)
    (fa_law_mix : PySem.W.nsIn K mainGlobals "_law_mix" = some (some (.ref f_law_mix)))
    (fl_law_mix : K.lookup f_law_mix = some ⟨oc_law_mix, od_law_mix, .func (PySem.W.fnOf "_law_mix" "_law_mix" (defArgs st_law_mix) (defBody st_law_mix) (defScope st_law_mix) .none kV_law_mix dc_law_mix pm_law_mix an_law_mix cd_law_mix ct_law_mix), sl_law_mix⟩)
    (fc_law_mix : PySem.W.codeIn K cd_law_mix "_law_mix" = true)
    (fk_law_mix : PySem.W.keepIn K (.ref f_law_mix) = true)
    (fa_law_draw : PySem.W.nsIn K mainGlobals "_law_draw" = some (some (.ref f_law_draw)))
    (fl_law_draw : K.lookup f_law_draw = some ⟨oc_law_draw, od_law_draw, .func (PySem.W.fnOf "_law_draw" "_law_draw" (defArgs st_law_draw) (defBody st_law_draw) (defScope st_law_draw) .none kV_law_draw dc_law_draw pm_law_draw an_law_draw cd_law_draw ct_law_draw), sl_law_draw⟩)
    (fc_law_draw : PySem.W.codeIn K cd_law_draw "_law_draw" = true)
    (fk_law_draw : PySem.W.keepIn K (.ref f_law_draw) = true)
    (fa_law_refusal : PySem.W.nsIn K mainGlobals "_law_refusal" = some (some (.ref f_law_refusal)))
    (fl_law_refusal : K.lookup f_law_refusal = some ⟨oc_law_refusal, od_law_refusal, .func (PySem.W.fnOf "_law_refusal" "_law_refusal" (defArgs st_law_refusal) (defBody st_law_refusal) (defScope st_law_refusal) .none kV_law_refusal dc_law_refusal pm_law_refusal an_law_refusal cd_law_refusal ct_law_refusal), sl_law_refusal⟩)
    (fc_law_refusal : PySem.W.codeIn K cd_law_refusal "_law_refusal" = true)
    (fk_law_refusal : PySem.W.keepIn K (.ref f_law_refusal) = true)
    (fa_law_named : PySem.W.nsIn K mainGlobals "_law_named" = some (some (.ref f_law_named)))
    (fl_law_named : K.lookup f_law_named = some ⟨oc_law_named, od_law_named, .func (PySem.W.fnOf "_law_named" "_law_named" (defArgs st_law_named) (defBody st_law_named) (defScope st_law_named) .none kV_law_named dc_law_named pm_law_named an_law_named cd_law_named ct_law_named), sl_law_named⟩)
    (fc_law_named : PySem.W.codeIn K cd_law_named "_law_named" = true)
    (fk_law_named : PySem.W.keepIn K (.ref f_law_named) = true)
    (fa_law_table : PySem.W.nsIn K mainGlobals "_law_table" = some (some (.ref f_law_table)))
    (fl_law_table : K.lookup f_law_table = some ⟨oc_law_table, od_law_table, .func (PySem.W.fnOf "_law_table" "_law_table" (defArgs st_law_table) (defBody st_law_table) (defScope st_law_table) .none kV_law_table dc_law_table pm_law_table an_law_table cd_law_table ct_law_table), sl_law_table⟩)
    (fc_law_table : PySem.W.codeIn K cd_law_table "_law_table" = true)
    (fk_law_table : PySem.W.keepIn K (.ref f_law_table) = true)
    (fa_law_told : PySem.W.nsIn K mainGlobals "_law_told" = some (some (.ref f_law_told)))
    (fl_law_told : K.lookup f_law_told = some ⟨oc_law_told, od_law_told, .func (PySem.W.fnOf "_law_told" "_law_told" (defArgs st_law_told) (defBody st_law_told) (defScope st_law_told) .none kV_law_told dc_law_told pm_law_told an_law_told cd_law_told ct_law_told), sl_law_told⟩)
    (fc_law_told : PySem.W.codeIn K cd_law_told "_law_told" = true)
    (fk_law_told : PySem.W.keepIn K (.ref f_law_told) = true)
    (fa_law : PySem.W.nsIn K mainGlobals "law" = some (some (.ref f_law)))
    (fl_law : K.lookup f_law = some ⟨oc_law, od_law, .func (PySem.W.fnOf "law" "law" (defArgs st_law) (defBody st_law) (defScope st_law) .none kV_law dc_law pm_law an_law cd_law ct_law), sl_law⟩)
    (fc_law : PySem.W.codeIn K cd_law "law" = true)
    (fk_law : PySem.W.keepIn K (.ref f_law) = true) :
    ∃ fd : FuncData, (∀ (s : Shared) (u : Value), BindsTo s fd ⟨[u], []⟩ [("_law_script", u)]) ∧ ∀ base : Heap, K.In base → base.Ns mainGlobals mg → FnOk P w K mg base (L2.CX P w) 5 fa fd ["_law_script"] (spLaw K 14 1 b_law) := by
  have e := hfa.symm.trans (PySem.W.mg_of X G fa_law)
  cases e
  have T : Tx K mg := ⟨PySem.W.mg_none_of X G z_ValueError,
    PySem.W.mg_none_of X G z_all,
    PySem.W.mg_none_of X G z_isinstance,
    PySem.W.mg_none_of X G z_len,
    PySem.W.mg_none_of X G z_list,
    PySem.W.mg_none_of X G z_max,
    PySem.W.mg_none_of X G z_min,
    PySem.W.mg_none_of X G z_range,
    PySem.W.mg_none_of X G z_set,
    PySem.W.mg_none_of X G z_sorted,
    PySem.W.mg_none_of X G z_tuple,
    ⟨_, PySem.W.mg_of X G g_MOST⟩,
    ⟨_, PySem.W.mg_of X G a_BadTable, x_BadTable, k_BadTable, b_BadTable, t_BadTable⟩,
    ⟨_, PySem.W.mg_of X G a_BadThing, x_BadThing, k_BadThing, b_BadThing, t_BadThing⟩,
    ⟨_, PySem.W.mg_of X G a_RuleError, fun c hr D hD => by
      rcases ranked_mem hr with rfl | rfl
      · cases hD.symm.trans (PySem.W.mg_of X G a_BadTable)
        exact PySem.W.exm_ref b_RuleError hd_RuleError t_RuleError s_BadTable_RuleError
      · cases hD.symm.trans (PySem.W.mg_of X G a_BadThing)
        exact PySem.W.exm_ref b_RuleError hd_RuleError t_RuleError s_BadThing_RuleError
    ⟩,
    ⟨_, PySem.W.mg_of X G a_BadLeading, fun c r D hr hD => by
      obtain ⟨h1, h2⟩ := isx_BadLeading_of hr
      rcases ranked_mem h1 with rfl | rfl
      · cases hD.symm.trans (PySem.W.mg_of X G a_BadTable)
        exact ⟨⟨hg_BadTable, hk_BadTable, b_BadTable, hd_BadTable, ha_BadTable, hn, ht, hm_BadTable⟩, by rw [h2]; exact kit_own m_BadLeading t_BadLeading s_BadTable_BadLeading s_BadTable⟩
      · cases hD.symm.trans (PySem.W.mg_of X G a_BadThing)
        exact ⟨⟨hg_BadThing, hk_BadThing, b_BadThing, hd_BadThing, ha_BadThing, hn, ht, hm_BadThing⟩, by rw [h2]; exact kit_own m_BadLeading t_BadLeading s_BadThing_BadLeading s_BadThing⟩
    ⟩,
    ⟨_, PySem.W.mg_of X G a_BadNumber, fun c r D hr hD => by
      obtain ⟨h1, h2⟩ := isx_BadNumber_of hr
      rcases ranked_mem h1 with rfl | rfl
      · cases hD.symm.trans (PySem.W.mg_of X G a_BadTable)
        exact ⟨⟨hg_BadTable, hk_BadTable, b_BadTable, hd_BadTable, ha_BadTable, hn, ht, hm_BadTable⟩, by rw [h2]; exact kit_own m_BadNumber t_BadNumber s_BadTable_BadNumber s_BadTable⟩
      · cases hD.symm.trans (PySem.W.mg_of X G a_BadThing)
        exact ⟨⟨hg_BadThing, hk_BadThing, b_BadThing, hd_BadThing, ha_BadThing, hn, ht, hm_BadThing⟩, by rw [h2]; exact kit_own m_BadNumber t_BadNumber s_BadThing_BadNumber s_BadThing⟩
    ⟩,
    ⟨_, PySem.W.mg_of X G a_BadParting, fun c r D hr hD => by
      obtain ⟨h1, h2⟩ := isx_BadParting_of hr
      rcases ranked_mem h1 with rfl | rfl
      · cases hD.symm.trans (PySem.W.mg_of X G a_BadTable)
        exact ⟨⟨hg_BadTable, hk_BadTable, b_BadTable, hd_BadTable, ha_BadTable, hn, ht, hm_BadTable⟩, by rw [h2]; exact kit_own m_BadParting t_BadParting s_BadTable_BadParting s_BadTable⟩
      · cases hD.symm.trans (PySem.W.mg_of X G a_BadThing)
        exact ⟨⟨hg_BadThing, hk_BadThing, b_BadThing, hd_BadThing, ha_BadThing, hn, ht, hm_BadThing⟩, by rw [h2]; exact kit_own m_BadParting t_BadParting s_BadThing_BadParting s_BadThing⟩
    ⟩,
    ⟨_, PySem.W.mg_of X G a_BadSaying, fun c r D hr hD => by
      obtain ⟨h1, h2⟩ := isx_BadSaying_of hr
      rcases ranked_mem h1 with rfl | rfl
      · cases hD.symm.trans (PySem.W.mg_of X G a_BadTable)
        exact ⟨⟨hg_BadTable, hk_BadTable, b_BadTable, hd_BadTable, ha_BadTable, hn, ht, hm_BadTable⟩, by rw [h2]; exact kit_own m_BadSaying t_BadSaying s_BadTable_BadSaying s_BadTable⟩
      · cases hD.symm.trans (PySem.W.mg_of X G a_BadThing)
        exact ⟨⟨hg_BadThing, hk_BadThing, b_BadThing, hd_BadThing, ha_BadThing, hn, ht, hm_BadThing⟩, by rw [h2]; exact kit_own m_BadSaying t_BadSaying s_BadThing_BadSaying s_BadThing⟩
    ⟩,
    ⟨_, PySem.W.mg_of X G a_BadTable, fun c r D hr hD => by
      obtain ⟨h1, h2⟩ := isx_BadTable_of hr
      rcases ranked_mem h1 with rfl | rfl
      · cases hD.symm.trans (PySem.W.mg_of X G a_BadTable)
        exact ⟨⟨hg_BadTable, hk_BadTable, b_BadTable, hd_BadTable, ha_BadTable, hn, ht, hm_BadTable⟩, by rw [h2]; exact kit_own m_BadTable t_BadTable s_BadTable s_BadTable⟩
      · cases hD.symm.trans (PySem.W.mg_of X G a_BadThing)
        exact ⟨⟨hg_BadThing, hk_BadThing, b_BadThing, hd_BadThing, ha_BadThing, hn, ht, hm_BadThing⟩, by rw [h2]; exact kit_own m_BadTable t_BadTable s_BadThing_BadTable s_BadThing⟩
    ⟩,
    ⟨_, PySem.W.mg_of X G a_BadText, fun c r D hr hD => by
      obtain ⟨h1, h2⟩ := isx_BadText_of hr
      rcases ranked_mem h1 with rfl | rfl
      · cases hD.symm.trans (PySem.W.mg_of X G a_BadTable)
        exact ⟨⟨hg_BadTable, hk_BadTable, b_BadTable, hd_BadTable, ha_BadTable, hn, ht, hm_BadTable⟩, by rw [h2]; exact kit_own m_BadText t_BadText s_BadTable_BadText s_BadTable⟩
      · cases hD.symm.trans (PySem.W.mg_of X G a_BadThing)
        exact ⟨⟨hg_BadThing, hk_BadThing, b_BadThing, hd_BadThing, ha_BadThing, hn, ht, hm_BadThing⟩, by rw [h2]; exact kit_own m_BadText t_BadText s_BadThing_BadText s_BadThing⟩
    ⟩,
    ⟨_, PySem.W.mg_of X G a_BadThing, fun c r D hr hD => by
      obtain ⟨h1, h2⟩ := isx_BadThing_of hr
      rcases ranked_mem h1 with rfl | rfl
      · cases hD.symm.trans (PySem.W.mg_of X G a_BadTable)
        exact ⟨⟨hg_BadTable, hk_BadTable, b_BadTable, hd_BadTable, ha_BadTable, hn, ht, hm_BadTable⟩, by rw [h2]; exact kit_own m_BadThing t_BadThing s_BadTable_BadThing s_BadTable⟩
      · cases hD.symm.trans (PySem.W.mg_of X G a_BadThing)
        exact ⟨⟨hg_BadThing, hk_BadThing, b_BadThing, hd_BadThing, ha_BadThing, hn, ht, hm_BadThing⟩, by rw [h2]; exact kit_own m_BadThing t_BadThing s_BadThing s_BadThing⟩
    ⟩,
    ⟨_, PySem.W.mg_of X G a_TooGreat, fun c r D hr hD => by
      obtain ⟨h1, h2⟩ := isx_TooGreat_of hr
      rcases ranked_mem h1 with rfl | rfl
      · cases hD.symm.trans (PySem.W.mg_of X G a_BadTable)
        exact ⟨⟨hg_BadTable, hk_BadTable, b_BadTable, hd_BadTable, ha_BadTable, hn, ht, hm_BadTable⟩, by rw [h2]; exact kit_own m_TooGreat t_TooGreat s_BadTable_TooGreat s_BadTable⟩
      · cases hD.symm.trans (PySem.W.mg_of X G a_BadThing)
        exact ⟨⟨hg_BadThing, hk_BadThing, b_BadThing, hd_BadThing, ha_BadThing, hn, ht, hm_BadThing⟩, by rw [h2]; exact kit_own m_TooGreat t_TooGreat s_BadThing_TooGreat s_BadThing⟩
    ⟩,
    fun c r D hr hD => by
      obtain ⟨h1, h2⟩ := isx_ValueError_of hr
      rcases ranked_mem h1 with rfl | rfl
      · cases hD.symm.trans (PySem.W.mg_of X G a_BadTable)
        exact ⟨⟨hg_BadTable, hk_BadTable, b_BadTable, hd_BadTable, ha_BadTable, hn, ht, hm_BadTable⟩, by rw [h2]; exact kit_ty (by decide +kernel) s_BadTable_ValueError⟩
      · cases hD.symm.trans (PySem.W.mg_of X G a_BadThing)
        exact ⟨⟨hg_BadThing, hk_BadThing, b_BadThing, hd_BadThing, ha_BadThing, hn, ht, hm_BadThing⟩, by rw [h2]; exact kit_ty (by decide +kernel) s_BadThing_ValueError⟩
    ⟩
  refine ⟨PySem.W.fnOf "law" "law" (defArgs st_law) (defBody st_law) (defScope st_law) .none kV_law dc_law pm_law an_law cd_law ct_law, fun s u => .of_eq rfl, fun base _ _ => ?_⟩
  have k_look_table := ok_look_table (P := P) (w := w) (base := base) T (fun_at X G fa_look_table fl_look_table fc_look_table fk_look_table) 
  have k_look_thing := ok_look_thing (P := P) (w := w) (base := base) T (fun_at X G fa_look_thing fl_look_thing fc_look_thing fk_look_thing) 
  have k_look_things := ok_look_things (P := P) (w := w) (base := base) T (fun_at X G fa_look_things fl_look_things fc_look_things fk_look_things) k_look_table k_look_thing
  have k_turned := ok_turned (P := P) (w := w) (base := base) T (fun_at X G fa_turned fl_turned fc_turned fk_turned) k_look_table
  have k_idle := ok_idle (P := P) (w := w) (base := base) T (fun_at X G fa_idle fl_idle fc_idle fk_idle) k_look_table
  have k_units := ok_units (P := P) (w := w) (base := base) T (fun_at X G fa_units fl_units fc_units fk_units) k_look_table
  have k_noughts := ok_noughts (P := P) (w := w) (base := base) T (fun_at X G fa_noughts fl_noughts fc_noughts fk_noughts) k_look_table
  have k_power_row := ok_power_row (P := P) (w := w) (base := base) T (fun_at X G fa_power_row fl_power_row fc_power_row fk_power_row) k_look_things
  have k_law_cell := ok_law_cell (P := P) (w := w) (base := base) T (fun_at X G fa_law_cell fl_law_cell fc_law_cell fk_law_cell) 
  have k_law_mix := ok_law_mix (P := P) (w := w) (base := base) T (fun_at X G fa_law_mix fl_law_mix fc_law_mix fk_law_mix) k_law_cell
  have k_law_draw := ok_law_draw (P := P) (w := w) (base := base) T (fun_at X G fa_law_draw fl_law_draw fc_law_draw fk_law_draw) k_law_mix
  have k_law_refusal := ok_law_refusal (P := P) (w := w) (base := base) T (fun_at X G fa_law_refusal fl_law_refusal fc_law_refusal fk_law_refusal) 
  have k_law_named := ok_law_named (P := P) (w := w) (base := base) T (fun_at X G fa_law_named fl_law_named fc_law_named fk_law_named) 
  have k_law_table := ok_law_table (P := P) (w := w) (base := base) T (fun_at X G fa_law_table fl_law_table fc_law_table fk_law_table) k_law_draw k_law_named
  have k_law_told := ok_law_told (P := P) (w := w) (base := base) T (fun_at X G fa_law_told fl_law_told fc_law_told fk_law_told) k_power_row k_law_refusal
  exact ok_law T (fun_mk fl_law fc_law fk_law) k_law_table k_idle k_units k_noughts k_turned k_law_told
end Lk11
open PySem PySem.W PyProof.Rows
theorem PySem.Challenge.cw_onerule_k11_whole_things_holds : PySem.Challenge.rw_onerule_k11_whole_things.Holds := by
  w_on; o_law; k_head; (case hw => w_witness2)
  k_fill
  refine Mi.walk_end (l := PySem.Challenge.rw_onerule_k11_whole_things) (k := 5) (L := 14) (i := 1) (body := Lk11.b_law) (sc := "_law_script") rfl rfl ⟨rfl, by decide, by decide⟩ (by decide) (fun w h Y => PySem.W.kIn_of Y) ?F Lk11.law_true
  case F =>
    intro w mg fa h KX G hmg
    refine' Lk11.all_mk KX G hmg ?z_ValueError ?z_all ?z_isinstance ?z_len ?z_list ?z_max ?z_min ?z_range ?z_set ?z_sorted ?z_tuple ?g_MOST ?a_RuleError ?m_RuleError ?t_RuleError ?b_RuleError ?hd_RuleError ?a_BadTable ?m_BadTable ?t_BadTable ?b_BadTable ?a_BadThing ?m_BadThing ?t_BadThing ?b_BadThing ?a_BadParting ?m_BadParting ?t_BadParting ?a_BadSaying ?m_BadSaying ?t_BadSaying ?a_BadLeading ?m_BadLeading ?t_BadLeading ?a_BadNumber ?m_BadNumber ?t_BadNumber ?a_TooGreat ?m_TooGreat ?t_TooGreat ?a_BadText ?m_BadText ?t_BadText ?x_BadTable ?k_BadTable ?s_BadTable ?hg_BadTable ?hk_BadTable ?hd_BadTable ?ha_BadTable ?hm_BadTable ?s_BadTable_BadLeading ?s_BadTable_BadNumber ?s_BadTable_BadParting ?s_BadTable_BadSaying ?s_BadTable_BadText ?s_BadTable_BadThing ?s_BadTable_TooGreat ?s_BadTable_ValueError ?s_BadTable_RuleError ?x_BadThing ?k_BadThing ?s_BadThing ?hg_BadThing ?hk_BadThing ?hd_BadThing ?ha_BadThing ?hm_BadThing ?s_BadThing_BadLeading ?s_BadThing_BadNumber ?s_BadThing_BadParting ?s_BadThing_BadSaying ?s_BadThing_BadTable ?s_BadThing_BadText ?s_BadThing_TooGreat ?s_BadThing_ValueError ?s_BadThing_RuleError ?hn ?ht ?fa_look_table ?fl_look_table ?fc_look_table ?fk_look_table ?fa_look_thing ?fl_look_thing ?fc_look_thing ?fk_look_thing ?fa_look_things ?fl_look_things ?fc_look_things ?fk_look_things ?fa_turned ?fl_turned ?fc_turned ?fk_turned ?fa_idle ?fl_idle ?fc_idle ?fk_idle ?fa_units ?fl_units ?fc_units ?fk_units ?fa_noughts ?fl_noughts ?fc_noughts ?fk_noughts ?fa_power_row ?fl_power_row ?fc_power_row ?fk_power_row ?fa_law_cell ?fl_law_cell ?fc_law_cell ?fk_law_cell ?fa_law_mix ?fl_law_mix ?fc_law_mix ?fk_law_mix ?fa_law_draw ?fl_law_draw ?fc_law_draw ?fk_law_draw ?fa_law_refusal ?fl_law_refusal ?fc_law_refusal ?fk_law_refusal ?fa_law_named ?fl_law_named ?fc_law_named ?fk_law_named ?fa_law_table ?fl_law_table ?fc_law_table ?fk_law_table ?fa_law_told ?fl_law_told ?fc_law_told ?fk_law_told ?fa_law ?fl_law ?fc_law ?fk_law
    (case z_ValueError => k_is)
    (case z_all => k_is)
    (case z_isinstance => k_is)
    (case z_len => k_is)
    (case z_list => k_is)
    (case z_max => k_is)
    (case z_min => k_is)
    (case z_range => k_is)
    (case z_set => k_is)
    (case z_sorted => k_is)
    (case z_tuple => k_is)
    (case g_MOST => k_is)
    (case a_RuleError => k_is)
    (case m_RuleError => k_is)
    (case t_RuleError => k_is)
    (case b_RuleError => k_is)
    (case hd_RuleError => k_is)
    (case a_BadTable => k_is)
    (case m_BadTable => k_is)
    (case t_BadTable => k_is)
    (case b_BadTable => k_is)
    (case a_BadThing => k_is)
    (case m_BadThing => k_is)
    (case t_BadThing => k_is)
    (case b_BadThing => k_is)
    (case a_BadParting => k_is)
    (case m_BadParting => k_is)
    (case t_BadParting => k_is)
    (case a_BadSaying => k_is)
    (case m_BadSaying => k_is)
    (case t_BadSaying => k_is)
    (case a_BadLeading => k_is)
    (case m_BadLeading => k_is)
    (case t_BadLeading => k_is)
    (case a_BadNumber => k_is)
    (case m_BadNumber => k_is)
    (case t_BadNumber => k_is)
    (case a_TooGreat => k_is)
    (case m_TooGreat => k_is)
    (case t_TooGreat => k_is)
    (case a_BadText => k_is)
    (case m_BadText => k_is)
    (case t_BadText => k_is)
    (case x_BadTable => k_exc)
    (case k_BadTable => k_is)
    (case s_BadTable => first | rfl | k_is)
    (case hg_BadTable => k_is)
    (case hk_BadTable => k_is)
    (case hd_BadTable => k_is)
    (case ha_BadTable => k_is)
    (case hm_BadTable => k_is)
    (case s_BadTable_BadLeading => first | rfl | k_is)
    (case s_BadTable_BadNumber => first | rfl | k_is)
    (case s_BadTable_BadParting => first | rfl | k_is)
    (case s_BadTable_BadSaying => first | rfl | k_is)
    (case s_BadTable_BadText => first | rfl | k_is)
    (case s_BadTable_BadThing => first | rfl | k_is)
    (case s_BadTable_TooGreat => first | rfl | k_is)
    (case s_BadTable_ValueError => k_is)
    (case s_BadTable_RuleError => first | rfl | k_is)
    (case x_BadThing => k_exc)
    (case k_BadThing => k_is)
    (case s_BadThing => first | rfl | k_is)
    (case hg_BadThing => k_is)
    (case hk_BadThing => k_is)
    (case hd_BadThing => k_is)
    (case ha_BadThing => k_is)
    (case hm_BadThing => k_is)
    (case s_BadThing_BadLeading => first | rfl | k_is)
    (case s_BadThing_BadNumber => first | rfl | k_is)
    (case s_BadThing_BadParting => first | rfl | k_is)
    (case s_BadThing_BadSaying => first | rfl | k_is)
    (case s_BadThing_BadTable => first | rfl | k_is)
    (case s_BadThing_BadText => first | rfl | k_is)
    (case s_BadThing_TooGreat => first | rfl | k_is)
    (case s_BadThing_ValueError => k_is)
    (case s_BadThing_RuleError => first | rfl | k_is)
    (case hn => k_is)
    (case ht => k_is)
    (case fa_look_table => k_is)
    (case fl_look_table => k_is)
    (case fc_look_table => k_is)
    (case fk_look_table => k_is)
    (case fa_look_thing => k_is)
    (case fl_look_thing => k_is)
    (case fc_look_thing => k_is)
    (case fk_look_thing => k_is)
    (case fa_look_things => k_is)
    (case fl_look_things => k_is)
    (case fc_look_things => k_is)
    (case fk_look_things => k_is)
    (case fa_turned => k_is)
    (case fl_turned => k_is)
    (case fc_turned => k_is)
    (case fk_turned => k_is)
    (case fa_idle => k_is)
    (case fl_idle => k_is)
    (case fc_idle => k_is)
    (case fk_idle => k_is)
    (case fa_units => k_is)
    (case fl_units => k_is)
    (case fc_units => k_is)
    (case fk_units => k_is)
    (case fa_noughts => k_is)
    (case fl_noughts => k_is)
    (case fc_noughts => k_is)
    (case fk_noughts => k_is)
    (case fa_power_row => k_is)
    (case fl_power_row => k_is)
    (case fc_power_row => k_is)
    (case fk_power_row => k_is)
    (case fa_law_cell => k_is)
    (case fl_law_cell => k_is)
    (case fc_law_cell => k_is)
    (case fk_law_cell => k_is)
    (case fa_law_mix => k_is)
    (case fl_law_mix => k_is)
    (case fc_law_mix => k_is)
    (case fk_law_mix => k_is)
    (case fa_law_draw => k_is)
    (case fl_law_draw => k_is)
    (case fc_law_draw => k_is)
    (case fk_law_draw => k_is)
    (case fa_law_refusal => k_is)
    (case fl_law_refusal => k_is)
    (case fc_law_refusal => k_is)
    (case fk_law_refusal => k_is)
    (case fa_law_named => k_is)
    (case fl_law_named => k_is)
    (case fc_law_named => k_is)
    (case fk_law_named => k_is)
    (case fa_law_table => k_is)
    (case fl_law_table => k_is)
    (case fc_law_table => k_is)
    (case fk_law_table => k_is)
    (case fa_law_told => k_is)
    (case fl_law_told => k_is)
    (case fc_law_told => k_is)
    (case fk_law_told => k_is)
    (case fa_law => k_is)
    (case fl_law => k_is)
    (case fc_law => k_is)
    (case fk_law => k_is)

end
