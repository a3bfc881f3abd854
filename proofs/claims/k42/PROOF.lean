import PyProof.Rows.All
import Wide.All
import OpenK.AllK
import Wide.FinOn
import HandS.ForMost
import HandS.ForExc
import KE.SortData
import KE.DataEq
import KE.DataFind
import KE.DataIsa
import KE.DataMinMax
import KE.DataAny
import HandS.TupAny
import HandS.TupMul
import HandS.Strs
import KE.DataCmp
import HandS.Style
import HandS.Text
import HandS.IsInst
import HandS.Conv
import HandS.DictTup
import HandS.ExcIs
import HandS.SetFor
import HandS.More
import HandS.TupSets
import PyProof.Rows.ListStrD
import PyProof.StrCalls2
import PyProof.StrCalls3
import KE.KDictZip
import HandS.Dict
import HandS.Replace
import HandS.Iter
import KE.Datum
import PyProof.StrLawsIn
import PyProof.StrLawsChain
import PySem.Challenge.RW_onerule_k42_whole_texts
section
set_option Elab.async false
set_option linter.all false
set_option maxRecDepth 100000
set_option maxHeartbeats 4000000
/-! ## Mi: a pure meaning of the Python that the laws use, over PyData; what a piece of code means as a function of its names' values; the state relation; what the layer's readings become. -/
namespace Mi
open PySem PySem.Spec L2

abbrev D := PyData

/-- what a piece of code comes to: a value, a refusal of the class so named, or nothing that we speak of. The number: how long the town's list is -/
inductive Res (α : Type) where
  | ok (a : α) (n : Nat)
  | err (c : Str) (n : Nat)
  | bad
def M (α : Type) : Type := Nat → Res α
section
variable {α β γ : Type}
def M.ret (a : α) : M α := fun n => .ok a n
def M.bnd (m : M α) (f : α → M β) : M β := fun n => match m n with
  | .ok a k => f a k
  | .err c k => .err c k
  | .bad => .bad
instance : Monad M where
  pure := M.ret
  bind := M.bnd
def bad : M α := fun _ => .bad
def refuse (c : Str) : M α := fun n => .err c n
def need (b : Bool) : M Unit := if b = true then M.ret () else bad
def noErr (m : M α) : M α := fun n => match m n with
  | .err _ _ => .bad
  | r => r
def ofOpt (o : Option α) : M α := match o with
  | some a => M.ret a
  | none => bad
theorem ret_bnd (a : α) (f : α → M β) : (pure a : M α) >>= f = f a := rfl
theorem bnd_ret (m : M α) : m >>= pure = m := by
  funext n
  show M.bnd m M.ret n = m n
  unfold M.bnd M.ret
  cases m n <;> rfl
theorem bnd_bnd (m : M α) (f : α → M β) (g : β → M γ) : (m >>= f) >>= g = m >>= fun a => f a >>= g := by
  funext n
  show M.bnd (M.bnd m f) g n = M.bnd m (fun a => M.bnd (f a) g) n
  unfold M.bnd
  cases m n <;> rfl
theorem bad_bnd (f : α → M β) : (bad : M α) >>= f = bad := rfl
theorem refuse_bnd (c : Str) (f : α → M β) : (refuse c : M α) >>= f = refuse c := rfl
theorem need_true (f : Unit → M β) : (need true) >>= f = f () := rfl
theorem noErr_ret (a : α) : noErr (pure a : M α) = pure a := rfl
end

/-! ### what is handed about -/
def keyD : Key → D
  | .inl i => .int i
  | .inr x => .str x
def keysD (ks : List Key) : D := .tuple (ks.map keyD)
def townD : D := .dict [(.none, .none)]
def excD (c : Str) : D := .dict [(.none, .str c)]
/-- the law's script -/
def scrD (ns : List Int) : D := .dict [(.none, .list (ns.map PyData.int))]
/-- an exception's object, kept as a value -/
def ExcO (cls : Value) (a : Addr) : HO := .ext fun h => ∃ oe : Obj, h.get? a = some oe ∧ oe.cls = cls ∧ oe.dict = none ∧ ∃ vs, oe.data = .fields vs

section
variable (K : PySem.W.Frag) (mg : Str → Option Value) (τ : Option Addr) (G : Hp)
mutual
/-- v stands for d, by what the heap G says -/
inductive Rep : V → D → Prop
  | non : Rep .non .none
  | bl (b : Bool) : Rep (.bl b) (.bool b)
  | int (i : Int) : Rep (.int i) (.int i)
  | str (x : Str) : Rep (.str x) (.str x)
  | lst {a : Addr} {vs : List V} {ds : List D} : G a = some (.lst vs) → Reps vs ds → Rep (.ref a) (.list ds)
  | tup {a : Addr} {vs : List V} {ds : List D} : SqT K G a vs → Reps vs ds → Rep (.ref a) (.tuple ds)
  | dk {a : Addr} {kvs : List (Key × V)} {ds : List (D × D)} : Rd G a (.dK kvs) → RepK kvs ds → Rep (.ref a) (.dict ds)
  | dt {a : Addr} {kvs : List (List Key × V)} {ds : List (D × D)} : Rd G a (.dT kvs) → RepT kvs ds → Rep (.ref a) (.dict ds)
  | town {a : Addr} : τ = some a → Rep (.ref a) townD
  | scr {a : Addr} {ns : List Int} : ((∃ o, G a = some (.frz o (.lst (ns.map V.int)))) ∨ SqL K (fun _ => none) a (ns.map V.int)) → Rep (.ref a) (scrD ns)
  | exc {a C : Addr} {c : Str} : mg c = some (.ref C) → G a = some (ExcO (.ref C) a) → Rep (.ref a) (excD c)
inductive Reps : List V → List D → Prop
  | nil : Reps [] []
  | cons {v : V} {vs : List V} {d : D} {ds : List D} : Rep v d → Reps vs ds → Reps (v :: vs) (d :: ds)
inductive RepK : List (Key × V) → List (D × D) → Prop
  | nil : RepK [] []
  | cons {k : Key} {v : V} {vs : List (Key × V)} {d : D} {ds : List (D × D)} : Rep v d → RepK vs ds → RepK ((k, v) :: vs) ((keyD k, d) :: ds)
inductive RepT : List (List Key × V) → List (D × D) → Prop
  | nil : RepT [] []
  | cons {k : List Key} {v : V} {vs : List (List Key × V)} {d : D} {ds : List (D × D)} : Rep v d → RepT vs ds → RepT ((k, v) :: vs) ((keysD k, d) :: ds)
end
end

/-- a dict may be locked -/
def Lk : HO → Prop
  | .dK _ => True
  | .dT _ => True
  | _ => False
/-- what G says, H bears (a dict perhaps locked) -/
def Le (G H : Hp) : Prop := ∀ a u, G a = some u → H a = some u ∨ (Lk u ∧ ∃ o, H a = some (.frz o u))
/-- all but the town's list stands -/
def Keep (τ : Option Addr) (H H' : Hp) : Prop := ∀ b o, H b = some o → some b ≠ τ → H' b = some o
/-- from (H, G) to (H', G'): G has grown by new objects -/
structure Step (τ : Option Addr) (H G H' G' : Hp) : Prop where
  keep : Keep τ H H'
  sub : ∀ a u, G a = some u → G' a = some u
  new : ∀ a u, G' a = some u → G a = some u ∨ H a = none
  le : Le G' H'
  nt : ∀ a, τ = some a → G' a = none
def Town (τ : Option Addr) (n : Nat) (H : Hp) : Prop := ∀ a, τ = some a → H a = some (.lst (List.replicate n (.int 0)))

section
variable {K : PySem.W.Frag} {mg : Str → Option Value} {τ : Option Addr} {G G' G1 G2 H H' H1 H2 : Hp}
theorem Le.refl : Le G G := fun _ _ h => .inl h
theorem rd_sub (s : ∀ a u, G a = some u → G' a = some u) : Le G G' := fun a u h => .inl (s a u h)
theorem Le.rd (l : Le G H) {a : Addr} {u : HO} (h : Rd G a u) : Rd H a u := by
  rcases h with h | ⟨o, h⟩
  · rcases l a u h with q | ⟨_, q⟩
    · exact .inl q
    · exact .inr q
  · rcases l a _ h with q | ⟨q, _⟩
    · exact .inr ⟨o, q⟩
    · exact q.elim
theorem Le.list (l : Le G H) {a : Addr} {xs : List V} (h : G a = some (.lst xs)) : H a = some (.lst xs) := (l a _ h).resolve_right fun q => q.1.elim
theorem Le.tuple (l : Le G H) {a : Addr} {xs : List V} (h : G a = some (.tup xs)) : H a = some (.tup xs) := (l a _ h).resolve_right fun q => q.1.elim
theorem Le.none (l : Le G H) {a : Addr} (h : H a = Option.none) : G a = Option.none := by
  cases e : G a with
  | none => rfl
  | some u => rcases l a u e with z | ⟨_, _, z⟩ <;> (rw [h] at z; cases z)
theorem sql_le (l : Le G G') {a : Addr} {vs : List V} (h : SqL K G a vs) : SqL K G' a vs := by
  rcases h with h | h
  · exact .inl (l.rd h)
  · exact .inr h
theorem sqt_le (l : Le G G') {a : Addr} {vs : List V} (h : SqT K G a vs) : SqT K G' a vs := by
  rcases h with h | h
  · exact .inl (l.rd h)
  · exact .inr h
theorem scr_at {a : Addr} {vs : List V} (l : Le G H) (h : (∃ o, G a = some (.frz o (.lst vs))) ∨ SqL K (fun _ => none) a vs) : SqL K H a vs := by
  rcases h with ⟨o, h⟩ | (h | ⟨_, h⟩) | h
  · exact .inl (l.rd (.inr ⟨o, h⟩))
  · cases h
  · cases h
  · exact .inr h
mutual
theorem Rep.sub (s : ∀ a u, G a = some u → G' a = some u) : ∀ {v : V} {d : D}, Rep K mg τ G v d → Rep K mg τ G' v d
  | _, _, .non => .non
  | _, _, .bl b => .bl b
  | _, _, .int i => .int i
  | _, _, .str x => .str x
  | _, _, .lst h r => .lst (s _ _ h) (Reps.sub s r)
  | _, _, .tup h r => .tup (sqt_le (rd_sub s) h) (Reps.sub s r)
  | _, _, .dk h r => .dk ((rd_sub s).rd h) (RepK.sub s r)
  | _, _, .dt h r => .dt ((rd_sub s).rd h) (RepT.sub s r)
  | _, _, .town h => .town h
  | _, _, .scr h => .scr (h.imp (fun ⟨o, h⟩ => ⟨o, s _ _ h⟩) id)
  | _, _, .exc h g => .exc h (s _ _ g)
theorem Reps.sub (s : ∀ a u, G a = some u → G' a = some u) : ∀ {v : List V} {d : List D}, Reps K mg τ G v d → Reps K mg τ G' v d
  | _, _, .nil => .nil
  | _, _, .cons h r => .cons (Rep.sub s h) (Reps.sub s r)
theorem RepK.sub (s : ∀ a u, G a = some u → G' a = some u) : ∀ {v : List (Key × V)} {d : List (D × D)}, RepK K mg τ G v d → RepK K mg τ G' v d
  | _, _, .nil => .nil
  | _, _, .cons h r => .cons (Rep.sub s h) (RepK.sub s r)
theorem RepT.sub (s : ∀ a u, G a = some u → G' a = some u) : ∀ {v : List (List Key × V)} {d : List (D × D)}, RepT K mg τ G v d → RepT K mg τ G' v d
  | _, _, .nil => .nil
  | _, _, .cons h r => .cons (Rep.sub s h) (RepT.sub s r)
end
theorem Keep.refl : Keep τ H H := fun _ _ h _ => h
theorem Keep.trans (a : Keep τ H H1) (b : Keep τ H1 H2) : Keep τ H H2 := fun x o h n => b x o (a x o h n) n
theorem Step.refl (l : Le G H) (nt : ∀ a, τ = some a → G a = none) : Step τ H G H G := ⟨Keep.refl, fun _ _ h => h, fun _ _ h => .inl h, l, nt⟩
theorem Step.trans (a : Step τ H G H1 G1) (b : Step τ H1 G1 H2 G2) : Step τ H G H2 G2 where
  keep := a.keep.trans b.keep
  sub := fun x u h => b.sub x u (a.sub x u h)
  new := fun x u h => by
    rcases b.new x u h with q | q
    · exact a.new x u q
    · refine .inr ?_
      cases e : H x with
      | none => rfl
      | some o =>
        by_cases z : some x = τ
        · have w := b.nt x z.symm
          rw [h] at w
          cases w
        · have w := a.keep x o e z
          rw [q] at w
          cases w
  le := b.le
  nt := b.nt
theorem Reps.length : ∀ {vs : List V} {ds : List D}, Reps K mg τ G vs ds → vs.length = ds.length
  | _, _, .nil => rfl
  | _, _, .cons _ r => congrArg Nat.succ r.length
theorem Reps.get : ∀ {vs : List V} {ds : List D} {i : Nat} {d : D}, Reps K mg τ G vs ds → ds[i]? = some d → ∃ v, vs[i]? = some v ∧ Rep K mg τ G v d
  | _, _, 0, _, .cons h _, e => by
    simp only [List.getElem?_cons_zero, Option.some.injEq] at e
    exact ⟨_, rfl, e ▸ h⟩
  | _, _, i + 1, _, .cons _ r, e => by
    simp only [List.getElem?_cons_succ] at e
    obtain ⟨v, h1, h2⟩ := r.get e
    exact ⟨v, by simpa using h1, h2⟩
  | _, _, _, _, .nil, e => by simp at e
theorem Reps.get' : ∀ {vs : List V} {ds : List D} {i : Nat} {v : V}, Reps K mg τ G vs ds → vs[i]? = some v → ∃ d, ds[i]? = some d ∧ Rep K mg τ G v d
  | _, _, 0, _, .cons h _, e => by
    simp only [List.getElem?_cons_zero, Option.some.injEq] at e
    exact ⟨_, rfl, e ▸ h⟩
  | _, _, i + 1, _, .cons _ r, e => by
    simp only [List.getElem?_cons_succ] at e
    obtain ⟨v, h1, h2⟩ := r.get' e
    exact ⟨v, by simpa using h1, h2⟩
  | _, _, _, _, .nil, e => by simp at e
theorem Reps.append : ∀ {vs ws : List V} {ds es : List D}, Reps K mg τ G vs ds → Reps K mg τ G ws es → Reps K mg τ G (vs ++ ws) (ds ++ es)
  | _, _, _, _, .nil, q => q
  | _, _, _, _, .cons h r, q => .cons h (r.append q)
theorem Reps.one {v : V} {d : D} (h : Rep K mg τ G v d) : Reps K mg τ G [v] [d] := .cons h .nil
theorem Reps.take : ∀ {vs : List V} {ds : List D} (n : Nat), Reps K mg τ G vs ds → Reps K mg τ G (vs.take n) (ds.take n)
  | _, _, 0, _ => by simpa using Reps.nil
  | _, _, _ + 1, .nil => .nil
  | _, _, n + 1, .cons h r => .cons h (r.take n)
theorem Reps.drop : ∀ {vs : List V} {ds : List D} (n : Nat), Reps K mg τ G vs ds → Reps K mg τ G (vs.drop n) (ds.drop n)
  | _, _, 0, r => by simpa using r
  | _, _, _ + 1, .nil => .nil
  | _, _, n + 1, .cons _ r => by simpa using r.drop n
theorem Reps.reverse : ∀ {vs : List V} {ds : List D}, Reps K mg τ G vs ds → Reps K mg τ G vs.reverse ds.reverse
  | _, _, .nil => .nil
  | _, _, .cons h r => by
    rw [List.reverse_cons, List.reverse_cons]
    exact r.reverse.append (.one h)
theorem Reps.set : ∀ {vs : List V} {ds : List D} {v : V} {d : D} (i : Nat), Reps K mg τ G vs ds → Rep K mg τ G v d → Reps K mg τ G (vs.set i v) (ds.set i d)
  | _, _, _, _, _, .nil, _ => .nil
  | _, _, _, _, 0, .cons _ r, h => .cons h r
  | _, _, _, _, i + 1, .cons q r, h => .cons q (r.set i h)
theorem Reps.ints : ∀ ns : List Int, Reps K mg τ G (ns.map V.int) (ns.map PyData.int)
  | [] => .nil
  | n :: r => .cons (.int n) (Reps.ints r)

/-- G with a new object: from H to H with it -/
theorem Step.fresh {p : Addr} {o : HO} (l : Le G H) (nt : ∀ a, τ = some a → G a = none) (tw : ∀ a, τ = some a → H a ≠ none) (hp : H p = none) : Step τ H G (upd H p o) (upd G p o) where
  keep := fun b q e _ => by
    rw [upd_ne (ne_of_none e hp)]
    exact e
  sub := fun b u e => by
    have : b ≠ p := by
      rintro rfl
      rw [l.none hp] at e
      cases e
    rw [upd_ne this]
    exact e
  new := fun b u e => by
    by_cases z : b = p
    · subst z
      exact .inr hp
    · rw [upd_ne z] at e
      exact .inl e
  le := fun b u e => by
    by_cases z : b = p
    · subst z
      rw [upd_same] at e ⊢
      exact .inl e
    · rw [upd_ne z] at e ⊢
      exact l b u e
  nt := fun a e => by
    have : a ≠ p := by
      rintro rfl
      exact tw a e hp
    rw [upd_ne this]
    exact nt a e
/-- the heap grows by an object that G does not tell of -/
theorem Step.other {p : Addr} {o : HO} (l : Le G H) (nt : ∀ a, τ = some a → G a = none) (hp : H p = none) : Step τ H G (upd H p o) G where
  keep := fun b q e _ => by
    rw [upd_ne (ne_of_none e hp)]
    exact e
  sub := fun _ _ e => e
  new := fun _ _ e => .inl e
  le := fun b u e => by
    have z : b ≠ p := by
      rintro rfl
      rw [l.none hp] at e
      cases e
    rw [upd_ne z]
    exact l b u e
  nt := nt
theorem Town.ne {n : Nat} (t : Town τ n H) : ∀ a, τ = some a → H a ≠ none := fun a e z => by
  rw [t a e] at z
  cases z
theorem Town.upd {n : Nat} {p : Addr} {o : HO} (t : Town τ n H) (hp : H p = none) : Town τ n (L2.upd H p o) := fun a e => by
  rw [upd_ne (ne_of_none (t a e) hp)]
  exact t a e
end
end Mi

end

section
set_option Elab.async false
set_option linter.all false
set_option maxRecDepth 100000
set_option maxHeartbeats 4000000
namespace Mi
open PySem PySem.Spec L2

/-! ### the names' values -/
/-- what a name holds: nothing, a value that stands, a list of ours that stands, a list of ours that is still filled, a list of such lists, a dict of ours (keys ints and texts; keys tuples) -/
inductive Sl where
  | no
  | fz (d : D)
  | sh (ds : List D)
  | ow (ds : List D)
  | ow2 (dss : List (List D))
  | dk (ks : List Key) (ds : List D)
  | dt (ks : List (List Key)) (ds : List D)
abbrev Env := List Sl
def Env.at (ρ : Mi.Env) (i : Nat) : Sl := ρ.getD i .no

section
variable (K : PySem.W.Frag) (mg : Str → Option Value) (τ : Option Addr) (H0 G H : Hp)
inductive Rows2 : List Addr → List (List D) → Prop
  | nil : Rows2 [] []
  | cons {b : Addr} {bs : List Addr} {vs : List V} {ds : List D} {dss : List (List D)} : H b = some (.lst vs) → Reps K mg τ G vs ds → Rows2 bs dss → Rows2 (b :: bs) (ds :: dss)
def SlotOk (x : Option (Option V)) : Sl → Prop
  | .no => True
  | .fz d => ∃ v, x = some (some v) ∧ Rep K mg τ G v d
  | .sh ds => ∃ a vs, x = some (some (.ref a)) ∧ G a = some (.lst vs) ∧ Reps K mg τ G vs ds ∧ H0 a = none
  | .ow ds => ∃ a vs, x = some (some (.ref a)) ∧ H a = some (.lst vs) ∧ Reps K mg τ G vs ds
  | .ow2 dss => ∃ (a : Addr) (bs : List Addr), x = some (some (.ref a)) ∧ H a = some (.lst (bs.map V.ref)) ∧ bs.Nodup ∧ a ∉ bs ∧ Rows2 K mg τ G H bs dss
  | .dk ks ds => ∃ a kvs, x = some (some (.ref a)) ∧ H a = some (.dK kvs) ∧ kvs.map (·.1) = ks ∧ Reps K mg τ G (kvs.map (·.2)) ds
  | .dt ks ds => ∃ a kvs, x = some (some (.ref a)) ∧ H a = some (.dT kvs) ∧ kvs.map (·.1) = ks ∧ Reps K mg τ G (kvs.map (·.2)) ds
/-- the objects that a name has for itself -/
def CellOf (x : Option (Option V)) : Sl → Addr → Prop
  | .ow _, a => x = some (some (.ref a))
  | .dk _ _, a => x = some (some (.ref a))
  | .dt _ _, a => x = some (some (.ref a))
  | .ow2 _, a => x = some (some (.ref a)) ∨ ∃ (r : Addr) (bs : List Addr), x = some (some (.ref r)) ∧ H r = some (.lst (bs.map V.ref)) ∧ a ∈ bs
  | _, _ => False
end
/-- the state: since the entry (H0, G0) -/
structure Rel (K : PySem.W.Frag) (mg : Str → Option Value) (τ : Option Addr) (H0 G0 G H : Hp) (σ : L2.St) (ρ : Mi.Env) (n : Nat) : Prop where
  step : Step τ H0 G0 H G
  town : Town τ n H
  len : ρ.length = σ.length
  slots : ∀ i, SlotOk K mg τ H0 G H σ[i]? (ρ.at i)
  cell : ∀ i a, CellOf H σ[i]? (ρ.at i) a → G a = none ∧ H0 a = none ∧ some a ≠ τ
  apart : ∀ i j a, CellOf H σ[i]? (ρ.at i) a → CellOf H σ[j]? (ρ.at j) a → i = j
section
variable {K : PySem.W.Frag} {mg : Str → Option Value} {τ : Option Addr} {H0 G0 G G' G1 H H' H1 : Hp} {σ : L2.St} {ρ : Mi.Env} {n n1 : Nat}
theorem Rows2.sub (s : ∀ a u, G a = some u → G' a = some u) : ∀ {bs : List Addr} {dss : List (List D)}, (∀ b ∈ bs, ∀ o, H b = some o → H' b = some o) → Rows2 K mg τ G H bs dss → Rows2 K mg τ G' H' bs dss
  | _, _, _, .nil => .nil
  | _, _, k, .cons h r q => .cons (k _ List.mem_cons_self _ h) (r.sub s) (Rows2.sub s (fun b hb => k b (List.mem_cons_of_mem _ hb)) q)
theorem Rows2.at : ∀ {bs : List Addr} {dss : List (List D)}, Rows2 K mg τ G H bs dss → ∀ b ∈ bs, ∃ vs, H b = some (.lst vs)
  | _, _, .nil, _, hb => nomatch hb
  | _, _, .cons h r q, b, hb => by
    rcases List.mem_cons.mp hb with e | hb
    · exact e ▸ ⟨_, h⟩
    · exact q.at b hb
theorem cell_there {x : Option (Option V)} : ∀ {s : Sl} {a : Addr}, SlotOk K mg τ H0 G H x s → CellOf H x s a → ∃ o, H a = some o := by
  intro s a ok c
  cases s with
  | no => exact c.elim
  | fz d => exact c.elim
  | sh ds => exact c.elim
  | ow ds =>
    obtain ⟨b, vs, e, h, _⟩ := ok
    have c : x = some (some (.ref a)) := c
    rw [e] at c
    cases c
    exact ⟨_, h⟩
  | dk ks ds =>
    obtain ⟨b, vs, e, h, _⟩ := ok
    have c : x = some (some (.ref a)) := c
    rw [e] at c
    cases c
    exact ⟨_, h⟩
  | dt ks ds =>
    obtain ⟨b, vs, e, h, _⟩ := ok
    have c : x = some (some (.ref a)) := c
    rw [e] at c
    cases c
    exact ⟨_, h⟩
  | ow2 dss =>
    obtain ⟨b, bs, e, h, nd, nb, r⟩ := ok
    rcases c with c | ⟨r', bs', e', h', hm⟩
    · rw [e] at c
      cases c
      exact ⟨_, h⟩
    · rw [e] at e'
      cases e'
      rw [h] at h'
      have z : bs = bs' := by
        have q : bs.map V.ref = bs'.map V.ref := by injection h' with h'; injection h'
        exact (List.map_inj_right (fun x y e => by cases e; rfl)).mp q
      subst z
      obtain ⟨vs, q⟩ := r.at a hm
      exact ⟨_, q⟩
/-- what the step changes nothing of -/
theorem slot_step {x : Option (Option V)} (st : Step τ H G H1 G1) : ∀ {s : Sl}, SlotOk K mg τ H0 G H x s → (∀ a, CellOf H x s a → some a ≠ τ) → SlotOk K mg τ H0 G1 H1 x s := by
  intro s ok nc
  cases s with
  | no => trivial
  | fz d =>
    obtain ⟨v, e, r⟩ := ok
    exact ⟨v, e, r.sub st.sub⟩
  | sh ds =>
    obtain ⟨a, vs, e, g, r, h0⟩ := ok
    exact ⟨a, vs, e, st.sub _ _ g, r.sub st.sub, h0⟩
  | ow ds =>
    obtain ⟨b, vs, e, h, r⟩ := ok
    exact ⟨b, vs, e, st.keep _ _ h (nc b e), r.sub st.sub⟩
  | dk ks ds =>
    obtain ⟨b, vs, e, h, q, r⟩ := ok
    exact ⟨b, vs, e, st.keep _ _ h (nc b e), q, r.sub st.sub⟩
  | dt ks ds =>
    obtain ⟨b, vs, e, h, q, r⟩ := ok
    exact ⟨b, vs, e, st.keep _ _ h (nc b e), q, r.sub st.sub⟩
  | ow2 dss =>
    obtain ⟨b, bs, e, h, nd, nb, r⟩ := ok
    exact ⟨b, bs, e, st.keep _ _ h (nc b (.inl e)), nd, nb, r.sub st.sub fun c hc o q => st.keep _ _ q (nc c (.inr ⟨b, bs, e, h, hc⟩))⟩
theorem refs_inj {bs bs' : List Addr} (h : some (HO.lst (bs.map V.ref)) = some (HO.lst (bs'.map V.ref))) : bs = bs' := by
  have q : bs.map V.ref = bs'.map V.ref := by injection h with h; injection h
  exact (List.map_inj_right (fun x y e => by cases e; rfl)).mp q
theorem cell_step {x : Option (Option V)} (st : Step τ H G H1 G1) : ∀ {s : Sl}, SlotOk K mg τ H0 G H x s → (∀ a, CellOf H x s a → some a ≠ τ) → ∀ a, CellOf H1 x s a → CellOf H x s a := by
  intro s ok nc a c
  cases s with
  | no => exact c.elim
  | fz d => exact c.elim
  | sh ds => exact c.elim
  | ow ds => exact c
  | dk ks ds => exact c
  | dt ks ds => exact c
  | ow2 dss =>
    obtain ⟨b, bs, e, h, nd, nb, r⟩ := ok
    rcases c with c | ⟨r', bs', e', h', hm⟩
    · exact .inl c
    · rw [e] at e'
      cases e'
      have z := (st.keep _ _ h (nc b (.inl e))).symm.trans h'
      exact .inr ⟨b, bs', e, by rw [h, z], hm⟩
theorem Rel.next (R : Rel K mg τ H0 G0 G H σ ρ n) (st : Step τ H G H1 G1) (tw : Town τ n1 H1) : Rel K mg τ H0 G0 G1 H1 σ ρ n1 where
  step := R.step.trans st
  town := tw
  len := R.len
  slots := fun i => slot_step st (R.slots i) fun a c => (R.cell i a c).2.2
  cell := fun i a c => by
    have c0 := cell_step st (R.slots i) (fun a c => (R.cell i a c).2.2) a c
    obtain ⟨h1, h2, h3⟩ := R.cell i a c0
    refine ⟨?_, h2, h3⟩
    cases e : G1 a with
    | none => rfl
    | some u =>
      rcases st.new a u e with q | q
      · rw [h1] at q
        cases q
      · obtain ⟨o, w⟩ := cell_there (R.slots i) c0
        rw [q] at w
        cases w
  apart := fun i j a c d => R.apart i j a (cell_step st (R.slots i) (fun a c => (R.cell i a c).2.2) a c) (cell_step st (R.slots j) (fun a c => (R.cell j a c).2.2) a d)
theorem Rel.le (R : Rel K mg τ H0 G0 G H σ ρ n) : Le G H := R.step.le
theorem Rel.nt (R : Rel K mg τ H0 G0 G H σ ρ n) : ∀ a, τ = some a → G a = none := R.step.nt
theorem Rel.refl (R : Rel K mg τ H0 G0 G H σ ρ n) : Step τ H G H G := Step.refl R.le R.nt
/-- fewer names are known -/
theorem Rel.weak {σ' : L2.St} {ρ' : Mi.Env} (R : Rel K mg τ H0 G0 G H σ ρ n) (hl : ρ'.length = σ'.length) (h : ∀ i, ρ'.at i = .no ∨ (ρ'.at i = ρ.at i ∧ σ'[i]? = σ[i]?)) : Rel K mg τ H0 G0 G H σ' ρ' n where
  step := R.step
  town := R.town
  len := hl
  slots := fun i => by
    rcases h i with e | ⟨e, e'⟩
    · rw [e]; trivial
    · rw [e, e']; exact R.slots i
  cell := fun i a c => by
    rcases h i with e | ⟨e, e'⟩
    · rw [e] at c; exact c.elim
    · rw [e, e'] at c; exact R.cell i a c
  apart := fun i j a c d => by
    rcases h i with e | ⟨e, e'⟩
    · rw [e] at c; exact c.elim
    · rcases h j with f | ⟨f, f'⟩
      · rw [f] at d; exact d.elim
      · rw [e, e'] at c
        rw [f, f'] at d
        exact R.apart i j a c d
end

/-! ### what is wanted of an outcome -/
section
variable {α β : Type}
def Post (mg : Str → Option Value) (τ : Option Addr) (H G : Hp) (E : XK) (rep : Hp → β → α → Prop) (r : Res α) (Q : β → Hp → Prop) : Prop :=
  match r with
  | .ok d n => ∀ v H' G', Step τ H G H' G' → Town τ n H' → rep G' v d → Q v H'
  | .err c n => ∀ C H', mg c = some (.ref C) → Keep τ H H' → Town τ n H' → E (.ref C) none H'
  | .bad => False
variable {γ δ : Type} {mg : Str → Option Value} {τ : Option Addr} {H G H1 G1 : Hp} {E : XK} {rep : Hp → β → α → Prop} {rep2 : Hp → γ → δ → Prop} {Q : β → Hp → Prop} {Q2 : γ → Hp → Prop}
theorem Post.shift (st : Step τ H G H1 G1) : ∀ {r : Res α}, Post mg τ H G E rep r Q → Post mg τ H1 G1 E rep r Q
  | .ok d n, h => fun v H' G' s t p => h v H' G' (st.trans s) t p
  | .err c n, h => fun C H' m k t => h C H' m (st.keep.trans k) t
  | .bad, h => h
theorem Post.mono {Q' : β → Hp → Prop} (i : ∀ v H', Q v H' → Q' v H') : ∀ {r : Res α}, Post mg τ H G E rep r Q → Post mg τ H G E rep r Q'
  | .ok d n, h => fun v H' G' s t p => i _ _ (h v H' G' s t p)
  | .err c n, h => h
  | .bad, h => h
/-- two in a row -/
theorem Post.bind {f : M α} {g : α → M δ} {n : Nat} (h : Post mg τ H G E rep2 ((f >>= g) n) Q2) :
    Post mg τ H G E rep (f n) fun x H1 => ∃ a n1 G1, Step τ H G H1 G1 ∧ Town τ n1 H1 ∧ rep G1 x a ∧ Post mg τ H1 G1 E rep2 (g a n1) Q2 := by
  have h' : Post mg τ H G E rep2 (M.bnd f g n) Q2 := h
  unfold M.bnd at h'
  cases e : f n with
  | ok a k =>
    rw [e] at h'
    exact fun v H' G' s t p => ⟨a, k, G', s, t, p, Post.shift s h'⟩
  | err c k =>
    rw [e] at h'
    exact h'
  | bad =>
    rw [e] at h'
    exact h'.elim
/-- at the value itself -/
theorem Post.ret {d : α} {n : Nat} {v : β} (h : Post mg τ H G E rep ((pure d : M α) n) Q) (l : Step τ H G H G) (t : Town τ n H) (p : rep G v d) : Q v H := h v H G l t p
end

/-! ### the readings that a meaning gives -/
section
variable {α β : Type} (K : PySem.W.Frag) (mg : Str → Option Value)
/-- generic: a value of whatever kind -/
def cG (rep : (τ : Option Addr) → Hp → β → α → Prop) (E : L2.St → XK) (f : Mi.Env → M α) : L2.St → Hp → (β → Hp → Prop) → Prop := fun σ H Q =>
  ∃ τ H0 G0 G ρ n, Rel K mg τ H0 G0 G H σ ρ n ∧ Post mg τ H G (E σ) (rep τ) (f ρ n) Q
abbrev cT (E : L2.St → XK) (f : Mi.Env → M D) : TE := cG K mg (Rep K mg) E f
abbrev cB (E : L2.St → XK) (f : Mi.Env → M Bool) : TT := cG K mg (fun _ _ b c => b = c) E f
abbrev cA (E : L2.St → XK) (f : Mi.Env → M (List D)) : TA := cG K mg (Reps K mg) E f
/-- a new list, not yet told of -/
def PostF (τ : Option Addr) (H G : Hp) (E : XK) (r : Res (List D)) (Q : VK) : Prop :=
  match r with
  | .ok ds n => ∀ p vs H' G', Step τ H G H' G' → Town τ n H' → H p = none → H' p = some (.lst vs) → G' p = none → Reps K mg τ G' vs ds → Q (.ref p) H'
  | .err c n => ∀ C H', mg c = some (.ref C) → Keep τ H H' → Town τ n H' → E (.ref C) none H'
  | .bad => False
def cF (E : L2.St → XK) (f : Mi.Env → M (List D)) : TE := fun σ H Q => ∃ τ H0 G0 G ρ n, Rel K mg τ H0 G0 G H σ ρ n ∧ PostF K mg τ H G (E σ) (f ρ n) Q
end
section
variable {X : Cx} {e : Expr} {t t' : TE} {u u' : TT} {a a' : TA}
theorem pe_mono (h : PE X e t) (i : ∀ σ H Q, t' σ H Q → t σ H Q) : PE X e t' := ⟨fun pins s σ H Q I q => h.run pins s σ H Q I (i σ H Q q)⟩
theorem pt_mono (h : PT X e u) (i : ∀ σ H Q, u' σ H Q → u σ H Q) : PT X e u' := ⟨fun pins s σ H Q I q => h.run pins s σ H Q I (i σ H Q q)⟩
theorem pw_mono (h : PW X e u) (i : ∀ σ H Q, u' σ H Q → u σ H Q) : PW X e u' := ⟨fun wh pins s σ H Q I q => h.run wh pins s σ H Q I (i σ H Q q)⟩
theorem pa_mono {es : List Expr} (h : PA X es a) (i : ∀ σ H Q, a' σ H Q → a σ H Q) : PA X es a' := ⟨fun pos pins s σ H Q I q => h.run pos pins s σ H Q I (i σ H Q q)⟩
theorem ps_mono {st : Stmt} {t t' : TS} (h : PS X st t) (i : ∀ D σ H, t' D σ H → t D σ H) : PS X st t' := ⟨fun pins s σ H D I q => h.run pins s σ H D I (i D σ H q)⟩
theorem pss_mono {st : List Stmt} {t t' : TS} (h : PSs X st t) (i : ∀ D σ H, t' D σ H → t D σ H) : PSs X st t' := ⟨fun pins s σ H D I q => h.run pins s σ H D I (i D σ H q)⟩
end

/-! ### expressions -/
section
variable {X : Cx} {E : L2.St → XK} {e a b c : Expr} {pos : Pos} {fa fb fc : Mi.Env → M D}
def eVar (i : Nat) : Mi.Env → M D := fun ρ => match ρ.at i with
  | .fz d => pure d
  | .sh ds => pure (.list ds)
  | _ => bad
def eC (d : D) : Mi.Env → M D := fun _ => pure d
theorem sl_var {K : PySem.W.Frag} {mg : Str → Option Value} {τ : Option Addr} {H0 G0 G H : Hp} {σ : L2.St} {ρ : Mi.Env} {n : Nat} {i : Nat} {Ex : XK} {Q : VK} (R : Rel K mg τ H0 G0 G H σ ρ n) (h : Post mg τ H G Ex (Rep K mg τ) (eVar i ρ n) Q) : ∃ v, σ[i]? = some (some v) ∧ Q v H := by
  have ok := R.slots i
  unfold eVar at h
  cases q : ρ.at i with
  | fz d =>
    rw [q] at ok h
    obtain ⟨v, e, r⟩ := ok
    exact ⟨v, e, Post.ret h R.refl R.town r⟩
  | sh ds =>
    rw [q] at ok h
    obtain ⟨a, vs, e, g, r, _⟩ := ok
    exact ⟨_, e, Post.ret h R.refl R.town (.lst g r)⟩
  | _ =>
    rw [q] at h
    exact h.elim
theorem x_var (i : Nat) {x : Str} (hN : X.N[i]? = some x := by rfl) (hv : Vis X.env.scope x := by first | exact Or.inl rfl | exact Or.inr (Or.inl rfl) | exact Or.inr (Or.inr rfl)) (hd : (x == ("__debug__" : Str)) = false := by decide)
    (hcd : (x == ("__classdict__" : Str)) = false := by decide) : PE X (.Name x pos) (cT X.K X.mg E (eVar i)) :=
  pe_mono (pv i hN hv hd hcd) fun σ H Q ⟨τ, H0, G0, G, ρ, n, R, h⟩ => sl_var R h
theorem con_of {d : D} {v : V} (hr : ∀ τ G, Rep X.K X.mg τ G v d) (h : PE X e (tC v)) : PE X e (cT X.K X.mg E (eC d)) :=
  pe_mono h fun σ H Q ⟨τ, H0, G0, G, ρ, n, R, h⟩ => Post.ret h R.refl R.town (hr τ G)
theorem x_int {i : Int} {j : Nat} : PE X (.Constant (.int i) j pos) (cT X.K X.mg E (eC (.int i))) := con_of (fun _ _ => .int i) pe_int
theorem x_bl {b : Bool} {j : Nat} : PE X (.Constant (.bool b) j pos) (cT X.K X.mg E (eC (.bool b))) := con_of (fun _ _ => .bl b) pe_bl
theorem x_non {j : Nat} : PE X (.Constant .none j pos) (cT X.K X.mg E (eC .none)) := con_of (fun _ _ => .non) pe_non
theorem x_str {x : Str} {j : Nat} : PE X (.Constant (.str x) j pos) (cT X.K X.mg E (eC (.str x))) := con_of (fun _ _ => .str x) pe_str
/-- a constant of the module -/
theorem x_globI {x : Str} {i : Int} (hm : ∃ t, X.mg x = some (.int i t)) (hg : Gl X x := by rfl) (hd : (x == ("__debug__" : Str)) = false := by decide) : PE X (.Name x pos) (cT X.K X.mg E (eC (.int i))) := by
  obtain ⟨t, hm⟩ := hm
  exact con_of (fun _ _ => .int i) (pe_glob (v := .int i) hg hm ⟨t, rfl⟩ hd)
theorem x_globS {x z : Str} (hm : ∃ t, X.mg x = some (.str z t)) (hg : Gl X x := by rfl) (hd : (x == ("__debug__" : Str)) = false := by decide) : PE X (.Name x pos) (cT X.K X.mg E (eC (.str z))) := by
  obtain ⟨t, hm⟩ := hm
  exact con_of (fun _ _ => .str z) (pe_glob (v := .str z) hg hm ⟨t, rfl⟩ hd)

/-- an operation by values: the rule's reading r follows from the meaning g -/
def OpD (X : Cx) (r : R2) (g : D → D → M D) : Prop := ∀ (τ : Option Addr) (n : Nat) (H G : Hp) (x y : V) (dx dy : D) (E : XK) (Q : VK), Step τ H G H G → Town τ n H → Rep X.K X.mg τ G x dx → Rep X.K X.mg τ G y dy →
  Post X.mg τ H G E (Rep X.K X.mg τ) (g dx dy n) Q → r x y H Q
def e2 (g : D → D → M D) (fa fb : Mi.Env → M D) : Mi.Env → M D := fun ρ => do let x ← fa ρ; let y ← fb ρ; g x y
theorem op_step {r : R2} {g : D → D → M D} (hg : OpD X r g) {σ : L2.St} {H : Hp} {Q : VK} (h : cT X.K X.mg E (e2 g fa fb) σ H Q) :
    cT X.K X.mg E fa σ H fun x H1 => cT X.K X.mg E fb σ H1 fun y H2 => r x y H2 Q := by
  obtain ⟨τ, H0, G0, G, ρ, n, R, h⟩ := h
  refine ⟨τ, H0, G0, G, ρ, n, R, Post.mono (fun x H1 => ?_) (Post.bind (rep := Rep X.K X.mg τ) h)⟩
  rintro ⟨dx, n1, G1, st, tw, rx, h1⟩
  have R1 := R.next st tw
  refine ⟨τ, H0, G0, G1, ρ, n1, R1, Post.mono (fun y H2 => ?_) (Post.bind (rep := Rep X.K X.mg τ) h1)⟩
  rintro ⟨dy, n2, G2, st2, tw2, ry, h2⟩
  exact hg τ n2 H2 G2 x y dx dy (E σ) Q (R1.next st2 tw2).refl tw2 (rx.sub st2.sub) ry h2
theorem x_op {op : Operator} {r : R2} {g : D → D → M D} (ho : OpR X (binaryOp op) r) (hg : OpD X r g) (ha : PE X a (cT X.K X.mg E fa)) (hb : PE X b (cT X.K X.mg E fb)) : PE X (.BinOp a op b pos) (cT X.K X.mg E (e2 g fa fb)) :=
  pe_mono (pe_op ho ha hb) fun _ _ _ h => op_step hg h
theorem x_cmp {op : CmpOp} {r : R2} {g : D → D → M D} (ho : OpR X (compareOp op) r) (hg : OpD X r g) (ha : PE X a (cT X.K X.mg E fa)) (hb : PE X b (cT X.K X.mg E fb)) (hm : behindInMarks op b = false) :
    PE X (.Compare a [op] [b] pos) (cT X.K X.mg E (e2 g fa fb)) := pe_mono (pe_cmpR ho ha hb hm) fun _ _ _ h => op_step hg h
/-- a truth value -/
def asB : D → M Bool
  | .bool b => pure b
  | _ => bad
def tB (f : Mi.Env → M D) : Mi.Env → M Bool := fun ρ => do let x ← f ρ; asB x
theorem test_step {σ : L2.St} {H : Hp} {Q : Bool → Hp → Prop} (h : cB X.K X.mg E (tB fa) σ H Q) : cT X.K X.mg E fa σ H fun x H' => ∃ k, x = .bl k ∧ Q k H' := by
  obtain ⟨τ, H0, G0, G, ρ, n, R, h⟩ := h
  refine ⟨τ, H0, G0, G, ρ, n, R, Post.mono (fun x H1 => ?_) (Post.bind (rep := Rep X.K X.mg τ) h)⟩
  rintro ⟨dx, n1, G1, st, tw, rx, h1⟩
  cases rx with
  | bl k => exact ⟨k, rfl, Post.ret h1 (R.next st tw).refl tw rfl⟩
  | _ => exact h1.elim
theorem x_tcmp {op : CmpOp} {r : R2} {g : D → D → M D} (ho : OpR X (compareOp op) r) (hg : OpD X r g) (ha : PE X a (cT X.K X.mg E fa)) (hb : PE X b (cT X.K X.mg E fb)) (hm : behindInMarks op b = false) :
    PT X (.Compare a [op] [b] pos) (cB X.K X.mg E (tB (e2 g fa fb))) :=
  pt_mono (pt_cmpR (r := r) ho ha hb hm) fun σ H Q h => op_step hg (test_step h)
/-- an expression whose value is True or False -/
theorem x_tval (h : PE X e (cT X.K X.mg E fa)) (he : ∀ whole, isTrue e X.env whole = (do let v ← whole; standAt e.pos; holding [v] (truthy v)) := by intro _; rfl) : PT X e (cB X.K X.mg E (tB fa)) :=
  pt_mono (pt_val h he) fun _ _ _ h => test_step h
end
end Mi

end

section
set_option Elab.async false
set_option linter.all false
set_option maxRecDepth 100000
set_option maxHeartbeats 4000000
namespace Mi
open PySem PySem.Spec L2

/-! ### tools -/
section
variable {α β : Type} {mg : Str → Option Value} {τ : Option Addr} {H G : Hp} {E : XK} {rep : Hp → β → α → Prop} {Q : β → Hp → Prop}
theorem Post.need {b : Bool} {f : Unit → M α} {n : Nat} (h : Post mg τ H G E rep ((need b >>= f) n) Q) : b = true ∧ Post mg τ H G E rep (f () n) Q := by
  cases b with
  | false => exact (show False from h).elim
  | true => exact ⟨rfl, h⟩
end
section
variable {K : PySem.W.Frag} {mg : Str → Option Value} {τ : Option Addr} {H G : Hp} {E : XK} {Q : VK} {n : Nat} {vs : List V} {ds : List D}
theorem Post.newL (h : Post mg τ H G E (Rep K mg τ) ((pure (.list ds) : M D) n) Q) (st : Step τ H G H G) (tw : Town τ n H) (r : Reps K mg τ G vs ds) : ∀ p, H p = none → Q (.ref p) (upd H p (.lst vs)) := fun p hp =>
  have s := Step.fresh (o := .lst vs) st.le st.nt tw.ne hp
  h _ _ _ s (tw.upd hp) (.lst upd_same (r.sub s.sub))
theorem Post.newT (h : Post mg τ H G E (Rep K mg τ) ((pure (.tuple ds) : M D) n) Q) (st : Step τ H G H G) (tw : Town τ n H) (r : Reps K mg τ G vs ds) : ∀ p, H p = none → Q (.ref p) (upd H p (.tup vs)) := fun p hp =>
  have s := Step.fresh (o := .tup vs) st.le st.nt tw.ne hp
  h _ _ _ s (tw.upd hp) (.tup (.inl (.inl upd_same)) (r.sub s.sub))
end
section
variable {X : Cx} {pins : List (Addr × Obj)} {σ : L2.St} {H G : Hp} {s : Shared} {τ : Option Addr} {mg : Str → Option Value}
mutual
theorem Rep.reads (I : Inv X pins σ H s) (l : Le G H) : ∀ {v : V} {d : D} {u : Value}, Rep X.K mg τ G v d → d.plain = true → RelV v u → ∃ as, Reads s.heap u d as
  | _, _, _, .non, _, r => by
    cases r
    exact ⟨_, .none⟩
  | _, _, _, .bl b, _, r => by
    cases r
    exact ⟨_, .bool b⟩
  | _, _, _, .int i, _, r => by
    obtain ⟨t, rfl⟩ := r
    exact ⟨_, .int i t⟩
  | _, _, _, .str x, _, r => by
    obtain ⟨t, rfl⟩ := r
    exact ⟨_, .str x t⟩
  | _, _, _, .lst h q, p, r => by
    cases r
    obtain ⟨its, rv, ⟨o, n, ho, hc, _, hd⟩, _⟩ := I.list (.inl (.inl (l.list h)))
    obtain ⟨as, hr⟩ := Reps.reads I l q p rv
    exact ⟨_, .list ho hc hd hr⟩
  | _, _, _, .tup h q, p, r => by
    cases r
    obtain ⟨its, rv, ⟨o, ho, hc, n, hd⟩, _⟩ := I.tuple (sqt_le l h)
    obtain ⟨as, hr⟩ := Reps.reads I l q p rv
    exact ⟨_, .tuple ho hc hd hr⟩
  | _, _, _, .dk _ _, p, _ => by cases p
  | _, _, _, .dt _ _, p, _ => by cases p
  | _, _, _, .town _, p, _ => by cases p
  | _, _, _, .scr _, p, _ => by cases p
  | _, _, _, .exc _ _, p, _ => by cases p
theorem Reps.reads (I : Inv X pins σ H s) (l : Le G H) : ∀ {vs : List V} {ds : List D} {us : List Value}, Reps X.K mg τ G vs ds → PyData.plainAll ds = true → Vals vs us → ∃ as, ReadsAll s.heap us ds as
  | _, _, _, .nil, _, r => by
    cases r
    exact ⟨_, .nil⟩
  | _, _, _, .cons h q, p, r => by
    cases r with
    | cons r1 r2 =>
      have p' : (PyData.plain _ && PyData.plainAll _) = true := p
      rw [Bool.and_eq_true] at p'
      obtain ⟨as, q1⟩ := Rep.reads I l h p'.1 r1
      obtain ⟨bs, q2⟩ := Reps.reads I l q p'.2 r2
      exact ⟨_, .cons q1 q2⟩
end
end

/-! ### operators -/
section
variable {X : Cx}
def dAdd : D → D → M D
  | .int i, .int j => pure (.int (i + j))
  | .str x, .str y => do need (decide (x.length + y.length ≤ sizeLine)); pure (.str (x ++ y))
  | .list xs, .list ys => do need (decide (xs.length + ys.length ≤ sizeLine)); pure (.list (xs ++ ys))
  | .tuple xs, .tuple ys => do need (decide (xs.length + ys.length ≤ sizeLine)); pure (.tuple (xs ++ ys))
  | _, _ => bad
def rAddA (K : PySem.W.Frag) : R2 := fun x y H Q => (∃ i j, x = .int i ∧ y = .int j ∧ Q (.int (i + j)) H) ∨ (∃ i j, x = .str i ∧ y = .str j ∧ i.length + j.length ≤ sizeLine ∧ Q (.str (i ++ j)) H) ∨ rCat x y H Q ∨ rCatA K x y H Q
theorem op_addA : OpR X (binaryOp .Add) (rAddA X.K) := OpR.or op_add (OpR.or op_add_str (OpR.or op_cat op_catA))
theorem od_add : OpD X (rAddA X.K) dAdd := by
  intro τ n H G x y dx dy E Q st tw rx ry h
  cases rx with
  | int i =>
    cases ry with
    | int j => exact .inl ⟨i, j, rfl, rfl, Post.ret h st tw (.int _)⟩
    | _ => exact (show False from h).elim
  | str i =>
    cases ry with
    | str j =>
      obtain ⟨hz, h⟩ := Post.need h
      exact .inr (.inl ⟨i, j, rfl, rfl, of_decide_eq_true hz, Post.ret h st tw (.str _)⟩)
    | _ => exact (show False from h).elim
  | lst ha qa =>
    cases ry with
    | lst hb qb =>
      obtain ⟨hz, h⟩ := Post.need h
      refine .inr (.inr (.inl ⟨_, _, _, _, rfl, rfl, st.le.list ha, st.le.list hb, ?_, Post.newL h st tw (qa.append qb)⟩))
      rw [qa.length, qb.length]
      exact of_decide_eq_true hz
    | _ => exact (show False from h).elim
  | tup ha qa =>
    cases ry with
    | tup hb qb =>
      obtain ⟨hz, h⟩ := Post.need h
      refine .inr (.inr (.inr ⟨_, _, _, _, rfl, rfl, sqt_le st.le ha, sqt_le st.le hb, ?_, fun e => ?_, fun _ e => ?_, fun _ _ => Post.newT h st tw (qa.append qb)⟩))
      · rw [qa.length, qb.length]
        exact of_decide_eq_true hz
      · subst e
        cases qa
        exact Post.ret h st tw (.tup hb qb)
      · subst e
        cases qb
        rw [List.append_nil] at h
        exact Post.ret h st tw (.tup ha qa)
    | _ => exact (show False from h).elim
  | _ => exact (show False from h).elim
theorem x_add {E : L2.St → XK} {a b : Expr} {pos : Pos} {fa fb : Mi.Env → M D} (ha : PE X a (cT X.K X.mg E fa)) (hb : PE X b (cT X.K X.mg E fb)) : PE X (.BinOp a .Add b pos) (cT X.K X.mg E (e2 dAdd fa fb)) := x_op op_addA od_add ha hb

/-- two ints -/
def dI (g : Int → Int → M D) : D → D → M D
  | .int i, .int j => g i j
  | _, _ => bad
theorem od_int {g : Int → Int → M D} {C : Int → Int → Prop} {f : Int → Int → V} (hg : ∀ (τ : Option Addr) (n : Nat) (H G : Hp) (i j : Int) (E : XK) (Q : VK), Step τ H G H G → Town τ n H → Post X.mg τ H G E (Rep X.K X.mg τ) (g i j n) Q → C i j ∧ Q (f i j) H) :
    OpD X (rI C f) (dI g) := by
  intro τ n H G x y dx dy E Q st tw rx ry h
  cases rx with
  | int i =>
    cases ry with
    | int j => exact ⟨i, j, rfl, rfl, hg τ n H G i j E Q st tw h⟩
    | _ => exact (show False from h).elim
  | _ => exact (show False from h).elim
theorem od_int0 {g : Int → Int → M D} {f : Int → Int → V} (hg : ∀ (τ : Option Addr) (n : Nat) (H G : Hp) (i j : Int) (E : XK) (Q : VK), Step τ H G H G → Town τ n H → Post X.mg τ H G E (Rep X.K X.mg τ) (g i j n) Q → Q (f i j) H) :
    OpD X (rI0 f) (dI g) := by
  intro τ n H G x y dx dy E Q st tw rx ry h
  cases rx with
  | int i =>
    cases ry with
    | int j => exact ⟨i, j, rfl, rfl, hg τ n H G i j E Q st tw h⟩
    | _ => exact (show False from h).elim
  | _ => exact (show False from h).elim
def dSub : D → D → M D := dI fun i j => pure (.int (i - j))
theorem od_sub : OpD X (rI0 fun i j => .int (i - j)) dSub := od_int0 fun τ n H G i j E Q st tw h => Post.ret h st tw (.int _)
def dFdiv : D → D → M D := dI fun i j => do need (decide (0 < j ∧ j < 1073741824)); pure (.int (i / j))
theorem od_fdiv : OpD X (rI CDiv fun i j => .int (i / j)) dFdiv := od_int fun τ n H G i j E Q st tw h => by
  obtain ⟨hz, h⟩ := Post.need h
  have z : 0 < j ∧ j < 1073741824 := of_decide_eq_true hz
  exact ⟨z, Post.ret h st tw (.int _)⟩
def dMod : D → D → M D := dI fun i j => do need (decide (0 < j)); pure (.int (i % j))
theorem od_mod : OpD X (rI (fun _ j => 0 < j) fun i j => .int (i % j)) dMod := od_int fun τ n H G i j E Q st tw h => by
  obtain ⟨hz, h⟩ := Post.need h
  exact ⟨of_decide_eq_true hz, Post.ret h st tw (.int _)⟩
def dPow : D → D → M D := dI fun i j => do need (decide (0 ≤ j ∧ j ≤ 1000000 ∧ i.natAbs < 2 ^ 64)); pure (.int (i ^ j.toNat))
theorem od_pow : OpD X (rI CPow fun i j => .int (i ^ j.toNat)) dPow := od_int fun τ n H G i j E Q st tw h => by
  obtain ⟨hz, h⟩ := Post.need h
  have z : 0 ≤ j ∧ j ≤ 1000000 ∧ i.natAbs < 2 ^ 64 := of_decide_eq_true hz
  exact ⟨z, Post.ret h st tw (.int _)⟩
def dMulI : D → D → M D := dI fun i j => do need (decide ((-(2 ^ 64) < i ∧ i < 2 ^ 64) ∨ (-(2 ^ 64) < j ∧ j < 2 ^ 64))); pure (.int (i * j))
theorem od_mulI : OpD X (rI CMul fun i j => .int (i * j)) dMulI := od_int fun τ n H G i j E Q st tw h => by
  obtain ⟨hz, h⟩ := Post.need h
  have z : (-(2 ^ 64) < i ∧ i < 2 ^ 64) ∨ (-(2 ^ 64) < j ∧ j < 2 ^ 64) := of_decide_eq_true hz
  exact ⟨z, Post.ret h st tw (.int _)⟩
section
variable {E : L2.St → XK} {a b c : Expr} {pos : Pos} {fa fb fc : Mi.Env → M D}
theorem x_sub (ha : PE X a (cT X.K X.mg E fa)) (hb : PE X b (cT X.K X.mg E fb)) : PE X (.BinOp a .Sub b pos) (cT X.K X.mg E (e2 dSub fa fb)) := x_op op_sub od_sub ha hb
theorem x_fdiv (ha : PE X a (cT X.K X.mg E fa)) (hb : PE X b (cT X.K X.mg E fb)) : PE X (.BinOp a .FloorDiv b pos) (cT X.K X.mg E (e2 dFdiv fa fb)) := x_op op_fdiv od_fdiv ha hb
theorem x_mod (ha : PE X a (cT X.K X.mg E fa)) (hb : PE X b (cT X.K X.mg E fb)) : PE X (.BinOp a .Mod b pos) (cT X.K X.mg E (e2 dMod fa fb)) := x_op op_mod od_mod ha hb
theorem x_pow (ha : PE X a (cT X.K X.mg E fa)) (hb : PE X b (cT X.K X.mg E fb)) : PE X (.BinOp a .Pow b pos) (cT X.K X.mg E (e2 dPow fa fb)) := x_op op_pow od_pow ha hb
theorem x_mulI (ha : PE X a (cT X.K X.mg E fa)) (hb : PE X b (cT X.K X.mg E fb)) : PE X (.BinOp a .Mult b pos) (cT X.K X.mg E (e2 dMulI fa fb)) := x_op op_mul od_mulI ha hb
end

/-! ### comparisons -/
/-- data that are compared: no dict within, not too deep -/
def okD (d : D) : Bool := d.plain && decide (d.depth ≤ 60)
theorem okD_of {d : D} (h : okD d = true) : d.plain = true ∧ d.depth ≤ 60 := by
  unfold okD at h
  rw [Bool.and_eq_true] at h
  exact ⟨h.1, of_decide_eq_true h.2⟩
def dEq (x y : D) : M D := do need (okD x && okD y); pure (.bool (PyData.eqv x y))
def dNe (x y : D) : M D := do need (okD x && okD y); pure (.bool (!PyData.eqv x y))
def rEqP (X : Cx) (neg : Bool) : R2 := fun x y H Q => ∃ τ G dx dy, Le G H ∧ Rep X.K X.mg τ G x dx ∧ Rep X.K X.mg τ G y dy ∧ okD dx = true ∧ okD dy = true ∧ Q (.bl (if neg then !PyData.eqv dx dy else PyData.eqv dx dy)) H
theorem op_eqP (hu : X.A.units + 64 < cLine) : OpR X (compareOp .Eq) (rEqP X false) := by
  rintro pins s σ H x y v u Q I rx ry ⟨τ, G, dx, dy, l, hx, hy, ox, oy, q⟩
  obtain ⟨as, r1⟩ := hx.reads I l (okD_of ox).1 rx
  obtain ⟨bs, r2⟩ := hy.reads I l (okD_of oy).1 ry
  have := (okD_of ox).2
  exact PySem.SeqAt.eq_plain r1 r2 (okD_of ox).1 (okD_of oy).1 (by omega) ⟨.bl _, H, I, rfl, q⟩
theorem op_neP (hu : X.A.units + 64 < cLine) : OpR X (compareOp .NotEq) (rEqP X true) := by
  rintro pins s σ H x y v u Q I rx ry ⟨τ, G, dx, dy, l, hx, hy, ox, oy, q⟩
  obtain ⟨as, r1⟩ := hx.reads I l (okD_of ox).1 rx
  obtain ⟨bs, r2⟩ := hy.reads I l (okD_of oy).1 ry
  have := (okD_of ox).2
  exact PySem.SeqAt.ne_plain r1 r2 (okD_of ox).1 (okD_of oy).1 (by omega) ⟨.bl _, H, I, rfl, q⟩
theorem od_eq : OpD X (rEqP X false) dEq := by
  intro τ n H G x y dx dy E Q st tw rx ry h
  obtain ⟨hz, h⟩ := Post.need h
  rw [Bool.and_eq_true] at hz
  exact ⟨τ, G, dx, dy, st.le, rx, ry, hz.1, hz.2, Post.ret h st tw (.bl _)⟩
theorem od_ne : OpD X (rEqP X true) dNe := by
  intro τ n H G x y dx dy E Q st tw rx ry h
  obtain ⟨hz, h⟩ := Post.need h
  rw [Bool.and_eq_true] at hz
  exact ⟨τ, G, dx, dy, st.le, rx, ry, hz.1, hz.2, Post.ret h st tw (.bl _)⟩
def dLt : D → D → M D
  | .int i, .int j => pure (.bool (decide (i < j)))
  | .str i, .str j => pure (.bool (decide (i.cps.toList < j.cps.toList)))
  | _, _ => bad
theorem od_lt : OpD X (fun x y H Q => (∃ i j, x = .int i ∧ y = .int j ∧ Q (.bl (decide (i < j))) H) ∨ (∃ i j, x = .str i ∧ y = .str j ∧ Q (.bl (decide (i.cps.toList < j.cps.toList))) H)) dLt := by
  intro τ n H G x y dx dy E Q st tw rx ry h
  cases rx with
  | int i =>
    cases ry with
    | int j => exact .inl ⟨i, j, rfl, rfl, Post.ret h st tw (.bl _)⟩
    | _ => exact (show False from h).elim
  | str i =>
    cases ry with
    | str j => exact .inr ⟨i, j, rfl, rfl, Post.ret h st tw (.bl _)⟩
    | _ => exact (show False from h).elim
  | _ => exact (show False from h).elim
def dLe : D → D → M D := dI fun i j => pure (.bool (decide (i ≤ j)))
theorem od_le : OpD X (rI0 fun i j => .bl (decide (i ≤ j))) dLe := od_int0 fun τ n H G i j E Q st tw h => Post.ret h st tw (.bl _)
def dGt : D → D → M D := dI fun i j => pure (.bool (decide (j < i)))
theorem od_gt : OpD X (rI0 fun i j => .bl (decide (j < i))) dGt := od_int0 fun τ n H G i j E Q st tw h => Post.ret h st tw (.bl _)
def dGe : D → D → M D := dI fun i j => pure (.bool (decide (j ≤ i)))
theorem od_ge : OpD X (rI0 fun i j => .bl (decide (j ≤ i))) dGe := od_int0 fun τ n H G i j E Q st tw h => Post.ret h st tw (.bl _)
def isNone : D → Bool
  | .none => true
  | _ => false
theorem isNone_rep {τ : Option Addr} {G : Hp} {x : V} {d : D} (r : Rep X.K X.mg τ G x d) : decide (x = .non) = isNone d := by
  cases r <;> first | rfl | (apply decide_eq_false; intro z; cases z)
def dIs (x y : D) : M D := do need (isNone y); pure (.bool (isNone x))
def dIsNot (x y : D) : M D := do need (isNone y); pure (.bool (!isNone x))
theorem od_is : OpD X (fun x y H Q => y = .non ∧ Q (.bl (decide (x = .non))) H) dIs := by
  intro τ n H G x y dx dy E Q st tw rx ry h
  obtain ⟨hz, h⟩ := Post.need h
  refine ⟨?_, ?_⟩
  · rw [← isNone_rep ry] at hz
    exact of_decide_eq_true hz
  · rw [isNone_rep rx]
    exact Post.ret h st tw (.bl _)
theorem od_isNot : OpD X (fun x y H Q => y = .non ∧ Q (.bl (!decide (x = .non))) H) dIsNot := by
  intro τ n H G x y dx dy E Q st tw rx ry h
  obtain ⟨hz, h⟩ := Post.need h
  refine ⟨?_, ?_⟩
  · rw [← isNone_rep ry] at hz
    exact of_decide_eq_true hz
  · rw [isNone_rep rx]
    exact Post.ret h st tw (.bl _)
/-- the one text within the other -/
def inStr (i j : Str) : Bool := !(Builtin.Str.occurrences j i 0 j.length 1).isEmpty
def inD (x : D) (ys : List D) : Bool := ys.any fun y => PyData.eqv y x
def dIn (neg : Bool) : D → D → M D
  | x, .list ys => do need (okD x && okD (.list ys)); pure (.bool (if neg then !inD x ys else inD x ys))
  | x, .tuple ys => do need (okD x && okD (.tuple ys)); pure (.bool (if neg then !inD x ys else inD x ys))
  | .str i, .str j => pure (.bool (if neg then !inStr i j else inStr i j))
  | _, _ => bad
def rInP (X : Cx) (neg : Bool) : R2 := fun x y H Q => (∃ i j, x = .str i ∧ y = .str j ∧ Q (.bl (if neg then !inStr i j else inStr i j)) H) ∨
  (∃ τ G dx ys, Le G H ∧ Rep X.K X.mg τ G x dx ∧ (Rep X.K X.mg τ G y (.list ys) ∨ Rep X.K X.mg τ G y (.tuple ys)) ∧ okD dx = true ∧ okD (.list ys) = true ∧ Q (.bl (if neg then !inD dx ys else inD dx ys)) H)
theorem op_inP (hu : X.A.units + 64 < cLine) : OpR X (compareOp .In) (rInP X false) := by
  refine OpR.or op_in_str ?_
  rintro pins s σ H x y v u Q I rx ry ⟨τ, G, dx, ys, l, hx, hy, ox, oy, q⟩
  obtain ⟨as, r1⟩ := hx.reads I l (okD_of ox).1 rx
  have d1 := (okD_of ox).2
  have d2 : PyData.depthAll ys + 1 ≤ 60 := (okD_of oy).2
  have p2 : PyData.plainAll ys = true := (okD_of oy).1
  rcases hy with hy | hy
  · obtain ⟨bs, r2⟩ := hy.reads I l p2 ry
    exact PySem.SeqAt.in_list_data r2 r1 p2 (okD_of ox).1 (by omega) ⟨.bl _, H, I, rfl, q⟩
  · obtain ⟨bs, r2⟩ := hy.reads I l p2 ry
    exact PySem.SeqAt.in_tuple_data r2 r1 p2 (okD_of ox).1 (by omega) ⟨.bl _, H, I, rfl, q⟩
theorem op_notInP (hu : X.A.units + 64 < cLine) : OpR X (compareOp .NotIn) (rInP X true) := by
  refine OpR.or op_notin_str ?_
  rintro pins s σ H x y v u Q I rx ry ⟨τ, G, dx, ys, l, hx, hy, ox, oy, q⟩
  obtain ⟨as, r1⟩ := hx.reads I l (okD_of ox).1 rx
  have d1 := (okD_of ox).2
  have d2 : PyData.depthAll ys + 1 ≤ 60 := (okD_of oy).2
  have p2 : PyData.plainAll ys = true := (okD_of oy).1
  rcases hy with hy | hy
  · obtain ⟨bs, r2⟩ := hy.reads I l p2 ry
    exact PySem.SeqAt.notIn_list_data r2 r1 p2 (okD_of ox).1 (by omega) ⟨.bl _, H, I, rfl, q⟩
  · obtain ⟨bs, r2⟩ := hy.reads I l p2 ry
    exact PySem.SeqAt.notIn_tuple_data r2 r1 p2 (okD_of ox).1 (by omega) ⟨.bl _, H, I, rfl, q⟩
theorem od_in (neg : Bool) : OpD X (rInP X neg) (dIn neg) := by
  intro τ n H G x y dx dy E Q st tw rx ry h
  have core : ∀ ys, (Rep X.K X.mg τ G y (.list ys) ∨ Rep X.K X.mg τ G y (.tuple ys)) → Post X.mg τ H G E (Rep X.K X.mg τ) ((do need (okD dx && okD (.list ys)); pure (.bool (if neg then !inD dx ys else inD dx ys)) : M D) n) Q → rInP X neg x y H Q := fun ys hy h => by
    obtain ⟨hz, h⟩ := Post.need h
    rw [Bool.and_eq_true] at hz
    exact .inr ⟨τ, G, dx, ys, st.le, rx, hy, hz.1, hz.2, Post.ret h st tw (.bl _)⟩
  cases ry with
  | lst hb qb =>
    cases dx <;> exact core _ (.inl (.lst hb qb)) h
  | tup hb qb =>
    cases dx <;> exact core _ (.inr (.tup hb qb)) h
  | str j =>
    cases rx with
    | str i => exact .inl ⟨i, j, rfl, rfl, Post.ret h st tw (.bl _)⟩
    | _ => exact (show False from h).elim
  | _ => cases rx <;> exact (show False from h).elim
end
end Mi

end

section
set_option Elab.async false
set_option linter.all false
set_option maxRecDepth 100000
set_option maxHeartbeats 4000000
namespace Mi
open PySem PySem.Spec L2

section
variable {X : Cx} {E : L2.St → XK} {a b c e : Expr} {pos : Pos} {fa fb fc f : Mi.Env → M D} {es : List Expr} {fs : Mi.Env → M (List D)}

/-! ### comparisons, as values and as tests -/
theorem x_eq (hu : X.A.units + 64 < cLine) (ha : PE X a (cT X.K X.mg E fa)) (hb : PE X b (cT X.K X.mg E fb)) : PE X (.Compare a [.Eq] [b] pos) (cT X.K X.mg E (e2 dEq fa fb)) := x_cmp (op_eqP hu) od_eq ha hb (nomark _)
theorem x_ne (hu : X.A.units + 64 < cLine) (ha : PE X a (cT X.K X.mg E fa)) (hb : PE X b (cT X.K X.mg E fb)) : PE X (.Compare a [.NotEq] [b] pos) (cT X.K X.mg E (e2 dNe fa fb)) := x_cmp (op_neP hu) od_ne ha hb (nomark _)
theorem x_lt (ha : PE X a (cT X.K X.mg E fa)) (hb : PE X b (cT X.K X.mg E fb)) : PE X (.Compare a [.Lt] [b] pos) (cT X.K X.mg E (e2 dLt fa fb)) := x_cmp (OpR.or op_lt op_lt_str) od_lt ha hb (nomark _)
theorem x_le (ha : PE X a (cT X.K X.mg E fa)) (hb : PE X b (cT X.K X.mg E fb)) : PE X (.Compare a [.LtE] [b] pos) (cT X.K X.mg E (e2 dLe fa fb)) := x_cmp op_le od_le ha hb (nomark _)
theorem x_gt (ha : PE X a (cT X.K X.mg E fa)) (hb : PE X b (cT X.K X.mg E fb)) : PE X (.Compare a [.Gt] [b] pos) (cT X.K X.mg E (e2 dGt fa fb)) := x_cmp op_gt od_gt ha hb (nomark _)
theorem x_ge (ha : PE X a (cT X.K X.mg E fa)) (hb : PE X b (cT X.K X.mg E fb)) : PE X (.Compare a [.GtE] [b] pos) (cT X.K X.mg E (e2 dGe fa fb)) := x_cmp op_ge od_ge ha hb (nomark _)
theorem x_is (ha : PE X a (cT X.K X.mg E fa)) (hb : PE X b (cT X.K X.mg E fb)) : PE X (.Compare a [.Is] [b] pos) (cT X.K X.mg E (e2 dIs fa fb)) := x_cmp op_isN od_is ha hb (nomark _)
theorem x_isNot (ha : PE X a (cT X.K X.mg E fa)) (hb : PE X b (cT X.K X.mg E fb)) : PE X (.Compare a [.IsNot] [b] pos) (cT X.K X.mg E (e2 dIsNot fa fb)) := x_cmp op_notN od_isNot ha hb (nomark _)
theorem x_in (hu : X.A.units + 64 < cLine) (ha : PE X a (cT X.K X.mg E fa)) (hb : PE X b (cT X.K X.mg E fb)) (hm : behindInMarks .In b = false := by rfl) : PE X (.Compare a [.In] [b] pos) (cT X.K X.mg E (e2 (dIn false) fa fb)) := x_cmp (op_inP hu) (od_in false) ha hb hm
theorem x_notIn (hu : X.A.units + 64 < cLine) (ha : PE X a (cT X.K X.mg E fa)) (hb : PE X b (cT X.K X.mg E fb)) (hm : behindInMarks .NotIn b = false := by rfl) : PE X (.Compare a [.NotIn] [b] pos) (cT X.K X.mg E (e2 (dIn true) fa fb)) := x_cmp (op_notInP hu) (od_in true) ha hb hm
theorem t_eq (hu : X.A.units + 64 < cLine) (ha : PE X a (cT X.K X.mg E fa)) (hb : PE X b (cT X.K X.mg E fb)) : PT X (.Compare a [.Eq] [b] pos) (cB X.K X.mg E (tB (e2 dEq fa fb))) := x_tcmp (op_eqP hu) od_eq ha hb (nomark _)
theorem t_ne (hu : X.A.units + 64 < cLine) (ha : PE X a (cT X.K X.mg E fa)) (hb : PE X b (cT X.K X.mg E fb)) : PT X (.Compare a [.NotEq] [b] pos) (cB X.K X.mg E (tB (e2 dNe fa fb))) := x_tcmp (op_neP hu) od_ne ha hb (nomark _)
theorem t_lt (ha : PE X a (cT X.K X.mg E fa)) (hb : PE X b (cT X.K X.mg E fb)) : PT X (.Compare a [.Lt] [b] pos) (cB X.K X.mg E (tB (e2 dLt fa fb))) := x_tcmp (OpR.or op_lt op_lt_str) od_lt ha hb (nomark _)
theorem t_le (ha : PE X a (cT X.K X.mg E fa)) (hb : PE X b (cT X.K X.mg E fb)) : PT X (.Compare a [.LtE] [b] pos) (cB X.K X.mg E (tB (e2 dLe fa fb))) := x_tcmp op_le od_le ha hb (nomark _)
theorem t_gt (ha : PE X a (cT X.K X.mg E fa)) (hb : PE X b (cT X.K X.mg E fb)) : PT X (.Compare a [.Gt] [b] pos) (cB X.K X.mg E (tB (e2 dGt fa fb))) := x_tcmp op_gt od_gt ha hb (nomark _)
theorem t_ge (ha : PE X a (cT X.K X.mg E fa)) (hb : PE X b (cT X.K X.mg E fb)) : PT X (.Compare a [.GtE] [b] pos) (cB X.K X.mg E (tB (e2 dGe fa fb))) := x_tcmp op_ge od_ge ha hb (nomark _)
theorem t_is (ha : PE X a (cT X.K X.mg E fa)) (hb : PE X b (cT X.K X.mg E fb)) : PT X (.Compare a [.Is] [b] pos) (cB X.K X.mg E (tB (e2 dIs fa fb))) := x_tcmp op_isN od_is ha hb (nomark _)
theorem t_isNot (ha : PE X a (cT X.K X.mg E fa)) (hb : PE X b (cT X.K X.mg E fb)) : PT X (.Compare a [.IsNot] [b] pos) (cB X.K X.mg E (tB (e2 dIsNot fa fb))) := x_tcmp op_notN od_isNot ha hb (nomark _)
theorem t_in (hu : X.A.units + 64 < cLine) (ha : PE X a (cT X.K X.mg E fa)) (hb : PE X b (cT X.K X.mg E fb)) (hm : behindInMarks .In b = false := by rfl) : PT X (.Compare a [.In] [b] pos) (cB X.K X.mg E (tB (e2 (dIn false) fa fb))) := x_tcmp (op_inP hu) (od_in false) ha hb hm
theorem t_notIn (hu : X.A.units + 64 < cLine) (ha : PE X a (cT X.K X.mg E fa)) (hb : PE X b (cT X.K X.mg E fb)) (hm : behindInMarks .NotIn b = false := by rfl) : PT X (.Compare a [.NotIn] [b] pos) (cB X.K X.mg E (tB (e2 (dIn true) fa fb))) := x_tcmp (op_notInP hu) (od_in true) ha hb hm

/-- a op1 b op2 c -/
def e3 (g g' : D → D → M D) (fa fb fc : Mi.Env → M D) : Mi.Env → M D := fun ρ => do
  let x ← fa ρ
  let y ← fb ρ
  let r ← g x y
  let k ← asB r
  if k = true then do
    let z ← fc ρ
    g' y z
  else pure (.bool false)
theorem chain_step {r r' : R2} {g g' : D → D → M D} (hg : OpD X r g) (hg' : OpD X r' g') {σ : L2.St} {H : Hp} {Q : VK} (h : cT X.K X.mg E (e3 g g' fa fb fc) σ H Q) :
    tChain r r' (cT X.K X.mg E fa) (cT X.K X.mg E fb) (cT X.K X.mg E fc) σ H Q := by
  obtain ⟨τ, H0, G0, G, ρ, n, R, h⟩ := h
  refine ⟨τ, H0, G0, G, ρ, n, R, Post.mono (fun x H1 => ?_) (Post.bind (rep := Rep X.K X.mg τ) h)⟩
  rintro ⟨dx, n1, G1, st, tw, rx, h1⟩
  have R1 := R.next st tw
  refine ⟨τ, H0, G0, G1, ρ, n1, R1, Post.mono (fun y H2 => ?_) (Post.bind (rep := Rep X.K X.mg τ) h1)⟩
  rintro ⟨dy, n2, G2, st2, tw2, ry, h2⟩
  have R2 := R1.next st2 tw2
  refine hg τ n2 H2 G2 x y dx dy (E σ) _ R2.refl tw2 (rx.sub st2.sub) ry (Post.mono (fun z H3 => ?_) (Post.bind (rep := Rep X.K X.mg τ) h2))
  rintro ⟨dz, n3, G3, st3, tw3, rz, h3⟩
  have R3 := R2.next st3 tw3
  cases rz with
  | bl k =>
    refine ⟨k, rfl, ?_⟩
    cases k with
    | false =>
      rw [if_neg Bool.false_ne_true]
      exact Post.ret h3 R3.refl tw3 (.bl _)
    | true =>
      rw [if_pos rfl]
      refine ⟨τ, H0, G0, G3, ρ, n3, R3, Post.mono (fun w H4 => ?_) (Post.bind (rep := Rep X.K X.mg τ) h3)⟩
      rintro ⟨dw, n4, G4, st4, tw4, rw', h4⟩
      exact hg' τ n4 H4 G4 y w dy dw (E σ) Q (R3.next st4 tw4).refl tw4 ((ry.sub st3.sub).sub st4.sub) rw' h4
  | _ => exact (show False from h3).elim
theorem x_chain {op op' : CmpOp} {r r' : R2} {g g' : D → D → M D} (ho : OpR X (compareOp op) r) (ho' : OpR X (compareOp op') r') (hg : OpD X r g) (hg' : OpD X r' g') (ha : PE X a (cT X.K X.mg E fa)) (hb : PE X b (cT X.K X.mg E fb)) (hc : PE X c (cT X.K X.mg E fc))
    (hm : lastMarks [op, op'] [b, c] = false := by with_unfolding_all rfl) : PE X (.Compare a [op, op'] [b, c] pos) (cT X.K X.mg E (e3 g g' fa fb fc)) := pe_mono (pe_chain ho ho' ha hb hc hm) fun _ _ _ h => chain_step hg hg' h
theorem t_chain {op op' : CmpOp} {r r' : R2} {g g' : D → D → M D} (ho : OpR X (compareOp op) r) (ho' : OpR X (compareOp op') r') (hg : OpD X r g) (hg' : OpD X r' g') (ha : PE X a (cT X.K X.mg E fa)) (hb : PE X b (cT X.K X.mg E fb)) (hc : PE X c (cT X.K X.mg E fc))
    (hm : lastMarks [op, op'] [b, c] = false := by with_unfolding_all rfl) : PT X (.Compare a [op, op'] [b, c] pos) (cB X.K X.mg E (tB (e3 g g' fa fb fc))) :=
  pt_mono (pt_chain (r := r) (r' := r') ho ho' ha hb hc hm) fun _ _ _ h => chain_step hg hg' (test_step h)
/-- 0 <= a < b and its kin -/
theorem x_leLt (ha : PE X a (cT X.K X.mg E fa)) (hb : PE X b (cT X.K X.mg E fb)) (hc : PE X c (cT X.K X.mg E fc)) (hm : lastMarks [.LtE, .Lt] [b, c] = false := by with_unfolding_all rfl) : PE X (.Compare a [.LtE, .Lt] [b, c] pos) (cT X.K X.mg E (e3 dLe dLt fa fb fc)) := x_chain op_le (OpR.or op_lt op_lt_str) od_le od_lt ha hb hc hm
theorem x_leLe (ha : PE X a (cT X.K X.mg E fa)) (hb : PE X b (cT X.K X.mg E fb)) (hc : PE X c (cT X.K X.mg E fc)) (hm : lastMarks [.LtE, .LtE] [b, c] = false := by with_unfolding_all rfl) : PE X (.Compare a [.LtE, .LtE] [b, c] pos) (cT X.K X.mg E (e3 dLe dLe fa fb fc)) := x_chain op_le op_le od_le od_le ha hb hc hm
theorem t_leLt (ha : PE X a (cT X.K X.mg E fa)) (hb : PE X b (cT X.K X.mg E fb)) (hc : PE X c (cT X.K X.mg E fc)) (hm : lastMarks [.LtE, .Lt] [b, c] = false := by with_unfolding_all rfl) : PT X (.Compare a [.LtE, .Lt] [b, c] pos) (cB X.K X.mg E (tB (e3 dLe dLt fa fb fc))) := t_chain op_le (OpR.or op_lt op_lt_str) od_le od_lt ha hb hc hm
theorem t_leLe (ha : PE X a (cT X.K X.mg E fa)) (hb : PE X b (cT X.K X.mg E fb)) (hc : PE X c (cT X.K X.mg E fc)) (hm : lastMarks [.LtE, .LtE] [b, c] = false := by with_unfolding_all rfl) : PT X (.Compare a [.LtE, .LtE] [b, c] pos) (cB X.K X.mg E (tB (e3 dLe dLe fa fb fc))) := t_chain op_le op_le od_le od_le ha hb hc hm
end

/-! ### truth, and, or, not, if-else -/
section
variable {X : Cx} {E : L2.St → XK} {a b c e : Expr} {rest : List Expr} {pos : Pos} {fa fb fc f : Mi.Env → M D} {ta tb tc : Mi.Env → M Bool}
def bNot (t : Mi.Env → M Bool) : Mi.Env → M Bool := fun ρ => do let c ← t ρ; pure (!c)
def bAnd (t u : Mi.Env → M Bool) : Mi.Env → M Bool := fun ρ => do let c ← t ρ; if c = true then u ρ else pure false
def bOr (t u : Mi.Env → M Bool) : Mi.Env → M Bool := fun ρ => do let c ← t ρ; if c = true then pure true else u ρ
theorem t_not (ha : PT X a (cB X.K X.mg E ta)) : PT X (.UnaryOp .Not a pos) (cB X.K X.mg E (bNot ta)) :=
  pt_mono (pt_not ha) fun σ H Q ⟨τ, H0, G0, G, ρ, n, R, h⟩ => ⟨τ, H0, G0, G, ρ, n, R, Post.mono (fun k H1 => by
    rintro ⟨k', n1, G1, st, tw, rfl, h1⟩
    exact Post.ret h1 (R.next st tw).refl tw rfl) (Post.bind (rep := fun _ b c => b = c) h)⟩
theorem w_and1 (ha : PT X a (cB X.K X.mg E ta)) : PW X (.BoolOp .And [a] pos) (cB X.K X.mg E ta) := pw_and1 ha
theorem w_or1 (ha : PT X a (cB X.K X.mg E ta)) : PW X (.BoolOp .Or [a] pos) (cB X.K X.mg E ta) := pw_or1 ha
theorem w_and (ha : PT X a (cB X.K X.mg E ta)) (hb : PW X (.BoolOp .And (b :: rest) pos) (cB X.K X.mg E tb)) : PW X (.BoolOp .And (a :: b :: rest) pos) (cB X.K X.mg E (bAnd ta tb)) :=
  pw_mono (pw_and ha hb) fun σ H Q ⟨τ, H0, G0, G, ρ, n, R, h⟩ => ⟨τ, H0, G0, G, ρ, n, R, Post.mono (fun k H1 => by
    rintro ⟨k', n1, G1, st, tw, rfl, h1⟩
    have R1 := R.next st tw
    cases k with
    | true => exact ⟨τ, H0, G0, G1, ρ, n1, R1, h1⟩
    | false => exact Post.ret h1 R1.refl tw rfl) (Post.bind (rep := fun _ b c => b = c) h)⟩
theorem w_or (ha : PT X a (cB X.K X.mg E ta)) (hb : PW X (.BoolOp .Or (b :: rest) pos) (cB X.K X.mg E tb)) : PW X (.BoolOp .Or (a :: b :: rest) pos) (cB X.K X.mg E (bOr ta tb)) :=
  pw_mono (pw_or ha hb) fun σ H Q ⟨τ, H0, G0, G, ρ, n, R, h⟩ => ⟨τ, H0, G0, G, ρ, n, R, Post.mono (fun k H1 => by
    rintro ⟨k', n1, G1, st, tw, rfl, h1⟩
    have R1 := R.next st tw
    cases k with
    | true => exact Post.ret h1 R1.refl tw rfl
    | false => exact ⟨τ, H0, G0, G1, ρ, n1, R1, h1⟩) (Post.bind (rep := fun _ b c => b = c) h)⟩
/-- a value's truth -/
def dTru : D → M Bool
  | .none => pure false
  | .bool b => pure b
  | .int i => pure (i != 0)
  | .str y => do need (decide (y.length ≤ sizeLine)); pure ((y.length : Int) != 0)
  | .list ds => pure (!ds.isEmpty)
  | .tuple ds => pure (!ds.isEmpty)
  | .dict [(.none, .list ns)] => pure (!ns.isEmpty)
  | _ => bad
def tT (f : Mi.Env → M D) : Mi.Env → M Bool := fun ρ => do let x ← f ρ; dTru x
theorem isEmpty_reps {K : PySem.W.Frag} {mg : Str → Option Value} {τ : Option Addr} {G : Hp} {vs : List V} {ds : List D} (r : Reps K mg τ G vs ds) : vs.isEmpty = ds.isEmpty := by
  cases r <;> rfl
theorem isEmpty_map {α β : Type} (f : α → β) (l : List α) : (l.map f).isEmpty = l.isEmpty := by
  cases l <;> rfl
theorem t_truth (ha : PE X a (cT X.K X.mg E fa)) (he : ∀ whole, isTrue a X.env whole = (do let v ← whole; standAt a.pos; holding [v] (truthy v)) := by intro _; rfl) : PT X a (cB X.K X.mg E (tT fa)) :=
  pt_mono (pt_truth ha he) fun σ H Q ⟨τ, H0, G0, G, ρ, n, R, h⟩ => ⟨τ, H0, G0, G, ρ, n, R, Post.mono (fun x H1 => by
    rintro ⟨dx, n1, G1, st, tw, rx, h1⟩
    have R1 := R.next st tw
    cases rx with
    | non => exact ⟨false, rfl, Post.ret h1 R1.refl tw rfl⟩
    | bl k => exact ⟨k, rfl, Post.ret h1 R1.refl tw rfl⟩
    | int i => exact ⟨_, rfl, Post.ret h1 R1.refl tw rfl⟩
    | str y =>
      obtain ⟨hz, h1⟩ := Post.need h1
      exact ⟨_, ⟨of_decide_eq_true hz, rfl⟩, Post.ret h1 R1.refl tw rfl⟩
    | lst ha qa => exact ⟨_, .inl ⟨_, .inl (.inl (R1.le.list ha)), rfl⟩, Post.ret h1 R1.refl tw (by rw [isEmpty_reps qa])⟩
    | tup ha qa => exact ⟨_, .inr (.inl ⟨_, sqt_le R1.le ha, rfl⟩), Post.ret h1 R1.refl tw (by rw [isEmpty_reps qa])⟩
    | scr hs => exact ⟨_, .inl ⟨_, scr_at R1.le hs, rfl⟩, Post.ret h1 R1.refl tw (by rw [isEmpty_map, isEmpty_map])⟩
    | town _ => exact (show False from h1).elim
    | exc _ _ => exact (show False from h1).elim
    | dk hd rd =>
      cases rd with
      | nil => exact (show False from h1).elim
      | cons r1 r2 =>
        rename_i k v vs d ds
        cases k <;> exact (show False from h1).elim
    | dt hd rd =>
      cases rd with
      | nil => exact (show False from h1).elim
      | cons r1 r2 => exact (show False from h1).elim) (Post.bind (rep := Rep X.K X.mg τ) h)⟩
/-- .. as values (the first ones truth values) -/
def eAnd (fa fb : Mi.Env → M D) : Mi.Env → M D := fun ρ => do let x ← fa ρ; let k ← asB x; if k = true then fb ρ else pure (.bool false)
def eOr (fa fb : Mi.Env → M D) : Mi.Env → M D := fun ρ => do let x ← fa ρ; let k ← asB x; if k = true then pure (.bool true) else fb ρ
def eNot (fa : Mi.Env → M D) : Mi.Env → M D := fun ρ => do let x ← fa ρ; let k ← asB x; pure (.bool (!k))
theorem x_one {op : BoolOp} (ha : PE X a (cT X.K X.mg E fa)) : PE X (.BoolOp op [a] pos) (cT X.K X.mg E fa) := pe_one ha
theorem x_and (ha : PE X a (cT X.K X.mg E fa)) (hb : PE X (.BoolOp .And (b :: rest) pos) (cT X.K X.mg E fb)) : PE X (.BoolOp .And (a :: b :: rest) pos) (cT X.K X.mg E (eAnd fa fb)) :=
  pe_mono (pe_and ha hb) fun σ H Q ⟨τ, H0, G0, G, ρ, n, R, h⟩ => ⟨τ, H0, G0, G, ρ, n, R, Post.mono (fun x H1 => by
    rintro ⟨dx, n1, G1, st, tw, rx, h1⟩
    have R1 := R.next st tw
    cases rx with
    | bl k =>
      refine ⟨k, rfl, ?_⟩
      cases k with
      | true => exact ⟨τ, H0, G0, G1, ρ, n1, R1, h1⟩
      | false => exact Post.ret h1 R1.refl tw (.bl _)
    | _ => exact (show False from h1).elim) (Post.bind (rep := Rep X.K X.mg τ) h)⟩
theorem x_or (ha : PE X a (cT X.K X.mg E fa)) (hb : PE X (.BoolOp .Or (b :: rest) pos) (cT X.K X.mg E fb)) : PE X (.BoolOp .Or (a :: b :: rest) pos) (cT X.K X.mg E (eOr fa fb)) :=
  pe_mono (pe_or ha hb) fun σ H Q ⟨τ, H0, G0, G, ρ, n, R, h⟩ => ⟨τ, H0, G0, G, ρ, n, R, Post.mono (fun x H1 => by
    rintro ⟨dx, n1, G1, st, tw, rx, h1⟩
    have R1 := R.next st tw
    cases rx with
    | bl k =>
      refine ⟨k, rfl, ?_⟩
      cases k with
      | false => exact ⟨τ, H0, G0, G1, ρ, n1, R1, h1⟩
      | true => exact Post.ret h1 R1.refl tw (.bl _)
    | _ => exact (show False from h1).elim) (Post.bind (rep := Rep X.K X.mg τ) h)⟩
theorem x_not (ha : PE X a (cT X.K X.mg E fa)) : PE X (.UnaryOp .Not a pos) (cT X.K X.mg E (eNot fa)) :=
  pe_mono (pe_not ha) fun σ H Q ⟨τ, H0, G0, G, ρ, n, R, h⟩ => ⟨τ, H0, G0, G, ρ, n, R, Post.mono (fun x H1 => by
    rintro ⟨dx, n1, G1, st, tw, rx, h1⟩
    cases rx with
    | bl k => exact ⟨k, rfl, Post.ret h1 (R.next st tw).refl tw (.bl _)⟩
    | _ => exact (show False from h1).elim) (Post.bind (rep := Rep X.K X.mg τ) h)⟩
def eIf (t : Mi.Env → M Bool) (fa fb : Mi.Env → M D) : Mi.Env → M D := fun ρ => do let k ← t ρ; if k = true then fa ρ else fb ρ
theorem x_if (hc : PT X c (cB X.K X.mg E tc)) (ha : PE X a (cT X.K X.mg E fa)) (hb : PE X b (cT X.K X.mg E fb)) : PE X (.IfExp c a b pos) (cT X.K X.mg E (eIf tc fa fb)) :=
  pe_mono (pe_ifExp hc ha hb) fun σ H Q ⟨τ, H0, G0, G, ρ, n, R, h⟩ => ⟨τ, H0, G0, G, ρ, n, R, Post.mono (fun k H1 => by
    rintro ⟨k', n1, G1, st, tw, rfl, h1⟩
    have R1 := R.next st tw
    cases k with
    | true => exact ⟨τ, H0, G0, G1, ρ, n1, R1, h1⟩
    | false => exact ⟨τ, H0, G0, G1, ρ, n1, R1, h1⟩) (Post.bind (rep := fun _ b c => b = c) h)⟩
end

/-! ### argument lists, displays -/
section
variable {X : Cx} {E : L2.St → XK} {a b c e : Expr} {es : List Expr} {pos : Pos} {fa fb fc f : Mi.Env → M D} {fs : Mi.Env → M (List D)}
def aNil : Mi.Env → M (List D) := fun _ => pure []
def aCons (fa : Mi.Env → M D) (fs : Mi.Env → M (List D)) : Mi.Env → M (List D) := fun ρ => do let x ← fa ρ; let xs ← fs ρ; pure (x :: xs)
theorem a_nil : PA X [] (cA X.K X.mg E aNil) := pa_mono pa_nil fun σ H Q ⟨τ, H0, G0, G, ρ, n, R, h⟩ => Post.ret h R.refl R.town .nil
theorem a_cons (ha : PE X e (cT X.K X.mg E fa)) (hr : PA X es (cA X.K X.mg E fs)) (hs : starEach (e :: es) X.env = (false, eval e X.env) :: starEach es X.env := by rfl) : PA X (e :: es) (cA X.K X.mg E (aCons fa fs)) :=
  pa_mono (pa_cons ha hr hs) fun σ H Q ⟨τ, H0, G0, G, ρ, n, R, h⟩ => ⟨τ, H0, G0, G, ρ, n, R, Post.mono (fun x H1 => by
    rintro ⟨dx, n1, G1, st, tw, rx, h1⟩
    have R1 := R.next st tw
    refine ⟨τ, H0, G0, G1, ρ, n1, R1, Post.mono (fun xs H2 => ?_) (Post.bind (rep := Reps X.K X.mg τ) h1)⟩
    rintro ⟨dxs, n2, G2, st2, tw2, rxs, h2⟩
    exact Post.ret h2 (R1.next st2 tw2).refl tw2 (.cons (rx.sub st2.sub) rxs)) (Post.bind (rep := Rep X.K X.mg τ) h)⟩
def eTup (fs : Mi.Env → M (List D)) : Mi.Env → M D := fun ρ => do let xs ← fs ρ; need (decide (xs.length ≤ sizeLine)); pure (.tuple xs)
def lLst (fs : Mi.Env → M (List D)) : Mi.Env → M (List D) := fun ρ => do let xs ← fs ρ; need (decide (xs.length ≤ sizeLine)); pure xs
def eL (fs : Mi.Env → M (List D)) : Mi.Env → M D := fun ρ => do let xs ← fs ρ; pure (.list xs)
theorem x_tup {k : Nat} (h : PA X es (cA X.K X.mg E fs)) : PE X (.Tuple es k pos) (cT X.K X.mg E (eTup fs)) :=
  pe_mono (pe_tup h) fun σ H Q ⟨τ, H0, G0, G, ρ, n, R, h⟩ => ⟨τ, H0, G0, G, ρ, n, R, Post.mono (fun xs H1 => by
    rintro ⟨ds, n1, G1, st, tw, r, h1⟩
    obtain ⟨hz, h1⟩ := Post.need h1
    exact ⟨by rw [r.length]; exact of_decide_eq_true hz, Post.newT h1 (R.next st tw).refl tw r⟩) (Post.bind (rep := Reps X.K X.mg τ) h)⟩
/-- a new list, for itself -/
theorem PostF.ret {K : PySem.W.Frag} {mg : Str → Option Value} {τ : Option Addr} {H G : Hp} {Ex : XK} {Q : VK} {n : Nat} {vs : List V} {ds : List D} (h : PostF K mg τ H G Ex ((pure ds : M (List D)) n) Q) (st : Step τ H G H G) (tw : Town τ n H) (r : Reps K mg τ G vs ds) :
    ∀ p, H p = none → Q (.ref p) (upd H p (.lst vs)) := fun p hp =>
  h p vs _ G (Step.other st.le st.nt hp) (tw.upd hp) hp upd_same (st.le.none hp) r
theorem PostF.shift {K : PySem.W.Frag} {mg : Str → Option Value} {τ : Option Addr} {H G H1 G1 : Hp} {Ex : XK} {Q : VK} (st : Step τ H G H1 G1) (tn : ∀ p, H1 p = none → H p = none) : ∀ {r : Res (List D)}, PostF K mg τ H G Ex r Q → PostF K mg τ H1 G1 Ex r Q
  | .ok d n, h => fun p vs H' G' s t hp h1 h2 r => h p vs H' G' (st.trans s) t (tn p hp) h1 h2 r
  | .err c n, h => fun C H' m k t => h C H' m (st.keep.trans k) t
  | .bad, h => h
theorem none_back {τ : Option Addr} {H G H1 G1 : Hp} {n1 : Nat} (st : Step τ H G H1 G1) (tw : Town τ n1 H1) : ∀ p, H1 p = none → H p = none := fun p hp => by
  cases e : H p with
  | none => rfl
  | some o =>
    by_cases z : some p = τ
    · have q := tw p z.symm
      rw [hp] at q
      cases q
    · have q := st.keep p o e z
      rw [hp] at q
      cases q
theorem PostF.bind {α β : Type} {K : PySem.W.Frag} {mg : Str → Option Value} {τ : Option Addr} {H G : Hp} {Ex : XK} {Q : VK} {rep : Hp → β → α → Prop} {m : M α} {g : α → M (List D)} {n : Nat} (h : PostF K mg τ H G Ex ((m >>= g) n) Q) :
    Post mg τ H G Ex rep (m n) fun x H1 => ∃ a n1 G1, Step τ H G H1 G1 ∧ Town τ n1 H1 ∧ rep G1 x a ∧ PostF K mg τ H1 G1 Ex (g a n1) Q := by
  have h' : PostF K mg τ H G Ex (M.bnd m g n) Q := h
  unfold M.bnd at h'
  cases e : m n with
  | ok a k =>
    rw [e] at h'
    exact fun v H' G' s t p => ⟨a, k, G', s, t, p, PostF.shift s (none_back s t) h'⟩
  | err c k =>
    rw [e] at h'
    exact h'
  | bad =>
    rw [e] at h'
    exact h'.elim
theorem PostF.need {K : PySem.W.Frag} {mg : Str → Option Value} {τ : Option Addr} {H G : Hp} {Ex : XK} {Q : VK} {b : Bool} {f : Unit → M (List D)} {n : Nat} (h : PostF K mg τ H G Ex ((Mi.need b >>= f) n) Q) : b = true ∧ PostF K mg τ H G Ex (f () n) Q := by
  cases b with
  | false => exact (show False from h).elim
  | true => exact ⟨rfl, h⟩
theorem l_lst (h : PA X es (cA X.K X.mg E fs)) : PE X (.List es pos) (cF X.K X.mg E (lLst fs)) :=
  pe_mono (pe_lst h) fun σ H Q ⟨τ, H0, G0, G, ρ, n, R, h⟩ => ⟨τ, H0, G0, G, ρ, n, R, Post.mono (fun xs H1 => by
    rintro ⟨ds, n1, G1, st, tw, r, h1⟩
    obtain ⟨hz, h1⟩ := PostF.need h1
    exact ⟨by rw [r.length]; exact of_decide_eq_true hz, PostF.ret h1 (R.next st tw).refl tw r⟩) (PostF.bind (rep := Reps X.K X.mg τ) h)⟩
/-- the new list stands from now on -/
theorem post_fz {K : PySem.W.Frag} {mg : Str → Option Value} {τ : Option Addr} {H G : Hp} {Ex : XK} {Q : VK} {m : M (List D)} {n n0 : Nat} (tw : Town τ n0 H) (h : Post mg τ H G Ex (Rep K mg τ) ((m >>= fun xs => pure (.list xs)) n) Q) : PostF K mg τ H G Ex (m n) Q := by
  have h' : Post mg τ H G Ex (Rep K mg τ) (M.bnd m (fun xs => pure (.list xs)) n) Q := h
  unfold M.bnd at h'
  cases e : m n with
  | ok ds k =>
    rw [e] at h'
    intro p vs H' G' s t hp h1 h2 r
    have sub : ∀ a u, G' a = some u → upd G' p (.lst vs) a = some u := fun a u z => by
      rw [upd_ne (by rintro rfl; rw [h2] at z; cases z)]
      exact z
    refine h' _ H' (upd G' p (.lst vs)) ⟨s.keep, fun a u z => sub a u (s.sub a u z), fun a u z => ?_, fun a u z => ?_, fun a z => ?_⟩ t (.lst upd_same (r.sub sub))
    · by_cases q : a = p
      · subst q
        exact .inr hp
      · rw [upd_ne q] at z
        exact s.new a u z
    · by_cases q : a = p
      · subst q
        rw [upd_same] at z
        cases z
        exact .inl h1
      · rw [upd_ne q] at z
        exact s.le a u z
    · have : a ≠ p := by
        rintro rfl
        exact tw.ne _ z hp
      rw [upd_ne this]
      exact s.nt a z
  | err c k =>
    rw [e] at h'
    exact h'
  | bad =>
    rw [e] at h'
    exact h'.elim
end
end Mi

end

section
set_option Elab.async false
set_option linter.all false
set_option maxRecDepth 100000
set_option maxHeartbeats 4000000
namespace Mi
open PySem PySem.Spec L2

section
variable {X : Cx} {E : L2.St → XK} {a b c e : Expr} {es : List Expr} {pos : Pos} {fa fb fc f : Mi.Env → M D} {fs : Mi.Env → M (List D)} {ls : Mi.Env → M (List D)}
/-- a new list that stands from now on -/
theorem x_fz (h : PE X e (cF X.K X.mg E ls)) : PE X e (cT X.K X.mg E (eL ls)) :=
  pe_mono h fun σ H Q ⟨τ, H0, G0, G, ρ, n, R, h⟩ => ⟨τ, H0, G0, G, ρ, n, R, post_fz R.town h⟩

/-! ### items -/
theorem ixN_len {n m : Nat} (h : n = m) (i : Int) : ixN n i = ixN m i := by rw [h]
theorem Reps.atI {K : PySem.W.Frag} {mg : Str → Option Value} {τ : Option Addr} {G : Hp} {vs : List V} {ds : List D} {i : Int} {d : D} (r : Reps K mg τ G vs ds) (h : L2.atI ds i = some d) : ∃ v, L2.atI vs i = some v ∧ Rep K mg τ G v d := by
  unfold L2.atI at h ⊢
  rw [r.length]
  cases e : ixN ds.length i with
  | none =>
    rw [e] at h
    cases h
  | some j =>
    rw [e] at h
    exact r.get h
theorem Post.opt {α β γ : Type} {mg : Str → Option Value} {τ : Option Addr} {H G : Hp} {Ex : XK} {rep : Hp → β → α → Prop} {Q : β → Hp → Prop} {o : Option γ} {g : γ → M α} {n : Nat} (h : Post mg τ H G Ex rep ((ofOpt o >>= g) n) Q) : ∃ x, o = some x ∧ Post mg τ H G Ex rep (g x n) Q := by
  cases o with
  | none => exact (show False from h).elim
  | some x => exact ⟨x, rfl, h⟩
theorem Post.opt0 {α β : Type} {mg : Str → Option Value} {τ : Option Addr} {H G : Hp} {Ex : XK} {rep : Hp → β → α → Prop} {Q : β → Hp → Prop} {o : Option α} {n : Nat} (h : Post mg τ H G Ex rep (ofOpt o n) Q) : ∃ x, o = some x ∧ Post mg τ H G Ex rep ((pure x : M α) n) Q := by
  cases o with
  | none => exact (show False from h).elim
  | some x => exact ⟨x, rfl, h⟩
def dIx : D → D → M D
  | .list ds, .int i => ofOpt (atI ds i)
  | .tuple ds, .int i => ofOpt (atI ds i)
  | .str z, .int i => do need (decide (z.length ≤ sizeLine)); let c ← ofOpt (atI z.cps.toList i); pure (.str ⟨#[c]⟩)
  | .dict [(.none, .list ds)], .int i => ofOpt (atI ds i)
  | _, _ => bad
theorem atI_map {α β : Type} (f : α → β) (l : List α) (i : Int) : atI (l.map f) i = (atI l i).map f := by
  unfold atI
  rw [List.length_map]
  cases ixN l.length i with
  | none => rfl
  | some j => simp
theorem od_ix : OpD X (rIx X.K) dIx := by
  intro τ n H G x y dx dy E Q st tw rx ry h
  cases rx with
  | lst ha qa =>
    cases ry with
    | int i =>
      obtain ⟨d, e, h⟩ := Post.opt0 h
      obtain ⟨v, e', r⟩ := qa.atI e
      exact .inl ⟨_, _, _, _, rfl, rfl, .inl (.inl (st.le.list ha)), e', Post.ret h st tw r⟩
    | _ => exact (show False from h).elim
  | tup ha qa =>
    cases ry with
    | int i =>
      obtain ⟨d, e, h⟩ := Post.opt0 h
      obtain ⟨v, e', r⟩ := qa.atI e
      exact .inr (.inl ⟨_, _, _, _, rfl, rfl, sqt_le st.le ha, e', Post.ret h st tw r⟩)
    | _ => exact (show False from h).elim
  | str z =>
    cases ry with
    | int i =>
      obtain ⟨hz, h⟩ := Post.need h
      obtain ⟨c, e, h⟩ := Post.opt h
      exact .inr (.inr ⟨_, _, _, rfl, rfl, of_decide_eq_true hz, e, Post.ret h st tw (.str _)⟩)
    | _ => exact (show False from h).elim
  | scr hs =>
    rename_i ns
    cases ry with
    | int i =>
      obtain ⟨d, e, h⟩ := Post.opt0 h
      rw [atI_map] at e
      cases e1 : atI ns i with
      | none =>
        rw [e1] at e
        cases e
      | some k =>
        rw [e1] at e
        cases e
        exact .inl ⟨_, _, _, .int k, rfl, rfl, scr_at st.le hs, by rw [atI_map, e1]; rfl, Post.ret h st tw (.int _)⟩
    | _ => exact (show False from h).elim
  | dk hd rd =>
    cases rd with
    | nil => exact (show False from h).elim
    | cons r1 r2 =>
      rename_i k v vs d ds
      cases k <;> exact (show False from h).elim
  | dt hd rd =>
    cases rd with
    | nil => exact (show False from h).elim
    | cons r1 r2 => exact (show False from h).elim
  | _ => exact (show False from h).elim
theorem x_ix (ha : PE X a (cT X.K X.mg E fa)) (hb : PE X b (cT X.K X.mg E fb)) (hs : PlainIx b := by exact fun _ _ => rfl) : PE X (.Subscript a b pos) (cT X.K X.mg E (e2 dIx fa fb)) :=
  pe_mono (pe_ix ix_seq ha hb hs) fun _ _ _ h => op_step od_ix h

/-! ### slices -/
def cutD (xs : List D) (lo hi : Option Int) : List D := (xs.drop (HT.sIx xs.length 0 lo)).take (HT.sIx xs.length xs.length hi - HT.sIx xs.length 0 lo)
theorem reps_cut {K : PySem.W.Frag} {mg : Str → Option Value} {τ : Option Addr} {G : Hp} {vs : List V} {ds : List D} (r : Reps K mg τ G vs ds) (lo hi : Option Int) : Reps K mg τ G (cutV vs lo hi) (cutD ds lo hi) := by
  unfold cutV cutD
  rw [r.length]
  exact (r.drop _).take _
def dSl (lo hi : Option Int) : D → M D
  | .list ds => pure (.list (cutD ds lo hi))
  | .tuple ds => pure (.tuple (cutD ds lo hi))
  | .str z => do need (decide (z.length ≤ sizeLine)); pure (.str (cutS z lo hi))
  | _ => bad
def pNo : Mi.Env → M (Option Int) := fun _ => pure none
def asI : D → M Int
  | .int i => pure i
  | _ => bad
def pYes (fa : Mi.Env → M D) : Mi.Env → M (Option Int) := fun ρ => do let x ← fa ρ; let i ← asI x; pure (some i)
abbrev cO (K : PySem.W.Frag) (mg : Str → Option Value) (E : L2.St → XK) (f : Mi.Env → M (Option Int)) : TO := cG K mg (fun _ _ b c => b = c) E f
theorem po_mono {o : Option Expr} {t t' : TO} (h : PO X o t) (i : ∀ σ H Q, t' σ H Q → t σ H Q) : PO X o t' := ⟨fun pins s σ H Q I q => h.run pins s σ H Q I (i σ H Q q)⟩
theorem p_no : PO X none (cO X.K X.mg E pNo) := po_mono po_none fun σ H Q ⟨τ, H0, G0, G, ρ, n, R, h⟩ => Post.ret h R.refl R.town rfl
theorem p_yes (ha : PE X a (cT X.K X.mg E fa)) : PO X (some a) (cO X.K X.mg E (pYes fa)) :=
  po_mono (po_some ha) fun σ H Q ⟨τ, H0, G0, G, ρ, n, R, h⟩ => ⟨τ, H0, G0, G, ρ, n, R, Post.mono (fun x H1 => by
    rintro ⟨dx, n1, G1, st, tw, rx, h1⟩
    cases rx with
    | int i => exact ⟨i, rfl, Post.ret h1 (R.next st tw).refl tw rfl⟩
    | _ => exact (show False from h1).elim) (Post.bind (rep := Rep X.K X.mg τ) h)⟩
def eSl (fa : Mi.Env → M D) (pl ph : Mi.Env → M (Option Int)) : Mi.Env → M D := fun ρ => do let x ← fa ρ; let lo ← pl ρ; let hi ← ph ρ; dSl lo hi x
def rSlP (K : PySem.W.Frag) : V → Option Int → Option Int → Hp → VK → Prop := fun x lo hi H Q => rSlL K x lo hi H Q ∨ rSlA K x lo hi H Q ∨ rSlS x lo hi H Q
theorem cut_whole {ds : List D} {lo hi : Option Int} (h : HT.sIx ds.length 0 lo = 0 ∧ HT.sIx ds.length ds.length hi = ds.length) : cutD ds lo hi = ds := by
  unfold cutD
  rw [h.1, h.2]
  simp
theorem x_sl {p2 : Pos} {lo hi : Option Expr} {pl ph : Mi.Env → M (Option Int)} (ha : PE X a (cT X.K X.mg E fa)) (hl : PO X lo (cO X.K X.mg E pl)) (hh : PO X hi (cO X.K X.mg E ph)) :
    PE X (.Subscript a (.Slice lo hi none p2) pos) (cT X.K X.mg E (eSl fa pl ph)) :=
  pe_mono (pe_slice (r := rSlP X.K) (SlR.or sl_list (SlR.or sl_tupA sl_str)) ha hl hh) fun σ H Q ⟨τ, H0, G0, G, ρ, n, R, h⟩ => ⟨τ, H0, G0, G, ρ, n, R, Post.mono (fun x H1 => by
    rintro ⟨dx, n1, G1, st, tw, rx, h1⟩
    have R1 := R.next st tw
    refine ⟨τ, H0, G0, G1, ρ, n1, R1, Post.mono (fun lo H2 => ?_) (Post.bind (rep := fun _ b c => b = c) h1)⟩
    rintro ⟨_, n2, G2, st2, tw2, rfl, h2⟩
    have R2 := R1.next st2 tw2
    refine ⟨τ, H0, G0, G2, ρ, n2, R2, Post.mono (fun hi H3 => ?_) (Post.bind (rep := fun _ b c => b = c) h2)⟩
    rintro ⟨_, n3, G3, st3, tw3, rfl, h3⟩
    have R3 := R2.next st3 tw3
    have rx3 := (rx.sub st2.sub).sub st3.sub
    cases rx3 with
    | lst hb qb => exact .inl ⟨_, _, rfl, .inl (.inl (R3.le.list hb)), Post.newL h3 R3.refl tw3 (reps_cut qb lo hi)⟩
    | tup hb qb =>
      refine .inr (.inl ⟨_, _, rfl, sqt_le R3.le hb, fun hw => ?_, fun hw => Post.newT h3 R3.refl tw3 (reps_cut qb lo hi)⟩)
      rw [qb.length] at hw
      have h3 : Post X.mg τ H3 G3 (E σ) (Rep X.K X.mg τ) ((pure (.tuple (cutD _ lo hi)) : M D) n3) Q := h3
      rw [cut_whole hw] at h3
      exact Post.ret h3 R3.refl tw3 (.tup hb qb)
    | str z =>
      obtain ⟨hz, h3⟩ := Post.need h3
      exact .inr (.inr ⟨_, rfl, of_decide_eq_true hz, Post.ret h3 R3.refl tw3 (.str _)⟩)
    | _ => exact (show False from h3).elim) (Post.bind (rep := Rep X.K X.mg τ) h)⟩
/-- xs[::-1], a list -/
def lRev (fa : Mi.Env → M D) : Mi.Env → M (List D) := fun ρ => do
  let x ← fa ρ
  match x with
  | .list ds => pure ds.reverse
  | _ => bad
theorem l_rev {k : Nat} {p1 p2 p3 : Pos} (ha : PE X a (cT X.K X.mg E fa)) : PE X (.Subscript a (.Slice none none (some (.UnaryOp .USub (.Constant (.int 1) k p1) p2)) p3) pos) (cF X.K X.mg E (lRev fa)) :=
  pe_mono (pe_revL ha) fun σ H Q ⟨τ, H0, G0, G, ρ, n, R, h⟩ => ⟨τ, H0, G0, G, ρ, n, R, Post.mono (fun x H1 => by
    rintro ⟨dx, n1, G1, st, tw, rx, h1⟩
    have R1 := R.next st tw
    cases rx with
    | lst hb qb => exact ⟨_, _, rfl, .inl (.inl (R1.le.list hb)), PostF.ret h1 R1.refl tw qb.reverse⟩
    | _ => exact (show False from h1).elim) (PostF.bind (rep := Rep X.K X.mg τ) h)⟩

/-! ### built-in calls -/
def CallD (X : Cx) (r : List V → Hp → VK → Prop) (g : List D → M D) : Prop := ∀ (τ : Option Addr) (n : Nat) (H G : Hp) (vs : List V) (ds : List D) (E : XK) (Q : VK), Step τ H G H G → Town τ n H → Reps X.K X.mg τ G vs ds →
  Post X.mg τ H G E (Rep X.K X.mg τ) (g ds n) Q → r vs H Q
def CallF (X : Cx) (r : List V → Hp → VK → Prop) (g : List D → M (List D)) : Prop := ∀ (τ : Option Addr) (n : Nat) (H G : Hp) (vs : List V) (ds : List D) (E : XK) (Q : VK), Step τ H G H G → Town τ n H → Reps X.K X.mg τ G vs ds →
  PostF X.K X.mg τ H G E (g ds n) Q → r vs H Q
def eCall (g : List D → M D) (fs : Mi.Env → M (List D)) : Mi.Env → M D := fun ρ => do let xs ← fs ρ; g xs
def lCall (g : List D → M (List D)) (fs : Mi.Env → M (List D)) : Mi.Env → M (List D) := fun ρ => do let xs ← fs ρ; g xs
theorem call_step {r : List V → Hp → VK → Prop} {g : List D → M D} (hg : CallD X r g) {σ : L2.St} {H : Hp} {Q : VK} (h : cT X.K X.mg E (eCall g fs) σ H Q) : tCB r (cA X.K X.mg E fs) σ H Q := by
  obtain ⟨τ, H0, G0, G, ρ, n, R, h⟩ := h
  refine ⟨τ, H0, G0, G, ρ, n, R, Post.mono (fun xs H1 => ?_) (Post.bind (rep := Reps X.K X.mg τ) h)⟩
  rintro ⟨ds, n1, G1, st, tw, rx, h1⟩
  exact hg τ n1 H1 G1 xs ds (E σ) Q (R.next st tw).refl tw rx h1
theorem callF_step {r : List V → Hp → VK → Prop} {g : List D → M (List D)} (hg : CallF X r g) {σ : L2.St} {H : Hp} {Q : VK} (h : cF X.K X.mg E (lCall g fs) σ H Q) : tCB r (cA X.K X.mg E fs) σ H Q := by
  obtain ⟨τ, H0, G0, G, ρ, n, R, h⟩ := h
  refine ⟨τ, H0, G0, G, ρ, n, R, Post.mono (fun xs H1 => ?_) (PostF.bind (rep := Reps X.K X.mg τ) h)⟩
  rintro ⟨ds, n1, G1, st, tw, rx, h1⟩
  exact hg τ n1 H1 G1 xs ds (E σ) Q (R.next st tw).refl tw rx h1
section
variable {x : Str} {p : Pos} {id T : String} {r : List V → Hp → VK → Prop}
theorem x_callB {g : List D → M D} (hc : CallR X (.builtin id) r) (hd : CallD X r g) (hg : Gl X x) (hm : X.mg x = none) (hv : bootBuiltins x = some (.builtin id)) (ha : PA X (e :: es) (cA X.K X.mg E fs)) (hn : x ≠ "__name__" := by decide) (hdb : (x == ("__debug__" : Str)) = false := by decide)
    (he : starEach (e :: es) X.env = (false, eval e X.env) :: starEach es X.env := by rfl) (hpl : (backTo pos (starEach es X.env)).any (·.1) = false := by rfl) : PE X (.Call (.Name x p) (e :: es) [] pos) (cT X.K X.mg E (eCall g fs)) :=
  pe_mono (pe_callB hc hg hm hv ha hn hdb he hpl) fun _ _ _ h => call_step hd h
theorem x_callTy {g : List D → M D} (hc : CallR X (.type T) r) (hd : CallD X r g) (hg : Gl X x) (hm : X.mg x = none) (hv : bootBuiltins x = some (.type T)) (ha : PA X (e :: es) (cA X.K X.mg E fs)) (hn : x ≠ "__name__" := by decide) (hdb : (x == ("__debug__" : Str)) = false := by decide)
    (he : starEach (e :: es) X.env = (false, eval e X.env) :: starEach es X.env := by rfl) (hpl : (backTo pos (starEach es X.env)).any (·.1) = false := by rfl) : PE X (.Call (.Name x p) (e :: es) [] pos) (cT X.K X.mg E (eCall g fs)) :=
  pe_mono (pe_callTy hc hg hm hv ha hn hdb he hpl) fun _ _ _ h => call_step hd h
theorem l_callTy {g : List D → M (List D)} (hc : CallR X (.type T) r) (hd : CallF X r g) (hg : Gl X x) (hm : X.mg x = none) (hv : bootBuiltins x = some (.type T)) (ha : PA X (e :: es) (cA X.K X.mg E fs)) (hn : x ≠ "__name__" := by decide) (hdb : (x == ("__debug__" : Str)) = false := by decide)
    (he : starEach (e :: es) X.env = (false, eval e X.env) :: starEach es X.env := by rfl) (hpl : (backTo pos (starEach es X.env)).any (·.1) = false := by rfl) : PE X (.Call (.Name x p) (e :: es) [] pos) (cF X.K X.mg E (lCall g fs)) :=
  pe_mono (pe_callTy hc hg hm hv ha hn hdb he hpl) fun _ _ _ h => callF_step hd h
theorem l_callB {g : List D → M (List D)} (hc : CallR X (.builtin id) r) (hd : CallF X r g) (hg : Gl X x) (hm : X.mg x = none) (hv : bootBuiltins x = some (.builtin id)) (ha : PA X (e :: es) (cA X.K X.mg E fs)) (hn : x ≠ "__name__" := by decide) (hdb : (x == ("__debug__" : Str)) = false := by decide)
    (he : starEach (e :: es) X.env = (false, eval e X.env) :: starEach es X.env := by rfl) (hpl : (backTo pos (starEach es X.env)).any (·.1) = false := by rfl) : PE X (.Call (.Name x p) (e :: es) [] pos) (cF X.K X.mg E (lCall g fs)) :=
  pe_mono (pe_callB hc hg hm hv ha hn hdb he hpl) fun _ _ _ h => callF_step hd h
end
/-- functions of one, of two -/
def arg1 {α : Type} (g : D → M α) : List D → M α
  | [x] => g x
  | _ => bad
def arg2 {α : Type} (g : D → D → M α) : List D → M α
  | [x, y] => g x y
  | _ => bad
theorem cd_one {r : List V → Hp → VK → Prop} {g : D → M D} (hg : ∀ (τ : Option Addr) (n : Nat) (H G : Hp) (v : V) (d : D) (E : XK) (Q : VK), Step τ H G H G → Town τ n H → Rep X.K X.mg τ G v d → Post X.mg τ H G E (Rep X.K X.mg τ) (g d n) Q → r [v] H Q) : CallD X r (arg1 g) := by
  intro τ n H G vs ds E Q st tw q h
  cases q with
  | nil => exact (show False from h).elim
  | cons r1 r2 =>
    cases r2 with
    | nil => exact hg τ n H G _ _ E Q st tw r1 h
    | cons _ _ => exact (show False from h).elim
theorem cf_one {r : List V → Hp → VK → Prop} {g : D → M (List D)} (hg : ∀ (τ : Option Addr) (n : Nat) (H G : Hp) (v : V) (d : D) (E : XK) (Q : VK), Step τ H G H G → Town τ n H → Rep X.K X.mg τ G v d → PostF X.K X.mg τ H G E (g d n) Q → r [v] H Q) : CallF X r (arg1 g) := by
  intro τ n H G vs ds E Q st tw q h
  cases q with
  | nil => exact (show False from h).elim
  | cons r1 r2 =>
    cases r2 with
    | nil => exact hg τ n H G _ _ E Q st tw r1 h
    | cons _ _ => exact (show False from h).elim
theorem cd_pair {r : List V → Hp → VK → Prop} {g : D → D → M D} (hg : ∀ (τ : Option Addr) (n : Nat) (H G : Hp) (v w : V) (d e : D) (E : XK) (Q : VK), Step τ H G H G → Town τ n H → Rep X.K X.mg τ G v d → Rep X.K X.mg τ G w e → Post X.mg τ H G E (Rep X.K X.mg τ) (g d e n) Q → r [v, w] H Q) : CallD X r (arg2 g) := by
  intro τ n H G vs ds E Q st tw q h
  cases q with
  | nil => exact (show False from h).elim
  | cons r1 r2 =>
    cases r2 with
    | nil => exact (show False from h).elim
    | cons r2 r3 =>
      cases r3 with
      | nil => exact hg τ n H G _ _ _ _ E Q st tw r1 r2 h
      | cons _ _ => exact (show False from h).elim
/-- len -/
def dLen : D → M D
  | .str x => do need (decide (x.length ≤ sizeLine)); pure (.int x.length)
  | .list ds => pure (.int ds.length)
  | .tuple ds => pure (.int ds.length)
  | .dict [(.none, .none)] => fun n => .ok (.int n) n
  | .dict [(.none, .list ns)] => pure (.int ns.length)
  | _ => bad
theorem cd_len : CallD X (fun xs H Q => ∃ x n, xs = [x] ∧ LenV X.K x H n ∧ Q (.int n) H) (arg1 dLen) := cd_one fun τ n H G v d E Q st tw rx h => by
  cases rx with
  | str x =>
    obtain ⟨hz, h⟩ := Post.need h
    exact ⟨_, _, rfl, ⟨of_decide_eq_true hz, rfl⟩, Post.ret h st tw (.int _)⟩
  | lst ha qa =>
    refine ⟨_, _, rfl, .inl ⟨_, .inl (.inl (st.le.list ha)), rfl⟩, ?_⟩
    rw [qa.length]
    exact Post.ret h st tw (.int _)
  | tup ha qa =>
    refine ⟨_, _, rfl, .inr ⟨_, sqt_le st.le ha, rfl⟩, ?_⟩
    rw [qa.length]
    exact Post.ret h st tw (.int _)
  | town ht =>
    refine ⟨_, _, rfl, .inl ⟨_, .inl (.inl (tw _ ht)), rfl⟩, ?_⟩
    rw [List.length_replicate]
    exact h _ _ _ st tw (.int _)
  | scr hs =>
    refine ⟨_, _, rfl, .inl ⟨_, scr_at st.le hs, rfl⟩, ?_⟩
    rw [List.length_map]
    have h : Post X.mg τ H G E (Rep X.K X.mg τ) ((pure (.int (List.map PyData.int _).length) : M D) n) Q := h
    rw [List.length_map] at h
    exact Post.ret h st tw (.int _)
  | dk hd rd =>
    cases rd with
    | nil => exact (show False from h).elim
    | cons r1 r2 =>
      rename_i k v vs d ds
      cases k <;> exact (show False from h).elim
  | dt hd rd =>
    cases rd with
    | nil => exact (show False from h).elim
    | cons r1 r2 => exact (show False from h).elim
  | _ => exact (show False from h).elim
theorem x_len {p : Pos} (hm : X.mg "len" = none) (ha : PA X [e] (cA X.K X.mg E fs)) (hg : Gl X "len" := by rfl) (he : starEach (e :: []) X.env = (false, eval e X.env) :: starEach [] X.env := by rfl) (hpl : (backTo pos (starEach [] X.env)).any (·.1) = false := by rfl) :
    PE X (.Call (.Name "len" p) [e] [] pos) (cT X.K X.mg E (eCall (arg1 dLen) fs)) := x_callB call_len cd_len hg hm PySem.boot_len ha (he := he) (hpl := hpl)
/-- list(xs) -/
def gList : D → M (List D)
  | .list ds => pure ds
  | .tuple ds => pure ds
  | _ => bad
theorem cf_list : CallF X (fun xs H Q => ∃ p ys, xs = [.ref p] ∧ (SqL X.K H p ys ∨ SqT X.K H p ys) ∧ ∀ l, H l = none → Q (.ref l) (upd H l (.lst ys))) (arg1 gList) := cf_one fun τ n H G v d E Q st tw rx h => by
  cases rx with
  | lst ha qa => exact ⟨_, _, rfl, .inl (.inl (.inl (st.le.list ha))), PostF.ret h st tw qa⟩
  | tup ha qa => exact ⟨_, _, rfl, .inr (sqt_le st.le ha), PostF.ret h st tw qa⟩
  | _ => exact (show False from h).elim
theorem l_list {p : Pos} (hm : X.mg "list" = none) (ha : PA X [e] (cA X.K X.mg E fs)) (hg : Gl X "list" := by rfl) (he : starEach (e :: []) X.env = (false, eval e X.env) :: starEach [] X.env := by rfl) (hpl : (backTo pos (starEach [] X.env)).any (·.1) = false := by rfl) :
    PE X (.Call (.Name "list" p) [e] [] pos) (cF X.K X.mg E (lCall (arg1 gList) fs)) := l_callTy call_list_of cf_list hg hm (by decide +kernel) ha (he := he) (hpl := hpl)
/-- tuple(xs) -/
def gTuple : D → M D
  | .list ds => pure (.tuple ds)
  | .tuple ds => pure (.tuple ds)
  | _ => bad
theorem cd_tuple : CallD X (fun xs H Q => ∃ p ys, xs = [.ref p] ∧ ((SqL X.K H p ys ∧ ∀ l, H l = none → Q (.ref l) (upd H l (.tup ys))) ∨ (SqT X.K H p ys ∧ Q (.ref p) H))) (arg1 gTuple) := cd_one fun τ n H G v d E Q st tw rx h => by
  cases rx with
  | lst ha qa => exact ⟨_, _, rfl, .inl ⟨.inl (.inl (st.le.list ha)), Post.newT h st tw qa⟩⟩
  | tup ha qa => exact ⟨_, _, rfl, .inr ⟨sqt_le st.le ha, Post.ret h st tw (.tup ha qa)⟩⟩
  | _ => exact (show False from h).elim
theorem x_tuple {p : Pos} (hm : X.mg "tuple" = none) (ha : PA X [e] (cA X.K X.mg E fs)) (hg : Gl X "tuple" := by rfl) (he : starEach (e :: []) X.env = (false, eval e X.env) :: starEach [] X.env := by rfl) (hpl : (backTo pos (starEach [] X.env)).any (·.1) = false := by rfl) :
    PE X (.Call (.Name "tuple" p) [e] [] pos) (cT X.K X.mg E (eCall (arg1 gTuple) fs)) := x_callTy call_tuple_of cd_tuple hg hm (by decide +kernel) ha (he := he) (hpl := hpl)
/-- str(n) -/
def gStrI : D → M D
  | .int i => do need (decide (i.natAbs.log2 < 1920)); pure (.str (toString i))
  | _ => bad
theorem cd_str : CallD X (fun xs H Q => ∃ i, xs = [.int i] ∧ i.natAbs.log2 < 1920 ∧ Q (.str (toString i)) H) (arg1 gStrI) := cd_one fun τ n H G v d E Q st tw rx h => by
  cases rx with
  | int i =>
    obtain ⟨hz, h⟩ := Post.need h
    exact ⟨_, rfl, of_decide_eq_true hz, Post.ret h st tw (.str _)⟩
  | _ => exact (show False from h).elim
theorem x_str_int {p : Pos} (hm : X.mg "str" = none) (ha : PA X [e] (cA X.K X.mg E fs)) (hg : Gl X "str" := by rfl) (he : starEach (e :: []) X.env = (false, eval e X.env) :: starEach [] X.env := by rfl) (hpl : (backTo pos (starEach [] X.env)).any (·.1) = false := by rfl) :
    PE X (.Call (.Name "str" p) [e] [] pos) (cT X.K X.mg E (eCall (arg1 gStrI) fs)) := x_callTy call_str_int cd_str hg hm (by decide +kernel) ha (he := he) (hpl := hpl)
/-- max(i, j), min(i, j), ints -/
def gMax2 : D → D → M D := dI fun i j => pure (.int (if j > i then j else i))
def gMin2 : D → D → M D := dI fun i j => pure (.int (if j < i then j else i))
theorem cd_two {k : Int → Int → Int} : CallD X (fun xs H Q => ∃ i j, xs = [.int i, .int j] ∧ Q (.int (k i j)) H) (arg2 (dI fun i j => pure (.int (k i j)))) := cd_pair fun τ n H G v w d e E Q st tw r1 r2 h => by
  cases r1 with
  | int i =>
    cases r2 with
    | int j => exact ⟨i, j, rfl, Post.ret h st tw (.int _)⟩
    | _ => exact (show False from h).elim
  | _ => exact (show False from h).elim
theorem x_max2 {p : Pos} (hc : X.calm = true) (hm : X.mg "max" = none) (ha : PA X [a, b] (cA X.K X.mg E fs)) (hg : Gl X "max" := by rfl) (he : starEach (a :: [b]) X.env = (false, eval a X.env) :: starEach [b] X.env := by rfl) (hpl : (backTo pos (starEach [b] X.env)).any (·.1) = false := by rfl) :
    PE X (.Call (.Name "max" p) [a, b] [] pos) (cT X.K X.mg E (eCall (arg2 gMax2) fs)) := x_callB (call_max2 hc) cd_two hg hm (by decide +kernel) ha (he := he) (hpl := hpl)
theorem x_min2 {p : Pos} (hc : X.calm = true) (hm : X.mg "min" = none) (ha : PA X [a, b] (cA X.K X.mg E fs)) (hg : Gl X "min" := by rfl) (he : starEach (a :: [b]) X.env = (false, eval a X.env) :: starEach [b] X.env := by rfl) (hpl : (backTo pos (starEach [b] X.env)).any (·.1) = false := by rfl) :
    PE X (.Call (.Name "min" p) [a, b] [] pos) (cT X.K X.mg E (eCall (arg2 gMin2) fs)) := x_callB (call_min2 hc) cd_two hg hm (by decide +kernel) ha (he := he) (hpl := hpl)
end
end Mi

end

section
set_option Elab.async false
set_option linter.all false
set_option maxRecDepth 100000
set_option maxHeartbeats 4000000
namespace Mi
open PySem PySem.Spec L2

/-! ### names set -/
section
variable {K : PySem.W.Frag} {mg : Str → Option Value} {τ : Option Addr} {H0 G0 G G' G1 H H' H1 : Hp} {σ : L2.St} {ρ : Mi.Env} {n n1 : Nat}
theorem at_set {ρ : Mi.Env} {i j : Nat} {s : Sl} : Env.at (ρ.set i s) j = if j = i ∧ i < ρ.length then s else ρ.at j := by
  unfold Env.at
  rw [List.getD_eq_getElem?_getD, List.getD_eq_getElem?_getD]
  by_cases h : j = i
  · subst h
    by_cases h2 : j < ρ.length
    · rw [List.getElem?_set_self h2, if_pos ⟨rfl, h2⟩] <;> rfl
    · rw [if_neg (fun z => h2 z.2), List.getElem?_eq_none (by simpa using h2), List.getElem?_eq_none (by simpa using h2)]
  · rw [List.getElem?_set_ne (Ne.symm h), if_neg (fun z => h z.1)]
theorem sig_set {σ : L2.St} {i j : Nat} {v : V} (hl : i < σ.length) : (σ.set i (some v))[j]? = if j = i then some (some v) else σ[j]? := by
  by_cases h : j = i
  · subst h
    rw [List.getElem?_set_self hl, if_pos rfl]
  · rw [List.getElem?_set_ne (Ne.symm h), if_neg h]
/-- a name is given a value that stands -/
theorem Rel.set (R : Rel K mg τ H0 G0 G H σ ρ n) (i : Nat) {v : V} {d : D} (r : Rep K mg τ G v d) : Rel K mg τ H0 G0 G H (σ.set i (some v)) (ρ.set i (.fz d)) n := by
  by_cases hi : i < ρ.length
  · have hs : i < σ.length := by rw [← R.len]; exact hi
    refine ⟨R.step, R.town, by simp [R.len], fun j => ?_, fun j a c => ?_, fun j k a c d => ?_⟩
    · rw [at_set, sig_set hs]
      by_cases h : j = i
      · rw [if_pos h, if_pos ⟨h, hi⟩]
        exact ⟨v, rfl, r⟩
      · rw [if_neg h, if_neg (fun z => h z.1)]
        exact R.slots j
    · rw [at_set, sig_set hs] at c
      by_cases h : j = i
      · rw [if_pos h, if_pos ⟨h, hi⟩] at c
        exact False.elim c
      · rw [if_neg h, if_neg (fun z => h z.1)] at c
        exact R.cell j a c
    · rw [at_set, sig_set hs] at c d
      by_cases h : j = i
      · rw [if_pos h, if_pos ⟨h, hi⟩] at c
        exact False.elim c
      · by_cases h2 : k = i
        · rw [if_pos h2, if_pos ⟨h2, hi⟩] at d
          exact False.elim d
        · rw [if_neg h, if_neg (fun z => h z.1)] at c
          rw [if_neg h2, if_neg (fun z => h2 z.1)] at d
          exact R.apart j k a c d
  · have e1 : ρ.set i (.fz d) = ρ := List.set_eq_of_length_le (by omega)
    have e2 : σ.set i (some v) = σ := List.set_eq_of_length_le (by rw [← R.len]; omega)
    rw [e1, e2]
    exact R
/-- a name is given a new list of its own -/
theorem Rel.own (R : Rel K mg τ H0 G0 G H σ ρ n) (i : Nat) (hi : i < ρ.length) {p : Addr} {s : Sl} (ok : ∀ x, x = some (some (V.ref p)) → SlotOk K mg τ H0 G H x s) (cl : ∀ x a, x = some (some (V.ref p)) → CellOf H x s a → a = p)
    (h0 : H0 p = none) (hG : G p = none) (hτ : some p ≠ τ) (ap : ∀ j, j ≠ i → ¬ CellOf H σ[j]? (ρ.at j) p) : Rel K mg τ H0 G0 G H (σ.set i (some (.ref p))) (ρ.set i s) n := by
  have hs : i < σ.length := by rw [← R.len]; exact hi
  refine ⟨R.step, R.town, by simp [R.len], fun j => ?_, fun j a c => ?_, fun j k a c d => ?_⟩
  · rw [at_set, sig_set hs]
    by_cases h : j = i
    · rw [if_pos h, if_pos ⟨h, hi⟩]
      exact ok _ rfl
    · rw [if_neg h, if_neg (fun z => h z.1)]
      exact R.slots j
  · rw [at_set, sig_set hs] at c
    by_cases h : j = i
    · rw [if_pos h, if_pos ⟨h, hi⟩] at c
      have e := cl _ a rfl c
      subst e
      exact ⟨hG, h0, hτ⟩
    · rw [if_neg h, if_neg (fun z => h z.1)] at c
      exact R.cell j a c
  · rw [at_set, sig_set hs] at c d
    by_cases h : j = i
    · rw [if_pos h, if_pos ⟨h, hi⟩] at c
      have e := cl _ a rfl c
      subst e
      by_cases h2 : k = i
      · rw [h, h2]
      · rw [if_neg h2, if_neg (fun z => h2 z.1)] at d
        exact (ap k h2 d).elim
    · rw [if_neg h, if_neg (fun z => h z.1)] at c
      by_cases h2 : k = i
      · rw [if_pos h2, if_pos ⟨h2, hi⟩] at d
        have e := cl _ a rfl d
        subst e
        exact (ap j h c).elim
      · rw [if_neg h2, if_neg (fun z => h2 z.1)] at d
        exact R.apart j k a c d
/-- an address that was free is no name's -/
theorem Rel.notCell (R : Rel K mg τ H0 G0 G H σ ρ n) {p : Addr} (hp : H p = none) (j : Nat) : ¬ CellOf H σ[j]? (ρ.at j) p := fun c => by
  obtain ⟨o, e⟩ := cell_there (R.slots j) c
  rw [hp] at e
  cases e
end

/-! ### patterns -/
inductive Pat where
  | nm (i : Nat)
  | tup (is : List Nat)
def gSlots : List Nat → TGs
  | [] => gNil
  | i :: r => gCons (gName i) (gSlots r)
def gPat (K : PySem.W.Frag) : Pat → TG
  | .nm i => gName i
  | .tup is => gTup K is.length (gSlots is)
def setAll : List Nat → List D → Mi.Env → Option Mi.Env
  | [], [], ρ => some ρ
  | i :: r, d :: ds, ρ => setAll r ds (ρ.set i (.fz d))
  | _, _, _ => none
def patSet : Pat → D → Mi.Env → Option Mi.Env
  | .nm i, d, ρ => some (ρ.set i (.fz d))
  | .tup is, .tuple ds, ρ => setAll is ds ρ
  | _, _, _ => none
def Pat.slots : Pat → List Nat
  | .nm i => [i]
  | .tup is => is
section
variable {K : PySem.W.Frag} {mg : Str → Option Value} {τ : Option Addr} {H0 G0 G G' G1 H H' H1 : Hp} {σ : L2.St} {ρ ρ' : Mi.Env} {n n1 : Nat}
def sets : List Nat → List V → L2.St → L2.St
  | i :: r, v :: vs, σ => sets r vs (σ.set i (some v))
  | _, _, σ => σ
theorem gSlots_of : ∀ {is : List Nat} {vs : List V} {ds : List D} {σ : L2.St} {ρ ρ' : Mi.Env} {Q : L2.St → Hp → Prop}, Rel K mg τ H0 G0 G H σ ρ n → Reps K mg τ G vs ds → setAll is ds ρ = some ρ' →
    (Rel K mg τ H0 G0 G H (sets is vs σ) ρ' n → Q (sets is vs σ) H) → gSlots is vs σ H Q
  | [], _, _, σ, ρ, ρ', Q, R, .nil, e, q => by
    cases e
    exact ⟨rfl, q R⟩
  | [], _, _, σ, ρ, ρ', Q, R, .cons _ _, e, q => by cases e
  | i :: r, _, _, σ, ρ, ρ', Q, R, .nil, e, q => by cases e
  | i :: r, _, _, σ, ρ, ρ', Q, R, .cons h t, e, q => ⟨_, _, rfl, gSlots_of (R.set i h) t e q⟩
def setP (p : Pat) (v : V) (vs : List V) (σ : L2.St) : L2.St := match p with
  | .nm i => σ.set i (some v)
  | .tup is => sets is vs σ
theorem gPat_of {p : Pat} {v : V} {d : D} {Q : L2.St → Hp → Prop} (R : Rel K mg τ H0 G0 G H σ ρ n) (r : Rep K mg τ G v d) (e : patSet p d ρ = some ρ') (q : ∀ vs, Rel K mg τ H0 G0 G H (setP p v vs σ) ρ' n → Q (setP p v vs σ) H) : gPat K p v σ H Q := by
  cases p with
  | nm i =>
    cases e
    exact q [] (R.set i r)
  | tup is =>
    cases r with
    | tup ha qa =>
      refine ⟨_, _, rfl, sqt_le R.le ha, ?_, gSlots_of R qa e fun R' => q _ R'⟩
      have key : ∀ {is : List Nat} {ds : List D} {ρ ρ' : Mi.Env}, setAll is ds ρ = some ρ' → ds.length = is.length := by
        intro is
        induction is with
        | nil =>
          intro ds ρ ρ' h
          cases ds with
          | nil => rfl
          | cons _ _ => cases h
        | cons i r ih =>
          intro ds ρ ρ' h
          cases ds with
          | nil => cases h
          | cons d ds => exact congrArg Nat.succ (ih h)
      rw [qa.length]
      exact key e
    | _ => cases e
theorem wipe_get {σ : L2.St} {j : Nat} : ∀ {vs : List Nat}, j < σ.length → (wipe σ vs)[j]? = if j ∈ vs then some none else σ[j]?
  | [], _ => by simp [wipe]
  | v :: vs, h => by
    unfold wipe
    by_cases e : v = j
    · subst e
      rw [List.getElem?_set_self (by rw [wipe_length]; exact h), if_pos List.mem_cons_self]
    · rw [List.getElem?_set_ne e, wipe_get h]
      by_cases m : j ∈ vs
      · rw [if_pos m, if_pos (List.mem_cons_of_mem _ m)]
      · rw [if_neg m, if_neg (by simp only [List.mem_cons, not_or]; exact ⟨fun z => e z.symm, m⟩)]
theorem wipe_of {σ σ' : L2.St} {vs : List Nat} (hl : σ.length = σ'.length) (h : ∀ j, j ∉ vs → σ[j]? = σ'[j]?) : wipe σ vs = wipe σ' vs := by
  apply List.ext_getElem?
  intro j
  by_cases hj : j < σ.length
  · rw [wipe_get hj, wipe_get (by rw [← hl]; exact hj)]
    by_cases m : j ∈ vs
    · rw [if_pos m, if_pos m]
    · rw [if_neg m, if_neg m, h j m]
  · rw [List.getElem?_eq_none (by rw [wipe_length]; omega), List.getElem?_eq_none (by rw [wipe_length]; omega)]
theorem sets_out {j : Nat} : ∀ {is : List Nat} {vs : List V} {σ : L2.St}, j ∉ is → (sets is vs σ)[j]? = σ[j]?
  | [], _, _, _ => by unfold sets; rfl
  | i :: r, [], _, _ => by unfold sets; rfl
  | i :: r, v :: vs, σ, h => by
    have h1 : ¬ j = i ∧ j ∉ r := by simpa using h
    unfold sets
    rw [sets_out h1.2, List.getElem?_set_ne (Ne.symm h1.1)]
theorem sets_len : ∀ {is : List Nat} {vs : List V} {σ : L2.St}, (sets is vs σ).length = σ.length
  | [], _, _ => by unfold sets; rfl
  | i :: r, [], _ => by unfold sets; rfl
  | i :: r, v :: vs, σ => by
    unfold sets
    rw [sets_len, List.length_set]
theorem wipe_pat {p : Pat} {v : V} {ws : List V} {vs : List Nat} (h : ∀ i ∈ p.slots, i ∈ vs) : wipe (setP p v ws (wipe σ vs)) vs = wipe σ vs := by
  refine wipe_of ?_ fun j hj => ?_
  · cases p with
    | nm i => simp [setP, wipe_length]
    | tup is => show (sets is ws (wipe σ vs)).length = _; rw [sets_len, wipe_length]
  · rw [← wipe_out (σ := σ) hj]
    cases p with
    | nm i =>
      show ((wipe σ vs).set i (some v))[j]? = _
      rw [List.getElem?_set_ne (fun z : i = j => hj (z ▸ h i (by simp [Pat.slots])))]
    | tup is => exact sets_out fun z => hj (h j z)
end
section
variable {X : Cx} {pos : Pos}
theorem g_nm {i : Nat} {x : Str} (hN : X.N.Nodup) (hi : X.N[i]? = some x) (hx : Loc X.env.scope x) (hf : X.fn x = true ∨ X.env.scope.names.lookup x = some .local := by first | exact .inl rfl | exact .inr rfl | assumption) : PG X (.Name x pos) (gPat X.K (.nm i)) := pg_name hN hi hx hf
theorem g_tup {es : List Expr} {k : Nat} {is : List Nat} (hc : X.calm = true) (h : PGs X es (gSlots is)) (hn : (assignEach es X.env).length = is.length := by rfl) (hst : (assignEach es X.env).findIdx? (·.1) = none := by rfl) : PG X (.Tuple es k pos) (gPat X.K (.tup is)) := pg_tup hc h hn hst
end

/-! ### what is walked -/
def Yields (K : PySem.W.Frag) (mg : Str → Option Value) (τ : Option Addr) (G : Hp) (J : It) (ds : List D) : Prop := ∀ (i : Nat) (Gc Hc : Hp) (m : Nat), (∀ a u, G a = some u → Gc a = some u) → Le Gc Hc → (∀ a, τ = some a → Gc a = none) → Town τ m Hc →
  (i < ds.length → J.go i Hc) ∧ (∀ x Hc' d, ds[i]? = some d → J.yld i Hc x Hc' → ∃ Gc', Step τ Hc Gc Hc' Gc' ∧ Town τ m Hc' ∧ Rep K mg τ Gc' x d) ∧ (ds.length ≤ i → J.stop i Hc)
abbrev cI (K : PySem.W.Frag) (mg : Str → Option Value) (E : L2.St → XK) (f : Mi.Env → M (List D)) : TI := cG K mg (Yields K mg) E f
section
variable {X : Cx} {E : L2.St → XK} {tg a b e iter : Expr} {es : List Expr} {pos : Pos} {fa fb fc f : Mi.Env → M D} {fs ls : Mi.Env → M (List D)}
theorem pi_mono {t t' : TI} (h : PI X tg iter t) (i : ∀ σ H R, t' σ H R → t σ H R) : PI X tg iter t' := ⟨fun pins s σ H R I q => h.run pins s σ H R I (i σ H R q)⟩
theorem pi_or {t t' : TI} (h : PI X tg iter t) (h' : PI X tg iter t') : PI X tg iter (fun σ H R => t σ H R ∨ t' σ H R) := ⟨fun pins s σ H R I q => q.elim (h.run pins s σ H R I) (h'.run pins s σ H R I)⟩
def iSeq (f : Mi.Env → M D) : Mi.Env → M (List D) := fun ρ => do
  let x ← f ρ
  match x with
  | .list ds => pure ds
  | .tuple ds => pure ds
  | _ => bad
theorem yields_list {K : PySem.W.Frag} {mg : Str → Option Value} {τ : Option Addr} {G : Hp} {a : Addr} {vs : List V} {ds : List D} (h : G a = some (.lst vs)) (r : Reps K mg τ G vs ds) : Yields K mg τ G (Itl K a) ds := fun i Gc Hc m sub l nt tw => by
  have ha : SqL K Hc a vs := .inl (.inl (l.list (sub _ _ h)))
  refine ⟨fun hi => ?_, fun x Hc' d hd y => ?_, fun hi => ⟨vs, ha, by rw [r.length]; exact hi⟩⟩
  · obtain ⟨d, hd⟩ : ∃ d, ds[i]? = some d := ⟨_, List.getElem?_eq_getElem hi⟩
    obtain ⟨v, hv, _⟩ := r.get hd
    exact ⟨vs, v, ha, hv⟩
  · obtain ⟨rfl, y⟩ := y
    obtain ⟨v, hv, rv⟩ := r.get hd
    have e := y vs ha
    rw [hv] at e
    cases e
    exact ⟨Gc, Step.refl l nt, tw, rv.sub sub⟩
theorem yields_tup {K : PySem.W.Frag} {mg : Str → Option Value} {τ : Option Addr} {G : Hp} {a : Addr} {vs : List V} {ds : List D} (h : SqT K G a vs) (r : Reps K mg τ G vs ds) : Yields K mg τ G (Itt K a) ds := fun i Gc Hc m sub l nt tw => by
  have ha : SqT K Hc a vs := sqt_le l (sqt_le (rd_sub sub) h)
  refine ⟨fun hi => ?_, fun x Hc' d hd y => ?_, fun hi => ⟨vs, ha, by rw [r.length]; exact hi⟩⟩
  · obtain ⟨d, hd⟩ : ∃ d, ds[i]? = some d := ⟨_, List.getElem?_eq_getElem hi⟩
    obtain ⟨v, hv, _⟩ := r.get hd
    exact ⟨vs, v, ha, hv⟩
  · obtain ⟨rfl, y⟩ := y
    obtain ⟨v, hv, rv⟩ := r.get hd
    have e := y vs ha
    rw [hv] at e
    cases e
    exact ⟨Gc, Step.refl l nt, tw, rv.sub sub⟩
theorem bnd_ok {α β : Type} {m : M α} {g : α → M β} {n k : Nat} {a : α} (e : m n = .ok a k) : (m >>= g) n = g a k := by
  show M.bnd m g n = _
  unfold M.bnd
  rw [e]
theorem i_seq (ha : PE X iter (cT X.K X.mg E fa)) : PI X tg iter (cI X.K X.mg E (iSeq fa)) :=
  pi_mono (pi_or (pi_list ha) (pi_tup ha)) fun σ H Q ⟨τ, H0, G0, G, ρ, n, R, h⟩ => by
    have key : ∀ (P : V → Hp → Prop), (∀ x H1, (∃ d n1 G1, Step τ H G H1 G1 ∧ Town τ n1 H1 ∧ Rep X.K X.mg τ G1 x d ∧ fa ρ n = .ok d n1 ∧
        Post X.mg τ H1 G1 (E σ) (Yields X.K X.mg τ) ((match d with | .list ds => pure ds | .tuple ds => pure ds | _ => bad : M (List D)) n1) Q) → P x H1) → cT X.K X.mg E fa σ H P := fun P hP => by
      refine ⟨τ, H0, G0, G, ρ, n, R, ?_⟩
      have hb := Post.bind (rep := Rep X.K X.mg τ) h
      cases e : fa ρ n with
      | ok d k =>
        rw [e] at hb
        intro v H' G' s t r
        have h2 : Post X.mg τ H G (E σ) (Yields X.K X.mg τ) (((fa ρ) >>= fun x => (match x with | .list ds => pure ds | .tuple ds => pure ds | _ => bad : M (List D))) n) Q := h
        rw [bnd_ok e] at h2
        exact hP v H' ⟨d, k, G', s, t, r, e, Post.shift s h2⟩
      | err c k =>
        rw [e] at hb
        exact hb
      | bad =>
        rw [e] at hb
        exact hb.elim
    cases e : fa ρ n with
    | err c k => exact .inl (key _ fun x H1 ⟨d, n1, G1, _, _, _, e', _⟩ => by rw [e] at e'; cases e')
    | bad => exact .inl (key _ fun x H1 ⟨d, n1, G1, _, _, _, e', _⟩ => by rw [e] at e'; cases e')
    | ok d k =>
      cases d with
      | tuple ds =>
        refine .inr (key _ fun x H1 ⟨d, n1, G1, st, tw, r, e', h1⟩ => ?_)
        rw [e] at e'
        cases e'
        cases r with
        | tup ha qa => exact ⟨_, rfl, ⟨_, sqt_le st.le ha⟩, Post.ret h1 (R.next st tw).refl tw (yields_tup ha qa)⟩
      | _ =>
        refine .inl (key _ fun x H1 ⟨d, n1, G1, st, tw, r, e', h1⟩ => ?_)
        rw [e] at e'
        cases e'
        first
          | (cases r with
             | lst ha qa => exact ⟨_, rfl, ⟨_, .inl (.inl (st.le.list ha))⟩, Post.ret h1 (R.next st tw).refl tw (yields_list ha qa)⟩)
          | exact (show False from h1).elim
theorem yields_range {K : PySem.W.Frag} {mg : Str → Option Value} {τ : Option Addr} {G : Hp} (lo : Int) (k : Nat) : Yields K mg τ G (Itr lo k) ((List.range k).map fun j : Nat => PyData.int (lo + (j : Int))) := fun i Gc Hc m sub l nt tw => by
  refine ⟨fun hi => by simpa [Itr] using hi, fun x Hc' d hd y => ?_, fun hi => by simpa [Itr] using hi⟩
  obtain ⟨rfl, rfl⟩ := y
  rw [List.getElem?_map] at hd
  cases e : (List.range k)[i]? with
  | none =>
    rw [e] at hd
    cases hd
  | some j =>
    rw [e] at hd
    cases hd
    have z : j = i := by
      obtain ⟨h1, h2⟩ := List.getElem?_eq_some_iff.mp e
      rw [List.getElem_range] at h2
      exact h2.symm
    subst z
    exact ⟨Gc, Step.refl l nt, tw, .int _⟩
def iRange1 (fs : Mi.Env → M (List D)) : Mi.Env → M (List D) := fun ρ => do
  let xs ← fs ρ
  match xs with
  | [.int j] => do need (decide (-(2 ^ 62) ≤ j ∧ j < 2 ^ 62)); pure ((List.range j.toNat).map fun k : Nat => PyData.int (0 + (k : Int)))
  | _ => bad
def iRange2 (fs : Mi.Env → M (List D)) : Mi.Env → M (List D) := fun ρ => do
  let xs ← fs ρ
  match xs with
  | [.int i, .int j] => do need (decide (-(2 ^ 62) ≤ i ∧ i < 2 ^ 62 ∧ -(2 ^ 62) ≤ j ∧ j < 2 ^ 62)); pure ((List.range (j - i).toNat).map fun k : Nat => PyData.int (i + (k : Int)))
  | _ => bad
theorem i_range1 {p : Pos} (hm : X.mg "range" = none) (ha : PA X [a] (cA X.K X.mg E fs)) (hg : Gl X "range" := by rfl) (hs : starEach [a] X.env = [(false, eval a X.env)] := by rfl) : PI X tg (.Call (.Name "range" p) [a] [] pos) (cI X.K X.mg E (iRange1 fs)) :=
  pi_mono (pi_range1 hg hm ha hs) fun σ H Q ⟨τ, H0, G0, G, ρ, n, R, h⟩ => ⟨τ, H0, G0, G, ρ, n, R, Post.mono (fun xs H1 => by
    rintro ⟨ds, n1, G1, st, tw, r, h1⟩
    cases r with
    | nil => exact (show False from h1).elim
    | cons r1 r2 =>
      cases r1 with
      | int j =>
        cases r2 with
        | nil =>
          obtain ⟨hz, h1⟩ := Post.need h1
          have z : -(2 ^ 62) ≤ j ∧ j < 2 ^ 62 := of_decide_eq_true hz
          exact ⟨j, rfl, z.1, z.2, Post.ret h1 (R.next st tw).refl tw (yields_range 0 _)⟩
        | cons _ _ => exact (show False from h1).elim
      | _ => exact (show False from h1).elim) (Post.bind (rep := Reps X.K X.mg τ) h)⟩
theorem i_range2 {p : Pos} (hm : X.mg "range" = none) (ha : PA X [a, b] (cA X.K X.mg E fs)) (hg : Gl X "range" := by rfl) (hs : starEach [a, b] X.env = [(false, eval a X.env), (false, eval b X.env)] := by rfl) (hs2 : starEach [b] X.env = [(false, eval b X.env)] := by rfl) :
    PI X tg (.Call (.Name "range" p) [a, b] [] pos) (cI X.K X.mg E (iRange2 fs)) :=
  pi_mono (pi_range2 hg hm ha hs hs2) fun σ H Q ⟨τ, H0, G0, G, ρ, n, R, h⟩ => ⟨τ, H0, G0, G, ρ, n, R, Post.mono (fun xs H1 => by
    rintro ⟨ds, n1, G1, st, tw, r, h1⟩
    cases r with
    | nil => exact (show False from h1).elim
    | cons r1 r2 =>
      cases r1 with
      | int i =>
        cases r2 with
        | nil => exact (show False from h1).elim
        | cons r2 r3 =>
          cases r2 with
          | int j =>
            cases r3 with
            | nil =>
              obtain ⟨hz, h1⟩ := Post.need h1
              have z : -(2 ^ 62) ≤ i ∧ i < 2 ^ 62 ∧ -(2 ^ 62) ≤ j ∧ j < 2 ^ 62 := of_decide_eq_true hz
              exact ⟨i, j, rfl, z, Post.ret h1 (R.next st tw).refl tw (yields_range i _)⟩
            | cons _ _ => exact (show False from h1).elim
          | _ => exact (show False from h1).elim
      | _ => exact (show False from h1).elim) (Post.bind (rep := Reps X.K X.mg τ) h)⟩
end

/-! ### comprehensions -/
def wipeE (ρ : Mi.Env) : List Nat → Mi.Env
  | [] => ρ
  | v :: vs => (wipeE ρ vs).set v .no
theorem wipeE_len (ρ : Mi.Env) : ∀ vs : List Nat, (wipeE ρ vs).length = ρ.length
  | [] => rfl
  | v :: vs => by unfold wipeE; rw [List.length_set, wipeE_len ρ vs]
theorem wipeE_at (ρ : Mi.Env) (j : Nat) : ∀ vs : List Nat, (wipeE ρ vs).at j = if j ∈ vs then .no else ρ.at j
  | [] => by simp [wipeE]
  | v :: vs => by
    unfold wipeE
    rw [at_set, wipeE_len, wipeE_at ρ j vs]
    by_cases e : j = v
    · subst e
      by_cases h : j < ρ.length
      · rw [if_pos ⟨rfl, h⟩, if_pos List.mem_cons_self]
      · rw [if_neg (fun z => h z.2), if_pos List.mem_cons_self]
        have : ρ.at j = .no := by
          unfold Env.at
          rw [List.getD_eq_getElem?_getD, List.getElem?_eq_none (by omega)] <;> rfl
        rw [this]
        split <;> rfl
    · rw [if_neg (fun z => e z.1)]
      by_cases m : j ∈ vs
      · rw [if_pos m, if_pos (List.mem_cons_of_mem _ m)]
      · rw [if_neg m, if_neg (by simp only [List.mem_cons, not_or]; exact ⟨e, m⟩)]
theorem Rel.wipe {K : PySem.W.Frag} {mg : Str → Option Value} {τ : Option Addr} {H0 G0 G H : Hp} {σ : L2.St} {ρ : Mi.Env} {n : Nat} (R : Rel K mg τ H0 G0 G H σ ρ n) (vs : List Nat) : Rel K mg τ H0 G0 G H (L2.wipe σ vs) (wipeE ρ vs) n :=
  R.weak (by rw [wipeE_len, wipe_length, R.len]) fun i => by
    rw [wipeE_at]
    by_cases m : i ∈ vs
    · exact .inl (if_pos m)
    · exact .inr ⟨if_neg m, wipe_out m⟩
def compL (pat : D → Option Mi.Env) (tt : Mi.Env → M Bool) (fe : Mi.Env → M D) : List D → List D → M (List D)
  | [], acc => pure acc
  | d :: r, acc => do
    let ρ' ← ofOpt (pat d)
    let b ← noErr (tt ρ')
    if b = true then do
      let y ← noErr (fe ρ')
      need (decide (acc.length < sizeLine))
      compL pat tt fe r (acc ++ [y])
    else compL pat tt fe r acc
def lComp (fi : Mi.Env → M (List D)) (p : Pat) (own : List Nat) (tt : Mi.Env → M Bool) (fe : Mi.Env → M D) : Mi.Env → M (List D) := fun ρ => do
  let ds ← fi ρ
  compL (fun d => patSet p d (wipeE ρ own)) tt fe ds []
abbrev E0s : L2.St → XK := fun _ _ _ _ => False
def tYesM : Mi.Env → M Bool := fun _ => pure true
section
variable {α β : Type} {K : PySem.W.Frag} {mg : Str → Option Value} {τ : Option Addr} {H1 G1 H G : Hp} {Ex : XK} {Q : VK} {rep : Hp → β → α → Prop} {m : M α} {g : α → M (List D)} {n : Nat}
theorem PostF.bindNo (h : PostF K mg τ H1 G1 Ex ((noErr m >>= g) n) Q) :
    Post mg τ H G (fun _ _ _ => False) rep (m n) fun x H2 => ∃ a n2 G2, Step τ H G H2 G2 ∧ Town τ n2 H2 ∧ rep G2 x a ∧ PostF K mg τ H1 G1 Ex (g a n2) Q := by
  have h' : PostF K mg τ H1 G1 Ex (M.bnd (noErr m) g n) Q := h
  unfold M.bnd noErr at h'
  cases e : m n with
  | ok a k =>
    rw [e] at h'
    exact fun v H' G' s t p => ⟨a, k, G', s, t, p, h'⟩
  | err c k =>
    rw [e] at h'
    exact h'.elim
  | bad =>
    rw [e] at h'
    exact h'.elim
theorem PostF.opt {γ : Type} {o : Option γ} {g : γ → M (List D)} (h : PostF K mg τ H G Ex ((ofOpt o >>= g) n) Q) : ∃ x, o = some x ∧ PostF K mg τ H G Ex (g x n) Q := by
  cases o with
  | none => exact (show False from h).elim
  | some x => exact ⟨x, rfl, h⟩
end
section
variable {X : Cx} {E : L2.St → XK} {tg iter elt : Expr} {ifs : List Expr} {scope : Scope} {own : List (Str × Nat)} {pos : Pos} {p : Pat} {fi : Mi.Env → M (List D)} {tt : Mi.Env → M Bool} {fe : Mi.Env → M D}
theorem lc_step {σ : L2.St} {H : Hp} {vs : List Nat} {Q : VK} (hp : ∀ i ∈ p.slots, i ∈ vs) (h : cF X.K X.mg E (lComp fi p vs tt fe) σ H Q) : tLc (cI X.K X.mg E fi) (gPat X.K p) (cB X.K X.mg E0s tt) (cT X.K X.mg E0s fe) vs σ H Q := by
  obtain ⟨τ, H0, G0, G, ρ, n, R, h⟩ := h
  refine ⟨τ, H0, G0, G, ρ, n, R, Post.mono (fun J H1 => ?_) (PostF.bind (rep := Yields X.K X.mg τ) h)⟩
  rintro ⟨ds, n1, G1, st, tw, ys, h1⟩
  have R1 := R.next st tw
  intro Dn hDn
  refine ⟨fun i m H2 => m = ds.length - i ∧ i ≤ ds.length ∧ ∃ G2 n2 accV accD, Step τ H1 G1 H2 G2 ∧ Town τ n2 H2 ∧ H2 Dn = some (.lst accV) ∧ G2 Dn = none ∧ Reps X.K X.mg τ G2 accV accD ∧
    PostF X.K X.mg τ H1 G1 (E σ) (compL (fun d => patSet p d (wipeE ρ vs)) tt fe (ds.drop i) accD n2) Q, ⟨ds.length, by simp, Nat.zero_le _, G1, n1, [], [], Step.other R1.le R1.nt hDn, tw.upd hDn, upd_same, R1.le.none hDn, .nil, h1⟩, ?_⟩
  rintro i m H2 ⟨rfl, hi, G2, n2, accV, accD, st2, tw2, hD, gD, ra, h2⟩
  have R2 := R1.next st2 tw2
  obtain ⟨yg, yy, ye⟩ := ys i G2 H2 n2 st2.sub st2.le st2.nt tw2
  by_cases hlt : i < ds.length
  · refine .inr ⟨yg hlt, fun H3 => ∃ m', m' = ds.length - (i + 1) ∧ i + 1 ≤ ds.length ∧ ∃ G2 n2 accV accD, Step τ H1 G1 H3 G2 ∧ Town τ n2 H3 ∧ H3 Dn = some (.lst accV) ∧ G2 Dn = none ∧ Reps X.K X.mg τ G2 accV accD ∧
      PostF X.K X.mg τ H1 G1 (E σ) (compL (fun d => patSet p d (wipeE ρ vs)) tt fe (ds.drop (i + 1)) accD n2) Q, fun H3 ⟨m', h1, h2⟩ => ⟨m', by omega, h1, h2⟩, fun x H3 hy => ?_⟩
    have ed : ds[i]? = some ds[i] := List.getElem?_eq_getElem hlt
    obtain ⟨G3, st3, tw3, rx⟩ := yy x H3 _ ed hy
    have R3 := (R2.next st3 tw3).wipe vs
    rw [List.drop_eq_getElem_cons hlt] at h2
    have hneτ : some Dn ≠ τ := fun z => tw2.ne Dn z.symm |> fun w => by
      have := tw.ne Dn z.symm
      exact this hDn
    have keepD : ∀ {Ha Ga Hb Gb : Hp} {av : List V}, Step τ Ha Ga Hb Gb → Ha Dn = some (.lst av) → Ga Dn = none → Hb Dn = some (.lst av) ∧ Gb Dn = none := fun {Ha Ga Hb Gb av} s e1 e2 => by
      refine ⟨s.keep _ _ e1 hneτ, ?_⟩
      cases q : Gb Dn with
      | none => rfl
      | some u =>
        rcases s.new _ _ q with w | w
        · rw [e2] at w; cases w
        · rw [e1] at w; cases w
    obtain ⟨hD3, gD3⟩ := keepD st3 hD gD
    obtain ⟨ρ', eρ, h2⟩ := PostF.opt h2
    refine gPat_of R3 rx eρ fun ws R3 => ⟨wipe_pat hp, ?_⟩
    refine ⟨τ, H0, G0, G3, ρ', n2, R3, Post.mono (fun b H4 => ?_) (PostF.bindNo (rep := fun _ b c => b = c) h2)⟩
    rintro ⟨b', n4, G4, st4, tw4, rfl, h4⟩
    have R4 := R3.next st4 tw4
    obtain ⟨hD4, gD4⟩ := keepD st4 hD3 gD3
    have st24 := (st2.trans st3).trans st4
    cases b with
    | false =>
      rw [if_neg Bool.false_ne_true]
      exact ⟨_, rfl, hlt, G4, n4, accV, accD, st24, tw4, hD4, gD4, (ra.sub st3.sub).sub st4.sub, h4⟩
    | true =>
      rw [if_pos rfl]
      refine ⟨τ, H0, G0, G4, ρ', n4, R4, Post.mono (fun y H5 => ?_) (PostF.bindNo (rep := Rep X.K X.mg τ) h4)⟩
      rintro ⟨dy, n5, G5, st5, tw5, ry, h5⟩
      obtain ⟨hD5, gD5⟩ := keepD st5 hD4 gD4
      obtain ⟨hz, h5⟩ := PostF.need h5
      have ra5 := ((ra.sub st3.sub).sub st4.sub).sub st5.sub
      have st25 := st24.trans st5
      refine ⟨accV, hD5, by rw [ra.length]; exact of_decide_eq_true hz, _, rfl, hlt, G5, n5, accV ++ [y], accD ++ [dy], ⟨fun b o e ne => ?_, st25.sub, st25.new, fun a u e => ?_, st25.nt⟩, fun a e => ?_, upd_same, gD5, ra5.append (.one ry), h5⟩
      · have nb : b ≠ Dn := by
          rintro rfl
          rw [hDn] at e
          cases e
        rw [upd_ne nb]
        exact st25.keep b o e ne
      · have nb : a ≠ Dn := by
          rintro rfl
          rw [gD5] at e
          cases e
        rw [upd_ne nb]
        exact st25.le a u e
      · have nb : a ≠ Dn := by
          rintro rfl
          exact hneτ e.symm
        rw [upd_ne nb]
        exact tw5 a e
  · have e : i = ds.length := by omega
    subst e
    refine .inl ⟨ye (Nat.le_refl _), ?_⟩
    rw [List.drop_length] at h2
    exact h2 Dn accV H2 G2 st2 tw2 hDn hD gD ra
theorem l_comp (hc : X.calm = true) (hN : X.N.Nodup) (hi : PI X tg iter (cI X.K X.mg E fi)) (ok : BlkOk X.N X.env.scope scope own)
    (hg : ∀ (s : Shared) (H : Hp) (C : Addr) (cl : List (Str × Addr)) (fp : List Addr), PG (X.blk s H scope (compEnvC scope cl C X.env) fp) tg (gPat X.K p))
    (ht : ∀ (s : Shared) (H : Hp) (C : Addr) (cl : List (Str × Addr)) (fp : List Addr), PTs (X.blk s H scope (compEnvC scope cl C X.env) fp) ifs (cB X.K X.mg E0s tt))
    (he : ∀ (s : Shared) (H : Hp) (C : Addr) (cl : List (Str × Addr)) (fp : List Addr), PE (X.blk s H scope (compEnvC scope cl C X.env) fp) elt (cT X.K X.mg E0s fe))
    (hp : ∀ i ∈ p.slots, i ∈ own.map (·.2) := by decide) (hs : ∀ x, foldedSetIterable iter X.env x = pure x := by intro _; rfl) :
    PE X (.ListComp elt [⟨tg, iter, ifs, 0⟩] scope pos) (cF X.K X.mg E (lComp fi p (own.map (·.2)) tt fe)) :=
  pe_mono (pe_lc hc hN hi ok hg ht he hs) fun σ H Q h => lc_step hp h
theorem ts_nil {X : Cx} : PTs X [] (cB X.K X.mg E0s tYesM) := ⟨fun pins s σ H Q I h => by
  obtain ⟨τ, H0, G0, G, ρ, n, R, h⟩ := h
  exact pts_nil.run pins s σ H Q I (Post.ret h R.refl R.town rfl)⟩
theorem ts_one {X : Cx} {c : Expr} {t : Mi.Env → M Bool} (h : PT X c (cB X.K X.mg E0s t)) : PTs X [c] (cB X.K X.mg E0s t) := pts_one h
end
end Mi

end

section
set_option Elab.async false
set_option linter.all false
set_option maxRecDepth 100000
set_option maxHeartbeats 4000000
namespace Mi
open PySem PySem.Spec L2

/-! ### statements -/
inductive Fl where
  | nx
  | rt (d : D)
  | bk
  | ct
  | ro (ds : List D)
abbrev MS := Mi.Env → M (Mi.Env × Fl)
section
variable (K : PySem.W.Frag) (mg : Str → Option Value)
def FlOk (τ : Option Addr) (H0 : Hp) (G' : Hp) (Dn : Ends) (σ' : L2.St) (H' : Hp) : Fl → Prop
  | .nx => Dn.nx σ' H'
  | .rt d => ∀ v, Rep K mg τ G' v d → Dn.rt v H'
  | .bk => Dn.bk σ' H'
  | .ct => Dn.ct σ' H'
  | .ro ds => ∀ p vs, H0 p = none → H' p = some (.lst vs) → G' p = none → some p ≠ τ → Reps K mg τ G' vs ds → Dn.rt (.ref p) H'
def PostS (τ : Option Addr) (H0 G0 G : Hp) (E : XK) (r : Res (Mi.Env × Fl)) (Dn : Ends) : Prop :=
  match r with
  | .ok p n => ∀ σ' H' G', Rel K mg τ H0 G0 G' H' σ' p.1 n → (∀ a u, G a = some u → G' a = some u) → FlOk K mg τ H0 G' Dn σ' H' p.2
  | .err c n => ∀ C H', mg c = some (.ref C) → Keep τ H0 H' → Town τ n H' → E (.ref C) none H'
  | .bad => False
def cS (E : XK) (f : MS) : TS := fun Dn σ H => ∃ τ H0 G0 G ρ n, Rel K mg τ H0 G0 G H σ ρ n ∧ PostS K mg τ H0 G0 G E (f ρ n) Dn
end
section
variable {α β : Type} {K : PySem.W.Frag} {mg : Str → Option Value} {τ : Option Addr} {H0 G0 G G1 H H1 : Hp} {σ : L2.St} {ρ : Mi.Env} {n : Nat} {E : XK} {Dn : Ends} {rep : Hp → β → α → Prop}
theorem PostS.shift (s : ∀ a u, G a = some u → G1 a = some u) : ∀ {r : Res (Mi.Env × Fl)}, PostS K mg τ H0 G0 G E r Dn → PostS K mg τ H0 G0 G1 E r Dn
  | .ok d n, h => fun σ' H' G' R k => h σ' H' G' R fun a u e => k a u (s a u e)
  | .err c n, h => h
  | .bad, h => h
theorem PostS.expr {m : M α} {g : α → M (Mi.Env × Fl)} (R : Rel K mg τ H0 G0 G H σ ρ n) (h : PostS K mg τ H0 G0 G E ((m >>= g) n) Dn) :
    Post mg τ H G E rep (m n) fun x H1 => ∃ a n1 G1, Rel K mg τ H0 G0 G1 H1 σ ρ n1 ∧ (∀ b u, G b = some u → G1 b = some u) ∧ rep G1 x a ∧ PostS K mg τ H0 G0 G1 E (g a n1) Dn := by
  have h' : PostS K mg τ H0 G0 G E (M.bnd m g n) Dn := h
  unfold M.bnd at h'
  cases e : m n with
  | ok a k =>
    rw [e] at h'
    exact fun v H' G' s t p => ⟨a, k, G', R.next s t, s.sub, p, PostS.shift s.sub h'⟩
  | err c k =>
    rw [e] at h'
    exact fun C H' mc kp tw => h' C H' mc (R.step.keep.trans kp) tw
  | bad =>
    rw [e] at h'
    exact h'.elim
theorem PostS.exprF {m : M (List D)} {g : List D → M (Mi.Env × Fl)} (R : Rel K mg τ H0 G0 G H σ ρ n) (h : PostS K mg τ H0 G0 G E ((m >>= g) n) Dn) :
    PostF K mg τ H G E (m n) fun x H1 => ∃ ds n1 G1 p vs, Rel K mg τ H0 G0 G1 H1 σ ρ n1 ∧ Step τ H G H1 G1 ∧ x = .ref p ∧ H p = none ∧ H1 p = some (.lst vs) ∧ G1 p = none ∧ Reps K mg τ G1 vs ds ∧ PostS K mg τ H0 G0 G1 E (g ds n1) Dn := by
  have h' : PostS K mg τ H0 G0 G E (M.bnd m g n) Dn := h
  unfold M.bnd at h'
  cases e : m n with
  | ok a k =>
    rw [e] at h'
    exact fun p vs H' G' s t e1 e2 e3 r => ⟨a, k, G', p, vs, R.next s t, s, rfl, e1, e2, e3, r, PostS.shift s.sub h'⟩
  | err c k =>
    rw [e] at h'
    exact fun C H' mc kp tw => h' C H' mc (R.step.keep.trans kp) tw
  | bad =>
    rw [e] at h'
    exact h'.elim
theorem PostF.mono {Q Q' : VK} (i : ∀ v H', Q v H' → Q' v H') : ∀ {r : Res (List D)}, PostF K mg τ H G E r Q → PostF K mg τ H G E r Q'
  | .ok d n, h => fun p vs H' G' s t a b c r => i _ _ (h p vs H' G' s t a b c r)
  | .err c n, h => h
  | .bad, h => h
theorem PostS.need {b : Bool} {g : Unit → M (Mi.Env × Fl)} (h : PostS K mg τ H0 G0 G E ((Mi.need b >>= g) n) Dn) : b = true ∧ PostS K mg τ H0 G0 G E (g () n) Dn := by
  cases b with
  | true => exact ⟨rfl, h⟩
  | false => exact (show False from h).elim
theorem PostS.opt {γ : Type} {o : Option γ} {g : γ → M (Mi.Env × Fl)} (h : PostS K mg τ H0 G0 G E ((ofOpt o >>= g) n) Dn) : ∃ x, o = some x ∧ PostS K mg τ H0 G0 G E (g x n) Dn := by
  cases o with
  | none => exact (show False from h).elim
  | some x => exact ⟨x, rfl, h⟩
theorem PostS.ret {p : Mi.Env × Fl} {H' : Hp} {σ' : L2.St} (h : PostS K mg τ H0 G0 G E ((pure p : M (Mi.Env × Fl)) n) Dn) (R : Rel K mg τ H0 G0 G H' σ' p.1 n) : FlOk K mg τ H0 G Dn σ' H' p.2 := h σ' H' G R fun _ _ e => e
end

def sNx : MS := fun ρ => pure (ρ, .nx)
def sSeq (f g : MS) : MS := fun ρ => f ρ >>= fun p => match p with
  | (ρ', .nx) => g ρ'
  | (ρ', .rt d) => pure (ρ', .rt d)
  | (ρ', .bk) => pure (ρ', .bk)
  | (ρ', .ct) => pure (ρ', .ct)
  | (ρ', .ro ds) => pure (ρ', .ro ds)
def sRet (f : Mi.Env → M D) : MS := fun ρ => do let d ← f ρ; pure (ρ, .rt d)
def sIf (c : Mi.Env → M Bool) (f g : MS) : MS := fun ρ => do let b ← c ρ; if b = true then f ρ else g ρ
def sSet (i : Nat) (f : Mi.Env → M D) : MS := fun ρ => do let d ← f ρ; pure (ρ.set i (.fz d), .nx)
def sPat (p : Pat) (f : Mi.Env → M D) : MS := fun ρ => do let d ← f ρ; let ρ' ← ofOpt (patSet p d ρ); pure (ρ', .nx)
def sOwn (i : Nat) (f : Mi.Env → M (List D)) : MS := fun ρ => do let ds ← f ρ; need (decide (i < ρ.length)); pure (ρ.set i (.ow ds), .nx)
def sOwn2 (i : Nat) (f : Mi.Env → M (List D)) : MS := fun ρ => do let ds ← f ρ; need (decide (i < ρ.length ∧ ds = [])); pure (ρ.set i (.ow2 []), .nx)
def sDrop (f : Mi.Env → M D) : MS := fun ρ => do let _ ← f ρ; pure (ρ, .nx)
/-- return of a list of the def's own -/
def sRetO (i : Nat) : MS := fun ρ => match ρ.at i with
  | .ow ds => pure (ρ, .ro ds)
  | _ => bad
def sRetF (f : Mi.Env → M (List D)) : MS := fun ρ => do let ds ← f ρ; pure (ρ, .ro ds)
def sRaise (c : Str) : MS := fun _ => refuse c
def sBreak : MS := fun ρ => pure (ρ, .bk)
def sCont : MS := fun ρ => pure (ρ, .ct)
def forL (p : Pat) (body : MS) : List D → MS
  | [], ρ => pure (ρ, .nx)
  | d :: r, ρ => do
    let ρ1 ← ofOpt (patSet p d ρ)
    body ρ1 >>= fun q => match q with
      | (ρ2, .nx) => forL p body r ρ2
      | (ρ2, .ct) => forL p body r ρ2
      | (ρ2, .bk) => pure (ρ2, .nx)
      | (ρ2, .rt d) => pure (ρ2, .rt d)
      | (ρ2, .ro ds) => pure (ρ2, .ro ds)
def sFor (fi : Mi.Env → M (List D)) (p : Pat) (body : MS) : MS := fun ρ => do let ds ← fi ρ; forL p body ds ρ
def whL (c : Mi.Env → M Bool) (body : MS) : Nat → MS
  | 0, _ => bad
  | k + 1, ρ => do
    let b ← c ρ
    if b = true then
      body ρ >>= fun q => match q with
        | (ρ2, .nx) => whL c body k ρ2
        | (ρ2, .ct) => whL c body k ρ2
        | (ρ2, .bk) => pure (ρ2, .nx)
        | (ρ2, .rt d) => pure (ρ2, .rt d)
        | (ρ2, .ro ds) => pure (ρ2, .ro ds)
    else pure (ρ, .nx)
def sWhile (k : Nat) (c : Mi.Env → M Bool) (body : MS) : MS := fun ρ => whL c body k ρ

section
variable {X : Cx} {E : XK} {W : WX} {pos : Pos} {e : Expr} {st : Stmt} {sts sts' : List Stmt} {f g : MS} {fe : Mi.Env → M D} {fl : Mi.Env → M (List D)} {fc : Mi.Env → M Bool}
abbrev kE (E : XK) : L2.St → XK := fun _ => E
theorem ss_nil : PSs X [] (cS X.K X.mg E sNx) := pss_mono pss_nil fun Dn σ H ⟨τ, H0, G0, G, ρ, n, R, h⟩ => PostS.ret h R
theorem seq_step {Dn : Ends} {σ : L2.St} {H : Hp} (h : cS X.K X.mg E (sSeq f g) Dn σ H) : tSeq (cS X.K X.mg E f) (cS X.K X.mg E g) Dn σ H := by
  obtain ⟨τ, H0, G0, G, ρ, n, R, h⟩ := h
  refine ⟨τ, H0, G0, G, ρ, n, R, ?_⟩
  have h' : PostS X.K X.mg τ H0 G0 G E (M.bnd (f ρ) _ n) Dn := h
  unfold M.bnd at h'
  cases e : f ρ n with
  | ok a k =>
    rw [e] at h'
    obtain ⟨ρ', fl⟩ := a
    cases fl with
    | nx => exact fun σ' H' G' R' s => ⟨τ, H0, G0, G', ρ', k, R', PostS.shift s h'⟩
    | rt d => exact h'
    | bk => exact h'
    | ct => exact h'
    | ro ds => exact h'
  | err c k =>
    rw [e] at h'
    exact h'
  | bad =>
    rw [e] at h'
    exact h'.elim
theorem ss_cons (h : PS X st (cS X.K X.mg E f)) (hs : PSs X sts (cS X.K X.mg E g)) : PSs X (st :: sts) (cS X.K X.mg E (sSeq f g)) := pss_mono (pss_cons h hs) fun _ _ _ h => seq_step h
theorem ss_one (h : PS X st (cS X.K X.mg E f)) : PSs X [st] (cS X.K X.mg E f) := pss_one h
theorem s_pass : PS X (.Pass pos) (cS X.K X.mg E sNx) := ps_mono ps_pass fun Dn σ H ⟨τ, H0, G0, G, ρ, n, R, h⟩ => PostS.ret h R
theorem s_break : PS X (.Break pos) (cS X.K X.mg E sBreak) := ps_mono ps_break fun Dn σ H ⟨τ, H0, G0, G, ρ, n, R, h⟩ => PostS.ret h R
theorem s_cont : PS X (.Continue pos) (cS X.K X.mg E sCont) := ps_mono ps_continue fun Dn σ H ⟨τ, H0, G0, G, ρ, n, R, h⟩ => PostS.ret h R
theorem s_ret (he : PE X e (cT X.K X.mg (kE E) fe)) : PS X (.Return (some e) pos) (cS X.K X.mg E (sRet fe)) :=
  ps_mono (ps_ret he) fun Dn σ H ⟨τ, H0, G0, G, ρ, n, R, h⟩ => ⟨τ, H0, G0, G, ρ, n, R, Post.mono (fun v H1 ⟨d, n1, G1, R1, s, r, h1⟩ => PostS.ret h1 R1 v r) (PostS.expr (rep := Rep X.K X.mg τ) R h)⟩
theorem s_if {c : Expr} (hc : PT X c (cB X.K X.mg (kE E) fc)) (ha : PSs X sts (cS X.K X.mg E f)) (hb : PSs X sts' (cS X.K X.mg E g)) : PS X (.If c sts sts' pos) (cS X.K X.mg E (sIf fc f g)) :=
  ps_mono (ps_if hc ha hb) fun Dn σ H ⟨τ, H0, G0, G, ρ, n, R, h⟩ => ⟨τ, H0, G0, G, ρ, n, R, Post.mono (fun b H1 ⟨b', n1, G1, R1, s, r, h1⟩ => by
    have r : b = b' := r
    subst r
    cases b with
    | true => exact ⟨τ, H0, G0, G1, ρ, n1, R1, h1⟩
    | false => exact ⟨τ, H0, G0, G1, ρ, n1, R1, h1⟩) (PostS.expr (rep := fun _ b c => b = c) R h)⟩
theorem set_step {i : Nat} {Dn : Ends} {σ : L2.St} {H : Hp} (h : cS X.K X.mg E (sSet i fe) Dn σ H) : tAsg (cT X.K X.mg (kE E) fe) (gName i) Dn σ H := by
  obtain ⟨τ, H0, G0, G, ρ, n, R, h⟩ := h
  refine ⟨τ, H0, G0, G, ρ, n, R, Post.mono (fun v H1 ⟨d, n1, G1, R1, s, r, h1⟩ => ?_) (PostS.expr (rep := Rep X.K X.mg τ) R h)⟩
  exact PostS.ret h1 (R1.set i r)
theorem pat_step {p : Pat} {Dn : Ends} {σ : L2.St} {H : Hp} (h : cS X.K X.mg E (sPat p fe) Dn σ H) : tAsg (cT X.K X.mg (kE E) fe) (gPat X.K p) Dn σ H := by
  obtain ⟨τ, H0, G0, G, ρ, n, R, h⟩ := h
  refine ⟨τ, H0, G0, G, ρ, n, R, Post.mono (fun v H1 ⟨d, n1, G1, R1, s, r, h1⟩ => ?_) (PostS.expr (rep := Rep X.K X.mg τ) R h)⟩
  obtain ⟨ρ', e, h1⟩ := PostS.opt h1
  exact gPat_of R1 r e fun vs R2 => PostS.ret h1 R2
theorem own_rel {K : PySem.W.Frag} {mg : Str → Option Value} {τ : Option Addr} {H0 G0 G G1 H H1 : Hp} {σ : L2.St} {ρ : Mi.Env} {n n1 : Nat} {i : Nat} {p : Addr} {s : Sl}
    (R0 : Rel K mg τ H0 G0 G H σ ρ n) (st : Step τ H G H1 G1) (R : Rel K mg τ H0 G0 G1 H1 σ ρ n1) (hp0 : H p = none) (gp : G1 p = none) (hi : i < ρ.length)
    (ok : ∀ x, x = some (some (V.ref p)) → SlotOk K mg τ H0 G1 H1 x s) (cl : ∀ x a, x = some (some (V.ref p)) → CellOf H1 x s a → a = p) :
    Rel K mg τ H0 G0 G1 H1 (σ.set i (some (.ref p))) (ρ.set i s) n1 := by
  have hτ : some p ≠ τ := fun z => by
    have := R0.town p z.symm
    rw [hp0] at this
    cases this
  have h0 : H0 p = none := by
    cases e : H0 p with
    | none => rfl
    | some o =>
      have := R0.step.keep p o e hτ
      rw [hp0] at this
      cases this
  exact R.own i hi ok cl h0 gp hτ fun j hj c => R0.notCell hp0 j (cell_step st (R0.slots j) (fun a c => (R0.cell j a c).2.2) p c)
theorem own_step {i : Nat} {Dn : Ends} {σ : L2.St} {H : Hp} (h : cS X.K X.mg E (sOwn i fl) Dn σ H) : tAsg (cF X.K X.mg (kE E) fl) (gName i) Dn σ H := by
  obtain ⟨τ, H0, G0, G, ρ, n, R, h⟩ := h
  refine ⟨τ, H0, G0, G, ρ, n, R, PostF.mono (fun v H1 ⟨ds, n1, G1, p, vs, R1, s, e, e1, e2, e3, r, h1⟩ => ?_) (PostS.exprF R h)⟩
  subst e
  obtain ⟨hi, h1⟩ := PostS.need h1
  refine PostS.ret h1 (own_rel R s R1 e1 e3 (of_decide_eq_true hi) (fun x e => ⟨p, vs, e, e2, r⟩) fun x a e c => ?_)
  have c : x = some (some (.ref a)) := c
  rw [e] at c
  cases c
  rfl
theorem own2_step {i : Nat} {Dn : Ends} {σ : L2.St} {H : Hp} (h : cS X.K X.mg E (sOwn2 i fl) Dn σ H) : tAsg (cF X.K X.mg (kE E) fl) (gName i) Dn σ H := by
  obtain ⟨τ, H0, G0, G, ρ, n, R, h⟩ := h
  refine ⟨τ, H0, G0, G, ρ, n, R, PostF.mono (fun v H1 ⟨ds, n1, G1, p, vs, R1, s, e, e1, e2, e3, r, h1⟩ => ?_) (PostS.exprF R h)⟩
  subst e
  obtain ⟨hi, h2⟩ := PostS.need h1
  have hi : i < ρ.length ∧ ds = [] := of_decide_eq_true hi
  obtain ⟨hi2, rfl⟩ := hi
  cases r
  have cl : ∀ (x : Option (Option V)) (a : Addr), x = some (some (V.ref p)) → CellOf H1 x (.ow2 []) a → a = p := fun x a e c => by
    rcases c with c | ⟨q, bs, c, h', hm⟩
    · rw [e] at c
      cases c
      rfl
    · rw [e] at c
      cases c
      rw [e2] at h'
      have z := refs_inj (bs := []) h'
      subst z
      cases hm
  exact PostS.ret h2 (own_rel (i := i) (s := .ow2 []) R s R1 e1 e3 hi2 (fun x e => ⟨p, [], e, e2, .nil, by simp, .nil⟩) cl)
theorem fz_step {E : L2.St → XK} {σ : L2.St} {H : Hp} {Q : VK} (h : cT X.K X.mg E (eL fl) σ H Q) : cF X.K X.mg E fl σ H Q := by
  obtain ⟨τ, H0, G0, G, ρ, n, R, h⟩ := h
  exact ⟨τ, H0, G0, G, ρ, n, R, post_fz R.town h⟩
/-- name = e, whatever the reading -/
theorem s_set {i : Nat} {x : Str} {pos' : Pos} (hN : X.N.Nodup) (hi : X.N[i]? = some x) (hx : Loc X.env.scope x) (he : PE X e (cT X.K X.mg (kE E) fe)) (hs : swapsWith e (some (.Name x pos')) pos.line X.env = pure false := by rfl)
    (hf : X.fn x = true ∨ X.env.scope.names.lookup x = some .local := by first | exact .inl rfl | exact .inr rfl | assumption) : PS X (.Assign [.Name x pos'] e pos) (cS X.K X.mg E (sSet i fe)) := ps_mono (ps_set hN hi hx he hs hf) fun _ _ _ h => set_step h
theorem s_own {i : Nat} {x : Str} {pos' : Pos} (hN : X.N.Nodup) (hi : X.N[i]? = some x) (hx : Loc X.env.scope x) (he : PE X e (cF X.K X.mg (kE E) fl)) (hs : swapsWith e (some (.Name x pos')) pos.line X.env = pure false := by rfl)
    (hf : X.fn x = true ∨ X.env.scope.names.lookup x = some .local := by first | exact .inl rfl | exact .inr rfl | assumption) : PS X (.Assign [.Name x pos'] e pos) (cS X.K X.mg E (sOwn i fl)) := ps_mono (ps_set hN hi hx he hs hf) fun _ _ _ h => own_step h
theorem s_own2 {i : Nat} {x : Str} {pos' : Pos} (hN : X.N.Nodup) (hi : X.N[i]? = some x) (hx : Loc X.env.scope x) (he : PE X e (cF X.K X.mg (kE E) fl)) (hs : swapsWith e (some (.Name x pos')) pos.line X.env = pure false := by rfl)
    (hf : X.fn x = true ∨ X.env.scope.names.lookup x = some .local := by first | exact .inl rfl | exact .inr rfl | assumption) : PS X (.Assign [.Name x pos'] e pos) (cS X.K X.mg E (sOwn2 i fl)) := ps_mono (ps_set hN hi hx he hs hf) fun _ _ _ h => own2_step h
/-- name = [e for ..], on one line: stored within -/
theorem s_setLc {i : Nat} {y : Str} {py : Pos} {elt tg iter : Expr} {ifs : List Expr} {scope : Scope} {own : List (Str × Nat)} {spos : Pos} {p : Pat} {fi : Mi.Env → M (List D)} {tt : Mi.Env → M Bool} (hc : X.calm = true) (hN : X.N.Nodup) (hy : X.N[i]? = some y) (hyl : X.env.scope.names.lookup y = some .local)
    (hi : PI X tg iter (cI X.K X.mg (kE E) fi)) (ok : BlkOk X.N X.env.scope scope own)
    (hg : ∀ (s : Shared) (H : Hp) (C : Addr) (cl : List (Str × Addr)) (fp : List Addr), PG (X.blk s H scope (compEnvC scope cl C X.env) fp) tg (gPat X.K p))
    (ht : ∀ (s : Shared) (H : Hp) (C : Addr) (cl : List (Str × Addr)) (fp : List Addr), PTs (X.blk s H scope (compEnvC scope cl C X.env) fp) ifs (cB X.K X.mg E0s tt))
    (he : ∀ (s : Shared) (H : Hp) (C : Addr) (cl : List (Str × Addr)) (fp : List Addr), PE (X.blk s H scope (compEnvC scope cl C X.env) fp) elt (cT X.K X.mg E0s fe))
    (hsw : swapsWith (.ListComp elt [⟨tg, iter, ifs, 0⟩] scope pos) (some (.Name y py)) spos.line X.env = pure true := by rfl)
    (hp : ∀ i ∈ p.slots, i ∈ own.map (·.2) := by decide) (hs : ∀ x, foldedSetIterable iter X.env x = pure x := by intro _; rfl) :
    PS X (.Assign [.Name y py] (.ListComp elt [⟨tg, iter, ifs, 0⟩] scope pos) spos) (cS X.K X.mg E (sSet i (eL (lComp fi p (own.map (·.2)) tt fe)))) :=
  ps_mono (ps_setLc hc hN hy hyl hsw hi ok hg ht he hs) fun _ _ _ h => lc_step hp (fz_step (set_step h))
theorem s_ownLc {i : Nat} {y : Str} {py : Pos} {elt tg iter : Expr} {ifs : List Expr} {scope : Scope} {own : List (Str × Nat)} {spos : Pos} {p : Pat} {fi : Mi.Env → M (List D)} {tt : Mi.Env → M Bool} (hc : X.calm = true) (hN : X.N.Nodup) (hy : X.N[i]? = some y) (hyl : X.env.scope.names.lookup y = some .local)
    (hi : PI X tg iter (cI X.K X.mg (kE E) fi)) (ok : BlkOk X.N X.env.scope scope own)
    (hg : ∀ (s : Shared) (H : Hp) (C : Addr) (cl : List (Str × Addr)) (fp : List Addr), PG (X.blk s H scope (compEnvC scope cl C X.env) fp) tg (gPat X.K p))
    (ht : ∀ (s : Shared) (H : Hp) (C : Addr) (cl : List (Str × Addr)) (fp : List Addr), PTs (X.blk s H scope (compEnvC scope cl C X.env) fp) ifs (cB X.K X.mg E0s tt))
    (he : ∀ (s : Shared) (H : Hp) (C : Addr) (cl : List (Str × Addr)) (fp : List Addr), PE (X.blk s H scope (compEnvC scope cl C X.env) fp) elt (cT X.K X.mg E0s fe))
    (hsw : swapsWith (.ListComp elt [⟨tg, iter, ifs, 0⟩] scope pos) (some (.Name y py)) spos.line X.env = pure true := by rfl)
    (hp : ∀ i ∈ p.slots, i ∈ own.map (·.2) := by decide) (hs : ∀ x, foldedSetIterable iter X.env x = pure x := by intro _; rfl) :
    PS X (.Assign [.Name y py] (.ListComp elt [⟨tg, iter, ifs, 0⟩] scope pos) spos) (cS X.K X.mg E (sOwn i (lComp fi p (own.map (·.2)) tt fe))) :=
  ps_mono (ps_setLc hc hN hy hyl hsw hi ok hg ht he hs) fun _ _ _ h => lc_step hp (own_step h)
theorem s_pat {tg : Expr} {p : Pat} (he : PE X e (cT X.K X.mg (kE E) fe)) (hg : PG X tg (gPat X.K p)) (hs : swapsWithSole [tg] e pos.line X.env = pure false := by rfl) (hw : swappedStores [tg] e X.env = pure none := by rfl)
    (h1 : (assignEach [tg] X.env).map (·.2) = [assign tg X.env] := by rfl) : PS X (.Assign [tg] e pos) (cS X.K X.mg E (sPat p fe)) := ps_mono (ps_asg he hg hs hw h1) fun _ _ _ h => pat_step h
theorem s_drop (he : PE X e (cT X.K X.mg (kE E) fe)) (hs : swapsWith e none pos.line X.env = pure false := by rfl) : PS X (.Expr e pos) (cS X.K X.mg E (sDrop fe)) :=
  ps_mono (ps_expr he hs) fun Dn σ H ⟨τ, H0, G0, G, ρ, n, R, h⟩ => ⟨τ, H0, G0, G, ρ, n, R, Post.mono (fun v H1 ⟨d, n1, G1, R1, s, r, h1⟩ => PostS.ret h1 R1) (PostS.expr (rep := Rep X.K X.mg τ) R h)⟩
theorem s_raise {c : Str} {C : Addr} (hc : X.calm = true) (tk : Takes X (fun c d _ H => E c d H)) (hm : X.mg c = some (.ref C)) (he : PMk X e (fun _ H Q => Q (.ref C) none H)) : PS X (.Raise (some e) none pos) (cS X.K X.mg E (sRaise c)) :=
  ps_mono (ps_raise hc tk he) fun Dn σ H ⟨τ, H0, G0, G, ρ, n, R, h⟩ => h C H hm R.step.keep R.town

theorem s_retO {i : Nat} (he : PE X e (tVar i)) : PS X (.Return (some e) pos) (cS X.K X.mg E (sRetO i)) :=
  ps_mono (ps_ret he) fun Dn σ H ⟨τ, H0, G0, G, ρ, n, R, h⟩ => by
    unfold sRetO at h
    have ok := R.slots i
    cases q : ρ.at i with
    | ow ds =>
      rw [q] at h ok
      obtain ⟨a, vs, e1, ha, ra⟩ := ok
      have c := R.cell i a (by rw [q]; exact e1)
      exact ⟨_, e1, PostS.ret h R a vs c.2.1 ha c.1 c.2.2 ra⟩
    | _ =>
      rw [q] at h
      exact (show False from h).elim
theorem s_retF (he : PE X e (cF X.K X.mg (kE E) fl)) : PS X (.Return (some e) pos) (cS X.K X.mg E (sRetF fl)) :=
  ps_mono (ps_ret he) fun Dn σ H ⟨τ, H0, G0, G, ρ, n, R, h⟩ => ⟨τ, H0, G0, G, ρ, n, R, PostF.mono (fun v H1 ⟨ds, n1, G1, p, vs, R1, s, e, e1, e2, e3, r, h1⟩ => by
    subst e
    have hτ : some p ≠ τ := fun z => by
      have := R.town p z.symm
      rw [e1] at this
      cases this
    have h0 : H0 p = none := by
      cases e : H0 p with
      | none => rfl
      | some o =>
        have := R.step.keep p o e hτ
        rw [e1] at this
        cases this
    exact PostS.ret h1 R1 p vs h0 e2 e3 hτ r) (PostS.exprF R h)⟩

/-! ### loops -/
theorem for_step {fi : Mi.Env → M (List D)} {p : Pat} {Dn : Ends} {σ : L2.St} {H : Hp} (h : cS X.K X.mg E (sFor fi p f) Dn σ H) : tFor (cI X.K X.mg (kE E) fi) (gPat X.K p) (cS X.K X.mg E f) Dn σ H := by
  obtain ⟨τ, H0, G0, G, ρ, n, R, h⟩ := h
  refine ⟨τ, H0, G0, G, ρ, n, R, Post.mono (fun J H1 => ?_) (PostS.expr (rep := Yields X.K X.mg τ) R h)⟩
  rintro ⟨ds, n1, G1, R1, s1, ys, h1⟩
  let Inv : Nat → L2.St → Hp → Prop := fun i σ H => i ≤ ds.length ∧ ∃ G2 ρ2 n2, Rel X.K X.mg τ H0 G0 G2 H σ ρ2 n2 ∧ (∀ b u, G1 b = some u → G2 b = some u) ∧ PostS X.K X.mg τ H0 G0 G2 E (forL p f (ds.drop i) ρ2 n2) Dn
  refine ⟨fun i m σ H => m = ds.length - i ∧ Inv i σ H, ⟨ds.length, by simp, Nat.zero_le _, G1, ρ, n1, R1, fun _ _ e => e, h1⟩, ?_⟩
  rintro i m σ2 H2 ⟨rfl, hi, G2, ρ2, n2, R2, s2, h2⟩
  obtain ⟨yg, yy, ye⟩ := ys i G2 H2 n2 s2 R2.le R2.nt R2.town
  by_cases hlt : i < ds.length
  · refine .inr ⟨yg hlt, Inv (i + 1), fun σ' H' q => ⟨ds.length - (i + 1), by omega, rfl, q⟩, fun x H3 hy => ?_⟩
    have ed : ds[i]? = some ds[i] := List.getElem?_eq_getElem hlt
    obtain ⟨G3, st3, tw3, rx⟩ := yy x H3 _ ed hy
    have R3 := R2.next st3 tw3
    rw [List.drop_eq_getElem_cons hlt] at h2
    obtain ⟨ρ', eρ, h2⟩ := PostS.opt h2
    refine gPat_of R3 rx eρ fun ws R4 => ⟨τ, H0, G0, G3, ρ', n2, R4, ?_⟩
    have s3 : ∀ b u, G1 b = some u → G3 b = some u := fun b u e => st3.sub b u (s2 b u e)
    have h2' : PostS X.K X.mg τ H0 G0 G2 E (M.bnd (f ρ') _ n2) Dn := h2
    unfold M.bnd at h2'
    cases e : f ρ' n2 with
    | ok a k =>
      rw [e] at h2'
      obtain ⟨ρ5, fl⟩ := a
      cases fl with
      | nx => exact fun σ' H' G' R' s => ⟨hlt, G', ρ5, k, R', fun b u e => s b u (s3 b u e), PostS.shift (fun b u e => s b u (st3.sub b u e)) h2'⟩
      | ct => exact fun σ' H' G' R' s => ⟨hlt, G', ρ5, k, R', fun b u e => s b u (s3 b u e), PostS.shift (fun b u e => s b u (st3.sub b u e)) h2'⟩
      | rt d => exact fun σ' H' G' R' s => h2' σ' H' G' R' fun b u e => s b u (st3.sub b u e)
      | bk => exact fun σ' H' G' R' s => h2' σ' H' G' R' fun b u e => s b u (st3.sub b u e)
      | ro ds => exact fun σ' H' G' R' s => h2' σ' H' G' R' fun b u e => s b u (st3.sub b u e)
    | err c k =>
      rw [e] at h2'
      exact h2'
    | bad =>
      rw [e] at h2'
      exact h2'.elim
  · have e : i = ds.length := by omega
    subst e
    refine .inl ⟨ye (Nat.le_refl _), ?_⟩
    rw [List.drop_length] at h2
    exact PostS.ret h2 R2
theorem s_for {tg iter : Expr} {body : List Stmt} {fi : Mi.Env → M (List D)} {p : Pat} (hp : PassesOwn (model X.prog X.w) X.A X.env X.xe) (hc : X.calm = true) (hi : PI X tg iter (cI X.K X.mg (kE E) fi)) (hg : PG X tg (gPat X.K p)) (hb : PSs X body (cS X.K X.mg E f))
    (hs : ∀ x, foldedSetIterable iter X.env x = pure x := by intro _; rfl) : PS X (.For tg iter body [] pos) (cS X.K X.mg E (sFor fi p f)) := ps_mono (ps_for hp hc hi hg hb hs) fun _ _ _ h => for_step h
theorem while_step {k : Nat} {Dn : Ends} {σ : L2.St} {H : Hp} (h : cS X.K X.mg E (sWhile k fc f) Dn σ H) : tWhile (cB X.K X.mg (kE E) fc) (cS X.K X.mg E f) Dn σ H := by
  obtain ⟨τ, H0, G0, G, ρ, n, R, h⟩ := h
  let Inv : Nat → L2.St → Hp → Prop := fun m σ H => ∃ G2 ρ2 n2, Rel X.K X.mg τ H0 G0 G2 H σ ρ2 n2 ∧ (∀ b u, G b = some u → G2 b = some u) ∧ PostS X.K X.mg τ H0 G0 G2 E (whL fc f m ρ2 n2) Dn
  refine ⟨Inv, ⟨k, G, ρ, n, R, fun _ _ e => e, h⟩, ?_⟩
  rintro m σ2 H2 ⟨G2, ρ2, n2, R2, s2, h2⟩
  cases m with
  | zero => exact (show False from h2).elim
  | succ m =>
    refine ⟨τ, H0, G0, G2, ρ2, n2, R2, Post.mono (fun b H3 => ?_) (PostS.expr (rep := fun _ b c => b = c) R2 h2)⟩
    rintro ⟨b', n3, G3, R3, s3, rfl, h3⟩
    cases b with
    | false => exact PostS.ret h3 R3
    | true =>
      rw [if_pos rfl]
      refine ⟨Inv m, fun σ' H' q => ⟨m, Nat.lt_succ_self m, q⟩, τ, H0, G0, G3, ρ2, n3, R3, ?_⟩
      have s23 : ∀ b u, G b = some u → G3 b = some u := fun b u e => s3 b u (s2 b u e)
      have h3' : PostS X.K X.mg τ H0 G0 G3 E (M.bnd (f ρ2) _ n3) Dn := h3
      unfold M.bnd at h3'
      cases e : f ρ2 n3 with
      | ok a k =>
        rw [e] at h3'
        obtain ⟨ρ5, fl⟩ := a
        cases fl with
        | nx => exact fun σ' H' G' R' s => ⟨G', ρ5, k, R', fun b u e => s b u (s23 b u e), PostS.shift s h3'⟩
        | ct => exact fun σ' H' G' R' s => ⟨G', ρ5, k, R', fun b u e => s b u (s23 b u e), PostS.shift s h3'⟩
        | rt d => exact h3'
        | bk => exact h3'
        | ro ds => exact h3'
      | err c k =>
        rw [e] at h3'
        exact h3'
      | bad =>
        rw [e] at h3'
        exact h3'.elim
theorem s_while {k : Nat} {c : Expr} {body : List Stmt} (hp : PassesOwn (model X.prog X.w) X.A X.env X.xe) (hc : PT X c (cB X.K X.mg (kE E) fc)) (hb : PSs X body (cS X.K X.mg E f)) : PS X (.While c body [] pos) (cS X.K X.mg E (sWhile k fc f)) :=
  ps_mono (ps_while hp hc hb) fun _ _ _ h => while_step h
end
end Mi

end

section
set_option Elab.async false
set_option linter.all false
set_option maxRecDepth 100000
set_option maxHeartbeats 4000000
namespace Mi
open PySem PySem.Spec L2

/-! ### an object that is filled no more: frozen -/
def zipK (ks : List Key) (ds : List D) : List (D × D) := (ks.map keyD).zip ds
def zipT (ks : List (List Key)) (ds : List D) : List (D × D) := (ks.map keysD).zip ds
def frS : Sl → Sl
  | .ow ds => .fz (.list ds)
  | .ow2 dss => .fz (.list (dss.map .list))
  | .dk ks ds => .fz (.dict (zipK ks ds))
  | .dt ks ds => .fz (.dict (zipT ks ds))
  | .no => .no
  | .fz d => .fz d
  | .sh ds => .sh ds
def frz (i : Nat) (ρ : Mi.Env) : Mi.Env := ρ.set i (frS (ρ.at i))
def LD : HO → Prop
  | .lst _ => True
  | .dK _ => True
  | .dT _ => True
  | _ => False
/-! no list and no dict within -/
mutual
def noL : D → Bool
  | .list _ => false
  | .dict _ => false
  | .tuple ds => noLs ds
  | _ => true
def noLs : List D → Bool
  | [] => true
  | d :: r => noL d && noLs r
end
theorem at_ge {ρ : Mi.Env} {i : Nat} (h : ρ.length ≤ i) : ρ.at i = .no := by
  unfold Env.at
  rw [List.getD_eq_getElem?_getD, List.getElem?_eq_none h] <;> rfl
theorem at_set' {ρ : Mi.Env} {i j : Nat} {s : Sl} (hs : ρ.length ≤ i → s = .no) : Env.at (ρ.set i s) j = if j = i then s else ρ.at j := by
  rw [at_set]
  by_cases h : j = i
  · subst h
    by_cases h2 : j < ρ.length
    · rw [if_pos ⟨rfl, h2⟩, if_pos rfl]
    · rw [if_neg (fun z => h2 z.2), if_pos rfl, hs (Nat.le_of_not_lt h2), at_ge (Nat.le_of_not_lt h2)]
  · rw [if_neg (fun z => h z.1), if_neg h]
theorem frz_at (ρ : Mi.Env) (i j : Nat) : (frz i ρ).at j = if j = i then frS (ρ.at i) else ρ.at j := at_set' fun h => by rw [at_ge h]; rfl
structure Grow (G G' : Hp) : Prop where
  sub : ∀ b u, G b = some u → G' b = some u
  old : ∀ b u, G' b = some u → G b = some u ∨ LD u
section
variable {K : PySem.W.Frag} {mg : Str → Option Value} {τ : Option Addr} {H0 G0 G G' G1 H H' H1 : Hp} {σ : L2.St} {ρ ρ' : Mi.Env} {n n1 : Nat}
theorem slot_sub {x : Option (Option V)} (sub : ∀ b u, G b = some u → G' b = some u) : ∀ {s : Sl}, SlotOk K mg τ H0 G H x s → SlotOk K mg τ H0 G' H x s := by
  intro s ok
  cases s with
  | no => trivial
  | fz d =>
    obtain ⟨v, e, r⟩ := ok
    exact ⟨v, e, r.sub sub⟩
  | sh ds =>
    obtain ⟨a, vs, e, g, r, h0⟩ := ok
    exact ⟨a, vs, e, sub _ _ g, r.sub sub, h0⟩
  | ow ds =>
    obtain ⟨b, vs, e, h, r⟩ := ok
    exact ⟨b, vs, e, h, r.sub sub⟩
  | dk ks ds =>
    obtain ⟨b, vs, e, h, q, r⟩ := ok
    exact ⟨b, vs, e, h, q, r.sub sub⟩
  | dt ks ds =>
    obtain ⟨b, vs, e, h, q, r⟩ := ok
    exact ⟨b, vs, e, h, q, r.sub sub⟩
  | ow2 dss =>
    obtain ⟨b, bs, e, h, nd, nb, r⟩ := ok
    exact ⟨b, bs, e, h, nd, nb, r.sub sub fun c hc o q => q⟩
theorem cell_kind {x : Option (Option V)} : ∀ {s : Sl} {a : Addr}, SlotOk K mg τ H0 G H x s → CellOf H x s a → ∃ o, H a = some o ∧ LD o := by
  intro s a ok c
  cases s with
  | no => exact c.elim
  | fz d => exact c.elim
  | sh ds => exact c.elim
  | ow ds =>
    obtain ⟨b, vs, e, h, _⟩ := ok
    have c : x = some (some (.ref a)) := c
    rw [e] at c
    cases c
    exact ⟨_, h, trivial⟩
  | dk ks ds =>
    obtain ⟨b, vs, e, h, _⟩ := ok
    have c : x = some (some (.ref a)) := c
    rw [e] at c
    cases c
    exact ⟨_, h, trivial⟩
  | dt ks ds =>
    obtain ⟨b, vs, e, h, _⟩ := ok
    have c : x = some (some (.ref a)) := c
    rw [e] at c
    cases c
    exact ⟨_, h, trivial⟩
  | ow2 dss =>
    obtain ⟨b, bs, e, h, nd, nb, r⟩ := ok
    rcases c with c | ⟨r', bs', e', h', hm⟩
    · rw [e] at c
      cases c
      exact ⟨_, h, trivial⟩
    · rw [e] at e'
      cases e'
      rw [h] at h'
      have z := refs_inj h'
      subst z
      obtain ⟨vs, q⟩ := r.at a hm
      exact ⟨_, q, trivial⟩
theorem reps_rows (sub : ∀ b u, G b = some u → G' b = some u) : ∀ {bs : List Addr} {dss : List (List D)}, Rows2 K mg τ G H bs dss → (∀ b ∈ bs, G' b = H b) → Reps K mg τ G' (bs.map V.ref) (dss.map PyData.list)
  | _, _, .nil, _ => .nil
  | _, _, .cons h r q, k => .cons (.lst ((k _ List.mem_cons_self).trans h) (r.sub sub)) (reps_rows sub q fun b hb => k b (List.mem_cons_of_mem _ hb))
theorem repK_of : ∀ {kvs : List (Key × V)} {ds : List D}, Reps K mg τ G (kvs.map (·.2)) ds → RepK K mg τ G kvs (zipK (kvs.map (·.1)) ds)
  | [], _, .nil => .nil
  | (k, v) :: r, _, .cons h t => .cons h (repK_of t)
theorem repT_of : ∀ {kvs : List (List Key × V)} {ds : List D}, Reps K mg τ G (kvs.map (·.2)) ds → RepT K mg τ G kvs (zipT (kvs.map (·.1)) ds)
  | [], _, .nil => .nil
  | (k, v) :: r, _, .cons h t => .cons h (repT_of t)
open Classical in
theorem Rel.frz (R : Rel K mg τ H0 G0 G H σ ρ n) (i : Nat) : ∃ G', Rel K mg τ H0 G0 G' H σ (Mi.frz i ρ) n ∧ Grow G G' := by
  let G' : Hp := fun b => if CellOf H σ[i]? (ρ.at i) b then H b else G b
  have gc : ∀ {b}, CellOf H σ[i]? (ρ.at i) b → G' b = H b := fun {b} h => if_pos h
  have gn : ∀ {b}, ¬ CellOf H σ[i]? (ρ.at i) b → G' b = G b := fun {b} h => if_neg h
  have sub : ∀ b u, G b = some u → G' b = some u := fun b u e => by
    rw [gn (fun c => by have := (R.cell i b c).1; rw [e] at this; cases this)]
    exact e
  have old : ∀ b u, G' b = some u → G b = some u ∨ (CellOf H σ[i]? (ρ.at i) b ∧ H b = some u) := fun b u e => by
    by_cases c : CellOf H σ[i]? (ρ.at i) b
    · rw [gc c] at e
      exact .inr ⟨c, e⟩
    · rw [gn c] at e
      exact .inl e
  refine ⟨G', ⟨⟨R.step.keep, fun b u e => sub b u (R.step.sub b u e), fun b u e => ?_, fun b u e => ?_, fun a e => ?_⟩, R.town, by unfold Mi.frz; rw [List.length_set]; exact R.len, fun j => ?_, fun j a c => ?_, fun j k a c d => ?_⟩, sub, fun b u e => ?_⟩
  · rcases old b u e with q | ⟨c, q⟩
    · exact R.step.new b u q
    · exact .inr (R.cell i b c).2.1
  · rcases old b u e with q | ⟨c, q⟩
    · exact R.step.le b u q
    · exact .inl q
  · cases q : G' a with
    | none => rfl
    | some u =>
      rcases old a u q with z | ⟨c, z⟩
      · rw [R.nt a e] at z
        cases z
      · exact absurd e.symm (R.cell i a c).2.2
  · rw [frz_at]
    by_cases h : j = i
    · subst h
      rw [if_pos rfl]
      have ok := R.slots j
      cases q : ρ.at j with
      | no => exact trivial
      | fz d =>
        rw [q] at ok
        exact slot_sub (s := .fz d) sub ok
      | sh d =>
        rw [q] at ok
        exact slot_sub (s := .sh d) sub ok
      | ow ds =>
        rw [q] at ok
        obtain ⟨a, vs, e, h, r⟩ := ok
        exact ⟨.ref a, e, .lst ((gc (by rw [q]; exact e)).trans h) (r.sub sub)⟩
      | ow2 dss =>
        rw [q] at ok
        obtain ⟨a, bs, e, h, nd, nb, r⟩ := ok
        exact ⟨.ref a, e, .lst ((gc (by rw [q]; exact .inl e)).trans h) (reps_rows sub r fun b hb => gc (by rw [q]; exact .inr ⟨a, bs, e, h, hb⟩))⟩
      | dk ks ds =>
        rw [q] at ok
        obtain ⟨a, kvs, e, h, z, r⟩ := ok
        subst z
        exact ⟨.ref a, e, .dk (.inl ((gc (by rw [q]; exact e)).trans h)) (RepK.sub sub (repK_of r))⟩
      | dt ks ds =>
        rw [q] at ok
        obtain ⟨a, kvs, e, h, z, r⟩ := ok
        subst z
        exact ⟨.ref a, e, .dt (.inl ((gc (by rw [q]; exact e)).trans h)) (RepT.sub sub (repT_of r))⟩
    · rw [if_neg h]
      exact slot_sub sub (R.slots j)
  · rw [frz_at] at c
    by_cases h : j = i
    · rw [if_pos h] at c
      revert c
      cases ρ.at i <;> exact fun c => False.elim c
    · rw [if_neg h] at c
      obtain ⟨z1, z2, z3⟩ := R.cell j a c
      refine ⟨?_, z2, z3⟩
      rw [gn fun d => h (R.apart j i a c d)]
      exact z1
  · rw [frz_at] at c d
    by_cases h : j = i
    · rw [if_pos h] at c
      revert c
      cases ρ.at i <;> exact fun c => False.elim c
    · by_cases h2 : k = i
      · rw [if_pos h2] at d
        revert d
        cases ρ.at i <;> exact fun c => False.elim c
      · rw [if_neg h] at c
        rw [if_neg h2] at d
        exact R.apart j k a c d
  · rcases old b u e with q | ⟨c, q⟩
    · exact .inl q
    · obtain ⟨o, z, ld⟩ := cell_kind (R.slots i) c
      rw [q] at z
      cases z
      exact .inr ld

/-! ### borrowed for one expression -/
mutual
theorem Rep.thin {G2 : Hp} (h : ∀ b u, G1 b = some u → ¬ LD u → G2 b = some u) : ∀ {v : V} {d : D}, Rep K mg τ G1 v d → noL d = true → Rep K mg τ G2 v d
  | _, _, .non, _ => .non
  | _, _, .bl b, _ => .bl b
  | _, _, .int i, _ => .int i
  | _, _, .str x, _ => .str x
  | _, _, .lst ha r, e => by unfold noL at e; cases e
  | _, _, .tup (a := a) (vs := vs) ha r, e => by
    unfold noL at e
    refine .tup ?_ (Reps.thin h r e)
    rcases ha with (q | ⟨o, q⟩) | q
    · exact .inl (.inl (h _ _ q (fun z => z)))
    · exact .inl (.inr ⟨o, h _ _ q (fun z => z)⟩)
    · exact .inr q
  | _, _, .dk ha r, e => by unfold noL at e; cases e
  | _, _, .dt ha r, e => by unfold noL at e; cases e
  | _, _, .town h, e => .town h
  | _, _, .scr h, e => by unfold scrD noL at e; cases e
  | _, _, .exc h g, e => by unfold excD noL at e; cases e
theorem Reps.thin {G2 : Hp} (h : ∀ b u, G1 b = some u → ¬ LD u → G2 b = some u) : ∀ {v : List V} {d : List D}, Reps K mg τ G1 v d → noLs d = true → Reps K mg τ G2 v d
  | _, _, .nil, _ => .nil
  | _, _, .cons p r, e => by
    unfold noLs at e
    rw [Bool.and_eq_true] at e
    exact .cons (Rep.thin h p e.1) (Reps.thin h r e.2)
end
open Classical in
theorem Grow.back (g : Grow G G') (st : Step τ H G' H1 G1) : ∃ G2, Step τ H G H1 G2 ∧ (∀ b u, G1 b = some u → ¬ LD u → G2 b = some u) ∧ ∀ b, G1 b = none → G2 b = none := by
  let S : Addr → Prop := fun b => G b = none ∧ G' b ≠ none
  let G2 : Hp := fun b => if S b then none else G1 b
  have gs : ∀ {b}, S b → G2 b = none := fun {b} h => if_pos h
  have gn : ∀ {b}, ¬ S b → G2 b = G1 b := fun {b} h => if_neg h
  have e2 : ∀ {b u}, G2 b = some u → ¬ S b ∧ G1 b = some u := fun {b u} e => by
    by_cases c : S b
    · rw [gs c] at e; cases e
    · exact ⟨c, (gn c).symm.trans e⟩
  refine ⟨G2, ⟨st.keep, fun b u e => ?_, fun b u e => ?_, fun b u e => st.le b u (e2 e).2, fun a e => ?_⟩, fun b u e nl => ?_, fun b e => ?_⟩
  · rw [gn (fun c => by rw [c.1] at e; cases e)]
    exact st.sub b u (g.sub b u e)
  · obtain ⟨c, e⟩ := e2 e
    rcases st.new b u e with q | q
    · refine .inl ?_
      cases z : G b with
      | none => exact absurd ⟨z, fun w => by rw [q] at w; cases w⟩ c
      | some u' => rw [← q]; exact (g.sub b u' z).symm
    · exact .inr q
  · by_cases c : S a
    · exact gs c
    · rw [gn c]
      exact st.nt a e
  · rw [gn (fun c => ?_)]
    · exact e
    · cases z : G' b with
      | none => exact c.2 z
      | some u' =>
        have w := st.sub b u' z
        rw [e] at w
        cases w
        rcases g.old b u z with q | q
        · rw [c.1] at q; cases q
        · exact nl q
  · by_cases c : S b
    · exact gs c
    · rw [gn c]; exact e
end
def eBo (i : Nat) (f : Mi.Env → M D) : Mi.Env → M D := fun ρ => do let d ← f (frz i ρ); need (noL d); pure d
def bBo (i : Nat) (f : Mi.Env → M Bool) : Mi.Env → M Bool := fun ρ => f (frz i ρ)
def lBo (i : Nat) (f : Mi.Env → M (List D)) : Mi.Env → M (List D) := fun ρ => do let ds ← f (frz i ρ); need (noLs ds); pure ds
section
variable {X : Cx} {E : L2.St → XK} {e : Expr} {i : Nat} {f : Mi.Env → M D} {g : Mi.Env → M Bool} {l : Mi.Env → M (List D)}
theorem bo_step {σ : L2.St} {H : Hp} {Q : VK} (h : cT X.K X.mg E (eBo i f) σ H Q) : cT X.K X.mg E f σ H Q := by
  obtain ⟨τ, H0, G0, G, ρ, n, R, h⟩ := h
  obtain ⟨G', R', g⟩ := R.frz i
  refine ⟨τ, H0, G0, G', _, n, R', ?_⟩
  have h' : Post X.mg τ H G (E σ) (Rep X.K X.mg τ) (M.bnd (f (frz i ρ)) _ n) Q := h
  unfold M.bnd at h'
  cases e : f (frz i ρ) n with
  | ok a k =>
    rw [e] at h'
    obtain ⟨z, h'⟩ := Post.need h'
    intro v H1 G1 st tw r
    obtain ⟨G2, st2, th, _⟩ := g.back st
    exact h' v H1 G2 st2 tw (r.thin th z)
  | err c k =>
    rw [e] at h'
    exact h'
  | bad =>
    rw [e] at h'
    exact h'.elim
theorem x_bo (h : PE X e (cT X.K X.mg E f)) : PE X e (cT X.K X.mg E (eBo i f)) := pe_mono h fun _ _ _ h => bo_step h
theorem bbo_step {σ : L2.St} {H : Hp} {Q : Bool → Hp → Prop} (h : cB X.K X.mg E (bBo i g) σ H Q) : cB X.K X.mg E g σ H Q := by
  obtain ⟨τ, H0, G0, G, ρ, n, R, h⟩ := h
  obtain ⟨G', R', gr⟩ := R.frz i
  refine ⟨τ, H0, G0, G', _, n, R', ?_⟩
  have h' : Post X.mg τ H G (E σ) (fun _ b c => b = c) (g (frz i ρ) n) Q := h
  cases e : g (frz i ρ) n with
  | ok a k =>
    rw [e] at h'
    intro v H1 G1 st tw r
    obtain ⟨G2, st2, th, _⟩ := gr.back st
    exact h' v H1 G2 st2 tw r
  | err c k =>
    rw [e] at h'
    exact h'
  | bad =>
    rw [e] at h'
    exact h'.elim
theorem t_bo (h : PT X e (cB X.K X.mg E g)) : PT X e (cB X.K X.mg E (bBo i g)) := pt_mono h fun _ _ _ h => bbo_step h
theorem w_bo (h : PW X e (cB X.K X.mg E g)) : PW X e (cB X.K X.mg E (bBo i g)) := pw_mono h fun _ _ _ h => bbo_step h
theorem lbo_step {σ : L2.St} {H : Hp} {Q : VK} (h : cF X.K X.mg E (lBo i l) σ H Q) : cF X.K X.mg E l σ H Q := by
  obtain ⟨τ, H0, G0, G, ρ, n, R, h⟩ := h
  obtain ⟨G', R', g⟩ := R.frz i
  refine ⟨τ, H0, G0, G', _, n, R', ?_⟩
  have h' : PostF X.K X.mg τ H G (E σ) (M.bnd (l (frz i ρ)) _ n) Q := h
  unfold M.bnd at h'
  cases e : l (frz i ρ) n with
  | ok a k =>
    rw [e] at h'
    obtain ⟨z, h'⟩ := PostF.need h'
    intro p vs H1 G1 st tw e1 e2 e3 r
    obtain ⟨G2, st2, th, nn⟩ := g.back st
    exact h' p vs H1 G2 st2 tw e1 e2 (nn p e3) (r.thin th z)
  | err c k =>
    rw [e] at h'
    exact h'
  | bad =>
    rw [e] at h'
    exact h'.elim
theorem l_bo (h : PE X e (cF X.K X.mg E l)) : PE X e (cF X.K X.mg E (lBo i l)) := pe_mono h fun _ _ _ h => lbo_step h
end
/-- ahead of a statement, frozen for good -/
def sFz (i : Nat) (s : MS) : MS := fun ρ => s (frz i ρ)
section
variable {X : Cx} {E : XK} {st : Stmt} {sts : List Stmt} {i : Nat} {f : MS}
theorem sfz_step {Dn : Ends} {σ : L2.St} {H : Hp} (h : cS X.K X.mg E (sFz i f) Dn σ H) : cS X.K X.mg E f Dn σ H := by
  obtain ⟨τ, H0, G0, G, ρ, n, R, h⟩ := h
  obtain ⟨G', R', g⟩ := R.frz i
  exact ⟨τ, H0, G0, G', _, n, R', PostS.shift g.sub h⟩
theorem s_fz (i : Nat) (h : PS X st (cS X.K X.mg E f)) : PS X st (cS X.K X.mg E (sFz i f)) := ps_mono h fun _ _ _ h => sfz_step h
theorem ss_fz (i : Nat) (h : PSs X sts (cS X.K X.mg E f)) : PSs X sts (cS X.K X.mg E (sFz i f)) := pss_mono h fun _ _ _ h => sfz_step h
end
end Mi

end

section
set_option Elab.async false
set_option linter.all false
set_option maxRecDepth 100000
set_option maxHeartbeats 4000000
namespace Mi
open PySem PySem.Spec L2

/-! ### an object of a name's own is written -/
section
variable {K : PySem.W.Frag} {mg : Str → Option Value} {τ : Option Addr} {H0 G0 G G' G1 H H' H1 : Hp} {σ : L2.St} {ρ ρ' : Mi.Env} {n n1 : Nat}
theorem slot_keep {x : Option (Option V)} : ∀ {s : Sl}, SlotOk K mg τ H0 G H x s → (∀ b, CellOf H x s b → H' b = H b) → SlotOk K mg τ H0 G H' x s := by
  intro s ok k
  cases s with
  | no => trivial
  | fz d => exact ok
  | sh ds => exact ok
  | ow ds =>
    obtain ⟨b, vs, e, h, r⟩ := ok
    exact ⟨b, vs, e, (k b e).trans h, r⟩
  | dk ks ds =>
    obtain ⟨b, vs, e, h, q, r⟩ := ok
    exact ⟨b, vs, e, (k b e).trans h, q, r⟩
  | dt ks ds =>
    obtain ⟨b, vs, e, h, q, r⟩ := ok
    exact ⟨b, vs, e, (k b e).trans h, q, r⟩
  | ow2 dss =>
    obtain ⟨b, bs, e, h, nd, nb, r⟩ := ok
    exact ⟨b, bs, e, (k b (.inl e)).trans h, nd, nb, r.sub (fun _ _ q => q) fun c hc o q => (k c (.inr ⟨b, bs, e, h, hc⟩)).trans q⟩
theorem cell_keep {x : Option (Option V)} : ∀ {s : Sl}, SlotOk K mg τ H0 G H x s → (∀ b, CellOf H x s b → H' b = H b) → ∀ a, CellOf H' x s a → CellOf H x s a := by
  intro s ok k a c
  cases s with
  | no => exact c.elim
  | fz d => exact c.elim
  | sh ds => exact c.elim
  | ow ds => exact c
  | dk ks ds => exact c
  | dt ks ds => exact c
  | ow2 dss =>
    obtain ⟨b, bs, e, h, nd, nb, r⟩ := ok
    rcases c with c | ⟨r', bs', e', h', hm⟩
    · exact .inl c
    · rw [e] at e'
      cases e'
      rw [k b (.inl e)] at h'
      exact .inr ⟨b, bs', e, h', hm⟩
theorem Rel.mut (R : Rel K mg τ H0 G0 G H σ ρ n) {i : Nat} {a : Addr} (c : CellOf H σ[i]? (ρ.at i) a) {o : HO} {s : Sl} (ok : SlotOk K mg τ H0 G (upd H a o) σ[i]? s) (cl : ∀ b, CellOf (upd H a o) σ[i]? s b → CellOf H σ[i]? (ρ.at i) b) :
    Rel K mg τ H0 G0 G (upd H a o) σ (ρ.set i s) n := by
  obtain ⟨ga, h0, ht⟩ := R.cell i a c
  have hi : i < ρ.length := by
    rcases Nat.lt_or_ge i ρ.length with h | h
    · exact h
    · rw [at_ge h] at c
      exact c.elim
  have nea : ∀ j, j ≠ i → ∀ b, CellOf H σ[j]? (ρ.at j) b → upd H a o b = H b := fun j hj b d => upd_ne fun z => hj (R.apart j i b d (z ▸ c))
  refine ⟨⟨fun b q e nt => ?_, R.step.sub, R.step.new, fun b u e => ?_, R.nt⟩, fun b e => ?_, by rw [List.length_set]; exact R.len, fun j => ?_, fun j b d => ?_, fun j k b d e => ?_⟩
  · rw [upd_ne (fun z => by rw [z, h0] at e; cases e)]
    exact R.step.keep b q e nt
  · rw [upd_ne (fun z => by rw [z, ga] at e; cases e)]
    exact R.le b u e
  · rw [upd_ne (fun z => ht (by rw [← z, e]))]
    exact R.town b e
  · rw [at_set]
    by_cases h : j = i
    · subst h
      rw [if_pos ⟨rfl, hi⟩]
      exact ok
    · rw [if_neg (fun z => h z.1)]
      exact slot_keep (R.slots j) (nea j h)
  · rw [at_set] at d
    by_cases h : j = i
    · subst h
      rw [if_pos ⟨rfl, hi⟩] at d
      exact R.cell j b (cl b d)
    · rw [if_neg (fun z => h z.1)] at d
      exact R.cell j b (cell_keep (R.slots j) (nea j h) b d)
  · rw [at_set] at d e
    have d' : CellOf H σ[j]? (ρ.at j) b := by
      by_cases h : j = i
      · subst h
        rw [if_pos ⟨rfl, hi⟩] at d
        exact cl b d
      · rw [if_neg (fun z => h z.1)] at d
        exact cell_keep (R.slots j) (nea j h) b d
    have e' : CellOf H σ[k]? (ρ.at k) b := by
      by_cases h : k = i
      · subst h
        rw [if_pos ⟨rfl, hi⟩] at e
        exact cl b e
      · rw [if_neg (fun z => h z.1)] at e
        exact cell_keep (R.slots k) (nea k h) b e
    exact R.apart j k b d' e'
/-- the list of name i, written -/
theorem Rel.mutL (R : Rel K mg τ H0 G0 G H σ ρ n) {i : Nat} {a : Addr} {ds ds' : List D} {vs' : List V} (hs : ρ.at i = .ow ds) (e : σ[i]? = some (some (.ref a))) (r : Reps K mg τ G vs' ds') :
    Rel K mg τ H0 G0 G (upd H a (.lst vs')) σ (ρ.set i (.ow ds')) n :=
  R.mut (i := i) (a := a) (by rw [hs]; exact e) ⟨a, vs', e, upd_same, r⟩ fun b c => by rw [hs]; exact c
theorem Rel.ow (R : Rel K mg τ H0 G0 G H σ ρ n) {i : Nat} {ds : List D} (hs : ρ.at i = .ow ds) : ∃ a vs, σ[i]? = some (some (.ref a)) ∧ H a = some (.lst vs) ∧ Reps K mg τ G vs ds := by
  have := R.slots i
  rw [hs] at this
  exact this
theorem Rel.ow2 (R : Rel K mg τ H0 G0 G H σ ρ n) {i : Nat} {dss : List (List D)} (hs : ρ.at i = .ow2 dss) : ∃ (a : Addr) (bs : List Addr), σ[i]? = some (some (.ref a)) ∧ H a = some (.lst (bs.map V.ref)) ∧ bs.Nodup ∧ a ∉ bs ∧ Rows2 K mg τ G H bs dss := by
  have := R.slots i
  rw [hs] at this
  exact this
/-- the town's list grows -/
theorem Rel.town1 (R : Rel K mg τ H0 G0 G H σ ρ n) {a : Addr} (e : τ = some a) : Rel K mg τ H0 G0 G (upd H a (.lst (List.replicate (n + 1) (.int 0)))) σ ρ (n + 1) := by
  have nc : ∀ j b, CellOf H σ[j]? (ρ.at j) b → upd H a (.lst (List.replicate (n + 1) (.int 0))) b = H b := fun j b c => upd_ne fun z => (R.cell j b c).2.2 (by rw [e, z])
  refine ⟨⟨fun b q h nt => ?_, R.step.sub, R.step.new, fun b u h => ?_, R.nt⟩, fun b h => ?_, R.len, fun j => slot_keep (R.slots j) (nc j), fun j b c => R.cell j b (cell_keep (R.slots j) (nc j) b c), fun j k b c d => R.apart j k b (cell_keep (R.slots j) (nc j) b c) (cell_keep (R.slots k) (nc k) b d)⟩
  · rw [upd_ne (fun z => nt (by rw [z, e]))]
    exact R.step.keep b q h nt
  · rw [upd_ne (fun z => by rw [z, R.nt a e] at h; cases h)]
    exact R.le b u h
  · rw [e] at h
    cases h
    exact upd_same
theorem repK_ne : ∀ {kvs : List (Key × V)} {ds : List (D × D)}, RepK K mg τ G kvs ds → ∀ p ∈ ds, p.1 ≠ .none
  | _, _, .nil, _, h => nomatch h
  | _, _, .cons (k := k) _ r, p, h => by
    rcases List.mem_cons.mp h with e | h
    · rw [e]
      cases k <;> exact fun z => by cases z
    · exact repK_ne r p h
theorem repT_ne : ∀ {kvs : List (List Key × V)} {ds : List (D × D)}, RepT K mg τ G kvs ds → ∀ p ∈ ds, p.1 ≠ .none
  | _, _, .nil, _, h => nomatch h
  | _, _, .cons (k := k) _ r, p, h => by
    rcases List.mem_cons.mp h with e | h
    · rw [e]
      exact fun z => by cases z
    · exact repT_ne r p h
theorem town_inv {v : V} (h : Rep K mg τ G v townD) : ∃ a, v = .ref a ∧ τ = some a := by
  unfold townD at h
  generalize e : PyData.dict [(.none, .none)] = d at h
  cases h with
  | town h => exact ⟨_, rfl, h⟩
  | dk _ r =>
    cases e
    exact absurd rfl (repK_ne r _ List.mem_cons_self)
  | dt _ r =>
    cases e
    exact absurd rfl (repT_ne r _ List.mem_cons_self)
  | scr _ => unfold scrD at e; cases e
  | exc _ _ => unfold excD at e; cases e
  | _ => cases e
end

def isTown : D → Bool
  | .dict [(.none, .none)] => true
  | _ => false
theorem isTown_eq {d : D} (h : isTown d = true) : d = townD := by
  unfold isTown at h
  split at h
  · rfl
  · cases h
def bump : M Unit := fun n => if n < sizeLine then .ok () (n + 1) else .bad
def sTown (i : Nat) : MS := fun ρ => match ρ.at i with
  | .fz d => do need (isTown d); bump; pure (ρ, .nx)
  | _ => bad
def sApp (i : Nat) (f : Mi.Env → M D) : MS := fun ρ => match ρ.at i with
  | .ow ds => do let d ← f ρ; need (decide (ds.length < sizeLine)); pure (ρ.set i (.ow (ds ++ [d])), .nx)
  | _ => bad
def asL : D → Option (List D)
  | .list es => some es
  | _ => none
def optI : D → Option Int
  | .int k => some k
  | _ => none
def asP : D → Option (D × D)
  | .tuple [a, b] => some (a, b)
  | _ => none
def sExt (i : Nat) (f : Mi.Env → M D) : MS := fun ρ => match ρ.at i with
  | .ow ds => do let d ← f ρ; let es ← ofOpt (asL d); need (decide (ds.length + es.length ≤ sizeLine)); pure (ρ.set i (.ow (ds ++ es)), .nx)
  | _ => bad
/-- rows.append(row), both our own: the row is the rows' now -/
def sApp2 (i j : Nat) : MS := fun ρ => match ρ.at i, ρ.at j with
  | .ow2 dss, .ow ds => do need (decide (dss.length < sizeLine)); pure ((ρ.set j .no).set i (.ow2 (dss ++ [ds])), .nx)
  | _, _ => bad
/-- x[fj] = d -/
def putI (i : Nat) (fj : Mi.Env → M D) (d : D) : Mi.Env → M Mi.Env := fun ρ => match ρ.at i with
  | .ow ds => do let j ← fj ρ; let k ← ofOpt (optI j); let m ← ofOpt (ixN ds.length k); pure (ρ.set i (.ow (ds.set m d)))
  | _ => bad
def sPut (i : Nat) (fj fe : Mi.Env → M D) : MS := fun ρ => do let d ← fe ρ; let ρ' ← putI i fj d ρ; pure (ρ', .nx)
/-- x[a], x[b] = a pair -/
def sPutP (i : Nat) (fa fb fe : Mi.Env → M D) : MS := fun ρ => do
  let d ← fe ρ
  let p ← ofOpt (asP d)
  let ρ1 ← putI i fa p.1 ρ
  let ρ2 ← putI i fb p.2 ρ1
  pure (ρ2, .nx)
/-- x[a][b] = e -/
def put2 (i : Nat) (fa fb : Mi.Env → M D) (d : D) : Mi.Env → M Mi.Env := fun ρ => match ρ.at i with
  | .ow2 dss => do
    let a ← fa ρ
    let k ← ofOpt (optI a)
    let m ← ofOpt (ixN dss.length k)
    let ds ← ofOpt dss[m]?
    let b ← fb ρ
    let k2 ← ofOpt (optI b)
    let m2 ← ofOpt (ixN ds.length k2)
    pure (ρ.set i (.ow2 (dss.set m (ds.set m2 d))))
  | _ => bad
def sPut2 (i : Nat) (fa fb fe : Mi.Env → M D) : MS := fun ρ => do let d ← fe ρ; let ρ' ← put2 i fa fb d ρ; pure (ρ', .nx)
section
variable {X : Cx} {E : XK} {pos cpos apos p2 : Pos} {e ea eb : Expr} {i j : Nat} {fe fa fb : Mi.Env → M D} {x : Str}
theorem s_town {k : Nat} {spos : Pos} (hv : PE X (.Name x p2) (tVar i)) (hbase : attributeBase (.Name x p2) "append" X.env (eval (.Name x p2) X.env) = eval (.Name x p2) X.env := by rfl) (hline : (apos.endLine == cpos.line) = true := by rfl)
    (hs : swapsWith (.Call (.Attribute (.Name x p2) "append" apos) [.Constant (.int 0) k pos] [] cpos) none spos.line X.env = pure false := by rfl) :
    PS X (.Expr (.Call (.Attribute (.Name x p2) "append" apos) [.Constant (.int 0) k pos] [] cpos) spos) (cS X.K X.mg E (sTown i)) :=
  ps_mono (ps_expr (pe_bm (cpos := cpos) PySem.F.plainAttrs_list PySem.F.slot_list_append PySem.F.type_list_append mt_append hv (pa_cons pe_int pa_nil) hbase (hline := hline)) hs) fun Dn σ H ⟨τ, H0, G0, G, ρ, n, R, h⟩ => by
    unfold sTown at h
    have ok := R.slots i
    cases q : ρ.at i with
    | fz d =>
      rw [q] at ok h
      obtain ⟨v, e, r⟩ := ok
      obtain ⟨ht, h⟩ := PostS.need h
      rw [isTown_eq ht] at r
      obtain ⟨a, rfl, ht⟩ := town_inv r
      have h : PostS X.K X.mg τ H0 G0 G E (M.bnd bump (fun _ => pure (ρ, .nx)) n) Dn := h
      unfold M.bnd bump at h
      by_cases hz : n < sizeLine
      · rw [if_pos hz] at h
        refine ⟨_, e, .inl ⟨rfl, _, .inl (.inl (R.town a ht))⟩, ?_⟩
        refine ⟨a, _, .int 0, rfl, rfl, R.town a ht, by rw [List.length_replicate]; exact hz, ?_⟩
        rw [show List.replicate n (V.int 0) ++ [V.int 0] = List.replicate (n + 1) (V.int 0) from List.replicate_succ'.symm]
        exact h σ _ G (R.town1 ht) fun _ _ e => e
      · rw [if_neg hz] at h
        exact h.elim
    | _ =>
      rw [q] at h
      exact (show False from h).elim
theorem s_app (hv : PE X (.Name x p2) (tVar i)) (he : PE X e (cT X.K X.mg (kE E) fe)) (hbase : attributeBase (.Name x p2) "append" X.env (eval (.Name x p2) X.env) = eval (.Name x p2) X.env := by rfl)
    (hfew : ((backTo cpos (starEach (e :: []) X.env)).all (fun x => !x.1) && (backToKw cpos (keywordEach [] X.env)).all (fun x => x.1.isSome)
      && decide ((e :: []).length + ([] : List Keyword).length + (if ([] : List Keyword).isEmpty then 0 else 1) < 30)) = true := by rfl)
    (hline : (apos.endLine == cpos.line) = true := by rfl) (hs1 : starEach (e :: []) X.env = (false, eval e X.env) :: starEach [] X.env := by rfl)
    (hs : swapsWith (.Call (.Attribute (.Name x p2) "append" apos) [e] [] cpos) none pos.line X.env = pure false := by rfl) :
    PS X (.Expr (.Call (.Attribute (.Name x p2) "append" apos) [e] [] cpos) pos) (cS X.K X.mg E (sApp i fe)) :=
  ps_mono (ps_expr (pe_bm (cpos := cpos) PySem.F.plainAttrs_list PySem.F.slot_list_append PySem.F.type_list_append mt_append hv (pa_cons he pa_nil hs1) hbase hfew hline hs1) hs) fun Dn σ H ⟨τ, H0, G0, G, ρ, n, R, h⟩ => by
    unfold sApp at h
    cases q : ρ.at i with
    | ow ds =>
      rw [q] at h
      obtain ⟨a, vs, e1, ha, ra⟩ := R.ow q
      refine ⟨_, e1, .inl ⟨rfl, _, .inl (.inl ha)⟩, τ, H0, G0, G, ρ, n, R, Post.mono (fun v H1 ⟨d, n1, G1, R1, s, r, h1⟩ => ?_) (PostS.expr (rep := Rep X.K X.mg τ) R h)⟩
      obtain ⟨hz, h2⟩ := PostS.need h1
      obtain ⟨a1, vs1, e2, ha1, ra1⟩ := R1.ow q
      rw [e1] at e2
      cases e2
      refine ⟨a, vs1, v, rfl, rfl, ha1, by rw [ra1.length]; exact of_decide_eq_true hz, ?_⟩
      exact PostS.ret h2 (R1.mutL q e1 (ra1.append (.one r)))
    | _ =>
      rw [q] at h
      exact (show False from h).elim
theorem asL_eq {d : D} {es : List D} (h : asL d = some es) : d = .list es := by
  unfold asL at h
  split at h <;> cases h
  rfl
theorem optI_eq {d : D} {k : Int} (h : optI d = some k) : d = .int k := by
  unfold optI at h
  split at h <;> cases h
  rfl
theorem asP_eq {d : D} {p : D × D} (h : asP d = some p) : d = .tuple [p.1, p.2] := by
  unfold asP at h
  split at h <;> cases h
  rfl
theorem rep_int {K : PySem.W.Frag} {mg : Str → Option Value} {τ : Option Addr} {G : Hp} {v : V} {k : Int} (h : Rep K mg τ G v (.int k)) : v = .int k := by cases h; rfl
theorem s_ext (hv : PE X (.Name x p2) (tVar i)) (he : PE X e (cT X.K X.mg (kE E) fe)) (hbase : attributeBase (.Name x p2) "extend" X.env (eval (.Name x p2) X.env) = eval (.Name x p2) X.env := by rfl)
    (hfew : ((backTo cpos (starEach (e :: []) X.env)).all (fun x => !x.1) && (backToKw cpos (keywordEach [] X.env)).all (fun x => x.1.isSome)
      && decide ((e :: []).length + ([] : List Keyword).length + (if ([] : List Keyword).isEmpty then 0 else 1) < 30)) = true := by rfl)
    (hline : (apos.endLine == cpos.line) = true := by rfl) (hs1 : starEach (e :: []) X.env = (false, eval e X.env) :: starEach [] X.env := by rfl)
    (hs : swapsWith (.Call (.Attribute (.Name x p2) "extend" apos) [e] [] cpos) none pos.line X.env = pure false := by rfl) :
    PS X (.Expr (.Call (.Attribute (.Name x p2) "extend" apos) [e] [] cpos) pos) (cS X.K X.mg E (sExt i fe)) :=
  ps_mono (ps_expr (pe_bm (cpos := cpos) PySem.F.plainAttrs_list PySem.F.slot_list_extend PySem.F.type_list_extend mt_extend hv (pa_cons he pa_nil hs1) hbase hfew hline hs1) hs) fun Dn σ H ⟨τ, H0, G0, G, ρ, n, R, h⟩ => by
    unfold sExt at h
    cases q : ρ.at i with
    | ow ds =>
      rw [q] at h
      obtain ⟨a, vs, e1, ha, ra⟩ := R.ow q
      refine ⟨_, e1, .inl ⟨rfl, _, .inl (.inl ha)⟩, τ, H0, G0, G, ρ, n, R, Post.mono (fun v H1 ⟨d, n1, G1, R1, s, r, h1⟩ => ?_) (PostS.expr (rep := Rep X.K X.mg τ) R h)⟩
      obtain ⟨es, ed, h2⟩ := PostS.opt h1
      obtain ⟨hz, h3⟩ := PostS.need h2
      rw [asL_eq ed] at r
      obtain ⟨a1, vs1, e2, ha1, ra1⟩ := R1.ow q
      rw [e1] at e2
      cases e2
      cases r with
      | lst hb rb =>
        refine ⟨a, _, vs1, _, rfl, rfl, ha1, R1.le.list hb, by rw [ra1.length, rb.length]; exact of_decide_eq_true hz, ?_⟩
        exact PostS.ret h3 (R1.mutL q e1 (ra1.append rb))
    | _ =>
      rw [q] at h
      exact (show False from h).elim
/-- x[e] = v, by the slot -/
theorem put_of {τ : Option Addr} {H0 G0 G H : Hp} {σ : L2.St} {ρ : Mi.Env} {n : Nat} {v : V} {d : D} {g : Mi.Env → M (Mi.Env × Fl)} {Dn : Ends} {Q : Hp → Prop} (R : Rel X.K X.mg τ H0 G0 G H σ ρ n) (r : Rep X.K X.mg τ G v d) (h : PostS X.K X.mg τ H0 G0 G E ((putI i fa d ρ >>= g) n) Dn)
    (k : ∀ ρ1 n1 G1 H1, Rel X.K X.mg τ H0 G0 G1 H1 σ ρ1 n1 → (∀ b u, G b = some u → G1 b = some u) → PostS X.K X.mg τ H0 G0 G1 E (g ρ1 n1) Dn → Q H1) :
    tVar i σ H fun o H1 => cT X.K X.mg (kE E) fa σ H1 fun j H2 => rSetL o j v H2 Q := by
  unfold putI at h
  cases q : ρ.at i with
  | ow ds =>
    rw [q] at h
    have h : PostS X.K X.mg τ H0 G0 G E (((fa ρ >>= fun j => ofOpt (optI j) >>= fun k => ofOpt (ixN ds.length k) >>= fun m => pure (ρ.set i (.ow (ds.set m d)))) >>= g) n) Dn := h
    rw [bnd_bnd] at h
    obtain ⟨a, vs, e1, ha, ra⟩ := R.ow q
    refine ⟨_, e1, τ, H0, G0, G, ρ, n, R, Post.mono (fun y H1 ⟨dj, n1, G1, R1, s, ry, h1⟩ => ?_) (PostS.expr (rep := Rep X.K X.mg τ) R h)⟩
    rw [bnd_bnd] at h1
    obtain ⟨kk, ek, h2⟩ := PostS.opt h1
    rw [bnd_bnd] at h2
    obtain ⟨m, em, h3⟩ := PostS.opt h2
    rw [optI_eq ek] at ry
    cases rep_int ry
    obtain ⟨a1, vs1, e2, ha1, ra1⟩ := R1.ow q
    rw [e1] at e2
    cases e2
    refine ⟨a, vs1, kk, m, rfl, rfl, ha1, by rw [ra1.length]; exact em, ?_⟩
    exact k _ _ _ _ (R1.mutL q e1 (ra1.set m (r.sub s))) s h3
  | _ =>
    rw [q] at h
    exact (show False from h).elim
theorem s_put (he : PE X e (cT X.K X.mg (kE E) fe)) (hv : PE X (.Name x p2) (tVar i)) (ha : PE X ea (cT X.K X.mg (kE E) fa))
    (has : ∀ v, assign (.Subscript (.Name x p2) ea apos) X.env v = (do
      let ov ← holding [v] (eval (.Name x p2) X.env)
      let iv ← holding [v, ov] (eval ea X.env)
      standAt apos
      holding [v, ov, iv] (setItem ov iv v)
      release [v, ov, iv] []) := by intro _; rfl)
    (hs : swapsWithSole [.Subscript (.Name x p2) ea apos] e pos.line X.env = pure false := by rfl) (hw : swappedStores [.Subscript (.Name x p2) ea apos] e X.env = pure none := by rfl)
    (h1 : (assignEach [.Subscript (.Name x p2) ea apos] X.env).map (·.2) = [assign (.Subscript (.Name x p2) ea apos) X.env] := by rfl) : PS X (.Assign [.Subscript (.Name x p2) ea apos] e pos) (cS X.K X.mg E (sPut i fa fe)) :=
  ps_mono (ps_asg he (pg_sub hv ha set_list has) hs hw h1) fun Dn σ H ⟨τ, H0, G0, G, ρ, n, R, h⟩ => ⟨τ, H0, G0, G, ρ, n, R, Post.mono (fun v H1 ⟨d, n1, G1, R1, s, r, h1⟩ =>
    put_of R1 r h1 fun ρ1 n2 G2 H2 R2 s2 h2 => PostS.ret h2 R2) (PostS.expr (rep := Rep X.K X.mg τ) R h)⟩
theorem s_putP {kt : Nat} {tpos apos' p3 : Pos} (hc : X.calm = true) (he : PE X e (cT X.K X.mg (kE E) fe)) (hv : PE X (.Name x p2) (tVar i)) (hv' : PE X (.Name x p3) (tVar i)) (ha : PE X ea (cT X.K X.mg (kE E) fa)) (hb : PE X eb (cT X.K X.mg (kE E) fb))
    (has : ∀ v, assign (.Subscript (.Name x p2) ea apos) X.env v = (do
      let ov ← holding [v] (eval (.Name x p2) X.env)
      let iv ← holding [v, ov] (eval ea X.env)
      standAt apos
      holding [v, ov, iv] (setItem ov iv v)
      release [v, ov, iv] []) := by intro _; rfl)
    (hbs : ∀ v, assign (.Subscript (.Name x p3) eb apos') X.env v = (do
      let ov ← holding [v] (eval (.Name x p3) X.env)
      let iv ← holding [v, ov] (eval eb X.env)
      standAt apos'
      holding [v, ov, iv] (setItem ov iv v)
      release [v, ov, iv] []) := by intro _; rfl)
    (hs : swapsWithSole [.Tuple [.Subscript (.Name x p2) ea apos, .Subscript (.Name x p3) eb apos'] kt tpos] e pos.line X.env = pure false := by rfl) (hw : swappedStores [.Tuple [.Subscript (.Name x p2) ea apos, .Subscript (.Name x p3) eb apos'] kt tpos] e X.env = pure none := by rfl)
    (h1 : (assignEach [.Tuple [.Subscript (.Name x p2) ea apos, .Subscript (.Name x p3) eb apos'] kt tpos] X.env).map (·.2) = [assign (.Tuple [.Subscript (.Name x p2) ea apos, .Subscript (.Name x p3) eb apos'] kt tpos) X.env] := by rfl)
    (hn : (assignEach [.Subscript (.Name x p2) ea apos, .Subscript (.Name x p3) eb apos'] X.env).length = 2 := by rfl) (hst : (assignEach [.Subscript (.Name x p2) ea apos, .Subscript (.Name x p3) eb apos'] X.env).findIdx? (·.1) = none := by rfl)
    (hh1 : (assignEach (.Subscript (.Name x p2) ea apos :: [.Subscript (.Name x p3) eb apos']) X.env).map (·.2) = assign (.Subscript (.Name x p2) ea apos) X.env :: (assignEach [.Subscript (.Name x p3) eb apos'] X.env).map (·.2) := by rfl)
    (hh2 : (assignEach (.Subscript (.Name x p3) eb apos' :: []) X.env).map (·.2) = assign (.Subscript (.Name x p3) eb apos') X.env :: (assignEach [] X.env).map (·.2) := by rfl) :
    PS X (.Assign [.Tuple [.Subscript (.Name x p2) ea apos, .Subscript (.Name x p3) eb apos'] kt tpos] e pos) (cS X.K X.mg E (sPutP i fa fb fe)) :=
  ps_mono (ps_asg he (pg_tup hc (pgs_cons (pg_sub hv ha set_list has) (pgs_cons (pg_sub hv' hb set_list hbs) pgs_nil hh2) hh1) hn hst) hs hw h1) fun Dn σ H ⟨τ, H0, G0, G, ρ, n, R, h⟩ => ⟨τ, H0, G0, G, ρ, n, R, Post.mono (fun v H1 ⟨d, n1, G1, R1, s, r, h1⟩ => by
    obtain ⟨p, ep, h2⟩ := PostS.opt h1
    rw [asP_eq ep] at r
    cases r with
    | tup hq rq =>
      cases rq with
      | cons r1 rq =>
        cases rq with
        | cons r2 rq =>
          cases rq
          refine ⟨_, _, rfl, sqt_le R1.le hq, rfl, _, _, rfl, ?_⟩
          refine put_of R1 r1 h2 fun ρ1 n2 G2 H2 R2 s2 h3 => ?_
          refine ⟨_, _, rfl, ?_⟩
          exact put_of R2 (r2.sub s2) h3 fun ρ2 n3 G3 H3 R3 s3 h4 => ⟨rfl, PostS.ret h4 R3⟩) (PostS.expr (rep := Rep X.K X.mg τ) R h)⟩
end
end Mi

end

section
set_option Elab.async false
set_option linter.all false
set_option maxRecDepth 100000
set_option maxHeartbeats 4000000
namespace Mi
open PySem PySem.Spec L2
section
variable {K : PySem.W.Frag} {mg : Str → Option Value} {τ : Option Addr} {H0 G0 G G' G1 H H' H1 : Hp} {σ : L2.St} {ρ ρ' : Mi.Env} {n n1 : Nat}
theorem PostS.exprK {α β : Type} {E : XK} {Dn : Ends} {rep : Hp → β → α → Prop} {m : M α} {g : α → M (Mi.Env × Fl)} (R : Rel K mg τ H0 G0 G H σ ρ n) (h : PostS K mg τ H0 G0 G E ((m >>= g) n) Dn) :
    Post mg τ H G E rep (m n) fun x H1 => ∃ a n1 G1, Rel K mg τ H0 G0 G1 H1 σ ρ n1 ∧ Step τ H G H1 G1 ∧ rep G1 x a ∧ PostS K mg τ H0 G0 G1 E (g a n1) Dn := by
  have h' : PostS K mg τ H0 G0 G E (M.bnd m g n) Dn := h
  unfold M.bnd at h'
  cases e : m n with
  | ok a k =>
    rw [e] at h'
    exact fun v H' G' s t p => ⟨a, k, G', R.next s t, s, p, PostS.shift s.sub h'⟩
  | err c k =>
    rw [e] at h'
    exact fun C H' mc kp tw => h' C H' mc (R.step.keep.trans kp) tw
  | bad =>
    rw [e] at h'
    exact h'.elim
theorem Rows2.snoc : ∀ {bs : List Addr} {dss : List (List D)} {b : Addr} {vs : List V} {ds : List D}, Rows2 K mg τ G H bs dss → H b = some (.lst vs) → Reps K mg τ G vs ds → Rows2 K mg τ G H (bs ++ [b]) (dss ++ [ds])
  | _, _, _, _, _, .nil, h, r => .cons h r .nil
  | _, _, _, _, _, .cons h' r' q, h, r => .cons h' r' (q.snoc h r)
theorem Rows2.len : ∀ {bs : List Addr} {dss : List (List D)}, Rows2 K mg τ G H bs dss → bs.length = dss.length
  | _, _, .nil => rfl
  | _, _, .cons _ _ q => congrArg Nat.succ q.len
theorem Rows2.get : ∀ {bs : List Addr} {dss : List (List D)} {m : Nat} {ds : List D}, Rows2 K mg τ G H bs dss → dss[m]? = some ds → ∃ b vs, bs[m]? = some b ∧ H b = some (.lst vs) ∧ Reps K mg τ G vs ds
  | _, _, 0, _, .cons h r _, e => by
    simp only [List.getElem?_cons_zero, Option.some.injEq] at e
    exact ⟨_, _, rfl, h, e ▸ r⟩
  | _, _, m + 1, _, .cons _ _ q, e => by
    simp only [List.getElem?_cons_succ] at e
    obtain ⟨b, vs, e1, e2, r⟩ := q.get e
    exact ⟨b, vs, by simpa using e1, e2, r⟩
  | _, _, _, _, .nil, e => by simp at e
theorem Rows2.put : ∀ {bs : List Addr} {dss : List (List D)} {m : Nat} {b : Addr} {vs : List V} {ds : List D}, Rows2 K mg τ G H bs dss → bs.Nodup → bs[m]? = some b → Reps K mg τ G vs ds → Rows2 K mg τ G (upd H b (.lst vs)) bs (dss.set m ds)
  | _, _, 0, _, _, _, .cons (b := b') h r q, nd, e, w => by
    simp only [List.getElem?_cons_zero, Option.some.injEq] at e
    subst e
    refine .cons upd_same w (q.sub (fun _ _ z => z) fun c hc o z => ?_)
    rw [upd_ne (fun y : c = b' => (List.nodup_cons.mp nd).1 (y ▸ hc))]
    exact z
  | _, _, m + 1, b, _, _, .cons (b := b') h r q, nd, e, w => by
    simp only [List.getElem?_cons_succ] at e
    refine .cons ?_ r (q.put (List.nodup_cons.mp nd).2 e w)
    rw [upd_ne (fun y : b' = b => (List.nodup_cons.mp nd).1 (y ▸ List.mem_of_getElem? e))]
    exact h
  | _, _, _, _, _, _, .nil, _, e, _ => by simp at e
theorem Rel.app2 (R : Rel K mg τ H0 G0 G H σ ρ n) {i j : Nat} {a b : Addr} {bs : List Addr} {dss : List (List D)} {ds : List D} (hi : ρ.at i = .ow2 dss) (hj : ρ.at j = .ow ds) (ei : σ[i]? = some (some (.ref a))) (ej : σ[j]? = some (some (.ref b)))
    (ha : H a = some (.lst (bs.map V.ref))) : Rel K mg τ H0 G0 G (upd H a (.lst ((bs ++ [b]).map V.ref))) σ ((ρ.set j .no).set i (.ow2 (dss ++ [ds]))) n := by
  have ok := R.slots i
  rw [hi] at ok
  obtain ⟨a', bs', e, h, nd, nb, rr⟩ := ok
  rw [ei] at e
  cases e
  rw [ha] at h
  cases refs_inj h
  have okj := R.slots j
  rw [hj] at okj
  obtain ⟨b', vs, e, hb, rb⟩ := okj
  rw [ej] at e
  cases e
  have ca : CellOf H σ[i]? (ρ.at i) a := by rw [hi]; exact .inl ei
  have cbs : ∀ c ∈ bs, CellOf H σ[i]? (ρ.at i) c := fun c hc => by rw [hi]; exact .inr ⟨a, bs, ei, ha, hc⟩
  have cb : CellOf H σ[j]? (ρ.at j) b := by rw [hj]; exact ej
  have ij : i ≠ j := fun z => by rw [z, hj] at hi; cases hi
  have ab : a ≠ b := fun z => ij (R.apart i j a ca (z ▸ cb))
  have bbs : b ∉ bs := fun hm => ij (R.apart i j b (cbs b hm) cb)
  obtain ⟨ga, h0, ht⟩ := R.cell i a ca
  have li : i < ρ.length := by
    rcases Nat.lt_or_ge i ρ.length with h | h
    · exact h
    · rw [at_ge h] at hi
      cases hi
  have lj : j < ρ.length := by
    rcases Nat.lt_or_ge j ρ.length with h | h
    · exact h
    · rw [at_ge h] at hj
      cases hj
  have atk : ∀ k, Env.at ((ρ.set j .no).set i (.ow2 (dss ++ [ds]))) k = if k = i then .ow2 (dss ++ [ds]) else if k = j then .no else ρ.at k := fun k => by
    rw [at_set, at_set, List.length_set]
    by_cases h : k = i
    · rw [if_pos ⟨h, li⟩, if_pos h]
    · rw [if_neg (fun z => h z.1), if_neg h]
      by_cases h2 : k = j
      · rw [if_pos ⟨h2, lj⟩, if_pos h2]
      · rw [if_neg (fun z => h2 z.1), if_neg h2]
  have nea : ∀ k, k ≠ i → ∀ c, CellOf H σ[k]? (ρ.at k) c → upd H a (.lst ((bs ++ [b]).map V.ref)) c = H c := fun k hk c d => upd_ne fun z => hk (R.apart k i c d (z ▸ ca))
  have back : ∀ k c, CellOf (upd H a (.lst ((bs ++ [b]).map V.ref))) σ[k]? (Env.at ((ρ.set j .no).set i (.ow2 (dss ++ [ds]))) k) c → (k = i ∧ (CellOf H σ[i]? (ρ.at i) c ∨ c = b)) ∨ (k ≠ i ∧ k ≠ j ∧ CellOf H σ[k]? (ρ.at k) c) := fun k c d => by
    rw [atk] at d
    by_cases h : k = i
    · subst h
      rw [if_pos rfl] at d
      refine .inl ⟨rfl, ?_⟩
      rcases d with d | ⟨r, bs', e, h', hm⟩
      · rw [ei] at d
        cases d
        exact .inl ca
      · rw [ei] at e
        cases e
        rw [upd_same] at h'
        cases refs_inj h'
        rcases List.mem_append.mp hm with hm | hm
        · exact .inl (cbs c hm)
        · exact .inr (by simpa using hm)
    · rw [if_neg h] at d
      by_cases h2 : k = j
      · rw [if_pos h2] at d
        exact d.elim
      · rw [if_neg h2] at d
        exact .inr ⟨h, h2, cell_keep (R.slots k) (nea k h) c d⟩
  refine ⟨⟨fun c q e nt => ?_, R.step.sub, R.step.new, fun c u e => ?_, R.nt⟩, fun c e => ?_, by rw [List.length_set, List.length_set]; exact R.len, fun k => ?_, fun k c d => ?_, fun k l c d e => ?_⟩
  · rw [upd_ne (fun z => by rw [z, h0] at e; cases e)]
    exact R.step.keep c q e nt
  · rw [upd_ne (fun z => by rw [z, ga] at e; cases e)]
    exact R.le c u e
  · rw [upd_ne (fun z => ht (by rw [← z, e]))]
    exact R.town c e
  · rw [atk]
    by_cases h : k = i
    · subst h
      rw [if_pos rfl]
      refine ⟨a, bs ++ [b], ei, upd_same, ?_, fun hm => ?_, ?_⟩
      · rw [List.nodup_append]
        exact ⟨nd, by simp, fun x hx y hy z => bbs (by have : y = b := by simpa using hy
                                                       rw [← this, ← z]; exact hx)⟩
      · rcases List.mem_append.mp hm with hm | hm
        · exact nb hm
        · exact ab (by simpa using hm)
      · refine Rows2.snoc (rr.sub (fun _ _ z => z) fun c hc o z => ?_) ?_ rb
        · rw [upd_ne (fun y : c = a => nb (y ▸ hc))]
          exact z
        · rw [upd_ne (Ne.symm ab)]
          exact hb
    · rw [if_neg h]
      by_cases h2 : k = j
      · rw [if_pos h2]
        exact trivial
      · rw [if_neg h2]
        exact slot_keep (R.slots k) (nea k h)
  · rcases back k c d with ⟨_, h | h⟩ | ⟨_, _, h⟩
    · exact R.cell i c h
    · rw [h]
      exact R.cell j b cb
    · exact R.cell k c h
  · rcases back k c d with ⟨hk, h | h⟩ | ⟨hk, hk2, h⟩ <;> rcases back l c e with ⟨hl, h' | h'⟩ | ⟨hl, hl2, h'⟩
    · rw [hk, hl]
    · rw [hk, hl]
    · exact absurd (R.apart i l c h h') (Ne.symm hl)
    · rw [hk, hl]
    · rw [hk, hl]
    · rw [h] at h'
      exact absurd (R.apart j l b cb h') (Ne.symm hl2)
    · exact absurd (R.apart i k c h' h) (Ne.symm hk)
    · rw [h'] at h
      exact absurd (R.apart j k b cb h) (Ne.symm hk2)
    · exact R.apart k l c h h'
end
section
variable {X : Cx} {E : XK} {pos cpos apos ipos p2 : Pos} {e ea eb : Expr} {i j : Nat} {fe fa fb : Mi.Env → M D} {x : Str}
theorem s_app2 (hv : PE X (.Name x p2) (tVar i)) (he : PE X e (tVar j)) (hbase : attributeBase (.Name x p2) "append" X.env (eval (.Name x p2) X.env) = eval (.Name x p2) X.env := by rfl)
    (hfew : ((backTo cpos (starEach (e :: []) X.env)).all (fun x => !x.1) && (backToKw cpos (keywordEach [] X.env)).all (fun x => x.1.isSome)
      && decide ((e :: []).length + ([] : List Keyword).length + (if ([] : List Keyword).isEmpty then 0 else 1) < 30)) = true := by rfl)
    (hline : (apos.endLine == cpos.line) = true := by rfl) (hs1 : starEach (e :: []) X.env = (false, eval e X.env) :: starEach [] X.env := by rfl)
    (hs : swapsWith (.Call (.Attribute (.Name x p2) "append" apos) [e] [] cpos) none pos.line X.env = pure false := by rfl) :
    PS X (.Expr (.Call (.Attribute (.Name x p2) "append" apos) [e] [] cpos) pos) (cS X.K X.mg E (sApp2 i j)) :=
  ps_mono (ps_expr (pe_bm (cpos := cpos) PySem.F.plainAttrs_list PySem.F.slot_list_append PySem.F.type_list_append mt_append hv (pa_cons he pa_nil hs1) hbase hfew hline hs1) hs) fun Dn σ H ⟨τ, H0, G0, G, ρ, n, R, h⟩ => by
    unfold sApp2 at h
    cases q : ρ.at i with
    | ow2 dss =>
      cases q2 : ρ.at j with
      | ow ds =>
        rw [q, q2] at h
        obtain ⟨a, bs, e1, ha, nd, nb, rr⟩ := R.ow2 q
        obtain ⟨b, vs, e2, hb, rb⟩ := R.ow q2
        obtain ⟨hz, h2⟩ := PostS.need h
        refine ⟨_, e1, .inl ⟨rfl, _, .inl (.inl ha)⟩, _, e2, a, _, .ref b, rfl, rfl, ha, by rw [List.length_map, rr.len]; exact of_decide_eq_true hz, ?_⟩
        have z : bs.map V.ref ++ [V.ref b] = (bs ++ [b]).map V.ref := by rw [List.map_append]; rfl
        rw [z]
        exact h2 σ _ G (R.app2 q q2 e1 e2 ha) fun _ _ e => e
      | _ =>
        rw [q, q2] at h
        exact (show False from h).elim
    | _ =>
      rw [q] at h
      exact (show False from h).elim
theorem s_put2 (he : PE X e (cT X.K X.mg (kE E) fe)) (hv : PE X (.Name x p2) (tVar i)) (ha : PE X ea (cT X.K X.mg (kE E) fa)) (hb : PE X eb (cT X.K X.mg (kE E) fb)) (hix : PlainIx ea)
    (has : ∀ v, assign (.Subscript (.Subscript (.Name x p2) ea ipos) eb apos) X.env v = (do
      let ov ← holding [v] (eval (.Subscript (.Name x p2) ea ipos) X.env)
      let iv ← holding [v, ov] (eval eb X.env)
      standAt apos
      holding [v, ov, iv] (setItem ov iv v)
      release [v, ov, iv] []) := by intro _; rfl)
    (hs : swapsWithSole [.Subscript (.Subscript (.Name x p2) ea ipos) eb apos] e pos.line X.env = pure false := by rfl) (hw : swappedStores [.Subscript (.Subscript (.Name x p2) ea ipos) eb apos] e X.env = pure none := by rfl)
    (h1 : (assignEach [.Subscript (.Subscript (.Name x p2) ea ipos) eb apos] X.env).map (·.2) = [assign (.Subscript (.Subscript (.Name x p2) ea ipos) eb apos) X.env] := by rfl) : PS X (.Assign [.Subscript (.Subscript (.Name x p2) ea ipos) eb apos] e pos) (cS X.K X.mg E (sPut2 i fa fb fe)) :=
  ps_mono (ps_asg he (pg_sub (pe_ix ix_list hv ha hix) hb set_list has) hs hw h1) fun Dn σ H ⟨τ, H0, G0, G, ρ, n, R, h⟩ => ⟨τ, H0, G0, G, ρ, n, R, Post.mono (fun v H1 ⟨d, n1, G1, R1, s, r, h1⟩ => by
    unfold put2 at h1
    cases q : ρ.at i with
    | ow2 dss =>
      rw [q] at h1
      have h1 : PostS X.K X.mg τ H0 G0 G1 E (((fa ρ >>= fun a => ofOpt (optI a) >>= fun k => ofOpt (ixN dss.length k) >>= fun m => ofOpt dss[m]? >>= fun ds => fb ρ >>= fun b => ofOpt (optI b) >>= fun k2 => ofOpt (ixN ds.length k2) >>= fun m2 => pure (ρ.set i (.ow2 (dss.set m (ds.set m2 d))))) >>= fun ρ' => pure (ρ', Fl.nx)) n1) Dn := h1
      rw [bnd_bnd] at h1
      obtain ⟨a, bs, e1, hA, nd, nb, rr⟩ := R1.ow2 q
      refine ⟨_, e1, τ, H0, G0, G1, ρ, n1, R1, Post.mono (fun y H2 ⟨da, n2, G2, R2, s2, ry, h2⟩ => ?_) (PostS.expr (rep := Rep X.K X.mg τ) R1 h1)⟩
      rw [bnd_bnd] at h2
      obtain ⟨k, ek, h2⟩ := PostS.opt h2
      rw [bnd_bnd] at h2
      obtain ⟨m, em, h2⟩ := PostS.opt h2
      rw [bnd_bnd] at h2
      obtain ⟨ds, eds, h2⟩ := PostS.opt h2
      rw [bnd_bnd] at h2
      rw [optI_eq ek] at ry
      cases rep_int ry
      obtain ⟨a2, bs2, e2, hA2, nd2, nb2, rr2⟩ := R2.ow2 q
      rw [e1] at e2
      cases e2
      obtain ⟨b, vs, eb, hb, rb⟩ := rr2.get eds
      refine ⟨a, bs2.map V.ref, k, .ref b, rfl, rfl, .inl (.inl hA2), ?_, ?_⟩
      · unfold L2.atI
        rw [List.length_map, rr2.len, em]
        show (bs2.map V.ref)[m]? = _
        rw [List.getElem?_map, eb]
        rfl
      refine ⟨τ, H0, G0, G2, ρ, n2, R2, Post.mono (fun z H3 ⟨db, n3, G3, R3, s3, rz, h3⟩ => ?_) (PostS.exprK (rep := Rep X.K X.mg τ) R2 h2)⟩
      rw [bnd_bnd] at h3
      obtain ⟨k2, ek2, h3⟩ := PostS.opt h3
      rw [bnd_bnd] at h3
      obtain ⟨m2, em2, h3⟩ := PostS.opt h3
      rw [optI_eq ek2] at rz
      cases rep_int rz
      obtain ⟨a3, bs3, e3, hA3, nd3, nb3, rr3⟩ := R3.ow2 q
      rw [e1] at e3
      cases e3
      have eb' : bs3 = bs2 := by
        have ca : CellOf H2 σ[i]? (ρ.at i) a := by rw [q]; exact .inl e1
        have w := s3.keep a _ hA2 (R2.cell i a ca).2.2
        exact refs_inj (hA3.symm.trans w)
      subst eb'
      obtain ⟨b3, vs3, eb3, hb3, rb3⟩ := rr3.get eds
      rw [eb] at eb3
      cases eb3
      refine ⟨b, vs3, k2, m2, rfl, rfl, hb3, by rw [rb3.length]; exact em2, ?_⟩
      have cb : CellOf H3 σ[i]? (ρ.at i) b := by rw [q]; exact .inr ⟨a, bs3, e1, hA3, List.mem_of_getElem? eb⟩
      refine PostS.ret h3 (R3.mut cb ?_ fun c hc => ?_)
      · have ne : a ≠ b := fun z => nb3 (z ▸ List.mem_of_getElem? eb)
        exact ⟨a, bs3, e1, by rw [upd_ne ne]; exact hA3, nd3, nb3, rr3.put nd3 eb (rb3.set m2 (((r.sub s2)).sub s3.sub))⟩
      · rw [q]
        rcases hc with hc | ⟨r', bs', e', h', hm⟩
        · exact .inl hc
        · rw [e1] at e'
          cases e'
          have ne : a ≠ b := fun z => nb3 (z ▸ List.mem_of_getElem? eb)
          rw [upd_ne ne] at h'
          exact .inr ⟨a, bs', e1, h', hm⟩
    | _ =>
      rw [q] at h1
      exact (show False from h1).elim) (PostS.expr (rep := Rep X.K X.mg τ) R h)⟩
end
end Mi

end

section
set_option Elab.async false
set_option linter.all false
set_option maxRecDepth 100000
set_option maxHeartbeats 4000000
namespace Mi
open PySem PySem.Spec L2

/-! ### defs -/
def startE (L : Nat) (ds : List D) : Mi.Env := ds.map .fz ++ List.replicate (L - ds.length) .no
def outD : Mi.Env × Fl → M D
  | (_, .nx) => pure .none
  | (_, .rt d) => pure d
  | _ => bad
/-- a def's meaning: its body's -/
def run (L : Nat) (body : MS) (ds : List D) : M D := body (startE L ds) >>= outD
/-- what a def promises -/
def spM (K : PySem.W.Frag) (mg : Str → Option Value) (ar : Nat) (m : List D → M D) : Sp := fun vs H Q E => ∃ τ n G ds, ds.length = ar ∧ Le G H ∧ (∀ a, τ = some a → G a = none) ∧ Town τ n H ∧ Reps K mg τ G vs ds ∧ Post mg τ H G E (Rep K mg τ) (m ds n) Q
theorem start_at {L : Nat} {ds : List D} (j : Nat) : (startE L ds).at j = match ds[j]? with
  | some d => .fz d
  | none => .no := by
  unfold startE Env.at
  rw [List.getD_eq_getElem?_getD]
  by_cases h : j < ds.length
  · rw [List.getElem?_append_left (by rw [List.length_map]; exact h), List.getElem?_map, List.getElem?_eq_getElem h]
    rfl
  · rw [List.getElem?_append_right (by rw [List.length_map]; omega), List.getElem?_eq_none (l := ds) (by omega), List.getElem?_replicate]
    split <;> rfl
theorem rel_start {K : PySem.W.Frag} {mg : Str → Option Value} {τ : Option Addr} {G H : Hp} {n : Nat} {N : List Str} {vs : List V} {ds : List D} (l : Le G H) (nt : ∀ a, τ = some a → G a = none) (tw : Town τ n H) (r : Reps K mg τ G vs ds) :
    Rel K mg τ H G G H (L2.start N vs) (startE N.length ds) n where
  step := Step.refl l nt
  town := tw
  len := by
    unfold startE L2.start
    rw [List.length_append, List.length_append, List.length_map, List.length_map, List.length_replicate, List.length_replicate, r.length]
  slots := fun j => by
    rw [start_at]
    cases e : ds[j]? with
    | none => trivial
    | some d =>
      obtain ⟨v, ev, rv⟩ := r.get e
      refine ⟨v, ?_, rv⟩
      unfold L2.start
      have hl : j < vs.length := (List.getElem?_eq_some_iff.mp ev).1
      rw [List.getElem?_append_left (by rw [List.length_map]; exact hl), List.getElem?_map, ev]
      rfl
  cell := fun j a c => by
    rw [start_at] at c
    cases e : ds[j]? with
    | none => rw [e] at c; exact c.elim
    | some d => rw [e] at c; exact c.elim
  apart := fun j k a c d => by
    rw [start_at] at c
    cases e : ds[j]? with
    | none => rw [e] at c; exact c.elim
    | some d => rw [e] at c; exact c.elim
theorem body_start {K : PySem.W.Frag} {mg : Str → Option Value} {E : XK} {body : MS} {N : List Str} {ar : Nat} {vs : List V} {H : Hp} {Q : VK} (h : spM K mg ar (run N.length body) vs H Q E) :
    cS K mg E body { nx := fun _ H' => Q .non H', rt := Q } (L2.start N vs) H := by
  obtain ⟨τ, n, G, ds, _, l, nt, tw, r, h⟩ := h
  refine ⟨τ, H, G, G, _, n, rel_start l nt tw r, ?_⟩
  have h' : Post mg τ H G E (Rep K mg τ) (M.bnd (body (startE N.length ds)) outD n) Q := h
  unfold M.bnd at h'
  cases e : body (startE N.length ds) n with
  | ok p k =>
    rw [e] at h'
    obtain ⟨ρ', fl⟩ := p
    cases fl with
    | nx => exact fun σ' H' G' R s => h' .non H' G' R.step R.town .non
    | rt d => exact fun σ' H' G' R s v r => h' v H' G' R.step R.town r
    | bk => exact (show False from h').elim
    | ct => exact (show False from h').elim
    | ro ds => exact (show False from h').elim
  | err c k =>
    rw [e] at h'
    exact h'
  | bad =>
    rw [e] at h'
    exact h'.elim
/-! a def that returns a new list -/
def outF : Mi.Env × Fl → M (List D)
  | (_, .ro ds) => pure ds
  | _ => bad
def runF (L : Nat) (body : MS) (ds : List D) : M (List D) := body (startE L ds) >>= outF
def spN (K : PySem.W.Frag) (mg : Str → Option Value) (ar : Nat) (m : List D → M (List D)) : Sp := fun vs H Q E => ∃ τ n G ds, ds.length = ar ∧ Le G H ∧ (∀ a, τ = some a → G a = none) ∧ Town τ n H ∧ Reps K mg τ G vs ds ∧ PostF K mg τ H G E (m ds n) Q
theorem body_startF {K : PySem.W.Frag} {mg : Str → Option Value} {E : XK} {body : MS} {N : List Str} {ar : Nat} {vs : List V} {H : Hp} {Q : VK} (h : spN K mg ar (runF N.length body) vs H Q E) :
    cS K mg E body { nx := fun _ H' => Q .non H', rt := Q } (L2.start N vs) H := by
  obtain ⟨τ, n, G, ds, _, l, nt, tw, r, h⟩ := h
  refine ⟨τ, H, G, G, _, n, rel_start l nt tw r, ?_⟩
  have h' : PostF K mg τ H G E (M.bnd (body (startE N.length ds)) outF n) Q := h
  unfold M.bnd at h'
  cases e : body (startE N.length ds) n with
  | ok p k =>
    rw [e] at h'
    obtain ⟨ρ', fl⟩ := p
    cases fl with
    | ro ds => exact fun σ' H' G' R s p vs h0 hp gp _ r => h' p vs H' G' R.step R.town h0 hp gp r
    | _ => exact (show False from h').elim
  | err c k =>
    rw [e] at h'
    exact h'
  | bad =>
    rw [e] at h'
    exact h'.elim
section
variable {P : Program} {w : World} {K : PySem.W.Frag} {mg : Str → Option Value} {base : Heap}
theorem fn_bodyF {x qual : Str} {st : Stmt} {f : Addr} {fd : FuncData} {N ps : List Str} {k ar : Nat} {body : MS} (F : Fun K x qual st f fd) (S : FnScope N ps (defScope st)) (har : ps.length = ar)
    (hb : ∀ (cdv : Value) (A : Around) (outer : List PySem.Env) (s : Shared) (H : Hp) (E : XK), Room k (A.deeper (PyProof.Rows.envOfC qual (defScope st) s.heap.objs.size f cdv)) →
      PSs (cxOf (L2.CX P w) P w K mg base N qual (defScope st) f cdv A outer s H E) (defBody st) (cS K mg E body)) : FnOk P w K mg base (L2.CX P w) (k + 1) f fd ps (spN K mg ar (runF N.length body)) :=
  F.okX S (fun vs H Q E ⟨τ, n, G, ds, hl, _, _, _, r, _⟩ => by rw [r.length, hl, har]) fun cdv A outer s H vs Q E hr h => ⟨_, hb cdv A outer s H E hr, body_startF h⟩
/-- a def keeps what its body means -/
theorem fn_body {x qual : Str} {st : Stmt} {f : Addr} {fd : FuncData} {N ps : List Str} {k ar : Nat} {body : MS} (F : Fun K x qual st f fd) (S : FnScope N ps (defScope st)) (har : ps.length = ar)
    (hb : ∀ (cdv : Value) (A : Around) (outer : List PySem.Env) (s : Shared) (H : Hp) (E : XK), Room k (A.deeper (PyProof.Rows.envOfC qual (defScope st) s.heap.objs.size f cdv)) →
      PSs (cxOf (L2.CX P w) P w K mg base N qual (defScope st) f cdv A outer s H E) (defBody st) (cS K mg E body)) : FnOk P w K mg base (L2.CX P w) (k + 1) f fd ps (spM K mg ar (run N.length body)) :=
  F.okX S (fun vs H Q E ⟨τ, n, G, ds, hl, _, _, _, r, _⟩ => by rw [r.length, hl, har]) fun cdv A outer s H vs Q E hr h => ⟨_, hb cdv A outer s H E hr, body_start h⟩
/-- of what never comes -/
theorem fn_bad {f : Addr} {fd : FuncData} {ps : List Str} {k ar : Nat} : FnOk P w K mg base (L2.CX P w) k f fd ps (spM K mg ar fun _ => bad) where
  len := fun vs H Q E ⟨_, _, _, _, _, _, _, _, _, h⟩ => h.elim
  run := fun _ _ _ _ _ _ _ _ _ _ _ _ _ ⟨_, _, _, _, _, _, _, _, _, h⟩ => h.elim
end
/-- f(..) -/
def eFn (ar : Nat) (m : List D → M D) (fs : Mi.Env → M (List D)) : Mi.Env → M D := fun ρ => do let ds ← fs ρ; need (decide (ds.length = ar)); m ds
section
variable {X : Cx} {k ar : Nat} {f : Addr} {fd : FuncData} {ps : List Str} {W : WX} {x : Str} {p pos : Pos} {e : Expr} {es : List Expr} {m : List D → M D} {fs : Mi.Env → M (List D)}
theorem x_fn (tk : Takes X W) (F : FnOk X.prog X.w X.K X.mg X.base (L2.CX X.prog X.w) k f fd ps (spM X.K X.mg ar m)) (hr : Room k X.A) (hm : X.mg x = some (.ref f)) (hk : PySem.W.keepIn X.K (.ref f) = true) (hb : Binds X.K fd ps [])
    (ha : PA X (e :: es) (cA X.K X.mg (WE W) fs)) (hg : Gl X x := by rfl) (hdb : (x == ("__debug__" : Str)) = false := by decide) (he : starEach (e :: es) X.env = (false, eval e X.env) :: starEach es X.env := by rfl) (hpl : (backTo pos (starEach es X.env)).any (·.1) = false := by rfl) :
    PE X (.Call (.Name x p) (e :: es) [] pos) (cT X.K X.mg (WE W) (eFn ar m fs)) :=
  pe_mono (pe_callS F hr hg hm hk hb (fun σ => passAt tk σ) ha hdb he hpl) fun σ H Q ⟨τ, H0, G0, G, ρ, n, R, h⟩ => ⟨τ, H0, G0, G, ρ, n, R, Post.mono (fun vs H1 ⟨ds, n1, G1, st, tw, r, h1⟩ => by
    obtain ⟨hz, h2⟩ := Post.need h1
    exact ⟨τ, n1, G1, ds, of_decide_eq_true hz, st.le, st.nt, tw, r, h2⟩) (Post.bind (rep := Reps X.K X.mg τ) h)⟩
end

def lFn (ar : Nat) (m : List D → M (List D)) (fs : Mi.Env → M (List D)) : Mi.Env → M (List D) := fun ρ => do let ds ← fs ρ; need (decide (ds.length = ar)); m ds
section
variable {X : Cx} {k ar : Nat} {f : Addr} {fd : FuncData} {ps : List Str} {W : WX} {x : Str} {p pos : Pos} {e : Expr} {es : List Expr} {m : List D → M (List D)} {fs : Mi.Env → M (List D)}
theorem l_fn (tk : Takes X W) (F : FnOk X.prog X.w X.K X.mg X.base (L2.CX X.prog X.w) k f fd ps (spN X.K X.mg ar m)) (hr : Room k X.A) (hm : X.mg x = some (.ref f)) (hk : PySem.W.keepIn X.K (.ref f) = true) (hb : Binds X.K fd ps [])
    (ha : PA X (e :: es) (cA X.K X.mg (WE W) fs)) (hg : Gl X x := by rfl) (hdb : (x == ("__debug__" : Str)) = false := by decide) (he : starEach (e :: es) X.env = (false, eval e X.env) :: starEach es X.env := by rfl) (hpl : (backTo pos (starEach es X.env)).any (·.1) = false := by rfl) :
    PE X (.Call (.Name x p) (e :: es) [] pos) (cF X.K X.mg (WE W) (lFn ar m fs)) :=
  pe_mono (pe_callS F hr hg hm hk hb (fun σ => passAt tk σ) ha hdb he hpl) fun σ H Q ⟨τ, H0, G0, G, ρ, n, R, h⟩ => ⟨τ, H0, G0, G, ρ, n, R, Post.mono (fun vs H1 ⟨ds, n1, G1, st, tw, r, h1⟩ => by
    obtain ⟨hz, h2⟩ := PostF.need h1
    exact ⟨τ, n1, G1, ds, of_decide_eq_true hz, st.le, st.nt, tw, r, h2⟩) (PostF.bind (rep := Reps X.K X.mg τ) h)⟩
end

/-! ### the law itself: first the town's list is laid -/
/-- what the law's body comes to behind its first line; i is the town's name -/
def lawOk (L i : Nat) (body : MS) (ns : List Int) : Prop := ∃ n, (body ((startE L [scrD ns]).set i (.fz townD)) >>= outD) 0 = .ok (.bool true) n
def spLaw (K : PySem.W.Frag) (L i : Nat) (body : MS) : Sp := fun vs H Q _ => ∃ (a : Addr) (ns : List Int), vs = [.ref a] ∧ Only H ∧ SqL K H a (ns.map V.int) ∧ lawOk L i body ns ∧ i < L ∧ ∀ H', Q (.bl true) H'
section
variable {P : Program} {w : World} {K : PySem.W.Frag} {mg : Str → Option Value} {base : Heap}
theorem rel_town {N : List Str} {a p : Addr} {ns : List Int} {H : Hp} {i : Nat} (hO : Only H) (hS : SqL K H a (ns.map V.int)) (hp : H p = none) (hi : i < N.length) :
    Rel K mg (some p) H H H (upd H p (.lst [])) ((L2.start N [.ref a]).set i (some (.ref p))) ((startE N.length [scrD ns]).set i (.fz townD)) 0 := by
  have le : Le H (upd H p (.lst [])) := fun b u e => .inl (by rw [upd_ne (ne_of_none e hp)]; exact e)
  have R0 : Rel K mg (some p) H H H (upd H p (.lst [])) (L2.start N [.ref a]) (startE N.length [scrD ns]) 0 := {
    step := ⟨fun b o e _ => by rw [upd_ne (ne_of_none e hp)]; exact e, fun _ _ e => e, fun _ _ e => .inl e, le, fun b e => by cases e; exact hp⟩
    town := fun b e => by cases e; exact upd_same
    len := by
      unfold startE L2.start
      rw [List.length_append, List.length_append, List.length_map, List.length_map, List.length_replicate, List.length_replicate]
      rfl
    slots := fun j => by
      rw [start_at]
      cases j with
      | zero =>
        refine ⟨.ref a, rfl, .scr ?_⟩
        rcases hS with (q | ⟨o, q⟩) | q
        · rcases hO a with z | ⟨o, xs, z⟩
          · rw [z] at q; cases q
          · rw [z] at q; cases q
        · exact .inl ⟨o, q⟩
        · exact .inr (.inr q)
      | succ j => trivial
    cell := fun j b c => by
      rw [start_at] at c
      cases j with
      | zero => exact c.elim
      | succ j => exact c.elim
    apart := fun j k b c d => by
      rw [start_at] at c
      cases j with
      | zero => exact c.elim
      | succ j => exact c.elim }
  exact R0.set i (.town rfl)
theorem law_body {x qual : Str} {st : Stmt} {sts : List Stmt} {f : Addr} {fd : FuncData} {N : List Str} {sc : Str} {k i : Nat} {body : MS} {y : Str} {py pl pos : Pos} (F : Fun K x qual st f fd) (S : FnScope N [sc] (defScope st)) (hbd : defBody st = .Assign [.Name y py] (.List [] pl) pos :: sts)
    (hN : N.Nodup) (hy : N[i]? = some y)
    (hs : ∀ (cdv : Value) (A : Around) (outer : List PySem.Env) (s : Shared) (H : Hp) (E : XK), PS (cxOf (L2.CX P w) P w K mg base N qual (defScope st) f cdv A outer s H E) (.Assign [.Name y py] (.List [] pl) pos) (tAsg (fun _ H Q => ∀ p, H p = none → Q (.ref p) (upd H p (.lst []))) (gName i)))
    (hb : ∀ (cdv : Value) (A : Around) (outer : List PySem.Env) (s : Shared) (H : Hp) (E : XK), Room k (A.deeper (PyProof.Rows.envOfC qual (defScope st) s.heap.objs.size f cdv)) →
      PSs (cxOf (L2.CX P w) P w K mg base N qual (defScope st) f cdv A outer s H E) sts (cS K mg E body)) : FnOk P w K mg base (L2.CX P w) (k + 1) f fd [sc] (spLaw K N.length i body) :=
  F.okX S (fun vs H Q E ⟨a, ns, e, _⟩ => by rw [e]; rfl) fun cdv A outer s H vs Q E hr ⟨a, ns, e, hO, hS, ⟨n, hok⟩, hi, hq⟩ => by
    subst e
    rw [hbd]
    refine ⟨_, pss_cons (hs cdv A outer s H E) (hb cdv A outer s H E hr), ?_⟩
    intro p hp
    refine ⟨some p, H, H, H, _, 0, rel_town (N := N) hO hS hp hi, ?_⟩
    have h' : M.bnd (body ((startE N.length [scrD ns]).set i (.fz townD))) outD 0 = .ok (.bool true) n := hok
    unfold M.bnd at h'
    cases e : body ((startE N.length [scrD ns]).set i (.fz townD)) 0 with
    | ok q k =>
      rw [e] at h'
      obtain ⟨ρ', fl⟩ := q
      cases fl with
      | nx => cases h'
      | rt d =>
        cases h'
        exact fun σ' H' G' R s v r => by
          cases r
          exact hq H'
      | bk => cases h'
      | ct => cases h'
      | ro ds => cases h'
    | err c k => rw [e] at h'; cases h'
    | bad => rw [e] at h'; cases h'
end
end Mi

end

section
set_option Elab.async false
set_option linter.all false
set_option maxRecDepth 100000
set_option maxHeartbeats 4000000
namespace Mi
open PySem PySem.Spec L2

/-! ### try: .. except C as n: z = n; the caught object is kept -/
theorem excO_ok {P : Program} {w : World} {H : Hp} {h : Heap} {a : Addr} {cls : Value} {oe : Obj} {vs : Array Value} (e : h.get? a = some oe) (z : Zc cls none oe) (d : oe.data = .fields vs) : ObjOk P w H h a (ExcO cls a) :=
  ⟨⟨oe, e, z.1, z.2, vs, d⟩, ⟨oe, e⟩, fun _ _ ⟨o, q, r1, r2, v, r3⟩ k => ⟨o, k o q, r1, r2, v, r3⟩⟩
section
variable {X : Cx} {pins : List (Addr × Obj)} {σ : L2.St} {H : Hp} {s : Shared}
/-- an object that came since the entry, of nobody's, is told of -/
theorem track (I : Inv X pins σ H s) {a : Addr} {cls : Value} {oe : Obj} {vs : Array Value} (e : s.heap.get? a = some oe) (z : Zc cls none oe) (d : oe.data = .fields vs) (na : H a = none) (n0 : X.s_0.heap.get? a = none) (nL : a ≠ X.env.locals)
    (np : ∀ p ∈ X.pn ++ pins, p.1 ≠ a) : Inv X pins σ (upd H a (ExcO cls a)) s := by
  have ne0 : ∀ b o, X.s_0.heap.get? b = some o → b ≠ a := fun b o q w => by
    rw [w, n0] at q
    cases q
  have neH : ∀ b u, H b = some u → b ≠ a := fun b u q => ne_of_none q na
  refine ⟨I.ok, I.os, I.bare, ⟨I.base.keep, I.base.slot, fun b o q n hx => ?_, I.base.there, fun b xs q => ?_, fun b o u q => ?_, fun b ps q => ?_⟩, I.loc, I.cell, ?_, fun y c q => ?_, fun p hp => ?_, fun b u q => ?_, I.len⟩
  · rw [upd_ne (ne0 b o q)]
    exact I.base.free b o q n hx
  · have w := I.base.tups b xs q
    rw [upd_ne (neH b _ w)]
    exact w
  · have w := I.base.frzs b o u q
    rw [upd_ne (neH b _ w)]
    exact w
  · obtain ⟨m, w⟩ := I.base.tbls b ps q
    exact ⟨m, by rw [upd_ne (neH b _ w)]; exact w⟩
  · rw [upd_ne (Ne.symm nL)]
    exact I.free
  · have hca : c ≠ a := fun w => by
      obtain ⟨v, o, ho, hd⟩ := I.cell y c q
      rw [w, e] at ho
      cases ho
      rw [d] at hd
      cases hd
    rw [upd_ne hca]
    exact I.freeC y c q
  · obtain ⟨h1, h2, h3⟩ := I.pin p hp
    exact ⟨h1, by rw [upd_ne (np p hp)]; exact h2, h3⟩
  · by_cases hb : b = a
    · subst hb
      rw [upd_same] at q
      cases q
      exact excO_ok e z d
    · rw [upd_ne hb] at q
      exact (I.hok b u q).stay (fun c v _ r => r) (fun c r => by rw [upd_ne (neH c _ r)]; exact r) fun c xs r => by rw [upd_ne (neH c _ r)]; exact r
end
/-- what is wished of an error in the try's body -/
def wKeep (K : PySem.W.Frag) (c : Value) (i j : Nat) (D : Ends) : WX := fun cls d σ H => PySem.W.exmOne K cls c = some true ∧ d = none ∧ ∀ a, H a = none → D.nx (((σ.set i (some (.ref a))).set j (some (.ref a))).set i none) (upd H a (ExcO cls a))
section
variable {X : Cx} {x n z : Str} {c : Value} {i j : Nat} {body : List Stmt} {np pz pe pa pos pos' : Pos} {tb : WX → TS}
theorem ps_try_keep (hs : X.stack = X.env :: X.outer) (hf : X.env.frame = some X.env.locals) (hex : X.ex = []) (hN : X.N.Nodup) (hi : X.N[i]? = some n) (hln : X.env.kindOf n = some .local) (hc : Names X x c)
    (hsu : ∀ (a : Addr) (pn : List (Addr × Obj)), PSs (X.suite a pn) [.Assign [.Name z pz] (.Name n pe) pa] (tAsg (tVar i) (gName j)))
    (hb : ∀ (W : WX) (pn : List (Addr × Obj)) (xe : Value → Shared → Prop), Takes (X.tr pn xe) W → PassesOwn (model X.prog X.w) X.A X.env xe → PSs (X.tr pn xe) body (tb W)) :
    PS X (.Try body [.ExceptHandler (some (.Name x np)) (some n) [.Assign [.Name z pz] (.Name n pe) pa] pos'] [] [] pos) (fun D σ H => tb (wKeep X.K c i j D) D σ H) := by
  refine ⟨fun pins s σ H D I h => wpAny_Try_except ?_⟩
  have ok := I.ok
  have hfr : X.A.frames = some (X.env :: X.outer) := by rw [ok.frames, hs]
  refine wpAny_mono ((hb (wKeep X.K c i j D) (X.pn ++ pins) (fun e s₁ => wpAny (model X.prog X.w) X.A (noteFrame e X.env) (fun _ s₂ => wpAny (model X.prog X.w) X.A (setFlight e none) (fun _ s₃ =>
    wpAny (model X.prog X.w) X.A (handleBy e X.env [.ExceptHandler (some (.Name x np)) (some n) [.Assign [.Name z pz] (.Name n pe) pa] pos']) (SP X pins D) X.xe s₃) X.xe s₂) X.xe s₁) ?_ PassesOwn.looking).run [] s σ H D (I.toTry _) h) (fun f s1 hsp => ?_) (fun e s1 he => he)
  · rintro u s' ⟨a, B, sI, pins', σ', H', cls, d, rfl, J', nb, up, sky, na, os, ag, hx, rfl, hq⟩
    have J : Inv X pins σ' H' sI := J'.ofTry ok
    have sky' : Sky B (X.env :: X.outer) a (Zc cls none) X.env.locals s'.heap := by rw [← hs]; exact sky
    show wpAny (model X.prog X.w) X.A (noteFrame (.ref a) X.env) _ _ _
    refine Sky.land Zc.steady hfr hf sky' fun h3 fl3 up3 => ?_
    have J3 : Inv X pins σ' H' { s' with heap := h3 } := J.landed nb fl3.1 (up.trans up3) os ag
    obtain ⟨oe3, vs3, he3, hz3, hd3⟩ := fl3.there
    -- the object is none of the frames', and came within the try
    have away : ∀ {hh : Heap} {o : Obj} {vs : Array Value}, hh.FunFrames B (X.env :: X.outer) → hh.get? a = some o → o.data = .fields vs → a ∉ frs (X.env :: X.outer) := fun {hh o vs} ff e dd hm => by
      obtain ⟨_, o', e', hnf⟩ := ff.mem hm
      rw [e] at e'
      cases e'
      exact hnf _ dd
    have nfr := away fl3.2.2.1 he3 hd3
    have nL : a ≠ X.env.locals := fun w => nfr (List.mem_filterMap.mpr ⟨X.env, List.mem_cons_self, by rw [hf, w]⟩)
    have nF : a ∉ X.fs := fun hm => by
      obtain ⟨e, he, q⟩ := List.mem_filterMap.mp hm
      exact nfr (List.mem_filterMap.mpr ⟨e, List.mem_cons_of_mem _ he, q⟩)
    have nI : sI.heap.get? a = none := by
      cases q : sI.heap.get? a with
      | none => rfl
      | some o =>
        have w := nb a o q (by rw [hs]; exact nfr)
        rw [fl3.2.1] at w
        cases w
    have nS : ∀ b o, sI.heap.get? b = some o → b ≠ a := fun b o q w => by
      rw [w, nI] at q
      cases q
    have n0 : a ∉ X.ex → X.s_0.heap.get? a = none := fun hx => by
      cases q : X.s_0.heap.get? a with
      | none => rfl
      | some o =>
        obtain ⟨o', w⟩ := J.base.there a o q hx
        exact absurd rfl (nS a o' w)
    have npin : ∀ p ∈ X.pn ++ pins, p.1 ≠ a := fun p hp => nS p.1 p.2 (J.pin p hp).1
    have S3 := J3.suite he3 hd3 na nL nF
    refine wpAny_handleBy_cons (codeAny_handlers_test ?_) (by intro q; cases q)
    have LT : PySem.W.Looks (model X.prog X.w) h3 (typeOf (.ref a)) cls := fun A Q E s k q => wpAny_typeOf_ref (k _ _ he3) (by rw [hz3.1]; exact q)
    have LM := PySem.W.exm_one (M := model X.prog X.w) (J3.kIn) LT hx
    have test : ∀ {Q : Value → Shared → Prop} {E : Value → Shared → Prop}, Q c { s' with heap := h3 } → wpAny (model X.prog X.w) (X.A.mark (some (.ref a))) (eval (.Name x np) X.env) Q E { s' with heap := h3 } := fun {Q E} q => by
      obtain ⟨hg, hdbg, hm | ⟨hm, hv, hnn⟩⟩ := hc
      · exact ld_glob (X := X.suite a ((a, oe3) :: (X.pn ++ pins))) S3 hg hm q hdbg
      · exact ld_blt (X := X.suite a ((a, oe3) :: (X.pn ++ pins))) S3 hg hm hv q hnn hdbg
    refine test (LM.here (codeAny_handlers_suite_as (HandSPX.lands_againZ fl3 fun h4 fl4 up4 => ?_)))
    have J4 : Inv X pins σ' H' { s' with heap := h4 } := J.landed nb fl4.1 ((up.trans up3).trans up4) os ag
    obtain ⟨oe4, vs4, he4, hz4, hd4⟩ := fl4.there
    have S4 := J4.suite he4 hd4 na nL nF
    refine store_ok (X := X.suite a ((a, oe4) :: (X.pn ++ pins))) (v := .ref a) S4 hN hi (.inl hln) rfl (fun s5 S5 => ?_) (.inr hln)
    refine wpAny_mono ((hsu a ((a, oe4) :: (X.pn ++ pins))).run [] s5 _ H' { nx := fun σ6 H6 => σ6 = (σ'.set i (some (.ref a))).set j (some (.ref a)) ∧ H6 = H', rt := fun _ _ => False } S5 ?_) (fun f s6 hsp => ?_) (fun _ _ w => False.elim w)
    · refine ⟨.ref a, ?_, rfl, rfl⟩
      rw [List.getElem?_set_self]
      obtain ⟨m, hn, hl⟩ := S4.loc
      have := S4.len
      rw [this]
      exact (List.getElem?_eq_some_iff.mp hi).1
    cases f with
    | next =>
      obtain ⟨σ6, H6, S6, e6, e7⟩ := hsp
      subst e6 e7
      have T6 : Inv (X.tr ((a, oe4) :: (X.pn ++ pins)) X.xe) [] ((σ'.set i (some (.ref a))).set j (some (.ref a))) H6 s6 :=
        ⟨ok.toTry _ _, S6.os, S6.bare, S6.base, S6.loc, S6.cell, S6.free, S6.freeC, S6.pin, S6.hok, S6.len⟩
      refine gone_ok (X := X.tr ((a, oe4) :: (X.pn ++ pins)) X.xe) T6 hN hi hln fun s7 J7 => ?_
      have p7 := J7.pin (a, oe4) (List.mem_append_left _ List.mem_cons_self)
      have K7 : Inv X pins (((σ'.set i (some (.ref a))).set j (some (.ref a))).set i none) H6 s7 :=
        ⟨ok, J7.os, J7.bare, J7.base, J7.loc, J7.cell, J7.free, J7.freeC, fun p hp => J7.pin p (List.mem_append_left _ (List.mem_cons_of_mem _ hp)), J7.hok, J7.len⟩
      exact ⟨_, _, track K7 p7.1 hz4 hd4 na (n0 (by rw [hex]; exact fun w => nomatch w)) nL npin, hq a na⟩
    | ret u =>
      obtain ⟨_, _, _, _, _, w⟩ := hsp
      exact w.elim
    | brk =>
      obtain ⟨_, _, _, w⟩ := hsp
      exact w.elim
    | cont =>
      obtain ⟨_, _, _, w⟩ := hsp
      exact w.elim
  · cases f with
    | next =>
      obtain ⟨σ', H', J', q⟩ := hsp
      exact wpAny_execs_nil ⟨σ', H', J'.ofTry ok, q⟩
    | brk =>
      obtain ⟨σ', H', J', q⟩ := hsp
      exact ⟨σ', H', J'.ofTry ok, q⟩
    | cont =>
      obtain ⟨σ', H', J', q⟩ := hsp
      exact ⟨σ', H', J'.ofTry ok, q⟩
    | ret u =>
      obtain ⟨v, σ', H', J', r, q⟩ := hsp
      exact ⟨v, σ', H', J'.ofTry ok, r, q⟩
end
def ranked (names : List Str) (c : Str) : Bool := names.any fun y => decide (y = c)
/-- try: y = e, except .. as n: z = n. names: the classes that may come -/
def sTry (names : List Str) (y i j : Nat) (f : Mi.Env → M D) : MS := fun ρ k => match f ρ k with
  | .ok d k' => .ok (ρ.set y (.fz d), .nx) k'
  | .err c k' => if ranked names c = true then .ok (((ρ.set i (.fz (excD c))).set j (.fz (excD c))).set i .no, .nx) k' else .bad
  | .bad => .bad
section
variable {K : PySem.W.Frag} {mg : Str → Option Value} {τ : Option Addr} {H0 G0 G H : Hp} {σ : L2.St} {ρ : Mi.Env} {n : Nat}
theorem Rel.gone (R : Rel K mg τ H0 G0 G H σ ρ n) (i : Nat) : Rel K mg τ H0 G0 G H (σ.set i none) (ρ.set i .no) n :=
  R.weak (by simp [R.len]) fun j => by
    by_cases h : j = i
    · subst h
      refine .inl ?_
      rw [at_set' fun _ => rfl, if_pos rfl]
    · refine .inr ⟨?_, ?_⟩
      · rw [at_set' fun _ => rfl, if_neg h]
      · rw [List.getElem?_set_ne (Ne.symm h)]
end
section
variable {X : Cx} {E : XK} {x n z y : Str} {c : Value} {i j iy : Nat} {e : Expr} {np pz pe pa py ps pos pos' : Pos} {names : List Str} {fe : Mi.Env → M D}
theorem s_try (hs : X.stack = X.env :: X.outer) (hf : X.env.frame = some X.env.locals) (hex : X.ex = []) (hN : X.N.Nodup) (hi : X.N[i]? = some n) (hln : X.env.kindOf n = some .local) (hc : Names X x c)
    (hj : X.N[j]? = some z) (hlz : X.env.scope.names.lookup z = some .local) (hy : X.N[iy]? = some y) (hly : X.env.scope.names.lookup y = some .local)
    (hx : ∀ c', ranked names c' = true → ∀ C, X.mg c' = some (.ref C) → PySem.W.exmOne X.K (.ref C) c = some true)
    (hsu : ∀ (a : Addr) (pn : List (Addr × Obj)), PSs (X.suite a pn) [.Assign [.Name z pz] (.Name n pe) pa] (tAsg (tVar i) (gName j)))
    (hb : ∀ (W : WX) (pn : List (Addr × Obj)) (xe : Value → Shared → Prop), Takes (X.tr pn xe) W → PE (X.tr pn xe) e (cT X.K X.mg (WE W) fe))
    (hsw : swapsWith e (some (.Name y py)) ps.line X.env = pure false := by rfl) :
    PS X (.Try [.Assign [.Name y py] e ps] [.ExceptHandler (some (.Name x np)) (some n) [.Assign [.Name z pz] (.Name n pe) pa] pos'] [] [] pos) (cS X.K X.mg E (sTry names iy i j fe)) :=
  ps_mono (ps_try_keep (tb := fun W => tAsg (cT X.K X.mg (WE W) fe) (gName iy)) hs hf hex hN hi hln hc hsu fun W pn xe tk _ => pss_one (ps_set hN hy (.inl hly) (hb W pn xe tk) hsw (.inr hly))) fun Dn σ H ⟨τ, H0, G0, G, ρ, k, R, h⟩ => by
    refine ⟨τ, H0, G0, G, ρ, k, R, ?_⟩
    unfold sTry at h
    cases q : fe ρ k with
    | ok d k' =>
      rw [q] at h
      exact fun v H' G' st tw r => h _ H' G' ((R.next st tw).set iy r) st.sub
    | err c' k' =>
      rw [q] at h
      dsimp only at h
      by_cases hr : ranked names c' = true
      · rw [if_pos hr] at h
        intro C H' hm kp tw
        refine ⟨hx c' hr C hm, rfl, fun a na => ?_⟩
        have st : Step τ H G H' G := ⟨kp, fun _ _ e => e, fun _ _ e => .inl e, fun b u g => by
          have nb : some b ≠ τ := fun w => by
            rw [R.nt b w.symm] at g
            cases g
          rcases R.le b u g with w | ⟨l, o, w⟩
          · exact .inl (kp b _ w nb)
          · exact .inr ⟨l, o, kp b _ w nb⟩, R.nt⟩
        have R1 := R.next st tw
        have st2 : Step τ H' G (upd H' a (ExcO (.ref C) a)) (upd G a (ExcO (.ref C) a)) := Step.fresh R1.le R1.nt tw.ne na
        have R2 := R1.next st2 (tw.upd na)
        have rx : Rep X.K X.mg τ (upd G a (ExcO (.ref C) a)) (.ref a) (excD c') := .exc hm upd_same
        exact h _ _ _ (((R2.set i rx).set j rx).gone i) (fun b u e => st2.sub b u e)
      · rw [if_neg hr] at h
        exact h.elim
    | bad =>
      rw [q] at h
      exact h.elim
end

/-! ### isinstance of such an object -/
/-- what the classes have written: each with its name, and the answers -/
structure ExcT (K : PySem.W.Frag) (mg : Str → Option Value) (names : List Str) : Prop where
  cls : ∀ c, ranked names c = true → ∃ C : Addr, mg c = some (.ref C) ∧ ExcC K C
def dIsX (cv : Str → Option Bool) : D → M D
  | .dict [(.none, .str c)] => do let b ← ofOpt (cv c); pure (.bool b)
  | _ => bad
section
variable {X : Cx}
theorem exc_inv {K : PySem.W.Frag} {mg : Str → Option Value} {τ : Option Addr} {G : Hp} {v : V} {c : Str} (h : Rep K mg τ G v (excD c)) : ∃ a C : Addr, v = .ref a ∧ mg c = some (.ref C) ∧ G a = some (ExcO (.ref C) a) := by
  unfold excD at h
  generalize e : PyData.dict [(.none, .str c)] = d at h
  cases h with
  | exc h g =>
    unfold excD at e
    cases e
    exact ⟨_, _, rfl, h, g⟩
  | dk _ r =>
    cases e
    exact absurd rfl (repK_ne r _ List.mem_cons_self)
  | dt _ r =>
    cases e
    exact absurd rfl (repT_ne r _ List.mem_cons_self)
  | scr _ => unfold scrD at e; cases e
  | town _ => unfold townD at e; cases e
  | _ => cases e
/-- isinstance(x, C): x an exception's object that is kept, C a class's name's value -/
def rIsX (K : PySem.W.Frag) (cv : Value) : List V → Hp → VK → Prop := fun xs H Q => ∃ (a D : Addr) (c : V) (b : Bool), xs = [.ref a, c] ∧ (∀ u, RelV c u → u = cv) ∧ H a = some (ExcO (.ref D) a) ∧ ExcC K D ∧ PySem.W.kitOne K (.ref D) cv = some b ∧ Q (.bl b) H
theorem call_isX {cv : Value} : CallR X (.builtin "isinstance") (rIsX X.K cv) := by
  intro pins s σ H xs us Q I r h
  obtain ⟨a, D, c, b, rfl, hcv, hH, C, e, q⟩ := h
  cases r with
  | cons rx rr =>
    cases rr with
    | cons rt rr =>
      cases rr
      cases rx
      have ec := hcv _ rt
      subst ec
      obtain ⟨⟨oe, hget, h1, h2, vs, hv⟩, _⟩ := I.hok a _ hH
      have J : PySem.W.InstAt s.heap a oe D none := by
        obtain ⟨oc, od, oda, osl⟩ := oe
        dsimp only at h1 h2 hv
        subst h1 h2 hv
        exact ⟨hget, rfl, rfl, trivial⟩
      exact PySem.W.kia_one (PySem.W.handS_kitx_exc C.hg C.hk C.hs C.hd C.ha C.hn C.ht C.hm) I.kIn J e (fun z => nomatch z) fun tk => ⟨.bl b, H, I.kept (t' := tk) fun _ _ z => z, rfl, q⟩
end
end Mi

end

section
set_option Elab.async false
set_option linter.all false
set_option maxRecDepth 100000
set_option maxHeartbeats 4000000
namespace Mi
open PySem PySem.Spec L2

section
variable {X : Cx} {E : L2.St → XK} {a b e : Expr} {fa fb fc : Mi.Env → M D} {fs ls : Mi.Env → M (List D)} {p p2 q pos cpos apos : Pos}

/-! ### isinstance of a kept exception's object -/
def excName : D → Option Str
  | .dict [(.none, .str c)] => some c
  | _ => none
theorem excName_eq {d : D} {c : Str} (h : excName d = some c) : d = excD c := by
  unfold excName at h
  split at h <;> cases h
  rfl
def eIsX (cv : Str → Option Bool) (fa : Mi.Env → M D) : Mi.Env → M D := fun ρ => do let x ← fa ρ; let c ← ofOpt (excName x); let b ← ofOpt (cv c); pure (.bool b)
theorem x_isX {cv : Str → Option Bool} {cV : V} {cvalue : Value} (hm : X.mg "isinstance" = none) (ha : PE X a (cT X.K X.mg E fa)) (hb : PE X b (tC cV)) (hcv : ∀ u, RelV cV u → u = cvalue)
    (hp : ∀ c r C, cv c = some r → X.mg c = some (.ref C) → ExcC X.K C ∧ PySem.W.kitOne X.K (.ref C) cvalue = some r) (hg : Gl X "isinstance" := by rfl)
    (hs2 : starEach [b] X.env = (false, eval b X.env) :: starEach [] X.env := by rfl) (he : starEach (a :: [b]) X.env = (false, eval a X.env) :: starEach [b] X.env := by rfl) (hpl : (backTo pos (starEach [b] X.env)).any (·.1) = false := by rfl) :
    PE X (.Call (.Name "isinstance" p) [a, b] [] pos) (cT X.K X.mg E (eIsX cv fa)) :=
  pe_mono (pe_callB (call_isX (cv := cvalue)) hg hm (by decide +kernel) (pa_cons ha (pa_cons hb pa_nil hs2) he) (he := he) (hpl := hpl)) fun σ H Q ⟨τ, H0, G0, G, ρ, n, R, h⟩ => ⟨τ, H0, G0, G, ρ, n, R, Post.mono (fun x H1 ⟨d, n1, G1, st, tw, r, h1⟩ => by
    obtain ⟨c, ec, h2⟩ := Post.opt h1
    obtain ⟨bb, eb, h3⟩ := Post.opt h2
    rw [excName_eq ec] at r
    obtain ⟨ad, C, rfl, hC, hG⟩ := exc_inv r
    obtain ⟨hX, hk⟩ := hp c bb C eb hC
    have hH : H1 ad = some (ExcO (.ref C) ad) := by
      rcases st.le ad _ hG with w | ⟨w, _⟩
      · exact w
      · exact w.elim
    exact ⟨ad, C, cV, bb, rfl, hcv, hH, hX, hk, Post.ret h3 (R.next st tw).refl tw (.bl bb)⟩) (Post.bind (rep := Rep X.K X.mg τ) h)⟩

/-! ### all, any of truth values -/
def blOf : D → Option Bool
  | .bool b => some b
  | _ => none
def blsOf : List D → Option (List Bool)
  | [] => some []
  | d :: r => match blOf d, blsOf r with
    | some b, some bs => some (b :: bs)
    | _, _ => none
theorem blsOf_eq : ∀ {ds : List D} {bs : List Bool}, blsOf ds = some bs → ds = bs.map PyData.bool
  | [], _, h => by cases h; rfl
  | d :: r, bs, h => by
    unfold blsOf at h
    cases e1 : blOf d with
    | none => rw [e1] at h; cases h
    | some b =>
      cases e2 : blsOf r with
      | none => rw [e1, e2] at h; cases h
      | some bs' =>
        rw [e1, e2] at h
        cases h
        rw [blsOf_eq e2]
        unfold blOf at e1
        split at e1 <;> cases e1
        rfl
theorem reps_bls {K : PySem.W.Frag} {mg : Str → Option Value} {τ : Option Addr} {G : Hp} : ∀ {bs : List Bool} {vs : List V}, Reps K mg τ G vs (bs.map PyData.bool) → vs = bs.map V.bl
  | [], _, .nil => rfl
  | b :: bs, _, .cons h r => by
    cases h
    rw [reps_bls r]
    rfl
def gAll (k : List Bool → Bool) : D → M D
  | .list ds => do let bs ← ofOpt (blsOf ds); pure (.bool (k bs))
  | _ => bad
theorem cd_all {k : List Bool → Bool} : CallD X (fun vs H Q => ∃ (a : Addr) (bs : List Bool), vs = [V.ref a] ∧ SqL X.K H a (bs.map V.bl) ∧ Q (.bl (k bs)) H) (arg1 (gAll k)) := cd_one fun τ n H G v d E Q st tw rx h => by
  cases rx with
  | lst ha qa =>
    obtain ⟨bs, e, h⟩ := Post.opt h
    rw [blsOf_eq e] at qa
    cases reps_bls qa
    exact ⟨_, bs, rfl, .inl (.inl (st.le.list ha)), Post.ret h st tw (.bl _)⟩
  | _ => exact (show False from h).elim
theorem x_all (hc : X.calm = true) (hm : X.mg "all" = none) (ha : PA X [e] (cA X.K X.mg E fs)) (hg : Gl X "all" := by rfl) (he : starEach (e :: []) X.env = (false, eval e X.env) :: starEach [] X.env := by rfl) (hpl : (backTo pos (starEach [] X.env)).any (·.1) = false := by rfl) :
    PE X (.Call (.Name "all" p) [e] [] pos) (cT X.K X.mg E (eCall (arg1 (gAll fun bs => bs.all id)) fs)) := x_callB (cr_all hc) cd_all hg hm (by decide +kernel) ha (he := he) (hpl := hpl)
theorem x_any (hc : X.calm = true) (hm : X.mg "any" = none) (ha : PA X [e] (cA X.K X.mg E fs)) (hg : Gl X "any" := by rfl) (he : starEach (e :: []) X.env = (false, eval e X.env) :: starEach [] X.env := by rfl) (hpl : (backTo pos (starEach [] X.env)).any (·.1) = false := by rfl) :
    PE X (.Call (.Name "any" p) [e] [] pos) (cT X.K X.mg E (eCall (arg1 (gAll fun bs => bs.any id)) fs)) := x_callB (cr_any hc) cd_all hg hm (by decide +kernel) ha (he := he) (hpl := hpl)

/-! ### xs.index(x), xs.count(x) of a list -/
def eIdx (fa fb : Mi.Env → M D) : Mi.Env → M D := fun ρ => do
  let x ← fa ρ
  let ds ← ofOpt (asL x)
  let y ← fb ρ
  need (okD (.list ds) && okD y && decide (ds.length ≤ sizeLine))
  let j ← ofOpt (PySem.SeqAt.dataPlace ds y)
  pure (.int (j : Nat))
def eCnt (fa fb : Mi.Env → M D) : Mi.Env → M D := fun ρ => do
  let x ← fa ρ
  let ds ← ofOpt (asL x)
  let y ← fb ρ
  need (okD (.list ds) && okD y && decide (ds.length ≤ sizeLine))
  pure (.int ((ds.countP fun z => PyData.eqv z y : Nat) : Int))
def rSeqP (X : Cx) (res : List D → D → Option Int) : V → List V → Hp → VK → Prop := fun x xs H Q => ∃ τ G ds y dy i, xs = [y] ∧ Le G H ∧ Rep X.K X.mg τ G x (.list ds) ∧ Rep X.K X.mg τ G y dy ∧ okD (.list ds) = true ∧ okD dy = true ∧ ds.length ≤ sizeLine ∧ res ds dy = some i ∧ Q (.int i) H
theorem mt_idx (hu : X.A.units + 64 < cLine) : MtR X "list.index" (rSeqP X fun ds y => (PySem.SeqAt.dataPlace ds y).map fun j => ((j : Nat) : Int)) := by
  rintro pins s σ H x xs v us Q I rx rv ⟨τ, G, ds, y, dy, i, rfl, l, hx, hy, ox, oy, hz, hi, q⟩
  obtain ⟨u, rfl, ru⟩ := rv.one
  obtain ⟨bs, r2⟩ := hy.reads I l (okD_of oy).1 ru
  have d1 := (okD_of oy).2
  have d2 : PyData.depthAll ds + 1 ≤ 60 := (okD_of ox).2
  have p2 : PyData.plainAll ds = true := (okD_of ox).1
  cases hx with
  | lst ha qa =>
    cases rx
    obtain ⟨its, r, pl, hl⟩ := I.list (.inl (.inl (l.list ha)))
    obtain ⟨as, rs⟩ := qa.reads I l p2 r
    obtain ⟨⟨cls, dd, data, sl⟩, n, ho, hc, hdn, hd⟩ := pl
    simp only at hc hd
    subst hc hd
    dsimp only at hi
    obtain ⟨j, ej, rfl⟩ : ∃ j, PySem.SeqAt.dataPlace ds dy = some j ∧ ((j : Nat) : Int) = i := by
      cases w : PySem.SeqAt.dataPlace ds dy with
      | none => rw [w] at hi; cases hi
      | some j => rw [w] at hi; exact ⟨j, rfl, Option.some.inj hi⟩
    have rs' : ReadsAll s.heap its.toArray.toList ds as := by simpa using rs
    obtain ⟨hj, hit, hno⟩ := PySem.SeqAt.hit_at rs' p2 ej
    have hsz : its.toArray.size ≤ sizeLine := by
      rw [PySem.SeqAt.len_at rs']
      exact hz
    have hsl := sizeLine_eq
    exact call_meets PySem.F.slot_list_index ⟨_, ho, rfl⟩ PySem.F.entry_list_index (PySem.F.args_list_index_2 _ _) (PySem.SeqAt.list_indexAt _ its.toArray n dd sl u _ j hj (by omega) hit hno)
      ⟨ho, PySem.SeqAt.items_plain rs' r2 p2 (okD_of oy).1 (by omega), ⟨.int (j : Nat), H, I.tok _, ⟨_, rfl⟩, q⟩⟩
theorem mt_cnt (hu : X.A.units + 64 < cLine) : MtR X "list.count" (rSeqP X fun ds y => some ((ds.countP fun z => PyData.eqv z y : Nat) : Int)) := by
  rintro pins s σ H x xs v us Q I rx rv ⟨τ, G, ds, y, dy, i, rfl, l, hx, hy, ox, oy, hz, hi, q⟩
  obtain ⟨u, rfl, ru⟩ := rv.one
  obtain ⟨bs, r2⟩ := hy.reads I l (okD_of oy).1 ru
  have d1 := (okD_of oy).2
  have d2 : PyData.depthAll ds + 1 ≤ 60 := (okD_of ox).2
  have p2 : PyData.plainAll ds = true := (okD_of ox).1
  cases hx with
  | lst ha qa =>
    cases rx
    obtain ⟨its, r, pl, hl⟩ := I.list (.inl (.inl (l.list ha)))
    obtain ⟨as, rs⟩ := qa.reads I l p2 r
    have rs' : ReadsAll s.heap its.toArray.toList ds as := by simpa using rs
    have hi : ((ds.countP fun z => PyData.eqv z dy : Nat) : Int) = i := Option.some.inj hi
    subst hi
    exact PySem.SeqAt.count_list_data pl.isList rs' r2 p2 (okD_of oy).1 (by omega) ⟨.int _, H, I.tok _, ⟨_, rfl⟩, q⟩
theorem seqm_step {res : List D → D → Option Int} {σ : L2.St} {H : Hp} {Q : VK} (h : cT X.K X.mg E (fun ρ => do let x ← fa ρ; let ds ← ofOpt (asL x); let y ← fb ρ; need (okD (.list ds) && okD y && decide (ds.length ≤ sizeLine)); let i ← ofOpt (res ds y); pure (.int i)) σ H Q) :
    tBM X.K "list" (rSeqP X res) (cT X.K X.mg E fa) (tCons (cT X.K X.mg E fb) tNil) σ H Q := by
  obtain ⟨τ, H0, G0, G, ρ, n, R, h⟩ := h
  refine ⟨τ, H0, G0, G, ρ, n, R, Post.mono (fun x H1 ⟨d, n1, G1, st, tw, r, h1⟩ => ?_) (Post.bind (rep := Rep X.K X.mg τ) h)⟩
  obtain ⟨ds, ed, h2⟩ := Post.opt h1
  rw [asL_eq ed] at r
  have R1 := R.next st tw
  refine ⟨?_, τ, H0, G0, G1, ρ, n1, R1, Post.mono (fun y H2 ⟨dy, n2, G2, st2, tw2, ry, h3⟩ => ?_) (Post.bind (rep := Rep X.K X.mg τ) h2)⟩
  · cases r with
    | lst ha qa => exact .inl ⟨rfl, _, .inl (.inl (st.le.list ha))⟩
  obtain ⟨hz, h4⟩ := Post.need h3
  obtain ⟨i, ei, h5⟩ := Post.opt h4
  rw [Bool.and_eq_true, Bool.and_eq_true] at hz
  exact ⟨τ, G2, ds, y, dy, i, rfl, st2.le, r.sub st2.sub, ry, hz.1.1, hz.1.2, of_decide_eq_true hz.2, ei, Post.ret h5 (R1.next st2 tw2).refl tw2 (.int i)⟩
theorem x_idx (hu : X.A.units + 64 < cLine) (ha : PE X a (cT X.K X.mg E fa)) (hb : PE X b (cT X.K X.mg E fb)) (hbase : attributeBase a "index" X.env (eval a X.env) = eval a X.env := by rfl)
    (hfew : ((backTo cpos (starEach (b :: []) X.env)).all (fun x => !x.1) && (backToKw cpos (keywordEach [] X.env)).all (fun x => x.1.isSome)
      && decide ((b :: []).length + ([] : List Keyword).length + (if ([] : List Keyword).isEmpty then 0 else 1) < 30)) = true := by rfl)
    (hline : (apos.endLine == cpos.line) = true := by rfl) (hs1 : starEach (b :: []) X.env = (false, eval b X.env) :: starEach [] X.env := by rfl) :
    PE X (.Call (.Attribute a "index" apos) [b] [] cpos) (cT X.K X.mg E (eIdx fa fb)) :=
  pe_mono (pe_bm (cpos := cpos) PySem.F.plainAttrs_list PySem.F.slot_list_index PySem.F.type_list_index (mt_idx hu) ha (pa_cons hb pa_nil hs1) hbase hfew hline hs1) fun σ H Q h => seqm_step (by
    obtain ⟨τ, H0, G0, G, ρ, n, R, h⟩ := h
    refine ⟨τ, H0, G0, G, ρ, n, R, ?_⟩
    have e : eIdx fa fb ρ = (do let x ← fa ρ; let ds ← ofOpt (asL x); let y ← fb ρ; need (okD (.list ds) && okD y && decide (ds.length ≤ sizeLine)); let i ← ofOpt ((PySem.SeqAt.dataPlace ds y).map fun j => ((j : Nat) : Int)); pure (.int i)) := by
      unfold eIdx
      congr 1; funext x; congr 1; funext ds; congr 1; funext y; congr 1; funext _
      cases PySem.SeqAt.dataPlace ds y <;> rfl
    exact (congrArg (fun r => Post X.mg τ H G (E σ) (Rep X.K X.mg τ) r Q) (congrFun e n)).mp h)
theorem x_cnt (hu : X.A.units + 64 < cLine) (ha : PE X a (cT X.K X.mg E fa)) (hb : PE X b (cT X.K X.mg E fb)) (hbase : attributeBase a "count" X.env (eval a X.env) = eval a X.env := by rfl)
    (hfew : ((backTo cpos (starEach (b :: []) X.env)).all (fun x => !x.1) && (backToKw cpos (keywordEach [] X.env)).all (fun x => x.1.isSome)
      && decide ((b :: []).length + ([] : List Keyword).length + (if ([] : List Keyword).isEmpty then 0 else 1) < 30)) = true := by rfl)
    (hline : (apos.endLine == cpos.line) = true := by rfl) (hs1 : starEach (b :: []) X.env = (false, eval b X.env) :: starEach [] X.env := by rfl) :
    PE X (.Call (.Attribute a "count" apos) [b] [] cpos) (cT X.K X.mg E (eCnt fa fb)) :=
  pe_mono (pe_bm (cpos := cpos) PySem.F.plainAttrs_list PySem.F.slot_list_count PySem.F.type_list_count (mt_cnt hu) ha (pa_cons hb pa_nil hs1) hbase hfew hline hs1) fun σ H Q h => seqm_step h

/-! ### sorted(set(xs)), len(set(xs)) of ints -/
def intOf : D → Option Int
  | .int i => some i
  | _ => none
def intsOf : List D → Option (List Int)
  | [] => some []
  | d :: r => match intOf d, intsOf r with
    | some b, some bs => some (b :: bs)
    | _, _ => none
theorem intsOf_eq : ∀ {ds : List D} {bs : List Int}, intsOf ds = some bs → ds = bs.map PyData.int
  | [], _, h => by cases h; rfl
  | d :: r, bs, h => by
    unfold intsOf at h
    cases e1 : intOf d with
    | none => rw [e1] at h; cases h
    | some b =>
      cases e2 : intsOf r with
      | none => rw [e1, e2] at h; cases h
      | some bs' =>
        rw [e1, e2] at h
        cases h
        rw [intsOf_eq e2]
        unfold intOf at e1
        split at e1 <;> cases e1
        rfl
theorem intsOf_map : ∀ bs : List Int, intsOf (bs.map PyData.int) = some bs
  | [] => rfl
  | b :: bs => by
    show (match intOf (.int b), intsOf (bs.map PyData.int) with | some b, some bs => some (b :: bs) | _, _ => none) = _
    rw [intsOf_map bs]
    rfl
theorem reps_ints {K : PySem.W.Frag} {mg : Str → Option Value} {τ : Option Addr} {G : Hp} : ∀ {bs : List Int} {vs : List V}, Reps K mg τ G vs (bs.map PyData.int) → vs = bs.map V.int
  | [], _, .nil => rfl
  | b :: bs, _, .cons h r => by
    cases h
    rw [reps_ints r]
    rfl
/-- each once, the least ahead -/
def insI (k : Int) : List Int → List Int
  | [] => [k]
  | m :: r => if k < m then k :: m :: r else if k = m then m :: r else m :: insI k r
def once : List Int → List Int
  | [] => []
  | k :: r => insI k (once r)
theorem mem_insI {k j : Int} : ∀ {l : List Int}, j ∈ insI k l ↔ j = k ∨ j ∈ l
  | [] => by simp [insI]
  | m :: r => by
    unfold insI
    by_cases h : k < m
    · rw [if_pos h]; simp
    · rw [if_neg h]
      by_cases h2 : k = m
      · rw [if_pos h2, h2]; simp
      · rw [if_neg h2]
        simp only [List.mem_cons, mem_insI (l := r)]
        constructor <;> (intro z; rcases z with z | z | z <;> simp [z])
theorem mem_once {j : Int} : ∀ {l : List Int}, j ∈ once l ↔ j ∈ l
  | [] => by simp [once]
  | k :: r => by
    unfold once
    rw [mem_insI, mem_once (l := r), List.mem_cons]
theorem ins_lt {k : Int} : ∀ {l : List Int}, l.Pairwise (· < ·) → (insI k l).Pairwise (· < ·)
  | [], _ => by simp [insI]
  | m :: r, h => by
    obtain ⟨h1, h2⟩ := List.pairwise_cons.mp h
    unfold insI
    by_cases a : k < m
    · rw [if_pos a]
      refine List.pairwise_cons.mpr ⟨fun j hj => ?_, h⟩
      rcases List.mem_cons.mp hj with e | e
      · rw [e]; exact a
      · exact Int.lt_trans a (h1 j e)
    · rw [if_neg a]
      by_cases b : k = m
      · rw [if_pos b]; exact h
      · rw [if_neg b]
        refine List.pairwise_cons.mpr ⟨fun j hj => ?_, ins_lt h2⟩
        rcases mem_insI.mp hj with e | e
        · rw [e]; omega
        · exact h1 j e
theorem once_lt : ∀ l : List Int, (once l).Pairwise (· < ·)
  | [] => List.Pairwise.nil
  | k :: r => ins_lt (once_lt r)
/-- two lists in order, of the same members, are the same -/
theorem lt_same : ∀ {l m : List Int}, l.Pairwise (· < ·) → m.Pairwise (· < ·) → (∀ k, k ∈ l ↔ k ∈ m) → l = m
  | [], [], _, _, _ => rfl
  | [], b :: m, _, _, h => absurd ((h b).mpr List.mem_cons_self) (by simp)
  | a :: l, [], _, _, h => absurd ((h a).mp List.mem_cons_self) (by simp)
  | a :: l, b :: m, hl, hm, h => by
    obtain ⟨h1, h2⟩ := List.pairwise_cons.mp hl
    obtain ⟨g1, g2⟩ := List.pairwise_cons.mp hm
    have e : a = b := by
      rcases List.mem_cons.mp ((h a).mp List.mem_cons_self) with e | e
      · exact e
      · rcases List.mem_cons.mp ((h b).mpr List.mem_cons_self) with e' | e'
        · exact e'.symm
        · have := h1 b e'
          have := g1 a e
          omega
    subst e
    congr 1
    refine lt_same h2 g2 fun k => ⟨fun hk => ?_, fun hk => ?_⟩
    · rcases List.mem_cons.mp ((h k).mp (List.mem_cons_of_mem _ hk)) with e | e
      · have := h1 k hk
        omega
      · exact e
    · rcases List.mem_cons.mp ((h k).mpr (List.mem_cons_of_mem _ hk)) with e | e
      · have := g1 k hk
        omega
      · exact e
end
end Mi

end

section
set_option Elab.async false
set_option linter.all false
set_option maxRecDepth 100000
set_option maxHeartbeats 6400000
/-! set(xs) of a list of ints, in the kit's reading of sets by their order (the tuple's case is the kit's own; this is the list's) -/
namespace Mi
open PySem PySem.Spec PyProof.Rows
section
variable {P : Program} {w : World} {A : Around} {E : Value → Shared → Prop} {s : Shared}
/-- an empty set as __new__ lays it -/
abbrev set0 (w : World) : Obj := { cls := .type "set", dict := none, data := .set #[] 0 (.fresh 0 0 (!w.params.followText "set-order")) }
/-- __init__'s loop over a list's iterator fills it -/
theorem fill_list {l : Addr} {items : Array Value} {ns : List Int} {h0 : Heap} {g : Array GenState} {d : Drawn} {tk : Nat} {os : OsState} {R : Result → Shared → Prop} (hh : A.handled = none) (hl : h0.IsList l items) (hit : IntsAre items.toList ns) (hb : ns.length + 1 < scanBound)
    (hR : ∀ (h' : Heap) (tk' c : Nat), L2.SetR w h' h0.objs.size (fun j => decide (j ∈ ns)) c → c ≤ ns.length → (∀ b o, h0.get? b = some o → h'.get? b = some o) → R (.ok (.ret .none)) { heap := h', gens := g, drawn := d, toks := tk', os := os }) :
    codeAny (model P w) A (.builtin "set.update.loop" ⟨[.ref h0.objs.size, .ref (h0.objs.size + 1)], []⟩) R
      { heap := (h0.push (set0 w)).push { cls := .type "list_iterator", data := .fields #[.ref l, .int 0 0] }, gens := g, drawn := d, toks := tk, os := os } := by
  have hs : items.size = ns.length := by
    have q := IntsAre.length hit
    rwa [Array.length_toList] at q
  obtain ⟨ol, hol, hc, nl, hd⟩ := id hl
  have lt : l < h0.objs.size := Heap.lt_size hol
  have z1 : (h0.push (set0 w)).objs.size = h0.objs.size + 1 := Heap.size_push ..
  have neI : l ≠ h0.objs.size + 1 := Nat.ne_of_lt (Nat.lt_succ_of_lt lt)
  have nS : h0.objs.size ∉ [h0.objs.size + 1, l] := by
    simp only [List.mem_cons, List.not_mem_nil, or_false, not_or]
    exact ⟨Nat.ne_of_lt (Nat.lt_succ_self _), Nat.ne_of_gt lt⟩
  have at0 : ((h0.push (set0 w)).push { cls := .type "list_iterator", data := .fields #[.ref l, .int 0 0] }).get? h0.objs.size = some (set0 w) := Heap.get?_push_of_some _ (Heap.get?_push_size _ rfl)
  have at1 : ((h0.push (set0 w)).push { cls := .type "list_iterator", data := .fields #[.ref l, .int 0 0] }).get? (h0.objs.size + 1) = some { cls := .type "list_iterator", data := .fields #[.ref l, .int 0 0] } := by
    rw [← z1]
    exact Heap.get?_push_size _ rfl
  refine L2.set_update_ints (P := P) (w := w) (A := A) ((Walks.list (show A.in1.handled = none from by simpa using hh) (h0.objs.size + 1) l neI items).toS) h0.objs.size nS ns hs hb (fun i v hv => ?_) (items.size - 0) 0 _ (by omega) (Nat.zero_le _)
    ⟨⟨_, at1, rfl, rfl⟩, (hl.push _).push _⟩ ⟨0, Nat.le_refl 0, L2.setR_new_at at0⟩ fun s' c hm hc' hS => ?_
  · have hi : i < ns.length := by rw [← hs]; exact (Array.getElem?_eq_some_iff.mp hv).1
    obtain ⟨t, e⟩ := IntsAre.int_at hit i v (by rw [Array.getElem?_toList]; exact hv)
    refine ⟨ns[i], t, List.getElem?_eq_getElem hi, ?_⟩
    rw [e, List.getD_eq_getElem?_getD, List.getElem?_eq_getElem hi] <;> rfl
  · obtain ⟨h', g2, d2, tk2, os2⟩ := s'
    obtain rfl : g2 = g := hm.gens
    obtain rfl : d2 = d := hm.drawn
    obtain rfl : os2 = os := hm.os
    refine hR h' tk2 c hS (by rw [← hs]; exact hc') fun b o e => ?_
    have lb := Heap.lt_size e
    exact hm.heap b o (by simp only [List.mem_cons, List.not_mem_nil, or_false, not_or]; exact ⟨Nat.ne_of_lt lb, Nat.ne_of_lt (Nat.lt_succ_of_lt lb)⟩) (Heap.get?_push_of_some _ (Heap.get?_push_of_some _ e))
theorem set_of_list {l : Addr} {items : Array Value} {ns : List Int} {Q : Value → Shared → Prop} (hh : A.handled = none) (hl : s.heap.IsList l items) (hit : IntsAre items.toList ns) (hb : ns.length + 1 < scanBound)
    (h : ∀ (h' : Heap) (tk c : Nat), L2.SetR w h' s.heap.objs.size (fun j => decide (j ∈ ns)) c → c ≤ ns.length → (∀ b o, s.heap.get? b = some o → h'.get? b = some o) → Q (.ref s.heap.objs.size) { s with heap := h', toks := tk }) :
    wpAny (model P w) A (call (.type "set") [.ref l]) Q E s := by
  obtain ⟨c, tl, hmro⟩ := F.called_set.mro
  have hmade := F.called_set.made
  have hsub := F.called_set.sub
  have h1 := F.called_set.notType
  have h2 := F.called_set.canCreate
  have hct := F.typeCall_set_1 (.ref l)
  have hli := F.called_set.init.lookup
  have hbi := F.called_set.init.bind (.ref s.heap.objs.size)
  refine wpAny_call (codeAny_of_tree ?_)
  show wpAny _ _ (callAny (.type "set") _) _ _ _
  refine wpAny_pure ⟨Code.quiet_builtin _ (by decide +kernel), codeAny_builtin F.entry_type_call ?_⟩
  rw [Around.under_plain (weight_type_call_type "set" [.ref l] []) rfl]
  repeat (any_goals (first | assumption | wp_step))
  refine codeAny_mono (L2.code_set_led1 (.ref l) (E := E) (Q₁ := fun obj s₁ => obj = .ref s.heap.objs.size ∧ s₁ = { s with heap := s.heap.push (set0 w) }) ⟨rfl, rfl⟩) fun r s₁ hr => ?_
  cases r with
  | error e => exact hr
  | ok fl =>
    cases fl with
    | ret obj =>
      obtain ⟨rfl, rfl⟩ := hr
      have hT : Shared.TypeIs { s with heap := s.heap.push (set0 w) } (.ref s.heap.objs.size) "set" := ⟨_, Heap.get?_push_size _ rfl, rfl⟩
      repeat (any_goals (first | assumption | wp_step))
      refine codeAny_mono (codeAny_call_builtin (R := wants (fun r s₂ => r = .none ∧ ∃ h' tk c, s₂ = { s with heap := h', toks := tk } ∧ L2.SetR w h' s.heap.objs.size (fun j => decide (j ∈ ns)) c ∧ c ≤ ns.length ∧
          (∀ b o, s.heap.get? b = some o → h'.get? b = some o)) E) F.called_set.init.plain F.entry_set_init (check_set_init_1 hT ?_)) fun r₂ s₂ hr₂ => ?_
      · have hl0 := hl
        obtain ⟨⟨ocls, odict, odata, oslots⟩, hol, hcl, nl, hdl⟩ := hl
        simp only at hcl hdl
        subst hcl hdl
        have hol' : (s.heap.push (set0 w)).get? l = some { cls := .type "list", dict := odict, data := .seq items nl, slots := oslots } := Heap.get?_push_of_some _ hol
        have hsls := F.sub_list_set
        have hslf := F.sub_list_frozenset
        have hne : (Value.type "list" == Value.type "dict") = false := by decide
        unfold Builtin.«set.__init__» noKeywords Builtin.Frozenset.updateFrom
        generalize hPI : pyIter = PI
        wp_walk
        subst hPI
        refine wpAny_pyIter_list (hl0.push _) ?_
        refine wpAny_bind (wpAny_runValue ?_)
        have e1 : (s.heap.push (set0 w)).objs.size = s.heap.objs.size + 1 := Heap.size_push ..
        rw [e1]
        refine fill_list (h0 := s.heap) (by simpa using hh) hl0 hit hb fun h' tk' c' hS hc' hk => ?_
        show wpAny _ _ _ _ _ _
        refine wpAny_pure ?_
        show wpAny _ _ (ret Value.none) _ _ _
        exact wpAny_pure ⟨rfl, h', tk', c', rfl, hS, hc', hk⟩
      · cases r₂ with
        | error e => exact hr₂
        | ok fl₂ =>
          cases fl₂ with
          | ret r =>
            obtain ⟨rfl, h', tk, c', rfl, hS', hc', hk'⟩ := hr₂
            repeat (any_goals (first | assumption | wp_step))
            exact h _ _ _ hS' hc' hk'
          | _ => exact hr₂.elim
    | _ => exact hr.elim
end
end Mi

end

section
set_option Elab.async false
set_option linter.all false
set_option maxRecDepth 100000
set_option maxHeartbeats 4000000
namespace Mi
open PySem PySem.Spec L2
/-- sorted(set(xs)) of ints -/
def tSrt (K : PySem.W.Frag) (ta : TE) : TE := fun σ H Q => ta σ H fun x H1 => ∃ (l : Addr) (ns : List Int), x = V.ref l ∧ (SqL K H1 l (ns.map V.int) ∨ SqT K H1 l (ns.map V.int)) ∧ ns.length < 60 ∧ ∀ p, H1 p = none → Q (.ref p) (upd H1 p (.lst ((once ns).map V.int)))
def tLst2 (K : PySem.W.Frag) (ta : TE) : TE := fun σ H Q => ta σ H fun x H1 => ∃ (l : Addr) (ns : List Int), x = V.ref l ∧ (SqL K H1 l (ns.map V.int) ∨ SqT K H1 l (ns.map V.int)) ∧ ns.length < 60 ∧ Q (.int (once ns).length) H1
section
variable {X : Cx} {E : L2.St → XK} {a b e : Expr} {fa fb fc : Mi.Env → M D} {fs ls : Mi.Env → M (List D)} {p p2 q pos cpos apos : Pos} {ta : TE}
theorem setR_once {w : World} {h : Heap} {a : Addr} {ns : List Int} {c : Nat} (S : SetR w h a (fun j => decide (j ∈ ns)) c) : c = (once ns).length := by
  obtain ⟨o, es, ep, t, _, _, _, _, nd, hm, _, _, hn, _⟩ := S
  have e1 : c = (es.toList.map keyOf).length := by rw [List.length_map, ← hn]; rfl
  have perm : (es.toList.map keyOf).Perm (once ns) := (List.perm_ext_iff_of_nodup nd ((once_lt ns).imp fun h => Int.ne_of_lt h)).mpr fun k => by
    rw [← hm k, mem_once, decide_eq_true_iff]
  rw [e1, perm.length_eq]
theorem set_made {pins : List (Addr × Obj)} {s : Shared} {σ : L2.St} {H : Hp} {l : Addr} {ns : List Int} {Q : Value → Shared → Prop} (hc : X.calm = true) (I : Inv X pins σ H s) (hq : SqL X.K H l (ns.map V.int) ∨ SqT X.K H l (ns.map V.int)) (h64 : ns.length < 60)
    (h : ∀ (s' : Shared) (b : Addr) (c : Nat), Inv X pins σ H s' → SetR X.w s'.heap b (fun j => decide (j ∈ ns)) c → c ≤ ns.length → Q (.ref b) s') : wpAny (model X.prog X.w) X.A (call (.type "set") [.ref l]) Q X.xe s := by
  rcases hq with hq | hq
  · obtain ⟨its, r, pl, hz⟩ := I.list hq
    exact set_of_list (I.ok.hd hc) pl.isList (ns := ns) (by simpa using r.ints) (by unfold scanBound; omega) fun h' tk c hS hc' hk => h _ _ c (I.kept (t' := tk) fun b o e => hk b o e) hS hc'
  · obtain ⟨its, r, pl, hz⟩ := I.tuple hq
    exact call_set_tupI ns (I.ok.hd hc) pl (by simpa using r.ints) (by unfold scanBound; omega) fun h' tk c hS hc' hk => h _ _ c (I.kept (t' := tk) fun b o e => hk b o e) hS hc'
theorem pe_srt (hc : X.calm = true) (hg : Gl X "sorted") (hm : X.mg "sorted" = none) (hg2 : Gl X "set") (hm2 : X.mg "set" = none) (ha : PE X a ta)
    (na : starEach [a] X.env = (false, eval a X.env) :: starEach [] X.env := by rfl) : PE X (.Call (.Name "sorted" p) [.Call (.Name "set" p2) [a] [] q] [] pos) (tSrt X.K ta) := by
  refine ⟨fun pins s σ H Q I h => ?_⟩
  refine PyProof.Rows.Call_ (ld_blt I hg hm (show bootBuiltins "sorted" = some (.builtin "sorted") by decide +kernel) ?_)
  refine PyProof.Rows.callWith_builtin1 (PyProof.Rows.args_cons ?_ rfl) rfl rfl
  refine PyProof.Rows.Call_ (ld_blt I hg2 hm2 PyProof.Rows.boot_set ?_)
  refine PyProof.Rows.callWith_type1 (PyProof.Rows.args_cons (thn (ha.run pins s σ H _ I h) fun v s1 ⟨x, H1, I1, r1, q1⟩ => PyProof.Rows.args_nil ?_) na) na rfl
  obtain ⟨l, ns, rfl, hq, h64, q1⟩ := q1
  cases r1
  refine set_made hc I1 hq h64 fun s2 b c I2 hS hc' => ?_
  refine PyProof.Rows.args_nil ?_
  refine sorted_set hS (I2.ok.hd hc) (by omega) fun s' p' out c2 ms k g o hp hgt hi hs hm hl => ?_
  have e0 : ms = once ns := lt_same hs (once_lt ns) fun k => by rw [hm k, decide_eq_true_iff, mem_once]
  subst e0
  have hlen : ((once ns).map V.int).length ≤ sizeLine := by rw [List.length_map, hl, sizeLine_eq]; omega
  have hn : H1 p' = none := I2.hok.fresh hp
  have J : Inv X pins σ (upd H1 p' (.lst ((once ns).map V.int))) { s2 with heap := s'.heap, gens := s'.gens, drawn := s'.drawn, toks := s'.toks } :=
    I2.call (ch := []) (Un.laid k hp hn) (I2.hok.laid k hp ⟨hlen, out.toList, c2, vals_of_ints hi, hgt⟩) (by rw [g]; exact I2.bare) (fun _ z => nomatch z)
  have e : s' = { s2 with heap := s'.heap, gens := s'.gens, drawn := s'.drawn, toks := s'.toks } := by
    cases s'
    cases s2
    cases o
    rfl
  rw [e]
  exact ⟨.ref p', _, J, rfl, q1 p' hn⟩
theorem pe_lens (hc : X.calm = true) (hg : Gl X "len") (hm : X.mg "len" = none) (hg2 : Gl X "set") (hm2 : X.mg "set" = none) (ha : PE X a ta)
    (na : starEach [a] X.env = (false, eval a X.env) :: starEach [] X.env := by rfl) : PE X (.Call (.Name "len" p) [.Call (.Name "set" p2) [a] [] q] [] pos) (tLst2 X.K ta) := by
  refine ⟨fun pins s σ H Q I h => ?_⟩
  refine PyProof.Rows.Call_ (ld_blt I hg hm PySem.boot_len ?_)
  refine PyProof.Rows.callWith_builtin1 (PyProof.Rows.args_cons ?_ rfl) rfl rfl
  refine PyProof.Rows.Call_ (ld_blt I hg2 hm2 PyProof.Rows.boot_set ?_)
  refine PyProof.Rows.callWith_type1 (PyProof.Rows.args_cons (thn (ha.run pins s σ H _ I h) fun v s1 ⟨x, H1, I1, r1, q1⟩ => PyProof.Rows.args_nil ?_) na) na rfl
  obtain ⟨l, ns, rfl, hq, h64, q1⟩ := q1
  cases r1
  refine set_made hc I1 hq h64 fun s2 b c I2 hS hc' => ?_
  refine PyProof.Rows.args_nil ?_
  have hcn := setR_once hS
  obtain ⟨o, es, ep, t, ho, hex, hd, _, _, _, _, hf, hn, _⟩ := hS
  refine call_len_set ho hex hd hf (by rw [hn] <;> omega) ⟨.int (once ns).length, H1, (I2.tok _).tok _, ⟨_, by rw [hn, hcn]⟩, q1⟩
def seqInts : D → Option (List Int)
  | .list ds => intsOf ds
  | .tuple ds => intsOf ds
  | _ => none
def lSrt (fa : Mi.Env → M D) : Mi.Env → M (List D) := fun ρ => do let x ← fa ρ; let ns ← ofOpt (seqInts x); need (decide (ns.length < 60)); pure ((once ns).map .int)
def eLens (fa : Mi.Env → M D) : Mi.Env → M D := fun ρ => do let x ← fa ρ; let ns ← ofOpt (seqInts x); need (decide (ns.length < 60)); pure (.int (once ns).length)
theorem rep_seqInts {K : PySem.W.Frag} {mg : Str → Option Value} {τ : Option Addr} {G H : Hp} {v : V} {d : D} {ns : List Int} (l : Le G H) (h : seqInts d = some ns) (r : Rep K mg τ G v d) : ∃ a, v = .ref a ∧ (SqL K H a (ns.map V.int) ∨ SqT K H a (ns.map V.int)) := by
  unfold seqInts at h
  cases r with
  | lst ha qa =>
    rw [intsOf_eq h] at qa
    cases reps_ints qa
    exact ⟨_, rfl, .inl (.inl (.inl (l.list ha)))⟩
  | tup ha qa =>
    rw [intsOf_eq h] at qa
    cases reps_ints qa
    exact ⟨_, rfl, .inr (sqt_le l ha)⟩
  | _ => cases h
theorem l_srt (hc : X.calm = true) (hm : X.mg "sorted" = none) (hm2 : X.mg "set" = none) (ha : PE X a (cT X.K X.mg E fa)) (hg : Gl X "sorted" := by rfl) (hg2 : Gl X "set" := by rfl) (na : starEach [a] X.env = (false, eval a X.env) :: starEach [] X.env := by rfl) :
    PE X (.Call (.Name "sorted" p) [.Call (.Name "set" p2) [a] [] q] [] pos) (cF X.K X.mg E (lSrt fa)) :=
  pe_mono (pe_srt hc hg hm hg2 hm2 ha na) fun σ H Q ⟨τ, H0, G0, G, ρ, n, R, h⟩ => ⟨τ, H0, G0, G, ρ, n, R, Post.mono (fun x H1 ⟨d, n1, G1, st, tw, r, h1⟩ => by
    obtain ⟨ns, e, h2⟩ := PostF.opt h1
    obtain ⟨hz, h3⟩ := PostF.need h2
    obtain ⟨l, rfl, hq⟩ := rep_seqInts st.le e r
    exact ⟨l, ns, rfl, hq, of_decide_eq_true hz, PostF.ret h3 (R.next st tw).refl tw (Reps.ints _)⟩) (PostF.bind (rep := Rep X.K X.mg τ) h)⟩
theorem x_lens (hc : X.calm = true) (hm : X.mg "len" = none) (hm2 : X.mg "set" = none) (ha : PE X a (cT X.K X.mg E fa)) (hg : Gl X "len" := by rfl) (hg2 : Gl X "set" := by rfl) (na : starEach [a] X.env = (false, eval a X.env) :: starEach [] X.env := by rfl) :
    PE X (.Call (.Name "len" p) [.Call (.Name "set" p2) [a] [] q] [] pos) (cT X.K X.mg E (eLens fa)) :=
  pe_mono (pe_lens hc hg hm hg2 hm2 ha na) fun σ H Q ⟨τ, H0, G0, G, ρ, n, R, h⟩ => ⟨τ, H0, G0, G, ρ, n, R, Post.mono (fun x H1 ⟨d, n1, G1, st, tw, r, h1⟩ => by
    obtain ⟨ns, e, h2⟩ := Post.opt h1
    obtain ⟨hz, h3⟩ := Post.need h2
    obtain ⟨l, rfl, hq⟩ := rep_seqInts st.le e r
    exact ⟨l, ns, rfl, hq, of_decide_eq_true hz, Post.ret h3 (R.next st tw).refl tw (.int _)⟩) (Post.bind (rep := Rep X.K X.mg τ) h)⟩
/-- a list times a number -/
def lRep (fa fb : Mi.Env → M D) : Mi.Env → M (List D) := fun ρ => do
  let x ← fa ρ
  let ds ← ofOpt (asL x)
  let y ← fb ρ
  let k ← ofOpt (optI y)
  need (decide (0 ≤ k ∧ k < 2 ^ 63 ∧ ds.length * k.toNat ≤ sizeLine))
  pure (List.replicate k.toNat ds).flatten
theorem reps_rep {K : PySem.W.Frag} {mg : Str → Option Value} {τ : Option Addr} {G : Hp} {vs : List V} {ds : List D} (r : Reps K mg τ G vs ds) : ∀ k : Nat, Reps K mg τ G (List.replicate k vs).flatten (List.replicate k ds).flatten
  | 0 => .nil
  | k + 1 => by
    rw [List.replicate_succ, List.replicate_succ, List.flatten_cons, List.flatten_cons]
    exact r.append (reps_rep r k)
theorem l_rep (ha : PE X a (cT X.K X.mg E fa)) (hb : PE X b (cT X.K X.mg E fb)) : PE X (.BinOp a .Mult b pos) (cF X.K X.mg E (lRep fa fb)) :=
  pe_mono (pe_op op_rep ha hb) fun σ H Q ⟨τ, H0, G0, G, ρ, n, R, h⟩ => ⟨τ, H0, G0, G, ρ, n, R, Post.mono (fun x H1 ⟨d, n1, G1, st, tw, r, h1⟩ => by
    obtain ⟨ds, ed, h2⟩ := PostF.opt h1
    rw [asL_eq ed] at r
    have R1 := R.next st tw
    refine ⟨τ, H0, G0, G1, ρ, n1, R1, Post.mono (fun y H2 ⟨dy, n2, G2, st2, tw2, ry, h3⟩ => ?_) (PostF.bind (rep := Rep X.K X.mg τ) (h2))⟩
    obtain ⟨k, ek, h4⟩ := PostF.opt h3
    obtain ⟨hz, h5⟩ := PostF.need h4
    have hz : 0 ≤ k ∧ k < 2 ^ 63 ∧ ds.length * k.toNat ≤ sizeLine := of_decide_eq_true hz
    rw [optI_eq ek] at ry
    cases rep_int ry
    cases r with
    | lst hA qa =>
      have hA2 := st2.le.list (st2.sub _ _ hA)
      exact ⟨_, k, _, rfl, rfl, hA2, by omega, hz.2.1, by rw [qa.length]; exact hz.2.2, PostF.ret h5 (R1.next st2 tw2).refl tw2 (reps_rep (qa.sub st2.sub) _)⟩) (PostF.bind (rep := Rep X.K X.mg τ) h)⟩
end
end Mi

end

section
set_option Elab.async false
set_option linter.all false
set_option maxRecDepth 100000
set_option maxHeartbeats 4000000
namespace Mi
open PySem PySem.Spec L2
def eNeg (fa : Mi.Env → M D) : Mi.Env → M D := fun ρ => do let x ← fa ρ; let k ← ofOpt (optI x); pure (.int (-k))
/-- lo, .., hi - 1 -/
def rgD (a b : Int) : List D := (List.range (b - a).toNat).map fun i => PyData.int (a + (i : Nat))
def lRg1 (fa : Mi.Env → M D) : Mi.Env → M (List D) := fun ρ => do let x ← fa ρ; let k ← ofOpt (optI x); need (decide (0 ≤ k ∧ k ≤ 16777216)); pure (rgD 0 k)
def lRg2 (fa fb : Mi.Env → M D) : Mi.Env → M (List D) := fun ρ => do let x ← fa ρ; let y ← fb ρ; let i ← ofOpt (optI x); let k ← ofOpt (optI y); need (decide (0 ≤ i ∧ k ≤ 16777216 ∧ i ≤ 16777216 ∧ 0 ≤ k)); pure (rgD i k)
def eTRg1 (fa : Mi.Env → M D) : Mi.Env → M D := fun ρ => do let x ← fa ρ; let k ← ofOpt (optI x); need (decide (0 ≤ k ∧ k ≤ 16777216)); pure (.tuple (rgD 0 k))
section
variable {X : Cx} {E : L2.St → XK} {a b e : Expr} {fa fb fc : Mi.Env → M D} {p p2 q pos cpos apos : Pos}
theorem x_neg (ha : PE X a (cT X.K X.mg E fa)) : PE X (.UnaryOp .USub a pos) (cT X.K X.mg E (eNeg fa)) :=
  pe_mono (pe_un un_neg ha) fun σ H Q ⟨τ, H0, G0, G, ρ, n, R, h⟩ => ⟨τ, H0, G0, G, ρ, n, R, Post.mono (fun x H1 ⟨d, n1, G1, st, tw, r, h1⟩ => by
    obtain ⟨k, ek, h2⟩ := Post.opt h1
    rw [optI_eq ek] at r
    cases rep_int r
    exact ⟨k, rfl, Post.ret h2 (R.next st tw).refl tw (.int _)⟩) (Post.bind (rep := Rep X.K X.mg τ) h)⟩
theorem reps_rg {K : PySem.W.Frag} {mg : Str → Option Value} {τ : Option Addr} {G : Hp} (a b : Int) : Reps K mg τ G (rgV a b) (rgD a b) := by
  have h := Reps.ints (K := K) (mg := mg) (τ := τ) (G := G) ((List.range (b - a).toNat).map fun i => a + (i : Nat))
  rw [List.map_map, List.map_map] at h
  exact h
theorem l_rg1 (hc : X.calm = true) (hm : X.mg "list" = none) (hm2 : X.mg "range" = none) (ha : PE X a (cT X.K X.mg E fa)) (hg : Gl X "list" := by rfl) (hg2 : Gl X "range" := by rfl)
    (na : starEach [a] X.env = (false, eval a X.env) :: starEach [] X.env := by rfl) (na2 : starEach [.Call (.Name "range" p2) [a] [] q] X.env = (false, eval (.Call (.Name "range" p2) [a] [] q) X.env) :: starEach [] X.env := by rfl) :
    PE X (.Call (.Name "list" p) [.Call (.Name "range" p2) [a] [] q] [] pos) (cF X.K X.mg E (lRg1 fa)) :=
  pe_mono (pe_listRg hc hg hm (prg_1 hg2 hm2 ha na) na2) fun σ H Q ⟨τ, H0, G0, G, ρ, n, R, h⟩ => ⟨τ, H0, G0, G, ρ, n, R, Post.mono (fun x H1 ⟨d, n1, G1, st, tw, r, h1⟩ => by
    obtain ⟨k, ek, h2⟩ := PostF.opt h1
    obtain ⟨hz, h3⟩ := PostF.need h2
    have hz : 0 ≤ k ∧ k ≤ 16777216 := of_decide_eq_true hz
    rw [optI_eq ek] at r
    cases rep_int r
    exact ⟨k, rfl, RgOk.of_le (by omega) hz.2 (by omega) hz.1, PostF.ret h3 (R.next st tw).refl tw (reps_rg 0 k)⟩) (PostF.bind (rep := Rep X.K X.mg τ) h)⟩
theorem x_tupRg1 (hc : X.calm = true) (hm : X.mg "tuple" = none) (hm2 : X.mg "range" = none) (ha : PE X a (cT X.K X.mg E fa)) (hg : Gl X "tuple" := by rfl) (hg2 : Gl X "range" := by rfl)
    (na : starEach [a] X.env = (false, eval a X.env) :: starEach [] X.env := by rfl) (na2 : starEach [.Call (.Name "range" p2) [a] [] q] X.env = (false, eval (.Call (.Name "range" p2) [a] [] q) X.env) :: starEach [] X.env := by rfl) :
    PE X (.Call (.Name "tuple" p) [.Call (.Name "range" p2) [a] [] q] [] pos) (cT X.K X.mg E (eTRg1 fa)) :=
  pe_mono (pe_tupRg hc hg hm (prg_1 hg2 hm2 ha na) na2) fun σ H Q ⟨τ, H0, G0, G, ρ, n, R, h⟩ => ⟨τ, H0, G0, G, ρ, n, R, Post.mono (fun x H1 ⟨d, n1, G1, st, tw, r, h1⟩ => by
    obtain ⟨k, ek, h2⟩ := Post.opt h1
    obtain ⟨hz, h3⟩ := Post.need h2
    have hz : 0 ≤ k ∧ k ≤ 16777216 := of_decide_eq_true hz
    rw [optI_eq ek] at r
    cases rep_int r
    exact ⟨k, rfl, RgOk.of_le (by omega) hz.2 (by omega) hz.1, Post.newT h3 (R.next st tw).refl tw (reps_rg 0 k)⟩) (Post.bind (rep := Rep X.K X.mg τ) h)⟩
end
end Mi

end

section
set_option Elab.async false
set_option linter.all false
set_option maxRecDepth 100000
set_option maxHeartbeats 4000000
namespace Mi
open PySem PySem.Spec L2

/-! ### what a law's top has written, as the walk wants it -/
def FunAt (K : PySem.W.Frag) (mg : Str → Option Value) (x : Str) (st : Stmt) : Prop := ∃ f fd, Fun K x x st f fd ∧ mg x = some (.ref f)
structure Cal (P : Program) (w : World) (K : PySem.W.Frag) (mg : Str → Option Value) (base : Heap) (k : Nat) (x : Str) (ar : Nat) (m : List D → M D) : Prop where
  ex : ∃ f fd ps, FnOk P w K mg base (L2.CX P w) k f fd ps (spM K mg ar m) ∧ mg x = some (.ref f) ∧ PySem.W.keepIn K (.ref f) = true ∧ Binds K fd ps []
structure CalF (P : Program) (w : World) (K : PySem.W.Frag) (mg : Str → Option Value) (base : Heap) (k : Nat) (x : Str) (ar : Nat) (m : List D → M (List D)) : Prop where
  ex : ∃ f fd ps, FnOk P w K mg base (L2.CX P w) k f fd ps (spN K mg ar m) ∧ mg x = some (.ref f) ∧ PySem.W.keepIn K (.ref f) = true ∧ Binds K fd ps []
/-- a class whose objects are raised: mg's value, what it has written -/
structure RaiseOk (K : PySem.W.Frag) (mg : Str → Option Value) (c : Str) (C : Addr) : Prop where
  g : mg c = some (.ref C)
  x : PySem.W.excIn K C [.type "ValueError", .type "Exception", .type "BaseException", .type "object"] "ValueError.__new__" = true
  k : PySem.W.keepIn K (.ref C) = true
  b : PySem.W.subIn K (.ref C) (.type "BaseException") = some true
  t : PySem.W.typeIn K (.ref C) = some (.type "type")
def CanRaise (K : PySem.W.Frag) (mg : Str → Option Value) (c : Str) : Prop := ∃ C, RaiseOk K mg c C
section
variable {P : Program} {w : World} {K : PySem.W.Frag} {mg : Str → Option Value} {base : Heap}
theorem fun_at {h : Heap} {x : Str} {st : Stmt} {f : Addr} {oc : Value} {od an : Option Addr} {osl : Array (Option Value)} {kV doc pm cdv ct : Value} (X : K.In h) (G : h.Ns mainGlobals mg) (a : PySem.W.nsIn K mainGlobals x = some (some (.ref f)))
    (l : K.lookup f = some ⟨oc, od, .func (PySem.W.fnOf x x (defArgs st) (defBody st) (defScope st) .none kV doc pm an cdv ct), osl⟩) (c : PySem.W.codeIn K cdv x = true) (k : PySem.W.keepIn K (.ref f) = true) : FunAt K mg x st :=
  ⟨f, _, fun_mk l c k, PySem.W.mg_of X G a⟩
theorem cal_of {x : Str} {st : Stmt} {N ps : List Str} {k ar : Nat} {body : MS} {m : List D → M D} (F : FunAt K mg x st) (S : FnScope N ps (defScope st)) (har : ps.length = ar) (hm : run N.length body = m)
    (hbind : ∀ (kV doc pm : Value) (an : Option Addr) (cdv ct : Value) (us : List Value), us.length = ps.length → bindArgs (PySem.W.fnOf x x (defArgs st) (defBody st) (defScope st) .none kV doc pm an cdv ct) ⟨us, []⟩ = pure (ps.zip us))
    (hb : ∀ (f : Addr) (cdv : Value) (A : Around) (outer : List PySem.Env) (s : Shared) (H : Hp) (E : XK), Room k (A.deeper (PyProof.Rows.envOfC x (defScope st) s.heap.objs.size f cdv)) →
      PSs (cxOf (L2.CX P w) P w K mg base N x (defScope st) f cdv A outer s H E) (defBody st) (cS K mg E body)) : Cal P w K mg base (k + 1) x ar m := by
  subst hm
  obtain ⟨f, fd, F, hm⟩ := F
  exact ⟨f, fd, ps, fn_body F S har fun cdv A outer s H E hr => hb f cdv A outer s H E hr, hm, F.kp, F.binds hbind⟩
theorem cal_ofF {x : Str} {st : Stmt} {N ps : List Str} {k ar : Nat} {body : MS} {m : List D → M (List D)} (F : FunAt K mg x st) (S : FnScope N ps (defScope st)) (har : ps.length = ar) (hm : runF N.length body = m)
    (hbind : ∀ (kV doc pm : Value) (an : Option Addr) (cdv ct : Value) (us : List Value), us.length = ps.length → bindArgs (PySem.W.fnOf x x (defArgs st) (defBody st) (defScope st) .none kV doc pm an cdv ct) ⟨us, []⟩ = pure (ps.zip us))
    (hb : ∀ (f : Addr) (cdv : Value) (A : Around) (outer : List PySem.Env) (s : Shared) (H : Hp) (E : XK), Room k (A.deeper (PyProof.Rows.envOfC x (defScope st) s.heap.objs.size f cdv)) →
      PSs (cxOf (L2.CX P w) P w K mg base N x (defScope st) f cdv A outer s H E) (defBody st) (cS K mg E body)) : CalF P w K mg base (k + 1) x ar m := by
  subst hm
  obtain ⟨f, fd, F, hm⟩ := F
  exact ⟨f, fd, ps, fn_bodyF F S har fun cdv A outer s H E hr => hb f cdv A outer s H E hr, hm, F.kp, F.binds hbind⟩
theorem cal_bad {x : Str} {st : Stmt} {ps : List Str} {k ar : Nat} (F : FunAt K mg x st)
    (hbind : ∀ (kV doc pm : Value) (an : Option Addr) (cdv ct : Value) (us : List Value), us.length = ps.length → bindArgs (PySem.W.fnOf x x (defArgs st) (defBody st) (defScope st) .none kV doc pm an cdv ct) ⟨us, []⟩ = pure (ps.zip us)) : Cal P w K mg base k x ar fun _ => bad := by
  obtain ⟨f, fd, F, hm⟩ := F
  exact ⟨f, fd, ps, fn_bad, hm, F.kp, F.binds hbind⟩
theorem Cal.mono {j k ar : Nat} {x : Str} {m : List D → M D} (C : Cal P w K mg base j x ar m) (h : j ≤ k) : Cal P w K mg base k x ar m := by
  obtain ⟨f, fd, ps, F, r⟩ := C.ex
  exact ⟨f, fd, ps, F.mono h, r⟩
end
section
variable {X : Cx} {k ar : Nat} {W : WX} {x : Str} {p pos : Pos} {e : Expr} {es : List Expr} {m : List D → M D} {fs : Mi.Env → M (List D)} {E : XK}
theorem x_cal (tk : Takes X W) (hr : Room k X.A) (C : Cal X.prog X.w X.K X.mg X.base k x ar m) (ha : PA X (e :: es) (cA X.K X.mg (WE W) fs)) (hg : Gl X x := by rfl) (hdb : (x == ("__debug__" : Str)) = false := by decide)
    (he : starEach (e :: es) X.env = (false, eval e X.env) :: starEach es X.env := by rfl) (hpl : (backTo pos (starEach es X.env)).any (·.1) = false := by rfl) : PE X (.Call (.Name x p) (e :: es) [] pos) (cT X.K X.mg (WE W) (eFn ar m fs)) := by
  obtain ⟨f, fd, ps, F, hm, hk, hb⟩ := C.ex
  exact x_fn tk F hr hm hk hb ha hg hdb he hpl
theorem l_cal {m : List D → M (List D)} (tk : Takes X W) (hr : Room k X.A) (C : CalF X.prog X.w X.K X.mg X.base k x ar m) (ha : PA X (e :: es) (cA X.K X.mg (WE W) fs)) (hg : Gl X x := by rfl) (hdb : (x == ("__debug__" : Str)) = false := by decide)
    (he : starEach (e :: es) X.env = (false, eval e X.env) :: starEach es X.env := by rfl) (hpl : (backTo pos (starEach es X.env)).any (·.1) = false := by rfl) : PE X (.Call (.Name x p) (e :: es) [] pos) (cF X.K X.mg (WE W) (lFn ar m fs)) := by
  obtain ⟨f, fd, ps, F, hm, hk, hb⟩ := C.ex
  exact l_fn tk F hr hm hk hb ha hg hdb he hpl
theorem s_raiseC {c msg : Str} {j : Nat} {p p2 pos pos' : Pos} (hc : X.calm = true) (tk : Takes X (fun c d _ H => E c d H)) (R : CanRaise X.K X.mg c) (hg : Gl X c := by rfl) (hdb : (c == ("__debug__" : Str)) = false := by decide) :
    PS X (.Raise (some (.Call (.Name c p) [.Constant (.str msg) j p2] [] pos)) none pos') (cS X.K X.mg E (sRaise c)) := by
  obtain ⟨C, R⟩ := R
  exact s_raise hc tk R.g (pmk_own PySem.F.excBase_ValueError R.x R.g R.k (raises_own R.b R.t) hg hdb)
end
end Mi
namespace Mi
open PySem PySem.Spec L2
theorem kit_own {K : PySem.W.Frag} {C D : Addr} {b : Bool} (h2 : PySem.W.isClsIn K C = true) (h3 : PySem.W.typeIn K (.ref C) = some (.type "type")) (h4 : PySem.W.subIn K (.ref D) (.ref C) = some b) (hs : PySem.W.subIn K (.ref D) (.ref D) = some true) :
    PySem.W.kitOne K (.ref D) (.ref C) = some b := by
  have h2' : (PySem.W.clsIn K C).isSome = true := h2
  have e2 : ((PySem.W.clsIn K C).isSome && PySem.W.typeIn K (.ref C) == some (.type "type")) = true := by rw [h2', h3] <;> rfl
  unfold PySem.W.kitOne
  by_cases e : (Value.ref D == Value.ref C) = true
  · rw [if_pos e]
    have z : D = C := Value.ref.inj (beq_iff_eq.mp e)
    subst z
    rw [hs] at h4
    exact h4
  · rw [if_neg e]
    show (if ((PySem.W.clsIn K C).isSome && PySem.W.typeIn K (.ref C) == some (.type "type")) = true then PySem.W.subIn K (.ref D) (.ref C) else none) = some b
    rw [if_pos e2]
    exact h4
theorem kit_ty {K : PySem.W.Frag} {D : Addr} {T : String} {b : Bool} (h2 : PySem.W.kitMeta T = true) (h4 : PySem.W.subIn K (.ref D) (.type T) = some b) : PySem.W.kitOne K (.ref D) (.type T) = some b := by
  unfold PySem.W.kitOne
  rw [if_neg (fun z => by cases beq_iff_eq.mp z)]
  show (if PySem.W.kitMeta T = true then PySem.W.subIn K (.ref D) (.type T) else none) = some b
  rw [if_pos h2]
  exact h4
theorem walk_end {l : PySem.W.OpenLaw} {q : Program} {loose : List Str} {XP : (Str → Option Value) → Heap → Prop} {YP : World → Heap → Prop} {d : DefRec} {K : Params → PySem.W.Frag} {k L i : Nat} {body : MS} {sc : Str} (hn : l.most = some 63) (hdf : d.params.defaults = [])
    (hr : Room k callerA) (hi : i < L) (hY : ∀ (w : World) (h : Heap), YP w h → (K w.params).In h)
    (F : ∀ (w : World) (mg : Str → Option Value) (fa : Addr) (h : Heap), (K w.params).In h → h.Ns mainGlobals mg → mg d.name = some (.ref fa) →
      ∃ fd : FuncData, (∀ (s : Shared) (u : Value), BindsTo s fd ⟨[u], []⟩ [(sc, u)]) ∧ ∀ base : Heap, (K w.params).In base → base.Ns mainGlobals mg → FnOk l.prog w (K w.params) mg base (L2.CX l.prog w) k fa fd [sc] (spLaw (K w.params) L i body))
    (ht : ∀ ns : List Int, ns.length ≤ 63 → lawOk L i body ns) : PySem.W.WalkO q loose XP YP l.row.toRowW d [] (fun f vs => PySem.call f vs) :=
  L2.walk_of (n := 63) (k := k) (x := sc) (CX := fun w => L2.CX l.prog w) (sp := fun w => spLaw (K w.params) L i body) hn (by decide) hdf hr hY F
    (fun w H a ns hl hO hS => ⟨a, ns, rfl, hO, hS, ht ns hl, hi, fun _ => rfl⟩) fun w H s e s' ⟨_, _, _, _, _, _, _, _, _, _, _, _, z⟩ => z
end Mi

end

section
set_option Elab.async false
set_option linter.all false
set_option maxRecDepth 100000
set_option maxHeartbeats 4000000
namespace Mi
open PySem PySem.Spec L2
/-! ### sorted(xs), min(xs) of plain values alike; isinstance of a plain value; pop; two names at once; a try's tree -/
def allAl (ds : List D) : Bool := ds.all fun d => ds.all fun e => PySem.W.alike d e
def sortK : D → Bool
  | .tuple [] => false
  | .tuple (_ :: _) => true
  | _ => false
def sortN : D → Bool
  | .none => false
  | .tuple _ => false
  | _ => true
def sortOk (ds : List D) : Bool := okD (.list ds) && allAl ds && (ds.all sortK || ds.all sortN) && decide (ds.length ≤ sizeLine)
def srtD (ds : List D) : List D := ds.mergeSort (PySem.W.dataLe false id)
def gSort : D → M (List D)
  | .list ds => do need (sortOk ds); pure (srtD ds)
  | _ => bad
theorem allAl_of {ds : List D} (h : allAl ds = true) : PySem.W.AllAlike ds := fun d hd e he => List.all_eq_true.mp (List.all_eq_true.mp h d hd) e he
theorem sortable_of {ds : List D} (h : (ds.all sortK || ds.all sortN) = true) : PySem.W.Sortable ds := by
  rcases Bool.or_eq_true_iff.mp h with h | h
  · refine .inl fun d hd => ?_
    have := List.all_eq_true.mp h d hd
    unfold sortK at this
    split at this
    · cases this
    · exact ⟨_, _, rfl⟩
    · cases this
  · refine .inr fun d hd => ?_
    have := List.all_eq_true.mp h d hd
    unfold sortN at this
    split at this
    · cases this
    · cases this
    · rename_i h1 h2
      exact ⟨fun z => h1 z, fun xs z => h2 xs z⟩
def rSortP (X : Cx) : List V → Hp → VK → Prop := fun xs H Q => ∃ τ G a vs ds, xs = [V.ref a] ∧ Le G H ∧ G a = some (.lst vs) ∧ Reps X.K X.mg τ G vs ds ∧ sortOk ds = true ∧ ∀ (ws : List V) (p : Addr), Reps X.K X.mg τ G ws (srtD ds) → H p = none → Q (.ref p) (upd H p (.lst ws))
theorem reps_pairs {K : PySem.W.Frag} {mg : Str → Option Value} {τ : Option Addr} {G : Hp} : ∀ {bs : List (V × D)}, (∀ b ∈ bs, Rep K mg τ G b.1 b.2) → Reps K mg τ G (bs.map (·.1)) (bs.map (·.2))
  | [], _ => .nil
  | b :: r, h => .cons (h b List.mem_cons_self) (reps_pairs fun b hb => h b (List.mem_cons_of_mem _ hb))
theorem pairs_reps {K : PySem.W.Frag} {mg : Str → Option Value} {τ : Option Addr} {G : Hp} : ∀ {vs : List V} {ds : List D}, Reps K mg τ G vs ds → ∃ bs : List (V × D), bs.map (·.1) = vs ∧ bs.map (·.2) = ds ∧ ∀ b ∈ bs, Rep K mg τ G b.1 b.2
  | _, _, .nil => ⟨[], rfl, rfl, fun _ h => nomatch h⟩
  | _, _, .cons (v := v) (d := d) h r => by
    obtain ⟨bs, e1, e2, h2⟩ := pairs_reps r
    refine ⟨(v, d) :: bs, by rw [List.map_cons, e1], by rw [List.map_cons, e2], fun b hb => ?_⟩
    rcases List.mem_cons.mp hb with e | e
    · rw [e]; exact h
    · exact h2 b e
theorem each_vals {γ : Type} {f : γ → V} : ∀ {us : List Value} {bs : List γ}, Vals (bs.map f) us → PySem.W.EachIs (fun u b => RelV (f b) u) us bs := by
  intro us bs
  induction bs generalizing us with
  | nil => intro h; cases h; exact .nil
  | cons b r ih =>
    intro h
    cases h with
    | cons h t => exact .cons h (ih t)
theorem vals_each {γ : Type} {f : γ → V} : ∀ {us : List Value} {bs : List γ}, PySem.W.EachIs (fun u b => RelV (f b) u) us bs → Vals (bs.map f) us := by
  intro us bs h
  induction h with
  | nil => exact .nil
  | cons h _ ih => exact .cons h ih
section
variable {X : Cx}
theorem each_reads {pins : List (Addr × Obj)} {σ : L2.St} {H G : Hp} {s : Shared} {τ : Option Addr} (I : Inv X pins σ H s) (l : Le G H) : ∀ {us : List Value} {bs : List (V × D)}, Vals (bs.map (·.1)) us → (∀ b ∈ bs, Rep X.K X.mg τ G b.1 b.2 ∧ b.2.plain = true) → PySem.W.EachIs (fun u b => ∃ as, Reads s.heap u b.2 as) us bs := by
  intro us bs
  induction bs generalizing us with
  | nil => intro h _; cases h; exact .nil
  | cons b r ih =>
    intro h hb
    cases h with
    | cons h t =>
      have := hb b List.mem_cons_self
      exact .cons (this.1.reads I l this.2 h) (ih t fun c hc => hb c (List.mem_cons_of_mem _ hc))
theorem plain_mem' : ∀ {ds : List D} {d : D}, PyData.plainAll ds = true → d ∈ ds → d.plain = true := fun h m => PySem.W.plain_mem h m
theorem depth_mem : ∀ {ds : List D} {d : D}, d ∈ ds → d.depth ≤ PyData.depthAll ds
  | x :: r, d, h => by
    rw [PyData.depthAll]
    rcases List.mem_cons.mp h with e | e
    · rw [e]; exact Nat.le_max_left _ _
    · exact Nat.le_trans (depth_mem e) (Nat.le_max_right _ _)
theorem cr_sortP (hu : X.A.units + 64 < cLine) : CallR X (.builtin "sorted") (rSortP X) := by
  rintro pins s σ H xs us Q I r ⟨τ, G, a, vs, ds, rfl, l, ha, ra, ok, q⟩
  unfold sortOk at ok
  simp only [Bool.and_eq_true] at ok
  obtain ⟨⟨⟨o1, o2⟩, o3⟩, o4⟩ := ok
  have hz : ds.length ≤ sizeLine := of_decide_eq_true o4
  have p2 : PyData.plainAll ds = true := (okD_of o1).1
  have d2 : PyData.depthAll ds + 1 ≤ 60 := (okD_of o1).2
  rw [Vals.ref1 r]
  obtain ⟨its, rv, pl, _⟩ := I.list (.inl (.inl (l.list ha)))
  obtain ⟨bs, rfl, rfl, hb⟩ := pairs_reps ra
  have er := each_reads (τ := τ) I l rv fun b m => ⟨hb b m, plain_mem' p2 (List.mem_map.mpr ⟨b, m, rfl⟩)⟩
  refine PySem.W.sorted_data (R := fun u b => RelV b.1 u) (enc := fun b : V × D => b.2) pl.isList (each_vals rv) er (allAl_of o2) (sortable_of o3) (by rw [List.length_map] at hz; exact hz) (fun b m => by
    have := depth_mem (List.mem_map.mpr ⟨b, m, rfl⟩ : b.2 ∈ bs.map (·.2))
    omega) fun out hl he => ?_
  obtain ⟨ep, he'⟩ := PyProof.Rows.sortedAll_at s.heap its out.toArray
  have hv : Vals ((bs.mergeSort (PySem.W.dataLe false fun b : V × D => b.2)).map (·.1)) out := vals_each he
  have hlen : ((bs.mergeSort (PySem.W.dataLe false fun b : V × D => b.2)).map (·.1)).length ≤ sizeLine := by rw [List.length_map, List.length_mergeSort]; rw [List.length_map] at hz; exact hz
  have e2 : (bs.mergeSort (PySem.W.dataLe false fun b : V × D => b.2)).map (·.2) = srtD (bs.map (·.2)) := by
    unfold srtD
    exact List.map_mergeSort fun a _ b _ => rfl
  refine ⟨.ref _, upd H (s.heap.objs.size + 1) (.lst ((bs.mergeSort (PySem.W.dataLe false fun b : V × D => b.2)).map (·.1))), I.laid (t' := s.toks) (fun _ _ => PyProof.Rows.sortedAll_old) (Nat.le_succ _) ⟨hlen, out, ep, hv, he'⟩, rfl, q _ _ ?_ (I.hok.fresh (Nat.le_succ _))⟩
  rw [← e2]
  exact reps_pairs fun b m => hb b (List.mem_mergeSort.mp m)
end
section
variable {X : Cx} {E : L2.St → XK} {a b e : Expr} {fa fb fc : Mi.Env → M D} {fs ls : Mi.Env → M (List D)} {p p2 q pos cpos apos : Pos}
theorem cf_sort : CallF X (rSortP X) (arg1 gSort) := cf_one fun τ n H G v d E Q st tw rx h => by
  cases rx with
  | lst ha qa =>
    obtain ⟨hz, h⟩ := PostF.need h
    exact ⟨τ, G, _, _, _, rfl, st.le, ha, qa, hz, fun ws p rw' hp => PostF.ret h st tw rw' p hp⟩
  | _ => exact (show False from h).elim
theorem l_sort (hu : X.A.units + 64 < cLine) (hm : X.mg "sorted" = none) (ha : PA X [e] (cA X.K X.mg E fs)) (hg : Gl X "sorted" := by rfl) (he : starEach (e :: []) X.env = (false, eval e X.env) :: starEach [] X.env := by rfl) (hpl : (backTo pos (starEach [] X.env)).any (·.1) = false := by rfl) :
    PE X (.Call (.Name "sorted" p) [e] [] pos) (cF X.K X.mg E (lCall (arg1 gSort) fs)) := l_callB (cr_sortP hu) cf_sort hg hm (by decide +kernel) ha (he := he) (hpl := hpl)
end
end Mi

end

section
set_option Elab.async false
set_option linter.all false
set_option maxRecDepth 100000
set_option maxHeartbeats 4000000
namespace Mi
open PySem PySem.Spec L2
section
variable {X : Cx} {E : L2.St → XK} {a b e : Expr} {fa fb fc : Mi.Env → M D} {fs ls : Mi.Env → M (List D)} {p p2 q pos cpos apos : Pos}
/-! ### isinstance of a plain value -/
def eIsTy (k : D → Bool) (fa : Mi.Env → M D) : Mi.Env → M D := fun ρ => do let x ← fa ρ; need x.plain; pure (.bool (k x))
def rIsTy (X : Cx) (T : String) (k : D → Bool) : List V → Hp → VK → Prop := fun xs H Q => ∃ τ G x d, xs = [x, .ty T] ∧ Le G H ∧ Rep X.K X.mg τ G x d ∧ d.plain = true ∧ Q (.bl (k d)) H
/-- the kit's rule at that type -/
def IsRule (X : Cx) (T : String) (k : D → Bool) : Prop := ∀ (s : Shared) (v : Value) (d : D) (as : List Addr) (Q E : Value → Shared → Prop), Reads s.heap v d as → (∀ tk, s.toks ≤ tk → Q (.bool (k d)) { s with toks := tk }) → wpAny (model X.prog X.w) X.A (call (.builtin "isinstance") [v, .type T]) Q E s
theorem call_isTy {T : String} {k : D → Bool} (hT : IsRule X T k) : CallR X (.builtin "isinstance") (rIsTy X T k) := by
  rintro pins s σ H xs us Q I r ⟨τ, G, x, d, rfl, l, hx, hp, q⟩
  obtain ⟨u, v, rfl, ru, rv⟩ := r.two
  cases rv
  obtain ⟨as, rd⟩ := hx.reads I l hp ru
  exact hT s u d as _ _ rd fun tk _ => ⟨.bl _, H, I.kept (t' := tk) fun _ _ z => z, rfl, q⟩
theorem x_isTy {T : String} {k : D → Bool} (hT : IsRule X T k) (hm : X.mg "isinstance" = none) (ha : PE X a (cT X.K X.mg E fa)) (hb : PE X b (tC (.ty T))) (hg : Gl X "isinstance" := by rfl)
    (hs2 : starEach [b] X.env = (false, eval b X.env) :: starEach [] X.env := by rfl) (he : starEach (a :: [b]) X.env = (false, eval a X.env) :: starEach [b] X.env := by rfl) (hpl : (backTo pos (starEach [b] X.env)).any (·.1) = false := by rfl) :
    PE X (.Call (.Name "isinstance" p) [a, b] [] pos) (cT X.K X.mg E (eIsTy k fa)) :=
  pe_mono (pe_callB (call_isTy hT) hg hm (by decide +kernel) (pa_cons ha (pa_cons hb pa_nil hs2) he) (he := he) (hpl := hpl)) fun σ H Q ⟨τ, H0, G0, G, ρ, n, R, h⟩ => ⟨τ, H0, G0, G, ρ, n, R, Post.mono (fun x H1 ⟨d, n1, G1, st, tw, r, h1⟩ => by
    obtain ⟨hz, h2⟩ := Post.need h1
    exact ⟨τ, G1, x, d, rfl, st.le, r, hz, Post.ret h2 (R.next st tw).refl tw (.bl _)⟩) (Post.bind (rep := Rep X.K X.mg τ) h)⟩
theorem is_str : IsRule X "str" PyData.isStr := fun s v d as Q E r h => PySem.W.isinstance_str_data r h
theorem is_tuple : IsRule X "tuple" PyData.isTuple := fun s v d as Q E r h => PySem.W.isinstance_tuple_data r h
theorem is_list : IsRule X "list" PyData.isList := fun s v d as Q E r h => PySem.W.isinstance_list_data r h
theorem is_dict : IsRule X "dict" PyData.isDict := fun s v d as Q E r h => PySem.W.isinstance_dict_data r h

/-! ### min(xs) of plain values alike -/
def minOk (ds : List D) : Bool := okD (.list ds) && allAl ds && ds.all (fun d => !isNone d) && !ds.isEmpty
def minDs : List D → D
  | [] => .none
  | x :: r => PySem.W.minD x r
def gMin : D → M D
  | .list ds => do need (minOk ds); pure (minDs ds)
  | _ => bad
def rMinP (X : Cx) : List V → Hp → VK → Prop := fun xs H Q => ∃ τ G a vs ds, xs = [V.ref a] ∧ Le G H ∧ G a = some (.lst vs) ∧ Reps X.K X.mg τ G vs ds ∧ minOk ds = true ∧ ∀ v, Rep X.K X.mg τ G v (minDs ds) → Q v H
theorem reads_plain_uniq {h : Heap} {v : Value} {d d' : D} {as as' : List Addr} (hd : d.plain = true) (hd' : d'.plain = true) (r : Reads h v d as) (r' : Reads h v d' as') : d = d' := (PySem.SeqAt.readOf_plain hd r).symm.trans (PySem.SeqAt.readOf_plain hd' r')
theorem minD_mem (x : D) : ∀ r : List D, PySem.W.minD x r ∈ x :: r := by
  intro r
  unfold PySem.W.minD
  induction r generalizing x with
  | nil => exact List.mem_cons_self
  | cons y r ih =>
    rw [List.foldl_cons]
    have := ih (if PySem.W.dataLt y x = true then y else x)
    rcases List.mem_cons.mp this with e | e
    · rw [e]
      split
      · exact List.mem_cons_of_mem _ List.mem_cons_self
      · exact List.mem_cons_self
    · exact List.mem_cons_of_mem _ (List.mem_cons_of_mem _ e)
theorem cr_minP (hc : X.calm = true) (hu : X.A.units + 64 < cLine) : CallR X (.builtin "min") (rMinP X) := by
  rintro pins s σ H xs us Q I r ⟨τ, G, a, vs, ds, rfl, l, ha, ra, ok, q⟩
  unfold minOk at ok
  simp only [Bool.and_eq_true] at ok
  obtain ⟨⟨⟨o1, o2⟩, o3⟩, o4⟩ := ok
  have p2 : PyData.plainAll ds = true := (okD_of o1).1
  have d2 : PyData.depthAll ds + 1 ≤ 60 := (okD_of o1).2
  rw [Vals.ref1 r]
  obtain ⟨its, rv, pl, _⟩ := I.list (.inl (.inl (l.list ha)))
  obtain ⟨as, rs⟩ := ra.reads I l p2 rv
  cases ds with
  | nil => cases o4
  | cons d ds =>
    have rs' : ReadsAll s.heap its.toArray.toList (d :: ds) as := by simpa using rs
    have hal : PySem.W.AlikeAll (d :: ds) := ⟨fun x hx y hy => allAl_of o2 x hx y hy, fun x hx z => by
      have := List.all_eq_true.mp o3 x hx
      rw [z] at this
      cases this⟩
    refine PySem.W.min_list_data (I.ok.hd hc) pl.isList rs' hal (by omega) fun i v h' tk bs hi rd hk => ?_
    have hi' : its[i]? = some v := by simpa using hi
    have hil : i < its.length := (List.getElem?_eq_some_iff.mp hi').1
    obtain ⟨w, hw⟩ : ∃ w, vs[i]? = some w := ⟨_, List.getElem?_eq_getElem (by rw [rv.length]; exact hil)⟩
    obtain ⟨u, hu', ru⟩ := rv.get hw
    rw [hi'] at hu'
    cases hu'
    obtain ⟨dw, hdw, rw'⟩ := ra.get' hw
    have I2 : Inv X pins σ H { s with heap := h', toks := tk } := I.kept fun b o e => hk b o e
    have pdw := plain_mem' p2 (List.mem_of_getElem? hdw)
    obtain ⟨as2, rd2⟩ := rw'.reads I2 l pdw ru
    have e := reads_plain_uniq pdw (plain_mem' p2 (minD_mem d ds)) rd2 rd
    exact ⟨w, H, I2, ru, q w (by show Rep X.K X.mg τ G w (PySem.W.minD d ds); rw [← e]; exact rw')⟩
theorem cd_min : CallD X (rMinP X) (arg1 gMin) := cd_one fun τ n H G v d E Q st tw rx h => by
  cases rx with
  | lst ha qa =>
    obtain ⟨hz, h⟩ := Post.need h
    exact ⟨τ, G, _, _, _, rfl, st.le, ha, qa, hz, fun w rw' => Post.ret h st tw rw'⟩
  | _ => exact (show False from h).elim
theorem x_min (hc : X.calm = true) (hu : X.A.units + 64 < cLine) (hm : X.mg "min" = none) (ha : PA X [e] (cA X.K X.mg E fs)) (hg : Gl X "min" := by rfl) (he : starEach (e :: []) X.env = (false, eval e X.env) :: starEach [] X.env := by rfl) (hpl : (backTo pos (starEach [] X.env)).any (·.1) = false := by rfl) :
    PE X (.Call (.Name "min" p) [e] [] pos) (cT X.K X.mg E (eCall (arg1 gMin) fs)) := x_callB (cr_minP hc hu) cd_min hg hm (by decide +kernel) ha (he := he) (hpl := hpl)
end
/-! ### names, by xs.pop(); two names at once -/
def sPop (i : Nat) (pt : Pat) : MS := fun ρ => match ρ.at i with
  | .ow ds => do let d ← ofOpt ds[ds.length - 1]?; let ρ' ← ofOpt (patSet pt d (ρ.set i (.ow ds.dropLast))); pure (ρ', .nx)
  | _ => bad
def sPar (i j : Nat) (fs : Mi.Env → M (List D)) : MS := fun ρ => do
  let ds ← fs ρ
  match ds with
  | [d, e] => pure ((ρ.set i (.fz d)).set j (.fz e), .nx)
  | _ => bad
section
variable {X : Cx} {E : XK} {pos cpos apos p2 : Pos} {e tg a b : Expr} {i j : Nat} {x y : Str} {pt : Pat} {fs : Mi.Env → M (List D)} {fe fa fb : Mi.Env → M D} {fc : Mi.Env → M Bool}
theorem Reps.dropLast {K : PySem.W.Frag} {mg : Str → Option Value} {τ : Option Addr} {G : Hp} {vs : List V} {ds : List D} (r : Reps K mg τ G vs ds) : Reps K mg τ G vs.dropLast ds.dropLast := by
  rw [List.dropLast_eq_take, List.dropLast_eq_take, r.length]
  exact r.take _
theorem s_pop (hv : PE X (.Name x p2) (tVar i)) (hg : PG X tg (gPat X.K pt)) (hbase : attributeBase (.Name x p2) "pop" X.env (eval (.Name x p2) X.env) = eval (.Name x p2) X.env := by rfl) (hline : (apos.endLine == cpos.line) = true := by rfl)
    (hs : swapsWithSole [tg] (.Call (.Attribute (.Name x p2) "pop" apos) [] [] cpos) pos.line X.env = pure false := by rfl) (hw : swappedStores [tg] (.Call (.Attribute (.Name x p2) "pop" apos) [] [] cpos) X.env = pure none := by rfl)
    (h1 : (assignEach [tg] X.env).map (·.2) = [assign tg X.env] := by rfl) : PS X (.Assign [tg] (.Call (.Attribute (.Name x p2) "pop" apos) [] [] cpos) pos) (cS X.K X.mg E (sPop i pt)) :=
  ps_mono (ps_asg (pe_bm0 (cpos := cpos) PySem.F.plainAttrs_list PySem.F.slot_list_pop PySem.F.type_list_pop mt_pop hv hbase hline) hg hs hw h1) fun Dn σ H ⟨τ, H0, G0, G, ρ, n, R, h⟩ => by
    unfold sPop at h
    cases q : ρ.at i with
    | ow ds =>
      rw [q] at h
      obtain ⟨d, ed, h⟩ := PostS.opt h
      obtain ⟨ρ', eρ, h⟩ := PostS.opt h
      obtain ⟨a, vs, e1, ha, ra⟩ := R.ow q
      obtain ⟨v, ev, rv⟩ := ra.get ed
      refine ⟨_, e1, .inl ⟨rfl, _, .inl (.inl ha)⟩, a, vs, v, rfl, rfl, ha, by rw [ra.length]; exact ev, ?_⟩
      exact gPat_of (R.mutL q e1 ra.dropLast) rv eρ fun ws R2 => PostS.ret h R2
    | _ =>
      rw [q] at h
      exact (show False from h).elim
theorem s_par {px py pt' : Pos} {kt k2 : Nat} {pt2 : Pos} (hc : X.calm = true) (hN : X.N.Nodup) (hi : X.N[i]? = some x) (hj : X.N[j]? = some y) (hij : i ≠ j)
    (hx : X.env.scope.names.lookup x = some .local) (hy : X.env.scope.names.lookup y = some .local) (ha : PA X [a, b] (cA X.K X.mg (kE E) fs))
    (hw : swappedStores [.Tuple [.Name x px, .Name y py] kt pt'] (.Tuple [a, b] k2 pt2) X.env = pure (some [x, y]) := by rfl)
    (hs : swapsWithSole [.Tuple [.Name x px, .Name y py] kt pt'] (.Tuple [a, b] k2 pt2) pos.line X.env = pure false := by rfl) :
    PS X (.Assign [.Tuple [.Name x px, .Name y py] kt pt'] (.Tuple [a, b] k2 pt2) pos) (cS X.K X.mg E (sPar i j fs)) :=
  ps_mono (ps_par hc hN hi hj hij hx hy ha hw hs) fun Dn σ H ⟨τ, H0, G0, G, ρ, n, R, h⟩ => ⟨τ, H0, G0, G, ρ, n, R, Post.mono (fun vs H1 ⟨ds, n1, G1, R1, s, r, h1⟩ => by
    cases r with
    | nil => exact (show False from h1).elim
    | cons r1 r =>
      cases r with
      | nil => exact (show False from h1).elim
      | cons r2 r =>
        cases r with
        | nil => exact ⟨_, _, rfl, PostS.ret h1 ((R1.set i r1).set j r2)⟩
        | cons _ _ => exact (show False from h1).elim) (PostS.expr (rep := Reps X.K X.mg τ) R h)⟩
end
/-! ### a try whose body is a tree of assignments to one name -/
section
variable {X : Cx} {E : L2.St → XK} {pos : Pos} {c : Expr} {sa sb : List Stmt} {i : Nat} {fa fb : Mi.Env → M D} {fc : Mi.Env → M Bool}
theorem tree_if (hc : PT X c (cB X.K X.mg E fc)) (ha : PSs X sa (tAsg (cT X.K X.mg E fa) (gName i))) (hb : PSs X sb (tAsg (cT X.K X.mg E fb) (gName i))) : PSs X [.If c sa sb pos] (tAsg (cT X.K X.mg E (eIf fc fa fb)) (gName i)) :=
  pss_mono (pss_one (ps_if hc ha hb)) fun Dn σ H ⟨τ, H0, G0, G, ρ, n, R, h⟩ => ⟨τ, H0, G0, G, ρ, n, R, Post.mono (fun b H1 ⟨b', n1, G1, st, tw, r, h1⟩ => by
    have r : b = b' := r
    subst r
    have R1 := R.next st tw
    cases b with
    | true => exact ⟨τ, H0, G0, G1, ρ, n1, R1, h1⟩
    | false => exact ⟨τ, H0, G0, G1, ρ, n1, R1, h1⟩) (Post.bind (rep := fun _ b c => b = c) h)⟩
theorem tree_set {x : Str} {e : Expr} {px : Pos} (hN : X.N.Nodup) (hi : X.N[i]? = some x) (hl : X.env.scope.names.lookup x = some .local) (he : PE X e (cT X.K X.mg E fa)) (hs : swapsWith e (some (.Name x px)) pos.line X.env = pure false := by rfl) :
    PSs X [.Assign [.Name x px] e pos] (tAsg (cT X.K X.mg E fa) (gName i)) := pss_one (ps_set hN hi (.inl hl) he hs (.inr hl))
end
section
variable {X : Cx} {E : XK} {x n z : Str} {c : Value} {i j iy : Nat} {body : List Stmt} {np pz pe pa pos pos' : Pos} {names : List Str} {fe : Mi.Env → M D}
/-- as s_try, the body any list of statements that comes to one assignment -/
theorem s_tryT (hs : X.stack = X.env :: X.outer) (hf : X.env.frame = some X.env.locals) (hex : X.ex = []) (hN : X.N.Nodup) (hi : X.N[i]? = some n) (hln : X.env.kindOf n = some .local) (hc : Names X x c)
    (hx : ∀ c', ranked names c' = true → ∀ C, X.mg c' = some (.ref C) → PySem.W.exmOne X.K (.ref C) c = some true)
    (hsu : ∀ (a : Addr) (pn : List (Addr × Obj)), PSs (X.suite a pn) [.Assign [.Name z pz] (.Name n pe) pa] (tAsg (tVar i) (gName j)))
    (hb : ∀ (W : WX) (pn : List (Addr × Obj)) (xe : Value → Shared → Prop), Takes (X.tr pn xe) W → PSs (X.tr pn xe) body (tAsg (cT X.K X.mg (WE W) fe) (gName iy))) :
    PS X (.Try body [.ExceptHandler (some (.Name x np)) (some n) [.Assign [.Name z pz] (.Name n pe) pa] pos'] [] [] pos) (cS X.K X.mg E (sTry names iy i j fe)) :=
  ps_mono (ps_try_keep (tb := fun W => tAsg (cT X.K X.mg (WE W) fe) (gName iy)) hs hf hex hN hi hln hc hsu fun W pn xe tk _ => hb W pn xe tk) fun Dn σ H ⟨τ, H0, G0, G, ρ, k, R, h⟩ => by
    refine ⟨τ, H0, G0, G, ρ, k, R, ?_⟩
    unfold sTry at h
    cases q : fe ρ k with
    | ok d k' =>
      rw [q] at h
      exact fun v H' G' st tw r => h _ H' G' ((R.next st tw).set iy r) st.sub
    | err c' k' =>
      rw [q] at h
      dsimp only at h
      by_cases hr : ranked names c' = true
      · rw [if_pos hr] at h
        intro C H' hm kp tw
        refine ⟨hx c' hr C hm, rfl, fun a na => ?_⟩
        have st : Step τ H G H' G := ⟨kp, fun _ _ e => e, fun _ _ e => .inl e, fun b u g => by
          have nb : some b ≠ τ := fun w => by
            rw [R.nt b w.symm] at g
            cases g
          rcases R.le b u g with w | ⟨l, o, w⟩
          · exact .inl (kp b _ w nb)
          · exact .inr ⟨l, o, kp b _ w nb⟩, R.nt⟩
        have R1 := R.next st tw
        have st2 : Step τ H' G (upd H' a (ExcO (.ref C) a)) (upd G a (ExcO (.ref C) a)) := Step.fresh R1.le R1.nt tw.ne na
        have R2 := R1.next st2 (tw.upd na)
        have rx : Rep X.K X.mg τ (upd G a (ExcO (.ref C) a)) (.ref a) (excD c') := .exc hm upd_same
        exact h _ _ _ (((R2.set i rx).set j rx).gone i) (fun b u e => st2.sub b u e)
      · rw [if_neg hr] at h
        exact h.elim
    | bad =>
      rw [q] at h
      exact h.elim
end
end Mi

end

section
set_option Elab.async false
set_option linter.all false
set_option maxRecDepth 100000
set_option maxHeartbeats 4000000
namespace Mi
open PySem PySem.Spec L2
/-! ### name = [a fresh list for ..]: a list of lists of the name's own -/
def compL2 (pat : D → Option Mi.Env) (tt : Mi.Env → M Bool) (fe : Mi.Env → M (List D)) : List D → List (List D) → M (List (List D))
  | [], acc => pure acc
  | d :: r, acc => do
    let ρ' ← ofOpt (pat d)
    let b ← noErr (tt ρ')
    if b = true then do
      let y ← noErr (fe ρ')
      need (decide (acc.length < sizeLine))
      compL2 pat tt fe r (acc ++ [y])
    else compL2 pat tt fe r acc
def sOwn2C (i : Nat) (fi : Mi.Env → M (List D)) (p : Pat) (own : List Nat) (tt : Mi.Env → M Bool) (fe : Mi.Env → M (List D)) : MS := fun ρ => do
  let ds ← fi ρ
  let dss ← compL2 (fun d => patSet p d (wipeE ρ own)) tt fe ds []
  need (decide (i < ρ.length))
  pure (ρ.set i (.ow2 dss), .nx)
section
variable {K : PySem.W.Frag} {mg : Str → Option Value} {τ : Option Addr} {H0 G0 G H H1 G1 : Hp} {σ : L2.St} {ρ : Mi.Env} {n n1 : Nat}
theorem PostS.bindNo {α β : Type} {E : XK} {Dn : Ends} {rep : Hp → β → α → Prop} {m : M α} {g : α → M (Mi.Env × Fl)} (h : PostS K mg τ H0 G0 G E ((noErr m >>= g) n) Dn) :
    Post mg τ H1 G1 (fun _ _ _ => False) rep (m n) fun x H2 => ∃ a n2 G2, Step τ H1 G1 H2 G2 ∧ Town τ n2 H2 ∧ rep G2 x a ∧ PostS K mg τ H0 G0 G E (g a n2) Dn := by
  have h' : PostS K mg τ H0 G0 G E (M.bnd (noErr m) g n) Dn := h
  unfold M.bnd noErr at h'
  cases e : m n with
  | ok a k =>
    rw [e] at h'
    exact fun v H' G' s t p => ⟨a, k, G', s, t, p, h'⟩
  | err c k =>
    rw [e] at h'
    exact h'.elim
  | bad =>
    rw [e] at h'
    exact h'.elim
theorem PostS.bindNoF {E : XK} {Dn : Ends} {m : M (List D)} {g : List D → M (Mi.Env × Fl)} (h : PostS K mg τ H0 G0 G E ((noErr m >>= g) n) Dn) :
    PostF K mg τ H1 G1 (fun _ _ _ => False) (m n) fun x H2 => ∃ ds n2 G2 p vs, Step τ H1 G1 H2 G2 ∧ Town τ n2 H2 ∧ x = .ref p ∧ H1 p = none ∧ H2 p = some (.lst vs) ∧ G2 p = none ∧ Reps K mg τ G2 vs ds ∧ PostS K mg τ H0 G0 G E (g ds n2) Dn := by
  have h' : PostS K mg τ H0 G0 G E (M.bnd (noErr m) g n) Dn := h
  unfold M.bnd noErr at h'
  cases e : m n with
  | ok a k =>
    rw [e] at h'
    exact fun p vs H' G' s t e1 e2 e3 r => ⟨a, k, G', p, vs, s, t, rfl, e1, e2, e3, r, h'⟩
  | err c k =>
    rw [e] at h'
    exact h'.elim
  | bad =>
    rw [e] at h'
    exact h'.elim
end
section
variable {X : Cx} {E : XK} {i : Nat} {p : Pat} {fi : Mi.Env → M (List D)} {tt : Mi.Env → M Bool} {fe : Mi.Env → M (List D)}
theorem lc2_step {Dn : Ends} {σ : L2.St} {H : Hp} {vs : List Nat} (hp : ∀ i ∈ p.slots, i ∈ vs) (h : cS X.K X.mg E (sOwn2C i fi p vs tt fe) Dn σ H) : tAsg (tLc (cI X.K X.mg (kE E) fi) (gPat X.K p) (cB X.K X.mg E0s tt) (cF X.K X.mg E0s fe) vs) (gName i) Dn σ H := by
  obtain ⟨τ, H0, G0, G, ρ, n, R, h⟩ := h
  refine ⟨τ, H0, G0, G, ρ, n, R, Post.mono (fun J H1 => ?_) (PostS.expr (rep := Yields X.K X.mg τ) R h)⟩
  rintro ⟨ds, n1, G1, R1, s1, ys, h1⟩
  have tw := R1.town
  intro A hA
  have hneτ : some A ≠ τ := fun z => tw.ne A z.symm hA
  refine ⟨fun k m H2 => m = ds.length - k ∧ k ≤ ds.length ∧ ∃ G2 n2 bs dss, Step τ H1 G1 H2 G2 ∧ Town τ n2 H2 ∧ H2 A = some (.lst (bs.map V.ref)) ∧ G2 A = none ∧ Rows2 X.K X.mg τ G2 H2 bs dss ∧ bs.Nodup ∧ A ∉ bs ∧ (∀ b ∈ bs, H1 b = none ∧ G2 b = none ∧ some b ≠ τ) ∧
    PostS X.K X.mg τ H0 G0 G1 E ((compL2 (fun d => patSet p d (wipeE ρ vs)) tt fe (ds.drop k) dss >>= fun dss => need (decide (i < ρ.length)) >>= fun _ => pure (ρ.set i (.ow2 dss), .nx)) n2) Dn,
    ⟨ds.length, by simp, Nat.zero_le _, G1, n1, [], [], Step.other R1.le R1.nt hA, tw.upd hA, upd_same, R1.le.none hA, .nil, .nil, by simp, (fun _ h => nomatch h), h1⟩, ?_⟩
  rintro k m H2 ⟨rfl, hk, G2, n2, bs, dss, st2, tw2, hD, gD, rr, nd, nb, fr, h2⟩
  have R2 := R1.next st2 tw2
  obtain ⟨yg, yy, ye⟩ := ys k G2 H2 n2 st2.sub st2.le st2.nt tw2
  have keep : ∀ {Ha Ga Hb Gb : Hp} {c : Addr} {av : List V}, some c ≠ τ → Step τ Ha Ga Hb Gb → Ha c = some (.lst av) → Ga c = none → Hb c = some (.lst av) ∧ Gb c = none := fun {Ha Ga Hb Gb c av} hc s e1 e2 => by
    refine ⟨s.keep _ _ e1 hc, ?_⟩
    cases q : Gb c with
    | none => rfl
    | some u =>
      rcases s.new _ _ q with w | w
      · rw [e2] at w; cases w
      · rw [e1] at w; cases w
  have rows : ∀ {Ha Ga Hb Gb : Hp} {dss : List (List D)}, Step τ Ha Ga Hb Gb → Rows2 X.K X.mg τ Ga Ha bs dss → (∀ b ∈ bs, Ga b = none) → Rows2 X.K X.mg τ Gb Hb bs dss ∧ ∀ b ∈ bs, Gb b = none := fun {Ha Ga Hb Gb dss} s r f => by
    refine ⟨r.sub s.sub fun c hc o q => s.keep c o q (fr c hc).2.2, fun b hb => ?_⟩
    obtain ⟨av, e⟩ := r.at b hb
    exact (keep (fr b hb).2.2 s e (f b hb)).2
  by_cases hlt : k < ds.length
  · refine .inr ⟨yg hlt, fun H3 => ∃ m', m' = ds.length - (k + 1) ∧ k + 1 ≤ ds.length ∧ ∃ G2 n2 bs dss, Step τ H1 G1 H3 G2 ∧ Town τ n2 H3 ∧ H3 A = some (.lst (bs.map V.ref)) ∧ G2 A = none ∧ Rows2 X.K X.mg τ G2 H3 bs dss ∧ bs.Nodup ∧ A ∉ bs ∧ (∀ b ∈ bs, H1 b = none ∧ G2 b = none ∧ some b ≠ τ) ∧
      PostS X.K X.mg τ H0 G0 G1 E ((compL2 (fun d => patSet p d (wipeE ρ vs)) tt fe (ds.drop (k + 1)) dss >>= fun dss => need (decide (i < ρ.length)) >>= fun _ => pure (ρ.set i (.ow2 dss), .nx)) n2) Dn, fun H3 ⟨m', h1, h2⟩ => ⟨m', by omega, h1, h2⟩, fun x H3 hy => ?_⟩
    have ed : ds[k]? = some ds[k] := List.getElem?_eq_getElem hlt
    obtain ⟨G3, st3, tw3, rx⟩ := yy x H3 _ ed hy
    have R3 := (R2.next st3 tw3).wipe vs
    rw [List.drop_eq_getElem_cons hlt] at h2
    obtain ⟨hD3, gD3⟩ := keep hneτ st3 hD gD
    obtain ⟨rr3, fr3⟩ := rows st3 rr fun b hb => (fr b hb).2.1
    unfold compL2 at h2
    rw [bnd_bnd] at h2
    obtain ⟨ρ', eρ, h2⟩ := PostS.opt h2
    rw [bnd_bnd] at h2
    refine gPat_of R3 rx eρ fun ws R3 => ⟨wipe_pat hp, ?_⟩
    refine ⟨τ, H0, G0, G3, ρ', n2, R3, Post.mono (fun b H4 => ?_) (PostS.bindNo (rep := fun _ b c => b = c) h2)⟩
    rintro ⟨b', n4, G4, st4, tw4, rfl, h4⟩
    have R4 := R3.next st4 tw4
    obtain ⟨hD4, gD4⟩ := keep hneτ st4 hD3 gD3
    obtain ⟨rr4, fr4⟩ := rows st4 rr3 fr3
    have st24 := (st2.trans st3).trans st4
    cases b with
    | false =>
      rw [if_neg Bool.false_ne_true]
      exact ⟨_, rfl, hlt, G4, n4, bs, dss, st24, tw4, hD4, gD4, rr4, nd, nb, fun b hb => ⟨(fr b hb).1, fr4 b hb, (fr b hb).2.2⟩, h4⟩
    | true =>
      rw [if_pos rfl]
      rw [if_pos rfl, bnd_bnd] at h4
      refine ⟨τ, H0, G0, G4, ρ', n4, R4, PostF.mono (fun y H5 => ?_) (PostS.bindNoF h4)⟩
      rintro ⟨es, n5, G5, q, wsV, st5, tw5, rfl, eq1, eq2, eq3, rq, h5⟩
      obtain ⟨hD5, gD5⟩ := keep hneτ st5 hD4 gD4
      obtain ⟨rr5, fr5⟩ := rows st5 rr4 fr4
      rw [bnd_bnd] at h5
      obtain ⟨hz, h5⟩ := PostS.need h5
      have st25 := st24.trans st5
      have qA : q ≠ A := fun z => by rw [z, hD4] at eq1; cases eq1
      have qbs : q ∉ bs := fun hm => by
        obtain ⟨av, e⟩ := rr4.at q hm
        rw [eq1] at e
        cases e
      have qH1 : H1 q = none := by
        cases e : H1 q with
        | none => rfl
        | some o =>
          by_cases z : some q = τ
          · have := tw4 q z.symm
            rw [eq1] at this
            cases this
          · have := st24.keep q o e z
            rw [eq1] at this
            cases this
      have qτ : some q ≠ τ := fun z => tw4.ne q z.symm eq1
      refine ⟨bs.map V.ref, hD5, by rw [List.length_map, rr5.len]; exact of_decide_eq_true hz, _, rfl, hlt, G5, n5, bs ++ [q], dss ++ [es], ⟨fun b o e ne => ?_, st25.sub, st25.new, fun a u e => ?_, st25.nt⟩, fun a e => ?_, ?_, gD5, ?_, ?_, ?_, ?_, h5⟩
      · have nbA : b ≠ A := by
          rintro rfl
          rw [hA] at e
          cases e
        rw [upd_ne nbA]
        exact st25.keep b o e ne
      · have nbA : a ≠ A := by
          rintro rfl
          rw [gD5] at e
          cases e
        rw [upd_ne nbA]
        exact st25.le a u e
      · have nbA : a ≠ A := by
          rintro rfl
          exact hneτ e.symm
        rw [upd_ne nbA]
        exact tw5 a e
      · rw [upd_same, List.map_append]
        rfl
      · refine Rows2.snoc (rr5.sub (fun _ _ e => e) fun c hc o e => ?_) ?_ rq
        · rw [upd_ne (fun z : c = A => nb (z ▸ hc))]
          exact e
        · rw [upd_ne qA]
          exact eq2
      · rw [List.nodup_append]
        exact ⟨nd, by simp, fun x hx y hy z => qbs (by have : y = q := by simpa using hy
                                                       rw [← this, ← z]; exact hx)⟩
      · intro hm
        rcases List.mem_append.mp hm with hm | hm
        · exact nb hm
        · exact qA (by simpa using Eq.symm (List.mem_singleton.mp hm))
      · intro b hb
        rcases List.mem_append.mp hb with hb | hb
        · exact ⟨(fr b hb).1, fr5 b hb, (fr b hb).2.2⟩
        · rw [List.mem_singleton.mp hb]
          exact ⟨qH1, eq3, qτ⟩
  · have e : k = ds.length := by omega
    subst e
    refine .inl ⟨ye (Nat.le_refl _), ?_⟩
    rw [List.drop_length] at h2
    unfold compL2 at h2
    obtain ⟨hz, h3⟩ := PostS.need h2
    have hi : i < ρ.length := of_decide_eq_true hz
    have R2' := R1.next st2 tw2
    have h0A : H0 A = none ∧ ∀ b ∈ bs, H0 b = none := by
      have z : ∀ c, H1 c = none → some c ≠ τ → H0 c = none := fun c hc nt => by
        cases q : H0 c with
        | none => rfl
        | some o =>
          have := R1.step.keep c o q nt
          rw [hc] at this
          cases this
      exact ⟨z A hA hneτ, fun b hb => z b (fr b hb).1 (fr b hb).2.2⟩
    have nc : ∀ c, H1 c = none → ∀ j, ¬ CellOf H2 σ[j]? (ρ.at j) c := fun c hc j d => R1.notCell hc j (cell_step st2 (R1.slots j) (fun a c => (R1.cell j a c).2.2) c d)
    have hs : i < σ.length := by rw [← R1.len]; exact hi
    have cells : ∀ c, CellOf H2 (some (some (V.ref A))) (.ow2 dss) c → c = A ∨ c ∈ bs := fun c d => by
      rcases d with d | ⟨r, bs', e, h', hm⟩
      · cases d; exact .inl rfl
      · cases e
        rw [hD] at h'
        cases refs_inj h'
        exact .inr hm
    have fin : Rel X.K X.mg τ H0 G0 G2 H2 (σ.set i (some (.ref A))) (ρ.set i (.ow2 dss)) n2 := by
      refine ⟨R2'.step, R2'.town, by simp [R2'.len], fun j => ?_, fun j a c => ?_, fun j l a c d => ?_⟩
      · rw [at_set, sig_set hs]
        by_cases h : j = i
        · rw [if_pos h, if_pos ⟨h, hi⟩]
          exact ⟨A, bs, rfl, hD, nd, nb, rr⟩
        · rw [if_neg h, if_neg (fun z => h z.1)]
          exact R2'.slots j
      · rw [at_set, sig_set hs] at c
        by_cases h : j = i
        · rw [if_pos h, if_pos ⟨h, hi⟩] at c
          rcases cells a c with rfl | hm
          · exact ⟨gD, h0A.1, hneτ⟩
          · exact ⟨(fr a hm).2.1, h0A.2 a hm, (fr a hm).2.2⟩
        · rw [if_neg h, if_neg (fun z => h z.1)] at c
          exact R2'.cell j a c
      · rw [at_set, sig_set hs] at c d
        have none1 : ∀ a, (a = A ∨ a ∈ bs) → H1 a = none := fun a h => h.elim (fun e => e ▸ hA) fun h => (fr a h).1
        by_cases h : j = i
        · rw [if_pos h, if_pos ⟨h, hi⟩] at c
          by_cases h2 : l = i
          · rw [h, h2]
          · rw [if_neg h2, if_neg (fun z => h2 z.1)] at d
            exact (nc a (none1 a (cells a c)) l d).elim
        · rw [if_neg h, if_neg (fun z => h z.1)] at c
          by_cases h2 : l = i
          · rw [if_pos h2, if_pos ⟨h2, hi⟩] at d
            exact (nc a (none1 a (cells a d)) j c).elim
          · rw [if_neg h2, if_neg (fun z => h2 z.1)] at d
            exact R2'.apart j l a c d
    exact PostS.ret (PostS.shift st2.sub h3) fin
theorem s_own2Lc {y : Str} {py : Pos} {elt tg iter : Expr} {ifs : List Expr} {scope : Scope} {own : List (Str × Nat)} {pos spos : Pos} (hc : X.calm = true) (hN : X.N.Nodup) (hy : X.N[i]? = some y) (hyl : X.env.scope.names.lookup y = some .local)
    (hi : PI X tg iter (cI X.K X.mg (kE E) fi)) (ok : BlkOk X.N X.env.scope scope own)
    (hg : ∀ (s : Shared) (H : Hp) (C : Addr) (cl : List (Str × Addr)) (fp : List Addr), PG (X.blk s H scope (compEnvC scope cl C X.env) fp) tg (gPat X.K p))
    (ht : ∀ (s : Shared) (H : Hp) (C : Addr) (cl : List (Str × Addr)) (fp : List Addr), PTs (X.blk s H scope (compEnvC scope cl C X.env) fp) ifs (cB X.K X.mg E0s tt))
    (he : ∀ (s : Shared) (H : Hp) (C : Addr) (cl : List (Str × Addr)) (fp : List Addr), PE (X.blk s H scope (compEnvC scope cl C X.env) fp) elt (cF X.K X.mg E0s fe))
    (hsw : swapsWith (.ListComp elt [⟨tg, iter, ifs, 0⟩] scope pos) (some (.Name y py)) spos.line X.env = pure true := by rfl)
    (hp : ∀ i ∈ p.slots, i ∈ own.map (·.2) := by decide) (hs : ∀ x, foldedSetIterable iter X.env x = pure x := by intro _; rfl) :
    PS X (.Assign [.Name y py] (.ListComp elt [⟨tg, iter, ifs, 0⟩] scope pos) spos) (cS X.K X.mg E (sOwn2C i fi p (own.map (·.2)) tt fe)) :=
  ps_mono (ps_setLc hc hN hy hyl hsw hi ok hg ht he hs) fun _ _ _ h => lc2_step hp h
end
end Mi

end

section
set_option Elab.async false
set_option linter.all false
set_option maxRecDepth 100000
set_option maxHeartbeats 4000000
namespace Mi
open PySem PySem.Spec L2
section
variable {X : Cx} {E : XK} {i j : Nat} {p : Pat} {fi : Mi.Env → M (List D)} {tt : Mi.Env → M Bool} {fe : Mi.Env → M (List D)} {fd fa fb : Mi.Env → M D} {y x : Str} {py : Pos} {elt tg iter a b : Expr} {ifs : List Expr} {scope : Scope} {own : List (Str × Nat)} {pos spos cpos apos p2 : Pos}
/-- as s_own2Lc, the name a cell -/
theorem s_own2LcC (hc : X.calm = true) (hN : X.N.Nodup) (hy : X.N[i]? = some y) (hx : Loc X.env.scope y)
    (hi : PI X tg iter (cI X.K X.mg (kE E) fi)) (ok : BlkOk X.N X.env.scope scope own)
    (hg : ∀ (s : Shared) (H : Hp) (C : Addr) (cl : List (Str × Addr)) (fp : List Addr), PG (X.blk s H scope (compEnvC scope cl C X.env) fp) tg (gPat X.K p))
    (ht : ∀ (s : Shared) (H : Hp) (C : Addr) (cl : List (Str × Addr)) (fp : List Addr), PTs (X.blk s H scope (compEnvC scope cl C X.env) fp) ifs (cB X.K X.mg E0s tt))
    (he : ∀ (s : Shared) (H : Hp) (C : Addr) (cl : List (Str × Addr)) (fp : List Addr), PE (X.blk s H scope (compEnvC scope cl C X.env) fp) elt (cF X.K X.mg E0s fe))
    (hsw : swapsWith (.ListComp elt [⟨tg, iter, ifs, 0⟩] scope pos) (some (.Name y py)) spos.line X.env = pure false := by rfl)
    (hp : ∀ i ∈ p.slots, i ∈ own.map (·.2) := by decide) (hs : ∀ x, foldedSetIterable iter X.env x = pure x := by intro _; rfl)
    (hf : X.fn y = true ∨ X.env.scope.names.lookup y = some .local := by first | exact .inl rfl | exact .inr rfl) :
    PS X (.Assign [.Name y py] (.ListComp elt [⟨tg, iter, ifs, 0⟩] scope pos) spos) (cS X.K X.mg E (sOwn2C i fi p (own.map (·.2)) tt fe)) :=
  ps_mono (ps_set hN hy hx (pe_lc hc hN hi ok hg ht he hs) hsw hf) fun _ _ _ h => lc2_step hp h
/-- name = [.. for ..] on one line, a name's own list borrowed for it -/
theorem s_setLcB (hc : X.calm = true) (hN : X.N.Nodup) (hy : X.N[i]? = some y) (hyl : X.env.scope.names.lookup y = some .local)
    (hi : PI X tg iter (cI X.K X.mg (kE E) fi)) (ok : BlkOk X.N X.env.scope scope own)
    (hg : ∀ (s : Shared) (H : Hp) (C : Addr) (cl : List (Str × Addr)) (fp : List Addr), PG (X.blk s H scope (compEnvC scope cl C X.env) fp) tg (gPat X.K p))
    (ht : ∀ (s : Shared) (H : Hp) (C : Addr) (cl : List (Str × Addr)) (fp : List Addr), PTs (X.blk s H scope (compEnvC scope cl C X.env) fp) ifs (cB X.K X.mg E0s tt))
    (he : ∀ (s : Shared) (H : Hp) (C : Addr) (cl : List (Str × Addr)) (fp : List Addr), PE (X.blk s H scope (compEnvC scope cl C X.env) fp) elt (cT X.K X.mg E0s fd))
    (hsw : swapsWith (.ListComp elt [⟨tg, iter, ifs, 0⟩] scope pos) (some (.Name y py)) spos.line X.env = pure true := by rfl)
    (hp : ∀ i ∈ p.slots, i ∈ own.map (·.2) := by decide) (hs : ∀ x, foldedSetIterable iter X.env x = pure x := by intro _; rfl) :
    PS X (.Assign [.Name y py] (.ListComp elt [⟨tg, iter, ifs, 0⟩] scope pos) spos) (cS X.K X.mg E (sSet i (eL (lBo j (lComp fi p (own.map (·.2)) tt fd))))) :=
  ps_mono (ps_setLc hc hN hy hyl hsw hi ok hg ht he hs) fun _ _ _ h => lc_step hp (lbo_step (fz_step (set_step h)))
/-- x.insert(a, b) -/
def sIns (i : Nat) (fa fb : Mi.Env → M D) : MS := fun ρ => match ρ.at i with
  | .ow ds => do
    let a ← fa ρ
    let d ← fb ρ
    let k ← ofOpt (optI a)
    need (decide (ds.length < sizeLine ∧ 0 ≤ k ∧ k < 2 ^ 63))
    pure (ρ.set i (.ow (ds.take k.toNat ++ d :: ds.drop k.toNat)), .nx)
  | _ => bad
theorem s_ins (hv : PE X (.Name x p2) (tVar i)) (ha : PE X a (cT X.K X.mg (kE E) fa)) (hb : PE X b (cT X.K X.mg (kE E) fb)) (hbase : attributeBase (.Name x p2) "insert" X.env (eval (.Name x p2) X.env) = eval (.Name x p2) X.env := by rfl)
    (hfew : ((backTo cpos (starEach (a :: [b]) X.env)).all (fun x => !x.1) && (backToKw cpos (keywordEach [] X.env)).all (fun x => x.1.isSome)
      && decide ((a :: [b]).length + ([] : List Keyword).length + (if ([] : List Keyword).isEmpty then 0 else 1) < 30)) = true := by rfl)
    (hline : (apos.endLine == cpos.line) = true := by rfl) (hs1 : starEach (a :: [b]) X.env = (false, eval a X.env) :: starEach [b] X.env := by rfl) (hs2 : starEach (b :: []) X.env = (false, eval b X.env) :: starEach [] X.env := by rfl)
    (hpl : (backTo cpos (starEach [b] X.env)).any (·.1) = false := by rfl)
    (hs : swapsWith (.Call (.Attribute (.Name x p2) "insert" apos) [a, b] [] cpos) none pos.line X.env = pure false := by rfl) :
    PS X (.Expr (.Call (.Attribute (.Name x p2) "insert" apos) [a, b] [] cpos) pos) (cS X.K X.mg E (sIns i fa fb)) :=
  ps_mono (ps_expr (pe_bm (cpos := cpos) PySem.F.plainAttrs_list PySem.F.slot_list_insert PySem.F.type_list_insert mt_insert hv (pa_cons ha (pa_cons hb pa_nil hs2) hs1) hbase hfew hline hs1 hpl) hs) fun Dn σ H ⟨τ, H0, G0, G, ρ, n, R, h⟩ => by
    unfold sIns at h
    cases q : ρ.at i with
    | ow ds =>
      rw [q] at h
      obtain ⟨l, vs, e1, hl, rl⟩ := R.ow q
      refine ⟨_, e1, .inl ⟨rfl, _, .inl (.inl hl)⟩, τ, H0, G0, G, ρ, n, R, Post.mono (fun v H1 ⟨d1, n1, G1, R1, s, r, h1⟩ => ?_) (PostS.expr (rep := Rep X.K X.mg τ) R h)⟩
      refine ⟨τ, H0, G0, G1, ρ, n1, R1, Post.mono (fun w H2 ⟨d2, n2, G2, R2, s2, r2, h2⟩ => ?_) (PostS.expr (rep := Rep X.K X.mg τ) R1 h1)⟩
      obtain ⟨k, ek, h3⟩ := PostS.opt h2
      obtain ⟨hz, h4⟩ := PostS.need h3
      have hz : ds.length < sizeLine ∧ 0 ≤ k ∧ k < 2 ^ 63 := of_decide_eq_true hz
      rw [optI_eq ek] at r
      cases rep_int r
      obtain ⟨l2, vs2, e2, hl2, rl2⟩ := R2.ow q
      rw [e1] at e2
      cases e2
      refine ⟨l, vs2, k, w, rfl, rfl, hl2, by rw [rl2.length]; exact hz.1, hz.2.1, hz.2.2, ?_⟩
      have rr : Reps X.K X.mg τ G2 (vs2.take k.toNat ++ [w] ++ vs2.drop k.toNat) (ds.take k.toNat ++ d2 :: ds.drop k.toNat) := by
        rw [List.append_assoc]
        exact (rl2.take _).append (.cons r2 (rl2.drop _))
      exact PostS.ret h4 (R2.mutL q e1 rr)
    | _ =>
      rw [q] at h
      exact (show False from h).elim
end
end Mi

end

section
set_option Elab.async false
set_option linter.all false
set_option maxRecDepth 100000
set_option maxHeartbeats 4000000
namespace Mi
open PySem PySem.Spec L2
/-! ### len(set(xs)), xs a list of tuples of ints -/
def onceR : List (List Int) → List (List Int)
  | [] => []
  | k :: r => if k ∈ onceR r then onceR r else k :: onceR r
theorem mem_onceR {k : List Int} : ∀ {l : List (List Int)}, k ∈ onceR l ↔ k ∈ l
  | [] => Iff.rfl
  | m :: r => by
    unfold onceR
    split
    · rename_i h
      rw [mem_onceR (l := r), List.mem_cons]
      exact ⟨.inr, fun z => z.elim (fun e => by rw [e]; exact mem_onceR.mp h) id⟩
    · rw [List.mem_cons, List.mem_cons, mem_onceR (l := r)]
theorem onceR_nodup : ∀ l : List (List Int), (onceR l).Nodup
  | [] => List.nodup_nil
  | m :: r => by
    unfold onceR
    split
    · exact onceR_nodup r
    · rename_i h
      exact List.nodup_cons.mpr ⟨h, onceR_nodup r⟩
def rowI : D → Option (List Int)
  | .tuple ds => intsOf ds
  | _ => none
def rowsI : List D → Option (List (List Int))
  | [] => some []
  | d :: r => match rowI d, rowsI r with
    | some b, some bs => some (b :: bs)
    | _, _ => none
def eLenP (fa : Mi.Env → M D) : Mi.Env → M D := fun ρ => do
  let x ← fa ρ
  let ds ← ofOpt (asL x)
  let ks ← ofOpt (rowsI ds)
  need (decide (ks.length < 60))
  pure (.int (onceR ks).length)
theorem reps_prs {K : PySem.W.Frag} {mg : Str → Option Value} {τ : Option Addr} {G H : Hp} (l : Le G H) : ∀ {ds : List D} {vs : List V} {ks : List (List Int)}, rowsI ds = some ks → Reps K mg τ G vs ds → ∃ ps : List (Addr × List Int), vs = ps.map (fun p => V.ref p.1) ∧ ks = ps.map (·.2) ∧ ∀ p ∈ ps, SqT K H p.1 (p.2.map V.int)
  | [], _, ks, h, .nil => by
    cases h
    exact ⟨[], rfl, rfl, fun _ z => nomatch z⟩
  | d :: r, _, ks, h, .cons hd hr => by
    unfold rowsI at h
    cases e1 : rowI d with
    | none => rw [e1] at h; cases h
    | some b =>
      cases e2 : rowsI r with
      | none => rw [e1, e2] at h; cases h
      | some bs =>
        rw [e1, e2] at h
        cases h
        obtain ⟨ps, rfl, rfl, hp⟩ := reps_prs l e2 hr
        unfold rowI at e1
        cases hd with
        | tup ha qa =>
          have e1 : intsOf _ = some b := e1
          rw [intsOf_eq e1] at qa
          cases reps_ints qa
          exact ⟨(_, b) :: ps, rfl, rfl, fun p hm => by
            rcases List.mem_cons.mp hm with e | hm
            · subst e
              exact sqt_le l ha
            · exact hp p hm⟩
        | _ => cases e1
section
variable {X : Cx} {E : L2.St → XK} {a b e : Expr} {fa fb fc : Mi.Env → M D} {fs ls : Mi.Env → M (List D)} {p p2 q pos cpos apos : Pos} {ta : TE}
def tLenP (K : PySem.W.Frag) (ta : TE) : TE := fun σ H Q => ta σ H fun x H1 => ∃ (l : Addr) (ks : List (Addr × List Int)), x = V.ref l ∧ SqL K H1 l (ks.map fun p => V.ref p.1) ∧ (∀ p ∈ ks, SqT K H1 p.1 (p.2.map V.int)) ∧ ks.length < 60 ∧ Q (.int (onceR (ks.map (·.2))).length) H1
theorem pe_lenP (hc : X.calm = true) (hu : X.A.units + 64 < cLine) (hg : Gl X "len") (hm : X.mg "len" = none) (hg2 : Gl X "set") (hm2 : X.mg "set" = none) (ha : PE X a ta)
    (na : starEach [a] X.env = (false, eval a X.env) :: starEach [] X.env := by rfl) : PE X (.Call (.Name "len" p) [.Call (.Name "set" p2) [a] [] q] [] pos) (tLenP X.K ta) := by
  refine ⟨fun pins s σ H Q I h => ?_⟩
  refine PyProof.Rows.Call_ (ld_blt I hg hm PySem.boot_len ?_)
  refine PyProof.Rows.callWith_builtin1 (PyProof.Rows.args_cons ?_ rfl) rfl rfl
  refine PyProof.Rows.Call_ (ld_blt I hg2 hm2 PyProof.Rows.boot_set ?_)
  refine PyProof.Rows.callWith_type1 (PyProof.Rows.args_cons (thn (ha.run pins s σ H _ I h) fun v s1 ⟨x, H1, I1, r1, q1⟩ => PyProof.Rows.args_nil ?_) na) na rfl
  obtain ⟨l, ks, rfl, hl, hk, hf, q1⟩ := q1
  cases r1
  obtain ⟨its, rv, pl, hz⟩ := I1.list hl
  refine call_set_tups (P := X.prog) (w := X.w) ks (I1.ok.hd hc) pl.isList (by simpa using refs_of_vals rv) (fun p hp => I1.isT (hk p hp)) (by omega) (by omega) fun h' tk L es ep t R g k => ?_
  refine PyProof.Rows.args_nil ?_
  have I2 : Inv X pins σ H1 { s1 with heap := h', toks := tk } := I1.kept fun b o e => k b o e
  have hfit : t.fits es.size = true := SetTR.fits (s := { s1 with heap := h', toks := tk }) R
  have hsz : es.size = L.length := SetTR.size (s := { s1 with heap := h', toks := tk }) R
  have hfew := R.few
  have hlen : L.length = (onceR (ks.map (·.2))).length := by
    have perm : (L.map (·.2)).Perm (onceR (ks.map (·.2))) := (List.perm_ext_iff_of_nodup R.nd (onceR_nodup _)).mpr fun r => by
      rw [mem_onceR]
      constructor
      · intro h
        obtain ⟨p, hp, rfl⟩ := List.mem_map.mp h
        exact List.mem_map.mpr ⟨p, List.mem_of_mem_take (g.sub p hp), rfl⟩
      · intro h
        obtain ⟨p, hp, rfl⟩ := List.mem_map.mp h
        exact g.all p (by rw [List.take_length]; exact hp)
    have := perm.length_eq
    rw [List.length_map] at this
    exact this
  obtain ⟨o, ho, hex, hd⟩ := R.ob
  refine call_len_set ho hex hd hfit (by rw [hsz]; omega) ⟨.int (onceR (ks.map (·.2))).length, H1, (I2.tok _).tok _, ⟨_, by rw [hsz, hlen]⟩, q1⟩
theorem x_lenP (hc : X.calm = true) (hu : X.A.units + 64 < cLine) (hm : X.mg "len" = none) (hm2 : X.mg "set" = none) (ha : PE X a (cT X.K X.mg E fa)) (hg : Gl X "len" := by rfl) (hg2 : Gl X "set" := by rfl) (na : starEach [a] X.env = (false, eval a X.env) :: starEach [] X.env := by rfl) :
    PE X (.Call (.Name "len" p) [.Call (.Name "set" p2) [a] [] q] [] pos) (cT X.K X.mg E (eLenP fa)) :=
  pe_mono (pe_lenP hc hu hg hm hg2 hm2 ha na) fun σ H Q ⟨τ, H0, G0, G, ρ, n, R, h⟩ => ⟨τ, H0, G0, G, ρ, n, R, Post.mono (fun x H1 ⟨d, n1, G1, st, tw, r, h1⟩ => by
    obtain ⟨ds, ed, h2⟩ := Post.opt h1
    obtain ⟨ks, ek, h3⟩ := Post.opt h2
    obtain ⟨hz, h4⟩ := Post.need h3
    rw [asL_eq ed] at r
    cases r with
    | lst hA qa =>
      obtain ⟨ps, rfl, rfl, hp⟩ := reps_prs st.le ek qa
      have hz := of_decide_eq_true hz
      rw [List.length_map] at hz
      exact ⟨_, ps, rfl, .inl (.inl (st.le.list hA)), hp, hz, Post.ret h4 (R.next st tw).refl tw (.int _)⟩) (Post.bind (rep := Rep X.K X.mg τ) h)⟩
end
end Mi

end

section
set_option Elab.async false
set_option linter.all false
set_option maxRecDepth 100000
set_option maxHeartbeats 4000000
/-! ## Mi23: what never comes -/
namespace Mi
open PySem PySem.Spec L2
def eBad : Mi.Env → M D := fun _ => bad
section
variable {X : Cx} {E : L2.St → XK} {e : Expr}
theorem x_bad : PE X e (cT X.K X.mg E eBad) := ⟨fun pins s σ H Q I h => by
  obtain ⟨τ, H0, G0, G, ρ, n, R, h⟩ := h
  exact (show False from h).elim⟩
end
/-- a tuple times a number -/
def dRepT : D → D → M D
  | .tuple xs, .int k => do need (decide (1 ≤ xs.length ∧ 2 ≤ k ∧ k ≤ 1000 ∧ xs.length ≤ 1000)); pure (.tuple (List.replicate k.toNat xs).flatten)
  | _, _ => bad
section
variable {X : Cx}
theorem od_repT : OpD X (rRepT X.K) dRepT := by
  intro τ n H G x y dx dy E Q st tw rx ry h
  cases rx with
  | tup ha qa =>
    cases ry with
    | int k =>
      obtain ⟨hz, h⟩ := Post.need h
      have hz := of_decide_eq_true hz
      have hl := qa.length
      refine ⟨_, k, _, rfl, rfl, sqt_le st.le ha, fun e => ?_, hz.2.1, hz.2.2.1, by omega, Post.newT h st tw (reps_rep qa _)⟩
      subst e
      have : (0 : Nat) = _ := hl
      omega
    | _ => exact (show False from h).elim
  | _ => exact (show False from h).elim
theorem x_repT {E : L2.St → XK} {a b : Expr} {pos : Pos} {fa fb : Mi.Env → M D} (ha : PE X a (cT X.K X.mg E fa)) (hb : PE X b (cT X.K X.mg E fb)) : PE X (.BinOp a .Mult b pos) (cT X.K X.mg E (e2 dRepT fa fb)) := x_op op_repT od_repT ha hb
end
/-! list(a text) -/
section
variable {X : Cx} {E : L2.St → XK} {e : Expr} {pos : Pos} {fs : Mi.Env → M (List D)}
def chs (z : Str) : List Str := z.cps.toList.map fun n => ⟨#[n]⟩
theorem vals_chs {its : List Value} {z : Str} (h : its.length = z.cps.toList.length) (hi : ∀ (j : Nat) (v : Value), its[j]? = some v → ∃ c u, z.cps.toList[j]? = some c ∧ v = Value.str ⟨#[c]⟩ u) : Vals ((chs z).map V.str) its := by
  unfold chs
  generalize z.cps.toList = cs at h hi
  induction its generalizing cs with
  | nil =>
    cases cs with
    | nil => exact .nil
    | cons _ _ => cases h
  | cons v r ih =>
    cases cs with
    | nil => cases h
    | cons c cs =>
      obtain ⟨c', u, e1, e2⟩ := hi 0 v rfl
      cases e1
      exact .cons ⟨u, e2⟩ (ih cs (Nat.succ.inj h) fun j w hw => hi (j + 1) w hw)
theorem call_list_ofS (hc : X.calm = true) : CallR X (.type "list") (fun xs H Q => ∃ z, xs = [.str z] ∧ z.cps.size ≤ sizeLine ∧ ∀ l, H l = none → Q (.ref l) (upd H l (.lst ((chs z).map V.str)))) := by
  intro pins s σ H xs us Q I r h
  obtain ⟨z, rfl, hz, q⟩ := h
  obtain ⟨u, rfl, t, rfl⟩ := vals1 r
  refine call_list_str (I.ok.hd hc) z t (hn := hz) fun h' tk acc' c' hk hS hacc => ?_
  have hv : Vals ((chs z).map V.str) acc'.toList := vals_chs (by rw [Array.length_toList, hacc.1, Array.length_toList]) fun j v hj => by
    obtain ⟨c, u, e1, e2⟩ := hacc.2 j v (by rw [← Array.getElem?_toList]; exact hj)
    exact ⟨c, u, by rw [Array.getElem?_toList]; exact e1, e2⟩
  refine ⟨.ref s.heap.objs.size, _, I.laid (t' := tk) hk (Nat.le_refl _) (show ObjOk X.prog X.w _ h' _ (.lst ((chs z).map V.str)) from ⟨?_, acc'.toList, c', hv, by simpa using hS⟩), rfl, q _ (I.hok.fresh (Nat.le_refl _))⟩
  rw [hv.length, Array.length_toList, hacc.1]
  exact hz
def gListS : D → M (List D)
  | .str z => do need (decide (z.cps.size ≤ sizeLine)); pure ((chs z).map .str)
  | _ => bad
theorem reps_strs {K : PySem.W.Frag} {mg : Str → Option Value} {τ : Option Addr} {G : Hp} : ∀ zs : List Str, Reps K mg τ G (zs.map V.str) (zs.map PyData.str)
  | [] => .nil
  | z :: r => .cons (.str z) (reps_strs r)
theorem cf_listS : CallF X (fun xs H Q => ∃ z, xs = [.str z] ∧ z.cps.size ≤ sizeLine ∧ ∀ l, H l = none → Q (.ref l) (upd H l (.lst ((chs z).map V.str)))) (arg1 gListS) := cf_one fun τ n H G v d E Q st tw rx h => by
  cases rx with
  | str z =>
    obtain ⟨hz, h⟩ := PostF.need h
    exact ⟨z, rfl, of_decide_eq_true hz, PostF.ret h st tw (reps_strs _)⟩
  | _ => exact (show False from h).elim
theorem l_listS {p : Pos} (hc : X.calm = true) (hm : X.mg "list" = none) (ha : PA X [e] (cA X.K X.mg E fs)) (hg : Gl X "list" := by rfl) (he : starEach (e :: []) X.env = (false, eval e X.env) :: starEach [] X.env := by rfl) (hpl : (backTo pos (starEach [] X.env)).any (·.1) = false := by rfl) :
    PE X (.Call (.Name "list" p) [e] [] pos) (cF X.K X.mg E (lCall (arg1 gListS) fs)) := l_callTy (call_list_ofS hc) cf_listS hg hm (by decide +kernel) ha (he := he) (hpl := hpl)
end
end Mi

end

section
set_option Elab.async false
set_option linter.all false
set_option maxRecDepth 100000
set_option maxHeartbeats 4000000
/-! ## Mi24: sep.join(list of texts) -/
namespace Mi
open PySem PySem.Spec L2
def strOf : D → Option Str
  | .str z => some z
  | _ => none
theorem strOf_eq {d : D} {z : Str} (h : strOf d = some z) : d = .str z := by
  unfold strOf at h
  split at h <;> cases h
  rfl
def strsOf : List D → Option (List Str)
  | [] => some []
  | d :: r => match strOf d, strsOf r with
    | some b, some bs => some (b :: bs)
    | _, _ => none
theorem strsOf_eq : ∀ {ds : List D} {bs : List Str}, strsOf ds = some bs → ds = bs.map PyData.str
  | [], _, h => by cases h; rfl
  | d :: r, bs, h => by
    unfold strsOf at h
    cases e1 : strOf d with
    | none => rw [e1] at h; cases h
    | some b =>
      cases e2 : strsOf r with
      | none => rw [e1, e2] at h; cases h
      | some bs' =>
        rw [e1, e2] at h
        cases h
        rw [strsOf_eq e2, strOf_eq e1]
        rfl
theorem reps_strV {K : PySem.W.Frag} {mg : Str → Option Value} {τ : Option Addr} {G : Hp} : ∀ {bs : List Str} {vs : List V}, Reps K mg τ G vs (bs.map PyData.str) → vs = bs.map V.str
  | [], _, .nil => rfl
  | b :: bs, _, .cons h r => by
    cases h
    rw [reps_strV r]
    rfl
theorem vals_strs : ∀ {ys : List Str} {its : List Value}, Vals (ys.map V.str) its → ∃ l : List (Str × Tok), its = strValues l ∧ l.map (·.1) = ys
  | [], _, .nil => ⟨[], rfl, rfl⟩
  | y :: ys, _, .cons h r => by
    obtain ⟨t, rfl⟩ := h
    obtain ⟨l, rfl, rfl⟩ := vals_strs r
    exact ⟨(y, t) :: l, rfl, rfl⟩
def eJoin (fa fb : Mi.Env → M D) : Mi.Env → M D := fun ρ => do
  let x ← fa ρ
  let a ← ofOpt (strOf x)
  let y ← fb ρ
  let ds ← ofOpt (asL y)
  let ys ← ofOpt (strsOf ds)
  need (JoinOk a ys)
  pure (.str (Txt.join a ys))
section
variable {X : Cx} {E : L2.St → XK} {a b e : Expr} {fa fb fc : Mi.Env → M D} {p p2 q pos cpos apos : Pos}
def rJoinL (K : PySem.W.Frag) : V → List V → Hp → VK → Prop := fun x xs H Q => ∃ (a : Str) (q : Addr) (ys : List Str), x = .str a ∧ xs = [.ref q] ∧ SqL K H q (ys.map V.str) ∧ JoinOk a ys = true ∧ Q (.str (Txt.join a ys)) H
theorem mt_joinL : MtR X "str.join" (rJoinL X.K) := by
  rintro pins s σ H x xs v us Q I rx rv ⟨a, q, ys, rfl, rfl, hq, hz, hQ⟩
  obtain ⟨u, rfl, ru⟩ := rv.one
  cases ru
  obtain ⟨t, rfl⟩ := rx
  obtain ⟨its, r, pl, hl⟩ := I.list hq
  obtain ⟨l, rfl, hl2⟩ := vals_strs r
  exact PySem.SC.join pl.isList hl2 hz fun t' k => ⟨.str _, H, I.tok k, ⟨t', rfl⟩, hQ⟩
theorem join_step {σ : L2.St} {H : Hp} {Q : VK} (h : cT X.K X.mg E (eJoin fa fb) σ H Q) :
    tBM X.K "str" (rJoinL X.K) (cT X.K X.mg E fa) (tCons (cT X.K X.mg E fb) tNil) σ H Q := by
  obtain ⟨τ, H0, G0, G, ρ, n, R, h⟩ := h
  refine ⟨τ, H0, G0, G, ρ, n, R, Post.mono (fun x H1 ⟨d, n1, G1, st, tw, r, h1⟩ => ?_) (Post.bind (rep := Rep X.K X.mg τ) h)⟩
  obtain ⟨a, ed, h2⟩ := Post.opt h1
  rw [strOf_eq ed] at r
  cases r with
  | str z =>
    have R1 := R.next st tw
    refine ⟨rfl, τ, H0, G0, G1, ρ, n1, R1, Post.mono (fun y H2 ⟨dy, n2, G2, st2, tw2, ry, h3⟩ => ?_) (Post.bind (rep := Rep X.K X.mg τ) h2)⟩
    obtain ⟨ds, e1, h4⟩ := Post.opt h3
    obtain ⟨ys, e2, h5⟩ := Post.opt h4
    obtain ⟨hz, h6⟩ := Post.need h5
    rw [asL_eq e1, strsOf_eq e2] at ry
    cases ry with
    | lst hA qa =>
      cases reps_strV qa
      exact ⟨_, _, ys, rfl, rfl, .inl (.inl (st2.le.list hA)), hz, Post.ret h6 (R1.next st2 tw2).refl tw2 (.str _)⟩
theorem x_join (ha : PE X a (cT X.K X.mg E fa)) (hb : PE X b (cT X.K X.mg E fb)) (hbase : attributeBase a "join" X.env (eval a X.env) = eval a X.env := by rfl)
    (hfew : ((backTo cpos (starEach (b :: []) X.env)).all (fun x => !x.1) && (backToKw cpos (keywordEach [] X.env)).all (fun x => x.1.isSome)
      && decide ((b :: []).length + ([] : List Keyword).length + (if ([] : List Keyword).isEmpty then 0 else 1) < 30)) = true := by rfl)
    (hline : (apos.endLine == cpos.line) = true := by rfl) (hs1 : starEach (b :: []) X.env = (false, eval b X.env) :: starEach [] X.env := by rfl) :
    PE X (.Call (.Attribute a "join" apos) [b] [] cpos) (cT X.K X.mg E (eJoin fa fb)) :=
  pe_mono (pe_bm (cpos := cpos) PySem.F.plainAttrs_str PySem.F.slot_str_join PySem.F.type_str_join mt_joinL ha (pa_cons hb pa_nil hs1) hbase hfew hline hs1) fun σ H Q h => join_step h
end
end Mi

end

section
set_option Elab.async false
set_option linter.all false
set_option maxRecDepth 100000
set_option maxHeartbeats 4000000
/-! ## Mi25: dict(zip(texts, values)) -/
namespace Mi
open PySem PySem.Spec L2
def zipKV (ks : List Str) (ys : List V) : List (Key × V) := (ks.map Sum.inr).zip ys
theorem vals_keys : ∀ {ks : List Str} {its : List Value} {i : Nat} {key : Value}, Vals (ks.map V.str) its → its[i]? = some key → ∃ z, ks[i]? = some z ∧ keyIs (.inr z) key = true
  | [], _, i, key, .nil, h => by cases i <;> cases h
  | k :: ks, _, 0, key, .cons h r, e => by
    obtain ⟨t, rfl⟩ := h
    cases e
    exact ⟨k, rfl, by show Value.isStrOf k (.str k t) = true; simp [Value.isStrOf]⟩
  | k :: ks, _, i + 1, key, .cons (l₂ := l2) h r, e => by
    obtain ⟨z, e1, e2⟩ := vals_keys (ks := ks) (its := l2) (i := i) (key := key) r (by simpa using e)
    exact ⟨z, by simpa using e1, e2⟩
theorem kv_zip : ∀ {ks : List Str} {ys : List V} {its : List Value}, Vals ys its → KV (zipKV ks ys) ((ks.map Sum.inr).zip its)
  | [], _, _, _ => .nil
  | _ :: _, _, _, .nil => .nil
  | k :: ks, _, _, .cons h r => .cons ⟨rfl, h⟩ (kv_zip r)
section
variable {X : Cx} {E : L2.St → XK} {a b : Expr} {p p2 pos pos2 : Pos} {ta : TA}
def tDZ (K : PySem.W.Frag) (ta : TA) : TE := fun σ H Q => ta σ H fun vs H1 => ∃ (a b : Addr) (ks : List Str) (ys : List V), vs = [.ref a, .ref b] ∧ SqL K H1 a (ks.map V.str) ∧ SqL K H1 b ys ∧ ks.length = ys.length ∧ ks.Nodup ∧ ∀ q, H1 q = none → Q (.ref q) (upd H1 q (.dK (zipKV ks ys)))
theorem pe_dictzip (hc : X.calm = true) (hg : Gl X "dict") (hm : X.mg "dict" = none) (hg2 : Gl X "zip") (hm2 : X.mg "zip" = none) (ha : PA X [a, b] ta)
    (hs : starEach [a, b] X.env = (false, eval a X.env) :: starEach [b] X.env := by rfl) (hpl : (backTo pos2 (starEach [b] X.env)).any (·.1) = false := by rfl) :
    PE X (.Call (.Name "dict" p) [.Call (.Name "zip" p2) [a, b] [] pos2] [] pos) (tDZ X.K ta) := by
  refine ⟨fun pins s σ H Q I h => ?_⟩
  refine PyProof.Rows.Call_ (ld_blt I hg hm PyProof.Rows.boot_dict ?_)
  refine PyProof.Rows.callWith_type1 (PyProof.Rows.args_cons ?_ rfl) rfl rfl
  refine PyProof.Rows.Call_ (ld_blt I hg2 hm2 PyProof.Rows.boot_zip (PyProof.Rows.callWith_type1 (thn (ha.run pos2 pins s σ H _ I h) fun us s1 ⟨vs, H1, I1, r1, q1⟩ => ?_) hs hpl))
  obtain ⟨l1, l2, ks, ys, rfl, h1, h2, hl, hn, q⟩ := q1
  cases r1 with
  | cons r rr =>
    cases rr with
    | cons r' rr =>
      cases rr
      cases r
      cases r'
      obtain ⟨its, rv, p1, z1⟩ := I1.list h1
      obtain ⟨its2, rv2, p2', z2⟩ := I1.list h2
      have la : l1 < s1.heap.objs.size := p1.lt
      have lb : l2 < s1.heap.objs.size := p2'.lt
      refine call_zip_2 p1.isList p2'.isList fun h' hz hTI hTO hi1 hi2 hsz hk => ?_
      refine PyProof.Rows.args_nil ?_
      have e1 : its.length = ks.length := by have := rv.length; rw [List.length_map] at this; exact this.symm
      have e2 : its2.length = ys.length := rv2.length.symm
      have hkl : ((ks.map Sum.inr : List Key).zip its2).length = min its.toArray.size its2.toArray.size := by
        rw [List.length_zip, List.length_map, List.size_toArray, List.size_toArray, e1]
      have hnd : (((ks.map Sum.inr : List Key).zip its2).map (·.1)).Nodup := by
        rw [List.map_fst_zip (by rw [List.length_map]; omega)]
        rw [List.Nodup, List.pairwise_map]
        exact hn.imp fun {x y} hxy e => hxy (Sum.inr.inj e)
      refine PySem.call_dict_pairs (knd := mixKind X.prog X.w) (kvs := (ks.map Sum.inr : List Key).zip its2) (PairArg.zip (s1.heap.objs.size + 4) (s1.heap.objs.size + 2) (s1.heap.objs.size + 3) s1.heap.objs.size (s1.heap.objs.size + 1) l1 l2 (PySem.W.ktu_apart s1.heap.objs.size l1 l2 la lb) its.toArray its2.toArray) (I1.ok.hd hc)
        ⟨hz, hTI, ⟨_, _, hTO⟩, hi1, hi2, p1.isList.at fun o e => hk _ o e, p2'.isList.at fun o e => hk _ o e⟩ ⟨hkl, fun i key v ⟨ex, ey⟩ => ?_⟩ (by rw [List.size_toArray, List.size_toArray]; have := z2; omega) fun h'' tk hd hk2 => ?_
      · obtain ⟨z, ez, hkz⟩ := vals_keys rv (by simpa using ex)
        refine ⟨.inr z, ?_, hkz⟩
        rw [List.getElem?_zip_eq_some]
        exact ⟨by rw [List.getElem?_map, ez]; rfl, by simpa using ey⟩
      · rw [PySem.merged_nil_of_nodup _ hnd] at hd
        have hge : s1.heap.objs.size ≤ h'.objs.size := by omega
        have hkeep : ∀ c o, s1.heap.get? c = some o → h''.get? c = some o := fun c o e => hk2 c o (fun hm => by
          have := Heap.lt_size e
          simp only [List.mem_cons, List.not_mem_nil, or_false] at hm
          rcases hm with e' | e' | e' | e'
          · rw [e'] at this; exact Nat.not_lt_of_ge (Nat.le_add_right _ _) this
          · rw [e'] at this; exact Nat.not_lt_of_ge (Nat.le_add_right _ _) this
          · rw [e'] at this; exact Nat.lt_irrefl _ this
          · rw [e'] at this; exact Nat.not_lt_of_ge (Nat.le_add_right _ _) this) (hk c o e)
        refine ⟨.ref h'.objs.size, upd H1 h'.objs.size (.dK (zipKV ks ys)), I1.laid (t' := tk) hkeep hge (show ObjOk X.prog X.w _ h'' _ (.dK (zipKV ks ys)) from ⟨?_, ?_, _, kv_zip rv2, hd⟩), rfl, q _ (I1.hok.fresh hge)⟩
        · unfold zipKV
          rw [List.length_zip, List.length_map]
          omega
        · exact beq_eq_false_iff_ne.mpr (Nat.ne_of_gt (Nat.lt_of_lt_of_le I1.big hge))
end
end Mi
namespace Mi
open PySem PySem.Spec L2
section
variable {K : PySem.W.Frag} {mg : Str → Option Value} {τ : Option Addr} {H G : Hp} {E : XK} {Q : VK} {n : Nat}
theorem Post.newK {kvs : List (Key × V)} {ps : List (D × D)} (h : Post mg τ H G E (Rep K mg τ) ((pure (.dict ps) : M D) n) Q) (st : Step τ H G H G) (tw : Town τ n H) (r : RepK K mg τ G kvs ps) : ∀ p, H p = none → Q (.ref p) (upd H p (.dK kvs)) := fun p hp =>
  have s := Step.fresh (o := .dK kvs) st.le st.nt tw.ne hp
  h _ _ _ s (tw.upd hp) (.dk (.inl upd_same) (RepK.sub s.sub r))
theorem repK_zip : ∀ {ks : List Str} {vs : List V} {ds : List D}, Reps K mg τ G vs ds → RepK K mg τ G (zipKV ks vs) (zipK (ks.map Sum.inr) ds)
  | [], _, _, _ => .nil
  | _ :: _, _, _, .nil => .nil
  | k :: ks, _, _, .cons h r => .cons h (repK_zip r)
end
def gDZ : List D → M D
  | [.list xs, .list ys] => do
    let ks ← ofOpt (strsOf xs)
    need (decide (ks.length = ys.length ∧ ks.Nodup))
    pure (.dict (zipK (ks.map Sum.inr) ys))
  | _ => bad
def eDZ (fs : Mi.Env → M (List D)) : Mi.Env → M D := fun ρ => do let ds ← fs ρ; gDZ ds
section
variable {X : Cx} {E : L2.St → XK} {a b : Expr} {p p2 pos pos2 : Pos} {fs : Mi.Env → M (List D)}
theorem x_dictzip (hc : X.calm = true) (hm : X.mg "dict" = none) (hm2 : X.mg "zip" = none) (ha : PA X [a, b] (cA X.K X.mg E fs)) (hg : Gl X "dict" := by rfl) (hg2 : Gl X "zip" := by rfl)
    (hs : starEach [a, b] X.env = (false, eval a X.env) :: starEach [b] X.env := by rfl) (hpl : (backTo pos2 (starEach [b] X.env)).any (·.1) = false := by rfl) :
    PE X (.Call (.Name "dict" p) [.Call (.Name "zip" p2) [a, b] [] pos2] [] pos) (cT X.K X.mg E (eDZ fs)) :=
  pe_mono (pe_dictzip hc hg hm hg2 hm2 ha hs hpl) fun σ H Q ⟨τ, H0, G0, G, ρ, n, R, h⟩ => ⟨τ, H0, G0, G, ρ, n, R, Post.mono (fun vs H1 ⟨ds, n1, G1, st, tw, r, h1⟩ => by
    cases r with
    | nil => exact (show False from h1).elim
    | cons r1 rr =>
      cases rr with
      | nil => cases r1 <;> exact (show False from h1).elim
      | cons r2 rr =>
        cases rr with
        | cons _ _ => cases r1 <;> cases r2 <;> exact (show False from h1).elim
        | nil =>
          cases r1 with
          | lst hA qa =>
            cases r2 with
            | lst hB qb =>
              obtain ⟨ks, e1, h2⟩ := Post.opt h1
              obtain ⟨hz, h3⟩ := Post.need h2
              have hz := of_decide_eq_true hz
              rw [strsOf_eq e1] at qa
              cases reps_strV qa
              exact ⟨_, _, ks, _, rfl, .inl (.inl (st.le.list hA)), .inl (.inl (st.le.list hB)), by rw [hz.1]; exact qb.length.symm, hz.2, Post.newK h3 (R.next st tw).refl tw (repK_zip qb)⟩
            | _ => exact (show False from h1).elim
          | _ => exact (show False from h1).elim) (Post.bind (rep := Reps X.K X.mg τ) h)⟩
end
end Mi
namespace Mi
open PySem PySem.Spec L2
/-! d[text] -/
def lookK (z : Str) : List (D × D) → Option D
  | [] => none
  | (.str y, d) :: r => if y = z then some d else lookK z r
  | (.int _, _) :: r => lookK z r
  | _ :: _ => none
def dIxK : D → D → M D
  | .dict ps, .str z => ofOpt (lookK z ps)
  | _, _ => bad
theorem lookK_rep {K : PySem.W.Frag} {mg : Str → Option Value} {τ : Option Addr} {G : Hp} {z : Str} : ∀ {kvs : List (Key × V)} {ps : List (D × D)} {d : D}, RepK K mg τ G kvs ps → lookK z ps = some d → ∃ v, valV kvs (Sum.inr z : Key) = some v ∧ Rep K mg τ G v d
  | [], _, d, .nil, h => by cases h
  | (.inl i, v) :: kvs, _, d, .cons r rr, h => by
    obtain ⟨w, e, rw'⟩ := lookK_rep rr h
    refine ⟨w, ?_, rw'⟩
    unfold valV at e ⊢
    rw [List.find?_cons_of_neg (by simp)]
    exact e
  | (.inr y, v) :: kvs, _, d, .cons r rr, h => by
    unfold lookK at h
    have h : (if y = z then some _ else lookK z _) = some d := h
    by_cases e : y = z
    · rw [if_pos e] at h
      cases h
      subst e
      refine ⟨v, ?_, r⟩
      unfold valV
      rw [List.find?_cons_of_pos (by simp)]
      rfl
    · rw [if_neg e] at h
      obtain ⟨w, e2, rw'⟩ := lookK_rep rr h
      refine ⟨w, ?_, rw'⟩
      unfold valV at e2 ⊢
      rw [List.find?_cons_of_neg (by simp; exact e)]
      exact e2
theorem lookK_no {K : PySem.W.Frag} {mg : Str → Option Value} {τ : Option Addr} {G : Hp} {z : Str} : ∀ {kvs : List (List Key × V)} {ps : List (D × D)} {d : D}, RepT K mg τ G kvs ps → lookK z ps = some d → False
  | _, _, d, .nil, h => by cases h
  | _, _, d, .cons r rr, h => by cases h
def rDG : R2 := fun x y H Q => ∃ a v, x = .ref a ∧ DGet H a y (some v) ∧ Q v H
section
variable {X : Cx} {E : L2.St → XK} {a b : Expr} {pos : Pos} {fa fb : Mi.Env → M D}
theorem od_ixK : OpD X rDG dIxK := by
  intro τ n H G x y dx dy E Q st tw rx ry h
  cases rx with
  | dk ha ra =>
    cases ry with
    | str z =>
      obtain ⟨d, e, h⟩ := Post.opt0 h
      obtain ⟨v, ev, rv⟩ := lookK_rep ra e
      exact ⟨_, v, rfl, .inl ⟨_, .inr z, st.le.rd ha, rfl, ev.symm⟩, Post.ret h st tw rv⟩
    | _ => exact (show False from h).elim
  | dt ha ra =>
    cases ry with
    | str z =>
      obtain ⟨d, e, h⟩ := Post.opt0 h
      exact (lookK_no ra e).elim
    | _ => exact (show False from h).elim
  | town _ => cases ry <;> exact (show False from h).elim
  | scr _ => cases ry <;> exact (show False from h).elim
  | exc _ _ => cases ry <;> exact (show False from h).elim
  | _ => exact (show False from h).elim
theorem x_ixK (hu : X.A.units + 64 < cLine) (ha : PE X a (cT X.K X.mg E fa)) (hb : PE X b (cT X.K X.mg E fb)) (hs : NoSl b := by exact fun _ _ => rfl) : PE X (.Subscript a b pos) (cT X.K X.mg E (e2 dIxK fa fb)) :=
  pe_mono (pe_dget (by omega) ha hb hs) fun _ _ _ h => op_step od_ixK h
end
end Mi

end

section
set_option Elab.async false
set_option linter.all false
set_option maxRecDepth 100000
set_option maxHeartbeats 4000000
/-! ## Mi26: text.index(text), text.split(text) -/
namespace Mi
open PySem PySem.Spec L2
def eIdxS (fa fb : Mi.Env → M D) : Mi.Env → M D := fun ρ => do
  let x ← fa ρ
  let a ← ofOpt (strOf x)
  let y ← fb ρ
  let b ← ofOpt (strOf y)
  let i ← ofOpt (Builtin.Str.occurrences a b 0 a.length 1).head?
  pure (.int (i : Nat))
def lSplit (fa fb : Mi.Env → M D) : Mi.Env → M (List D) := fun ρ => do
  let x ← fa ρ
  let a ← ofOpt (strOf x)
  let y ← fb ρ
  let b ← ofOpt (strOf y)
  need (decide ((b.length == 0) = false ∧ a.length + 2 ≤ sizeLine))
  pure ((Txt.split a b).map .str)
section
variable {X : Cx} {E : L2.St → XK} {a b e : Expr} {fa fb fc : Mi.Env → M D} {p p2 q pos cpos apos : Pos}
def rSI : V → List V → Hp → VK → Prop := fun x xs H Q => ∃ a b i rest, x = .str a ∧ xs = [.str b] ∧ Builtin.Str.occurrences a b 0 a.length 1 = i :: rest ∧ Q (.int (i : Nat)) H
theorem sindex_step {σ : L2.St} {H : Hp} {Q : VK} (h : cT X.K X.mg E (eIdxS fa fb) σ H Q) :
    tBM X.K "str" rSI (cT X.K X.mg E fa) (tCons (cT X.K X.mg E fb) tNil) σ H Q := by
  obtain ⟨τ, H0, G0, G, ρ, n, R, h⟩ := h
  refine ⟨τ, H0, G0, G, ρ, n, R, Post.mono (fun x H1 ⟨d, n1, G1, st, tw, r, h1⟩ => ?_) (Post.bind (rep := Rep X.K X.mg τ) h)⟩
  obtain ⟨a, ed, h2⟩ := Post.opt h1
  rw [strOf_eq ed] at r
  cases r with
  | str z =>
    have R1 := R.next st tw
    refine ⟨rfl, τ, H0, G0, G1, ρ, n1, R1, Post.mono (fun y H2 ⟨dy, n2, G2, st2, tw2, ry, h3⟩ => ?_) (Post.bind (rep := Rep X.K X.mg τ) h2)⟩
    obtain ⟨b, e1, h4⟩ := Post.opt h3
    obtain ⟨i, e2, h5⟩ := Post.opt h4
    rw [strOf_eq e1] at ry
    cases ry with
    | str w =>
      obtain ⟨rest, er⟩ : ∃ rest, Builtin.Str.occurrences a b 0 a.length 1 = i :: rest := by
        cases eo : Builtin.Str.occurrences a b 0 a.length 1 with
        | nil => rw [eo] at e2; cases e2
        | cons j rest =>
          rw [eo] at e2
          cases e2
          exact ⟨rest, rfl⟩
      exact ⟨_, _, i, rest, rfl, rfl, er, Post.ret h5 (R1.next st2 tw2).refl tw2 (.int _)⟩
theorem x_sindex (ha : PE X a (cT X.K X.mg E fa)) (hb : PE X b (cT X.K X.mg E fb)) (hbase : attributeBase a "index" X.env (eval a X.env) = eval a X.env := by rfl)
    (hfew : ((backTo cpos (starEach (b :: []) X.env)).all (fun x => !x.1) && (backToKw cpos (keywordEach [] X.env)).all (fun x => x.1.isSome)
      && decide ((b :: []).length + ([] : List Keyword).length + (if ([] : List Keyword).isEmpty then 0 else 1) < 30)) = true := by rfl)
    (hline : (apos.endLine == cpos.line) = true := by rfl) (hs1 : starEach (b :: []) X.env = (false, eval b X.env) :: starEach [] X.env := by rfl) :
    PE X (.Call (.Attribute a "index" apos) [b] [] cpos) (cT X.K X.mg E (eIdxS fa fb)) :=
  pe_mono (pe_bm (cpos := cpos) PySem.F.plainAttrs_str PySem.F.slot_str_index PySem.F.type_str_index mt_sindex ha (pa_cons hb pa_nil hs1) hbase hfew hline hs1) fun σ H Q h => sindex_step h
def rSplitS : V → List V → Hp → VK → Prop := fun x xs H Q => ∃ a b, x = .str a ∧ xs = [.str b] ∧ (b.length == 0) = false ∧ a.length + 2 ≤ sizeLine ∧ rNewStrs (Txt.split a b) H Q
theorem split_step {σ : L2.St} {H : Hp} {Q : VK} (h : cF X.K X.mg E (lSplit fa fb) σ H Q) :
    tBM X.K "str" rSplitS (cT X.K X.mg E fa) (tCons (cT X.K X.mg E fb) tNil) σ H Q := by
  obtain ⟨τ, H0, G0, G, ρ, n, R, h⟩ := h
  refine ⟨τ, H0, G0, G, ρ, n, R, Post.mono (fun x H1 ⟨d, n1, G1, st, tw, r, h1⟩ => ?_) (PostF.bind (rep := Rep X.K X.mg τ) h)⟩
  obtain ⟨a, ed, h2⟩ := PostF.opt h1
  rw [strOf_eq ed] at r
  cases r with
  | str z =>
    have R1 := R.next st tw
    refine ⟨rfl, τ, H0, G0, G1, ρ, n1, R1, Post.mono (fun y H2 ⟨dy, n2, G2, st2, tw2, ry, h3⟩ => ?_) (PostF.bind (rep := Rep X.K X.mg τ) h2)⟩
    obtain ⟨b, e1, h4⟩ := PostF.opt h3
    obtain ⟨hz, h5⟩ := PostF.need h4
    have hz := of_decide_eq_true hz
    rw [strOf_eq e1] at ry
    cases ry with
    | str w => exact ⟨_, _, rfl, rfl, hz.1, hz.2, fun q hq => PostF.ret h5 (R1.next st2 tw2).refl tw2 (reps_strs _) q hq⟩
theorem l_split (ha : PE X a (cT X.K X.mg E fa)) (hb : PE X b (cT X.K X.mg E fb)) (hbase : attributeBase a "split" X.env (eval a X.env) = eval a X.env := by rfl)
    (hfew : ((backTo cpos (starEach (b :: []) X.env)).all (fun x => !x.1) && (backToKw cpos (keywordEach [] X.env)).all (fun x => x.1.isSome)
      && decide ((b :: []).length + ([] : List Keyword).length + (if ([] : List Keyword).isEmpty then 0 else 1) < 30)) = true := by rfl)
    (hline : (apos.endLine == cpos.line) = true := by rfl) (hs1 : starEach (b :: []) X.env = (false, eval b X.env) :: starEach [] X.env := by rfl) :
    PE X (.Call (.Attribute a "split" apos) [b] [] cpos) (cF X.K X.mg E (lSplit fa fb)) :=
  pe_mono (pe_bm (cpos := cpos) PySem.F.plainAttrs_str PySem.F.slot_str_split PySem.F.type_str_split mt_split ha (pa_cons hb pa_nil hs1) hbase hfew hline hs1) fun σ H Q h => split_step h
end
end Mi

end

section
set_option Elab.async false
set_option linter.all false
set_option maxRecDepth 100000
set_option maxHeartbeats 4000000
/-! ## Mi27: for sign in text -/
namespace Mi
open PySem PySem.Spec L2
def signsM : D → M (List D)
  | .str z => pure ((chs z).map .str)
  | _ => bad
def iStrM (f : Mi.Env → M D) : Mi.Env → M (List D) := fun ρ => f ρ >>= signsM
theorem chs_get {z : Str} {i : Nat} {d : D} (h : ((chs z).map PyData.str)[i]? = some d) : ∃ c, z.cps[i]? = some c ∧ d = .str ⟨#[c]⟩ := by
  unfold chs at h
  rw [List.map_map, List.getElem?_map] at h
  cases e : z.cps.toList[i]? with
  | none => rw [e] at h; cases h
  | some c =>
    rw [e] at h
    cases h
    exact ⟨c, by rw [← Array.getElem?_toList]; exact e, rfl⟩
theorem chs_len (z : Str) : ((chs z).map PyData.str).length = z.cps.size := by
  unfold chs
  rw [List.length_map, List.length_map, Array.length_toList]
theorem yields_text {K : PySem.W.Frag} {mg : Str → Option Value} {τ : Option Addr} {G : Hp} (z : Str) : Yields K mg τ G (Its z) ((chs z).map PyData.str) := fun i Gc Hc m sub l nt tw => by
  rw [chs_len]
  refine ⟨fun hi => hi, fun x Hc' d hd y => ?_, fun hi => hi⟩
  obtain ⟨rfl, c, e1, rfl⟩ := y
  obtain ⟨c', e2, rfl⟩ := chs_get hd
  rw [e1] at e2
  cases e2
  exact ⟨Gc, Step.refl l nt, tw, .str _⟩
section
variable {X : Cx} {E : L2.St → XK} {tg iter : Expr} {fa : Mi.Env → M D}
theorem i_str (ha : PE X iter (cT X.K X.mg E fa)) : PI X tg iter (cI X.K X.mg E (iStrM fa)) :=
  pi_mono (pi_str ha) fun σ H Q ⟨τ, H0, G0, G, ρ, n, R, h⟩ => ⟨τ, H0, G0, G, ρ, n, R, Post.mono (fun x H1 ⟨d, n1, G1, st, tw, r, h1⟩ => by
    cases r with
    | str z => exact ⟨z, rfl, Post.ret h1 (R.next st tw).refl tw (yields_text z)⟩
    | _ => exact (show False from h1).elim) (Post.bind (rep := Rep X.K X.mg τ) h)⟩
end
end Mi

end

section
set_option Elab.async false
set_option linter.all false
set_option maxRecDepth 100000
set_option maxHeartbeats 4000000
/-! running the meanings -/
namespace Mi
open PySem PySem.Spec L2
def Res.bd {α β : Type} (r : Res α) (f : α → M β) : Res β := match r with
  | .ok a k => f a k
  | .err c k => .err c k
  | .bad => .bad
section
variable {α β : Type}
@[simp] theorem bnd_app (m : M α) (f : α → M β) (n : Nat) : (m >>= f) n = (m n).bd f := by
  show M.bnd m f n = _
  unfold M.bnd Res.bd
  cases m n <;> rfl
@[simp] theorem bd_ok (a : α) (k : Nat) (f : α → M β) : (Res.ok a k).bd f = f a k := rfl
@[simp] theorem bd_err (c : Str) (k : Nat) (f : α → M β) : (Res.err c k : Res α).bd f = .err c k := rfl
@[simp] theorem bd_bad (f : α → M β) : (Res.bad : Res α).bd f = .bad := rfl
@[simp] theorem pure_app (a : α) (n : Nat) : (pure a : M α) n = .ok a n := rfl
@[simp] theorem refuse_app (c : Str) (n : Nat) : (refuse c : M α) n = .err c n := rfl
@[simp] theorem bad_app (n : Nat) : (bad : M α) n = .bad := rfl
@[simp] theorem need_app (b : Bool) (n : Nat) : need b n = if b = true then .ok () n else .bad := by
  cases b <;> rfl
@[simp] theorem some_app (a : α) (n : Nat) : (ofOpt (some a) : M α) n = .ok a n := rfl
@[simp] theorem none_app (n : Nat) : (ofOpt none : M α) n = .bad := rfl
theorem noErr_app (m : M α) (n : Nat) : noErr m n = match m n with
  | .err _ _ => .bad
  | r => r := rfl
theorem noErr_ok {m : M α} {n k : Nat} {a : α} (h : m n = .ok a k) : noErr m n = .ok a k := by
  rw [noErr_app, h]
end
@[simp] theorem at_0 (s : Sl) (ρ : List Sl) : Env.at (s :: ρ) 0 = s := rfl
@[simp] theorem at_s (s : Sl) (ρ : List Sl) (i : Nat) : Env.at (s :: ρ) (i + 1) = Env.at ρ i := rfl
/-- a pure turn: nothing said to the town -/
theorem compL_ok {pat : D → Option Mi.Env} {tt : Mi.Env → M Bool} {fe : Mi.Env → M D} {n : Nat} {p : D → Bool} {g : D → D} : ∀ {ds acc : List D},
    (∀ d ∈ ds, ∃ ρ, pat d = some ρ ∧ tt ρ n = .ok (p d) n ∧ (p d = true → fe ρ n = .ok (g d) n)) → acc.length + ds.length ≤ sizeLine → compL pat tt fe ds acc n = .ok (acc ++ (ds.filter p).map g) n
  | [], acc, _, _ => by simp [compL]
  | d :: r, acc, h, hz => by
    obtain ⟨ρ, e1, e2, e3⟩ := h d List.mem_cons_self
    have ih : ∀ acc', acc'.length + r.length ≤ sizeLine → compL pat tt fe r acc' n = .ok (acc' ++ (r.filter p).map g) n := fun acc' hz' => compL_ok (fun d hd => h d (List.mem_cons_of_mem _ hd)) hz'
    simp only [List.length_cons] at hz
    unfold compL
    rw [e1, bnd_app, some_app, bd_ok, bnd_app, noErr_ok e2, bd_ok]
    cases e : p d with
    | false =>
      rw [if_neg Bool.false_ne_true, ih acc (by omega), List.filter_cons_of_neg (by rw [e]; exact Bool.false_ne_true)]
    | true =>
      rw [if_pos rfl, bnd_app, noErr_ok (e3 e), bd_ok, bnd_app, need_app, if_pos (decide_eq_true (by omega)), bd_ok, ih _ (by rw [List.length_append, List.length_singleton]; omega), List.filter_cons_of_pos e]
      simp
theorem lComp_ok {fi : Mi.Env → M (List D)} {pt : Pat} {own : List Nat} {tt : Mi.Env → M Bool} {fe : Mi.Env → M D} {ρ : Mi.Env} {n n1 : Nat} {ds : List D} (p : D → Bool) (g : D → D) (hi : fi ρ n = .ok ds n1)
    (h : ∀ d ∈ ds, ∃ ρ', patSet pt d (wipeE ρ own) = some ρ' ∧ tt ρ' n1 = .ok (p d) n1 ∧ (p d = true → fe ρ' n1 = .ok (g d) n1)) (hz : ds.length ≤ sizeLine) : lComp fi pt own tt fe ρ n = .ok ((ds.filter p).map g) n1 := by
  unfold lComp
  rw [bnd_app, hi, bd_ok, compL_ok h (by simpa using hz)]
  simp
/-- .. with one name, all kept -/
theorem lComp_all {fi : Mi.Env → M (List D)} {i : Nat} {own : List Nat} {fe : Mi.Env → M D} {ρ : Mi.Env} {n n1 : Nat} {ds : List D} (g : D → D) (hi : fi ρ n = .ok ds n1)
    (h : ∀ d ∈ ds, fe ((wipeE ρ own).set i (.fz d)) n1 = .ok (g d) n1) (hz : ds.length ≤ sizeLine) : lComp fi (.nm i) own tYesM fe ρ n = .ok (ds.map g) n1 := by
  rw [lComp_ok (fun _ => true) g hi (fun d hd => ⟨_, rfl, rfl, fun _ => h d hd⟩) hz, List.filter_eq_self.mpr fun _ _ => rfl]
theorem lComp_if {fi : Mi.Env → M (List D)} {i : Nat} {own : List Nat} {tt : Mi.Env → M Bool} {fe : Mi.Env → M D} {ρ : Mi.Env} {n n1 : Nat} {ds : List D} (p : D → Bool) (g : D → D) (hi : fi ρ n = .ok ds n1)
    (h : ∀ d ∈ ds, tt ((wipeE ρ own).set i (.fz d)) n1 = .ok (p d) n1) (h2 : ∀ d ∈ ds, p d = true → fe ((wipeE ρ own).set i (.fz d)) n1 = .ok (g d) n1) (hz : ds.length ≤ sizeLine) : lComp fi (.nm i) own tt fe ρ n = .ok ((ds.filter p).map g) n1 :=
  lComp_ok p g hi (fun d hd => ⟨_, rfl, h d hd, h2 d hd⟩) hz
/-- a for-loop by an invariant of the turn -/
theorem forL_inv {pt : Pat} {body : MS} (I : Nat → Mi.Env → Nat → Prop) : ∀ {ds : List D} {k : Nat} {ρ : Mi.Env} {n : Nat}, I k ρ n →
    (∀ (j : Nat) (d : D) (ρ : Mi.Env) (n : Nat), ds[j]? = some d → I (k + j) ρ n → ∃ ρ1, patSet pt d ρ = some ρ1 ∧ ∃ ρ2 n2, body ρ1 n = .ok (ρ2, .nx) n2 ∧ I (k + j + 1) ρ2 n2) →
    ∃ ρ' n', forL pt body ds ρ n = .ok (ρ', .nx) n' ∧ I (k + ds.length) ρ' n'
  | [], k, ρ, n, h, _ => ⟨ρ, n, rfl, h⟩
  | d :: r, k, ρ, n, h, st => by
    obtain ⟨ρ1, e1, ρ2, n2, e2, h2⟩ := st 0 d ρ n rfl h
    obtain ⟨ρ', n', e3, h3⟩ := forL_inv (ds := r) (k := k + 1) (ρ := ρ2) (n := n2) I h2 fun j d' ρ n hj hI => by
      have := st (j + 1) d' ρ n (by simpa using hj) (by rw [show k + (j + 1) = k + 1 + j by omega]; exact hI)
      rw [show k + (j + 1) + 1 = k + 1 + j + 1 by omega] at this
      exact this
    refine ⟨ρ', n', ?_, by rw [List.length_cons, show k + (r.length + 1) = k + 1 + r.length by omega]; exact h3⟩
    unfold forL
    rw [bnd_app, e1, some_app, bd_ok, bnd_app, e2, bd_ok]
    exact e3
end Mi

end

section
set_option Elab.async false
set_option linter.all false
set_option maxRecDepth 100000
set_option maxHeartbeats 4000000
namespace Mi
open PySem PySem.Spec L2
/-! each construct, run at a state -/
def Res.bdB {α : Type} (r : Res Bool) (f g : M α) : Res α := match r with
  | .ok b k => if b = true then f k else g k
  | .err c k => .err c k
  | .bad => .bad
def seqR (r : Res (Mi.Env × Fl)) (g : MS) : Res (Mi.Env × Fl) := match r with
  | .ok (ρ, .nx) k => g ρ k
  | .ok (ρ, .rt d) k => .ok (ρ, .rt d) k
  | .ok (ρ, .bk) k => .ok (ρ, .bk) k
  | .ok (ρ, .ct) k => .ok (ρ, .ct) k
  | .ok (ρ, .ro ds) k => .ok (ρ, .ro ds) k
  | .err c k => .err c k
  | .bad => .bad
def outR (r : Res (Mi.Env × Fl)) : Res D := match r with
  | .ok (_, .nx) k => .ok .none k
  | .ok (_, .rt d) k => .ok d k
  | .ok (_, .bk) _ => .bad
  | .ok (_, .ct) _ => .bad
  | .ok (_, .ro _) _ => .bad
  | .err c k => .err c k
  | .bad => .bad
def varM : Sl → M D
  | .fz d => pure d
  | .sh ds => pure (.list ds)
  | _ => bad
section
variable {α β : Type} {ρ : Mi.Env} {n k : Nat} {f g : MS} {fa fb fc : Mi.Env → M D} {fs ls : Mi.Env → M (List D)} {tc td : Mi.Env → M Bool} {i j : Nat}
@[simp] theorem bdB_t (f g : M α) : (Res.ok true k).bdB f g = f k := rfl
@[simp] theorem bdB_f (f g : M α) : (Res.ok false k).bdB f g = g k := rfl
theorem bdB_ok (b : Bool) (f g : M α) : (Res.ok b k).bdB f g = if b = true then f k else g k := rfl
@[simp] theorem bdB_err (c : Str) (f g : M α) : (Res.err c k).bdB f g = .err c k := rfl
@[simp] theorem bdB_bad (f g : M α) : (Res.bad).bdB f g = .bad := rfl
@[simp] theorem seqR_nx (g : MS) : seqR (.ok (ρ, .nx) k) g = g ρ k := rfl
@[simp] theorem seqR_rt (d : D) (g : MS) : seqR (.ok (ρ, .rt d) k) g = .ok (ρ, .rt d) k := rfl
@[simp] theorem seqR_err (c : Str) (g : MS) : seqR (.err c k) g = .err c k := rfl
@[simp] theorem seqR_bad (g : MS) : seqR .bad g = .bad := rfl
@[simp] theorem outR_nx : outR (.ok (ρ, .nx) k) = .ok .none k := rfl
@[simp] theorem outR_rt (d : D) : outR (.ok (ρ, .rt d) k) = .ok d k := rfl
@[simp] theorem outR_err (c : Str) : outR (.err c k) = .err c k := rfl
@[simp] theorem outR_bad : outR .bad = .bad := rfl
@[simp] theorem varM_fz (d : D) : varM (.fz d) n = .ok d n := rfl
@[simp] theorem varM_sh (ds : List D) : varM (.sh ds) n = .ok (.list ds) n := rfl
@[simp] theorem run_app (L : Nat) (b : MS) (ds : List D) : Mi.run L b ds n = outR (b (startE L ds) n) := by
  unfold Mi.run
  rw [bnd_app]
  cases h : b (startE L ds) n with
  | ok p k =>
    obtain ⟨ρ, fl⟩ := p
    cases fl <;> rfl
  | _ => rfl
@[simp] theorem eVar_app : eVar i ρ n = varM (ρ.at i) n := by
  unfold eVar varM
  cases ρ.at i <;> rfl
@[simp] theorem eC_app (d : D) : eC d ρ n = .ok d n := rfl
@[simp] theorem e2_app (h : D → D → M D) : e2 h fa fb ρ n = (fa ρ n).bd fun x => fb ρ >>= h x := bnd_app _ _ _
@[simp] theorem tB_app : tB fa ρ n = (fa ρ n).bd asB := bnd_app _ _ _
@[simp] theorem asB_app (b : Bool) : asB (.bool b) n = .ok b n := rfl
@[simp] theorem tT_app : tT fa ρ n = (fa ρ n).bd dTru := bnd_app _ _ _
@[simp] theorem bNot_app : bNot tc ρ n = (tc ρ n).bd fun b => pure (!b) := bnd_app _ _ _
@[simp] theorem bAnd_app : bAnd tc td ρ n = (tc ρ n).bdB (td ρ) (pure false) := by
  unfold bAnd
  rw [bnd_app]
  cases tc ρ n with
  | ok b k => cases b <;> rfl
  | _ => rfl
@[simp] theorem bOr_app : bOr tc td ρ n = (tc ρ n).bdB (pure true) (td ρ) := by
  unfold bOr
  rw [bnd_app]
  cases tc ρ n with
  | ok b k => cases b <;> rfl
  | _ => rfl
@[simp] theorem eIf_app : eIf tc fa fb ρ n = (tc ρ n).bdB (fa ρ) (fb ρ) := by
  unfold eIf
  rw [bnd_app]
  cases tc ρ n with
  | ok b k => cases b <;> rfl
  | _ => rfl
@[simp] theorem eAnd_app : eAnd fa fb ρ n = ((fa ρ n).bd asB).bdB (fb ρ) (pure (.bool false)) := by
  unfold eAnd
  rw [bnd_app]
  cases fa ρ n with
  | ok d k =>
    show (asB d >>= _) k = (asB d k).bdB _ _
    rw [bnd_app]
    cases asB d k with
    | ok b k => cases b <;> rfl
    | _ => rfl
  | _ => rfl
@[simp] theorem eOr_app : eOr fa fb ρ n = ((fa ρ n).bd asB).bdB (pure (.bool true)) (fb ρ) := by
  unfold eOr
  rw [bnd_app]
  cases fa ρ n with
  | ok d k =>
    show (asB d >>= _) k = (asB d k).bdB _ _
    rw [bnd_app]
    cases asB d k with
    | ok b k => cases b <;> rfl
    | _ => rfl
  | _ => rfl
@[simp] theorem eNot_app : eNot fa ρ n = ((fa ρ n).bd asB).bd fun b => pure (.bool (!b)) := by
  unfold eNot
  rw [bnd_app]
  cases fa ρ n <;> first | rfl | exact bnd_app _ _ _
@[simp] theorem aNil_app : aNil ρ n = .ok [] n := rfl
@[simp] theorem aCons_app : aCons fa fs ρ n = (fa ρ n).bd fun x => fs ρ >>= fun xs => pure (x :: xs) := bnd_app _ _ _
@[simp] theorem eCall_app (h : List D → M D) : eCall h fs ρ n = (fs ρ n).bd h := bnd_app _ _ _
@[simp] theorem lCall_app (h : List D → M (List D)) : lCall h fs ρ n = (fs ρ n).bd h := bnd_app _ _ _
@[simp] theorem arg1_app (h : D → M α) (d : D) : arg1 h [d] = h d := rfl
@[simp] theorem arg2_app (h : D → D → M α) (d e : D) : arg2 h [d, e] = h d e := rfl
@[simp] theorem eFn_app (ar : Nat) (m : List D → M D) : eFn ar m fs ρ n = (fs ρ n).bd fun ds => need (decide (ds.length = ar)) >>= fun _ => m ds := bnd_app _ _ _
@[simp] theorem eTup_app : eTup fs ρ n = (fs ρ n).bd fun xs => need (decide (xs.length ≤ sizeLine)) >>= fun _ => pure (.tuple xs) := bnd_app _ _ _
@[simp] theorem lLst_app : lLst fs ρ n = (fs ρ n).bd fun xs => need (decide (xs.length ≤ sizeLine)) >>= fun _ => pure xs := bnd_app _ _ _
@[simp] theorem eL_app : eL fs ρ n = (fs ρ n).bd fun xs => pure (.list xs) := bnd_app _ _ _
@[simp] theorem e3_app (g g' : D → D → M D) : e3 g g' fa fb fc ρ n = (fa ρ n).bd fun x => fb ρ >>= fun y => g x y >>= fun z => asB z >>= fun k => if k = true then fc ρ >>= g' y else pure (.bool false) := bnd_app _ _ _
@[simp] theorem sNx_app : sNx ρ n = .ok (ρ, .nx) n := rfl
@[simp] theorem sSeq_app : sSeq f g ρ n = seqR (f ρ n) g := by
  unfold sSeq
  rw [bnd_app]
  cases f ρ n with
  | ok p k =>
    obtain ⟨ρ, fl⟩ := p
    cases fl <;> rfl
  | _ => rfl
@[simp] theorem sRet_app : sRet fa ρ n = (fa ρ n).bd fun d => pure (ρ, .rt d) := bnd_app _ _ _
@[simp] theorem sIf_app : sIf tc f g ρ n = (tc ρ n).bdB (f ρ) (g ρ) := by
  unfold sIf
  rw [bnd_app]
  cases tc ρ n with
  | ok b k => cases b <;> rfl
  | _ => rfl
@[simp] theorem sSet_app : sSet i fa ρ n = (fa ρ n).bd fun d => pure (ρ.set i (.fz d), .nx) := bnd_app _ _ _
@[simp] theorem sPat_app (p : Pat) : sPat p fa ρ n = (fa ρ n).bd fun d => ofOpt (patSet p d ρ) >>= fun ρ' => pure (ρ', .nx) := bnd_app _ _ _
@[simp] theorem sOwn_app : sOwn i fs ρ n = (fs ρ n).bd fun ds => need (decide (i < ρ.length)) >>= fun _ => pure (ρ.set i (.ow ds), .nx) := bnd_app _ _ _
@[simp] theorem sOwn2_app : sOwn2 i fs ρ n = (fs ρ n).bd fun ds => need (decide (i < ρ.length ∧ ds = [])) >>= fun _ => pure (ρ.set i (.ow2 []), .nx) := bnd_app _ _ _
@[simp] theorem sDrop_app : sDrop fa ρ n = (fa ρ n).bd fun _ => pure (ρ, .nx) := bnd_app _ _ _
@[simp] theorem sRaise_app (c : Str) : sRaise c ρ n = .err c n := rfl
@[simp] theorem sFz_app : sFz i f ρ n = f (frz i ρ) n := rfl
@[simp] theorem eBo_app : eBo i fa ρ n = (fa (frz i ρ) n).bd fun d => need (noL d) >>= fun _ => pure d := bnd_app _ _ _
@[simp] theorem bBo_app : bBo i tc ρ n = tc (frz i ρ) n := rfl
@[simp] theorem lBo_app : lBo i fs ρ n = (fs (frz i ρ) n).bd fun ds => need (noLs ds) >>= fun _ => pure ds := bnd_app _ _ _
@[simp] theorem iSeq_list (ds : List D) (h : fa ρ n = .ok (.list ds) k) : iSeq fa ρ n = .ok ds k := by
  unfold iSeq
  rw [bnd_app, h]
  rfl
@[simp] theorem iSeq_tup (ds : List D) (h : fa ρ n = .ok (.tuple ds) k) : iSeq fa ρ n = .ok ds k := by
  unfold iSeq
  rw [bnd_app, h]
  rfl
@[simp] theorem sFor_app (fi : Mi.Env → M (List D)) (p : Pat) : sFor fi p f ρ n = (fi ρ n).bd fun ds => forL p f ds ρ := bnd_app _ _ _
@[simp] theorem ite_app (c : Prop) [Decidable c] (f g : M α) : (if c then f else g) n = if c then f n else g n := by
  split <;> rfl
-- what the operations come to
@[simp] theorem dIx_tup (ds : List D) (i : Int) : dIx (.tuple ds) (.int i) = ofOpt (atI ds i) := rfl
@[simp] theorem dIx_lst (ds : List D) (i : Int) : dIx (.list ds) (.int i) = ofOpt (atI ds i) := rfl
@[simp] theorem dIx_scr (ns : List Int) (i : Int) : dIx (scrD ns) (.int i) = ofOpt (atI (ns.map PyData.int) i) := rfl
@[simp] theorem dMod_int (i j : Int) : dMod (.int i) (.int j) = (need (decide (0 < j)) >>= fun _ => pure (.int (i % j))) := rfl
@[simp] theorem dFdiv_int (i j : Int) : dFdiv (.int i) (.int j) = (need (decide (0 < j ∧ j < 1073741824)) >>= fun _ => pure (.int (i / j))) := rfl
@[simp] theorem dMul_int (i j : Int) : dMulI (.int i) (.int j) = (need (decide ((-(2 ^ 64) < i ∧ i < 2 ^ 64) ∨ (-(2 ^ 64) < j ∧ j < 2 ^ 64))) >>= fun _ => pure (.int (i * j))) := rfl
@[simp] theorem dPow_int (i j : Int) : dPow (.int i) (.int j) = (need (decide (0 ≤ j ∧ j ≤ 1000000 ∧ i.natAbs < 2 ^ 64)) >>= fun _ => pure (.int (i ^ j.toNat))) := rfl
@[simp] theorem dSub_int (i j : Int) : dSub (.int i) (.int j) = pure (.int (i - j)) := rfl
@[simp] theorem dAdd_int (i j : Int) : dAdd (.int i) (.int j) = pure (.int (i + j)) := rfl
@[simp] theorem dLe_int (i j : Int) : dLe (.int i) (.int j) = pure (.bool (decide (i ≤ j))) := rfl
@[simp] theorem dLt_int (i j : Int) : dLt (.int i) (.int j) = pure (.bool (decide (i < j))) := rfl
@[simp] theorem dGt_int (i j : Int) : dGt (.int i) (.int j) = pure (.bool (decide (j < i))) := rfl
@[simp] theorem dGe_int (i j : Int) : dGe (.int i) (.int j) = pure (.bool (decide (j ≤ i))) := rfl
@[simp] theorem dLen_tup (ds : List D) : dLen (.tuple ds) = pure (.int ds.length) := rfl
@[simp] theorem dLen_lst (ds : List D) : dLen (.list ds) = pure (.int ds.length) := rfl
@[simp] theorem dLen_scr (ns : List Int) : dLen (scrD ns) = pure (.int (ns.map PyData.int).length) := rfl
@[simp] theorem dLen_town : dLen townD n = .ok (.int n) n := rfl
@[simp] theorem dTru_scr (ns : List Int) : dTru (scrD ns) = pure (!(ns.map PyData.int).isEmpty) := rfl
@[simp] theorem dTru_bool (b : Bool) : dTru (.bool b) = pure b := rfl
@[simp] theorem dTru_lst (ds : List D) : dTru (.list ds) = pure (!ds.isEmpty) := rfl
@[simp] theorem dTru_tup (ds : List D) : dTru (.tuple ds) = pure (!ds.isEmpty) := rfl
@[simp] theorem gTuple_lst (ds : List D) : gTuple (.list ds) = pure (.tuple ds) := rfl
@[simp] theorem gTuple_tup (ds : List D) : gTuple (.tuple ds) = pure (.tuple ds) := rfl
@[simp] theorem gList_lst (ds : List D) : gList (.list ds) = pure ds := rfl
@[simp] theorem gList_tup (ds : List D) : gList (.tuple ds) = pure ds := rfl
@[simp] theorem gMin2_int (i j : Int) : gMin2 (.int i) (.int j) = pure (.int (if j < i then j else i)) := rfl
@[simp] theorem gMax2_int (i j : Int) : gMax2 (.int i) (.int j) = pure (.int (if j > i then j else i)) := rfl
@[simp] theorem optI_int (i : Int) : optI (.int i) = some i := rfl
@[simp] theorem asL_lst (ds : List D) : asL (.list ds) = some ds := rfl
@[simp] theorem asP_tup (a b : D) : asP (.tuple [a, b]) = some (a, b) := rfl
@[simp] theorem frS_ow (ds : List D) : frS (.ow ds) = .fz (.list ds) := rfl
@[simp] theorem frS_ow2 (dss : List (List D)) : frS (.ow2 dss) = .fz (.list (dss.map .list)) := rfl
@[simp] theorem frS_fz (d : D) : frS (.fz d) = .fz d := rfl
@[simp] theorem frS_no : frS .no = .no := rfl
@[simp] theorem eNeg_app : eNeg fa ρ n = (fa ρ n).bd fun x => ofOpt (optI x) >>= fun k => pure (.int (-k)) := bnd_app _ _ _
@[simp] theorem lRg1_app : lRg1 fa ρ n = (fa ρ n).bd fun x => ofOpt (optI x) >>= fun k => need (decide (0 ≤ k ∧ k ≤ 16777216)) >>= fun _ => pure (rgD 0 k) := bnd_app _ _ _
theorem iRange1_int {j : Int} (h : fs ρ n = .ok [.int j] k) : iRange1 fs ρ n = (need (decide (-(2 ^ 62) ≤ j ∧ j < 2 ^ 62)) >>= fun _ => pure ((List.range j.toNat).map fun k : Nat => PyData.int (0 + (k : Int)))) k := by
  unfold iRange1
  rw [bnd_app, h, bd_ok]
theorem iRange1_nat {j : Nat} (h : fs ρ n = .ok [.int (j : Int)] k) (hj : j ≤ 1000000) : iRange1 fs ρ n = .ok ((List.range j).map fun k : Nat => PyData.int (k : Int)) k := by
  rw [iRange1_int h, bnd_app, need_app, if_pos (decide_eq_true (by omega)), bd_ok, pure_app, Int.toNat_natCast]
  simp only [Int.zero_add]
end
end Mi

end

section
set_option Elab.async false
set_option linter.all false
set_option maxRecDepth 100000
set_option maxHeartbeats 4000000
namespace Mi
open PySem PySem.Spec L2
/-! things, rows, tables -/
abbrev natD (x : Nat) : D := .int (x : Int)
def rowD (r : List Nat) : D := .tuple (r.map natD)
def tabD (T : List (List Nat)) : D := .tuple (T.map rowD)
/-- a table of s things -/
structure Tb (s : Nat) (T : List (List Nat)) : Prop where
  len : T.length = s
  row : ∀ r ∈ T, r.length = s ∧ ∀ x ∈ r, x < s
def cellT (T : List (List Nat)) (i j : Nat) : Nat := (T.getD i []).getD j 0
@[simp] theorem atI_cast {α : Type} (xs : List α) (k : Nat) : atI xs (k : Int) = xs[k]? := by
  unfold L2.atI L2.ixN
  rw [if_pos (by omega)]
  by_cases h : (k : Int) < xs.length
  · rw [if_pos h]
    simp
  · rw [if_neg h, List.getElem?_eq_none (by omega)]
    rfl
theorem compL_map {α : Type} {enc : α → D} {pat : D → Option Mi.Env} {tt : Mi.Env → M Bool} {fe : Mi.Env → M D} {n : Nat} {p : α → Bool} {g : α → D} : ∀ {xs : List α} {acc : List D},
    (∀ x ∈ xs, ∃ ρ, pat (enc x) = some ρ ∧ tt ρ n = .ok (p x) n ∧ (p x = true → fe ρ n = .ok (g x) n)) → acc.length + xs.length ≤ sizeLine → compL pat tt fe (xs.map enc) acc n = .ok (acc ++ (xs.filter p).map g) n
  | [], acc, _, _ => by simp [compL]
  | d :: r, acc, h, hz => by
    obtain ⟨ρ, e1, e2, e3⟩ := h d List.mem_cons_self
    have ih : ∀ acc', acc'.length + r.length ≤ sizeLine → compL pat tt fe (r.map enc) acc' n = .ok (acc' ++ (r.filter p).map g) n := fun acc' hz' => compL_map (fun d hd => h d (List.mem_cons_of_mem _ hd)) hz'
    simp only [List.length_cons] at hz
    rw [List.map_cons]
    unfold compL
    rw [e1, bnd_app, some_app, bd_ok, bnd_app, noErr_ok e2, bd_ok]
    cases e : p d with
    | false =>
      rw [if_neg Bool.false_ne_true, ih acc (by omega), List.filter_cons_of_neg (by rw [e]; exact Bool.false_ne_true)]
    | true =>
      rw [if_pos rfl, bnd_app, noErr_ok (e3 e), bd_ok, bnd_app, need_app, if_pos (decide_eq_true (by omega)), bd_ok, ih _ (by rw [List.length_append, List.length_singleton]; omega), List.filter_cons_of_pos e]
      simp
/-- [fe for i in xs if tt] -/
theorem lComp_mapIf {α : Type} (enc : α → D) {fi : Mi.Env → M (List D)} {i : Nat} {own : List Nat} {tt : Mi.Env → M Bool} {fe : Mi.Env → M D} {ρ : Mi.Env} {n n1 : Nat} (xs : List α) (p : α → Bool) (g : α → D) (hi : fi ρ n = .ok (xs.map enc) n1)
    (h : ∀ x ∈ xs, tt ((wipeE ρ own).set i (.fz (enc x))) n1 = .ok (p x) n1) (h2 : ∀ x ∈ xs, p x = true → fe ((wipeE ρ own).set i (.fz (enc x))) n1 = .ok (g x) n1) (hz : xs.length ≤ 1000000) : lComp fi (.nm i) own tt fe ρ n = .ok ((xs.filter p).map g) n1 := by
  have hs := sizeLine_eq
  unfold lComp
  rw [bnd_app, hi, bd_ok, compL_map (p := p) (g := g) (fun x hx => ⟨_, rfl, h x hx, h2 x hx⟩) (by simp; omega)]
  simp
theorem lComp_map {α : Type} (enc : α → D) {fi : Mi.Env → M (List D)} {i : Nat} {own : List Nat} {fe : Mi.Env → M D} {ρ : Mi.Env} {n n1 : Nat} (xs : List α) (g : α → D) (hi : fi ρ n = .ok (xs.map enc) n1)
    (h : ∀ x ∈ xs, fe ((wipeE ρ own).set i (.fz (enc x))) n1 = .ok (g x) n1) (hz : xs.length ≤ 1000000) : lComp fi (.nm i) own tYesM fe ρ n = .ok (xs.map g) n1 := by
  rw [lComp_mapIf enc xs (fun _ => true) g hi (fun _ _ => rfl) (fun x hx _ => h x hx) hz, List.filter_eq_self.mpr fun _ _ => rfl]
/-- for x in xs, by an invariant -/
theorem forL_map {α : Type} (enc : α → D) {i : Nat} {body : MS} (I : Nat → Mi.Env → Nat → Prop) : ∀ {xs : List α} {k : Nat} {ρ : Mi.Env} {n : Nat}, I k ρ n →
    (∀ (j : Nat) (x : α) (ρ : Mi.Env) (n : Nat), xs[j]? = some x → I (k + j) ρ n → ∃ ρ2 n2, body (ρ.set i (.fz (enc x))) n = .ok (ρ2, .nx) n2 ∧ I (k + j + 1) ρ2 n2) →
    ∃ ρ' n', forL (.nm i) body (xs.map enc) ρ n = .ok (ρ', .nx) n' ∧ I (k + xs.length) ρ' n'
  | [], k, ρ, n, h, _ => ⟨ρ, n, rfl, h⟩
  | d :: r, k, ρ, n, h, st => by
    obtain ⟨ρ2, n2, e2, h2⟩ := st 0 d ρ n rfl h
    obtain ⟨ρ', n', e3, h3⟩ := forL_map enc (xs := r) (k := k + 1) (ρ := ρ2) (n := n2) I h2 fun j d' ρ n hj hI => by
      have := st (j + 1) d' ρ n (by simpa using hj) (by rw [show k + (j + 1) = k + 1 + j by omega]; exact hI)
      rw [show k + (j + 1) + 1 = k + 1 + j + 1 by omega] at this
      exact this
    refine ⟨ρ', n', ?_, by rw [List.length_cons, show k + (r.length + 1) = k + 1 + r.length by omega]; exact h3⟩
    rw [List.map_cons]
    unfold forL
    rw [show patSet (.nm i) (enc d) ρ = some (ρ.set i (.fz (enc d))) from rfl, bnd_app, some_app, bd_ok, bnd_app, e2, bd_ok]
    exact e3
theorem range_map (s : Nat) : (List.range s).map (fun k : Nat => PyData.int (k : Int)) = (List.range s).map natD := rfl
theorem rg_map (s : Nat) : rgD 0 (s : Int) = (List.range s).map natD := by
  unfold rgD
  simp [natD]
theorem range_get {s j x : Nat} (h : (List.range s)[j]? = some x) : x = j ∧ j < s := by
  obtain ⟨h1, h2⟩ := List.getElem?_eq_some_iff.mp h
  rw [List.getElem_range] at h2
  exact ⟨h2.symm, by simpa using h1⟩
section
variable {s : Nat} {T : List (List Nat)}
theorem Tb.get (t : Tb s T) {i : Nat} (hi : i < s) : T[i]? = some (T.getD i []) := by
  have : i < T.length := by rw [t.len]; exact hi
  rw [List.getD_eq_getElem?_getD, List.getElem?_eq_getElem this]
  rfl
theorem Tb.rowAt (t : Tb s T) {i : Nat} (hi : i < s) : (T.getD i []).length = s ∧ ∀ x ∈ T.getD i [], x < s := t.row _ (List.mem_of_getElem? (t.get hi))
theorem Tb.cell (t : Tb s T) {i j : Nat} (hi : i < s) (hj : j < s) : (T.getD i [])[j]? = some (cellT T i j) ∧ cellT T i j < s := by
  obtain ⟨h1, h2⟩ := t.rowAt hi
  have hl : j < (T.getD i []).length := by rw [h1]; exact hj
  have e : (T.getD i [])[j]? = some (cellT T i j) := by
    unfold cellT
    rw [List.getD_eq_getElem?_getD (l := T.getD i []), List.getElem?_eq_getElem hl]
    rfl
  exact ⟨e, h2 _ (List.mem_of_getElem? e)⟩
/-- table[i] -/
theorem Tb.ixRow (t : Tb s T) {i : Nat} (hi : i < s) : (T.map rowD)[i]? = some (rowD (T.getD i [])) := by
  rw [List.getElem?_map, t.get hi]
  rfl
theorem Tb.ixCell (t : Tb s T) {i j : Nat} (hi : i < s) (hj : j < s) : ((T.getD i []).map natD)[j]? = some (natD (cellT T i j)) := by
  rw [List.getElem?_map, (t.cell hi hj).1]
  rfl
end
end Mi

end

section
set_option Elab.async false
set_option linter.all false
set_option maxRecDepth 100000
set_option maxHeartbeats 4000000
namespace Mi
open PySem PySem.Spec L2 PySem.W
instance : Datum Nat where
  toD := natD
  plain _ := rfl
  eqv a b := by
    show PyData.eqv (.int (a : Int)) (.int (b : Int)) = _
    simp only [PyData.eqv]
    rw [Bool.eq_iff_iff, beq_iff_eq, decide_eq_true_eq]
    omega
  depth := 0
  depth_le _ := Nat.le_refl _
/-- not too deep -/
class Shal (α : Type) [DecidableEq α] [Datum α] : Prop where
  le : Datum.depth α ≤ 50
instance : Shal Nat := ⟨by decide⟩
instance : Shal Int := ⟨by decide⟩
instance : Shal Bool := ⟨by decide⟩
instance : Shal Str := ⟨by decide⟩
section
variable {α β : Type} [DecidableEq α] [Datum α] [DecidableEq β] [Datum β]
theorem okD_toD (h : Datum.depth α ≤ 60) (a : α) : okD (Datum.toD a) = true := by
  unfold okD
  rw [Datum.plain, Bool.true_and]
  exact decide_eq_true (Nat.le_trans (Datum.depth_le a) h)
theorem okD_list (h : Datum.depth α ≤ 59) (xs : List α) : okD (.list (xs.map Datum.toD)) = true := okD_toD (α := List α) (by show Datum.depth α + 1 ≤ 60; omega) xs
theorem dEq_at (h : Datum.depth α ≤ 60) (a b : α) : dEq (Datum.toD a) (Datum.toD b) = pure (.bool (decide (a = b))) := by
  unfold dEq
  rw [okD_toD h, okD_toD h, Datum.eqv]
  rfl
theorem dNe_at (h : Datum.depth α ≤ 60) (a b : α) : dNe (Datum.toD a) (Datum.toD b) = pure (.bool (!decide (a = b))) := by
  unfold dNe
  rw [okD_toD h, okD_toD h, Datum.eqv]
  rfl
theorem inD_at (a : α) (xs : List α) : inD (Datum.toD a) (xs.map Datum.toD) = decide (a ∈ xs) := by
  unfold inD
  rw [Bool.eq_iff_iff, List.any_eq_true, decide_eq_true_eq]
  constructor
  · rintro ⟨d, hd, e⟩
    obtain ⟨x, hx, rfl⟩ := List.mem_map.mp hd
    rw [Datum.eqv, decide_eq_true_eq] at e
    exact e ▸ hx
  · exact fun hx => ⟨_, List.mem_map.mpr ⟨a, hx, rfl⟩, by rw [Datum.eqv]; exact decide_eq_true rfl⟩
theorem dIn_at (h : Datum.depth α ≤ 59) (neg : Bool) (a : α) (xs : List α) : dIn neg (Datum.toD a) (.list (xs.map Datum.toD)) = pure (.bool (if neg then !decide (a ∈ xs) else decide (a ∈ xs))) := by
  have e : dIn neg (Datum.toD a) (.list (xs.map Datum.toD)) = (need (okD (Datum.toD a) && okD (.list (xs.map Datum.toD))) >>= fun _ => pure (.bool (if neg then !inD (Datum.toD a) (xs.map Datum.toD) else inD (Datum.toD a) (xs.map Datum.toD)))) := by
    unfold dIn
    cases Datum.toD a <;> rfl
  rw [e, okD_toD (by omega), okD_list h, inD_at]
  rfl
theorem place_at (a : α) : ∀ (xs : List α), a ∈ xs → PySem.SeqAt.dataPlace (xs.map Datum.toD) (Datum.toD a) = some (xs.idxOf a)
  | [], h => by cases h
  | x :: r, h => by
    unfold PySem.SeqAt.dataPlace
    rw [List.map_cons, List.findIdx?_cons, Datum.eqv]
    by_cases e : x = a
    · rw [if_pos (decide_eq_true e), e, List.idxOf_cons_self]
    · rw [if_neg (by simpa using e), List.idxOf_cons, show (x == a) = false from by simpa using e]
      have hm : a ∈ r := by
        rcases List.mem_cons.mp h with z | z
        · exact absurd z.symm e
        · exact z
      have ih := place_at a r hm
      unfold PySem.SeqAt.dataPlace at ih
      rw [ih]
      rfl
theorem eIdx_at {fa fb : Mi.Env → M D} {ρ : Mi.Env} {n n1 n2 : Nat} (h : Datum.depth α ≤ 59) {a : α} {xs : List α} (h1 : fa ρ n = .ok (.list (xs.map Datum.toD)) n1) (h2 : fb ρ n1 = .ok (Datum.toD a) n2) (hm : a ∈ xs) (hz : xs.length ≤ 1000000) :
    eIdx fa fb ρ n = .ok (natD (xs.idxOf a)) n2 := by
  have hs := sizeLine_eq
  unfold eIdx
  rw [bnd_app, h1, bd_ok, asL_lst, bnd_app, some_app, bd_ok, bnd_app, h2, bd_ok, bnd_app, need_app, okD_list h, okD_toD (by omega), if_pos (by
    rw [Bool.true_and, Bool.true_and, List.length_map]
    exact decide_eq_true (by omega)), bd_ok, place_at a xs hm]
  rfl
end
@[simp] theorem toD_nat (x : Nat) : (Datum.toD x : D) = natD x := rfl
theorem dEq_nat (a b : Nat) : dEq (natD a) (natD b) = pure (.bool (decide (a = b))) := dEq_at (α := Nat) (by decide) a b
theorem dNe_nat (a b : Nat) : dNe (natD a) (natD b) = pure (.bool (!decide (a = b))) := dNe_at (α := Nat) (by decide) a b
theorem dEq_nats (a b : List Nat) : dEq (.list (a.map natD)) (.list (b.map natD)) = pure (.bool (decide (a = b))) := dEq_at (α := List Nat) (by decide) a b
theorem dNe_nats (a b : List Nat) : dNe (.list (a.map natD)) (.list (b.map natD)) = pure (.bool (!decide (a = b))) := dNe_at (α := List Nat) (by decide) a b
theorem dIn_nats (neg : Bool) (a : Nat) (b : List Nat) : dIn neg (natD a) (.list (b.map natD)) = pure (.bool (if neg then !decide (a ∈ b) else decide (a ∈ b))) := dIn_at (α := Nat) (by decide) neg a b
theorem noLs_nat : ∀ xs : List Nat, noLs (xs.map natD) = true
  | [] => rfl
  | x :: r => by
    rw [List.map_cons]
    unfold noLs
    rw [noLs_nat r]
    rfl
theorem blsOf_map : ∀ bs : List Bool, blsOf (bs.map PyData.bool) = some bs
  | [] => rfl
  | b :: r => by
    rw [List.map_cons]
    unfold blsOf
    rw [blsOf_map r]
    rfl
theorem gAll_bls (k : List Bool → Bool) (bs : List Bool) (n : Nat) : gAll k (.list (bs.map PyData.bool)) n = .ok (.bool (k bs)) n := by
  show (ofOpt (blsOf (bs.map PyData.bool)) >>= fun bs => (pure (.bool (k bs)) : M D)) n = _
  rw [blsOf_map]
  rfl
end Mi
namespace Mi
open PySem PySem.Spec L2 PySem.W
section
variable {ρ : Mi.Env} {n n1 n2 n3 k : Nat} {f g : MS} {fa fb fc : Mi.Env → M D} {fs ls : Mi.Env → M (List D)} {tc td : Mi.Env → M Bool} {i j : Nat}
theorem sApp_ok {ds : List D} {d : D} (h : ρ.at i = .ow ds) (hf : fa ρ n = .ok d n1) (hz : ds.length ≤ 1000000) : sApp i fa ρ n = .ok (ρ.set i (.ow (ds ++ [d])), .nx) n1 := by
  have hs := sizeLine_eq
  unfold sApp
  rw [h]
  show (fa ρ >>= _) n = _
  rw [bnd_app, hf, bd_ok, bnd_app, need_app, if_pos (decide_eq_true (by omega)), bd_ok]
  rfl
theorem sExt_ok {ds es : List D} (h : ρ.at i = .ow ds) (hf : fa ρ n = .ok (.list es) n1) (hz : ds.length + es.length ≤ 1000000) : sExt i fa ρ n = .ok (ρ.set i (.ow (ds ++ es)), .nx) n1 := by
  have hs := sizeLine_eq
  unfold sExt
  rw [h]
  show (fa ρ >>= _) n = _
  rw [bnd_app, hf, bd_ok, asL_lst, bnd_app, some_app, bd_ok, bnd_app, need_app, if_pos (decide_eq_true (by omega)), bd_ok]
  rfl
theorem sApp2_ok {ds : List D} {dss : List (List D)} (h : ρ.at i = .ow2 dss) (h2 : ρ.at j = .ow ds) (hz : dss.length ≤ 1000000) : sApp2 i j ρ n = .ok ((ρ.set j .no).set i (.ow2 (dss ++ [ds])), .nx) n := by
  have hs := sizeLine_eq
  unfold sApp2
  rw [h, h2]
  show (need _ >>= _) n = _
  rw [bnd_app, need_app, if_pos (decide_eq_true (by omega)), bd_ok]
  rfl
theorem ixN_cast {m a : Nat} (h : a < m) : L2.ixN m (a : Int) = some a := by
  unfold L2.ixN
  rw [if_pos (by omega), if_pos (by omega), Int.toNat_natCast]
theorem putI_ok {ds : List D} {d : D} {a : Nat} (h : ρ.at i = .ow ds) (ha : fa ρ n = .ok (natD a) n1) (hl : a < ds.length) : putI i fa d ρ n = .ok (ρ.set i (.ow (ds.set a d))) n1 := by
  unfold putI
  rw [h]
  show (fa ρ >>= _) n = _
  rw [bnd_app, ha, bd_ok, optI_int, bnd_app, some_app, bd_ok, ixN_cast hl, bnd_app, some_app, bd_ok]
  rfl
theorem sPut_ok {ds : List D} {d : D} {a : Nat} (hd : fb ρ n = .ok d n1) (h : ρ.at i = .ow ds) (ha : fa ρ n1 = .ok (natD a) n2) (hl : a < ds.length) : sPut i fa fb ρ n = .ok (ρ.set i (.ow (ds.set a d)), .nx) n2 := by
  unfold sPut
  rw [bnd_app, hd, bd_ok, bnd_app, putI_ok h ha hl, bd_ok]
  rfl
theorem sPutP_ok {ds : List D} {d1 d2 : D} {a b : Nat} (hd : fc ρ n = .ok (.tuple [d1, d2]) n1) (h : ρ.at i = .ow ds) (hi : i < ρ.length) (ha : fa ρ n1 = .ok (natD a) n2) (hl : a < ds.length)
    (hb : fb (ρ.set i (.ow (ds.set a d1))) n2 = .ok (natD b) n3) (hlb : b < ds.length) : sPutP i fa fb fc ρ n = .ok ((ρ.set i (.ow (ds.set a d1))).set i (.ow ((ds.set a d1).set b d2)), .nx) n3 := by
  unfold sPutP
  rw [bnd_app, hd, bd_ok, asP_tup, bnd_app, some_app, bd_ok, bnd_app, putI_ok h ha hl, bd_ok, bnd_app, putI_ok (ds := ds.set a d1) (by rw [at_set, if_pos ⟨rfl, hi⟩]) hb (by rw [List.length_set]; exact hlb), bd_ok]
  rfl
theorem sPut2_ok {ds : List D} {dss : List (List D)} {d : D} {a b : Nat} (hd : fc ρ n = .ok d n1) (h : ρ.at i = .ow2 dss) (ha : fa ρ n1 = .ok (natD a) n2) (hl : a < dss.length) (hr : dss[a]? = some ds) (hb : fb ρ n2 = .ok (natD b) n3) (hlb : b < ds.length) :
    sPut2 i fa fb fc ρ n = .ok (ρ.set i (.ow2 (dss.set a (ds.set b d))), .nx) n3 := by
  unfold sPut2
  rw [bnd_app, hd, bd_ok, bnd_app]
  have e : put2 i fa fb d ρ n1 = .ok (ρ.set i (.ow2 (dss.set a (ds.set b d)))) n3 := by
    unfold put2
    rw [h]
    show (fa ρ >>= _) n1 = _
    rw [bnd_app, ha, bd_ok, optI_int, bnd_app, some_app, bd_ok, ixN_cast hl, bnd_app, some_app, bd_ok, hr, bnd_app, some_app, bd_ok, bnd_app, hb, bd_ok, optI_int, bnd_app, some_app, bd_ok, ixN_cast hlb, bnd_app, some_app, bd_ok]
    rfl
  rw [e, bd_ok]
  rfl
theorem sFor_ok {fi : Mi.Env → M (List D)} {p : Pat} {ds : List D} (hi : fi ρ n = .ok ds n1) : sFor fi p f ρ n = forL p f ds ρ n1 := by
  rw [sFor_app, hi, bd_ok]
end
end Mi
namespace Mi
open PySem PySem.Spec L2 PySem.W
section
variable {ρ : Mi.Env} {n n1 n2 n3 k : Nat} {fa fb fc : Mi.Env → M D} {fs ls : Mi.Env → M (List D)} {tc td : Mi.Env → M Bool} {i j : Nat} {x d : D} {ds : List D}
theorem ixT_ok (h1 : fa ρ n = .ok (.tuple ds) n1) (h2 : fb ρ n1 = .ok (natD i) n2) (h3 : ds[i]? = some x) : e2 dIx fa fb ρ n = .ok x n2 := by
  rw [e2_app, h1, bd_ok, bnd_app, h2, bd_ok, dIx_tup, atI_cast, h3, some_app]
theorem ixL_ok (h1 : fa ρ n = .ok (.list ds) n1) (h2 : fb ρ n1 = .ok (natD i) n2) (h3 : ds[i]? = some x) : e2 dIx fa fb ρ n = .ok x n2 := by
  rw [e2_app, h1, bd_ok, bnd_app, h2, bd_ok, dIx_lst, atI_cast, h3, some_app]
theorem ixD_ok (h1 : fa ρ n = .ok d n1) (h2 : fb ρ n1 = .ok (natD i) n2) (h3 : dIx d (natD i) = ofOpt (some x)) : e2 dIx fa fb ρ n = .ok x n2 := by
  rw [e2_app, h1, bd_ok, bnd_app, h2, bd_ok, h3, some_app]
theorem tupC_ok {xs : List D} (h : ls ρ n = .ok xs n1) : eCall (arg1 gTuple) (aCons (eL ls) aNil) ρ n = .ok (.tuple xs) n1 := by
  rw [eCall_app, aCons_app, eL_app, h, bd_ok]
  rfl
theorem lenT_ok {xs : List D} (h : fa ρ n = .ok (.tuple xs) n1) : eCall (arg1 dLen) (aCons fa aNil) ρ n = .ok (natD xs.length) n1 := by
  rw [eCall_app, aCons_app, h, bd_ok]
  rfl
theorem lenL_ok {xs : List D} (h : fa ρ n = .ok (.list xs) n1) : eCall (arg1 dLen) (aCons fa aNil) ρ n = .ok (natD xs.length) n1 := by
  rw [eCall_app, aCons_app, h, bd_ok]
  rfl
theorem rng_ok (h : fa ρ n = .ok (natD j) n1) (hj : j ≤ 1000000) : iRange1 (aCons fa aNil) ρ n = .ok ((List.range j).map natD) n1 :=
  iRange1_nat (by rw [aCons_app, h, bd_ok]; rfl) hj
theorem map_get {α β : Type} (f : α → β) {xs : List α} {i : Nat} {a : α} (h : xs[i]? = some a) : (xs.map f)[i]? = some (f a) := by
  rw [List.getElem?_map, h]
  rfl
theorem range_at {s i : Nat} (h : i < s) : (List.range s)[i]? = some i := by
  rw [List.getElem?_range h]
theorem snoc_range {α : Type} (f : Nat → α) (k : Nat) : (List.range (k + 1)).map f = (List.range k).map f ++ [f k] := by
  rw [List.range_succ, List.map_append]
  rfl
end
end Mi
namespace Mi
open PySem PySem.Spec L2 PySem.W
theorem forL_map0 {α : Type} (enc : α → D) {i : Nat} {body : MS} (I : Nat → Mi.Env → Nat → Prop) {xs : List α} {ρ : Mi.Env} {n : Nat} (h : I 0 ρ n)
    (st : ∀ (j : Nat) (x : α) (ρ : Mi.Env) (n : Nat), xs[j]? = some x → I j ρ n → ∃ ρ2 n2, body (ρ.set i (.fz (enc x))) n = .ok (ρ2, .nx) n2 ∧ I (j + 1) ρ2 n2) :
    ∃ ρ' n', forL (.nm i) body (xs.map enc) ρ n = .ok (ρ', .nx) n' ∧ I xs.length ρ' n' := by
  have := forL_map enc (i := i) (body := body) I (xs := xs) (k := 0) (ρ := ρ) (n := n) h fun j x ρ n hx hI => by
    rw [Nat.zero_add] at hI ⊢
    exact st j x ρ n hx hI
  rw [Nat.zero_add] at this
  exact this
/-- over 0, 1, .., s - 1 -/
theorem forL_range {i s : Nat} {body : MS} (I : Nat → Mi.Env → Nat → Prop) {ρ : Mi.Env} {n : Nat} (h : I 0 ρ n)
    (st : ∀ (x : Nat) (ρ : Mi.Env) (n : Nat), x < s → I x ρ n → ∃ ρ2 n2, body (ρ.set i (.fz (natD x))) n = .ok (ρ2, .nx) n2 ∧ I (x + 1) ρ2 n2) :
    ∃ ρ' n', forL (.nm i) body ((List.range s).map natD) ρ n = .ok (ρ', .nx) n' ∧ I s ρ' n' := by
  have := forL_map0 natD (i := i) (body := body) I (xs := List.range s) (ρ := ρ) (n := n) h fun j x ρ n hx hI => by
    obtain ⟨rfl, hl⟩ := range_get hx
    exact st x ρ n hl hI
  rw [List.length_range] at this
  exact this
end Mi
namespace Mi
open PySem PySem.Spec L2 PySem.W
section
variable {ρ : Mi.Env} {n n1 n2 n3 k : Nat} {fa fb fc : Mi.Env → M D} {fs ls : Mi.Env → M (List D)} {tc td : Mi.Env → M Bool} {i j : Nat} {x y d : D} {ds : List D}
theorem e2_ok {h : D → D → M D} {r : Res D} (h1 : fa ρ n = .ok x n1) (h2 : fb ρ n1 = .ok y n2) (h3 : h x y n2 = r) : e2 h fa fb ρ n = r := by
  rw [e2_app, h1, bd_ok, bnd_app, h2, bd_ok]
  exact h3
theorem var_ok (h : ρ.at i = .fz d) : eVar i ρ n = .ok d n := by
  rw [eVar_app, h]
  rfl
theorem cons_ok (h1 : fa ρ n = .ok x n1) (h2 : fs ρ n1 = .ok ds n2) : aCons fa fs ρ n = .ok (x :: ds) n2 := by
  rw [aCons_app, h1, bd_ok, bnd_app, h2, bd_ok]
  rfl
theorem eL_ok (h : ls ρ n = .ok ds n1) : eL ls ρ n = .ok (.list ds) n1 := by
  rw [eL_app, h, bd_ok]
  rfl
theorem lst_ok (h : fs ρ n = .ok ds n1) (hz : ds.length ≤ 1000000) : lLst fs ρ n = .ok ds n1 := by
  have hs := sizeLine_eq
  rw [lLst_app, h, bd_ok, bnd_app, need_app, if_pos (decide_eq_true (by omega)), bd_ok]
  rfl
theorem tup_ok (h : fs ρ n = .ok ds n1) (hz : ds.length ≤ 1000000) : eTup fs ρ n = .ok (.tuple ds) n1 := by
  have hs := sizeLine_eq
  rw [eTup_app, h, bd_ok, bnd_app, need_app, if_pos (decide_eq_true (by omega)), bd_ok]
  rfl
theorem call1_ok {g : D → M D} {r : Res D} (h : fa ρ n = .ok x n1) (h2 : g x n1 = r) : eCall (arg1 g) (aCons fa aNil) ρ n = r := by
  rw [eCall_app, cons_ok h rfl, bd_ok]
  exact h2
theorem call2_ok {g : D → D → M D} {r : Res D} (h : fa ρ n = .ok x n1) (h' : fb ρ n1 = .ok y n2) (h2 : g x y n2 = r) : eCall (arg2 g) (aCons fa (aCons fb aNil)) ρ n = r := by
  rw [eCall_app, cons_ok h (cons_ok h' rfl), bd_ok]
  exact h2
theorem fn_ok {ar : Nat} {m : List D → M D} {r : Res D} (h : fs ρ n = .ok ds n1) (hl : ds.length = ar) (h2 : m ds n1 = r) : eFn ar m fs ρ n = r := by
  rw [eFn_app, h, bd_ok, bnd_app, need_app, if_pos (decide_eq_true hl), bd_ok]
  exact h2
theorem addN (a b : Nat) : dAdd (natD a) (natD b) n = .ok (natD (a + b)) n := by
  show Res.ok (PyData.int ((a : Int) + b)) n = _
  rw [← Int.natCast_add]
theorem modN {a s : Nat} (h : 0 < s) : dMod (natD a) (natD s) n = .ok (natD (a % s)) n := by
  rw [dMod_int, bnd_app, need_app, if_pos (decide_eq_true (by omega)), bd_ok, ← Int.natCast_emod]
  rfl
theorem modI {a : Int} {s : Nat} (h : 0 < s) : ∃ z : Nat, z < s ∧ (z : Int) = a % s ∧ dMod (.int a) (natD s) n = .ok (natD z) n := by
  have h1 : 0 ≤ a % (s : Int) := Int.emod_nonneg _ (by omega)
  have h2 : a % (s : Int) < s := Int.emod_lt_of_pos _ (by omega)
  refine ⟨(a % (s : Int)).toNat, by omega, by omega, ?_⟩
  rw [dMod_int, bnd_app, need_app, if_pos (decide_eq_true (by omega)), bd_ok, pure_app]
  congr 2
  show _ = ((_ : Nat) : Int)
  omega
theorem mulN {a b : Nat} (h : a < 1000000) : dMulI (natD a) (natD b) n = .ok (natD (a * b)) n := by
  rw [dMul_int, bnd_app, need_app, if_pos (decide_eq_true (.inl (by omega))), bd_ok, ← Int.natCast_mul]
  rfl
theorem minN (a b : Nat) : gMin2 (natD a) (natD b) n = .ok (natD (min a b)) n := by
  rw [gMin2_int, pure_app]
  congr 2
  show (if (b : Int) < a then (b : Int) else a) = ((min a b : Nat) : Int)
  split <;> omega
theorem maxN (a b : Nat) : gMax2 (natD a) (natD b) n = .ok (natD (max a b)) n := by
  rw [gMax2_int, pure_app]
  congr 2
  show (if (b : Int) > a then (b : Int) else a) = ((max a b : Nat) : Int)
  split <;> omega
end
end Mi
namespace Mi
open PySem PySem.Spec L2 PySem.W
section
variable {ρ ρ1 : Mi.Env} {n n1 n2 n3 k : Nat} {f g : MS} {fa fb fc : Mi.Env → M D} {fs ls : Mi.Env → M (List D)} {tc td : Mi.Env → M Bool} {i j : Nat} {x y d : D} {ds : List D} {r : Res (Mi.Env × Fl)}
theorem seq_ok (h1 : f ρ n = .ok (ρ1, .nx) n1) (h2 : g ρ1 n1 = r) : sSeq f g ρ n = r := by
  rw [sSeq_app, h1]
  exact h2
theorem seq_rt (h1 : f ρ n = .ok (ρ1, .rt d) n1) : sSeq f g ρ n = .ok (ρ1, .rt d) n1 := by
  rw [sSeq_app, h1]
  rfl
theorem seq_err {c : Str} (h1 : f ρ n = .err c n1) : sSeq f g ρ n = .err c n1 := by
  rw [sSeq_app, h1]
  rfl
theorem set_ok (h : fa ρ n = .ok d n1) : sSet i fa ρ n = .ok (ρ.set i (.fz d), .nx) n1 := by
  rw [sSet_app, h, bd_ok]
  rfl
theorem ret_ok (h : fa ρ n = .ok d n1) : sRet fa ρ n = .ok (ρ, .rt d) n1 := by
  rw [sRet_app, h, bd_ok]
  rfl
theorem drop_ok (h : fa ρ n = .ok d n1) : sDrop fa ρ n = .ok (ρ, .nx) n1 := by
  rw [sDrop_app, h, bd_ok]
  rfl
theorem if_ok {b : Bool} (h : tc ρ n = .ok b n1) (h2 : (if b = true then f ρ n1 else g ρ n1) = r) : sIf tc f g ρ n = r := by
  rw [sIf_app, h, bdB_ok]
  exact h2
theorem if_t (h : tc ρ n = .ok true n1) (h2 : f ρ n1 = r) : sIf tc f g ρ n = r := if_ok h h2
theorem if_f (h : tc ρ n = .ok false n1) (h2 : g ρ n1 = r) : sIf tc f g ρ n = r := if_ok h h2
theorem own_ok (h : fs ρ n = .ok ds n1) (hi : i < ρ.length) : sOwn i fs ρ n = .ok (ρ.set i (.ow ds), .nx) n1 := by
  rw [sOwn_app, h, bd_ok, bnd_app, need_app, if_pos (decide_eq_true hi), bd_ok]
  rfl
theorem own2_ok (hi : i < ρ.length) : sOwn2 i (lLst aNil) ρ n = .ok (ρ.set i (.ow2 []), .nx) n := by
  rw [sOwn2_app, lst_ok rfl (by simp), bd_ok, bnd_app, need_app, if_pos (decide_eq_true ⟨hi, rfl⟩), bd_ok]
  rfl
theorem tB_ok {b : Bool} (h : fa ρ n = .ok (.bool b) n1) : tB fa ρ n = .ok b n1 := by
  rw [tB_app, h, bd_ok]
  rfl
theorem ifE_ok {b : Bool} {r : Res D} (h : tc ρ n = .ok b n1) (h2 : (if b = true then fa ρ n1 else fb ρ n1) = r) : eIf tc fa fb ρ n = r := by
  rw [eIf_app, h, bdB_ok]
  exact h2
theorem rg1_ok (h : fa ρ n = .ok (natD j) n1) (hj : j ≤ 1000000) : lRg1 fa ρ n = .ok ((List.range j).map natD) n1 := by
  rw [lRg1_app, h, bd_ok, optI_int, bnd_app, some_app, bd_ok, bnd_app, need_app, if_pos (decide_eq_true (by omega)), bd_ok, pure_app, rg_map]
theorem run_ok {L : Nat} {b : MS} {ρ' : Mi.Env} (h : b (startE L ds) n = .ok (ρ', .rt d) n1) : Mi.run L b ds n = .ok d n1 := by
  rw [run_app, h]
  rfl
theorem run_nx {L : Nat} {b : MS} {ρ' : Mi.Env} (h : b (startE L ds) n = .ok (ρ', .nx) n1) : Mi.run L b ds n = .ok .none n1 := by
  rw [run_app, h]
  rfl
theorem run_err {L : Nat} {b : MS} {c : Str} (h : b (startE L ds) n = .err c n1) : Mi.run L b ds n = .err c n1 := by
  rw [run_app, h]
  rfl
theorem eBo_ok (h : fa (frz i ρ) n = .ok d n1) (hl : noL d = true) : eBo i fa ρ n = .ok d n1 := by
  rw [eBo_app, h, bd_ok, bnd_app, need_app, if_pos hl, bd_ok]
  rfl
theorem ltN (a b : Nat) : dLt (natD a) (natD b) n = .ok (.bool (decide (a < b))) n := by
  show Res.ok (PyData.bool (decide ((a : Int) < b))) n = _
  congr 2
  exact decide_eq_decide.mpr (by omega)
theorem leN (a b : Nat) : dLe (natD a) (natD b) n = .ok (.bool (decide (a ≤ b))) n := by
  show Res.ok (PyData.bool (decide ((a : Int) ≤ b))) n = _
  congr 2
  exact decide_eq_decide.mpr (by omega)
theorem gtN (a b : Nat) : dGt (natD a) (natD b) n = .ok (.bool (decide (b < a))) n := by
  show Res.ok (PyData.bool (decide ((b : Int) < a))) n = _
  congr 2
  exact decide_eq_decide.mpr (by omega)
theorem eqN (a b : Nat) : dEq (natD a) (natD b) n = .ok (.bool (decide (a = b))) n := by
  rw [dEq_nat]
  rfl
end
end Mi

end

section
set_option Elab.async false
set_option linter.all false
set_option maxRecDepth 100000
set_option maxHeartbeats 4000000
namespace Mi
open PySem PySem.Spec L2 PySem.W
section
variable {ρ ρ1 : Mi.Env} {n n1 n2 n3 k : Nat} {f g : MS} {fa fb fc : Mi.Env → M D} {fs ls : Mi.Env → M (List D)} {tc td : Mi.Env → M Bool} {i j : Nat} {x y d : D} {ds : List D} {r : Res (Mi.Env × Fl)}
theorem chainT {p q : D → D → M D} {x y z : D} {r : Res D} (h1 : fa ρ n = .ok x n1) (h2 : fb ρ n1 = .ok y n2) (h3 : p x y n2 = .ok (.bool true) n2) (h4 : fc ρ n2 = .ok z n3) (h5 : q y z n3 = r) : e3 p q fa fb fc ρ n = r := by
  rw [e3_app, h1, bd_ok, bnd_app, h2, bd_ok, bnd_app, h3, bd_ok, bnd_app, asB_app, bd_ok, if_pos rfl, bnd_app, h4, bd_ok]
  exact h5
theorem chainF {p q : D → D → M D} {x y : D} (h1 : fa ρ n = .ok x n1) (h2 : fb ρ n1 = .ok y n2) (h3 : p x y n2 = .ok (.bool false) n2) : e3 p q fa fb fc ρ n = .ok (.bool false) n2 := by
  rw [e3_app, h1, bd_ok, bnd_app, h2, bd_ok, bnd_app, h3, bd_ok, bnd_app, asB_app, bd_ok, if_neg Bool.false_ne_true]
  rfl
theorem leLeN {a b c : Nat} (h1 : fa ρ n = .ok (natD a) n1) (h2 : fb ρ n1 = .ok (natD b) n2) (h4 : fc ρ n2 = .ok (natD c) n2) : e3 dLe dLe fa fb fc ρ n = .ok (.bool (decide (a ≤ b ∧ b ≤ c))) n2 := by
  by_cases h : a ≤ b
  · rw [chainT h1 h2 (by rw [leN, decide_eq_true h]) h4 (leN b c)]
    congr 2
    exact decide_eq_decide.mpr ⟨fun z => ⟨h, z⟩, fun z => z.2⟩
  · rw [chainF h1 h2 (by rw [leN, decide_eq_false h]), decide_eq_false (fun z => h z.1)]
theorem leLtI {a : Int} {b : Int} {c : Int} (h1 : fa ρ n = .ok (.int a) n1) (h2 : fb ρ n1 = .ok (.int b) n2) (h4 : fc ρ n2 = .ok (.int c) n2) : e3 dLe dLt fa fb fc ρ n = .ok (.bool (decide (a ≤ b ∧ b < c))) n2 := by
  by_cases h : a ≤ b
  · rw [chainT h1 h2 (show _ = Res.ok (PyData.bool true) n2 by rw [dLe_int, pure_app, decide_eq_true h]) h4 (show _ = Res.ok (PyData.bool (decide (b < c))) n2 from rfl)]
    congr 2
    exact decide_eq_decide.mpr ⟨fun z => ⟨h, z⟩, fun z => z.2⟩
  · rw [chainF h1 h2 (show _ = Res.ok (PyData.bool false) n2 by rw [dLe_int, pure_app, decide_eq_false h]), decide_eq_false (fun z => h z.1)]
theorem allC {α : Type} {xs : List α} {p : α → Bool} (h : ls ρ n = .ok (xs.map fun x => PyData.bool (p x)) n1) : eCall (arg1 (gAll fun bs => bs.all id)) (aCons (eL ls) aNil) ρ n = .ok (.bool (xs.all p)) n1 := by
  refine call1_ok (eL_ok h) ?_
  have e : (xs.map fun x => PyData.bool (p x)) = (xs.map p).map PyData.bool := by rw [List.map_map]; rfl
  rw [e, gAll_bls]
  congr 2
  rw [List.all_map]
  rfl
theorem anyC {α : Type} {xs : List α} {p : α → Bool} (h : ls ρ n = .ok (xs.map fun x => PyData.bool (p x)) n1) : eCall (arg1 (gAll fun bs => bs.any id)) (aCons (eL ls) aNil) ρ n = .ok (.bool (xs.any p)) n1 := by
  refine call1_ok (eL_ok h) ?_
  have e : (xs.map fun x => PyData.bool (p x)) = (xs.map p).map PyData.bool := by rw [List.map_map]; rfl
  rw [e, gAll_bls]
  congr 2
  rw [List.any_map]
  rfl
theorem tT_ok {b : Bool} (h : fa ρ n = .ok x n1) (h2 : dTru x n1 = .ok b n1) : tT fa ρ n = .ok b n1 := by
  rw [tT_app, h, bd_ok]
  exact h2
theorem tTb {b : Bool} (h : fa ρ n = .ok (.bool b) n1) : tT fa ρ n = .ok b n1 := tT_ok h rfl
theorem not_ok {b : Bool} (h : tc ρ n = .ok b n1) : bNot tc ρ n = .ok (!b) n1 := by
  rw [bNot_app, h, bd_ok]
  rfl
theorem or_t (h : tc ρ n = .ok true n1) : bOr tc td ρ n = .ok true n1 := by
  rw [bOr_app, h]
  rfl
theorem or_f {r : Res Bool} (h : tc ρ n = .ok false n1) (h2 : td ρ n1 = r) : bOr tc td ρ n = r := by
  rw [bOr_app, h]
  exact h2
theorem or_ok {a b : Bool} (h : tc ρ n = .ok a n1) (h2 : td ρ n1 = .ok b n1) : bOr tc td ρ n = .ok (a || b) n1 := by
  cases a with
  | true => exact or_t h
  | false => exact or_f h h2
theorem and_f (h : tc ρ n = .ok false n1) : bAnd tc td ρ n = .ok false n1 := by
  rw [bAnd_app, h]
  rfl
theorem and_t {r : Res Bool} (h : tc ρ n = .ok true n1) (h2 : td ρ n1 = r) : bAnd tc td ρ n = r := by
  rw [bAnd_app, h]
  exact h2
theorem and_ok {a b : Bool} (h : tc ρ n = .ok a n1) (h2 : td ρ n1 = .ok b n1) : bAnd tc td ρ n = .ok (a && b) n1 := by
  cases a with
  | false => exact and_f h
  | true => exact and_t h h2
theorem seqT {xs : List D} (h : fa ρ n = .ok (.tuple xs) n1) : iSeq fa ρ n = .ok xs n1 := iSeq_tup xs h
theorem seqL {xs : List D} (h : fa ρ n = .ok (.list xs) n1) : iSeq fa ρ n = .ok xs n1 := iSeq_list xs h
theorem try_ok {names : List Str} (h : fa ρ n = .ok d n1) : sTry names k i j fa ρ n = .ok (ρ.set k (.fz d), .nx) n1 := by
  unfold sTry
  rw [h]
theorem try_err {names : List Str} {c : Str} (h : fa ρ n = .err c n1) (hr : ranked names c = true) : sTry names k i j fa ρ n = .ok (((ρ.set i (.fz (excD c))).set j (.fz (excD c))).set i .no, .nx) n1 := by
  unfold sTry
  rw [h]
  dsimp only
  rw [if_pos hr]
theorem eFn_err {ar : Nat} {m : List D → M D} {c : Str} (h : fs ρ n = .ok ds n1) (hl : ds.length = ar) (h2 : m ds n1 = .err c n2) : eFn ar m fs ρ n = .err c n2 := fn_ok h hl h2
theorem drop_err {c : Str} (h : fa ρ n = .err c n1) : sDrop fa ρ n = .err c n1 := by
  rw [sDrop_app, h]
  rfl
theorem isX_ok {cv : Str → Option Bool} {c : Str} {b : Bool} (h : fa ρ n = .ok (excD c) n1) (h2 : cv c = some b) : eIsX cv fa ρ n = .ok (.bool b) n1 := by
  unfold eIsX
  rw [bnd_app, h, bd_ok]
  show (ofOpt (excName (excD c)) >>= _) n1 = _
  rw [show excName (excD c) = some c from rfl, bnd_app, some_app, bd_ok, h2, bnd_app, some_app, bd_ok]
  rfl
theorem neg_ok {a : Int} (h : fa ρ n = .ok (.int a) n1) : eNeg fa ρ n = .ok (.int (-a)) n1 := by
  rw [eNeg_app, h, bd_ok, optI_int, bnd_app, some_app, bd_ok]
  rfl
theorem listT_ok {xs : List D} (h : fa ρ n = .ok (.tuple xs) n1) : lCall (arg1 gList) (aCons fa aNil) ρ n = .ok xs n1 := by
  rw [lCall_app, cons_ok h rfl, bd_ok]
  rfl
theorem listL_ok {xs : List D} (h : fa ρ n = .ok (.list xs) n1) : lCall (arg1 gList) (aCons fa aNil) ρ n = .ok xs n1 := by
  rw [lCall_app, cons_ok h rfl, bd_ok]
  rfl
/-- once, of nats -/
def onceN (xs : List Nat) : List Nat := (once (xs.map Int.ofNat)).map Int.toNat
theorem seqInts_nats (xs : List Nat) : intsOf (xs.map natD) = some (xs.map Int.ofNat) := by
  have := intsOf_map (xs.map Int.ofNat)
  rw [List.map_map] at this
  exact this
theorem once_nats (xs : List Nat) : (once (xs.map Int.ofNat)).map PyData.int = (onceN xs).map natD := by
  unfold onceN
  rw [List.map_map]
  refine List.map_congr_left fun z hz => ?_
  obtain ⟨w, _, rfl⟩ := List.mem_map.mp (mem_once.mp hz)
  rfl
theorem mem_onceN {x : Nat} {xs : List Nat} : x ∈ onceN xs ↔ x ∈ xs := by
  unfold onceN
  rw [List.mem_map]
  constructor
  · rintro ⟨z, hz, rfl⟩
    obtain ⟨w, hw, rfl⟩ := List.mem_map.mp (mem_once.mp hz)
    exact hw
  · exact fun h => ⟨Int.ofNat x, mem_once.mpr (List.mem_map.mpr ⟨x, h, rfl⟩), rfl⟩
theorem onceN_lt (xs : List Nat) : (onceN xs).Pairwise (· < ·) := by
  unfold onceN
  rw [List.pairwise_map]
  refine (once_lt _).imp_of_mem fun {a b} ha hb h => ?_
  obtain ⟨v, _, rfl⟩ := List.mem_map.mp (mem_once.mp ha)
  obtain ⟨w, _, rfl⟩ := List.mem_map.mp (mem_once.mp hb)
  simpa using h
theorem srtT_ok {xs : List Nat} (h : fa ρ n = .ok (.tuple (xs.map natD)) n1) (hz : xs.length < 60) : lSrt fa ρ n = .ok ((onceN xs).map natD) n1 := by
  unfold lSrt
  rw [bnd_app, h, bd_ok, show seqInts (.tuple (xs.map natD)) = some (xs.map Int.ofNat) from seqInts_nats xs, bnd_app, some_app, bd_ok, bnd_app, need_app, if_pos (decide_eq_true (by simpa using hz)), bd_ok, pure_app, once_nats]
theorem srtL_ok {xs : List Nat} (h : fa ρ n = .ok (.list (xs.map natD)) n1) (hz : xs.length < 60) : lSrt fa ρ n = .ok ((onceN xs).map natD) n1 := by
  unfold lSrt
  rw [bnd_app, h, bd_ok, show seqInts (.list (xs.map natD)) = some (xs.map Int.ofNat) from seqInts_nats xs, bnd_app, some_app, bd_ok, bnd_app, need_app, if_pos (decide_eq_true (by simpa using hz)), bd_ok, pure_app, once_nats]
end
end Mi
namespace Mi
open PySem PySem.Spec L2 PySem.W
section
variable {ρ ρ2 : Mi.Env} {n n2 : Nat} {body : MS} {i : Nat} {d : D} {r : List D}
theorem forL_nil {p : Pat} : forL p body [] ρ n = .ok (ρ, .nx) n := rfl
theorem forL_eq : forL (.nm i) body (d :: r) ρ n = (body (ρ.set i (.fz d)) n).bd fun q => match q with
      | (ρ2, .nx) => forL (.nm i) body r ρ2
      | (ρ2, .ct) => forL (.nm i) body r ρ2
      | (ρ2, .bk) => pure (ρ2, .nx)
      | (ρ2, .rt d) => pure (ρ2, .rt d)
      | (ρ2, .ro ds) => pure (ρ2, .ro ds) := bnd_app _ _ _
theorem forL_nx (h : body (ρ.set i (.fz d)) n = .ok (ρ2, .nx) n2) : forL (.nm i) body (d :: r) ρ n = forL (.nm i) body r ρ2 n2 := by
  rw [forL_eq, h]
  rfl
theorem forL_err {c : Str} (h : body (ρ.set i (.fz d)) n = .err c n2) : forL (.nm i) body (d :: r) ρ n = .err c n2 := by
  rw [forL_eq, h]
  rfl
theorem forL_rt {e : D} (h : body (ρ.set i (.fz d)) n = .ok (ρ2, .rt e) n2) : forL (.nm i) body (d :: r) ρ n = .ok (ρ2, .rt e) n2 := by
  rw [forL_eq, h]
  rfl
end
/-- while, k turns at most: the invariant holds ahead of each test; the measure falls -/
theorem whL_inv {c : Mi.Env → M Bool} {body : MS} (I : Mi.Env → Nat → Prop) (μ : Mi.Env → Nat) (st : ∀ ρ n, I ρ n → ∃ b n1, c ρ n = .ok b n1 ∧ (b = true → ∃ ρ2 n2, body ρ n1 = .ok (ρ2, .nx) n2 ∧ I ρ2 n2 ∧ μ ρ2 < μ ρ) ∧ (b = false → I ρ n1)) :
    ∀ (k : Nat) (ρ : Mi.Env) (n : Nat), I ρ n → μ ρ < k → ∃ ρ' n' n0, whL c body k ρ n = .ok (ρ', .nx) n' ∧ I ρ' n' ∧ I ρ' n0 ∧ c ρ' n0 = .ok false n'
  | 0, _, _, _, h => absurd h (Nat.not_lt_zero _)
  | k + 1, ρ, n, h, hm => by
    obtain ⟨b, n1, e, ht, hf⟩ := st ρ n h
    have e0 : whL c body (k + 1) ρ n = (if b = true then (body ρ >>= fun q => match q with
        | (ρ2, .nx) => whL c body k ρ2
        | (ρ2, .ct) => whL c body k ρ2
        | (ρ2, .bk) => pure (ρ2, .nx)
        | (ρ2, .rt d) => pure (ρ2, .rt d)
        | (ρ2, .ro ds) => pure (ρ2, .ro ds) : M (Mi.Env × Fl)) else pure (ρ, .nx)) n1 := by
      show (c ρ >>= _) n = _
      rw [bnd_app, e, bd_ok] <;> rfl
    cases b with
    | false =>
      refine ⟨ρ, n1, n, ?_, hf rfl, h, e⟩
      rw [e0, if_neg Bool.false_ne_true]
      rfl
    | true =>
      obtain ⟨ρ2, n2, e2, h2, hl⟩ := ht rfl
      obtain ⟨ρ', n', n0, e3, h3, h4, h5⟩ := whL_inv I μ st k ρ2 n2 h2 (by omega)
      refine ⟨ρ', n', n0, ?_, h3, h4, h5⟩
      rw [e0, if_pos rfl, bnd_app, e2, bd_ok]
      exact e3
end Mi

end

section
set_option Elab.async false
set_option linter.all false
set_option maxRecDepth 100000
set_option maxHeartbeats 4000000
namespace Mi
open PySem PySem.Spec L2 PySem.W
/-- a loop that may return early, with one answer -/
theorem forL_any {α : Type} (enc : α → D) {i : Nat} {body : MS} (I : Mi.Env → Prop) (p : α → Bool) (d : D) {n : Nat} : ∀ {xs : List α} {ρ : Mi.Env}, I ρ →
    (∀ x ∈ xs, ∀ ρ, I ρ → (p x = true → ∃ ρ', body (ρ.set i (.fz (enc x))) n = .ok (ρ', .rt d) n) ∧ (p x = false → ∃ ρ', body (ρ.set i (.fz (enc x))) n = .ok (ρ', .nx) n ∧ I ρ')) →
    (xs.any p = true → ∃ ρ', forL (.nm i) body (xs.map enc) ρ n = .ok (ρ', .rt d) n) ∧ (xs.any p = false → ∃ ρ', forL (.nm i) body (xs.map enc) ρ n = .ok (ρ', .nx) n ∧ I ρ')
  | [], ρ, h, _ => ⟨fun z => (by cases z), fun _ => ⟨ρ, rfl, h⟩⟩
  | x :: r, ρ, h, st => by
    obtain ⟨h1, h2⟩ := st x List.mem_cons_self ρ h
    rw [List.any_cons, List.map_cons]
    cases e : p x with
    | true =>
      refine ⟨fun _ => ?_, fun z => by rw [Bool.true_or] at z; cases z⟩
      obtain ⟨ρ', q⟩ := h1 e
      exact ⟨ρ', forL_rt q⟩
    | false =>
      obtain ⟨ρ', q, h'⟩ := h2 e
      rw [Bool.false_or, forL_nx q]
      exact forL_any enc I p d h' fun y hy => st y (List.mem_cons_of_mem _ hy)
/-- two loops, one within the other, over 0 .. s - 1 -/
theorem for2_any {i j s : Nat} {fi fj : Mi.Env → M (List D)} {body : MS} (I : Mi.Env → Prop) (p : Nat → Nat → Bool) (d : D) {n : Nat} {ρ : Mi.Env} (h : I ρ) (hi : ∀ ρ, I ρ → fi ρ n = .ok ((List.range s).map natD) n)
    (hj : ∀ (a : Nat) (ρ : Mi.Env), I ρ → fj (ρ.set i (.fz (natD a))) n = .ok ((List.range s).map natD) n) (hI : ∀ (a : Nat) (ρ : Mi.Env), I ρ → I (ρ.set i (.fz (natD a))))
    (st : ∀ (a b : Nat), a < s → b < s → ∀ ρ, I ρ → ρ.at i = .fz (natD a) → (p a b = true → ∃ ρ', body (ρ.set j (.fz (natD b))) n = .ok (ρ', .rt d) n) ∧ (p a b = false → ∃ ρ', body (ρ.set j (.fz (natD b))) n = .ok (ρ', .nx) n ∧ I ρ' ∧ ρ'.at i = .fz (natD a)))
    (hat : ∀ (a : Nat) (ρ : Mi.Env), I ρ → (Env.at (ρ.set i (.fz (natD a))) i) = .fz (natD a)) :
    ((List.range s).any (fun a => (List.range s).any fun b => p a b) = true → ∃ ρ', sFor fi (.nm i) (sFor fj (.nm j) body) ρ n = .ok (ρ', .rt d) n) ∧
    ((List.range s).any (fun a => (List.range s).any fun b => p a b) = false → ∃ ρ', sFor fi (.nm i) (sFor fj (.nm j) body) ρ n = .ok (ρ', .nx) n ∧ I ρ') := by
  rw [sFor_ok (hi ρ h)]
  refine forL_any natD I (fun a => (List.range s).any fun b => p a b) d h fun a ha ρ hρ => ?_
  have ha : a < s := by simpa using ha
  rw [sFor_ok (hj a ρ hρ)]
  have key := forL_any natD (i := j) (body := body) (fun ρ => I ρ ∧ ρ.at i = .fz (natD a)) (fun b => p a b) d (n := n) (xs := List.range s) (ρ := ρ.set i (.fz (natD a))) ⟨hI a ρ hρ, hat a ρ hρ⟩ fun b hb ρ' h' => by
    obtain ⟨q1, q2⟩ := st a b ha (by simpa using hb) ρ' h'.1 h'.2
    exact ⟨q1, fun z => by obtain ⟨ρ2, e, g⟩ := q2 z; exact ⟨ρ2, e, g⟩⟩
  exact ⟨key.1, fun z => by obtain ⟨ρ', e, g⟩ := key.2 z; exact ⟨ρ', e, g.1⟩⟩
end Mi
namespace Mi
open PySem PySem.Spec L2 PySem.W
theorem addT (a b : List D) (n : Nat) (h : a.length + b.length ≤ 1000000) : dAdd (.tuple a) (.tuple b) n = .ok (.tuple (a ++ b)) n := by
  have hs := sizeLine_eq
  show (need (decide (a.length + b.length ≤ sizeLine)) >>= fun _ => (pure (.tuple (a ++ b)) : M D)) n = _
  rw [bnd_app, need_app, if_pos (decide_eq_true (by omega)), bd_ok]
  rfl
theorem addL (a b : List D) (n : Nat) (h : a.length + b.length ≤ 1000000) : dAdd (.list a) (.list b) n = .ok (.list (a ++ b)) n := by
  have hs := sizeLine_eq
  show (need (decide (a.length + b.length ≤ sizeLine)) >>= fun _ => (pure (.list (a ++ b)) : M D)) n = _
  rw [bnd_app, need_app, if_pos (decide_eq_true (by omega)), bd_ok]
  rfl
end Mi

end

section
set_option Elab.async false
set_option linter.all false
set_option maxRecDepth 100000
set_option maxHeartbeats 4000000
namespace Mi
open PySem PySem.Spec L2 PySem.W
/-! ways to write values down as data, told apart by == -/
structure Enc {α : Type} [DecidableEq α] (e : α → D) where
  dep : Nat
  plain : ∀ a, (e a).plain = true
  eqv : ∀ a b, PyData.eqv (e a) (e b) = decide (a = b)
  le : ∀ a, (e a).depth ≤ dep
section
variable {α β : Type} [DecidableEq α] [DecidableEq β] {e : α → D} {e' : β → D}
def encOf (α : Type) [DecidableEq α] [Datum α] : Enc (Datum.toD : α → D) := ⟨Datum.depth α, Datum.plain, Datum.eqv, Datum.depth_le⟩
def encN : Enc natD := encOf Nat
def encI : Enc PyData.int := encOf Int
def encB : Enc PyData.bool := encOf Bool
def encS : Enc PyData.str := encOf Str
theorem encPl (E : Enc e) : ∀ xs : List α, PyData.plainAll (xs.map e) = true
  | [] => rfl
  | x :: xs => by
    rw [List.map_cons, PyData.plainAll, E.plain x, encPl E xs]
    rfl
theorem encDe (E : Enc e) : ∀ xs : List α, PyData.depthAll (xs.map e) ≤ E.dep
  | [] => Nat.zero_le _
  | x :: xs => by
    rw [List.map_cons, PyData.depthAll]
    exact Nat.max_le.mpr ⟨E.le x, encDe E xs⟩
theorem encEq (E : Enc e) : ∀ xs ys : List α, PyData.eqvAll (xs.map e) (ys.map e) = decide (xs = ys)
  | [], [] => by simp only [List.map_nil, PyData.eqvAll, decide_true]
  | [], _ :: _ => by simp [PyData.eqvAll]
  | _ :: _, [] => by simp [PyData.eqvAll]
  | x :: xs, y :: ys => by
    rw [List.map_cons, List.map_cons, PyData.eqvAll, E.eqv x y, encEq E xs ys, ← Bool.decide_and]
    exact decide_eq_decide.mpr (by rw [List.cons.injEq])
def encL (E : Enc e) : Enc (fun xs : List α => PyData.list (xs.map e)) where
  dep := E.dep + 1
  plain xs := by simp only [PyData.plain]; exact encPl E xs
  eqv xs ys := by simp only [PyData.eqv]; exact encEq E xs ys
  le xs := by simp only [PyData.depth]; exact Nat.succ_le_succ (encDe E xs)
def encT (E : Enc e) : Enc (fun xs : List α => PyData.tuple (xs.map e)) where
  dep := E.dep + 1
  plain xs := by simp only [PyData.plain]; exact encPl E xs
  eqv xs ys := by simp only [PyData.eqv]; exact encEq E xs ys
  le xs := by simp only [PyData.depth]; exact Nat.succ_le_succ (encDe E xs)
def encP (E : Enc e) (E' : Enc e') : Enc (fun p : α × β => PyData.tuple [e p.1, e' p.2]) where
  dep := max E.dep E'.dep + 1
  plain p := by simp only [PyData.plain, PyData.plainAll, E.plain, E'.plain, Bool.and_self]
  eqv p q := by
    simp only [PyData.eqv, PyData.eqvAll]
    rw [E.eqv, E'.eqv, Bool.and_true, ← Bool.decide_and]
    exact decide_eq_decide.mpr ⟨fun e => Prod.ext e.1 e.2, fun e => by rw [e]; exact ⟨rfl, rfl⟩⟩
  le p := by
    simp only [PyData.depth, PyData.depthAll]
    refine Nat.succ_le_succ (Nat.max_le.mpr ⟨Nat.le_trans (E.le p.1) (Nat.le_max_left _ _), Nat.max_le.mpr ⟨Nat.le_trans (E'.le p.2) (Nat.le_max_right _ _), Nat.zero_le _⟩⟩)
def encRow : Enc rowD := encT encN
def encTab : Enc tabD := encT encRow
theorem enc_okD (E : Enc e) (h : E.dep ≤ 60) (a : α) : okD (e a) = true := by
  unfold okD
  rw [E.plain, Bool.true_and]
  exact decide_eq_true (Nat.le_trans (E.le a) h)
theorem eq_enc (E : Enc e) (h : E.dep ≤ 60) (a b : α) (n : Nat) : dEq (e a) (e b) n = .ok (.bool (decide (a = b))) n := by
  unfold dEq
  rw [enc_okD E h, enc_okD E h, E.eqv]
  rfl
theorem ne_enc (E : Enc e) (h : E.dep ≤ 60) (a b : α) (n : Nat) : dNe (e a) (e b) n = .ok (.bool (!decide (a = b))) n := by
  unfold dNe
  rw [enc_okD E h, enc_okD E h, E.eqv]
  rfl
theorem ne_same (E : Enc e) (h : E.dep ≤ 60) (a : α) (n : Nat) : dNe (e a) (e a) n = .ok (.bool false) n := by
  rw [ne_enc E h, decide_eq_true rfl]
  rfl
theorem inD_enc (E : Enc e) (a : α) (xs : List α) : inD (e a) (xs.map e) = decide (a ∈ xs) := by
  unfold inD
  rw [Bool.eq_iff_iff, List.any_eq_true, decide_eq_true_eq]
  constructor
  · rintro ⟨d, hd, q⟩
    obtain ⟨x, hx, rfl⟩ := List.mem_map.mp hd
    rw [E.eqv, decide_eq_true_eq] at q
    exact q ▸ hx
  · exact fun hx => ⟨_, List.mem_map.mpr ⟨a, hx, rfl⟩, by rw [E.eqv]; exact decide_eq_true rfl⟩
theorem in_enc (E : Enc e) (h : E.dep ≤ 59) (a : α) (xs : List α) (n : Nat) : dIn false (e a) (.list (xs.map e)) n = .ok (.bool (decide (a ∈ xs))) n := by
  have q : dIn false (e a) (.list (xs.map e)) = (need (okD (e a) && okD (.list (xs.map e))) >>= fun _ => pure (.bool (inD (e a) (xs.map e)))) := by
    unfold dIn
    cases e a <;> rfl
  rw [q, enc_okD E (by omega), enc_okD (encL E) (show E.dep + 1 ≤ 60 by omega) xs, inD_enc E]
  rfl
theorem notin_enc (E : Enc e) (h : E.dep ≤ 59) (a : α) (xs : List α) (n : Nat) : dIn true (e a) (.list (xs.map e)) n = .ok (.bool (!decide (a ∈ xs))) n := by
  have q : dIn true (e a) (.list (xs.map e)) = (need (okD (e a) && okD (.list (xs.map e))) >>= fun _ => pure (.bool (!inD (e a) (xs.map e)))) := by
    unfold dIn
    cases e a <;> rfl
  rw [q, enc_okD E (by omega), enc_okD (encL E) (show E.dep + 1 ≤ 60 by omega) xs, inD_enc E]
  rfl
theorem place_enc (E : Enc e) (a : α) : ∀ (xs : List α), a ∈ xs → PySem.SeqAt.dataPlace (xs.map e) (e a) = some (xs.idxOf a)
  | [], h => by cases h
  | x :: r, h => by
    unfold PySem.SeqAt.dataPlace
    rw [List.map_cons, List.findIdx?_cons, E.eqv]
    by_cases q : x = a
    · rw [if_pos (decide_eq_true q), q, List.idxOf_cons_self]
    · rw [if_neg (by simpa using q), List.idxOf_cons, show (x == a) = false from by simpa using q]
      have hm : a ∈ r := by
        rcases List.mem_cons.mp h with z | z
        · exact absurd z.symm q
        · exact z
      have ih := place_enc E a r hm
      unfold PySem.SeqAt.dataPlace at ih
      rw [ih]
      rfl
theorem idx_enc {fa fb : Mi.Env → M D} {ρ : Mi.Env} {n n1 n2 : Nat} (E : Enc e) (h : E.dep ≤ 59) {a : α} {xs : List α} (h1 : fa ρ n = .ok (.list (xs.map e)) n1) (h2 : fb ρ n1 = .ok (e a) n2) (hm : a ∈ xs) (hz : xs.length ≤ 1000000) :
    eIdx fa fb ρ n = .ok (natD (xs.idxOf a)) n2 := by
  have hs := sizeLine_eq
  unfold eIdx
  rw [bnd_app, h1, bd_ok, asL_lst, bnd_app, some_app, bd_ok, bnd_app, h2, bd_ok, bnd_app, need_app, enc_okD (encL E) (show E.dep + 1 ≤ 60 by omega) xs, enc_okD E (by omega), if_pos (by
    rw [Bool.true_and, Bool.true_and, List.length_map]
    exact decide_eq_true (by omega)), bd_ok, place_enc E a xs hm]
  rfl
end
end Mi

end

section
set_option Elab.async false
set_option linter.all false
set_option maxRecDepth 100000
set_option maxHeartbeats 4000000
/-! ## Mg: typed meanings. A mirror's run over encoded values is what a typed function says, wherever that says something. -/
namespace Mi
open PySem PySem.Spec L2 PySem.W
/-- r does, by e, what m says -/
def Is {α β : Type} (e : α → β) (r : M β) (m : M α) : Prop := ∀ n, match m n with
  | .ok a k => r n = .ok (e a) k
  | .err c k => r n = .err c k
  | .bad => True
inductive Ctl (σ τ : Type) where
  | nx (s : σ)
  | rt (v : τ)
/-- a statement's run: each outcome b of m is met, by K, by the names and the way that it ends -/
def J {β : Type} (K : β → Mi.Env × Fl → Prop) (r : M (Mi.Env × Fl)) (m : M β) : Prop := ∀ n, match m n with
  | .ok b k => ∃ q, r n = .ok q k ∧ K b q
  | .err c k => r n = .err c k
  | .bad => True
def KF {τ : Type} (e : τ → D) : τ → Mi.Env × Fl → Prop := fun v q => q.2 = .rt (e v) ∨ (q.2 = .nx ∧ e v = .none)
def KN {σ : Type} (R : σ → Mi.Env → Prop) : σ → Mi.Env × Fl → Prop := fun s q => q.2 = .nx ∧ R s q.1
def KC {σ τ : Type} (R : σ → Mi.Env → Prop) (e : τ → D) : Ctl σ τ → Mi.Env × Fl → Prop := fun c q => match c with
  | .nx s => q.2 = .nx ∧ R s q.1
  | .rt v => q.2 = .rt (e v)
section
variable {α β γ δ α' β' : Type} {e : α → β} {e' : α' → β'} {r : M β} {m : M α}
theorem Is.ok (h : Is e r m) {n k : Nat} {a : α} (hm : m n = .ok a k) : r n = .ok (e a) k := by
  have := h n
  rw [hm] at this
  exact this
theorem Is.er (h : Is e r m) {n k : Nat} {c : Str} (hm : m n = .err c k) : r n = .err c k := by
  have := h n
  rw [hm] at this
  exact this
theorem is_pure {a : α} : Is e (pure (e a)) (pure a) := fun _ => rfl
theorem is_pure' {a : α} {b : β} (h : b = e a) : Is e (pure b) (pure a) := fun _ => by subst h; rfl
theorem is_bad : Is e r bad := fun _ => trivial
theorem is_bind {f : β → M β'} {g : α → M α'} (h : Is e r m) (hf : ∀ a, Is e' (f (e a)) (g a)) : Is e' (r >>= f) (m >>= g) := fun n => by
  have hn := h n
  rw [bnd_app, bnd_app]
  cases q : m n with
  | ok a k =>
    rw [q] at hn
    have hn : r n = .ok (e a) k := hn
    rw [hn]
    exact hf a k
  | err c k =>
    rw [q] at hn
    have hn : r n = .err c k := hn
    rw [hn]
    exact rfl
  | bad => exact trivial
theorem is_id : Is (id : α → α) m m := fun n => by cases m n <;> first | rfl | trivial
theorem is_need {b : Bool} {f : Unit → M β} {g : Unit → M α} (h : b = true → Is e (f ()) (g ())) : Is e (need b >>= f) (need b >>= g) := by
  cases b with
  | true => exact h rfl
  | false => exact fun _ => trivial
/-- the mirror needs less than the typed one does -/
theorem is_needI {b c : Bool} {f : Unit → M β} {g : Unit → M α} (hi : c = true → b = true) (h : c = true → Is e (f ()) (g ())) : Is e (need b >>= f) (need c >>= g) := by
  cases c with
  | true => rw [hi rfl]; exact h rfl
  | false => exact fun _ => trivial
theorem is_needL {b : Bool} {f : Unit → M β} (hi : b = true) (h : Is e (f ()) m) : Is e (need b >>= f) m := by
  rw [hi]
  exact h
theorem is_needR {c : Bool} {g : Unit → M α} (h : c = true → Is e r (g ())) : Is e r (need c >>= g) := by
  cases c with
  | true => exact h rfl
  | false => exact fun _ => trivial
theorem is_opt {x : γ → β'} {o : Option γ} {o' : Option β'} {f : β' → M β} {g : γ → M α} (ho : o' = o.map x) (h : ∀ a, o = some a → Is e (f (x a)) (g a)) : Is e (ofOpt o' >>= f) (ofOpt o >>= g) := by
  subst ho
  cases o with
  | none => exact fun _ => trivial
  | some a => exact h a rfl
theorem is_opt0 {o : Option α} {o' : Option β} (ho : o' = o.map e) : Is e (ofOpt o') (ofOpt o) := by
  subst ho
  cases o with
  | none => exact fun _ => trivial
  | some a => exact fun _ => rfl
theorem is_noErr (h : Is e r m) : Is e (noErr r) (noErr m) := fun n => by
  have hn := h n
  cases q : m n with
  | ok a k =>
    rw [q] at hn
    have hn : r n = .ok (e a) k := hn
    rw [noErr_app, noErr_app, q, hn]
  | err c k => rw [noErr_app, q]; trivial
  | bad => rw [noErr_app, q]; trivial
theorem is_ite {b : Bool} {r r' : M β} {m m' : M α} (h : Is e r m) (h' : Is e r' m') : Is e (if b = true then r else r') (if b = true then m else m') := by
  cases b
  · exact h'
  · exact h
/-- another way to write it down -/
theorem is_co {e2 : γ → β} {co : α → γ} (h : Is e r m) (hc : ∀ a, e2 (co a) = e a) : Is e2 r (m >>= fun a => pure (co a)) := fun n => by
  have hn := h n
  rw [bnd_app]
  cases q : m n with
  | ok a k =>
    rw [q] at hn
    have hn : r n = .ok (e a) k := hn
    show r n = .ok (e2 (co a)) k
    rw [hn, hc]
  | err c k =>
    rw [q] at hn
    exact hn
  | bad => exact trivial
/-- .. not for all -/
theorem is_coM {e2 : γ → β} {co : α → M γ} (h : Is e r m) (hc : ∀ a, Is e2 (pure (e a)) (co a)) : Is e2 r (m >>= co) := fun n => by
  have hn := h n
  rw [bnd_app]
  cases q : m n with
  | ok a k =>
    rw [q] at hn
    have hn : r n = .ok (e a) k := hn
    have := hc a k
    rw [bd_ok, hn]
    cases z : co a k with
    | ok b k' =>
      rw [z] at this
      exact this
    | err c k' =>
      rw [z] at this
      cases this
    | bad => trivial
  | err c k =>
    rw [q] at hn
    exact hn
  | bad => exact trivial
end
/-! ### ways to write values down -/
abbrev eI : Int → D := PyData.int
abbrev eB : Bool → D := PyData.bool
abbrev eS : Str → D := PyData.str
abbrev eLi {α : Type} (e : α → D) (xs : List α) : D := PyData.list (xs.map e)
abbrev eTu {α : Type} (e : α → D) (xs : List α) : D := PyData.tuple (xs.map e)
abbrev eP {α β : Type} (e : α → D) (e' : β → D) (p : α × β) : D := PyData.tuple [e p.1, e' p.2]
abbrev eP3 {α β γ : Type} (e : α → D) (e' : β → D) (e'' : γ → D) (p : α × β × γ) : D := PyData.tuple [e p.1, e' p.2.1, e'' p.2.2]
def eO {α : Type} (e : α → D) : Option α → D
  | none => .none
  | some a => e a
def eX : Option Str → D
  | none => .none
  | some c => excD c
abbrev eU : Unit → D := fun _ => .none
abbrev eW : Unit → D := fun _ => townD
abbrev eA : D → D := fun d => d
def enN : Enc natD := encN
def enI : Enc eI := encI
def enB : Enc eB := encB
def enS : Enc eS := encS
def enL {α : Type} [DecidableEq α] {e : α → D} (E : Enc e) : Enc (eLi e) := encL E
def enT {α : Type} [DecidableEq α] {e : α → D} (E : Enc e) : Enc (eTu e) := encT E
def enP {α β : Type} [DecidableEq α] [DecidableEq β] {e : α → D} {e' : β → D} (E : Enc e) (E' : Enc e') : Enc (eP e e') := encP E E'
/-- none, or something that is not None -/
def enO {α : Type} [DecidableEq α] {e : α → D} (E : Enc e) (h : ∀ a, isNone (e a) = false) : Enc (eO e) where
  dep := E.dep
  plain a := by cases a with
    | none => rfl
    | some a => exact E.plain a
  eqv a b := by
    cases a with
    | none =>
      cases b with
      | none => rfl
      | some b =>
        show PyData.eqv .none (e b) = _
        have := h b
        cases q : e b <;> first | rfl | (rw [q] at this; cases this)
    | some a =>
      cases b with
      | none =>
        show PyData.eqv (e a) .none = _
        have := h a
        cases q : e a <;> first | rfl | (rw [q] at this; cases this)
      | some b =>
        show PyData.eqv (e a) (e b) = _
        rw [E.eqv]
        exact decide_eq_decide.mpr (by rw [Option.some.injEq])
  le a := by cases a with
    | none => exact Nat.zero_le _
    | some a => exact E.le a
end Mi

end

section
set_option Elab.async false
set_option linter.all false
set_option maxRecDepth 100000
set_option maxHeartbeats 4000000
/-! ## Mg2: expressions -/
namespace Mi
open PySem PySem.Spec L2 PySem.W
/-! what the typed ones say -/
section
variable {α β γ : Type}
def room (k : Nat) : M Unit := need (decide (k ≤ sizeLine))
def ixN (xs : List α) (i : Nat) : M α := ofOpt xs[i]?
def ixI (xs : List α) (i : Int) : M α := ofOpt (atI xs i)
def catM (xs ys : List α) : M (List α) := room (xs.length + ys.length) >>= fun _ => pure (xs ++ ys)
def catS (x y : Str) : M Str := room (x.length + y.length) >>= fun _ => pure (x ++ y)
def mulN' (a b : Nat) : M Nat := need (decide (a < 2 ^ 64 ∨ b < 2 ^ 64)) >>= fun _ => pure (a * b)
def mulI' (a b : Int) : M Int := need (decide ((-(2 ^ 64) < a ∧ a < 2 ^ 64) ∨ (-(2 ^ 64) < b ∧ b < 2 ^ 64))) >>= fun _ => pure (a * b)
def modN' (a b : Nat) : M Nat := need (decide (0 < b)) >>= fun _ => pure (a % b)
def modI' (a : Int) (b : Nat) : M Nat := need (decide (0 < b)) >>= fun _ => pure (a % b).toNat
def divN' (a b : Nat) : M Nat := need (decide (0 < b ∧ b < 1073741824)) >>= fun _ => pure (a / b)
def powN' (a b : Nat) : M Nat := need (decide (b ≤ 1000000 ∧ a < 2 ^ 64)) >>= fun _ => pure (a ^ b)
def eqD (x y : D) : M Bool := need (okD x && okD y) >>= fun _ => pure (PyData.eqv x y)
def neD (x y : D) : M Bool := need (okD x && okD y) >>= fun _ => pure (!PyData.eqv x y)
def asBD : D → M Bool
  | .bool b => pure b
  | _ => bad
def memB [DecidableEq α] (a : α) (xs : List α) : Bool := decide (a ∈ xs)
theorem memB_iff [DecidableEq α] {a : α} {xs : List α} : memB a xs = true ↔ a ∈ xs := decide_eq_true_iff
def rgM (k : Nat) : M (List Nat) := need (decide (k ≤ 16777216)) >>= fun _ => pure (List.range k)
def iterM (k : Nat) : M (List Nat) := need (decide (k < 2 ^ 62)) >>= fun _ => pure (List.range k)
def iter2M (i k : Nat) : M (List Nat) := need (decide (i < 2 ^ 62 ∧ k < 2 ^ 62)) >>= fun _ => pure ((List.range (k - i)).map (i + ·))
def srtN (xs : List Nat) : M (List Nat) := need (decide (xs.length < 60)) >>= fun _ => pure (onceN xs)
def srtI (xs : List Int) : M (List Int) := need (decide (xs.length < 60)) >>= fun _ => pure (once xs)
def lensN (xs : List Nat) : M Nat := need (decide (xs.length < 60)) >>= fun _ => pure (onceN xs).length
def lensI (xs : List Int) : M Nat := need (decide (xs.length < 60)) >>= fun _ => pure (once xs).length
def cutL (xs : List α) (lo hi : Option Int) : List α := (xs.drop (HT.sIx xs.length 0 lo)).take (HT.sIx xs.length xs.length hi - HT.sIx xs.length 0 lo)
def idxM [DecidableEq α] (xs : List α) (a : α) : M Nat := room xs.length >>= fun _ => need (decide (a ∈ xs)) >>= fun _ => pure (xs.idxOf a)
def cntM [DecidableEq α] (xs : List α) (a : α) : M Nat := room xs.length >>= fun _ => pure (xs.countP fun x => decide (x = a))
def repM (xs : List α) (k : Nat) : M (List α) := room (xs.length * k) >>= fun _ => pure (List.replicate k xs).flatten
def townLen : M Nat := fun n => .ok n n
def mapA (g : α → M β) : List α → List β → M (List β)
  | [], acc => pure acc
  | a :: r, acc => noErr (g a) >>= fun y => need (decide (acc.length < sizeLine)) >>= fun _ => mapA g r (acc ++ [y])
def mapMM (g : α → M β) (xs : List α) : M (List β) := mapA g xs []
def compA (p : α → M Bool) (g : α → M β) : List α → List β → M (List β)
  | [], acc => pure acc
  | a :: r, acc => noErr (p a) >>= fun b => if b = true then noErr (g a) >>= fun y => need (decide (acc.length < sizeLine)) >>= fun _ => compA p g r (acc ++ [y]) else compA p g r acc
def compM (p : α → M Bool) (g : α → M β) (xs : List α) : M (List β) := compA p g xs []
end
/-! leaves -/
section
variable {α β γ δ : Type} {ea : α → D} {eb : β → D} {ec : γ → D} {ed : δ → D} {ρ : Mi.Env} {fa fb fc : Mi.Env → M D} {fs ls : Mi.Env → M (List D)} {tc td : Mi.Env → M Bool} {i j : Nat} {ma : M α} {mb : M β} {mc : M γ}
theorem y_v {a : α} (h : ρ.at i = .fz (ea a)) : Is ea (eVar i ρ) (pure a) := by
  have : eVar i ρ = pure (ea a) := by
    unfold eVar
    rw [h]
  rw [this]
  exact is_pure
theorem y_k {d : D} {a : α} (h : d = ea a) : Is ea (eC d ρ) (pure a) := is_pure' h
theorem y_2 {g : D → D → M D} {h : α → β → M γ} (hg : ∀ a b, Is ec (g (ea a) (eb b)) (h a b)) (ha : Is ea (fa ρ) ma) (hb : Is eb (fb ρ) mb) : Is ec (e2 g fa fb ρ) (ma >>= fun a => mb >>= fun b => h a b) :=
  is_bind ha fun a => is_bind hb fun b => hg a b
theorem y_c1 {g : D → M D} {h : α → M β} (hg : ∀ a, Is eb (g (ea a)) (h a)) (ha : Is ea (fa ρ) ma) : Is eb (eCall (arg1 g) (aCons fa aNil) ρ) (ma >>= fun a => h a) := fun n => by
  have : eCall (arg1 g) (aCons fa aNil) ρ = fa ρ >>= g := by
    funext n
    rw [eCall_app, aCons_app, bnd_app]
    cases fa ρ n <;> rfl
  rw [this]
  exact is_bind ha hg n
theorem y_c2 {g : D → D → M D} {h : α → β → M γ} (hg : ∀ a b, Is ec (g (ea a) (eb b)) (h a b)) (ha : Is ea (fa ρ) ma) (hb : Is eb (fb ρ) mb) : Is ec (eCall (arg2 g) (aCons fa (aCons fb aNil)) ρ) (ma >>= fun a => mb >>= fun b => h a b) := fun n => by
  have : eCall (arg2 g) (aCons fa (aCons fb aNil)) ρ = fa ρ >>= fun x => fb ρ >>= fun y => g x y := by
    funext n
    rw [eCall_app, aCons_app, bnd_app]
    cases fa ρ n with
    | ok a k =>
      rw [bd_ok, bd_ok, bnd_app, aCons_app, bnd_app]
      cases fb ρ k <;> rfl
    | _ => rfl
  rw [this]
  exact is_bind ha (fun a => is_bind hb fun b => hg a b) n
theorem yl_c1 {g : D → M (List D)} {h : α → M (List β)} (hg : ∀ a, Is (List.map eb) (g (ea a)) (h a)) (ha : Is ea (fa ρ) ma) : Is (List.map eb) (lCall (arg1 g) (aCons fa aNil) ρ) (ma >>= fun a => h a) := fun n => by
  have : lCall (arg1 g) (aCons fa aNil) ρ = fa ρ >>= g := by
    funext n
    rw [lCall_app, aCons_app, bnd_app]
    cases fa ρ n <;> rfl
  rw [this]
  exact is_bind ha hg n
theorem y_eL {ml : M (List α)} (h : Is (List.map ea) (ls ρ) ml) : Is (eLi ea) (eL ls ρ) ml := fun n => by
  have hn := h n
  rw [eL_app]
  cases q : ml n with
  | ok a k =>
    rw [q] at hn
    have hn : ls ρ n = .ok (a.map ea) k := hn
    rw [hn]
    rfl
  | err c k =>
    rw [q] at hn
    have hn : ls ρ n = .err c k := hn
    rw [hn]
    rfl
  | bad => trivial
/-! calls of the program's own defs -/
theorem fn_arg {ar : Nat} {f : List D → M D} : eFn ar f fs ρ = fs ρ >>= fun ds => need (decide (ds.length = ar)) >>= fun _ => f ds := rfl
theorem y_f0 {f : List D → M D} {g : M γ} (hf : Is ec (f []) g) : Is ec (eFn 0 f aNil ρ) g := fun n => hf n
theorem y_f1 {f : List D → M D} {g : α → M γ} (hf : ∀ a, Is ec (f [ea a]) (g a)) (ha : Is ea (fa ρ) ma) : Is ec (eFn 1 f (aCons fa aNil) ρ) (ma >>= fun a => g a) := fun n => by
  have : eFn 1 f (aCons fa aNil) ρ = fa ρ >>= fun x => f [x] := by
    funext n
    rw [eFn_app, aCons_app, bnd_app]
    cases fa ρ n <;> rfl
  rw [this]
  exact is_bind ha hf n
theorem y_f2 {f : List D → M D} {g : α → β → M γ} (hf : ∀ a b, Is ec (f [ea a, eb b]) (g a b)) (ha : Is ea (fa ρ) ma) (hb : Is eb (fb ρ) mb) : Is ec (eFn 2 f (aCons fa (aCons fb aNil)) ρ) (ma >>= fun a => mb >>= fun b => g a b) := fun n => by
  have : eFn 2 f (aCons fa (aCons fb aNil)) ρ = fa ρ >>= fun x => fb ρ >>= fun y => f [x, y] := by
    funext n
    rw [eFn_app, aCons_app, bnd_app]
    cases fa ρ n with
    | ok a k =>
      rw [bd_ok, bd_ok, bnd_app, aCons_app, bnd_app]
      cases fb ρ k <;> rfl
    | _ => rfl
  rw [this]
  exact is_bind ha (fun a => is_bind hb fun b => hf a b) n
variable {α' : Type} {ea' : α' → D} {ma' : M α'} {fd : Mi.Env → M D} {md : M δ}
theorem y_f3 {f : List D → M D} {g : α → β → γ → M δ} (hf : ∀ a b c, Is ed (f [ea a, eb b, ec c]) (g a b c)) (ha : Is ea (fa ρ) ma) (hb : Is eb (fb ρ) mb) (hc : Is ec (fc ρ) mc) : Is ed (eFn 3 f (aCons fa (aCons fb (aCons fc aNil))) ρ) (ma >>= fun a => mb >>= fun b => mc >>= fun c => g a b c) := fun n => by
  have : eFn 3 f (aCons fa (aCons fb (aCons fc aNil))) ρ = fa ρ >>= fun x => fb ρ >>= fun y => fc ρ >>= fun z => f [x, y, z] := by
    funext n
    rw [eFn_app, aCons_app, bnd_app]
    cases fa ρ n with
    | ok a k =>
      rw [bd_ok, bd_ok, bnd_app, aCons_app, bnd_app]
      cases fb ρ k with
      | ok b k =>
        rw [bd_ok, bd_ok, bnd_app, aCons_app, bnd_app]
        cases fc ρ k <;> rfl
      | _ => rfl
    | _ => rfl
  rw [this]
  exact is_bind ha (fun a => is_bind hb fun b => is_bind hc fun c => hf a b c) n
theorem y_f4 {f : List D → M D} {g : α → β → γ → δ → M α'} (hf : ∀ a b c d, Is ea' (f [ea a, eb b, ec c, ed d]) (g a b c d)) (ha : Is ea (fa ρ) ma) (hb : Is eb (fb ρ) mb) (hc : Is ec (fc ρ) mc) (hd : Is ed (fd ρ) md) :
    Is ea' (eFn 4 f (aCons fa (aCons fb (aCons fc (aCons fd aNil)))) ρ) (ma >>= fun a => mb >>= fun b => mc >>= fun c => md >>= fun d => g a b c d) := fun n => by
  have : eFn 4 f (aCons fa (aCons fb (aCons fc (aCons fd aNil)))) ρ = fa ρ >>= fun x => fb ρ >>= fun y => fc ρ >>= fun z => fd ρ >>= fun w => f [x, y, z, w] := by
    funext n
    rw [eFn_app, aCons_app, bnd_app]
    cases fa ρ n with
    | ok a k =>
      rw [bd_ok, bd_ok, bnd_app, aCons_app, bnd_app]
      cases fb ρ k with
      | ok b k =>
        rw [bd_ok, bd_ok, bnd_app, aCons_app, bnd_app]
        cases fc ρ k with
        | ok c k =>
          rw [bd_ok, bd_ok, bnd_app, aCons_app, bnd_app]
          cases fd ρ k <;> rfl
        | _ => rfl
      | _ => rfl
    | _ => rfl
  rw [this]
  exact is_bind ha (fun a => is_bind hb fun b => is_bind hc fun c => is_bind hd fun d => hf a b c d) n
/-! tests -/
theorem y_tB {m : M Bool} (h : Is eB (fa ρ) m) : Is (fun b : Bool => b) (tB fa ρ) m := fun n => by
  have hn := h n
  rw [tB_app]
  cases q : m n with
  | ok a k =>
    rw [q] at hn
    have hn : fa ρ n = .ok (eB a) k := hn
    rw [hn]
    rfl
  | err c k =>
    rw [q] at hn
    have hn : fa ρ n = .err c k := hn
    rw [hn]
    rfl
  | bad => trivial
theorem y_tT {t : α → M Bool} (ht : ∀ a, Is (fun b : Bool => b) (dTru (ea a)) (t a)) (h : Is ea (fa ρ) ma) : Is (fun b : Bool => b) (tT fa ρ) (ma >>= fun a => t a) := is_bind h ht
theorem tr_B (b : Bool) : Is (fun b : Bool => b) (dTru (eB b)) (pure b) := fun _ => rfl
theorem tr_L (xs : List α) : Is (fun b : Bool => b) (dTru (eLi ea xs)) (pure (!xs.isEmpty)) := fun _ => by cases xs <;> rfl
theorem tr_T (xs : List α) : Is (fun b : Bool => b) (dTru (eTu ea xs)) (pure (!xs.isEmpty)) := fun _ => by cases xs <;> rfl
theorem tr_R (xs : List Int) : Is (fun b : Bool => b) (dTru (scrD xs)) (pure (!xs.isEmpty)) := fun _ => by cases xs <;> rfl
theorem tr_D (d : D) : Is (fun b : Bool => b) (dTru (eA d)) (dTru d) := is_id
variable {m1 m2 : M Bool}
abbrev iB : Bool → Bool := fun b => b
theorem y_bNot (h : Is iB (tc ρ) m1) : Is iB (bNot tc ρ) (m1 >>= fun b => pure (!b)) := is_bind h fun _ => is_pure
theorem y_bAnd (h : Is iB (tc ρ) m1) (h2 : Is iB (td ρ) m2) : Is iB (bAnd tc td ρ) (m1 >>= fun b => if b = true then m2 else pure false) := is_bind h fun _ => is_ite h2 is_pure
theorem y_bOr (h : Is iB (tc ρ) m1) (h2 : Is iB (td ρ) m2) : Is iB (bOr tc td ρ) (m1 >>= fun b => if b = true then pure true else m2) := is_bind h fun _ => is_ite is_pure h2
theorem y_tY : Is iB (tYesM ρ) (pure true) := is_pure
theorem asB_is {b : Bool} {f : Bool → M D} : (asB (eB b) >>= f) = f b := rfl
theorem y_eNot (h : Is eB (fa ρ) m1) : Is eB (eNot fa ρ) (m1 >>= fun b => pure (!b)) := is_bind h fun b => by rw [asB_is]; exact is_pure
theorem y_eAnd (h : Is eB (fa ρ) m1) (h2 : Is eB (fb ρ) m2) : Is eB (eAnd fa fb ρ) (m1 >>= fun b => if b = true then m2 else pure false) := is_bind h fun b => by rw [asB_is]; exact is_ite h2 is_pure
theorem y_eOr (h : Is eB (fa ρ) m1) (h2 : Is eB (fb ρ) m2) : Is eB (eOr fa fb ρ) (m1 >>= fun b => if b = true then pure true else m2) := is_bind h fun b => by rw [asB_is]; exact is_ite is_pure h2
theorem y_eIf {a b : M α} (h : Is iB (tc ρ) m1) (h2 : Is ea (fa ρ) a) (h3 : Is ea (fb ρ) b) : Is ea (eIf tc fa fb ρ) (m1 >>= fun c => if c = true then a else b) := is_bind h fun _ => is_ite h2 h3
theorem y_3 {p q : D → D → M D} {h : α → β → M Bool} {h' : β → γ → M Bool} (hp : ∀ a b, Is eB (p (ea a) (eb b)) (h a b)) (hq : ∀ b c, Is eB (q (eb b) (ec c)) (h' b c)) (ha : Is ea (fa ρ) ma) (hb : Is eb (fb ρ) mb) (hc : Is ec (fc ρ) mc) :
    Is eB (e3 p q fa fb fc ρ) (ma >>= fun a => mb >>= fun b => h a b >>= fun k => if k = true then mc >>= fun c => h' b c else pure false) :=
  is_bind ha fun a => is_bind hb fun b => is_bind (hp a b) fun k => by
    rw [asB_is]
    exact is_ite (is_bind hc fun c => hq b c) is_pure
end
end Mi

end

section
set_option Elab.async false
set_option linter.all false
set_option maxRecDepth 100000
set_option maxHeartbeats 4000000
/-! ## Mg3: operations -/
namespace Mi
open PySem PySem.Spec L2 PySem.W
section
variable {α β γ δ : Type} {ea : α → D} {eb : β → D} {ec : γ → D} {ed : δ → D}
/-! numbers -/
theorem o_addN (a b : Nat) : Is natD (dAdd (natD a) (natD b)) (pure (a + b)) := fun n => addN a b
theorem o_addI (a b : Int) : Is eI (dAdd (eI a) (eI b)) (pure (a + b)) := fun n => rfl
theorem o_subI (a b : Int) : Is eI (dSub (eI a) (eI b)) (pure (a - b)) := fun n => rfl
theorem o_subN (a b : Nat) : Is eI (dSub (natD a) (natD b)) (pure ((a : Int) - (b : Int))) := fun n => rfl
theorem o_mulN (a b : Nat) : Is natD (dMulI (natD a) (natD b)) (mulN' a b) := by
  show Is natD (need _ >>= _) _
  refine is_needI (fun h => ?_) fun _ => is_pure' ?_
  · have h := of_decide_eq_true h
    exact decide_eq_true (by omega)
  · show PyData.int _ = PyData.int _
    rw [Int.natCast_mul]
theorem o_mulI (a b : Int) : Is eI (dMulI (eI a) (eI b)) (mulI' a b) := is_need fun _ => is_pure
theorem o_modN (a b : Nat) : Is natD (dMod (natD a) (natD b)) (modN' a b) := by
  refine is_needI (fun h => ?_) fun _ => is_pure' ?_
  · have h := of_decide_eq_true h
    exact decide_eq_true (by omega)
  · show PyData.int _ = PyData.int _
    rw [Int.natCast_emod]
theorem o_modI (a : Int) (b : Nat) : Is natD (dMod (eI a) (natD b)) (modI' a b) := by
  refine is_needI (fun h => ?_) fun h => is_pure' ?_
  · have h := of_decide_eq_true h
    exact decide_eq_true (by omega)
  · have h : 0 < b := of_decide_eq_true h
    have h1 : 0 ≤ a % (b : Int) := Int.emod_nonneg _ (by omega)
    show PyData.int _ = PyData.int _
    rw [Int.toNat_of_nonneg h1]
theorem o_divN (a b : Nat) : Is natD (dFdiv (natD a) (natD b)) (divN' a b) := by
  refine is_needI (fun h => ?_) fun _ => is_pure' ?_
  · have h := of_decide_eq_true h
    exact decide_eq_true (by omega)
  · show PyData.int _ = PyData.int _
    rw [Int.natCast_ediv]
theorem o_powN (a b : Nat) : Is natD (dPow (natD a) (natD b)) (powN' a b) := by
  refine is_needI (fun h => ?_) fun _ => is_pure' ?_
  · have h := of_decide_eq_true h
    exact decide_eq_true (by omega)
  · show PyData.int _ = PyData.int _
    rw [Int.toNat_natCast, Int.natCast_pow]
theorem o_ltN (a b : Nat) : Is eB (dLt (natD a) (natD b)) (pure (decide (a < b))) := fun n => ltN a b
theorem o_leN (a b : Nat) : Is eB (dLe (natD a) (natD b)) (pure (decide (a ≤ b))) := fun n => leN a b
theorem o_gtN (a b : Nat) : Is eB (dGt (natD a) (natD b)) (pure (decide (b < a))) := fun n => gtN a b
theorem o_geN (a b : Nat) : Is eB (dGe (natD a) (natD b)) (pure (decide (b ≤ a))) := fun n => by
  show Res.ok (PyData.bool (decide ((b : Int) ≤ a))) n = _
  congr 2
  exact decide_eq_decide.mpr (by omega)
theorem o_ltI (a b : Int) : Is eB (dLt (eI a) (eI b)) (pure (decide (a < b))) := fun n => rfl
theorem o_leI (a b : Int) : Is eB (dLe (eI a) (eI b)) (pure (decide (a ≤ b))) := fun n => rfl
theorem o_gtI (a b : Int) : Is eB (dGt (eI a) (eI b)) (pure (decide (b < a))) := fun n => rfl
theorem o_geI (a b : Int) : Is eB (dGe (eI a) (eI b)) (pure (decide (b ≤ a))) := fun n => rfl
def ltS (a b : Str) : Bool := decide (a.cps.toList < b.cps.toList)
theorem o_ltS (a b : Str) : Is eB (dLt (eS a) (eS b)) (pure (ltS a b)) := fun n => rfl
theorem o_minN (a b : Nat) : Is natD (gMin2 (natD a) (natD b)) (pure (min a b)) := fun n => minN a b
theorem o_maxN (a b : Nat) : Is natD (gMax2 (natD a) (natD b)) (pure (max a b)) := fun n => maxN a b
/-! alike, within -/
theorem o_eq [DecidableEq α] (E : Enc ea) (h : E.dep ≤ 59) (a b : α) : Is eB (dEq (ea a) (ea b)) (pure (decide (a = b))) := fun n => eq_enc E (by omega) a b n
theorem o_ne [DecidableEq α] (E : Enc ea) (h : E.dep ≤ 59) (a b : α) : Is eB (dNe (ea a) (ea b)) (pure (!decide (a = b))) := fun n => ne_enc E (by omega) a b n
theorem o_eqD (a : α) (b : β) : Is eB (dEq (ea a) (eb b)) (eqD (ea a) (eb b)) := is_need fun _ => is_pure
theorem o_neD (a : α) (b : β) : Is eB (dNe (ea a) (eb b)) (neD (ea a) (eb b)) := is_need fun _ => is_pure
theorem o_in [DecidableEq α] (E : Enc ea) (h : E.dep ≤ 59) (a : α) (xs : List α) : Is eB (dIn false (ea a) (eLi ea xs)) (pure (memB a xs)) := fun n => in_enc E h a xs n
theorem o_notIn [DecidableEq α] (E : Enc ea) (h : E.dep ≤ 59) (a : α) (xs : List α) : Is eB (dIn true (ea a) (eLi ea xs)) (pure (!memB a xs)) := fun n => notin_enc E h a xs n
theorem in_T {neg : Bool} {d : D} {ds : List D} : dIn neg d (.tuple ds) = (need (okD d && okD (.tuple ds)) >>= fun _ => pure (.bool (if neg then !inD d ds else inD d ds))) := by
  unfold dIn
  cases d <;> rfl
theorem o_inT [DecidableEq α] (E : Enc ea) (h : E.dep ≤ 59) (a : α) (xs : List α) : Is eB (dIn false (ea a) (eTu ea xs)) (pure (memB a xs)) := fun n => by
  rw [in_T, enc_okD E (by omega), enc_okD (encT E) (show E.dep + 1 ≤ 60 by omega) xs, inD_enc E]
  rfl
theorem o_notInT [DecidableEq α] (E : Enc ea) (h : E.dep ≤ 59) (a : α) (xs : List α) : Is eB (dIn true (ea a) (eTu ea xs)) (pure (!memB a xs)) := fun n => by
  rw [in_T, enc_okD E (by omega), enc_okD (encT E) (show E.dep + 1 ≤ 60 by omega) xs, inD_enc E]
  rfl
theorem o_inS (a b : Str) : Is eB (dIn false (eS a) (eS b)) (pure (inStr a b)) := fun n => rfl
theorem o_notInS (a b : Str) : Is eB (dIn true (eS a) (eS b)) (pure (!inStr a b)) := fun n => rfl
def dInB (neg : Bool) (x y : D) : M Bool := dIn neg x y >>= asB
theorem o_inD {neg : Bool} (a : α) (b : β) : Is eB (dIn neg (ea a) (eb b)) (dInB neg (ea a) (eb b)) := fun n => by
  unfold dInB
  rw [bnd_app]
  cases dIn neg (ea a) (eb b) n with
  | ok d k =>
    rw [bd_ok]
    cases d <;> trivial
  | err c k => rfl
  | bad => trivial
theorem o_isO (h : ∀ a, isNone (ea a) = false) (a : Option α) (u : Unit) : Is eB (dIs (eO ea a) (eU u)) (pure a.isNone) := fun n => by
  cases a with
  | none => rfl
  | some a =>
    show Res.ok (PyData.bool (isNone (ea a))) n = _
    rw [h]
    rfl
theorem o_isNotO (h : ∀ a, isNone (ea a) = false) (a : Option α) (u : Unit) : Is eB (dIsNot (eO ea a) (eU u)) (pure a.isSome) := fun n => by
  cases a with
  | none => rfl
  | some a =>
    show Res.ok (PyData.bool (!isNone (ea a))) n = _
    rw [h]
    rfl
theorem o_isX (a : Option Str) (u : Unit) : Is eB (dIs (eX a) (eU u)) (pure a.isNone) := fun n => by cases a <;> rfl
theorem o_isD (a : α) (u : Unit) : Is eB (dIs (ea a) (eU u)) (pure (isNone (ea a))) := fun n => rfl
theorem o_isNotD (a : α) (u : Unit) : Is eB (dIsNot (ea a) (eU u)) (pure (!isNone (ea a))) := fun n => rfl
/-! sequences -/
theorem o_ixLN (xs : List α) (i : Nat) : Is ea (dIx (eLi ea xs) (natD i)) (ixN xs i) := is_opt0 (by rw [atI_cast, List.getElem?_map])
theorem o_ixTN (xs : List α) (i : Nat) : Is ea (dIx (eTu ea xs) (natD i)) (ixN xs i) := is_opt0 (by rw [atI_cast, List.getElem?_map])
theorem o_ixLI (xs : List α) (i : Int) : Is ea (dIx (eLi ea xs) (eI i)) (ixI xs i) := is_opt0 (atI_map ea xs i)
theorem o_ixTI (xs : List α) (i : Int) : Is ea (dIx (eTu ea xs) (eI i)) (ixI xs i) := is_opt0 (atI_map ea xs i)
theorem o_ixRN (xs : List Int) (i : Nat) : Is eI (dIx (scrD xs) (natD i)) (ixN xs i) := is_opt0 (by rw [atI_cast, List.getElem?_map])
def ixS (z : Str) (i : Nat) : M Str := need (decide (z.length ≤ sizeLine)) >>= fun _ => ofOpt z.cps.toList[i]? >>= fun c => pure ⟨#[c]⟩
theorem o_ixSN (z : Str) (i : Nat) : Is eS (dIx (eS z) (natD i)) (ixS z i) := is_need fun _ => is_opt (x := id) (by rw [atI_cast, Option.map_id, id]) fun c _ => is_pure
theorem o_ixD (a : α) (b : β) : Is eA (dIx (ea a) (eb b)) (dIx (ea a) (eb b)) := is_id
theorem o_addL (xs ys : List α) : Is (eLi ea) (dAdd (eLi ea xs) (eLi ea ys)) (catM xs ys) := is_needI (fun h => by rw [List.length_map, List.length_map]; exact h) fun _ => is_pure' (by unfold eLi; rw [List.map_append])
theorem o_addT (xs ys : List α) : Is (eTu ea) (dAdd (eTu ea xs) (eTu ea ys)) (catM xs ys) := is_needI (fun h => by rw [List.length_map, List.length_map]; exact h) fun _ => is_pure' (by unfold eTu; rw [List.map_append])
theorem o_addS (x y : Str) : Is eS (dAdd (eS x) (eS y)) (catS x y) := is_need fun _ => is_pure
theorem o_lenL (xs : List α) : Is natD (dLen (eLi ea xs)) (pure xs.length) := is_pure' (by rw [List.length_map])
theorem o_lenT (xs : List α) : Is natD (dLen (eTu ea xs)) (pure xs.length) := is_pure' (by rw [List.length_map])
theorem o_lenP (p : α × β) : Is natD (dLen (eP ea eb p)) (pure 2) := is_pure' rfl
theorem o_lenR (xs : List Int) : Is natD (dLen (scrD xs)) (pure xs.length) := is_pure' (by rw [List.length_map])
theorem o_lenW (u : Unit) : Is natD (dLen (eW u)) townLen := fun n => rfl
theorem o_lenS (z : Str) : Is natD (dLen (eS z)) (need (decide (z.length ≤ sizeLine)) >>= fun _ => pure z.length) := is_need fun _ => is_pure' rfl
def lenR : D → M Nat
  | .int i => if 0 ≤ i then pure i.toNat else bad
  | _ => bad
def lenD (d : D) : M Nat := dLen d >>= lenR
theorem o_lenD (a : α) : Is natD (dLen (ea a)) (lenD (ea a)) := fun n => by
  unfold lenD
  rw [bnd_app]
  cases dLen (ea a) n with
  | ok d k =>
    rw [bd_ok]
    cases d with
    | int i =>
      have e : lenR (.int i) = if 0 ≤ i then pure i.toNat else bad := rfl
      by_cases h : 0 ≤ i
      · rw [e, if_pos h]
        show Res.ok (PyData.int i) k = Res.ok (PyData.int (i.toNat : Int)) k
        rw [Int.toNat_of_nonneg h]
      · rw [e, if_neg h]
        trivial
    | _ => trivial
  | err c k => rfl
  | bad => trivial
theorem o_tupL (xs : List α) : Is (eTu ea) (gTuple (eLi ea xs)) (pure xs) := is_pure
theorem o_tupT (xs : List α) : Is (eTu ea) (gTuple (eTu ea xs)) (pure xs) := is_pure
theorem o_tupD (a : α) : Is eA (gTuple (ea a)) (gTuple (ea a)) := is_id
theorem o_allB (k : List Bool → Bool) (bs : List Bool) : Is eB (gAll k (eLi eB bs)) (pure (k bs)) := fun n => gAll_bls k bs n
theorem o_str (a : Nat) : Is eS (gStrI (natD a)) (need (decide (a.log2 < 1920)) >>= fun _ => pure (toString (a : Int))) := is_need fun _ => is_pure
theorem ol_listL (xs : List α) : Is (List.map ea) (gList (eLi ea xs)) (pure xs) := is_pure
theorem ol_listT (xs : List α) : Is (List.map ea) (gList (eTu ea xs)) (pure xs) := is_pure
theorem ol_listD (a : α) : Is (List.map eA) (gList (ea a)) (gList (ea a)) := fun n => by
  cases gList (ea a) n with
  | ok d k => show Res.ok d k = Res.ok (d.map eA) k; rw [show d.map eA = d from List.map_id d]
  | err c k => rfl
  | bad => trivial
/-- sorted(xs) -/
def sortM (e : α → D) (xs : List α) : M (List α) := need (sortOk (xs.map e)) >>= fun _ => pure (xs.mergeSort fun a b => PySem.W.dataLe false id (e a) (e b))
theorem ol_sort (xs : List α) : Is (List.map ea) (gSort (eLi ea xs)) (sortM ea xs) := is_need fun _ => is_pure' (by
  unfold srtD
  exact (List.map_mergeSort (f := ea) (r := fun a b => PySem.W.dataLe false id (ea a) (ea b)) (s := PySem.W.dataLe false id) (l := xs) (fun a _ b _ => rfl)).symm)
end
/-! more of expressions -/
section
variable {α β γ δ : Type} {ea : α → D} {eb : β → D} {ec : γ → D} {ρ : Mi.Env} {fa fb fc : Mi.Env → M D} {fs ls : Mi.Env → M (List D)} {tc td : Mi.Env → M Bool} {i j : Nat} {ma : M α} {mb : M β} {mc : M γ}
theorem y_fst {m : M (α × β)} (h : Is (eP ea eb) (fa ρ) m) : Is ea (e2 dIx fa (eC (.int 0)) ρ) (m >>= fun p => pure p.1) := is_bind h fun p => fun _ => rfl
theorem y_snd {m : M (α × β)} (h : Is (eP ea eb) (fa ρ) m) : Is eb (e2 dIx fa (eC (.int 1)) ρ) (m >>= fun p => pure p.2) := is_bind h fun p => fun _ => rfl
theorem y_p2 (ha : Is ea (fa ρ) ma) (hb : Is eb (fb ρ) mb) : Is (eP ea eb) (eTup (aCons fa (aCons fb aNil)) ρ) (ma >>= fun a => mb >>= fun b => pure (a, b)) := fun n => by
  have hs := sizeLine_eq
  have : eTup (aCons fa (aCons fb aNil)) ρ = fa ρ >>= fun x => fb ρ >>= fun y => pure (.tuple [x, y]) := by
    funext n
    rw [eTup_app, aCons_app, bnd_app]
    cases fa ρ n with
    | ok a k =>
      rw [bd_ok, bd_ok, bnd_app, aCons_app, bnd_app]
      cases fb ρ k with
      | ok b k =>
        show (need (decide (2 ≤ sizeLine)) >>= fun _ => (pure (.tuple [a, b]) : M D)) k = _
        rw [bnd_app, need_app, if_pos (decide_eq_true (by omega))]
        rfl
      | _ => rfl
    | _ => rfl
  rw [this]
  exact is_bind (e' := eP ea eb) ha (fun a => is_bind (e' := eP ea eb) hb fun b => is_pure (e := eP ea eb) (a := (a, b))) n
theorem y_p3 (ha : Is ea (fa ρ) ma) (hb : Is eb (fb ρ) mb) (hc : Is ec (fc ρ) mc) : Is (eP3 ea eb ec) (eTup (aCons fa (aCons fb (aCons fc aNil))) ρ) (ma >>= fun a => mb >>= fun b => mc >>= fun c => pure (a, b, c)) := fun n => by
  have hs := sizeLine_eq
  have : eTup (aCons fa (aCons fb (aCons fc aNil))) ρ = fa ρ >>= fun x => fb ρ >>= fun y => fc ρ >>= fun z => pure (.tuple [x, y, z]) := by
    funext n
    rw [eTup_app, aCons_app, bnd_app]
    cases fa ρ n with
    | ok a k =>
      rw [bd_ok, bd_ok, bnd_app, aCons_app, bnd_app]
      cases fb ρ k with
      | ok b k =>
        rw [bd_ok, bd_ok, bnd_app, aCons_app, bnd_app]
        cases fc ρ k with
        | ok c k =>
          show (need (decide (3 ≤ sizeLine)) >>= fun _ => (pure (.tuple [a, b, c]) : M D)) k = _
          rw [bnd_app, need_app, if_pos (decide_eq_true (by omega))]
          rfl
        | _ => rfl
      | _ => rfl
    | _ => rfl
  rw [this]
  exact is_bind (e' := eP3 ea eb ec) ha (fun a => is_bind (e' := eP3 ea eb ec) hb fun b => is_bind (e' := eP3 ea eb ec) hc fun c => is_pure (e := eP3 ea eb ec) (a := (a, b, c))) n
/-- a row of values of one kind -/
def Lit (ea : α → D) (fs : M (List D)) (k : Nat) (m : M (List α)) : Prop := ∀ n, match m n with
  | .ok a k' => a.length = k ∧ fs n = .ok (a.map ea) k'
  | .err c k' => fs n = .err c k'
  | .bad => True
theorem v_nil : Lit ea (aNil ρ) 0 (pure []) := fun _ => ⟨rfl, rfl⟩
theorem v_cons {k : Nat} {ms : M (List α)} (h : Is ea (fa ρ) ma) (hs : Lit ea (fs ρ) k ms) : Lit ea (aCons fa fs ρ) (k + 1) (ma >>= fun a => ms >>= fun as => pure (a :: as)) := fun n => by
  have hn := h n
  rw [aCons_app, bnd_app]
  cases q : ma n with
  | ok a k =>
    rw [q] at hn
    have hn : fa ρ n = .ok (ea a) k := hn
    rw [hn, bd_ok, bd_ok, bnd_app, bnd_app]
    have h2 := hs k
    cases q2 : ms k with
    | ok as k' =>
      rw [q2] at h2
      have h2 : as.length = _ ∧ fs ρ k = .ok (as.map ea) k' := h2
      rw [h2.2]
      exact ⟨by rw [List.length_cons, h2.1], rfl⟩
    | err c k' =>
      rw [q2] at h2
      have h2 : fs ρ k = .err c k' := h2
      rw [h2]
      exact rfl
    | bad => trivial
  | err c k =>
    rw [q] at hn
    have hn : fa ρ n = .err c k := hn
    rw [hn]
    exact rfl
  | bad => trivial
theorem lit_room {k : Nat} {m : M (List α)} (h : Lit ea (fs ρ) k m) (hk : k ≤ 1000) : Is (List.map ea) (fs ρ >>= fun xs => need (decide (xs.length ≤ sizeLine)) >>= fun _ => (pure xs : M (List D))) m := fun n => by
  have hs := sizeLine_eq
  have hn := h n
  rw [bnd_app]
  cases q : m n with
  | ok a k' =>
    rw [q] at hn
    have hn : a.length = k ∧ fs ρ n = .ok (a.map ea) k' := hn
    rw [hn.2, bd_ok, bnd_app, need_app, if_pos (decide_eq_true (by rw [List.length_map]; omega))]
    rfl
  | err c k' =>
    rw [q] at hn
    have hn : fs ρ n = .err c k' := hn
    rw [hn]
    exact rfl
  | bad => trivial
theorem yl_lit {k : Nat} {m : M (List α)} (h : Lit ea (fs ρ) k m) (hk : k ≤ 1000) : Is (List.map ea) (lLst fs ρ) m := lit_room h hk
theorem y_tlit {k : Nat} {m : M (List α)} (h : Lit ea (fs ρ) k m) (hk : k ≤ 1000) : Is (eTu ea) (eTup fs ρ) m := fun n => by
  have := lit_room h hk n
  cases q : m n with
  | ok a k' =>
    rw [q] at this
    have this : (fs ρ >>= fun xs => need (decide (xs.length ≤ sizeLine)) >>= fun _ => (pure xs : M (List D))) n = .ok (a.map ea) k' := this
    rw [bnd_app] at this
    rw [eTup_app]
    cases z : fs ρ n with
    | ok ds k2 =>
      rw [z, bd_ok, bnd_app, need_app] at this
      rw [bd_ok, bnd_app, need_app]
      split at this
      · rw [bd_ok] at this
        rename_i hz
        rw [if_pos hz, bd_ok]
        injection this with e1 e2
        subst e1 e2
        rfl
      · cases this
    | err c k2 => rw [z] at this; cases this
    | bad => rw [z] at this; cases this
  | err c k' =>
    rw [q] at this
    have this : (fs ρ >>= fun xs => need (decide (xs.length ≤ sizeLine)) >>= fun _ => (pure xs : M (List D))) n = .err c k' := this
    rw [bnd_app] at this
    rw [eTup_app]
    cases z : fs ρ n with
    | ok ds k2 =>
      rw [z, bd_ok, bnd_app, need_app] at this
      split at this <;> cases this
    | err c k2 =>
      rw [z] at this
      injection this with e1 e2
      subst e1 e2
      rfl
    | bad => rw [z] at this; cases this
  | bad => trivial
theorem yl_rg1 {m : M Nat} (h : Is natD (fa ρ) m) : Is (List.map natD) (lRg1 fa ρ) (m >>= fun k => rgM k) := is_bind h fun k => by
  show Is _ (need _ >>= _) _
  refine is_needI (fun hz => ?_) fun _ => is_pure' (rg_map k)
  have hz : k ≤ 16777216 := of_decide_eq_true hz
  exact decide_eq_true (by omega)
theorem y_trg1 {m : M Nat} (h : Is natD (fa ρ) m) : Is (eTu natD) (eTRg1 fa ρ) (m >>= fun k => rgM k) := is_bind h fun k => by
  show Is _ (need _ >>= _) _
  refine is_needI (fun hz => ?_) fun _ => is_pure' (by rw [rg_map k])
  have hz : k ≤ 16777216 := of_decide_eq_true hz
  exact decide_eq_true (by omega)
theorem seqN_L (xs : List Nat) : seqInts (eLi natD xs) = some (xs.map Int.ofNat) := seqInts_nats xs
theorem seqN_T (xs : List Nat) : seqInts (eTu natD xs) = some (xs.map Int.ofNat) := seqInts_nats xs
theorem seqI_L (xs : List Int) : seqInts (eLi eI xs) = some xs := intsOf_map xs
theorem seqI_T (xs : List Int) : seqInts (eTu eI xs) = some xs := intsOf_map xs
theorem yl_srtN {e : List Nat → D} {m : M (List Nat)} (he : ∀ xs, seqInts (e xs) = some (xs.map Int.ofNat)) (h : Is e (fa ρ) m) : Is (List.map natD) (lSrt fa ρ) (m >>= fun xs => srtN xs) := is_bind h fun xs => by
  rw [he]
  show Is _ (need _ >>= _) _
  refine is_needI (fun hz => ?_) fun _ => is_pure' (once_nats xs)
  rw [List.length_map]
  exact hz
theorem yl_srtI {e : List Int → D} {m : M (List Int)} (he : ∀ xs, seqInts (e xs) = some xs) (h : Is e (fa ρ) m) : Is (List.map eI) (lSrt fa ρ) (m >>= fun xs => srtI xs) := is_bind h fun xs => by
  rw [he]
  show Is _ (need _ >>= _) _
  exact is_need fun _ => is_pure
theorem y_lensN {e : List Nat → D} {m : M (List Nat)} (he : ∀ xs, seqInts (e xs) = some (xs.map Int.ofNat)) (h : Is e (fa ρ) m) : Is natD (eLens fa ρ) (m >>= fun xs => lensN xs) := is_bind h fun xs => by
  rw [he]
  show Is _ (need _ >>= _) _
  refine is_needI (fun hz => ?_) fun _ => is_pure' ?_
  · rw [List.length_map]
    exact hz
  · show PyData.int _ = PyData.int _
    congr 2
    have := congrArg List.length (once_nats xs)
    rw [List.length_map, List.length_map] at this
    exact this
theorem y_lensI {e : List Int → D} {m : M (List Int)} (he : ∀ xs, seqInts (e xs) = some xs) (h : Is e (fa ρ) m) : Is natD (eLens fa ρ) (m >>= fun xs => lensI xs) := is_bind h fun xs => by
  rw [he]
  show Is _ (need _ >>= _) _
  exact is_need fun _ => is_pure
theorem opt_bnd {α β : Type} (a : α) (f : α → M β) : (ofOpt (some a) >>= f) = f a := rfl
theorem rep_room {xs : List α} {k : Nat} {b : Bool} (hb : k < 1000000000 → xs.length * k ≤ sizeLine → b = true) : Is (List.map ea) (need b >>= fun _ => pure (List.replicate k (xs.map ea)).flatten) (need (decide (k < 1000000000)) >>= fun _ => repM xs k) := by
  unfold repM room
  refine is_needR fun h1 => is_needI (fun h2 => hb (of_decide_eq_true h1) (of_decide_eq_true h2)) fun _ => is_pure' ?_
  rw [List.map_flatten, List.map_replicate]
theorem yl_rep {m : M (List α)} {mk : M Nat} (h : Is (eLi ea) (fa ρ) m) (hk : Is natD (fb ρ) mk) : Is (List.map ea) (lRep fa fb ρ) (m >>= fun xs => mk >>= fun k => need (decide (k < 1000000000)) >>= fun _ => repM xs k) := is_bind h fun xs => by
  rw [asL_lst]
  refine is_bind (e := natD) hk fun k => ?_
  rw [optI_int, opt_bnd, Int.toNat_natCast]
  refine rep_room fun h1 h2 => ?_
  rw [List.length_map]
  refine decide_eq_true ⟨?_, ?_, h2⟩ <;> omega
theorem yl_rev {m : M (List α)} (h : Is (eLi ea) (fa ρ) m) : Is (List.map ea) (lRev fa ρ) (m >>= fun xs => pure xs.reverse) := is_bind h fun xs => is_pure' (by rw [List.map_reverse])
theorem yp_no : Is (fun o : Option Int => o) (pNo ρ) (pure none) := is_pure
theorem yp_yesI {m : M Int} (h : Is eI (fa ρ) m) : Is (fun o : Option Int => o) (pYes fa ρ) (m >>= fun i => pure (some i)) := is_bind h fun i => fun _ => rfl
theorem yp_yesN {m : M Nat} (h : Is natD (fa ρ) m) : Is (fun o : Option Int => o) (pYes fa ρ) (m >>= fun i => pure (some (i : Int))) := is_bind h fun i => fun _ => rfl
theorem cut_map (xs : List α) (lo hi : Option Int) : cutD (xs.map ea) lo hi = (cutL xs lo hi).map ea := by
  unfold cutD cutL
  rw [List.length_map, List.map_take, List.map_drop]
theorem y_slL {m : M (List α)} {pl ph : Mi.Env → M (Option Int)} {ml mh : M (Option Int)} (h : Is (eLi ea) (fa ρ) m) (hl : Is (fun o : Option Int => o) (pl ρ) ml) (hh : Is (fun o : Option Int => o) (ph ρ) mh) : Is (eLi ea) (eSl fa pl ph ρ) (m >>= fun xs => ml >>= fun lo => mh >>= fun hi => pure (cutL xs lo hi)) :=
  is_bind h fun xs => is_bind hl fun lo => is_bind hh fun hi => is_pure' (by rw [cut_map])
theorem y_slT {m : M (List α)} {pl ph : Mi.Env → M (Option Int)} {ml mh : M (Option Int)} (h : Is (eTu ea) (fa ρ) m) (hl : Is (fun o : Option Int => o) (pl ρ) ml) (hh : Is (fun o : Option Int => o) (ph ρ) mh) : Is (eTu ea) (eSl fa pl ph ρ) (m >>= fun xs => ml >>= fun lo => mh >>= fun hi => pure (cutL xs lo hi)) :=
  is_bind h fun xs => is_bind hl fun lo => is_bind hh fun hi => is_pure' (by rw [cut_map])
theorem y_slS {m : M Str} {pl ph : Mi.Env → M (Option Int)} {ml mh : M (Option Int)} (h : Is eS (fa ρ) m) (hl : Is (fun o : Option Int => o) (pl ρ) ml) (hh : Is (fun o : Option Int => o) (ph ρ) mh) : Is eS (eSl fa pl ph ρ) (m >>= fun z => ml >>= fun lo => mh >>= fun hi => need (decide (z.length ≤ sizeLine)) >>= fun _ => pure (cutS z lo hi)) :=
  is_bind h fun z => is_bind hl fun lo => is_bind hh fun hi => is_need fun _ => is_pure
theorem y_neg {m : M Int} (h : Is eI (fa ρ) m) : Is eI (eNeg fa ρ) (m >>= fun i => pure (-i)) := is_bind h fun i => fun _ => rfl
theorem y_idx [DecidableEq α] (E : Enc ea) (hd : E.dep ≤ 59) {m : M (List α)} (h : Is (eLi ea) (fa ρ) m) (h2 : Is ea (fb ρ) ma) : Is natD (eIdx fa fb ρ) (m >>= fun xs => ma >>= fun a => idxM xs a) := is_bind h fun xs => by
  rw [asL_lst]
  refine is_bind (e := ea) h2 fun a => ?_
  unfold idxM room
  refine is_needI (fun hz => ?_) fun _ => is_needR fun hm => ?_
  · have hz := of_decide_eq_true hz
    rw [enc_okD E (by omega), enc_okD (encL E) (show E.dep + 1 ≤ 60 by omega) xs, List.length_map]
    exact decide_eq_true hz
  · rw [place_enc E a xs (of_decide_eq_true hm)]
    exact is_pure' rfl
theorem y_cnt [DecidableEq α] (E : Enc ea) (hd : E.dep ≤ 59) {m : M (List α)} (h : Is (eLi ea) (fa ρ) m) (h2 : Is ea (fb ρ) ma) : Is natD (eCnt fa fb ρ) (m >>= fun xs => ma >>= fun a => cntM xs a) := is_bind h fun xs => by
  rw [asL_lst]
  refine is_bind (e := ea) h2 fun a => ?_
  unfold cntM room
  refine is_needI (fun hz => ?_) fun _ => is_pure' ?_
  · have hz := of_decide_eq_true hz
    rw [enc_okD E (by omega), enc_okD (encL E) (show E.dep + 1 ≤ 60 by omega) xs, List.length_map]
    exact decide_eq_true hz
  · rw [List.countP_map]
    show PyData.int _ = PyData.int _
    congr 2
    refine List.countP_congr fun x _ => ?_
    show PyData.eqv (ea x) (ea a) = true ↔ _
    rw [E.eqv]
theorem y_isTy {k : D → Bool} (h : Is ea (fa ρ) ma) : Is eB (eIsTy k fa ρ) (ma >>= fun a => need (ea a).plain >>= fun _ => pure (k (ea a))) := is_bind h fun a => is_need fun _ => is_pure
def isxM (cv : Str → Option Bool) (c : Option Str) : M Bool := ofOpt c >>= fun c => ofOpt (cv c)
theorem y_isX {cv : Str → Option Bool} {m : M (Option Str)} (h : Is eX (fa ρ) m) : Is eB (eIsX cv fa ρ) (m >>= fun c => isxM cv c) := is_bind h fun c => by
  unfold isxM
  cases c with
  | none => exact is_bad
  | some c =>
    show Is eB (ofOpt (cv c) >>= _) (ofOpt (cv c))
    cases cv c with
    | none => exact is_bad
    | some b => exact is_pure
/-! borrowed -/
theorem y_bo {i : Nat} (hn : ∀ a, noL (ea a) = true) (h : Is ea (fa (frz i ρ)) ma) : Is ea (eBo i fa ρ) ma := fun n => by
  have hn' := h n
  rw [eBo_app]
  cases q : ma n with
  | ok a k =>
    rw [q] at hn'
    have hn' : fa (frz i ρ) n = .ok (ea a) k := hn'
    rw [hn', bd_ok, bnd_app, need_app, if_pos (hn a)]
    rfl
  | err c k =>
    rw [q] at hn'
    have hn' : fa (frz i ρ) n = .err c k := hn'
    rw [hn']
    exact rfl
  | bad => trivial
theorem y_boD {i : Nat} (h : Is ea (fa (frz i ρ)) ma) : Is ea (eBo i fa ρ) (ma >>= fun a => need (noL (ea a)) >>= fun _ => pure a) := is_bind h fun a => is_need fun _ => is_pure
theorem yl_bo {i : Nat} {ml : M (List α)} (hn : ∀ a : List α, noLs (a.map ea) = true) (h : Is (List.map ea) (ls (frz i ρ)) ml) : Is (List.map ea) (lBo i ls ρ) ml := fun n => by
  have hn' := h n
  rw [lBo_app]
  cases q : ml n with
  | ok a k =>
    rw [q] at hn'
    have hn' : ls (frz i ρ) n = .ok (a.map ea) k := hn'
    rw [hn', bd_ok, bnd_app, need_app, if_pos (hn a)]
    rfl
  | err c k =>
    rw [q] at hn'
    have hn' : ls (frz i ρ) n = .err c k := hn'
    rw [hn']
    exact rfl
  | bad => trivial
theorem y_bBo {i : Nat} {m : M Bool} (h : Is iB (tc (frz i ρ)) m) : Is iB (bBo i tc ρ) m := h
theorem noLs_all {ea : α → D} (h : ∀ a, noL (ea a) = true) : ∀ xs : List α, noLs (xs.map ea) = true
  | [] => rfl
  | x :: r => by
    rw [List.map_cons]
    unfold noLs
    rw [h x, noLs_all h r]
    rfl
theorem noL_T {ea : α → D} (h : ∀ a, noL (ea a) = true) (xs : List α) : noL (eTu ea xs) = true := by
  show noL (.tuple _) = true
  unfold noL
  exact noLs_all h xs
theorem noL_P {ea : α → D} {eb : β → D} (h : ∀ a, noL (ea a) = true) (h2 : ∀ a, noL (eb a) = true) (p : α × β) : noL (eP ea eb p) = true := by
  show noL (.tuple _) = true
  unfold noL noLs
  rw [h, Bool.true_and]
  unfold noLs
  rw [h2]
  rfl
/-! comprehensions, what is walked -/
theorem i_L {m : M (List α)} (h : Is (eLi ea) (fa ρ) m) : Is (List.map ea) (iSeq fa ρ) m := fun n => by
  have hn := h n
  cases q : m n with
  | ok a k =>
    rw [q] at hn
    exact iSeq_list _ hn
  | err c k =>
    rw [q] at hn
    have hn : fa ρ n = .err c k := hn
    show (fa ρ >>= _) n = _
    rw [bnd_app, hn]
    rfl
  | bad => trivial
theorem i_T {m : M (List α)} (h : Is (eTu ea) (fa ρ) m) : Is (List.map ea) (iSeq fa ρ) m := fun n => by
  have hn := h n
  cases q : m n with
  | ok a k =>
    rw [q] at hn
    exact iSeq_tup _ hn
  | err c k =>
    rw [q] at hn
    have hn : fa ρ n = .err c k := hn
    show (fa ρ >>= _) n = _
    rw [bnd_app, hn]
    rfl
  | bad => trivial
def iterD (d : D) : M (List D) := match d with
  | .list ds => pure ds
  | .tuple ds => pure ds
  | _ => bad
theorem i_D (h : Is ea (fa ρ) ma) : Is (List.map eA) (iSeq fa ρ) (ma >>= fun a => iterD (ea a)) := by
  refine is_bind h fun a => ?_
  have hm : ∀ ds : List D, ds = ds.map eA := fun ds => (List.map_id ds).symm
  unfold iterD
  cases ea a with
  | list ds => exact is_pure' (hm ds)
  | tuple ds => exact is_pure' (hm ds)
  | _ => exact is_bad
theorem i_r1 {m : M Nat} (h : Is natD (fa ρ) m) : Is (List.map natD) (iRange1 (aCons fa aNil) ρ) (m >>= fun k => iterM k) := fun n => by
  have : iRange1 (aCons fa aNil) ρ = fa ρ >>= fun x => match [x] with
    | [.int j] => (do need (decide (-(2 ^ 62) ≤ j ∧ j < 2 ^ 62)); pure ((List.range j.toNat).map fun k : Nat => PyData.int (0 + (k : Int))) : M (List D))
    | _ => bad := by
    funext n
    unfold iRange1
    rw [bnd_app, aCons_app, bnd_app]
    cases fa ρ n <;> rfl
  rw [this]
  refine is_bind h (fun k => ?_) n
  show Is _ (need _ >>= _) _
  refine is_needI (fun hz => ?_) fun _ => is_pure' ?_
  · have hz := of_decide_eq_true hz
    exact decide_eq_true (by omega)
  · rw [Int.toNat_natCast]
    exact List.map_congr_left fun x _ => by rw [Int.zero_add]
theorem i_r2 {m m2 : M Nat} (h : Is natD (fa ρ) m) (h2 : Is natD (fb ρ) m2) : Is (List.map natD) (iRange2 (aCons fa (aCons fb aNil)) ρ) (m >>= fun i => m2 >>= fun k => iter2M i k) := fun n => by
  have : iRange2 (aCons fa (aCons fb aNil)) ρ = fa ρ >>= fun x => fb ρ >>= fun y => match [x, y] with
    | [.int i, .int j] => (do need (decide (-(2 ^ 62) ≤ i ∧ i < 2 ^ 62 ∧ -(2 ^ 62) ≤ j ∧ j < 2 ^ 62)); pure ((List.range (j - i).toNat).map fun k : Nat => PyData.int (i + (k : Int))) : M (List D))
    | _ => bad := by
    funext n
    unfold iRange2
    rw [bnd_app, aCons_app, bnd_app]
    cases fa ρ n with
    | ok a k =>
      rw [bd_ok, bd_ok, bnd_app, aCons_app, bnd_app]
      cases fb ρ k <;> rfl
    | _ => rfl
  rw [this]
  refine is_bind h (fun i => is_bind h2 fun k => ?_) n
  show Is _ (need _ >>= _) _
  refine is_needI (fun hz => ?_) fun _ => is_pure' ?_
  · have hz := of_decide_eq_true hz
    exact decide_eq_true (by omega)
  · rw [show ((k : Int) - i).toNat = k - i by omega, List.map_map]
    exact List.map_congr_left fun x _ => by
      show PyData.int _ = PyData.int _
      rw [Int.natCast_add]
theorem mapA_is {f : D → M D} {pat : D → Option Mi.Env} {fe : Mi.Env → M D} {g : α → M β} (hb : ∀ a, ∃ ρ1, pat (ea a) = some ρ1 ∧ Is eb (fe ρ1) (g a)) : ∀ (xs : List α) (acc : List β), Is (List.map eb) (compL pat tYesM fe (xs.map ea) (acc.map eb)) (mapA g xs acc)
  | [], acc => is_pure
  | a :: r, acc => by
    obtain ⟨ρ1, e1, h1⟩ := hb a
    unfold mapA
    rw [List.map_cons]
    unfold compL
    rw [e1]
    show Is _ (noErr (fe ρ1) >>= fun y => need (decide ((acc.map eb).length < sizeLine)) >>= fun _ => compL pat tYesM fe (r.map ea) (acc.map eb ++ [y])) _
    refine is_bind (is_noErr h1) fun b => is_needI (fun hz => by rw [List.length_map]; exact hz) fun _ => ?_
    have := mapA_is (f := f) hb r (acc ++ [b])
    rw [List.map_append] at this
    exact this
theorem compA_is {f : D → M D} {pat : D → Option Mi.Env} {fe : Mi.Env → M D} {p : α → M Bool} {g : α → M β} (hb : ∀ a, ∃ ρ1, pat (ea a) = some ρ1 ∧ Is iB (tc ρ1) (p a) ∧ Is eb (fe ρ1) (g a)) : ∀ (xs : List α) (acc : List β), Is (List.map eb) (compL pat tc fe (xs.map ea) (acc.map eb)) (compA p g xs acc)
  | [], acc => is_pure
  | a :: r, acc => by
    obtain ⟨ρ1, e1, h1, h2⟩ := hb a
    unfold compA
    rw [List.map_cons]
    unfold compL
    rw [e1]
    show Is _ (noErr (tc ρ1) >>= fun b => if b = true then noErr (fe ρ1) >>= fun y => need (decide ((acc.map eb).length < sizeLine)) >>= fun _ => compL pat tc fe (r.map ea) (acc.map eb ++ [y]) else compL pat tc fe (r.map ea) (acc.map eb)) _
    refine is_bind (is_noErr h1) fun b => is_ite ?_ (compA_is (f := f) hb r acc)
    refine is_bind (is_noErr h2) fun b => is_needI (fun hz => by rw [List.length_map]; exact hz) fun _ => ?_
    have := compA_is (f := f) hb r (acc ++ [b])
    rw [List.map_append] at this
    exact this
theorem yl_map {fi : Mi.Env → M (List D)} {pt : Pat} {own : List Nat} {fe : Mi.Env → M D} {mi : M (List α)} {g : α → M β} (hi : Is (List.map ea) (fi ρ) mi) (hb : ∀ a, ∃ ρ1, patSet pt (ea a) (wipeE ρ own) = some ρ1 ∧ Is eb (fe ρ1) (g a)) :
    Is (List.map eb) (lComp fi pt own tYesM fe ρ) (mi >>= fun xs => mapMM (fun a => g a) xs) := is_bind hi fun xs => mapA_is (f := fun _ => bad) hb xs []
theorem yl_comp {fi : Mi.Env → M (List D)} {pt : Pat} {own : List Nat} {fe : Mi.Env → M D} {mi : M (List α)} {p : α → M Bool} {g : α → M β} (hi : Is (List.map ea) (fi ρ) mi) (hb : ∀ a, ∃ ρ1, patSet pt (ea a) (wipeE ρ own) = some ρ1 ∧ Is iB (tc ρ1) (p a) ∧ Is eb (fe ρ1) (g a)) :
    Is (List.map eb) (lComp fi pt own tc fe ρ) (mi >>= fun xs => compM (fun a => p a) (fun a => g a) xs) := is_bind hi fun xs => compA_is (f := fun _ => bad) hb xs []
end
end Mi

end

section
set_option Elab.async false
set_option linter.all false
set_option maxRecDepth 100000
set_option maxHeartbeats 4000000
/-! ## Mg4: statements -/
namespace Mi
open PySem PySem.Spec L2 PySem.W
section
variable {α β γ σ τ : Type}
def forN : List α → σ → (α → σ → M σ) → M σ
  | [], s, _ => pure s
  | a :: r, s, f => f a s >>= fun s' => forN r s' f
def forC : List α → σ → (α → σ → M (Ctl σ τ)) → M (Ctl σ τ)
  | [], s, _ => pure (.nx s)
  | a :: r, s, f => f a s >>= fun c => match c with
    | .nx s' => forC r s' f
    | .rt v => pure (.rt v)
def whN (c : σ → M Bool) (f : σ → M σ) : Nat → σ → M σ
  | 0, _ => bad
  | k + 1, s => c s >>= fun b => if b = true then f s >>= fun s' => whN c f k s' else pure s
/-- what comes of a suite that may return: go on, or that -/
def Ctl.go {δ : Type} (c : Ctl σ τ) (f : σ → M δ) (g : τ → M δ) : M δ := match c with
  | .nx s => f s
  | .rt v => g v
def tryM (names : List Str) (m : M α) : M (Except Str α) := fun n => match m n with
  | .ok a k => .ok (.ok a) k
  | .err c k => if ranked names c = true then .ok (.error c) k else .bad
  | .bad => .bad
def exGo {δ : Type} (r : Except Str α) (f : α → M δ) (g : Str → M δ) : M δ := match r with
  | .ok a => f a
  | .error c => g c
def putN (xs : List α) (i : Nat) (a : α) : M (List α) := need (decide (i < xs.length)) >>= fun _ => pure (xs.set i a)
def putI' (xs : List α) (i : Int) (a : α) : M (List α) := ofOpt (L2.ixN xs.length i) >>= fun k => pure (xs.set k a)
def insM (xs : List α) (i : Nat) (a : α) : M (List α) := need (decide (i < 1000000000)) >>= fun _ => room (xs.length + 1) >>= fun _ => pure (xs.take i ++ a :: xs.drop i)
def popM (xs : List α) : M (α × List α) := ofOpt xs[xs.length - 1]? >>= fun a => pure (a, xs.dropLast)
end
section
variable {α β γ δ σ τ : Type} {ea : α → D} {eb : β → D} {ec : γ → D} {ρ : Mi.Env} {fa fb fc : Mi.Env → M D} {fs ls : Mi.Env → M (List D)} {tc td : Mi.Env → M Bool} {i j k : Nat} {ma : M α} {mb : M β} {mc : M γ} {K : δ → Mi.Env × Fl → Prop} {s s1 s2 s3 : MS} {m m' : M δ}
/-- the general step -/
theorem j_step {ε : Type} {r1 : M ε} {e : α → ε} {ρ1 : ε → Mi.Env} {m2 : α → M δ} (h1 : ∀ n, s1 ρ n = (r1 n).bd fun d => pure (ρ1 d, .nx)) (hr : Is e r1 ma) (h2 : ∀ a, J K (s2 (ρ1 (e a))) (m2 a)) : J K (sSeq s1 s2 ρ) (ma >>= m2) := fun n => by
  have hn := hr n
  rw [sSeq_app, h1, bnd_app]
  cases q : ma n with
  | ok a k =>
    rw [q] at hn
    have hn : r1 n = .ok (e a) k := hn
    rw [hn]
    exact h2 a k
  | err c k =>
    rw [q] at hn
    have hn : r1 n = .err c k := hn
    rw [hn]
    exact rfl
  | bad => trivial
theorem j_end (h : J K (sSeq s sNx ρ) m) : J K (s ρ) m := fun n => by
  have hn := h n
  rw [sSeq_app] at hn
  have : seqR (s ρ n) sNx = s ρ n := by
    cases s ρ n with
    | ok q k =>
      obtain ⟨ρ', fl⟩ := q
      cases fl <;> rfl
    | _ => rfl
  rw [this] at hn
  exact hn
theorem j_nx {b : δ} (h : K b (ρ, .nx)) : J K (sNx ρ) (pure b) := fun _ => ⟨_, rfl, h⟩
theorem j_nxP (h : J K (s ρ) m) : J K (sSeq sNx s ρ) m := h
theorem j_assoc (h : J K (sSeq s1 (sSeq s2 s3) ρ) m) : J K (sSeq (sSeq s1 s2) s3 ρ) m := fun n => by
  have hn := h n
  rw [sSeq_app] at hn
  rw [sSeq_app, sSeq_app]
  have : seqR (seqR (s1 ρ n) s2) s3 = seqR (s1 ρ n) (sSeq s2 s3) := by
    cases s1 ρ n with
    | ok q k =>
      obtain ⟨ρ', fl⟩ := q
      cases fl <;> first | rfl | (rw [seqR_nx, seqR_nx, sSeq_app])
    | _ => rfl
  rw [this]
  exact hn
theorem j_ret {b : α → δ} (h : Is ea (fa ρ) ma) (hk : ∀ a, K (b a) (ρ, .rt (ea a))) : J K (sRet fa ρ) (ma >>= fun a => pure (b a)) := fun n => by
  have hn := h n
  rw [sRet_app, bnd_app]
  cases q : ma n with
  | ok a k =>
    rw [q] at hn
    have hn : fa ρ n = .ok (ea a) k := hn
    rw [hn]
    exact ⟨_, rfl, hk a⟩
  | err c k =>
    rw [q] at hn
    have hn : fa ρ n = .err c k := hn
    rw [hn]
    exact rfl
  | bad => trivial
theorem j_retP {b : α → δ} (h : Is ea (fa ρ) ma) (hk : ∀ a, K (b a) (ρ, .rt (ea a))) : J K (sSeq (sRet fa) s2 ρ) (ma >>= fun a => pure (b a)) := fun n => by
  have hn := h n
  rw [sSeq_app, sRet_app, bnd_app]
  cases q : ma n with
  | ok a k =>
    rw [q] at hn
    have hn : fa ρ n = .ok (ea a) k := hn
    rw [hn]
    exact ⟨_, rfl, hk a⟩
  | err c k =>
    rw [q] at hn
    have hn : fa ρ n = .err c k := hn
    rw [hn]
    exact rfl
  | bad => trivial
theorem j_raise {c : Str} : J K (sRaise c ρ) (refuse c) := fun _ => rfl
theorem j_raiseP {c : Str} : J K (sSeq (sRaise c) s2 ρ) (refuse c) := fun _ => rfl
theorem j_if {mc : M Bool} (hc : Is iB (tc ρ) mc) (h1 : J K (s1 ρ) m) (h2 : J K (s2 ρ) m') : J K (sIf tc s1 s2 ρ) (mc >>= fun b => if b = true then m else m') := fun n => by
  have hn := hc n
  rw [sIf_app, bnd_app]
  cases q : mc n with
  | ok b k =>
    rw [q] at hn
    have hn : tc ρ n = .ok b k := hn
    rw [hn]
    cases b
    · exact h2 k
    · exact h1 k
  | err c k =>
    rw [q] at hn
    have hn : tc ρ n = .err c k := hn
    rw [hn]
    exact rfl
  | bad => trivial
theorem j_ifP {mc : M Bool} (hc : Is iB (tc ρ) mc) (h1 : J K (sSeq s1 s3 ρ) m) (h2 : J K (sSeq s2 s3 ρ) m') : J K (sSeq (sIf tc s1 s2) s3 ρ) (mc >>= fun b => if b = true then m else m') := fun n => by
  have hn := hc n
  rw [sSeq_app, sIf_app, bnd_app]
  cases q : mc n with
  | ok b k =>
    rw [q] at hn
    have hn : tc ρ n = .ok b k := hn
    rw [hn]
    cases b
    · have := h2 k
      rw [sSeq_app] at this
      exact this
    · have := h1 k
      rw [sSeq_app] at this
      exact this
  | err c k =>
    rw [q] at hn
    have hn : tc ρ n = .err c k := hn
    rw [hn]
    exact rfl
  | bad => trivial
/-- a suite that does not return, and what is behind it -/
theorem j_joinN {R : σ → Mi.Env → Prop} {m1 : M σ} {m2 : σ → M δ} (h1 : J (KN R) (s1 ρ) m1) (h2 : ∀ s ρ', R s ρ' → J K (s2 ρ') (m2 s)) : J K (sSeq s1 s2 ρ) (m1 >>= fun s => m2 s) := fun n => by
  have hn := h1 n
  rw [sSeq_app, bnd_app]
  cases q : m1 n with
  | ok b k =>
    rw [q] at hn
    obtain ⟨⟨ρ', fl⟩, e1, e2, e3⟩ : ∃ q, s1 ρ n = .ok q k ∧ KN R b q := hn
    have e2 : fl = .nx := e2
    subst e2
    rw [e1]
    exact h2 b ρ' e3 k
  | err c k =>
    rw [q] at hn
    have hn : s1 ρ n = .err c k := hn
    rw [hn]
    exact rfl
  | bad => trivial
/-- .. that may return -/
theorem j_joinC {R : σ → Mi.Env → Prop} {e : τ → D} {m1 : M (Ctl σ τ)} {m2 : σ → M δ} {b : τ → δ} (h1 : J (KC R e) (s1 ρ) m1) (h2 : ∀ s ρ', R s ρ' → J K (s2 ρ') (m2 s)) (hk : ∀ v ρ', K (b v) (ρ', .rt (e v))) : J K (sSeq s1 s2 ρ) (m1 >>= fun c => c.go (fun s => m2 s) fun v => pure (b v)) := fun n => by
  have hn := h1 n
  rw [sSeq_app, bnd_app]
  cases q : m1 n with
  | ok c k =>
    rw [q] at hn
    obtain ⟨⟨ρ', fl⟩, e1, e2⟩ : ∃ q, s1 ρ n = .ok q k ∧ KC R e c q := hn
    rw [e1]
    cases c with
    | nx x =>
      have e2 : fl = .nx ∧ R x ρ' := e2
      obtain ⟨rfl, e3⟩ := e2
      exact h2 x ρ' e3 k
    | rt v =>
      have e2 : fl = .rt (e v) := e2
      subst e2
      exact ⟨_, rfl, hk v ρ'⟩
  | err c k =>
    rw [q] at hn
    have hn : s1 ρ n = .err c k := hn
    rw [hn]
    exact rfl
  | bad => trivial
theorem j_fz (h : J K (s (frz i ρ)) m) : J K (sFz i s ρ) m := h
theorem j_fzP (h : J K (sSeq s s2 (frz i ρ)) m) : J K (sSeq (sFz i s) s2 ρ) m := h
/-! loops -/
theorem forN_is {pt : Pat} {body : MS} {R : σ → Mi.Env → Prop} {mb : α → σ → M σ} (st : ∀ a s ρ, R s ρ → ∃ ρ1, patSet pt (ea a) ρ = some ρ1 ∧ J (KN R) (body ρ1) (mb a s)) : ∀ (xs : List α) (s : σ) (ρ : Mi.Env), R s ρ → J (KN R) (forL pt body (xs.map ea) ρ) (forN xs s mb)
  | [], s, ρ, h => fun _ => ⟨_, rfl, rfl, h⟩
  | a :: r, s, ρ, h => fun n => by
    obtain ⟨ρ1, e1, h1⟩ := st a s ρ h
    rw [List.map_cons]
    unfold forL forN
    rw [e1, opt_bnd, bnd_app, bnd_app]
    have hn := h1 n
    cases q : mb a s n with
    | ok s' k =>
      rw [q] at hn
      obtain ⟨⟨ρ', fl⟩, e2, e3, e4⟩ : ∃ q, body ρ1 n = .ok q k ∧ KN R s' q := hn
      have e3 : fl = .nx := e3
      subst e3
      rw [e2]
      exact forN_is st r s' ρ' e4 k
    | err c k =>
      rw [q] at hn
      have hn : body ρ1 n = .err c k := hn
      rw [hn]
      exact rfl
    | bad => trivial
theorem forC_is {pt : Pat} {body : MS} {R : σ → Mi.Env → Prop} {e : τ → D} {mb : α → σ → M (Ctl σ τ)} (st : ∀ a s ρ, R s ρ → ∃ ρ1, patSet pt (ea a) ρ = some ρ1 ∧ J (KC R e) (body ρ1) (mb a s)) : ∀ (xs : List α) (s : σ) (ρ : Mi.Env), R s ρ → J (KC R e) (forL pt body (xs.map ea) ρ) (forC xs s mb)
  | [], s, ρ, h => fun _ => ⟨_, rfl, rfl, h⟩
  | a :: r, s, ρ, h => fun n => by
    obtain ⟨ρ1, e1, h1⟩ := st a s ρ h
    rw [List.map_cons]
    unfold forL forC
    rw [e1, opt_bnd, bnd_app, bnd_app]
    have hn := h1 n
    cases q : mb a s n with
    | ok c k =>
      rw [q] at hn
      obtain ⟨⟨ρ', fl⟩, e2, e3⟩ : ∃ q, body ρ1 n = .ok q k ∧ KC R e c q := hn
      rw [e2]
      cases c with
      | nx s' =>
        have e3 : fl = .nx ∧ R s' ρ' := e3
        obtain ⟨rfl, e4⟩ := e3
        exact forC_is st r s' ρ' e4 k
      | rt v =>
        have e3 : fl = .rt (e v) := e3
        subst e3
        exact ⟨_, rfl, rfl⟩
    | err c k =>
      rw [q] at hn
      have hn : body ρ1 n = .err c k := hn
      rw [hn]
      exact rfl
    | bad => trivial
theorem j_forN {fi : Mi.Env → M (List D)} {pt : Pat} {body : MS} {R : σ → Mi.Env → Prop} {mi : M (List α)} {s0 : σ} {mb : α → σ → M σ} {m2 : σ → M δ} (hi : Is (List.map ea) (fi ρ) mi) (h0 : R s0 ρ) (st : ∀ a s ρ, R s ρ → ∃ ρ1, patSet pt (ea a) ρ = some ρ1 ∧ J (KN R) (body ρ1) (mb a s)) (h2 : ∀ s ρ', R s ρ' → J K (s2 ρ') (m2 s)) :
    J K (sSeq (sFor fi pt body) s2 ρ) (mi >>= fun xs => forN xs s0 (fun a s => mb a s) >>= fun s => m2 s) := fun n => by
  have hn := hi n
  rw [bnd_app]
  cases q : mi n with
  | ok xs k =>
    rw [q] at hn
    have hn : fi ρ n = .ok (xs.map ea) k := hn
    have e : sSeq (sFor fi pt body) s2 ρ n = sSeq (fun ρ => forL pt body (xs.map ea) ρ) s2 ρ k := by rw [sSeq_app, sSeq_app, sFor_app, hn, bd_ok]
    rw [e]
    exact j_joinN (s1 := fun ρ => forL pt body (xs.map ea) ρ) (forN_is st xs s0 ρ h0) h2 k
  | err c k =>
    rw [q] at hn
    have hn : fi ρ n = .err c k := hn
    rw [sSeq_app, sFor_app, hn]
    exact rfl
  | bad => trivial
theorem j_forC {fi : Mi.Env → M (List D)} {pt : Pat} {body : MS} {R : σ → Mi.Env → Prop} {e : τ → D} {mi : M (List α)} {s0 : σ} {mb : α → σ → M (Ctl σ τ)} {m2 : σ → M δ} {b : τ → δ} (hi : Is (List.map ea) (fi ρ) mi) (h0 : R s0 ρ) (st : ∀ a s ρ, R s ρ → ∃ ρ1, patSet pt (ea a) ρ = some ρ1 ∧ J (KC R e) (body ρ1) (mb a s)) (h2 : ∀ s ρ', R s ρ' → J K (s2 ρ') (m2 s))
    (hk : ∀ v ρ', K (b v) (ρ', .rt (e v))) : J K (sSeq (sFor fi pt body) s2 ρ) (mi >>= fun xs => forC xs s0 (fun a s => mb a s) >>= fun c => c.go (fun s => m2 s) fun v => pure (b v)) := fun n => by
  have hn := hi n
  rw [bnd_app]
  cases q : mi n with
  | ok xs k =>
    rw [q] at hn
    have hn : fi ρ n = .ok (xs.map ea) k := hn
    have e : sSeq (sFor fi pt body) s2 ρ n = sSeq (fun ρ => forL pt body (xs.map ea) ρ) s2 ρ k := by rw [sSeq_app, sSeq_app, sFor_app, hn, bd_ok]
    rw [e]
    exact j_joinC (s1 := fun ρ => forL pt body (xs.map ea) ρ) (forC_is st xs s0 ρ h0) h2 hk k
  | err c k =>
    rw [q] at hn
    have hn : fi ρ n = .err c k := hn
    rw [sSeq_app, sFor_app, hn]
    exact rfl
  | bad => trivial
theorem whN_is {body : MS} {R : σ → Mi.Env → Prop} {mc : σ → M Bool} {mb : σ → M σ} (hc : ∀ s ρ, R s ρ → Is iB (tc ρ) (mc s)) (st : ∀ s ρ, R s ρ → J (KN R) (body ρ) (mb s)) : ∀ (k : Nat) (s : σ) (ρ : Mi.Env), R s ρ → J (KN R) (whL tc body k ρ) (whN mc mb k s)
  | 0, _, _, _ => fun _ => trivial
  | k + 1, s, ρ, h => fun n => by
    have hn := hc s ρ h n
    have e0 : whL tc body (k + 1) ρ n = (tc ρ n).bd fun b => if b = true then (body ρ >>= fun q => match q with
        | (ρ2, .nx) => whL tc body k ρ2
        | (ρ2, .ct) => whL tc body k ρ2
        | (ρ2, .bk) => pure (ρ2, .nx)
        | (ρ2, .rt d) => pure (ρ2, .rt d)
        | (ρ2, .ro ds) => pure (ρ2, .ro ds) : M (Mi.Env × Fl)) else pure (ρ, .nx) := bnd_app _ _ _
    rw [e0]
    unfold whN
    rw [bnd_app]
    cases q : mc s n with
    | ok b k1 =>
      rw [q] at hn
      have hn : tc ρ n = .ok b k1 := hn
      rw [hn, bd_ok, bd_ok]
      cases b with
      | false =>
        rw [if_neg Bool.false_ne_true, if_neg Bool.false_ne_true]
        exact ⟨_, rfl, rfl, h⟩
      | true =>
        rw [if_pos rfl, if_pos rfl, bnd_app, bnd_app]
        have h1 := st s ρ h k1
        cases q1 : mb s k1 with
        | ok s' k2 =>
          rw [q1] at h1
          obtain ⟨⟨ρ', fl⟩, e2, e3, e4⟩ : ∃ q, body ρ k1 = .ok q k2 ∧ KN R s' q := h1
          have e3 : fl = .nx := e3
          subst e3
          rw [e2]
          exact whN_is hc st k s' ρ' e4 k2
        | err c k2 =>
          rw [q1] at h1
          have h1 : body ρ k1 = .err c k2 := h1
          rw [h1]
          exact rfl
        | bad => trivial
    | err c k1 =>
      rw [q] at hn
      have hn : tc ρ n = .err c k1 := hn
      rw [hn]
      exact rfl
    | bad => trivial
theorem j_whN {body : MS} {R : σ → Mi.Env → Prop} {mc : σ → M Bool} {mb : σ → M σ} {s0 : σ} {m2 : σ → M δ} (h0 : R s0 ρ) (hc : ∀ s ρ, R s ρ → Is iB (tc ρ) (mc s)) (st : ∀ s ρ, R s ρ → J (KN R) (body ρ) (mb s)) (h2 : ∀ s ρ', R s ρ' → J K (s2 ρ') (m2 s)) :
    J K (sSeq (sWhile k tc body) s2 ρ) (whN (fun s => mc s) (fun s => mb s) k s0 >>= fun s => m2 s) := j_joinN (s1 := sWhile k tc body) (whN_is hc st k s0 ρ h0) h2
/-! single statements -/
theorem j_set {m2 : α → M δ} (h : Is ea (fa ρ) ma) (h2 : ∀ a, J K (s2 (ρ.set i (.fz (ea a)))) (m2 a)) : J K (sSeq (sSet i fa) s2 ρ) (ma >>= fun a => m2 a) := j_step (ρ1 := fun d => ρ.set i (.fz d)) (fun n => sSet_app) h h2
theorem j_drop {m2 : α → M δ} (h : Is ea (fa ρ) ma) (h2 : ∀ a, J K (s2 ρ) (m2 a)) : J K (sSeq (sDrop fa) s2 ρ) (ma >>= fun a => m2 a) := j_step (ρ1 := fun _ => ρ) (fun n => sDrop_app) h h2
theorem j_own {ml : M (List α)} {m2 : List α → M δ} (h : Is (List.map ea) (fs ρ) ml) (hi : i < ρ.length) (h2 : ∀ xs, J K (s2 (ρ.set i (.ow (xs.map ea)))) (m2 xs)) : J K (sSeq (sOwn i fs) s2 ρ) (ml >>= fun xs => m2 xs) :=
  j_step (ρ1 := fun ds => ρ.set i (.ow ds)) (fun n => by
    rw [sOwn_app]
    cases fs ρ n with
    | ok ds k =>
      rw [bd_ok, bd_ok, bnd_app, need_app, if_pos (decide_eq_true hi)]
      rfl
    | _ => rfl) h h2
theorem j_own2 {m2 : M δ} (hi : i < ρ.length) (h2 : J K (s2 (ρ.set i (.ow2 []))) m2) : J K (sSeq (sOwn2 i (lLst aNil)) s2 ρ) m2 :=
  j_step (ma := pure ()) (r1 := pure ()) (e := fun x => x) (ρ1 := fun _ => ρ.set i (.ow2 [])) (m2 := fun _ => m2) (fun n => own2_ok hi) is_pure fun _ => h2
theorem j_app {xs : List α} {m2 : α → M δ} (hv : ρ.at i = .ow (xs.map ea)) (h : Is ea (fa ρ) ma) (h2 : ∀ a, J K (s2 (ρ.set i (.ow ((xs ++ [a]).map ea)))) (m2 a)) : J K (sSeq (sApp i fa) s2 ρ) (ma >>= fun a => room (xs.length + 1) >>= fun _ => m2 a) := by
  have e : (ma >>= fun a => room (xs.length + 1) >>= fun _ => m2 a) = (ma >>= fun a => room (xs.length + 1) >>= fun _ => pure a) >>= m2 := by
    rw [bnd_bnd]
    congr 1
    funext a
    rw [bnd_bnd]
    rfl
  rw [e]
  refine j_step (r1 := fa ρ >>= fun d => need (decide (xs.length < sizeLine)) >>= fun _ => pure d) (e := ea) (ρ1 := fun d => ρ.set i (.ow (xs.map ea ++ [d]))) (fun n => ?_) (is_bind h fun a => is_need fun _ => is_pure) fun a => ?_
  · unfold sApp
    rw [hv]
    show (fa ρ >>= _) n = _
    rw [bnd_app, bnd_app]
    cases fa ρ n with
    | ok d k =>
      rw [bd_ok, bd_ok, bnd_app, bnd_app, List.length_map]
      cases need (decide (xs.length < sizeLine)) k <;> rfl
    | _ => rfl
  · have := h2 a
    rw [List.map_append] at this
    exact this
theorem j_ext {xs : List α} {ml : M (List α)} {m2 : List α → M δ} (hv : ρ.at i = .ow (xs.map ea)) (h : Is (eLi ea) (fa ρ) ml) (h2 : ∀ ys, J K (s2 (ρ.set i (.ow ((xs ++ ys).map ea)))) (m2 ys)) : J K (sSeq (sExt i fa) s2 ρ) (ml >>= fun ys => room (xs.length + ys.length) >>= fun _ => m2 ys) := by
  have e : (ml >>= fun ys => room (xs.length + ys.length) >>= fun _ => m2 ys) = (ml >>= fun ys => room (xs.length + ys.length) >>= fun _ => pure ys) >>= m2 := by
    rw [bnd_bnd]
    congr 1
    funext ys
    rw [bnd_bnd]
    rfl
  rw [e]
  refine j_step (r1 := fa ρ >>= fun d => ofOpt (asL d) >>= fun es => need (decide (xs.length + es.length ≤ sizeLine)) >>= fun _ => pure es) (e := List.map ea) (ρ1 := fun ds => ρ.set i (.ow (xs.map ea ++ ds))) (fun n => ?_) (is_bind h fun ys => ?_) fun a => ?_
  · unfold sExt
    rw [hv]
    show (fa ρ >>= _) n = _
    rw [bnd_app, bnd_app]
    cases fa ρ n with
    | ok d k =>
      rw [bd_ok, bd_ok, bnd_app, bnd_app]
      cases asL d with
      | none => rfl
      | some es =>
        rw [some_app, bd_ok, bd_ok, bnd_app, bnd_app, List.length_map]
        cases need (decide (xs.length + es.length ≤ sizeLine)) k <;> rfl
    | _ => rfl
  · rw [asL_lst, opt_bnd]
    exact is_needI (fun hz => by rw [List.length_map]; exact hz) fun _ => is_pure
  · have := h2 a
    rw [List.map_append] at this
    exact this
theorem j_app2 {xss : List (List α)} {xs : List α} {m2 : M δ} (hv : ρ.at i = .ow2 (xss.map (List.map ea))) (hw : ρ.at j = .ow (xs.map ea)) (h2 : J K (s2 ((ρ.set j .no).set i (.ow2 ((xss ++ [xs]).map (List.map ea))))) m2) : J K (sSeq (sApp2 i j) s2 ρ) (room (xss.length + 1) >>= fun _ => m2) := by
  refine j_step (r1 := need (decide (xss.length < sizeLine))) (e := fun x => x) (ρ1 := fun _ => (ρ.set j .no).set i (.ow2 (xss.map (List.map ea) ++ [xs.map ea]))) (fun n => ?_) (fun n => ?_) fun _ => ?_
  · unfold sApp2
    rw [hv, hw]
    show (need _ >>= _) n = _
    rw [bnd_app, List.length_map]
  · rw [show room (xss.length + 1) = need (decide (xss.length < sizeLine)) from rfl]
    cases need (decide (xss.length < sizeLine)) n <;> first | rfl | trivial
  · rw [List.map_append] at h2
    exact h2
theorem putI_is {xs : List α} {mj : M Nat} {a : α} (hv : ρ.at i = .ow (xs.map ea)) (hj : Is natD (fa ρ) mj) : Is (fun ys : List α => ρ.set i (.ow (ys.map ea))) (putI i fa (ea a) ρ) (mj >>= fun k => putN xs k a) := by
  unfold putI
  rw [hv]
  show Is _ (fa ρ >>= _) _
  refine is_bind hj fun k => ?_
  rw [optI_int, opt_bnd]
  unfold putN
  refine is_needR fun hz => ?_
  rw [List.length_map, ixN_cast (of_decide_eq_true hz), opt_bnd]
  exact is_pure' (by rw [List.map_set])
theorem putI_isI {xs : List α} {mj : M Int} {a : α} (hv : ρ.at i = .ow (xs.map ea)) (hj : Is eI (fa ρ) mj) : Is (fun ys : List α => ρ.set i (.ow (ys.map ea))) (putI i fa (ea a) ρ) (mj >>= fun k => putI' xs k a) := by
  unfold putI
  rw [hv]
  show Is _ (fa ρ >>= _) _
  refine is_bind hj fun k => ?_
  rw [optI_int, opt_bnd, List.length_map]
  unfold putI'
  exact is_opt (x := fun x => x) (by cases L2.ixN xs.length k <;> rfl) fun m _ => is_pure' (by rw [List.map_set])
theorem j_put0 {ε : Type} {e : ε → Mi.Env} {r : M Mi.Env} {ml : M ε} {m2 : ε → M δ} (h1 : ∀ n, s1 ρ n = (r n).bd fun ρ1 => pure (ρ1, .nx)) (h : Is e r ml) (h2 : ∀ ys, J K (s2 (e ys)) (m2 ys)) : J K (sSeq s1 s2 ρ) (ml >>= fun ys => m2 ys) := j_step (ρ1 := fun ρ1 => ρ1) h1 h h2
theorem bnd3 {a : M α} {f : α → M β} {g : α → β → M γ} {m2 : γ → M δ} : (a >>= fun x => f x >>= fun y => g x y >>= fun z => m2 z) = (a >>= fun x => f x >>= fun y => g x y) >>= fun z => m2 z := by
  rw [bnd_bnd]
  congr 1
  funext x
  rw [bnd_bnd]
theorem j_putN {xs : List α} {mj : M Nat} {m2 : List α → M δ} (hv : ρ.at i = .ow (xs.map ea)) (h : Is ea (fb ρ) ma) (hj : Is natD (fa ρ) mj) (h2 : ∀ ys : List α, J K (s2 (ρ.set i (.ow (ys.map ea)))) (m2 ys)) : J K (sSeq (sPut i fa fb) s2 ρ) (ma >>= fun a => mj >>= fun k => putN xs k a >>= fun ys => m2 ys) := by
  rw [bnd3]
  exact j_put0 (r := fb ρ >>= fun d => putI i fa d ρ) (fun n => by
    unfold sPut
    rw [bnd_app, bnd_app]
    cases fb ρ n with
    | ok d k => rw [bd_ok, bd_ok, bnd_app]
    | _ => rfl) (is_bind h fun a => putI_is hv hj) h2
theorem j_putI {xs : List α} {mj : M Int} {m2 : List α → M δ} (hv : ρ.at i = .ow (xs.map ea)) (h : Is ea (fb ρ) ma) (hj : Is eI (fa ρ) mj) (h2 : ∀ ys : List α, J K (s2 (ρ.set i (.ow (ys.map ea)))) (m2 ys)) : J K (sSeq (sPut i fa fb) s2 ρ) (ma >>= fun a => mj >>= fun k => putI' xs k a >>= fun ys => m2 ys) := by
  rw [bnd3]
  exact j_put0 (r := fb ρ >>= fun d => putI i fa d ρ) (fun n => by
    unfold sPut
    rw [bnd_app, bnd_app]
    cases fb ρ n with
    | ok d k => rw [bd_ok, bd_ok, bnd_app]
    | _ => rfl) (is_bind h fun a => putI_isI hv hj) h2
/-- x[a], x[b] = a pair -/
theorem j_putP {xs : List α} {mp : M (α × α)} {mj mk : M Nat} {m2 : List α → M δ} (hv : ρ.at i = .ow (xs.map ea)) (hi : i < ρ.length) (h : Is (eP ea ea) (fc ρ) mp) (hj : Is natD (fa ρ) mj) (hk : ∀ ys : List α, Is natD (fb (ρ.set i (.ow (ys.map ea)))) mk) (h2 : ∀ ys : List α, J K (s2 (ρ.set i (.ow (ys.map ea)))) (m2 ys)) :
    J K (sSeq (sPutP i fa fb fc) s2 ρ) ((mp >>= fun p => (mj >>= fun a => putN xs a p.1) >>= fun ys => mk >>= fun b => putN ys b p.2) >>= fun zs => m2 zs) := by
  refine j_put0 (e := fun zs : List α => ρ.set i (.ow (zs.map ea))) (r := fc ρ >>= fun d => ofOpt (asP d) >>= fun p => putI i fa p.1 ρ >>= fun ρ1 => putI i fb p.2 ρ1) (fun n => ?_) (is_bind h fun p => ?_) h2
  · unfold sPutP
    rw [bnd_app, bnd_app]
    cases fc ρ n with
    | ok d k =>
      rw [bd_ok, bd_ok, bnd_app, bnd_app]
      cases asP d with
      | none => rfl
      | some p =>
        rw [some_app, bd_ok, bd_ok, bnd_app, bnd_app]
        cases putI i fa p.1 ρ k with
        | ok ρ1 k => rw [bd_ok, bd_ok, bnd_app]
        | _ => rfl
    | _ => rfl
  · rw [asP_tup, opt_bnd]
    refine is_bind (putI_is hv hj) fun ys => ?_
    have hv' : Env.at (ρ.set i (.ow (ys.map ea))) i = .ow (ys.map ea) := by rw [at_set, if_pos ⟨rfl, hi⟩]
    have := putI_is (a := p.2) hv' (hk ys)
    simp only [List.set_set] at this
    exact this
/-- x[a][b] = e -/
theorem j_put2 {xss : List (List α)} {mj mk : M Nat} {m2 : List (List α) → M δ} (hv : ρ.at i = .ow2 (xss.map (List.map ea))) (h : Is ea (fc ρ) ma) (hj : Is natD (fa ρ) mj) (hk : Is natD (fb ρ) mk) (h2 : ∀ ys : List (List α), J K (s2 (ρ.set i (.ow2 (ys.map (List.map ea))))) (m2 ys)) :
    J K (sSeq (sPut2 i fa fb fc) s2 ρ) ((ma >>= fun v => mj >>= fun a => ixN xss a >>= fun xs => mk >>= fun b => putN xs b v >>= fun ys => pure (xss.set a ys)) >>= fun zs => m2 zs) := by
  refine j_put0 (e := fun zs : List (List α) => ρ.set i (.ow2 (zs.map (List.map ea)))) (r := fc ρ >>= fun d => put2 i fa fb d ρ) (fun n => ?_) (is_bind h fun v => ?_) h2
  · unfold sPut2
    rw [bnd_app, bnd_app]
    cases fc ρ n with
    | ok d k => rw [bd_ok, bd_ok, bnd_app]
    | _ => rfl
  · unfold put2
    rw [hv]
    show Is _ (fa ρ >>= _) _
    refine is_bind hj fun a => ?_
    rw [optI_int, opt_bnd]
    unfold Mi.ixN
    cases q : xss[a]? with
    | none => exact is_bad
    | some xs =>
      have ha : a < xss.length := (List.getElem?_eq_some_iff.mp q).1
      rw [List.length_map, ixN_cast ha, opt_bnd, opt_bnd, List.getElem?_map, q, Option.map_some, opt_bnd]
      refine is_bind hk fun b => ?_
      rw [optI_int, opt_bnd]
      unfold putN
      rw [bnd_bnd]
      refine is_needR fun hb => ?_
      rw [List.length_map, ixN_cast (of_decide_eq_true hb), opt_bnd]
      exact is_pure' (by rw [List.map_set, List.map_set])
theorem j_ins {xs : List α} {mk : M Nat} {m2 : List α → M δ} (hv : ρ.at i = .ow (xs.map ea)) (hk : Is natD (fa ρ) mk) (h : Is ea (fb ρ) ma) (h2 : ∀ ys : List α, J K (s2 (ρ.set i (.ow (ys.map ea)))) (m2 ys)) :
    J K (sSeq (sIns i fa fb) s2 ρ) ((mk >>= fun k => ma >>= fun a => insM xs k a) >>= fun zs => m2 zs) := by
  refine j_put0 (e := fun zs : List α => ρ.set i (.ow (zs.map ea))) (r := fa ρ >>= fun a => fb ρ >>= fun d => ofOpt (optI a) >>= fun k => need (decide (xs.length < sizeLine ∧ 0 ≤ k ∧ k < 2 ^ 63)) >>= fun _ => pure (ρ.set i (.ow ((xs.map ea).take k.toNat ++ d :: (xs.map ea).drop k.toNat)))) (fun n => ?_) (is_bind hk fun k => is_bind h fun a => ?_) h2
  · unfold sIns
    rw [hv]
    show (fa ρ >>= _) n = _
    rw [bnd_app, bnd_app]
    cases fa ρ n with
    | ok x k =>
      rw [bd_ok, bd_ok, bnd_app, bnd_app]
      cases fb ρ k with
      | ok d k =>
        rw [bd_ok, bd_ok, bnd_app, bnd_app]
        cases optI x with
        | none => rfl
        | some z =>
          rw [some_app, bd_ok, bd_ok, bnd_app, bnd_app, List.length_map]
          cases need (decide (xs.length < sizeLine ∧ 0 ≤ z ∧ z < 2 ^ 63)) k <;> rfl
      | _ => rfl
    | _ => rfl
  · rw [optI_int, opt_bnd]
    unfold insM room
    refine is_needR fun h1 => is_needI (fun h2 => ?_) fun _ => is_pure' ?_
    · have h1 := of_decide_eq_true h1
      have h2 := of_decide_eq_true h2
      refine decide_eq_true ⟨?_, ?_, ?_⟩ <;> omega
    · rw [Int.toNat_natCast, List.map_append, List.map_take, List.map_cons, List.map_drop]
/-- p = x.pop(), a name or two -/
theorem j_pop {pt : Pat} {xs : List α} {m2 : α × List α → M δ} (hv : ρ.at i = .ow (xs.map ea)) {ρ2 : α × List α → Mi.Env} (hp : ∀ p, patSet pt (ea p.1) (ρ.set i (.ow (p.2.map ea))) = some (ρ2 p)) (h2 : ∀ p, J K (s2 (ρ2 p)) (m2 p)) : J K (sSeq (sPop i pt) s2 ρ) (popM xs >>= fun p => m2 p) := by
  refine j_put0 (e := ρ2) (r := ofOpt (xs.map ea)[(xs.map ea).length - 1]? >>= fun d => ofOpt (patSet pt d (ρ.set i (.ow (xs.map ea).dropLast)))) (fun n => ?_) ?_ h2
  · unfold sPop
    rw [hv]
    show (ofOpt _ >>= _) n = _
    rw [bnd_app, bnd_app]
    cases (xs.map ea)[(xs.map ea).length - 1]? with
    | none => rfl
    | some d => rw [some_app, bd_ok, bd_ok, bnd_app]
  · unfold popM
    refine is_opt (x := ea) (by rw [List.getElem?_map, List.length_map]) fun a _ => ?_
    have := hp (a, xs.dropLast)
    rw [List.map_dropLast] at this
    rw [this]
    exact is_pure' rfl
theorem j_par {m2 : α → β → M δ} (ha : Is ea (fa ρ) ma) (hb : Is eb (fb ρ) mb) (h2 : ∀ a b, J K (s2 ((ρ.set i (.fz (ea a))).set j (.fz (eb b)))) (m2 a b)) : J K (sSeq (sPar i j (aCons fa (aCons fb aNil))) s2 ρ) ((ma >>= fun a => mb >>= fun b => pure (a, b)) >>= fun p => m2 p.1 p.2) := by
  refine j_step (r1 := fa ρ >>= fun x => fb ρ >>= fun y => pure (x, y)) (e := fun p : α × β => (ea p.1, eb p.2)) (ρ1 := fun d => (ρ.set i (.fz d.1)).set j (.fz d.2)) (fun n => ?_) (is_bind ha fun a => is_bind hb fun b => is_pure' rfl) fun p => h2 p.1 p.2
  unfold sPar
  rw [bnd_app, aCons_app, bnd_app]
  cases fa ρ n with
  | ok x k =>
    rw [bd_ok, bd_ok, bnd_app, bnd_app, aCons_app]
    cases fb ρ k <;> rfl
  | _ => rfl
theorem j_pat {pt : Pat} {m2 : α → M δ} {ρ2 : α → Mi.Env} (h : Is ea (fa ρ) ma) (hp : ∀ a, patSet pt (ea a) ρ = some (ρ2 a)) (h2 : ∀ a, J K (s2 (ρ2 a)) (m2 a)) : J K (sSeq (sPat pt fa) s2 ρ) (ma >>= fun a => m2 a) := by
  have e : ∀ n, sPat pt fa ρ n = ((fa ρ >>= fun d => ofOpt (patSet pt d ρ)) n).bd fun ρ1 => pure (ρ1, .nx) := fun n => by
    rw [sPat_app, bnd_app]
    cases fa ρ n with
    | ok d k => rw [bd_ok, bd_ok, bnd_app]
    | _ => rfl
  have e2 : (ma >>= fun a => m2 a) = (ma >>= fun a => pure a) >>= fun a => m2 a := by
    rw [bnd_bnd]
    rfl
  rw [e2]
  exact j_put0 (e := ρ2) e (is_bind h fun a => by rw [hp]; exact is_pure' rfl) h2
def bumpT : M Unit := bump
theorem j_town {m2 : M δ} (hv : ρ.at i = .fz townD) (h2 : J K (s2 ρ) m2) : J K (sSeq (sTown i) s2 ρ) (bumpT >>= fun _ => m2) := by
  refine j_step (r1 := bump) (e := fun x => x) (ρ1 := fun _ => ρ) (fun n => ?_) is_id fun _ => h2
  unfold sTown
  rw [hv]
  have e : ∀ f : Unit → M (Mi.Env × Fl), (need (isTown townD) >>= f) = f () := fun f => rfl
  dsimp only
  rw [e, bnd_app]
theorem j_try {names : List Str} {m2 : α → M δ} {m3 : Str → M δ} (h : Is ea (fa ρ) ma) (h2 : ∀ a, J K (s2 (ρ.set k (.fz (ea a)))) (m2 a)) (h3 : ∀ c, J K (s2 (((ρ.set i (.fz (excD c))).set j (.fz (excD c))).set i .no)) (m3 c)) : J K (sSeq (sTry names k i j fa) s2 ρ) (tryM names ma >>= fun r => exGo r (fun a => m2 a) (fun c => m3 c)) := fun n => by
  have hn := h n
  rw [sSeq_app, bnd_app]
  unfold tryM sTry
  cases q : ma n with
  | ok a k' =>
    rw [q] at hn
    have hn : fa ρ n = .ok (ea a) k' := hn
    rw [hn]
    exact h2 a k'
  | err c k' =>
    rw [q] at hn
    have hn : fa ρ n = .err c k' := hn
    rw [hn]
    dsimp only
    by_cases hr : ranked names c = true
    · rw [if_pos hr, if_pos hr]
      exact h3 c k'
    · rw [if_neg hr]
      trivial
  | bad => trivial
/-! a list of lists of one's own, by a comprehension -/
theorem mapA2_is {pat : D → Option Mi.Env} {fe : Mi.Env → M (List D)} {g : α → M (List β)} (hb : ∀ a, ∃ ρ1, pat (ea a) = some ρ1 ∧ Is (List.map eb) (fe ρ1) (g a)) : ∀ (xs : List α) (acc : List (List β)), Is (List.map (List.map eb)) (compL2 pat tYesM fe (xs.map ea) (acc.map (List.map eb))) (mapA g xs acc)
  | [], acc => is_pure
  | a :: r, acc => by
    obtain ⟨ρ1, e1, h1⟩ := hb a
    unfold mapA
    rw [List.map_cons]
    unfold compL2
    rw [e1]
    show Is _ (noErr (fe ρ1) >>= fun y => need (decide ((acc.map (List.map eb)).length < sizeLine)) >>= fun _ => compL2 pat tYesM fe (r.map ea) (acc.map (List.map eb) ++ [y])) _
    refine is_bind (is_noErr h1) fun b => is_needI (fun hz => by rw [List.length_map]; exact hz) fun _ => ?_
    have := mapA2_is hb r (acc ++ [b])
    rw [List.map_append] at this
    exact this
theorem j_own2C {fi : Mi.Env → M (List D)} {pt : Pat} {own : List Nat} {fe : Mi.Env → M (List D)} {mi : M (List α)} {g : α → M (List β)} {m2 : List (List β) → M δ} (hi : Is (List.map ea) (fi ρ) mi) (hb : ∀ a, ∃ ρ1, patSet pt (ea a) (wipeE ρ own) = some ρ1 ∧ Is (List.map eb) (fe ρ1) (g a)) (hl : i < ρ.length) (h2 : ∀ xss : List (List β), J K (s2 (ρ.set i (.ow2 (xss.map (List.map eb))))) (m2 xss)) :
    J K (sSeq (sOwn2C i fi pt own tYesM fe) s2 ρ) ((mi >>= fun xs => mapMM (fun a => g a) xs) >>= fun xss => m2 xss) := by
  refine j_step (r1 := fi ρ >>= fun ds => compL2 (fun d => patSet pt d (wipeE ρ own)) tYesM fe ds []) (e := List.map (List.map eb)) (ρ1 := fun dss => ρ.set i (.ow2 dss)) (fun n => ?_) (is_bind hi fun xs => mapA2_is hb xs []) h2
  unfold sOwn2C
  rw [bnd_app, bnd_app]
  cases fi ρ n with
  | ok ds k =>
    rw [bd_ok, bd_ok, bnd_app]
    cases compL2 (fun d => patSet pt d (wipeE ρ own)) tYesM fe ds [] k with
    | ok dss k =>
      rw [bd_ok, bd_ok, bnd_app, need_app, if_pos (decide_eq_true hl)]
      rfl
    | _ => rfl
  | _ => rfl
/-! defs -/
theorem is_run {e : τ → D} {L : Nat} {b : MS} {ds : List D} {m : M τ} (h : J (KF e) (b (startE L ds)) m) : Is e (Mi.run L b ds) m := fun n => by
  have hn := h n
  rw [run_app]
  cases q : m n with
  | ok a k =>
    rw [q] at hn
    obtain ⟨⟨ρ', fl⟩, e1, e2⟩ : ∃ q, b (startE L ds) n = .ok q k ∧ KF e a q := hn
    rw [e1]
    rcases e2 with e2 | ⟨e2, e3⟩
    · have e2 : fl = .rt (e a) := e2
      subst e2
      rfl
    · have e2 : fl = .nx := e2
      subst e2
      show Res.ok PyData.none k = Res.ok (e a) k
      rw [e3]
  | err c k =>
    rw [q] at hn
    have hn : b (startE L ds) n = .err c k := hn
    rw [hn]
    exact rfl
  | bad => trivial
theorem law_of {L i : Nat} {b : MS} {ns : List Int} {m : M Bool} (h : J (KF eB) (b ((startE L [scrD ns]).set i (.fz townD))) m) (hm : ∃ n, m 0 = .ok true n) : lawOk L i b ns := by
  obtain ⟨n, hm⟩ := hm
  refine ⟨n, ?_⟩
  have hn := h 0
  rw [hm] at hn
  obtain ⟨⟨ρ', fl⟩, e1, e2⟩ : ∃ q, b ((startE L [scrD ns]).set i (.fz townD)) 0 = .ok q n ∧ KF eB true q := hn
  rw [bnd_app, e1, bd_ok]
  rcases e2 with e2 | ⟨e2, e3⟩
  · have e2 : fl = .rt (eB true) := e2
    subst e2
    rfl
  · cases e3
end
end Mi

end

section
set_option Elab.async false
set_option linter.all false
set_option maxRecDepth 100000
set_option maxHeartbeats 4000000
/-! ## Mg5: from one way of writing values down to another -/
namespace Mi
open PySem PySem.Spec L2 PySem.W
section
variable {α β γ δ : Type} {ea : α → D} {eb : β → D} {ec : γ → D} {ed : δ → D}
theorem y_v2 {ρ : Mi.Env} {i : Nat} {xss : List (List α)} (h : ρ.at i = .fz (.list ((xss.map (List.map ea)).map PyData.list))) : Is (eLi (eLi ea)) (eVar i ρ) (pure xss) := y_v (by rw [h, List.map_map]; rfl)
abbrev eE : Empty → D := fun x => nomatch x
theorem co_M {f : α → β} (h : ∀ a, eb (f a) = ea a) (xs : List α) : List.map eb (List.map f xs) = List.map ea xs := by
  rw [List.map_map]
  exact List.map_congr_left fun x _ => h x
theorem co_L {f : α → β} (h : ∀ a, eb (f a) = ea a) (xs : List α) : eLi eb (List.map f xs) = eLi ea xs := by
  show PyData.list _ = PyData.list _
  rw [co_M h]
theorem co_T {f : α → β} (h : ∀ a, eb (f a) = ea a) (xs : List α) : eTu eb (List.map f xs) = eTu ea xs := by
  show PyData.tuple _ = PyData.tuple _
  rw [co_M h]
theorem co_O {f : α → β} (h : ∀ a, eb (f a) = ea a) (x : Option α) : eO eb (Option.map f x) = eO ea x := by
  cases x with
  | none => rfl
  | some a => exact h a
theorem co_P {f : α → β} {g : γ → δ} (h : ∀ a, eb (f a) = ea a) (h2 : ∀ a, ed (g a) = ec a) (p : α × γ) : eP eb ed (Prod.map f g p) = eP ea ec p := by
  show PyData.tuple [_, _] = PyData.tuple [_, _]
  rw [← h, ← h2]
  rfl
theorem co_PT {f : α → β} {g : γ → β} (h : ∀ a, eb (f a) = ea a) (h2 : ∀ a, eb (g a) = ec a) (p : α × γ) : eTu eb [f p.1, g p.2] = eP ea ec p := by
  show PyData.tuple [_, _] = PyData.tuple [_, _]
  rw [← h, ← h2]
def toN (i : Int) : M Nat := if 0 ≤ i then pure i.toNat else bad
theorem toN_is (i : Int) : Is natD (pure (eI i)) (toN i) := by
  unfold toN
  by_cases h : 0 ≤ i
  · rw [if_pos h]
    refine is_pure' ?_
    show PyData.int i = PyData.int (i.toNat : Int)
    rw [Int.toNat_of_nonneg h]
  · rw [if_neg h]
    exact is_bad
theorem unO_is (h : ∀ u : Unit, True = True) (o : Option α) : Is ea (pure (eO ea o)) (ofOpt o) := by
  cases o with
  | none => exact is_bad
  | some a => exact is_pure
def asS : D → M Str
  | .str x => pure x
  | _ => bad
theorem asS_is (d : D) : Is eS (pure (eA d)) (asS d) := by cases d <;> first | exact is_bad | exact is_pure
def asBM : D → M Bool
  | .bool x => pure x
  | _ => bad
/-- what a value is, if it is of that kind -/
def dcN : D → Option Nat
  | .int i => if 0 ≤ i then some i.toNat else none
  | _ => none
theorem dcN_of {d : D} {a : Nat} (h : dcN d = some a) : natD a = d := by
  cases d with
  | int i =>
    have h : (if 0 ≤ i then some i.toNat else none) = some a := h
    by_cases z : 0 ≤ i
    · rw [if_pos z] at h
      cases h
      show PyData.int (i.toNat : Int) = PyData.int i
      rw [Int.toNat_of_nonneg z]
    · rw [if_neg z] at h
      cases h
  | _ => cases h
def dcI : D → Option Int
  | .int i => some i
  | _ => none
theorem dcI_of {d : D} {a : Int} (h : dcI d = some a) : eI a = d := by
  cases d <;> first | (cases h; rfl) | cases h
def dcB : D → Option Bool
  | .bool i => some i
  | _ => none
theorem dcB_of {d : D} {a : Bool} (h : dcB d = some a) : eB a = d := by
  cases d <;> first | (cases h; rfl) | cases h
def dcS : D → Option Str
  | .str i => some i
  | _ => none
theorem dcS_of {d : D} {a : Str} (h : dcS d = some a) : eS a = d := by
  cases d <;> first | (cases h; rfl) | cases h
def dcAll (dc : D → Option α) : List D → Option (List α)
  | [] => some []
  | d :: r => match dc d, dcAll dc r with
    | some a, some as => some (a :: as)
    | _, _ => none
theorem dcAll_of {dc : D → Option α} (hd : ∀ {d a}, dc d = some a → ea a = d) : ∀ {ds : List D} {as : List α}, dcAll dc ds = some as → as.map ea = ds
  | [], _, h => by cases h; rfl
  | d :: r, as, h => by
    unfold dcAll at h
    cases e1 : dc d with
    | none => rw [e1] at h; cases h
    | some a =>
      cases e2 : dcAll dc r with
      | none => rw [e1, e2] at h; cases h
      | some bs =>
        rw [e1, e2] at h
        cases h
        rw [List.map_cons, hd e1, dcAll_of hd e2]
def dcL (dc : D → Option α) : D → Option (List α)
  | .list ds => dcAll dc ds
  | _ => none
theorem dcL_of {dc : D → Option α} (hd : ∀ {d a}, dc d = some a → ea a = d) {d : D} {a : List α} (h : dcL dc d = some a) : eLi ea a = d := by
  cases d with
  | list ds =>
    show PyData.list _ = PyData.list _
    rw [dcAll_of hd h]
  | _ => cases h
def dcT (dc : D → Option α) : D → Option (List α)
  | .tuple ds => dcAll dc ds
  | _ => none
theorem dcT_of {dc : D → Option α} (hd : ∀ {d a}, dc d = some a → ea a = d) {d : D} {a : List α} (h : dcT dc d = some a) : eTu ea a = d := by
  cases d with
  | tuple ds =>
    show PyData.tuple _ = PyData.tuple _
    rw [dcAll_of hd h]
  | _ => cases h
def dcP (dc : D → Option α) (dc' : D → Option β) : D → Option (α × β)
  | .tuple [x, y] => match dc x, dc' y with
    | some a, some b => some (a, b)
    | _, _ => none
  | _ => none
theorem dcP_of {dc : D → Option α} {dc' : D → Option β} (hd : ∀ {d a}, dc d = some a → ea a = d) (hd' : ∀ {d a}, dc' d = some a → eb a = d) {d : D} {p : α × β} (h : dcP dc dc' d = some p) : eP ea eb p = d := by
  unfold dcP at h
  split at h
  · rename_i x y
    cases e1 : dc x with
    | none => rw [e1] at h; cases h
    | some a =>
      cases e2 : dc' y with
      | none => rw [e1, e2] at h; cases h
      | some b =>
        rw [e1, e2] at h
        cases h
        show PyData.tuple [_, _] = PyData.tuple [_, _]
        rw [hd e1, hd' e2]
  · cases h
theorem dec_is {dc : D → Option α} (hd : ∀ {d a}, dc d = some a → ea a = d) (d : D) : Is ea (pure (eA d)) (ofOpt (dc d)) := by
  cases e : dc d with
  | none => exact is_bad
  | some a =>
    refine is_pure' ?_
    rw [hd e]
theorem dcAllL_is {dc : D → Option α} (hd : ∀ {d a}, dc d = some a → ea a = d) (ds : List D) : Is (eLi ea) (pure (eLi eA ds)) (ofOpt (dcAll dc ds)) := by
  cases e : dcAll dc ds with
  | none => exact is_bad
  | some a =>
    refine is_pure' ?_
    show PyData.list (ds.map fun d => d) = PyData.list _
    rw [dcAll_of hd e, List.map_id']
theorem dcAllT_is {dc : D → Option α} (hd : ∀ {d a}, dc d = some a → ea a = d) (ds : List D) : Is (eTu ea) (pure (eTu eA ds)) (ofOpt (dcAll dc ds)) := by
  cases e : dcAll dc ds with
  | none => exact is_bad
  | some a =>
    refine is_pure' ?_
    show PyData.tuple (ds.map fun d => d) = PyData.tuple _
    rw [dcAll_of hd e, List.map_id']
theorem pc_is {f : α → Option β} (hf : ∀ {x y}, f x = some y → eb y = ea x) (x : α) : Is eb (pure (ea x)) (ofOpt (f x)) := by
  cases e : f x with
  | none => exact is_bad
  | some a =>
    refine is_pure' ?_
    rw [hf e]
theorem pc_co {f : α → β} (h : ∀ a, eb (f a) = ea a) {x : α} {y : β} (e : some (f x) = some y) : eb y = ea x := by
  cases e
  exact h x
theorem pc_O {f : α → Option β} (hf : ∀ {x y}, f x = some y → eb y = ea x) {x : Option α} {y : β} (e : x.bind f = some y) : eb y = eO ea x := by
  cases x with
  | none => cases e
  | some a => exact hf e
def toNo (i : Int) : Option Nat := if 0 ≤ i then some i.toNat else none
theorem toNo_of {x : Int} {y : Nat} (h : toNo x = some y) : natD y = eI x := by
  unfold toNo at h
  split at h
  · cases h
    show PyData.int (x.toNat : Int) = PyData.int x
    rename_i z
    rw [Int.toNat_of_nonneg z]
  · cases h
def pcL (f : α → Option β) : List α → Option (List β)
  | [] => some []
  | x :: r => match f x, pcL f r with
    | some a, some as => some (a :: as)
    | _, _ => none
theorem pcM_of {f : α → Option β} (hf : ∀ {x y}, f x = some y → eb y = ea x) : ∀ {xs : List α} {ys : List β}, pcL f xs = some ys → ys.map eb = xs.map ea
  | [], _, h => by cases h; rfl
  | x :: r, ys, h => by
    unfold pcL at h
    cases e1 : f x with
    | none => rw [e1] at h; cases h
    | some a =>
      cases e2 : pcL f r with
      | none => rw [e1, e2] at h; cases h
      | some bs =>
        rw [e1, e2] at h
        cases h
        rw [List.map_cons, List.map_cons, hf e1, pcM_of hf e2]
theorem pcL_of {f : α → Option β} (hf : ∀ {x y}, f x = some y → eb y = ea x) {xs : List α} {ys : List β} (h : pcL f xs = some ys) : eLi eb ys = eLi ea xs := by
  show PyData.list _ = PyData.list _
  rw [pcM_of hf h]
theorem pcT_of {f : α → Option β} (hf : ∀ {x y}, f x = some y → eb y = ea x) {xs : List α} {ys : List β} (h : pcL f xs = some ys) : eTu eb ys = eTu ea xs := by
  show PyData.tuple _ = PyData.tuple _
  rw [pcM_of hf h]
def pcP (f : α → Option β) (g : γ → Option δ) (p : α × γ) : Option (β × δ) := match f p.1, g p.2 with
  | some a, some b => some (a, b)
  | _, _ => none
theorem pcP_of {f : α → Option β} {g : γ → Option δ} (hf : ∀ {x y}, f x = some y → eb y = ea x) (hg : ∀ {x y}, g x = some y → ed y = ec x) {p : α × γ} {q : β × δ} (h : pcP f g p = some q) : eP eb ed q = eP ea ec p := by
  unfold pcP at h
  cases e1 : f p.1 with
  | none => rw [e1] at h; cases h
  | some a =>
    cases e2 : g p.2 with
    | none => rw [e1, e2] at h; cases h
    | some b =>
      rw [e1, e2] at h
      cases h
      show PyData.tuple [_, _] = PyData.tuple [_, _]
      rw [← hf e1, ← hg e2]
/-- all are of the kind: what it comes to -/
theorem pcL_map {f : α → Option β} {g : α → β} {xs : List α} (h : ∀ x ∈ xs, f x = some (g x)) : pcL f xs = some (xs.map g) := by
  induction xs with
  | nil => rfl
  | cons x r ih =>
    unfold pcL
    rw [h x List.mem_cons_self, ih fun y hy => h y (List.mem_cons_of_mem _ hy)]
    rfl
/-- min(xs) -/
def minL (e : α → D) : List α → M α
  | [] => bad
  | x :: r => pure (r.foldl (fun a y => if PySem.W.dataLt (e y) (e a) then y else a) x)
def minM (e : α → D) (xs : List α) : M α := need (minOk (xs.map e)) >>= fun _ => minL e xs
theorem fold_min (x : α) : ∀ r : List α, (r.map ea).foldl (fun a y => if PySem.W.dataLt y a then y else a) (ea x) = ea (r.foldl (fun a y => if PySem.W.dataLt (ea y) (ea a) then y else a) x) := fun r => by
  induction r generalizing x with
  | nil => rfl
  | cons y r ih =>
    rw [List.map_cons, List.foldl_cons, List.foldl_cons, ← ih]
    congr 1
    split <;> rfl
theorem o_min (xs : List α) : Is ea (gMin (eLi ea xs)) (minM ea xs) := is_need fun _ => by
  cases xs with
  | nil => exact is_bad
  | cons x r => exact is_pure' (fold_min x r)
end
/-! the names' values written out -/
section
variable {α δ τ : Type} {ea : α → D} {ρ : Mi.Env} {fa : Mi.Env → M D} {fs : Mi.Env → M (List D)} {i : Nat} {ma : M α} {K : δ → Mi.Env × Fl → Prop} {s2 : MS}
theorem j_setN {m2 : α → M δ} {ρ2 : α → Mi.Env} (hρ : ∀ a, ρ.set i (.fz (ea a)) = ρ2 a) (h : Is ea (fa ρ) ma) (h2 : ∀ a, J K (s2 (ρ2 a)) (m2 a)) : J K (sSeq (sSet i fa) s2 ρ) (ma >>= fun a => m2 a) := j_set h fun a => by rw [hρ]; exact h2 a
theorem j_ownN {ml : M (List α)} {m2 : List α → M δ} {ρ2 : List α → Mi.Env} (hρ : ∀ xs : List α, ρ.set i (.ow (xs.map ea)) = ρ2 xs) (h : Is (List.map ea) (fs ρ) ml) (hi : i < ρ.length) (h2 : ∀ xs, J K (s2 (ρ2 xs)) (m2 xs)) : J K (sSeq (sOwn i fs) s2 ρ) (ml >>= fun xs => m2 xs) := j_own h hi fun a => by rw [hρ]; exact h2 a
theorem is_runN {e : τ → D} {L : Nat} {b : MS} {ds : List D} {m : M τ} {ρ : Mi.Env} (hρ : startE L ds = ρ) (h : J (KF e) (b ρ) m) : Is e (Mi.run L b ds) m := is_run (by rw [hρ]; exact h)
theorem j_normN {b : MS} {m : M τ} {K : τ → Mi.Env × Fl → Prop} {ρ ρ' : Mi.Env} (hρ : ρ' = ρ) (h : J K (b ρ) m) : J K (b ρ') m := by rw [hρ]; exact h
end
end Mi

end

section
set_option Elab.async false
set_option linter.all false
set_option maxRecDepth 100000
set_option maxHeartbeats 4000000
/-! ## Mg6: how many pairs, each once -/
namespace Mi
open PySem PySem.Spec L2 PySem.W
def onceP : List (Nat × Nat) → List (Nat × Nat)
  | [] => []
  | a :: r => if a ∈ onceP r then onceP r else a :: onceP r
theorem mem_onceP {k : Nat × Nat} : ∀ {l : List (Nat × Nat)}, k ∈ onceP l ↔ k ∈ l
  | [] => Iff.rfl
  | m :: r => by
    unfold onceP
    split
    · rename_i h
      rw [mem_onceP (l := r), List.mem_cons]
      exact ⟨.inr, fun z => z.elim (fun e => by rw [e]; exact mem_onceP.mp h) id⟩
    · rw [List.mem_cons, List.mem_cons, mem_onceP (l := r)]
theorem onceP_nodup : ∀ l : List (Nat × Nat), (onceP l).Nodup
  | [] => List.nodup_nil
  | m :: r => by
    unfold onceP
    split
    · exact onceP_nodup r
    · rename_i h
      exact List.nodup_cons.mpr ⟨h, onceP_nodup r⟩
def prI (p : Nat × Nat) : List Int := [(p.1 : Int), (p.2 : Int)]
theorem prI_inj {p q : Nat × Nat} (h : prI p = prI q) : p = q := by
  unfold prI at h
  injection h with h1 h2
  injection h2 with h2 _
  exact Prod.ext (Int.ofNat.inj h1) (Int.ofNat.inj h2)
theorem onceR_map : ∀ l : List (Nat × Nat), onceR (l.map prI) = (onceP l).map prI
  | [] => rfl
  | p :: r => by
    have ih := onceR_map r
    have hm : prI p ∈ onceR (r.map prI) ↔ p ∈ onceP r := by
      rw [ih, List.mem_map]
      exact ⟨fun ⟨q, hq, e⟩ => prI_inj e ▸ hq, fun h => ⟨p, h, rfl⟩⟩
    rw [List.map_cons]
    unfold onceR onceP
    by_cases h : p ∈ onceP r
    · rw [if_pos h, if_pos (hm.mpr h), ih]
    · rw [if_neg h, if_neg (fun z => h (hm.mp z)), ih, List.map_cons]
theorem rowsI_map : ∀ l : List (Nat × Nat), rowsI (l.map (eP natD natD)) = some (l.map prI)
  | [] => rfl
  | p :: r => by
    rw [List.map_cons]
    unfold rowsI
    rw [rowsI_map r]
    rfl
def lensP (xs : List (Nat × Nat)) : M Nat := need (decide (xs.length < 60)) >>= fun _ => pure (onceP xs).length
section
variable {ρ : Mi.Env} {fa : Mi.Env → M D}
theorem y_lensP {m : M (List (Nat × Nat))} (h : Is (eLi (eP natD natD)) (fa ρ) m) : Is natD (eLenP fa ρ) (m >>= fun xs => lensP xs) := is_bind h fun xs => by
  rw [asL_lst]
  show Is natD (ofOpt (rowsI (xs.map (eP natD natD))) >>= fun ks => need (decide (ks.length < 60)) >>= fun _ => (pure (.int (onceR ks).length) : M D)) _
  rw [rowsI_map]
  show Is _ (need _ >>= _) _
  refine is_needI (fun hz => ?_) fun _ => is_pure' ?_
  · rw [List.length_map]
    exact hz
  · show PyData.int _ = PyData.int _
    rw [onceR_map, List.length_map]
end
end Mi

end

section
set_option Elab.async false
set_option linter.all false
set_option maxRecDepth 100000
set_option maxHeartbeats 4000000
/-! ## Mg7: defs that tell a new list -/
namespace Mi
open PySem PySem.Spec L2 PySem.W
def KO {α : Type} (e : α → D) : List α → Mi.Env × Fl → Prop := fun xs q => q.2 = .ro (xs.map e)
section
variable {α β γ δ τ : Type} {ea : α → D} {eb : β → D} {ec : γ → D} {ρ : Mi.Env} {fa fb : Mi.Env → M D} {ma : M α} {mb : M β} {i : Nat} {K : δ → Mi.Env × Fl → Prop}
theorem j_retO {b : List α → δ} {xs : List α} (hv : ρ.at i = .ow (xs.map ea)) (hk : K (b xs) (ρ, .ro (xs.map ea))) : J K (sRetO i ρ) (pure (b xs)) := fun n => by
  have e : sRetO i ρ = pure (ρ, .ro (xs.map ea)) := by
    unfold sRetO
    rw [hv]
  rw [e]
  exact ⟨_, rfl, hk⟩
theorem is_runF {e : τ → D} {L : Nat} {b : MS} {ds : List D} {m : M (List τ)} {ρ : Mi.Env} (hρ : startE L ds = ρ) (h : J (KO e) (b ρ) m) : Is (List.map e) (runF L b ds) m := fun n => by
  subst hρ
  have hn := h n
  have hr : runF L b ds n = M.bnd (b (startE L ds)) outF n := rfl
  cases q : m n with
  | ok a k =>
    rw [q] at hn
    obtain ⟨⟨ρ', fl⟩, e1, e2⟩ : ∃ q, b (startE L ds) n = .ok q k ∧ KO e a q := hn
    have e2 : fl = .ro (a.map e) := e2
    subst e2
    show runF L b ds n = _
    rw [hr]
    unfold M.bnd
    rw [e1]
    rfl
  | err c k =>
    rw [q] at hn
    have hn : b (startE L ds) n = .err c k := hn
    show runF L b ds n = _
    rw [hr]
    unfold M.bnd
    rw [hn]
  | bad => trivial
theorem yl_f2 {f : List D → M (List D)} {g : α → β → M (List γ)} (hf : ∀ a b, Is (List.map ec) (f [ea a, eb b]) (g a b)) (ha : Is ea (fa ρ) ma) (hb : Is eb (fb ρ) mb) : Is (List.map ec) (lFn 2 f (aCons fa (aCons fb aNil)) ρ) (ma >>= fun a => mb >>= fun b => g a b) := fun n => by
  have : lFn 2 f (aCons fa (aCons fb aNil)) ρ = fa ρ >>= fun x => fb ρ >>= fun y => f [x, y] := by
    funext n
    unfold lFn
    rw [bnd_app, aCons_app, bnd_app]
    cases fa ρ n with
    | ok a k =>
      rw [bd_ok, bd_ok, bnd_app, aCons_app, bnd_app]
      cases fb ρ k <;> rfl
    | _ => rfl
  rw [this]
  exact is_bind ha (fun a => is_bind hb fun b => hf a b) n
end
end Mi

end

section
set_option Elab.async false
set_option linter.all false
set_option maxRecDepth 100000
set_option maxHeartbeats 4000000
/-! ## Mg8: a tuple times a number -/
namespace Mi
open PySem PySem.Spec L2 PySem.W
def repTM {α : Type} (xs : List α) (k : Nat) : M (List α) := need (decide (1 ≤ xs.length ∧ 2 ≤ k ∧ k ≤ 1000 ∧ xs.length ≤ 1000)) >>= fun _ => pure (List.replicate k xs).flatten
section
variable {α : Type} {ea : α → D}
theorem o_repT (xs : List α) (k : Nat) : Is (eTu ea) (dRepT (eTu ea xs) (natD k)) (repTM xs k) := is_needI (fun h => by
  have h := of_decide_eq_true h
  rw [List.length_map]
  exact decide_eq_true (by omega)) fun _ => is_pure' (by
    show PyData.tuple _ = PyData.tuple _
    rw [Int.toNat_natCast, List.map_flatten, List.map_replicate])
end
end Mi

end

section
set_option Elab.async false
set_option linter.all false
set_option maxRecDepth 100000
set_option maxHeartbeats 4000000
/-! ## Mg9: texts joined -/
namespace Mi
open PySem PySem.Spec L2 PySem.W
def joinM (a : Str) (ys : List Str) : M Str := need (JoinOk a ys) >>= fun _ => pure (Txt.join a ys)
def strNM (i : Nat) : M Str := need (decide (i.log2 < 1920)) >>= fun _ => pure (toString (i : Int))
def strIM (i : Int) : M Str := need (decide (i.natAbs.log2 < 1920)) >>= fun _ => pure (toString i)
theorem strsOf_map : ∀ ys : List Str, strsOf (ys.map PyData.str) = some ys
  | [] => rfl
  | y :: r => by
    rw [List.map_cons]
    unfold strsOf
    rw [strsOf_map r]
    rfl
section
variable {ρ : Mi.Env} {fa fb : Mi.Env → M D}
theorem y_join {ma : M Str} {mb : M (List Str)} (ha : Is eS (fa ρ) ma) (hb : Is (eLi eS) (fb ρ) mb) : Is eS (eJoin fa fb ρ) (ma >>= fun a => mb >>= fun ys => joinM a ys) := is_bind ha fun a => by
  show Is eS (ofOpt (strOf (.str a)) >>= fun a => fb ρ >>= fun y => ofOpt (asL y) >>= fun ds => ofOpt (strsOf ds) >>= fun ys => need (JoinOk a ys) >>= fun _ => (pure (.str (Txt.join a ys)) : M D)) _
  rw [show strOf (.str a) = some a from rfl, opt_bnd]
  refine is_bind (e := eLi eS) hb fun ys => ?_
  rw [asL_lst, opt_bnd, show List.map eS ys = ys.map PyData.str from rfl, strsOf_map, opt_bnd]
  exact is_need fun _ => is_pure
theorem o_strI (i : Int) : Is eS (gStrI (eI i)) (strIM i) := is_need fun _ => is_pure
theorem o_strN (i : Nat) : Is eS (gStrI (natD i)) (strNM i) := is_needI (fun h => h) fun _ => is_pure
end
section
variable {α β δ : Type} {ea : α → D} {eb : β → D} {ρ : Mi.Env} {fa fb : Mi.Env → M D} {ma : M α} {mb : M β} {i j : Nat} {s2 : MS} {K : δ → Mi.Env × Fl → Prop}
theorem j_parN {m2 : α → β → M δ} {ρ2 : α → β → Mi.Env} (hρ : ∀ a b, (ρ.set i (.fz (ea a))).set j (.fz (eb b)) = ρ2 a b) (ha : Is ea (fa ρ) ma) (hb : Is eb (fb ρ) mb) (h2 : ∀ a b, J K (s2 (ρ2 a b)) (m2 a b)) : J K (sSeq (sPar i j (aCons fa (aCons fb aNil))) s2 ρ) (ma >>= fun a => mb >>= fun b => m2 a b) := by
  have := j_par (i := i) (j := j) (K := K) (m2 := m2) ha hb fun a b => by rw [hρ]; exact h2 a b
  have e : ((ma >>= fun a => mb >>= fun b => pure (a, b)) >>= fun p : α × β => m2 p.1 p.2) = (ma >>= fun a => mb >>= fun b => m2 a b) := by
    rw [bnd_bnd]
    congr 1
    funext a
    rw [bnd_bnd]
    rfl
  rw [e] at this
  exact this
end
end Mi

end

section
set_option Elab.async false
set_option linter.all false
set_option maxRecDepth 100000
set_option maxHeartbeats 4000000
/-! the mirrors that laws have alike -/
namespace Pg
open PySem PySem.Spec L2 Mi
/-- 0 one, 1 other, 2 some, 3 size, 4 a, 5 b -/
def b_can_go_on : MS :=
    (sSeq (sSet 3 (eCall (arg1 dLen) (aCons (eVar 2) aNil)))
    (sSeq (sFor (iRange1 (aCons (eVar 3) aNil)) (.nm 4)
    (sFor (iRange1 (aCons (eVar 3) aNil)) (.nm 5)
    (sIf (bAnd (tB (e2 dLt (e2 dIx (e2 dIx (eVar 0) (eVar 4)) (eVar 5)) (eVar 3))) (tB (e2 dNe (e2 dIx (eVar 2) (e2 dIx (e2 dIx (eVar 0) (eVar 4)) (eVar 5))) (e2 dIx (e2 dIx (eVar 1) (e2 dIx (eVar 2) (eVar 4))) (e2 dIx (eVar 2) (eVar 5))))))
    (sRet (eC (.bool false)))
    sNx)))
    (sRet (eC (.bool true)))))
def f_can_go_on : List D → M D := Mi.run 6 b_can_go_on
/-- 0 table, 1 size, 2 row, 3 thing -/
def b_look_table : MS :=
    (sSeq (sSet 1 (eCall (arg1 dLen) (aCons (eVar 0) aNil)))
    (sSeq (sIf (bOr (bNot (tB (e3 dLe dLe (eC (.int 1)) (eVar 1) (eC (.int 6))))) (bNot (tT (eCall (arg1 (gAll fun bs => bs.all id)) (aCons (eL (lComp (iSeq (eVar 0)) (.nm 2) [2] tYesM (e2 dEq (eCall (arg1 dLen) (aCons (eVar 2) aNil)) (eVar 1)))) aNil)))))
    (sRaise "BadTable")
    sNx)
    (sIf (bNot (tT (eCall (arg1 (gAll fun bs => bs.all id)) (aCons (eL (lComp (iSeq (eVar 0)) (.nm 2) [2] tYesM (eCall (arg1 (gAll fun bs => bs.all id)) (aCons (eL (lComp (iSeq (eVar 2)) (.nm 3) [3] tYesM (e3 dLe dLt (eC (.int 0)) (eVar 3) (eVar 1)))) aNil)))) aNil))))
    (sRaise "BadTable")
    sNx)))
def f_look_table : List D → M D := Mi.run 4 b_look_table
/-- 0 one, 1 other, 2 found, 3 a, 4 longer, 5 some, 6 thing -/
def b_leadings : MS :=
    (sSeq (sDrop (eFn 1 f_look_table (aCons (eVar 0) aNil)))
    (sSeq (sDrop (eFn 1 f_look_table (aCons (eVar 1) aNil)))
    (sSeq (sSet 2 (eL (lLst (aCons (eTup aNil) aNil))))
    (sSeq (sFor (iRange1 (aCons (eCall (arg1 dLen) (aCons (eVar 0) aNil)) aNil)) (.nm 3)
    (sSeq (sOwn 4 (lLst aNil))
    (sSeq (sFor (iSeq (eVar 2)) (.nm 5)
    (sExt 4 (eL (lComp (iRange1 (aCons (eCall (arg1 dLen) (aCons (eVar 1) aNil)) aNil)) (.nm 6) [6] (tT (eFn 3 f_can_go_on (aCons (eVar 0) (aCons (eVar 1) (aCons (e2 dAdd (eVar 5) (eTup (aCons (eVar 6) aNil))) aNil))))) (e2 dAdd (eVar 5) (eTup (aCons (eVar 6) aNil)))))))
    (sFz 4 (sSet 2 (eVar 4))))))
    (sRet (eVar 2))))))
def f_leadings : List D → M D := Mi.run 7 b_leadings
/-- 0 one, 1 other, 2 found, 3 some -/
def b_turns : MS :=
    (sSeq (sSet 2 (eFn 2 f_leadings (aCons (eVar 0) (aCons (eVar 1) aNil))))
    (sRet (eL (lComp (iSeq (eVar 2)) (.nm 3) [3] (bAnd (tB (e2 dEq (eCall (arg1 dLen) (aCons (eVar 0) aNil)) (eCall (arg1 dLen) (aCons (eVar 1) aNil)))) (tB (e2 dEq (eLens (eVar 3)) (eCall (arg1 dLen) (aCons (eVar 3) aNil))))) (eVar 3)))))
def f_turns : List D → M D := Mi.run 4 b_turns
/-- 0 one, 1 other, 2 found -/
def b_alike : MS :=
    (sSeq (sSet 2 (eFn 2 f_turns (aCons (eVar 0) (aCons (eVar 1) aNil))))
    (sRet (eIf (tT (eVar 2)) (e2 dIx (eVar 2) (eC (.int 0))) (eC .none))))
def f_alike : List D → M D := Mi.run 3 b_alike
/-- 0 table, 1 names, 2 pairs, 3 size, 4 row, 5 thing, 6 found, 7 low, 8 high, 9 one, 10 other, 11 name -/
def b_closed : MS :=
    (sSeq (sSet 3 (eCall (arg1 dLen) (aCons (eVar 0) aNil)))
    (sSeq (sOwn 4 (lCall (arg1 gList) (aCons (eVar 2) aNil)))
    (sSeq (sFor (iRange1 (aCons (eVar 3) aNil)) (.nm 5)
    (sApp 4 (eTup (aCons (eVar 5) (aCons (e2 dIx (eVar 1) (eVar 5)) aNil)))))
    (sSeq (sSet 6 (eL (lRg1 (eVar 3))))
    (sSeq (sWhile 4096 (bBo 4 (tT (eVar 4)))
    (sSeq (sPop 4 (.tup [9, 10]))
    (sSeq (sSet 7 (eCall (arg2 gMin2) (aCons (e2 dIx (eVar 6) (eVar 9)) (aCons (e2 dIx (eVar 6) (eVar 10)) aNil))))
    (sSeq (sSet 8 (eCall (arg2 gMax2) (aCons (e2 dIx (eVar 6) (eVar 9)) (aCons (e2 dIx (eVar 6) (eVar 10)) aNil))))
    (sIf (tB (e2 dNe (eVar 7) (eVar 8)))
    (sSeq (sSet 6 (eL (lComp (iSeq (eVar 6)) (.nm 11) [11] tYesM (eIf (tB (e2 dEq (eVar 11) (eVar 8))) (eVar 7) (eVar 11)))))
    (sFor (iRange1 (aCons (eVar 3) aNil)) (.nm 5)
    (sExt 4 (eL (lLst (aCons (eTup (aCons (e2 dIx (e2 dIx (eVar 0) (eVar 9)) (eVar 5)) (aCons (e2 dIx (e2 dIx (eVar 0) (eVar 10)) (eVar 5)) aNil))) (aCons (eTup (aCons (e2 dIx (e2 dIx (eVar 0) (eVar 5)) (eVar 9)) (aCons (e2 dIx (e2 dIx (eVar 0) (eVar 5)) (eVar 10)) aNil))) aNil)))))))
    sNx)))))
    (sRet (eCall (arg1 gTuple) (aCons (eVar 6) aNil))))))))
def f_closed : List D → M D := Mi.run 12 b_closed
/-- 0 table, 1 parting, 2 least, 3 thing -/
def b_look_parting : MS :=
    (sSeq (sDrop (eFn 1 f_look_table (aCons (eVar 0) aNil)))
    (sSeq (sIf (bOr (tB (e2 dNe (eCall (arg1 dLen) (aCons (eVar 1) aNil)) (eCall (arg1 dLen) (aCons (eVar 0) aNil)))) (bNot (tT (eCall (arg1 (gAll fun bs => bs.all id)) (aCons (eL (lComp (iRange1 (aCons (eCall (arg1 dLen) (aCons (eVar 1) aNil)) aNil)) (.nm 3) [3] tYesM (e3 dLe dLe (eC (.int 0)) (e2 dIx (eVar 1) (eVar 3)) (eVar 3)))) aNil)))))
    (sRaise "BadParting")
    sNx)
    (sIf (bNot (tT (eCall (arg1 (gAll fun bs => bs.all id)) (aCons (eL (lComp (iSeq (eVar 1)) (.nm 2) [2] tYesM (e2 dEq (e2 dIx (eVar 1) (eVar 2)) (eVar 2)))) aNil))))
    (sRaise "BadParting")
    sNx)))
def f_look_parting : List D → M D := Mi.run 4 b_look_parting
/-- 0 table, 1 one, 2 other, 3 thing -/
def b_both_joined : MS :=
    (sSeq (sDrop (eFn 2 f_look_parting (aCons (eVar 0) (aCons (eVar 1) aNil))))
    (sSeq (sDrop (eFn 2 f_look_parting (aCons (eVar 0) (aCons (eVar 2) aNil))))
    (sRet (eFn 3 f_closed (aCons (eVar 0) (aCons (eVar 1) (aCons (eL (lComp (iRange1 (aCons (eCall (arg1 dLen) (aCons (eVar 0) aNil)) aNil)) (.nm 3) [3] tYesM (eTup (aCons (eVar 3) (aCons (e2 dIx (eVar 2) (eVar 3)) aNil))))) aNil)))))))
def f_both_joined : List D → M D := Mi.run 4 b_both_joined
/-- 0 parting, 1 name -/
def b_tidied : MS :=
    (sRet (eCall (arg1 gTuple) (aCons (eL (lComp (iSeq (eVar 0)) (.nm 1) [1] tYesM (eIdx (eVar 0) (eVar 1)))) aNil)))
def f_tidied : List D → M D := Mi.run 2 b_tidied
/-- 0 one, 1 other, 2 k -/
def b_met : MS :=
    (sRet (eFn 1 f_tidied (aCons (eL (lComp (iRange1 (aCons (eCall (arg1 dLen) (aCons (eVar 0) aNil)) aNil)) (.nm 2) [2] tYesM (eTup (aCons (e2 dIx (eVar 0) (eVar 2)) (aCons (e2 dIx (eVar 1) (eVar 2)) aNil))))) aNil)))
def f_met : List D → M D := Mi.run 3 b_met
/-- 0 table, 1 one, 2 other -/
def b_both_met : MS :=
    (sSeq (sDrop (eFn 2 f_look_parting (aCons (eVar 0) (aCons (eVar 1) aNil))))
    (sSeq (sDrop (eFn 2 f_look_parting (aCons (eVar 0) (aCons (eVar 2) aNil))))
    (sRet (eFn 2 f_met (aCons (eVar 1) (aCons (eVar 2) aNil))))))
def f_both_met : List D → M D := Mi.run 3 b_both_met
/-- 0 table, 1 names, 2 size, 3 found, 4 one, 5 other, 6 k, 7 row -/
def b_call : MS :=
    (sSeq (sSet 2 (eCall (arg1 dLen) (aCons (eVar 0) aNil)))
    (sSeq (sOwn2C 3 (iRange1 (aCons (eVar 2) aNil)) (.nm 6) [6] tYesM (lRep (eL (lLst (aCons (eC (.int 0)) aNil))) (eVar 2)))
    (sSeq (sFor (iRange1 (aCons (eVar 2) aNil)) (.nm 4)
    (sFor (iRange1 (aCons (eVar 2) aNil)) (.nm 5)
    (sPut2 3 (e2 dIx (eVar 1) (eVar 4)) (e2 dIx (eVar 1) (eVar 5)) (e2 dIx (eVar 1) (e2 dIx (e2 dIx (eVar 0) (eVar 4)) (eVar 5))))))
    (sFz 3 (sRet (eCall (arg1 gTuple) (aCons (eL (lComp (iSeq (eVar 3)) (.nm 7) [7] tYesM (eCall (arg1 gTuple) (aCons (eVar 7) aNil)))) aNil)))))))
def f_call : List D → M D := Mi.run 8 b_call
/-- 0 table, 1 parting, 2 size, 3 one, 4 other -/
def b_does_keep : MS :=
    (sSeq (sSet 2 (eCall (arg1 dLen) (aCons (eVar 0) aNil)))
    (sSeq (sFor (iRange1 (aCons (eVar 2) aNil)) (.nm 3)
    (sFor (iRange1 (aCons (eVar 2) aNil)) (.nm 4)
    (sIf (tB (e2 dNe (e2 dIx (eVar 1) (e2 dIx (e2 dIx (eVar 0) (eVar 3)) (eVar 4))) (e2 dIx (eVar 1) (e2 dIx (e2 dIx (eVar 0) (e2 dIx (eVar 1) (eVar 3))) (e2 dIx (eVar 1) (eVar 4))))))
    (sRet (eC (.bool false)))
    sNx)))
    (sRet (eC (.bool true)))))
def f_does_keep : List D → M D := Mi.run 5 b_does_keep
/-- 0 one, 1 other, 2 leading, 3 a, 4 b -/
def b_does_lead : MS :=
    (sSeq (sFor (iRange1 (aCons (eCall (arg1 dLen) (aCons (eVar 0) aNil)) aNil)) (.nm 3)
    (sFor (iRange1 (aCons (eCall (arg1 dLen) (aCons (eVar 0) aNil)) aNil)) (.nm 4)
    (sIf (tB (e2 dNe (e2 dIx (eVar 2) (e2 dIx (e2 dIx (eVar 0) (eVar 3)) (eVar 4))) (e2 dIx (e2 dIx (eVar 1) (e2 dIx (eVar 2) (eVar 3))) (e2 dIx (eVar 2) (eVar 4)))))
    (sRet (eC (.bool false)))
    sNx)))
    (sRet (eC (.bool true))))
def f_does_lead : List D → M D := Mi.run 5 b_does_lead
/-- 0 table, 1 some, 2 found, 3 k, 4 more, 5 fresh, 6 other, 7 thing -/
def b_grown : MS :=
    (sSeq (sSet 2 (eL (lSrt (eVar 1))))
    (sSeq (sSet 3 (eC (.int 0)))
    (sSeq (sWhile 4096 (tB (e2 dLt (eVar 3) (eCall (arg1 dLen) (aCons (eVar 2) aNil))))
    (sSeq (sSet 4 (e2 dAdd (eL (lComp (iSeq (eVar 2)) (.nm 6) [6] tYesM (e2 dIx (e2 dIx (eVar 0) (e2 dIx (eVar 2) (eVar 3))) (eVar 6)))) (eL (lComp (iSeq (eVar 2)) (.nm 6) [6] tYesM (e2 dIx (e2 dIx (eVar 0) (eVar 6)) (e2 dIx (eVar 2) (eVar 3)))))))
    (sSeq (sSet 5 (eL (lSrt (eL (lComp (iSeq (eVar 4)) (.nm 7) [7] (tB (e2 (dIn true) (eVar 7) (eVar 2))) (eVar 7))))))
    (sIf (tT (eVar 5))
    (sSeq (sSet 2 (eL (lCall (arg1 gSort) (aCons (e2 dAdd (eVar 2) (eVar 5)) aNil))))
    (sSet 3 (eC (.int 0))))
    (sSet 3 (e2 dAdd (eVar 3) (eC (.int 1))))))))
    (sRet (eVar 2)))))
def f_grown : List D → M D := Mi.run 8 b_grown
/-- 0 one, 1 other, 2 leading, 3 thing -/
def b_look_leading : MS :=
    (sSeq (sDrop (eFn 1 f_look_table (aCons (eVar 0) aNil)))
    (sSeq (sDrop (eFn 1 f_look_table (aCons (eVar 1) aNil)))
    (sIf (bOr (tB (e2 dNe (eCall (arg1 dLen) (aCons (eVar 2) aNil)) (eCall (arg1 dLen) (aCons (eVar 0) aNil)))) (bNot (tT (eCall (arg1 (gAll fun bs => bs.all id)) (aCons (eL (lComp (iSeq (eVar 2)) (.nm 3) [3] tYesM (e3 dLe dLt (eC (.int 0)) (eVar 3) (eCall (arg1 dLen) (aCons (eVar 1) aNil))))) aNil)))))
    (sRaise "BadLeading")
    sNx)))
def f_look_leading : List D → M D := Mi.run 4 b_look_leading
/-- 0 one, 1 other, 2 leading -/
def b_is_leading : MS :=
    (sSeq (sDrop (eFn 3 f_look_leading (aCons (eVar 0) (aCons (eVar 1) (aCons (eVar 2) aNil)))))
    (sRet (eFn 3 f_does_lead (aCons (eVar 0) (aCons (eVar 1) (aCons (eVar 2) aNil))))))
def f_is_leading : List D → M D := Mi.run 3 b_is_leading
/-- 0 one, 1 other, 2 leading -/
def b_image : MS :=
    (sSeq (sIf (bNot (tT (eFn 3 f_is_leading (aCons (eVar 0) (aCons (eVar 1) (aCons (eVar 2) aNil))))))
    (sRaise "BadLeading")
    sNx)
    (sRet (eL (lSrt (eVar 2)))))
def f_image : List D → M D := Mi.run 3 b_image
/-- 0 table, 1 parting -/
def b_is_kept : MS :=
    (sSeq (sDrop (eFn 2 f_look_parting (aCons (eVar 0) (aCons (eVar 1) aNil))))
    (sRet (eFn 2 f_does_keep (aCons (eVar 0) (aCons (eVar 1) aNil)))))
def f_is_kept : List D → M D := Mi.run 2 b_is_kept
/-- 0 table, 1 thing -/
def b_look_thing : MS :=
    (sIf (bNot (tB (e3 dLe dLt (eC (.int 0)) (eVar 1) (eCall (arg1 dLen) (aCons (eVar 0) aNil)))))
    (sRaise "BadThing")
    sNx)
def f_look_thing : List D → M D := Mi.run 2 b_look_thing
/-- 0 table, 1 some, 2 thing -/
def b_look_things : MS :=
    (sSeq (sDrop (eFn 1 f_look_table (aCons (eVar 0) aNil)))
    (sFor (iSeq (eVar 1)) (.nm 2)
    (sDrop (eFn 2 f_look_thing (aCons (eVar 0) (aCons (eVar 2) aNil))))))
def f_look_things : List D → M D := Mi.run 3 b_look_things
/-- 0 table, 1 some -/
def b_is_part : MS :=
    (sSeq (sDrop (eFn 2 f_look_things (aCons (eVar 0) (aCons (eVar 1) aNil))))
    (sRet (eAnd (e2 dGt (eCall (arg1 dLen) (aCons (eVar 1) aNil)) (eC (.int 0))) (e2 dEq (eFn 2 f_grown (aCons (eVar 0) (aCons (eVar 1) aNil))) (eL (lSrt (eVar 1)))))))
def f_is_part : List D → M D := Mi.run 2 b_is_part
/-- 0 size, 1 found, 2 thing, 3 longer, 4 parting, 5 least -/
def b_partings : MS :=
    (sSeq (sSet 1 (eL (lLst (aCons (eTup aNil) aNil))))
    (sSeq (sFor (iRange1 (aCons (eVar 0) aNil)) (.nm 2)
    (sSeq (sOwn 3 (lLst aNil))
    (sSeq (sFor (iSeq (eVar 1)) (.nm 4)
    (sExt 3 (e2 dAdd (eL (lComp (iSeq (eL (lSrt (eVar 4)))) (.nm 5) [5] tYesM (e2 dAdd (eVar 4) (eTup (aCons (eVar 5) aNil))))) (eL (lLst (aCons (e2 dAdd (eVar 4) (eTup (aCons (eVar 2) aNil))) aNil))))))
    (sFz 3 (sSet 1 (eVar 3))))))
    (sRet (eL (lCall (arg1 gSort) (aCons (eVar 1) aNil))))))
def f_partings : List D → M D := Mi.run 6 b_partings
/-- 0 table, 1 parting -/
def b_kept_ones : MS :=
    (sSeq (sDrop (eFn 1 f_look_table (aCons (eVar 0) aNil)))
    (sRet (eL (lComp (iSeq (eFn 1 f_partings (aCons (eCall (arg1 dLen) (aCons (eVar 0) aNil)) aNil))) (.nm 1) [1] (tT (eFn 2 f_does_keep (aCons (eVar 0) (aCons (eVar 1) aNil)))) (eVar 1)))))
def f_kept_ones : List D → M D := Mi.run 2 b_kept_ones
/-- 0 _law_script, 1 _law_k -/
def b_law_cell : MS :=
    (sSeq (sIf (tT (eVar 0))
    (sRet (e2 dIx (eVar 0) (e2 dMod (eVar 1) (eCall (arg1 dLen) (aCons (eVar 0) aNil)))))
    sNx)
    (sRet (eC (.int 0))))
def f_law_cell : List D → M D := Mi.run 2 b_law_cell
/-- 0 _law_script, 1 _law_k, 2 _law_number -/
def b_law_mix : MS :=
    (sSeq (sSet 2 (e2 dMod (e2 dAdd (eFn 2 f_law_cell (aCons (eVar 0) (aCons (eVar 1) aNil))) (e2 dMulI (eC (.int 104729)) (e2 dAdd (eVar 1) (eC (.int 1))))) (eC (.int 4294967291))))
    (sSeq (sSet 2 (e2 dMod (e2 dPow (eVar 2) (eC (.int 5))) (eC (.int 4294967279))))
    (sRet (e2 dMod (e2 dAdd (e2 dMulI (e2 dFdiv (eVar 2) (eC (.int 64))) (eC (.int 69621))) (eVar 2)) (eC (.int 4294967231))))))
def f_law_mix : List D → M D := Mi.run 3 b_law_mix
/-- 0 _law_script, 1 _law_town, 2 _law_many -/
def b_law_draw : MS :=
    (sSeq (sTown 1)
    (sRet (e2 dMod (e2 dFdiv (eFn 2 f_law_mix (aCons (eVar 0) (aCons (eCall (arg1 dLen) (aCons (eVar 1) aNil)) aNil))) (eC (.int 8))) (eVar 2))))
def f_law_draw : List D → M D := Mi.run 3 b_law_draw
/-- 0 _law_one, 1 _law_other, 2 _law_k -/
def b_law_finer : MS :=
    (sRet (eCall (arg1 (gAll fun bs => bs.all id)) (aCons (eL (lComp (iRange1 (aCons (eCall (arg1 dLen) (aCons (eVar 0) aNil)) aNil)) (.nm 2) [2] tYesM (e2 dEq (e2 dIx (eVar 1) (eVar 2)) (e2 dIx (eVar 1) (e2 dIx (eVar 0) (eVar 2)))))) aNil)))
def f_law_finer : List D → M D := Mi.run 3 b_law_finer
/-- 0 _law_table_here, 1 _law_parting, 2 _law_size, 3 _law_b, 4 _law_c, 5 _law_a, 6 _law_first -/
def b_law_keeps : MS :=
    (sSeq (sSet 2 (eCall (arg1 dLen) (aCons (eVar 0) aNil)))
    (sSeq (sFor (iRange1 (aCons (eVar 2) aNil)) (.nm 3)
    (sFor (iSeq (eL (lComp (iRange1 (aCons (eVar 2) aNil)) (.nm 4) [4] (tB (e2 dEq (e2 dIx (eVar 1) (eVar 3)) (e2 dIx (eVar 1) (eVar 4)))) (eVar 4)))) (.nm 4)
    (sFor (iRange1 (aCons (eVar 2) aNil)) (.nm 5)
    (sSeq (sSet 6 (eTup (aCons (e2 dIx (eVar 1) (e2 dIx (e2 dIx (eVar 0) (eVar 5)) (eVar 3))) (aCons (e2 dIx (eVar 1) (e2 dIx (e2 dIx (eVar 0) (eVar 3)) (eVar 5))) aNil))))
    (sIf (tB (e2 dNe (eVar 6) (eTup (aCons (e2 dIx (eVar 1) (e2 dIx (e2 dIx (eVar 0) (eVar 5)) (eVar 4))) (aCons (e2 dIx (eVar 1) (e2 dIx (e2 dIx (eVar 0) (eVar 4)) (eVar 5))) aNil)))))
    (sRet (eC (.bool false)))
    sNx)))))
    (sRet (eC (.bool true)))))
def f_law_keeps : List D → M D := Mi.run 7 b_law_keeps
/-- 0 _law_table_here, 1 _law_names, 2 _law_back, 3 _law_found, 4 _law_a, 5 _law_thing, 6 _law_b -/
def b_law_named : MS :=
    (sSeq (sSet 2 (eL (lComp (iRange1 (aCons (eCall (arg1 dLen) (aCons (eVar 1) aNil)) aNil)) (.nm 5) [5] tYesM (eIdx (eVar 1) (eVar 5)))))
    (sSeq (sOwn 3 (lLst aNil))
    (sSeq (sFor (iRange1 (aCons (eCall (arg1 dLen) (aCons (eVar 1) aNil)) aNil)) (.nm 4)
    (sApp 3 (eCall (arg1 gTuple) (aCons (eL (lComp (iRange1 (aCons (eCall (arg1 dLen) (aCons (eVar 1) aNil)) aNil)) (.nm 6) [6] tYesM (e2 dIx (eVar 1) (e2 dIx (e2 dIx (eVar 0) (e2 dIx (eVar 2) (eVar 4))) (e2 dIx (eVar 2) (eVar 6)))))) aNil))))
    (sFz 3 (sRet (eCall (arg1 gTuple) (aCons (eVar 3) aNil)))))))
def f_law_named : List D → M D := Mi.run 7 b_law_named
/-- 0 _law_size, 1 _law_found, 2 _law_k, 3 _law_longer, 4 _law_some, 5 _law_thing -/
def b_law_orders : MS :=
    (sSeq (sSet 1 (eL (lLst (aCons (eL (lLst aNil)) aNil))))
    (sSeq (sFor (iRange1 (aCons (eVar 0) aNil)) (.nm 2)
    (sSeq (sSet 3 (eL (lLst aNil)))
    (sSeq (sFor (iSeq (eVar 1)) (.nm 4)
    (sSet 3 (e2 dAdd (eVar 3) (eL (lComp (iRange1 (aCons (eVar 0) aNil)) (.nm 5) [5] (tB (e2 (dIn true) (eVar 5) (eVar 4))) (e2 dAdd (eVar 4) (eL (lLst (aCons (eVar 5) aNil)))))))))
    (sSet 1 (eVar 3)))))
    (sRet (eVar 1))))
def f_law_orders : List D → M D := Mi.run 6 b_law_orders
/-- 0 _law_script, 1 _law_town, 2 _law_some -/
def b_law_pick : MS :=
    (sRet (e2 dIx (eVar 2) (eFn 3 f_law_draw (aCons (eVar 0) (aCons (eVar 1) (aCons (eCall (arg1 dLen) (aCons (eVar 2) aNil)) aNil))))))
def f_law_pick : List D → M D := Mi.run 3 b_law_pick
/-- 0 _law_script, 1 _law_town, 2 _law_most, 3 _law_size, 4 _law_kind, 5 _law_rows, 6 _law_a, 7 _law_names, 8 _law_k, 9 _law_row, 10 _law_b, 11 _law_at, 12 _law_some -/
def b_law_table : MS :=
    (sSeq (sSet 3 (e2 dAdd (eC (.int 1)) (eFn 3 f_law_draw (aCons (eVar 0) (aCons (eVar 1) (aCons (eVar 2) aNil))))))
    (sSeq (sSet 4 (eFn 3 f_law_draw (aCons (eVar 0) (aCons (eVar 1) (aCons (eC (.int 8)) aNil)))))
    (sSeq (sOwn2 5 (lLst aNil))
    (sSeq (sFor (iRange1 (aCons (eVar 3) aNil)) (.nm 6)
    (sSeq (sOwn 9 (lLst aNil))
    (sSeq (sFor (iRange1 (aCons (eVar 3) aNil)) (.nm 10)
    (sSeq (sSet 12 (eL (lLst (aCons (e2 dMod (e2 dAdd (eVar 6) (eVar 10)) (eVar 3)) (aCons (eCall (arg2 gMin2) (aCons (eVar 6) (aCons (eVar 10) aNil))) (aCons (eCall (arg2 gMax2) (aCons (eVar 6) (aCons (eVar 10) aNil))) (aCons (eVar 6) (aCons (eVar 10) (aCons (e2 dMod (e2 dSub (eVar 6) (eVar 10)) (eVar 3)) (aCons (e2 dMod (e2 dMulI (eVar 6) (eVar 10)) (eVar 3)) aNil))))))))))
    (sApp 9 (eIf (tB (e2 dLt (eVar 4) (eC (.int 7)))) (e2 dIx (eVar 12) (eVar 4)) (eFn 3 f_law_draw (aCons (eVar 0) (aCons (eVar 1) (aCons (eVar 3) aNil))))))))
    (sApp2 5 9))))
    (sSeq (sIf (tB (e2 dEq (eFn 3 f_law_draw (aCons (eVar 0) (aCons (eVar 1) (aCons (eC (.int 3)) aNil)))) (eC (.int 0))))
    (sPut2 5 (eFn 3 f_law_draw (aCons (eVar 0) (aCons (eVar 1) (aCons (eVar 3) aNil)))) (eFn 3 f_law_draw (aCons (eVar 0) (aCons (eVar 1) (aCons (eVar 3) aNil)))) (eFn 3 f_law_draw (aCons (eVar 0) (aCons (eVar 1) (aCons (eVar 3) aNil)))))
    sNx)
    (sSeq (sOwn 7 (lRg1 (eVar 3)))
    (sSeq (sFor (iRange1 (aCons (eVar 3) aNil)) (.nm 8)
    (sSeq (sSet 11 (eFn 3 f_law_draw (aCons (eVar 0) (aCons (eVar 1) (aCons (eVar 3) aNil)))))
    (sPutP 7 (eVar 8) (eVar 11) (eBo 7 (eTup (aCons (e2 dIx (eVar 7) (eVar 11)) (aCons (e2 dIx (eVar 7) (eVar 8)) aNil)))))))
    (sFz 5 (sFz 7 (sRet (eFn 2 f_law_named (aCons (eL (lComp (iSeq (eVar 5)) (.nm 9) [9] tYesM (eCall (arg1 gTuple) (aCons (eVar 9) aNil)))) (aCons (eVar 7) aNil)))))))))))))
def f_law_table : List D → M D := Mi.run 13 b_law_table
/-- 0 size, 1 found, 2 k, 3 longer, 4 some, 5 thing -/
def b_orders : MS :=
    (sSeq (sSet 1 (eL (lLst (aCons (eL (lLst aNil)) aNil))))
    (sSeq (sFor (iRange1 (aCons (eVar 0) aNil)) (.nm 2)
    (sSeq (sOwn 3 (lLst aNil))
    (sSeq (sFor (iSeq (eVar 1)) (.nm 4)
    (sExt 3 (eL (lComp (iRange1 (aCons (eVar 0) aNil)) (.nm 5) [5] (tB (e2 (dIn true) (eVar 5) (eVar 4))) (e2 dAdd (eVar 4) (eL (lLst (aCons (eVar 5) aNil))))))))
    (sFz 3 (sSet 1 (eVar 3))))))
    (sRet (eVar 1))))
def f_orders : List D → M D := Mi.run 6 b_orders
/-- 0 table, 1 names -/
def b_least_form : MS :=
    (sSeq (sDrop (eFn 1 f_look_table (aCons (eVar 0) aNil)))
    (sRet (eCall (arg1 gMin) (aCons (eL (lComp (iSeq (eFn 1 f_orders (aCons (eCall (arg1 dLen) (aCons (eVar 0) aNil)) aNil))) (.nm 1) [1] tYesM (eFn 2 f_call (aCons (eVar 0) (aCons (eVar 1) aNil))))) aNil))))
def f_least_form : List D → M D := Mi.run 2 b_least_form
/-- 0 size, 1 found, 2 thing, 3 count, 4 some -/
def b_lists : MS :=
    (sSeq (sSet 1 (eL (lLst (aCons (eL (lLst aNil)) aNil))))
    (sSeq (sFor (iRange1 (aCons (eVar 0) aNil)) (.nm 2)
    (sSet 1 (e2 dAdd (eVar 1) (eL (lComp (iSeq (eVar 1)) (.nm 4) [4] tYesM (e2 dAdd (eVar 4) (eL (lLst (aCons (eVar 2) aNil)))))))))
    (sRet (eL (lComp (iSeq (eL (lCall (arg1 gSort) (aCons (eL (lComp (iSeq (eVar 1)) (.nm 4) [4] tYesM (eTup (aCons (eCall (arg1 dLen) (aCons (eVar 4) aNil)) (aCons (eVar 4) aNil))))) aNil)))) (.tup [3, 4]) [3, 4] tYesM (eVar 4))))))
def f_lists : List D → M D := Mi.run 5 b_lists
/-- 0 table, 1 some -/
def b_made_of : MS :=
    (sSeq (sDrop (eFn 2 f_look_things (aCons (eVar 0) (aCons (eVar 1) aNil))))
    (sRet (eFn 2 f_grown (aCons (eVar 0) (aCons (eVar 1) aNil)))))
def f_made_of : List D → M D := Mi.run 2 b_made_of
/-- 0 table, 1 some, 2 row, 3 one, 4 other -/
def b_part_table : MS :=
    (sSeq (sIf (bNot (tT (eFn 2 f_is_part (aCons (eVar 0) (aCons (eVar 1) aNil)))))
    (sRaise "BadThing")
    sNx)
    (sSeq (sSet 2 (eL (lSrt (eVar 1))))
    (sRet (eCall (arg1 gTuple) (aCons (eL (lComp (iSeq (eVar 2)) (.nm 3) [3] tYesM (eCall (arg1 gTuple) (aCons (eL (lComp (iSeq (eVar 2)) (.nm 4) [4] tYesM (eIdx (eVar 2) (e2 dIx (e2 dIx (eVar 0) (eVar 3)) (eVar 4))))) aNil)))) aNil)))))
def f_part_table : List D → M D := Mi.run 5 b_part_table
/-- 0 table, 1 parting, 2 least, 3 one, 4 other -/
def b_parted_table : MS :=
    (sSeq (sIf (bNot (tT (eFn 2 f_is_kept (aCons (eVar 0) (aCons (eVar 1) aNil)))))
    (sRaise "BadParting")
    sNx)
    (sSeq (sSet 2 (eL (lSrt (eVar 1))))
    (sRet (eCall (arg1 gTuple) (aCons (eL (lComp (iSeq (eVar 2)) (.nm 3) [3] tYesM (eCall (arg1 gTuple) (aCons (eL (lComp (iSeq (eVar 2)) (.nm 4) [4] tYesM (eIdx (eVar 2) (e2 dIx (eVar 1) (e2 dIx (e2 dIx (eVar 0) (eVar 3)) (eVar 4)))))) aNil)))) aNil)))))
def f_parted_table : List D → M D := Mi.run 5 b_parted_table
/-- 0 one, 1 other, 2 leading -/
def b_parting_of : MS :=
    (sSeq (sIf (bNot (tT (eFn 3 f_is_leading (aCons (eVar 0) (aCons (eVar 1) (aCons (eVar 2) aNil))))))
    (sRaise "BadLeading")
    sNx)
    (sRet (eFn 1 f_tidied (aCons (eL (lCall (arg1 gList) (aCons (eVar 2) aNil))) aNil))))
def f_parting_of : List D → M D := Mi.run 3 b_parting_of
/-- 0 table, 1 some -/
def b_parts : MS :=
    (sSeq (sDrop (eFn 1 f_look_table (aCons (eVar 0) aNil)))
    (sRet (eL (lComp (iSeq (eFn 1 f_lists (aCons (eCall (arg1 dLen) (aCons (eVar 0) aNil)) aNil))) (.nm 1) [1] (bAnd (tT (eVar 1)) (tB (e2 dEq (eFn 2 f_grown (aCons (eVar 0) (aCons (eVar 1) aNil))) (eVar 1)))) (eVar 1)))))
def f_parts : List D → M D := Mi.run 2 b_parts
/-- 0 table, 1 names -/
def b_renamed : MS :=
    (sSeq (sDrop (eFn 1 f_look_table (aCons (eVar 0) aNil)))
    (sSeq (sIf (tB (e2 dNe (eL (lCall (arg1 gSort) (aCons (eVar 1) aNil))) (eL (lRg1 (eCall (arg1 dLen) (aCons (eVar 0) aNil))))))
    (sRaise "BadThing")
    sNx)
    (sRet (eFn 2 f_call (aCons (eVar 0) (aCons (eVar 1) aNil))))))
def f_renamed : List D → M D := Mi.run 2 b_renamed
/-- 0 table, 1 k, 2 row -/
def b_turned : MS :=
    (sSeq (sDrop (eFn 1 f_look_table (aCons (eVar 0) aNil)))
    (sRet (eCall (arg1 gTuple) (aCons (eL (lComp (iRange1 (aCons (eCall (arg1 dLen) (aCons (eVar 0) aNil)) aNil)) (.nm 1) [1] tYesM (eCall (arg1 gTuple) (aCons (eL (lComp (iSeq (eVar 0)) (.nm 2) [2] tYesM (e2 dIx (eVar 2) (eVar 1)))) aNil)))) aNil))))
def f_turned : List D → M D := Mi.run 3 b_turned
end Pg

end

section
set_option Elab.async false
set_option linter.all false
set_option maxRecDepth 100000
set_option maxHeartbeats 4000000
/-! what each def of law_k42_whole_texts means -/
namespace Lk42
open PySem PySem.Spec L2 Mi Pg
def raised : List Str := ["BadSaying", "BadText"]
def isx_BadLeading (c : Str) : Option Bool := if ranked raised c = true then some (decide (c = "BadLeading")) else none
def isx_BadNumber (c : Str) : Option Bool := if ranked raised c = true then some (decide (c = "BadNumber")) else none
def isx_BadParting (c : Str) : Option Bool := if ranked raised c = true then some (decide (c = "BadParting")) else none
def isx_BadSaying (c : Str) : Option Bool := if ranked raised c = true then some (decide (c = "BadSaying")) else none
def isx_BadTable (c : Str) : Option Bool := if ranked raised c = true then some (decide (c = "BadTable")) else none
def isx_BadText (c : Str) : Option Bool := if ranked raised c = true then some (decide (c = "BadText")) else none
def isx_BadThing (c : Str) : Option Bool := if ranked raised c = true then some (decide (c = "BadThing")) else none
def isx_TooGreat (c : Str) : Option Bool := if ranked raised c = true then some (decide (c = "TooGreat")) else none
def isx_ValueError (c : Str) : Option Bool := if ranked raised c = true then some true else none
/-- 0 term, 1 deep, 2 one -/
def b_is_term (rec : List D → M D) : MS :=
    (sSeq (sIf (tT (eIsTy PyData.isStr (eVar 0)))
    (sRet (e2 (dIn false) (eVar 0) (eL (lCall (arg1 gListS) (aCons (eC (.str "xyz")) aNil)))))
    sNx)
    (sRet (eAnd (eIsTy PyData.isTuple (eVar 0)) (eAnd (e2 dEq (eCall (arg1 dLen) (aCons (eVar 0) aNil)) (eC (.int 2))) (eAnd (e2 dGt (eVar 1) (eC (.int 0))) (eCall (arg1 (gAll fun bs => bs.all id)) (aCons (eL (lComp (iSeq (eVar 0)) (.nm 2) [2] tYesM (eFn 2 rec (aCons (eVar 2) (aCons (e2 dSub (eVar 1) (eC (.int 1))) aNil))))) aNil)))))))
def f_is_term : Nat → List D → M D
  | 0 => fun _ => bad
  | d + 1 => Mi.run 3 (b_is_term (f_is_term d))
/-- 0 saying, 1 term -/
def b_look_saying : MS :=
    (sIf (bOr (tB (e2 dNe (eCall (arg1 dLen) (aCons (eVar 0) aNil)) (eC (.int 2)))) (bNot (tT (eCall (arg1 (gAll fun bs => bs.all id)) (aCons (eL (lComp (iSeq (eVar 0)) (.nm 1) [1] tYesM (eFn 2 (f_is_term 12) (aCons (eVar 1) (aCons (eC (.int 3)) aNil))))) aNil)))))
    (sRaise "BadSaying")
    sNx)
def f_look_saying : List D → M D := Mi.run 2 b_look_saying
/-- 0 term -/
def b_term_text (rec : List D → M D) : MS :=
    (sSeq (sIf (tT (eIsTy PyData.isStr (eVar 0)))
    (sRet (eVar 0))
    sNx)
    (sRet (e2 dAdd (e2 dAdd (e2 dAdd (eC (.str "(")) (eFn 1 rec (aCons (e2 dIx (eVar 0) (eC (.int 0))) aNil))) (eFn 1 rec (aCons (e2 dIx (eVar 0) (eC (.int 1))) aNil))) (eC (.str ")")))))
def f_term_text : Nat → List D → M D
  | 0 => fun _ => bad
  | d + 1 => Mi.run 1 (b_term_text (f_term_text d))
/-- 0 saying -/
def b_said : MS :=
    (sSeq (sDrop (eFn 1 f_look_saying (aCons (eVar 0) aNil)))
    (sRet (e2 dAdd (e2 dAdd (eFn 1 (f_term_text 12) (aCons (e2 dIx (eVar 0) (eC (.int 0))) aNil)) (eC (.str "="))) (eFn 1 (f_term_text 12) (aCons (e2 dIx (eVar 0) (eC (.int 1))) aNil)))))
def f_said : List D → M D := Mi.run 1 b_said
/-- 0 text, 1 at, 2 deep, 3 one, 4 other -/
def b_term_at (rec : List D → M D) : MS :=
    (sSeq (sIf (bAnd (tB (e2 dNe (eSl (eVar 0) (pYes (eVar 1)) (pYes (e2 dAdd (eVar 1) (eC (.int 1))))) (eC (.str "")))) (tB (e2 (dIn false) (e2 dIx (eVar 0) (eVar 1)) (eC (.str "xyz")))))
    (sRet (eTup (aCons (e2 dIx (eVar 0) (eVar 1)) (aCons (e2 dAdd (eVar 1) (eC (.int 1))) aNil))))
    sNx)
    (sSeq (sIf (bOr (tB (e2 dNe (eSl (eVar 0) (pYes (eVar 1)) (pYes (e2 dAdd (eVar 1) (eC (.int 1))))) (eC (.str "(")))) (tB (e2 dEq (eVar 2) (eC (.int 0)))))
    (sRaise "BadText")
    sNx)
    (sSeq (sPat (.tup [3, 1]) (eFn 3 rec (aCons (eVar 0) (aCons (e2 dAdd (eVar 1) (eC (.int 1))) (aCons (e2 dSub (eVar 2) (eC (.int 1))) aNil)))))
    (sSeq (sPat (.tup [4, 1]) (eFn 3 rec (aCons (eVar 0) (aCons (eVar 1) (aCons (e2 dSub (eVar 2) (eC (.int 1))) aNil)))))
    (sSeq (sIf (tB (e2 dNe (eSl (eVar 0) (pYes (eVar 1)) (pYes (e2 dAdd (eVar 1) (eC (.int 1))))) (eC (.str ")"))))
    (sRaise "BadText")
    sNx)
    (sRet (eTup (aCons (eTup (aCons (eVar 3) (aCons (eVar 4) aNil))) (aCons (e2 dAdd (eVar 1) (eC (.int 1))) aNil)))))))))
def f_term_at : Nat → List D → M D
  | 0 => fun _ => bad
  | d + 1 => Mi.run 5 (b_term_at (f_term_at d))
/-- 0 text, 1 one, 2 at, 3 other -/
def b_read : MS :=
    (sSeq (sPat (.tup [1, 2]) (eFn 3 (f_term_at 12) (aCons (eVar 0) (aCons (eC (.int 0)) (aCons (eC (.int 3)) aNil)))))
    (sSeq (sIf (tB (e2 dNe (eSl (eVar 0) (pYes (eVar 2)) (pYes (e2 dAdd (eVar 2) (eC (.int 1))))) (eC (.str "="))))
    (sRaise "BadText")
    sNx)
    (sSeq (sPat (.tup [3, 2]) (eFn 3 (f_term_at 12) (aCons (eVar 0) (aCons (e2 dAdd (eVar 2) (eC (.int 1))) (aCons (eC (.int 3)) aNil)))))
    (sSeq (sIf (tB (e2 dNe (eVar 2) (eCall (arg1 dLen) (aCons (eVar 0) aNil))))
    (sRaise "BadText")
    sNx)
    (sRet (eTup (aCons (eVar 1) (aCons (eVar 3) aNil))))))))
def f_read : List D → M D := Mi.run 4 b_read
/-- 0 _law_caught, 1 _law_kinds, 2 _law_words -/
def b_law_refusal : MS :=
    (sSeq (sIf (tB (e2 dIs (eVar 0) (eC .none)))
    (sRet (eTup (aCons (eC (.str "ok")) aNil)))
    sNx)
    (sSeq (sSet 1 (eL (lLst (aCons (eIsX isx_BadTable (eVar 0)) (aCons (eIsX isx_BadThing (eVar 0)) (aCons (eIsX isx_BadParting (eVar 0)) aNil))))))
    (sSeq (sSet 1 (e2 dAdd (eVar 1) (eL (lLst (aCons (eIsX isx_BadSaying (eVar 0)) (aCons (eIsX isx_BadLeading (eVar 0)) (aCons (eIsX isx_BadNumber (eVar 0)) aNil)))))))
    (sSeq (sSet 1 (e2 dAdd (eVar 1) (eL (lLst (aCons (eIsX isx_TooGreat (eVar 0)) (aCons (eIsX isx_BadText (eVar 0)) aNil))))))
    (sSeq (sIf (bOr (tB (e2 dNe (eCnt (eVar 1) (eC (.bool true))) (eC (.int 1)))) (bNot (tT (eIsX isx_ValueError (eVar 0)))))
    (sRet (eTup (aCons (eC (.str "wrong")) aNil)))
    sNx)
    (sSeq (sSet 2 (eL (lLst (aCons (eC (.str "table")) (aCons (eC (.str "thing")) (aCons (eC (.str "parting")) (aCons (eC (.str "saying")) (aCons (eC (.str "leading")) (aCons (eC (.str "number")) (aCons (eC (.str "great")) (aCons (eC (.str "text")) aNil)))))))))))
    (sRet (eTup (aCons (eC (.str "refused")) (aCons (e2 dIx (eVar 2) (eIdx (eVar 1) (eC (.bool true)))) aNil))))))))))
def f_law_refusal : List D → M D := Mi.run 3 b_law_refusal
/-- 0 _law_script, 1 _law_town, 2 _law_deep -/
def b_law_term (rec : List D → M D) : MS :=
    (sSeq (sIf (bOr (tB (e2 dEq (eVar 2) (eC (.int 0)))) (tB (e2 dEq (eFn 3 f_law_draw (aCons (eVar 0) (aCons (eVar 1) (aCons (eC (.int 3)) aNil)))) (eC (.int 0)))))
    (sRet (eFn 3 f_law_pick (aCons (eVar 0) (aCons (eVar 1) (aCons (eL (lLst (aCons (eC (.str "x")) (aCons (eC (.str "y")) (aCons (eC (.str "z")) aNil))))) aNil)))))
    sNx)
    (sRet (eTup (aCons (eFn 3 rec (aCons (eVar 0) (aCons (eVar 1) (aCons (e2 dSub (eVar 2) (eC (.int 1))) aNil)))) (aCons (eFn 3 rec (aCons (eVar 0) (aCons (eVar 1) (aCons (e2 dSub (eVar 2) (eC (.int 1))) aNil)))) aNil)))))
def f_law_term : Nat → List D → M D
  | 0 => fun _ => bad
  | d + 1 => Mi.run 3 (b_law_term (f_law_term d))
/-- 0 _law_script, 1 _law_town, 2 _law_some, 3 _law_deep -/
def b_law_saying : MS :=
    (sSeq (sSet 2 (eL (lLst (aCons (eTup (aCons (eC (.str "x")) (aCons (eTup (aCons (eC (.str "x")) (aCons (eC (.str "x")) aNil))) aNil))) (aCons (eTup (aCons (eTup (aCons (eC (.str "x")) (aCons (eC (.str "y")) aNil))) (aCons (eTup (aCons (eC (.str "y")) (aCons (eC (.str "x")) aNil))) aNil))) (aCons (eTup (aCons (eTup (aCons (eTup (aCons (eC (.str "x")) (aCons (eC (.str "y")) aNil))) (aCons (eC (.str "z")) aNil))) (aCons (eTup (aCons (eC (.str "x")) (aCons (eTup (aCons (eC (.str "y")) (aCons (eC (.str "z")) aNil))) aNil))) aNil))) (aCons (eTup (aCons (eTup (aCons (eC (.str "x")) (aCons (eC (.str "y")) aNil))) (aCons (eC (.str "x")) aNil))) aNil)))))))
    (sSeq (sSet 2 (e2 dAdd (eVar 2) (eL (lLst (aCons (eTup (aCons (eTup (aCons (eC (.str "x")) (aCons (eC (.str "y")) aNil))) (aCons (eC (.str "y")) aNil))) (aCons (eTup (aCons (eTup (aCons (eC (.str "x")) (aCons (eTup (aCons (eC (.str "x")) (aCons (eC (.str "y")) aNil))) aNil))) (aCons (eTup (aCons (eC (.str "x")) (aCons (eC (.str "y")) aNil))) aNil))) (aCons (eTup (aCons (eTup (aCons (eTup (aCons (eC (.str "x")) (aCons (eC (.str "y")) aNil))) (aCons (eC (.str "y")) aNil))) (aCons (eC (.str "x")) aNil))) (aCons (eTup (aCons (eC (.str "x")) (aCons (eC (.str "y")) aNil))) aNil))))))))
    (sSeq (sIf (tB (e2 dEq (eFn 3 f_law_draw (aCons (eVar 0) (aCons (eVar 1) (aCons (eC (.int 2)) aNil)))) (eC (.int 0))))
    (sRet (eFn 3 f_law_pick (aCons (eVar 0) (aCons (eVar 1) (aCons (eVar 2) aNil)))))
    sNx)
    (sSeq (sSet 3 (e2 dAdd (eC (.int 1)) (eFn 3 f_law_draw (aCons (eVar 0) (aCons (eVar 1) (aCons (eC (.int 3)) aNil))))))
    (sRet (eTup (aCons (eFn 3 (f_law_term 12) (aCons (eVar 0) (aCons (eVar 1) (aCons (eVar 3) aNil)))) (aCons (eFn 3 (f_law_term 12) (aCons (eVar 0) (aCons (eVar 1) (aCons (eFn 3 f_law_draw (aCons (eVar 0) (aCons (eVar 1) (aCons (eC (.int 4)) aNil)))) aNil)))) aNil))))))))
def f_law_saying : List D → M D := Mi.run 4 b_law_saying
/-- 0 _law_term_here -/
def b_law_text (rec : List D → M D) : MS :=
    (sSeq (sIf (tT (eIsTy PyData.isStr (eVar 0)))
    (sRet (eVar 0))
    sNx)
    (sRet (e2 dAdd (e2 dAdd (e2 dAdd (eC (.str "(")) (eFn 1 rec (aCons (e2 dIx (eVar 0) (eC (.int 0))) aNil))) (eFn 1 rec (aCons (e2 dIx (eVar 0) (eC (.int 1))) aNil))) (eC (.str ")")))))
def f_law_text : Nat → List D → M D
  | 0 => fun _ => bad
  | d + 1 => Mi.run 1 (b_law_text (f_law_text d))
/-- 0 _law_text_here, 1 _law_caught, 2 _law_found, 3 e -/
def b_law_told : MS :=
    (sSeq (sSet 1 (eC .none))
    (sSeq (sSet 2 (eC .none))
    (sSeq (sTry raised 2 3 1 (eFn 1 f_read (aCons (eVar 0) aNil)))
    (sRet (eIf (tB (e2 dIs (eVar 1) (eC .none))) (eVar 2) (eFn 1 f_law_refusal (aCons (eVar 1) aNil)))))))
def f_law_told : List D → M D := Mi.run 4 b_law_told
/-- 0 _law_text_here, 1 _law_sides, 2 _law_found, 3 _law_side, 4 _law_row, 5 _law_k, 6 _law_four, 7 _law_sign -/
def b_law_read : MS :=
    (sSeq (sSet 1 (eL (lSplit (eVar 0) (eC (.str "=")))))
    (sSeq (sIf (bOr (tB (e2 dNe (eCall (arg1 dLen) (aCons (eVar 1) aNil)) (eC (.int 2)))) (tB (e2 dNe (eL (lComp (iStrM (eVar 0)) (.nm 7) [7] (tB (e2 (dIn true) (eVar 7) (eC (.str "()xyz=")))) (eVar 7))) (eL (lLst aNil)))))
    (sRet (eC .none))
    sNx)
    (sSeq (sOwn 2 (lLst aNil))
    (sSeq (sFor (iSeq (eVar 1)) (.nm 3)
    (sSeq (sSet 4 (eL (lComp (iStrM (eVar 3)) (.nm 7) [7] tYesM (eIf (tB (e2 (dIn false) (eVar 7) (eC (.str "()")))) (eVar 7) (eTup (aCons (eVar 7) (aCons (eC (.int 0)) aNil)))))))
    (sSeq (sSet 5 (eC (.int 0)))
    (sSeq (sWhile 4096 (tB (e2 dLt (e2 dAdd (eVar 5) (eC (.int 3))) (eCall (arg1 dLen) (aCons (eVar 4) aNil))))
    (sSeq (sSet 6 (eSl (eVar 4) (pYes (eVar 5)) (pYes (e2 dAdd (eVar 5) (eC (.int 4))))))
    (sIf (bAnd (tB (e2 dEq (e2 dIx (eVar 6) (eC (.int 0))) (eC (.str "(")))) (bAnd (tB (e2 dEq (e2 dIx (eVar 6) (eC (.int 3))) (eC (.str ")")))) (bAnd (tB (e2 (dIn true) (eC (.str "(")) (eSl (eVar 6) (pYes (eC (.int 1))) (pYes (eC (.int 3)))))) (tB (e2 (dIn true) (eC (.str ")")) (eSl (eVar 6) (pYes (eC (.int 1))) (pYes (eC (.int 3)))))))))
    (sSeq (sSet 4 (e2 dAdd (e2 dAdd (eSl (eVar 4) pNo (pYes (eVar 5))) (eL (lLst (aCons (eTup (aCons (eTup (aCons (e2 dIx (e2 dIx (eVar 6) (eC (.int 1))) (eC (.int 0))) (aCons (e2 dIx (e2 dIx (eVar 6) (eC (.int 2))) (eC (.int 0))) aNil))) (aCons (e2 dAdd (eC (.int 1)) (eCall (arg2 gMax2) (aCons (e2 dIx (e2 dIx (eVar 6) (eC (.int 1))) (eC (.int 1))) (aCons (e2 dIx (e2 dIx (eVar 6) (eC (.int 2))) (eC (.int 1))) aNil)))) aNil))) aNil)))) (eSl (eVar 4) (pYes (e2 dAdd (eVar 5) (eC (.int 4)))) pNo)))
    (sSet 5 (eC (.int 0))))
    (sSet 5 (e2 dAdd (eVar 5) (eC (.int 1)))))))
    (sSeq (sIf (bOr (tB (e2 dNe (eCall (arg1 dLen) (aCons (eVar 4) aNil)) (eC (.int 1)))) (bOr (tB (e2 (dIn false) (e2 dIx (eVar 4) (eC (.int 0))) (eTup (aCons (eC (.str "(")) (aCons (eC (.str ")")) aNil))))) (tB (e2 dGt (e2 dIx (e2 dIx (eVar 4) (eC (.int 0))) (eC (.int 1))) (eC (.int 3))))))
    (sRet (eC .none))
    sNx)
    (sApp 2 (e2 dIx (e2 dIx (eVar 4) (eC (.int 0))) (eC (.int 0)))))))))
    (sFz 2 (sRet (eCall (arg1 gTuple) (aCons (eVar 2) aNil))))))))
def f_law_read : List D → M D := Mi.run 8 b_law_read
/-- 0 _law_script, 1 _law_town, 2 _law_saying_here, 3 _law_text_here, 4 _law_k, 5 _law_at, 6 _law_sign, 7 _law_due -/
def b_law : MS :=
    (sSeq (sSet 2 (eFn 2 f_law_saying (aCons (eVar 0) (aCons (eVar 1) aNil))))
    (sSeq (sSet 3 (e2 dAdd (e2 dAdd (eFn 1 (f_law_text 12) (aCons (e2 dIx (eVar 2) (eC (.int 0))) aNil)) (eC (.str "="))) (eFn 1 (f_law_text 12) (aCons (e2 dIx (eVar 2) (eC (.int 1))) aNil))))
    (sSeq (sIf (bOr (tB (e2 dNe (eFn 1 f_said (aCons (eVar 2) aNil)) (eVar 3))) (tB (e2 dNe (eFn 1 f_law_told (aCons (eVar 3) aNil)) (eVar 2))))
    (sRet (eC (.bool false)))
    sNx)
    (sSeq (sFor (iRange1 (aCons (eFn 3 f_law_draw (aCons (eVar 0) (aCons (eVar 1) (aCons (eC (.int 3)) aNil)))) aNil)) (.nm 4)
    (sSeq (sSet 5 (eFn 3 f_law_draw (aCons (eVar 0) (aCons (eVar 1) (aCons (e2 dAdd (eCall (arg1 dLen) (aCons (eVar 3) aNil)) (eC (.int 1))) aNil)))))
    (sSeq (sSet 6 (eFn 3 f_law_pick (aCons (eVar 0) (aCons (eVar 1) (aCons (eL (lLst (aCons (eC (.str "x")) (aCons (eC (.str "y")) (aCons (eC (.str "(")) (aCons (eC (.str ")")) (aCons (eC (.str "(xy)")) (aCons (eC (.str "=")) (aCons (eC (.str "w")) (aCons (eC (.str " ")) (aCons (eC (.str "")) aNil))))))))))) aNil)))))
    (sSeq (sSet 3 (e2 dAdd (e2 dAdd (eSl (eVar 3) pNo (pYes (eVar 5))) (eVar 6)) (eSl (eVar 3) (pYes (e2 dAdd (eVar 5) (eFn 3 f_law_draw (aCons (eVar 0) (aCons (eVar 1) (aCons (eC (.int 2)) aNil)))))) pNo)))
    (sSeq (sSet 7 (eFn 1 f_law_read (aCons (eVar 3) aNil)))
    (sIf (tB (e2 dNe (eFn 1 f_law_told (aCons (eVar 3) aNil)) (eIf (tB (e2 dIsNot (eVar 7) (eC .none))) (eVar 7) (eTup (aCons (eC (.str "refused")) (aCons (eC (.str "text")) aNil))))))
    (sRet (eC (.bool false)))
    sNx))))))
    (sRet (eAnd (e2 dEq (eFn 1 f_law_told (aCons (eC (.str "((((xx)x)x)x)=x")) aNil)) (eTup (aCons (eC (.str "refused")) (aCons (eC (.str "text")) aNil)))) (e2 dEq (eFn 1 f_law_told (aCons (eC (.str "")) aNil)) (eTup (aCons (eC (.str "refused")) (aCons (eC (.str "text")) aNil))))))))))
end Lk42

end

section
set_option Elab.async false
set_option linter.all false
set_option maxRecDepth 100000
set_option maxHeartbeats 4000000
namespace Pg
open PySem PySem.Spec L2 PySem.W Mi
def g_law_cell (script : List Int) (k : Nat) : M Int :=
 (((pure script) >>= fun a1 => pure (!List.isEmpty a1)) >>= fun k2 => if k2 = true then (((pure script) >>= fun a11 => ((pure k) >>= fun a9 => ((pure script) >>= fun a8 => pure (List.length a8)) >>= fun a10 => modN' a9 a10) >>= fun a12 => ixN a11 a12) >>= fun v13 => pure v13) else (((pure (0 : Nat)) >>= fun x => pure ((fun x : Nat => (x : Int)) x)) >>= fun v14 => pure v14))
theorem c_law_cell (script : List Int) (k : Nat) : Is eI (f_law_cell [scrD script, natD k]) (g_law_cell script k) :=
 is_runN (L := 2) (b := b_law_cell) (ρ := [.fz (scrD script), .fz (natD k)]) rfl
 (j_ifP (y_tT tr_R (y_v (ea := scrD) (a := script) rfl)) (j_retP (b := fun v => v) (y_2 o_ixRN (y_v (ea := scrD) (a := script) rfl) (y_2 o_modN (y_v (ea := natD) (a := k) rfl) (y_c1 o_lenR (y_v (ea := scrD) (a := script) rfl)))) (fun _ => .inl rfl)) (j_nxP (j_ret (b := fun v => v) (is_co (e := natD) (e2 := eI) (co := (fun x : Nat => (x : Int))) (y_k (ea := natD) (a := 0) rfl) (fun _ => rfl)) (fun _ => .inl rfl))))
def g_law_mix (script : List Int) (k : Nat) : M Nat :=
 (((((pure script) >>= fun a27 => (pure k) >>= fun a28 => g_law_cell a27 a28) >>= fun a35 => (((pure (104729 : Nat)) >>= fun a33 => ((pure k) >>= fun a31 => (pure (1 : Nat)) >>= fun a32 => pure (a31 + a32)) >>= fun a34 => mulN' a33 a34) >>= fun x => pure ((fun x : Nat => (x : Int)) x)) >>= fun a36 => pure (a35 + a36)) >>= fun a37 => (pure (4294967291 : Nat)) >>= fun a38 => modI' a37 a38) >>= fun number_39 => ((((pure number_39) >>= fun a42 => (pure (5 : Nat)) >>= fun a43 => powN' a42 a43) >>= fun a44 => (pure (4294967279 : Nat)) >>= fun a45 => modN' a44 a45) >>= fun number_46 => ((((((pure number_46) >>= fun a69 => (pure (64 : Nat)) >>= fun a70 => divN' a69 a70) >>= fun a71 => (pure (69621 : Nat)) >>= fun a72 => mulN' a71 a72) >>= fun a73 => (pure number_46) >>= fun a74 => pure (a73 + a74)) >>= fun a75 => (pure (4294967231 : Nat)) >>= fun a76 => modN' a75 a76) >>= fun v77 => pure v77)))
theorem c_law_mix (script : List Int) (k : Nat) : Is natD (f_law_mix [scrD script, natD k]) (g_law_mix script k) :=
 is_runN (L := 3) (b := b_law_mix) (ρ := [.fz (scrD script), .fz (natD k), .no]) rfl
 (j_setN (ea := natD) (ρ2 := fun number_39 => [.fz (scrD script), .fz (natD k), .fz (natD number_39)]) (fun _ => rfl) (y_2 o_modI (y_2 o_addI (y_f2 (fun a27 a28 => c_law_cell a27 a28) (y_v (ea := scrD) (a := script) rfl) (y_v (ea := natD) (a := k) rfl)) (is_co (e := natD) (e2 := eI) (co := (fun x : Nat => (x : Int))) (y_2 o_mulN (y_k (ea := natD) (a := 104729) rfl) (y_2 o_addN (y_v (ea := natD) (a := k) rfl) (y_k (ea := natD) (a := 1) rfl))) (fun _ => rfl))) (y_k (ea := natD) (a := 4294967291) rfl)) (fun number_39 => (j_setN (ea := natD) (ρ2 := fun number_46 => [.fz (scrD script), .fz (natD k), .fz (natD number_46)]) (fun _ => rfl) (y_2 o_modN (y_2 o_powN (y_v (ea := natD) (a := number_39) rfl) (y_k (ea := natD) (a := 5) rfl)) (y_k (ea := natD) (a := 4294967279) rfl)) (fun number_46 => (j_ret (b := fun v => v) (y_2 o_modN (y_2 o_addN (y_2 o_mulN (y_2 o_divN (y_v (ea := natD) (a := number_46) rfl) (y_k (ea := natD) (a := 64) rfl)) (y_k (ea := natD) (a := 69621) rfl)) (y_v (ea := natD) (a := number_46) rfl)) (y_k (ea := natD) (a := 4294967231) rfl)) (fun _ => .inl rfl))))))
def g_law_draw (script : List Int) (many : Nat) : M Nat :=
 (bumpT >>= fun _ => (((((pure script) >>= fun a17 => ((pure (())) >>= fun a16 => townLen) >>= fun a18 => g_law_mix a17 a18) >>= fun a19 => (pure (8 : Nat)) >>= fun a20 => divN' a19 a20) >>= fun a21 => (pure many) >>= fun a22 => modN' a21 a22) >>= fun v23 => pure v23))
theorem c_law_draw (script : List Int) (many : Nat) : Is natD (f_law_draw [scrD script, townD, natD many]) (g_law_draw script many) :=
 is_runN (L := 3) (b := b_law_draw) (ρ := [.fz (scrD script), .fz (eW (())), .fz (natD many)]) rfl
 (j_town rfl (j_ret (b := fun v => v) (y_2 o_modN (y_2 o_divN (y_f2 (fun a17 a18 => c_law_mix a17 a18) (y_v (ea := scrD) (a := script) rfl) (y_c1 o_lenW (y_v (ea := eW) (a := ()) rfl))) (y_k (ea := natD) (a := 8) rfl)) (y_v (ea := natD) (a := many) rfl)) (fun _ => .inl rfl)))
def g_law_pick {α : Type} (script : List Int) (some_ : List α) : M α :=
 (((pure some_) >>= fun a11 => ((pure script) >>= fun a8 => (pure (())) >>= fun a9 => ((pure some_) >>= fun a7 => pure (List.length a7)) >>= fun a10 => g_law_draw a8 a10) >>= fun a12 => ixN a11 a12) >>= fun v13 => pure v13)
theorem c_law_pick {α : Type} {eV : α → D} (script : List Int) (some_ : List α) : Is eV (f_law_pick [scrD script, townD, (eLi eV) some_]) (g_law_pick script some_) :=
 is_runN (L := 3) (b := b_law_pick) (ρ := [.fz (scrD script), .fz (eW (())), .fz ((eLi eV) some_)]) rfl
 (j_ret (b := fun v => v) (y_2 (o_ixLN (ea := eV)) (y_v (ea := (eLi eV)) (a := some_) rfl) (y_f3 (fun a8 _ a10 => c_law_draw a8 a10) (y_v (ea := scrD) (a := script) rfl) (y_v (ea := eW) (a := ()) rfl) (y_c1 (o_lenL (ea := eV)) (y_v (ea := (eLi eV)) (a := some_) rfl)))) (fun _ => .inl rfl))
def g_law_named (table_here : List (List Nat)) (names : List Nat) : M (List (List Nat)) :=
 (((((pure names) >>= fun a1 => pure (List.length a1)) >>= fun a2 => iterM a2) >>= fun xs8 => mapMM (fun thing_3 : Nat => ((pure names) >>= fun a6 => (pure thing_3) >>= fun a7 => idxM a6 a7)) xs8) >>= fun back_9 => ((pure ([] : List (List Nat))) >>= fun found_10 => ((((pure names) >>= fun a13 => pure (List.length a13)) >>= fun a14 => iterM a14) >>= fun xs184 => forN xs184 found_10 (fun (a_17 : Nat) (s15 : (List (List Nat))) => ((((((pure names) >>= fun a98 => pure (List.length a98)) >>= fun a99 => iterM a99) >>= fun xs177 => mapMM (fun b_100 : Nat => ((pure names) >>= fun a175 => (((pure table_here) >>= fun a169 => ((pure back_9) >>= fun a167 => (pure a_17) >>= fun a168 => ixN a167 a168) >>= fun a170 => ixN a169 a170) >>= fun a173 => ((pure back_9) >>= fun a171 => (pure b_100) >>= fun a172 => ixN a171 a172) >>= fun a174 => ixN a173 a174) >>= fun a176 => ixN a175 a176)) xs177) >>= fun a178 => pure a178) >>= fun a179 => room (List.length s15 + 1) >>= fun _ => (pure ((s15 ++ [a179]))))) >>= fun s180 => (((pure s180) >>= fun a182 => pure a182) >>= fun v183 => pure v183))))
theorem c_law_named (table_here : List (List Nat)) (names : List Nat) : Is (eTu (eTu natD)) (f_law_named [(eLi (eTu natD)) table_here, (eLi natD) names]) (g_law_named table_here names) :=
 is_runN (L := 7) (b := b_law_named) (ρ := [.fz ((eLi (eTu natD)) table_here), .fz ((eLi natD) names), .no, .no, .no, .no, .no]) rfl
 (j_setN (ea := (eLi natD)) (ρ2 := fun back_9 => [.fz ((eLi (eTu natD)) table_here), .fz ((eLi natD) names), .fz ((eLi natD) back_9), .no, .no, .no, .no]) (fun _ => rfl) (y_eL (yl_map (ea := natD) (eb := natD) (i_r1 (y_c1 (o_lenL (ea := natD)) (y_v (ea := (eLi natD)) (a := names) rfl))) (fun thing_3 => ⟨_, rfl, (y_idx enN (by decide) (y_v (ea := (eLi natD)) (a := names) rfl) (y_v (ea := natD) (a := thing_3) rfl))⟩))) (fun back_9 => (j_ownN (ea := (eTu natD)) (ρ2 := fun found_10 => [.fz ((eLi (eTu natD)) table_here), .fz ((eLi natD) names), .fz ((eLi natD) back_9), .ow (List.map (eTu natD) found_10), .no, .no, .no]) (fun _ => rfl) (yl_lit (ea := (eTu natD)) (v_nil (ea := (eTu natD))) (by decide)) (show 3 < 7 by omega) (fun found_10 => (j_forN (ea := natD) (R := (fun (s11 : (List (List Nat))) (ρ : Mi.Env) => ∃ j12 : Sl, ρ = [.fz ((eLi (eTu natD)) table_here), .fz ((eLi natD) names), .fz ((eLi natD) back_9), .ow (List.map (eTu natD) s11), j12, .no, .no])) (s0 := found_10) (i_r1 (y_c1 (o_lenL (ea := natD)) (y_v (ea := (eLi natD)) (a := names) rfl))) ⟨_, rfl⟩ (fun a_17 s15 ρ h => by
 obtain ⟨j16, rfl⟩ := h
 exact ⟨_, rfl, (j_end (j_app (ea := (eTu natD)) (xs := s15) rfl (y_c1 (o_tupL (ea := natD)) (y_eL (yl_map (ea := natD) (eb := natD) (i_r1 (y_c1 (o_lenL (ea := natD)) (y_v (ea := (eLi natD)) (a := names) rfl))) (fun b_100 => ⟨_, rfl, (y_2 (o_ixLN (ea := natD)) (y_v (ea := (eLi natD)) (a := names) rfl) (y_2 (o_ixTN (ea := natD)) (y_2 (o_ixLN (ea := (eTu natD))) (y_v (ea := (eLi (eTu natD))) (a := table_here) rfl) (y_2 (o_ixLN (ea := natD)) (y_v (ea := (eLi natD)) (a := back_9) rfl) (y_v (ea := natD) (a := a_17) rfl))) (y_2 (o_ixLN (ea := natD)) (y_v (ea := (eLi natD)) (a := back_9) rfl) (y_v (ea := natD) (a := b_100) rfl))))⟩)))) (fun a179 => (j_nx ⟨rfl, ⟨_, rfl⟩⟩))))⟩) (fun s180 ρ h => by
 obtain ⟨j181, rfl⟩ := h
 exact (j_fz (j_ret (b := fun v => v) (y_c1 (o_tupL (ea := (eTu natD))) (y_v (ea := (eLi (eTu natD))) (a := s180) rfl)) (fun _ => .inl rfl)))))))))
def g_law_named_2 (table_here : List (List Nat)) (names : List Nat) : M (List (List Nat)) :=
 (((((pure names) >>= fun a1 => pure (List.length a1)) >>= fun a2 => iterM a2) >>= fun xs8 => mapMM (fun thing_3 : Nat => ((pure names) >>= fun a6 => (pure thing_3) >>= fun a7 => idxM a6 a7)) xs8) >>= fun back_9 => ((pure ([] : List (List Nat))) >>= fun found_10 => ((((pure names) >>= fun a13 => pure (List.length a13)) >>= fun a14 => iterM a14) >>= fun xs184 => forN xs184 found_10 (fun (a_17 : Nat) (s15 : (List (List Nat))) => ((((((pure names) >>= fun a98 => pure (List.length a98)) >>= fun a99 => iterM a99) >>= fun xs177 => mapMM (fun b_100 : Nat => ((pure names) >>= fun a175 => (((pure table_here) >>= fun a169 => ((pure back_9) >>= fun a167 => (pure a_17) >>= fun a168 => ixN a167 a168) >>= fun a170 => ixN a169 a170) >>= fun a173 => ((pure back_9) >>= fun a171 => (pure b_100) >>= fun a172 => ixN a171 a172) >>= fun a174 => ixN a173 a174) >>= fun a176 => ixN a175 a176)) xs177) >>= fun a178 => pure a178) >>= fun a179 => room (List.length s15 + 1) >>= fun _ => (pure ((s15 ++ [a179]))))) >>= fun s180 => (((pure s180) >>= fun a182 => pure a182) >>= fun v183 => pure v183))))
theorem c_law_named_2 (table_here : List (List Nat)) (names : List Nat) : Is (eTu (eTu natD)) (f_law_named [(eTu (eTu natD)) table_here, (eLi natD) names]) (g_law_named_2 table_here names) :=
 is_runN (L := 7) (b := b_law_named) (ρ := [.fz ((eTu (eTu natD)) table_here), .fz ((eLi natD) names), .no, .no, .no, .no, .no]) rfl
 (j_setN (ea := (eLi natD)) (ρ2 := fun back_9 => [.fz ((eTu (eTu natD)) table_here), .fz ((eLi natD) names), .fz ((eLi natD) back_9), .no, .no, .no, .no]) (fun _ => rfl) (y_eL (yl_map (ea := natD) (eb := natD) (i_r1 (y_c1 (o_lenL (ea := natD)) (y_v (ea := (eLi natD)) (a := names) rfl))) (fun thing_3 => ⟨_, rfl, (y_idx enN (by decide) (y_v (ea := (eLi natD)) (a := names) rfl) (y_v (ea := natD) (a := thing_3) rfl))⟩))) (fun back_9 => (j_ownN (ea := (eTu natD)) (ρ2 := fun found_10 => [.fz ((eTu (eTu natD)) table_here), .fz ((eLi natD) names), .fz ((eLi natD) back_9), .ow (List.map (eTu natD) found_10), .no, .no, .no]) (fun _ => rfl) (yl_lit (ea := (eTu natD)) (v_nil (ea := (eTu natD))) (by decide)) (show 3 < 7 by omega) (fun found_10 => (j_forN (ea := natD) (R := (fun (s11 : (List (List Nat))) (ρ : Mi.Env) => ∃ j12 : Sl, ρ = [.fz ((eTu (eTu natD)) table_here), .fz ((eLi natD) names), .fz ((eLi natD) back_9), .ow (List.map (eTu natD) s11), j12, .no, .no])) (s0 := found_10) (i_r1 (y_c1 (o_lenL (ea := natD)) (y_v (ea := (eLi natD)) (a := names) rfl))) ⟨_, rfl⟩ (fun a_17 s15 ρ h => by
 obtain ⟨j16, rfl⟩ := h
 exact ⟨_, rfl, (j_end (j_app (ea := (eTu natD)) (xs := s15) rfl (y_c1 (o_tupL (ea := natD)) (y_eL (yl_map (ea := natD) (eb := natD) (i_r1 (y_c1 (o_lenL (ea := natD)) (y_v (ea := (eLi natD)) (a := names) rfl))) (fun b_100 => ⟨_, rfl, (y_2 (o_ixLN (ea := natD)) (y_v (ea := (eLi natD)) (a := names) rfl) (y_2 (o_ixTN (ea := natD)) (y_2 (o_ixTN (ea := (eTu natD))) (y_v (ea := (eTu (eTu natD))) (a := table_here) rfl) (y_2 (o_ixLN (ea := natD)) (y_v (ea := (eLi natD)) (a := back_9) rfl) (y_v (ea := natD) (a := a_17) rfl))) (y_2 (o_ixLN (ea := natD)) (y_v (ea := (eLi natD)) (a := back_9) rfl) (y_v (ea := natD) (a := b_100) rfl))))⟩)))) (fun a179 => (j_nx ⟨rfl, ⟨_, rfl⟩⟩))))⟩) (fun s180 ρ h => by
 obtain ⟨j181, rfl⟩ := h
 exact (j_fz (j_ret (b := fun v => v) (y_c1 (o_tupL (ea := (eTu natD))) (y_v (ea := (eLi (eTu natD))) (a := s180) rfl)) (fun _ => .inl rfl)))))))))
def g_law_table (script : List Int) (most : Nat) : M (List (List Nat)) :=
 (((pure (1 : Nat)) >>= fun a7 => ((pure script) >>= fun a4 => (pure (())) >>= fun a5 => (pure most) >>= fun a6 => g_law_draw a4 a6) >>= fun a8 => pure (a7 + a8)) >>= fun size_9 => (((pure script) >>= fun a10 => (pure (())) >>= fun a11 => (pure (8 : Nat)) >>= fun a12 => g_law_draw a10 a12) >>= fun kind_13 => (((pure size_9) >>= fun a19 => iterM a19) >>= fun xs187 => forN xs187 (([] : List (List Nat))) (fun (a_25 : Nat) (s20 : (List (List Nat))) => ((pure ([] : List Nat)) >>= fun row_26 => (((pure size_9) >>= fun a30 => iterM a30) >>= fun xs111 => forN xs111 row_26 (fun (b_34 : Nat) (s31 : (List Nat)) => (((((pure a_25) >>= fun a59 => (pure b_34) >>= fun a60 => pure (a59 + a60)) >>= fun a61 => (pure size_9) >>= fun a62 => modN' a61 a62) >>= fun a91 => (((pure a_25) >>= fun a63 => (pure b_34) >>= fun a64 => pure (min a63 a64)) >>= fun a89 => (((pure a_25) >>= fun a65 => (pure b_34) >>= fun a66 => pure (max a65 a66)) >>= fun a87 => ((pure a_25) >>= fun a85 => ((pure b_34) >>= fun a83 => ((((pure a_25) >>= fun a69 => (pure b_34) >>= fun a70 => pure ((a69 : Int) - (a70 : Int))) >>= fun a71 => (pure size_9) >>= fun a72 => modI' a71 a72) >>= fun a81 => ((((pure a_25) >>= fun a75 => (pure b_34) >>= fun a76 => mulN' a75 a76) >>= fun a77 => (pure size_9) >>= fun a78 => modN' a77 a78) >>= fun a79 => (pure ([] : List Nat)) >>= fun a80 => pure (a79 :: a80)) >>= fun a82 => pure (a81 :: a82)) >>= fun a84 => pure (a83 :: a84)) >>= fun a86 => pure (a85 :: a86)) >>= fun a88 => pure (a87 :: a88)) >>= fun a90 => pure (a89 :: a90)) >>= fun a92 => pure (a91 :: a92)) >>= fun some_93 => ((((pure kind_13) >>= fun a94 => (pure (7 : Nat)) >>= fun a95 => pure (decide (a94 < a95))) >>= fun a106 => if a106 = true then ((pure some_93) >>= fun a101 => (pure kind_13) >>= fun a102 => ixN a101 a102) else ((pure script) >>= fun a103 => (pure (())) >>= fun a104 => (pure size_9) >>= fun a105 => g_law_draw a103 a105)) >>= fun a107 => room (List.length s31 + 1) >>= fun _ => (pure ((s31 ++ [a107])))))) >>= fun s108 => (room (List.length s20 + 1) >>= fun _ => (pure ((s20 ++ [s108]))))))) >>= fun s112 => (((((pure script) >>= fun a120 => (pure (())) >>= fun a121 => (pure (3 : Nat)) >>= fun a122 => g_law_draw a120 a122) >>= fun a123 => (pure (0 : Nat)) >>= fun a124 => pure (decide (a123 = a124))) >>= fun k125 => if k125 = true then ((((pure script) >>= fun a127 => (pure (())) >>= fun a128 => (pure size_9) >>= fun a129 => g_law_draw a127 a129) >>= fun v136 => ((pure script) >>= fun a130 => (pure (())) >>= fun a131 => (pure size_9) >>= fun a132 => g_law_draw a130 a132) >>= fun a137 => ixN s112 a137 >>= fun r138 => ((pure script) >>= fun a133 => (pure (())) >>= fun a134 => (pure size_9) >>= fun a135 => g_law_draw a133 a135) >>= fun a139 => putN r138 a139 v136 >>= fun r140 => pure (List.set s112 a137 r140)) >>= fun rows_141 => (pure rows_141)) else (pure s112)) >>= fun s142 => (((pure size_9) >>= fun a143 => rgM a143) >>= fun names_144 => (((pure size_9) >>= fun a148 => iterM a148) >>= fun xs186 => forN xs186 names_144 (fun (k_152 : Nat) (s149 : (List Nat)) => (((pure script) >>= fun a153 => (pure (())) >>= fun a154 => (pure size_9) >>= fun a155 => g_law_draw a153 a155) >>= fun at_156 => (((((pure s149) >>= fun a161 => (pure at_156) >>= fun a162 => ixN a161 a162) >>= fun a165 => ((pure s149) >>= fun a163 => (pure k_152) >>= fun a164 => ixN a163 a164) >>= fun a166 => pure (a165, a166)) >>= fun p168 => ((pure k_152) >>= fun a169 => putN s149 a169 p168.1) >>= fun ys167 => (pure at_156) >>= fun a170 => putN ys167 a170 p168.2) >>= fun names_171 => (pure names_171)))) >>= fun s172 => ((((pure s142) >>= fun xs182 => mapMM (fun row_179 : List Nat => ((pure row_179) >>= fun a181 => pure a181)) xs182) >>= fun a183 => (pure s172) >>= fun a184 => g_law_named a183 a184) >>= fun v185 => pure v185)))))))
theorem c_law_table (script : List Int) (most : Nat) : Is (eTu (eTu natD)) (f_law_table [scrD script, townD, natD most]) (g_law_table script most) :=
 is_runN (L := 13) (b := b_law_table) (ρ := [.fz (scrD script), .fz (eW (())), .fz (natD most), .no, .no, .no, .no, .no, .no, .no, .no, .no, .no]) rfl
 (j_setN (ea := natD) (ρ2 := fun size_9 => [.fz (scrD script), .fz (eW (())), .fz (natD most), .fz (natD size_9), .no, .no, .no, .no, .no, .no, .no, .no, .no]) (fun _ => rfl) (y_2 o_addN (y_k (ea := natD) (a := 1) rfl) (y_f3 (fun a4 _ a6 => c_law_draw a4 a6) (y_v (ea := scrD) (a := script) rfl) (y_v (ea := eW) (a := ()) rfl) (y_v (ea := natD) (a := most) rfl))) (fun size_9 => (j_setN (ea := natD) (ρ2 := fun kind_13 => [.fz (scrD script), .fz (eW (())), .fz (natD most), .fz (natD size_9), .fz (natD kind_13), .no, .no, .no, .no, .no, .no, .no, .no]) (fun _ => rfl) (y_f3 (fun a10 _ a12 => c_law_draw a10 a12) (y_v (ea := scrD) (a := script) rfl) (y_v (ea := eW) (a := ()) rfl) (y_k (ea := natD) (a := 8) rfl)) (fun kind_13 => (j_own2 (show 5 < 13 by omega) (j_forN (ea := natD) (R := (fun (s14 : (List (List Nat))) (ρ : Mi.Env) => ∃ j15 j16 j17 j18 : Sl, ρ = [.fz (scrD script), .fz (eW (())), .fz (natD most), .fz (natD size_9), .fz (natD kind_13), .ow2 (List.map (List.map natD) s14), j15, .no, .no, j16, j17, .no, j18])) (s0 := (([] : List (List Nat)))) (i_r1 (y_v (ea := natD) (a := size_9) rfl)) ⟨_, _, _, _, rfl⟩ (fun a_25 s20 ρ h => by
 obtain ⟨j21, j22, j23, j24, rfl⟩ := h
 exact ⟨_, rfl, (j_ownN (ea := natD) (ρ2 := fun row_26 => [.fz (scrD script), .fz (eW (())), .fz (natD most), .fz (natD size_9), .fz (natD kind_13), .ow2 (List.map (List.map natD) s20), .fz (natD a_25), .no, .no, .ow (List.map natD row_26), j23, .no, j24]) (fun _ => rfl) (yl_lit (ea := natD) (v_nil (ea := natD)) (by decide)) (show 9 < 13 by omega) (fun row_26 => (j_forN (ea := natD) (R := (fun (s27 : (List Nat)) (ρ : Mi.Env) => ∃ j28 j29 : Sl, ρ = [.fz (scrD script), .fz (eW (())), .fz (natD most), .fz (natD size_9), .fz (natD kind_13), .ow2 (List.map (List.map natD) s20), .fz (natD a_25), .no, .no, .ow (List.map natD s27), j28, .no, j29])) (s0 := row_26) (i_r1 (y_v (ea := natD) (a := size_9) rfl)) ⟨_, _, rfl⟩ (fun b_34 s31 ρ h => by
 obtain ⟨j32, j33, rfl⟩ := h
 exact ⟨_, rfl, (j_setN (ea := (eLi natD)) (ρ2 := fun some_93 => [.fz (scrD script), .fz (eW (())), .fz (natD most), .fz (natD size_9), .fz (natD kind_13), .ow2 (List.map (List.map natD) s20), .fz (natD a_25), .no, .no, .ow (List.map natD s31), .fz (natD b_34), .no, .fz ((eLi natD) some_93)]) (fun _ => rfl) (y_eL (yl_lit (ea := natD) (v_cons (y_2 o_modN (y_2 o_addN (y_v (ea := natD) (a := a_25) rfl) (y_v (ea := natD) (a := b_34) rfl)) (y_v (ea := natD) (a := size_9) rfl)) (v_cons (y_c2 o_minN (y_v (ea := natD) (a := a_25) rfl) (y_v (ea := natD) (a := b_34) rfl)) (v_cons (y_c2 o_maxN (y_v (ea := natD) (a := a_25) rfl) (y_v (ea := natD) (a := b_34) rfl)) (v_cons (y_v (ea := natD) (a := a_25) rfl) (v_cons (y_v (ea := natD) (a := b_34) rfl) (v_cons (y_2 o_modI (y_2 o_subN (y_v (ea := natD) (a := a_25) rfl) (y_v (ea := natD) (a := b_34) rfl)) (y_v (ea := natD) (a := size_9) rfl)) (v_cons (y_2 o_modN (y_2 o_mulN (y_v (ea := natD) (a := a_25) rfl) (y_v (ea := natD) (a := b_34) rfl)) (y_v (ea := natD) (a := size_9) rfl)) (v_nil (ea := natD))))))))) (by decide))) (fun some_93 => (j_end (j_app (ea := natD) (xs := s31) rfl (y_eIf (ea := natD) (y_tB (y_2 o_ltN (y_v (ea := natD) (a := kind_13) rfl) (y_k (ea := natD) (a := 7) rfl))) (y_2 (o_ixLN (ea := natD)) (y_v (ea := (eLi natD)) (a := some_93) rfl) (y_v (ea := natD) (a := kind_13) rfl)) (y_f3 (fun a103 _ a105 => c_law_draw a103 a105) (y_v (ea := scrD) (a := script) rfl) (y_v (ea := eW) (a := ()) rfl) (y_v (ea := natD) (a := size_9) rfl))) (fun a107 => (j_nx ⟨rfl, ⟨_, _, rfl⟩⟩))))))⟩) (fun s108 ρ h => by
 obtain ⟨j109, j110, rfl⟩ := h
 exact (j_end (j_app2 (ea := natD) (xss := s20) (xs := s108) rfl rfl (j_nx ⟨rfl, ⟨_, _, _, _, rfl⟩⟩)))))))⟩) (fun s112 ρ h => by
 obtain ⟨j113, j114, j115, j116, rfl⟩ := h
 exact (j_joinN (R := (fun (s126 : (List (List Nat))) (ρ : Mi.Env) => ρ = [.fz (scrD script), .fz (eW (())), .fz (natD most), .fz (natD size_9), .fz (natD kind_13), .ow2 (List.map (List.map natD) s126), j113, .no, .no, j114, j115, .no, j116])) (j_if (y_tB (y_2 (o_eq enN (by decide)) (y_f3 (fun a120 _ a122 => c_law_draw a120 a122) (y_v (ea := scrD) (a := script) rfl) (y_v (ea := eW) (a := ()) rfl) (y_k (ea := natD) (a := 3) rfl)) (y_k (ea := natD) (a := 0) rfl))) (j_end (j_put2 (ea := natD) (xss := s112) rfl (y_f3 (fun a127 _ a129 => c_law_draw a127 a129) (y_v (ea := scrD) (a := script) rfl) (y_v (ea := eW) (a := ()) rfl) (y_v (ea := natD) (a := size_9) rfl)) (y_f3 (fun a130 _ a132 => c_law_draw a130 a132) (y_v (ea := scrD) (a := script) rfl) (y_v (ea := eW) (a := ()) rfl) (y_v (ea := natD) (a := size_9) rfl)) (y_f3 (fun a133 _ a135 => c_law_draw a133 a135) (y_v (ea := scrD) (a := script) rfl) (y_v (ea := eW) (a := ()) rfl) (y_v (ea := natD) (a := size_9) rfl)) (fun rows_141 => (j_nx ⟨rfl, rfl⟩)))) (j_nx ⟨rfl, rfl⟩)) (fun s142 ρ h => by
 subst h
 exact (j_ownN (ea := natD) (ρ2 := fun names_144 => [.fz (scrD script), .fz (eW (())), .fz (natD most), .fz (natD size_9), .fz (natD kind_13), .ow2 (List.map (List.map natD) s142), j113, .ow (List.map natD names_144), .no, j114, j115, .no, j116]) (fun _ => rfl) (yl_rg1 (y_v (ea := natD) (a := size_9) rfl)) (show 7 < 13 by omega) (fun names_144 => (j_forN (ea := natD) (R := (fun (s145 : (List Nat)) (ρ : Mi.Env) => ∃ j146 j147 : Sl, ρ = [.fz (scrD script), .fz (eW (())), .fz (natD most), .fz (natD size_9), .fz (natD kind_13), .ow2 (List.map (List.map natD) s142), j113, .ow (List.map natD s145), j146, j114, j115, j147, j116])) (s0 := names_144) (i_r1 (y_v (ea := natD) (a := size_9) rfl)) ⟨_, _, rfl⟩ (fun k_152 s149 ρ h => by
 obtain ⟨j150, j151, rfl⟩ := h
 exact ⟨_, rfl, (j_setN (ea := natD) (ρ2 := fun at_156 => [.fz (scrD script), .fz (eW (())), .fz (natD most), .fz (natD size_9), .fz (natD kind_13), .ow2 (List.map (List.map natD) s142), j113, .ow (List.map natD s149), .fz (natD k_152), j114, j115, .fz (natD at_156), j116]) (fun _ => rfl) (y_f3 (fun a153 _ a155 => c_law_draw a153 a155) (y_v (ea := scrD) (a := script) rfl) (y_v (ea := eW) (a := ()) rfl) (y_v (ea := natD) (a := size_9) rfl)) (fun at_156 => (j_end (j_putP (ea := natD) (xs := s149) rfl (show 7 < 13 by omega) (y_bo (noL_P (fun _ => rfl) (fun _ => rfl)) (y_p2 (ea := natD) (eb := natD) (y_2 (o_ixLN (ea := natD)) (y_v (ea := (eLi natD)) (a := s149) rfl) (y_v (ea := natD) (a := at_156) rfl)) (y_2 (o_ixLN (ea := natD)) (y_v (ea := (eLi natD)) (a := s149) rfl) (y_v (ea := natD) (a := k_152) rfl)))) (y_v (ea := natD) (a := k_152) rfl) (fun ys167 => (y_v (ea := natD) (a := at_156) rfl)) (fun names_171 => (j_nx ⟨rfl, ⟨_, _, rfl⟩⟩))))))⟩) (fun s172 ρ h => by
 obtain ⟨j173, j174, rfl⟩ := h
 exact (j_fz (j_fz (j_ret (b := fun v => v) (y_f2 (fun a183 a184 => c_law_named a183 a184) (y_eL (yl_map (ea := (eLi natD)) (eb := (eTu natD)) (i_L (ea := (eLi natD)) (y_v2 (ea := natD) (xss := s142) rfl)) (fun row_179 => ⟨_, rfl, (y_c1 (o_tupL (ea := natD)) (y_v (ea := (eLi natD)) (a := row_179) rfl))⟩))) (y_v (ea := (eLi natD)) (a := s172) rfl)) (fun _ => .inl rfl)))))))))))))))))
def g_look_table (table : List (List Nat)) : M Unit :=
 (((pure table) >>= fun a1 => pure (List.length a1)) >>= fun size_2 => (((((pure (1 : Nat)) >>= fun a3 => (pure size_2) >>= fun a4 => pure (decide (a3 ≤ a4)) >>= fun k6 => if k6 = true then (pure (6 : Nat)) >>= fun a5 => pure (decide (a4 ≤ a5)) else pure false) >>= fun a7 => pure (!a7)) >>= fun a52 => if a52 = true then pure true else (((((pure table) >>= fun xs48 => mapMM (fun row_39 : List Nat => (((pure row_39) >>= fun a45 => pure (List.length a45)) >>= fun a46 => (pure size_2) >>= fun a47 => pure (decide (a46 = a47)))) xs48) >>= fun a49 => pure ((fun bs => bs.all id) a49)) >>= fun a50 => pure a50) >>= fun a51 => pure (!a51))) >>= fun k53 => if k53 = true then (refuse "BadTable") else ((((((pure table) >>= fun xs230 => mapMM (fun row_187 : List Nat => (((pure row_187) >>= fun xs228 => mapMM (fun thing_219 : Nat => ((pure (0 : Nat)) >>= fun a224 => (pure thing_219) >>= fun a225 => pure (decide (a224 ≤ a225)) >>= fun k227 => if k227 = true then (pure size_2) >>= fun a226 => pure (decide (a225 < a226)) else pure false)) xs228) >>= fun a229 => pure ((fun bs => bs.all id) a229))) xs230) >>= fun a231 => pure ((fun bs => bs.all id) a231)) >>= fun a232 => pure a232) >>= fun a233 => pure (!a233)) >>= fun k234 => if k234 = true then (refuse "BadTable") else (pure ()))))
theorem c_look_table (table : List (List Nat)) : Is eU (f_look_table [(eTu (eTu natD)) table]) (g_look_table table) :=
 is_runN (L := 4) (b := b_look_table) (ρ := [.fz ((eTu (eTu natD)) table), .no, .no, .no]) rfl
 (j_setN (ea := natD) (ρ2 := fun size_2 => [.fz ((eTu (eTu natD)) table), .fz (natD size_2), .no, .no]) (fun _ => rfl) (y_c1 (o_lenT (ea := (eTu natD))) (y_v (ea := (eTu (eTu natD))) (a := table) rfl)) (fun size_2 => (j_ifP (y_bOr (y_bNot (y_tB (y_3 o_leN o_leN (y_k (ea := natD) (a := 1) rfl) (y_v (ea := natD) (a := size_2) rfl) (y_k (ea := natD) (a := 6) rfl)))) (y_bNot (y_tT tr_B (y_c1 (o_allB (fun bs => bs.all id)) (y_eL (yl_map (ea := (eTu natD)) (eb := eB) (i_T (ea := (eTu natD)) (y_v (ea := (eTu (eTu natD))) (a := table) rfl)) (fun row_39 => ⟨_, rfl, (y_2 (o_eq enN (by decide)) (y_c1 (o_lenT (ea := natD)) (y_v (ea := (eTu natD)) (a := row_39) rfl)) (y_v (ea := natD) (a := size_2) rfl))⟩))))))) j_raiseP (j_nxP (j_if (y_bNot (y_tT tr_B (y_c1 (o_allB (fun bs => bs.all id)) (y_eL (yl_map (ea := (eTu natD)) (eb := eB) (i_T (ea := (eTu natD)) (y_v (ea := (eTu (eTu natD))) (a := table) rfl)) (fun row_187 => ⟨_, rfl, (y_c1 (o_allB (fun bs => bs.all id)) (y_eL (yl_map (ea := natD) (eb := eB) (i_T (ea := natD) (y_v (ea := (eTu natD)) (a := row_187) rfl)) (fun thing_219 => ⟨_, rfl, (y_3 o_leN o_ltN (y_k (ea := natD) (a := 0) rfl) (y_v (ea := natD) (a := thing_219) rfl) (y_v (ea := natD) (a := size_2) rfl))⟩))))⟩)))))) j_raise (j_nx (.inr ⟨rfl, rfl⟩)))))))
def g_look_table_2 (table : List (List Int)) : M Unit :=
 (((pure table) >>= fun a1 => pure (List.length a1)) >>= fun size_2 => (((((pure (1 : Nat)) >>= fun a3 => (pure size_2) >>= fun a4 => pure (decide (a3 ≤ a4)) >>= fun k6 => if k6 = true then (pure (6 : Nat)) >>= fun a5 => pure (decide (a4 ≤ a5)) else pure false) >>= fun a7 => pure (!a7)) >>= fun a52 => if a52 = true then pure true else (((((pure table) >>= fun xs48 => mapMM (fun row_39 : List Int => (((pure row_39) >>= fun a45 => pure (List.length a45)) >>= fun a46 => (pure size_2) >>= fun a47 => pure (decide (a46 = a47)))) xs48) >>= fun a49 => pure ((fun bs => bs.all id) a49)) >>= fun a50 => pure a50) >>= fun a51 => pure (!a51))) >>= fun k53 => if k53 = true then (refuse "BadTable") else ((((((pure table) >>= fun xs230 => mapMM (fun row_187 : List Int => (((pure row_187) >>= fun xs228 => mapMM (fun thing_219 : Int => (((pure (0 : Nat)) >>= fun x => pure ((fun x : Nat => (x : Int)) x)) >>= fun a224 => (pure thing_219) >>= fun a225 => pure (decide (a224 ≤ a225)) >>= fun k227 => if k227 = true then ((pure size_2) >>= fun x => pure ((fun x : Nat => (x : Int)) x)) >>= fun a226 => pure (decide (a225 < a226)) else pure false)) xs228) >>= fun a229 => pure ((fun bs => bs.all id) a229))) xs230) >>= fun a231 => pure ((fun bs => bs.all id) a231)) >>= fun a232 => pure a232) >>= fun a233 => pure (!a233)) >>= fun k234 => if k234 = true then (refuse "BadTable") else (pure ()))))
theorem c_look_table_2 (table : List (List Int)) : Is eU (f_look_table [(eTu (eTu eI)) table]) (g_look_table_2 table) :=
 is_runN (L := 4) (b := b_look_table) (ρ := [.fz ((eTu (eTu eI)) table), .no, .no, .no]) rfl
 (j_setN (ea := natD) (ρ2 := fun size_2 => [.fz ((eTu (eTu eI)) table), .fz (natD size_2), .no, .no]) (fun _ => rfl) (y_c1 (o_lenT (ea := (eTu eI))) (y_v (ea := (eTu (eTu eI))) (a := table) rfl)) (fun size_2 => (j_ifP (y_bOr (y_bNot (y_tB (y_3 o_leN o_leN (y_k (ea := natD) (a := 1) rfl) (y_v (ea := natD) (a := size_2) rfl) (y_k (ea := natD) (a := 6) rfl)))) (y_bNot (y_tT tr_B (y_c1 (o_allB (fun bs => bs.all id)) (y_eL (yl_map (ea := (eTu eI)) (eb := eB) (i_T (ea := (eTu eI)) (y_v (ea := (eTu (eTu eI))) (a := table) rfl)) (fun row_39 => ⟨_, rfl, (y_2 (o_eq enN (by decide)) (y_c1 (o_lenT (ea := eI)) (y_v (ea := (eTu eI)) (a := row_39) rfl)) (y_v (ea := natD) (a := size_2) rfl))⟩))))))) j_raiseP (j_nxP (j_if (y_bNot (y_tT tr_B (y_c1 (o_allB (fun bs => bs.all id)) (y_eL (yl_map (ea := (eTu eI)) (eb := eB) (i_T (ea := (eTu eI)) (y_v (ea := (eTu (eTu eI))) (a := table) rfl)) (fun row_187 => ⟨_, rfl, (y_c1 (o_allB (fun bs => bs.all id)) (y_eL (yl_map (ea := eI) (eb := eB) (i_T (ea := eI) (y_v (ea := (eTu eI)) (a := row_187) rfl)) (fun thing_219 => ⟨_, rfl, (y_3 o_leI o_ltI (is_co (e := natD) (e2 := eI) (co := (fun x : Nat => (x : Int))) (y_k (ea := natD) (a := 0) rfl) (fun _ => rfl)) (y_v (ea := eI) (a := thing_219) rfl) (is_co (e := natD) (e2 := eI) (co := (fun x : Nat => (x : Int))) (y_v (ea := natD) (a := size_2) rfl) (fun _ => rfl)))⟩))))⟩)))))) j_raise (j_nx (.inr ⟨rfl, rfl⟩)))))))
def g_look_thing (table : List (List Nat)) (thing : Nat) : M Unit :=
 ((((pure (0 : Nat)) >>= fun a3 => (pure thing) >>= fun a4 => pure (decide (a3 ≤ a4)) >>= fun k6 => if k6 = true then ((pure table) >>= fun a2 => pure (List.length a2)) >>= fun a5 => pure (decide (a4 < a5)) else pure false) >>= fun a7 => pure (!a7)) >>= fun k8 => if k8 = true then (refuse "BadThing") else (pure ()))
theorem c_look_thing (table : List (List Nat)) (thing : Nat) : Is eU (f_look_thing [(eTu (eTu natD)) table, natD thing]) (g_look_thing table thing) :=
 is_runN (L := 2) (b := b_look_thing) (ρ := [.fz ((eTu (eTu natD)) table), .fz (natD thing)]) rfl
 (j_if (y_bNot (y_tB (y_3 o_leN o_ltN (y_k (ea := natD) (a := 0) rfl) (y_v (ea := natD) (a := thing) rfl) (y_c1 (o_lenT (ea := (eTu natD))) (y_v (ea := (eTu (eTu natD))) (a := table) rfl))))) j_raise (j_nx (.inr ⟨rfl, rfl⟩)))
def g_look_thing_2 (table : List (List Nat)) (thing : Int) : M Unit :=
 (((((pure (0 : Nat)) >>= fun x => pure ((fun x : Nat => (x : Int)) x)) >>= fun a3 => (pure thing) >>= fun a4 => pure (decide (a3 ≤ a4)) >>= fun k6 => if k6 = true then (((pure table) >>= fun a2 => pure (List.length a2)) >>= fun x => pure ((fun x : Nat => (x : Int)) x)) >>= fun a5 => pure (decide (a4 < a5)) else pure false) >>= fun a7 => pure (!a7)) >>= fun k8 => if k8 = true then (refuse "BadThing") else (pure ()))
theorem c_look_thing_2 (table : List (List Nat)) (thing : Int) : Is eU (f_look_thing [(eTu (eTu natD)) table, eI thing]) (g_look_thing_2 table thing) :=
 is_runN (L := 2) (b := b_look_thing) (ρ := [.fz ((eTu (eTu natD)) table), .fz (eI thing)]) rfl
 (j_if (y_bNot (y_tB (y_3 o_leI o_ltI (is_co (e := natD) (e2 := eI) (co := (fun x : Nat => (x : Int))) (y_k (ea := natD) (a := 0) rfl) (fun _ => rfl)) (y_v (ea := eI) (a := thing) rfl) (is_co (e := natD) (e2 := eI) (co := (fun x : Nat => (x : Int))) (y_c1 (o_lenT (ea := (eTu natD))) (y_v (ea := (eTu (eTu natD))) (a := table) rfl)) (fun _ => rfl))))) j_raise (j_nx (.inr ⟨rfl, rfl⟩)))
def g_look_things (table : List (List Nat)) (some_ : List Nat) : M Unit :=
 (((pure table) >>= fun a1 => g_look_table a1) >>= fun _ => ((pure some_) >>= fun xs11 => forN xs11 () (fun (thing_6 : Nat) (s4 : Unit) => (((pure table) >>= fun a7 => (pure thing_6) >>= fun a8 => g_look_thing a7 a8) >>= fun _ => (pure ()))) >>= fun s9 => (pure ())))
theorem c_look_things (table : List (List Nat)) (some_ : List Nat) : Is eU (f_look_things [(eTu (eTu natD)) table, (eLi natD) some_]) (g_look_things table some_) :=
 is_runN (L := 3) (b := b_look_things) (ρ := [.fz ((eTu (eTu natD)) table), .fz ((eLi natD) some_), .no]) rfl
 (j_drop (ea := eU) (y_f1 (fun a1 => c_look_table a1) (y_v (ea := (eTu (eTu natD))) (a := table) rfl)) (fun _ => (j_end (j_forN (ea := natD) (R := (fun (s2 : Unit) (ρ : Mi.Env) => ∃ j3 : Sl, ρ = [.fz ((eTu (eTu natD)) table), .fz ((eLi natD) some_), j3])) (s0 := ()) (i_L (ea := natD) (y_v (ea := (eLi natD)) (a := some_) rfl)) ⟨_, rfl⟩ (fun thing_6 s4 ρ h => by
 obtain ⟨j5, rfl⟩ := h
 exact ⟨_, rfl, (j_end (j_drop (ea := eU) (y_f2 (fun a7 a8 => c_look_thing a7 a8) (y_v (ea := (eTu (eTu natD))) (a := table) rfl) (y_v (ea := natD) (a := thing_6) rfl)) (fun _ => (j_nx ⟨rfl, ⟨_, rfl⟩⟩))))⟩) (fun s9 ρ h => by
 obtain ⟨j10, rfl⟩ := h
 exact (j_nx (.inr ⟨rfl, rfl⟩)))))))
def g_look_things_2 (table : List (List Nat)) (some_ : List Int) : M Unit :=
 (((pure table) >>= fun a1 => g_look_table a1) >>= fun _ => ((pure some_) >>= fun xs11 => forN xs11 () (fun (thing_6 : Int) (s4 : Unit) => (((pure table) >>= fun a7 => (pure thing_6) >>= fun a8 => g_look_thing_2 a7 a8) >>= fun _ => (pure ()))) >>= fun s9 => (pure ())))
theorem c_look_things_2 (table : List (List Nat)) (some_ : List Int) : Is eU (f_look_things [(eTu (eTu natD)) table, (eLi eI) some_]) (g_look_things_2 table some_) :=
 is_runN (L := 3) (b := b_look_things) (ρ := [.fz ((eTu (eTu natD)) table), .fz ((eLi eI) some_), .no]) rfl
 (j_drop (ea := eU) (y_f1 (fun a1 => c_look_table a1) (y_v (ea := (eTu (eTu natD))) (a := table) rfl)) (fun _ => (j_end (j_forN (ea := eI) (R := (fun (s2 : Unit) (ρ : Mi.Env) => ∃ j3 : Sl, ρ = [.fz ((eTu (eTu natD)) table), .fz ((eLi eI) some_), j3])) (s0 := ()) (i_L (ea := eI) (y_v (ea := (eLi eI)) (a := some_) rfl)) ⟨_, rfl⟩ (fun thing_6 s4 ρ h => by
 obtain ⟨j5, rfl⟩ := h
 exact ⟨_, rfl, (j_end (j_drop (ea := eU) (y_f2 (fun a7 a8 => c_look_thing_2 a7 a8) (y_v (ea := (eTu (eTu natD))) (a := table) rfl) (y_v (ea := eI) (a := thing_6) rfl)) (fun _ => (j_nx ⟨rfl, ⟨_, rfl⟩⟩))))⟩) (fun s9 ρ h => by
 obtain ⟨j10, rfl⟩ := h
 exact (j_nx (.inr ⟨rfl, rfl⟩)))))))
def g_turned (table : List (List Nat)) : M (List (List Nat)) :=
 (((pure table) >>= fun a1 => g_look_table a1) >>= fun _ => ((((((pure table) >>= fun a32 => pure (List.length a32)) >>= fun a33 => iterM a33) >>= fun xs61 => mapMM (fun k_34 : Nat => (((pure table) >>= fun xs59 => mapMM (fun row_54 : List Nat => ((pure row_54) >>= fun a57 => (pure k_34) >>= fun a58 => ixN a57 a58)) xs59) >>= fun a60 => pure a60)) xs61) >>= fun a62 => pure a62) >>= fun v63 => pure v63))
theorem c_turned (table : List (List Nat)) : Is (eTu (eTu natD)) (f_turned [(eTu (eTu natD)) table]) (g_turned table) :=
 is_runN (L := 3) (b := b_turned) (ρ := [.fz ((eTu (eTu natD)) table), .no, .no]) rfl
 (j_drop (ea := eU) (y_f1 (fun a1 => c_look_table a1) (y_v (ea := (eTu (eTu natD))) (a := table) rfl)) (fun _ => (j_ret (b := fun v => v) (y_c1 (o_tupL (ea := (eTu natD))) (y_eL (yl_map (ea := natD) (eb := (eTu natD)) (i_r1 (y_c1 (o_lenT (ea := (eTu natD))) (y_v (ea := (eTu (eTu natD))) (a := table) rfl))) (fun k_34 => ⟨_, rfl, (y_c1 (o_tupL (ea := natD)) (y_eL (yl_map (ea := (eTu natD)) (eb := natD) (i_T (ea := (eTu natD)) (y_v (ea := (eTu (eTu natD))) (a := table) rfl)) (fun row_54 => ⟨_, rfl, (y_2 (o_ixTN (ea := natD)) (y_v (ea := (eTu natD)) (a := row_54) rfl) (y_v (ea := natD) (a := k_34) rfl))⟩))))⟩)))) (fun _ => .inl rfl))))
def g_call (table : List (List Nat)) (names : List Nat) : M (List (List Nat)) :=
 (((pure table) >>= fun a1 => pure (List.length a1)) >>= fun size_2 => ((((pure size_2) >>= fun a3 => iterM a3) >>= fun xs67 => mapMM (fun k_4 : Nat => (((pure (0 : Nat)) >>= fun a7 => (pure ([] : List Nat)) >>= fun a8 => pure (a7 :: a8)) >>= fun a9 => (pure size_2) >>= fun a10 => need (decide (a10 < 1000000000)) >>= fun _ => repM a9 a10)) xs67) >>= fun found_11 => (((pure size_2) >>= fun a15 => iterM a15) >>= fun xs66 => forN xs66 found_11 (fun (one_19 : Nat) (s16 : (List (List Nat))) => (((pure size_2) >>= fun a22 => iterM a22) >>= fun xs52 => forN xs52 s16 (fun (other_25 : Nat) (s23 : (List (List Nat))) => ((((pure names) >>= fun a38 => (((pure table) >>= fun a34 => (pure one_19) >>= fun a35 => ixN a34 a35) >>= fun a36 => (pure other_25) >>= fun a37 => ixN a36 a37) >>= fun a39 => ixN a38 a39) >>= fun v44 => ((pure names) >>= fun a40 => (pure one_19) >>= fun a41 => ixN a40 a41) >>= fun a45 => ixN s23 a45 >>= fun r46 => ((pure names) >>= fun a42 => (pure other_25) >>= fun a43 => ixN a42 a43) >>= fun a47 => putN r46 a47 v44 >>= fun r48 => pure (List.set s23 a45 r48)) >>= fun found_49 => (pure found_49))) >>= fun s50 => (pure s50))) >>= fun s53 => ((((pure s53) >>= fun xs63 => mapMM (fun row_60 : List Nat => ((pure row_60) >>= fun a62 => pure a62)) xs63) >>= fun a64 => pure a64) >>= fun v65 => pure v65))))
theorem c_call (table : List (List Nat)) (names : List Nat) : Is (eTu (eTu natD)) (f_call [(eTu (eTu natD)) table, (eLi natD) names]) (g_call table names) :=
 is_runN (L := 8) (b := b_call) (ρ := [.fz ((eTu (eTu natD)) table), .fz ((eLi natD) names), .no, .no, .no, .no, .no, .no]) rfl
 (j_setN (ea := natD) (ρ2 := fun size_2 => [.fz ((eTu (eTu natD)) table), .fz ((eLi natD) names), .fz (natD size_2), .no, .no, .no, .no, .no]) (fun _ => rfl) (y_c1 (o_lenT (ea := (eTu natD))) (y_v (ea := (eTu (eTu natD))) (a := table) rfl)) (fun size_2 => (j_own2C (ea := natD) (eb := natD) (i_r1 (y_v (ea := natD) (a := size_2) rfl)) (fun k_4 => ⟨_, rfl, (yl_rep (y_eL (yl_lit (ea := natD) (v_cons (y_k (ea := natD) (a := 0) rfl) (v_nil (ea := natD))) (by decide))) (y_v (ea := natD) (a := size_2) rfl))⟩) (show 3 < 8 by omega) (fun found_11 => (j_forN (ea := natD) (R := (fun (s12 : (List (List Nat))) (ρ : Mi.Env) => ∃ j13 j14 : Sl, ρ = [.fz ((eTu (eTu natD)) table), .fz ((eLi natD) names), .fz (natD size_2), .ow2 (List.map (List.map natD) s12), j13, j14, .no, .no])) (s0 := found_11) (i_r1 (y_v (ea := natD) (a := size_2) rfl)) ⟨_, _, rfl⟩ (fun one_19 s16 ρ h => by
 obtain ⟨j17, j18, rfl⟩ := h
 exact ⟨_, rfl, (j_end (j_forN (ea := natD) (R := (fun (s20 : (List (List Nat))) (ρ : Mi.Env) => ∃ j21 : Sl, ρ = [.fz ((eTu (eTu natD)) table), .fz ((eLi natD) names), .fz (natD size_2), .ow2 (List.map (List.map natD) s20), .fz (natD one_19), j21, .no, .no])) (s0 := s16) (i_r1 (y_v (ea := natD) (a := size_2) rfl)) ⟨_, rfl⟩ (fun other_25 s23 ρ h => by
 obtain ⟨j24, rfl⟩ := h
 exact ⟨_, rfl, (j_end (j_put2 (ea := natD) (xss := s23) rfl (y_2 (o_ixLN (ea := natD)) (y_v (ea := (eLi natD)) (a := names) rfl) (y_2 (o_ixTN (ea := natD)) (y_2 (o_ixTN (ea := (eTu natD))) (y_v (ea := (eTu (eTu natD))) (a := table) rfl) (y_v (ea := natD) (a := one_19) rfl)) (y_v (ea := natD) (a := other_25) rfl))) (y_2 (o_ixLN (ea := natD)) (y_v (ea := (eLi natD)) (a := names) rfl) (y_v (ea := natD) (a := one_19) rfl)) (y_2 (o_ixLN (ea := natD)) (y_v (ea := (eLi natD)) (a := names) rfl) (y_v (ea := natD) (a := other_25) rfl)) (fun found_49 => (j_nx ⟨rfl, ⟨_, rfl⟩⟩))))⟩) (fun s50 ρ h => by
 obtain ⟨j51, rfl⟩ := h
 exact (j_nx ⟨rfl, ⟨_, _, rfl⟩⟩))))⟩) (fun s53 ρ h => by
 obtain ⟨j54, j55, rfl⟩ := h
 exact (j_fz (j_ret (b := fun v => v) (y_c1 (o_tupL (ea := (eTu natD))) (y_eL (yl_map (ea := (eLi natD)) (eb := (eTu natD)) (i_L (ea := (eLi natD)) (y_v2 (ea := natD) (xss := s53) rfl)) (fun row_60 => ⟨_, rfl, (y_c1 (o_tupL (ea := natD)) (y_v (ea := (eLi natD)) (a := row_60) rfl))⟩)))) (fun _ => .inl rfl)))))))))
def g_call_2 (table : List (List Nat)) (names : List Int) : M (List (List Int)) :=
 (((pure table) >>= fun a1 => pure (List.length a1)) >>= fun size_2 => ((((pure size_2) >>= fun a3 => iterM a3) >>= fun xs67 => mapMM (fun k_4 : Nat => ((((pure (0 : Nat)) >>= fun x => pure ((fun x : Nat => (x : Int)) x)) >>= fun a7 => (pure ([] : List Int)) >>= fun a8 => pure (a7 :: a8)) >>= fun a9 => (pure size_2) >>= fun a10 => need (decide (a10 < 1000000000)) >>= fun _ => repM a9 a10)) xs67) >>= fun found_11 => (((pure size_2) >>= fun a15 => iterM a15) >>= fun xs66 => forN xs66 found_11 (fun (one_19 : Nat) (s16 : (List (List Int))) => (((pure size_2) >>= fun a22 => iterM a22) >>= fun xs52 => forN xs52 s16 (fun (other_25 : Nat) (s23 : (List (List Int))) => ((((pure names) >>= fun a38 => (((pure table) >>= fun a34 => (pure one_19) >>= fun a35 => ixN a34 a35) >>= fun a36 => (pure other_25) >>= fun a37 => ixN a36 a37) >>= fun a39 => ixN a38 a39) >>= fun v44 => (((pure names) >>= fun a40 => (pure one_19) >>= fun a41 => ixN a40 a41) >>= fun x => toN x) >>= fun a45 => ixN s23 a45 >>= fun r46 => (((pure names) >>= fun a42 => (pure other_25) >>= fun a43 => ixN a42 a43) >>= fun x => toN x) >>= fun a47 => putN r46 a47 v44 >>= fun r48 => pure (List.set s23 a45 r48)) >>= fun found_49 => (pure found_49))) >>= fun s50 => (pure s50))) >>= fun s53 => ((((pure s53) >>= fun xs63 => mapMM (fun row_60 : List Int => ((pure row_60) >>= fun a62 => pure a62)) xs63) >>= fun a64 => pure a64) >>= fun v65 => pure v65))))
theorem c_call_2 (table : List (List Nat)) (names : List Int) : Is (eTu (eTu eI)) (f_call [(eTu (eTu natD)) table, (eLi eI) names]) (g_call_2 table names) :=
 is_runN (L := 8) (b := b_call) (ρ := [.fz ((eTu (eTu natD)) table), .fz ((eLi eI) names), .no, .no, .no, .no, .no, .no]) rfl
 (j_setN (ea := natD) (ρ2 := fun size_2 => [.fz ((eTu (eTu natD)) table), .fz ((eLi eI) names), .fz (natD size_2), .no, .no, .no, .no, .no]) (fun _ => rfl) (y_c1 (o_lenT (ea := (eTu natD))) (y_v (ea := (eTu (eTu natD))) (a := table) rfl)) (fun size_2 => (j_own2C (ea := natD) (eb := eI) (i_r1 (y_v (ea := natD) (a := size_2) rfl)) (fun k_4 => ⟨_, rfl, (yl_rep (y_eL (yl_lit (ea := eI) (v_cons (is_co (e := natD) (e2 := eI) (co := (fun x : Nat => (x : Int))) (y_k (ea := natD) (a := 0) rfl) (fun _ => rfl)) (v_nil (ea := eI))) (by decide))) (y_v (ea := natD) (a := size_2) rfl))⟩) (show 3 < 8 by omega) (fun found_11 => (j_forN (ea := natD) (R := (fun (s12 : (List (List Int))) (ρ : Mi.Env) => ∃ j13 j14 : Sl, ρ = [.fz ((eTu (eTu natD)) table), .fz ((eLi eI) names), .fz (natD size_2), .ow2 (List.map (List.map eI) s12), j13, j14, .no, .no])) (s0 := found_11) (i_r1 (y_v (ea := natD) (a := size_2) rfl)) ⟨_, _, rfl⟩ (fun one_19 s16 ρ h => by
 obtain ⟨j17, j18, rfl⟩ := h
 exact ⟨_, rfl, (j_end (j_forN (ea := natD) (R := (fun (s20 : (List (List Int))) (ρ : Mi.Env) => ∃ j21 : Sl, ρ = [.fz ((eTu (eTu natD)) table), .fz ((eLi eI) names), .fz (natD size_2), .ow2 (List.map (List.map eI) s20), .fz (natD one_19), j21, .no, .no])) (s0 := s16) (i_r1 (y_v (ea := natD) (a := size_2) rfl)) ⟨_, rfl⟩ (fun other_25 s23 ρ h => by
 obtain ⟨j24, rfl⟩ := h
 exact ⟨_, rfl, (j_end (j_put2 (ea := eI) (xss := s23) rfl (y_2 (o_ixLN (ea := eI)) (y_v (ea := (eLi eI)) (a := names) rfl) (y_2 (o_ixTN (ea := natD)) (y_2 (o_ixTN (ea := (eTu natD))) (y_v (ea := (eTu (eTu natD))) (a := table) rfl) (y_v (ea := natD) (a := one_19) rfl)) (y_v (ea := natD) (a := other_25) rfl))) (is_coM (e := eI) (e2 := natD) (co := toN) (y_2 (o_ixLN (ea := eI)) (y_v (ea := (eLi eI)) (a := names) rfl) (y_v (ea := natD) (a := one_19) rfl)) toN_is) (is_coM (e := eI) (e2 := natD) (co := toN) (y_2 (o_ixLN (ea := eI)) (y_v (ea := (eLi eI)) (a := names) rfl) (y_v (ea := natD) (a := other_25) rfl)) toN_is) (fun found_49 => (j_nx ⟨rfl, ⟨_, rfl⟩⟩))))⟩) (fun s50 ρ h => by
 obtain ⟨j51, rfl⟩ := h
 exact (j_nx ⟨rfl, ⟨_, _, rfl⟩⟩))))⟩) (fun s53 ρ h => by
 obtain ⟨j54, j55, rfl⟩ := h
 exact (j_fz (j_ret (b := fun v => v) (y_c1 (o_tupL (ea := (eTu eI))) (y_eL (yl_map (ea := (eLi eI)) (eb := (eTu eI)) (i_L (ea := (eLi eI)) (y_v2 (ea := eI) (xss := s53) rfl)) (fun row_60 => ⟨_, rfl, (y_c1 (o_tupL (ea := eI)) (y_v (ea := (eLi eI)) (a := row_60) rfl))⟩)))) (fun _ => .inl rfl)))))))))
def g_renamed (table : List (List Nat)) (names : List Nat) : M (List (List Nat)) :=
 (((pure table) >>= fun a1 => g_look_table a1) >>= fun _ => ((((pure names) >>= fun a5 => sortM natD a5) >>= fun a8 => (((pure table) >>= fun a6 => pure (List.length a6)) >>= fun a7 => rgM a7) >>= fun a9 => pure (!decide (a8 = a9))) >>= fun k10 => if k10 = true then (refuse "BadThing") else (((pure table) >>= fun a11 => (pure names) >>= fun a12 => g_call a11 a12) >>= fun v13 => pure v13)))
theorem c_renamed (table : List (List Nat)) (names : List Nat) : Is (eTu (eTu natD)) (f_renamed [(eTu (eTu natD)) table, (eLi natD) names]) (g_renamed table names) :=
 is_runN (L := 2) (b := b_renamed) (ρ := [.fz ((eTu (eTu natD)) table), .fz ((eLi natD) names)]) rfl
 (j_drop (ea := eU) (y_f1 (fun a1 => c_look_table a1) (y_v (ea := (eTu (eTu natD))) (a := table) rfl)) (fun _ => (j_ifP (y_tB (y_2 (o_ne (enL enN) (by decide)) (y_eL (yl_c1 (ol_sort (ea := natD)) (y_v (ea := (eLi natD)) (a := names) rfl))) (y_eL (yl_rg1 (y_c1 (o_lenT (ea := (eTu natD))) (y_v (ea := (eTu (eTu natD))) (a := table) rfl)))))) j_raiseP (j_nxP (j_ret (b := fun v => v) (y_f2 (fun a11 a12 => c_call a11 a12) (y_v (ea := (eTu (eTu natD))) (a := table) rfl) (y_v (ea := (eLi natD)) (a := names) rfl)) (fun _ => .inl rfl))))))
def g_renamed_2 (table : List (List Nat)) (names : List Int) : M (List (List Int)) :=
 (((pure table) >>= fun a1 => g_look_table a1) >>= fun _ => ((((pure names) >>= fun a5 => sortM eI a5) >>= fun a8 => ((((pure table) >>= fun a6 => pure (List.length a6)) >>= fun a7 => rgM a7) >>= fun x => pure (List.map (fun x : Nat => (x : Int)) x)) >>= fun a9 => pure (!decide (a8 = a9))) >>= fun k10 => if k10 = true then (refuse "BadThing") else (((pure table) >>= fun a11 => (pure names) >>= fun a12 => g_call_2 a11 a12) >>= fun v13 => pure v13)))
theorem c_renamed_2 (table : List (List Nat)) (names : List Int) : Is (eTu (eTu eI)) (f_renamed [(eTu (eTu natD)) table, (eLi eI) names]) (g_renamed_2 table names) :=
 is_runN (L := 2) (b := b_renamed) (ρ := [.fz ((eTu (eTu natD)) table), .fz ((eLi eI) names)]) rfl
 (j_drop (ea := eU) (y_f1 (fun a1 => c_look_table a1) (y_v (ea := (eTu (eTu natD))) (a := table) rfl)) (fun _ => (j_ifP (y_tB (y_2 (o_ne (enL enI) (by decide)) (y_eL (yl_c1 (ol_sort (ea := eI)) (y_v (ea := (eLi eI)) (a := names) rfl))) (y_eL (is_co (e := List.map natD) (e2 := List.map eI) (co := List.map (fun x : Nat => (x : Int))) (yl_rg1 (y_c1 (o_lenT (ea := (eTu natD))) (y_v (ea := (eTu (eTu natD))) (a := table) rfl))) (co_M (fun _ => rfl)))))) j_raiseP (j_nxP (j_ret (b := fun v => v) (y_f2 (fun a11 a12 => c_call_2 a11 a12) (y_v (ea := (eTu (eTu natD))) (a := table) rfl) (y_v (ea := (eLi eI)) (a := names) rfl)) (fun _ => .inl rfl))))))
def g_grown (table : List (List Nat)) (some_ : List Nat) : M (List Nat) :=
 (((pure some_) >>= fun a1 => srtN a1) >>= fun found_2 => ((pure (0 : Nat)) >>= fun k_3 => (whN (fun (s7 : (List Nat) × Nat) => ((pure s7.2) >>= fun a12 => ((pure s7.1) >>= fun a11 => pure (List.length a11)) >>= fun a13 => pure (decide (a12 < a13)))) (fun (s14 : (List Nat) × Nat) => ((((pure s14.1) >>= fun xs98 => mapMM (fun other_69 : Nat => (((pure table) >>= fun a94 => ((pure s14.1) >>= fun a92 => (pure s14.2) >>= fun a93 => ixN a92 a93) >>= fun a95 => ixN a94 a95) >>= fun a96 => (pure other_69) >>= fun a97 => ixN a96 a97)) xs98) >>= fun a121 => ((pure s14.1) >>= fun xs120 => mapMM (fun other_99 : Nat => (((pure table) >>= fun a114 => (pure other_99) >>= fun a115 => ixN a114 a115) >>= fun a118 => ((pure s14.1) >>= fun a116 => (pure s14.2) >>= fun a117 => ixN a116 a117) >>= fun a119 => ixN a118 a119)) xs120) >>= fun a122 => catM a121 a122) >>= fun more_123 => ((((pure more_123) >>= fun xs131 => compM (fun thing_128 : Nat => ((pure thing_128) >>= fun a129 => (pure s14.1) >>= fun a130 => pure (!memB a129 a130))) (fun thing_128 : Nat => (pure thing_128)) xs131) >>= fun a132 => srtN a132) >>= fun fresh_133 => (((pure fresh_133) >>= fun a134 => pure (!List.isEmpty a134)) >>= fun k135 => if k135 = true then ((((pure s14.1) >>= fun a138 => (pure fresh_133) >>= fun a139 => catM a138 a139) >>= fun a140 => sortM natD a140) >>= fun found_141 => ((pure (0 : Nat)) >>= fun k_142 => (pure (found_141, k_142)))) else (((pure s14.2) >>= fun a143 => (pure (1 : Nat)) >>= fun a144 => pure (a143 + a144)) >>= fun k_145 => (pure (s14.1, k_145))))))) 4096 (found_2, k_3) >>= fun s146 => ((pure s146.1) >>= fun v149 => pure v149))))
theorem c_grown (table : List (List Nat)) (some_ : List Nat) : Is (eLi natD) (f_grown [(eTu (eTu natD)) table, (eLi natD) some_]) (g_grown table some_) :=
 is_runN (L := 8) (b := b_grown) (ρ := [.fz ((eTu (eTu natD)) table), .fz ((eLi natD) some_), .no, .no, .no, .no, .no, .no]) rfl
 (j_setN (ea := (eLi natD)) (ρ2 := fun found_2 => [.fz ((eTu (eTu natD)) table), .fz ((eLi natD) some_), .fz ((eLi natD) found_2), .no, .no, .no, .no, .no]) (fun _ => rfl) (y_eL (yl_srtN seqN_L (y_v (ea := (eLi natD)) (a := some_) rfl))) (fun found_2 => (j_setN (ea := natD) (ρ2 := fun k_3 => [.fz ((eTu (eTu natD)) table), .fz ((eLi natD) some_), .fz ((eLi natD) found_2), .fz (natD k_3), .no, .no, .no, .no]) (fun _ => rfl) (y_k (ea := natD) (a := 0) rfl) (fun k_3 => (j_whN (R := (fun (s4 : (List Nat) × Nat) (ρ : Mi.Env) => ∃ j5 j6 : Sl, ρ = [.fz ((eTu (eTu natD)) table), .fz ((eLi natD) some_), .fz ((eLi natD) s4.1), .fz (natD s4.2), j5, j6, .no, .no])) (s0 := (found_2, k_3)) ⟨_, _, rfl⟩ (fun s7 ρ h => by
 obtain ⟨j8, j9, rfl⟩ := h
 exact (y_tB (y_2 o_ltN (y_v (ea := natD) (a := s7.2) rfl) (y_c1 (o_lenL (ea := natD)) (y_v (ea := (eLi natD)) (a := s7.1) rfl))))) (fun s14 ρ h => by
 obtain ⟨j15, j16, rfl⟩ := h
 exact (j_setN (ea := (eLi natD)) (ρ2 := fun more_123 => [.fz ((eTu (eTu natD)) table), .fz ((eLi natD) some_), .fz ((eLi natD) s14.1), .fz (natD s14.2), .fz ((eLi natD) more_123), j16, .no, .no]) (fun _ => rfl) (y_2 (o_addL (ea := natD)) (y_eL (yl_map (ea := natD) (eb := natD) (i_L (ea := natD) (y_v (ea := (eLi natD)) (a := s14.1) rfl)) (fun other_69 => ⟨_, rfl, (y_2 (o_ixTN (ea := natD)) (y_2 (o_ixTN (ea := (eTu natD))) (y_v (ea := (eTu (eTu natD))) (a := table) rfl) (y_2 (o_ixLN (ea := natD)) (y_v (ea := (eLi natD)) (a := s14.1) rfl) (y_v (ea := natD) (a := s14.2) rfl))) (y_v (ea := natD) (a := other_69) rfl))⟩))) (y_eL (yl_map (ea := natD) (eb := natD) (i_L (ea := natD) (y_v (ea := (eLi natD)) (a := s14.1) rfl)) (fun other_99 => ⟨_, rfl, (y_2 (o_ixTN (ea := natD)) (y_2 (o_ixTN (ea := (eTu natD))) (y_v (ea := (eTu (eTu natD))) (a := table) rfl) (y_v (ea := natD) (a := other_99) rfl)) (y_2 (o_ixLN (ea := natD)) (y_v (ea := (eLi natD)) (a := s14.1) rfl) (y_v (ea := natD) (a := s14.2) rfl)))⟩)))) (fun more_123 => (j_setN (ea := (eLi natD)) (ρ2 := fun fresh_133 => [.fz ((eTu (eTu natD)) table), .fz ((eLi natD) some_), .fz ((eLi natD) s14.1), .fz (natD s14.2), .fz ((eLi natD) more_123), .fz ((eLi natD) fresh_133), .no, .no]) (fun _ => rfl) (y_eL (yl_srtN seqN_L (y_eL (yl_comp (ea := natD) (eb := natD) (i_L (ea := natD) (y_v (ea := (eLi natD)) (a := more_123) rfl)) (fun thing_128 => ⟨_, rfl, (y_tB (y_2 (o_notIn enN (by decide)) (y_v (ea := natD) (a := thing_128) rfl) (y_v (ea := (eLi natD)) (a := s14.1) rfl))), (y_v (ea := natD) (a := thing_128) rfl)⟩))))) (fun fresh_133 => (j_if (y_tT (tr_L (ea := natD)) (y_v (ea := (eLi natD)) (a := fresh_133) rfl)) (j_setN (ea := (eLi natD)) (ρ2 := fun found_141 => [.fz ((eTu (eTu natD)) table), .fz ((eLi natD) some_), .fz ((eLi natD) found_141), .fz (natD s14.2), .fz ((eLi natD) more_123), .fz ((eLi natD) fresh_133), .no, .no]) (fun _ => rfl) (y_eL (yl_c1 (ol_sort (ea := natD)) (y_2 (o_addL (ea := natD)) (y_v (ea := (eLi natD)) (a := s14.1) rfl) (y_v (ea := (eLi natD)) (a := fresh_133) rfl)))) (fun found_141 => (j_end (j_setN (ea := natD) (ρ2 := fun k_142 => [.fz ((eTu (eTu natD)) table), .fz ((eLi natD) some_), .fz ((eLi natD) found_141), .fz (natD k_142), .fz ((eLi natD) more_123), .fz ((eLi natD) fresh_133), .no, .no]) (fun _ => rfl) (y_k (ea := natD) (a := 0) rfl) (fun k_142 => (j_nx ⟨rfl, ⟨_, _, rfl⟩⟩)))))) (j_end (j_setN (ea := natD) (ρ2 := fun k_145 => [.fz ((eTu (eTu natD)) table), .fz ((eLi natD) some_), .fz ((eLi natD) s14.1), .fz (natD k_145), .fz ((eLi natD) more_123), .fz ((eLi natD) fresh_133), .no, .no]) (fun _ => rfl) (y_2 o_addN (y_v (ea := natD) (a := s14.2) rfl) (y_k (ea := natD) (a := 1) rfl)) (fun k_145 => (j_nx ⟨rfl, ⟨_, _, rfl⟩⟩)))))))))) (fun s146 ρ h => by
 obtain ⟨j147, j148, rfl⟩ := h
 exact (j_ret (b := fun v => v) (y_v (ea := (eLi natD)) (a := s146.1) rfl) (fun _ => .inl rfl))))))))
def g_made_of (table : List (List Nat)) (some_ : List Nat) : M (List Nat) :=
 (((pure table) >>= fun a1 => (pure some_) >>= fun a2 => g_look_things a1 a2) >>= fun _ => (((pure table) >>= fun a3 => (pure some_) >>= fun a4 => g_grown a3 a4) >>= fun v5 => pure v5))
theorem c_made_of (table : List (List Nat)) (some_ : List Nat) : Is (eLi natD) (f_made_of [(eTu (eTu natD)) table, (eLi natD) some_]) (g_made_of table some_) :=
 is_runN (L := 2) (b := b_made_of) (ρ := [.fz ((eTu (eTu natD)) table), .fz ((eLi natD) some_)]) rfl
 (j_drop (ea := eU) (y_f2 (fun a1 a2 => c_look_things a1 a2) (y_v (ea := (eTu (eTu natD))) (a := table) rfl) (y_v (ea := (eLi natD)) (a := some_) rfl)) (fun _ => (j_ret (b := fun v => v) (y_f2 (fun a3 a4 => c_grown a3 a4) (y_v (ea := (eTu (eTu natD))) (a := table) rfl) (y_v (ea := (eLi natD)) (a := some_) rfl)) (fun _ => .inl rfl))))
def g_made_of_2 (table : List (List Nat)) (some_ : List Int) : M (List Nat) :=
 (((pure table) >>= fun a1 => (pure some_) >>= fun a2 => g_look_things_2 a1 a2) >>= fun _ => (((pure table) >>= fun a3 => ((pure some_) >>= fun x => (fun d => ofOpt ((pcL toNo) d)) x) >>= fun a4 => g_grown a3 a4) >>= fun v5 => pure v5))
theorem c_made_of_2 (table : List (List Nat)) (some_ : List Int) : Is (eLi natD) (f_made_of [(eTu (eTu natD)) table, (eLi eI) some_]) (g_made_of_2 table some_) :=
 is_runN (L := 2) (b := b_made_of) (ρ := [.fz ((eTu (eTu natD)) table), .fz ((eLi eI) some_)]) rfl
 (j_drop (ea := eU) (y_f2 (fun a1 a2 => c_look_things_2 a1 a2) (y_v (ea := (eTu (eTu natD))) (a := table) rfl) (y_v (ea := (eLi eI)) (a := some_) rfl)) (fun _ => (j_ret (b := fun v => v) (y_f2 (fun a3 a4 => c_grown a3 a4) (y_v (ea := (eTu (eTu natD))) (a := table) rfl) (is_coM (e := (eLi eI)) (e2 := (eLi natD)) (co := (fun d => ofOpt ((pcL toNo) d))) (y_v (ea := (eLi eI)) (a := some_) rfl) (pc_is (pcL_of toNo_of)))) (fun _ => .inl rfl))))
def g_is_part (table : List (List Nat)) (some_ : List Nat) : M Bool :=
 (((pure table) >>= fun a1 => (pure some_) >>= fun a2 => g_look_things a1 a2) >>= fun _ => (((((pure some_) >>= fun a4 => pure (List.length a4)) >>= fun a5 => (pure (0 : Nat)) >>= fun a6 => pure (decide (a6 < a5))) >>= fun a15 => if a15 = true then (((pure table) >>= fun a10 => (pure some_) >>= fun a11 => g_grown a10 a11) >>= fun a13 => ((pure some_) >>= fun a12 => srtN a12) >>= fun a14 => pure (decide (a13 = a14))) else pure false) >>= fun v16 => pure v16))
theorem c_is_part (table : List (List Nat)) (some_ : List Nat) : Is eB (f_is_part [(eTu (eTu natD)) table, (eLi natD) some_]) (g_is_part table some_) :=
 is_runN (L := 2) (b := b_is_part) (ρ := [.fz ((eTu (eTu natD)) table), .fz ((eLi natD) some_)]) rfl
 (j_drop (ea := eU) (y_f2 (fun a1 a2 => c_look_things a1 a2) (y_v (ea := (eTu (eTu natD))) (a := table) rfl) (y_v (ea := (eLi natD)) (a := some_) rfl)) (fun _ => (j_ret (b := fun v => v) (y_eAnd (y_2 o_gtN (y_c1 (o_lenL (ea := natD)) (y_v (ea := (eLi natD)) (a := some_) rfl)) (y_k (ea := natD) (a := 0) rfl)) (y_2 (o_eq (enL enN) (by decide)) (y_f2 (fun a10 a11 => c_grown a10 a11) (y_v (ea := (eTu (eTu natD))) (a := table) rfl) (y_v (ea := (eLi natD)) (a := some_) rfl)) (y_eL (yl_srtN seqN_L (y_v (ea := (eLi natD)) (a := some_) rfl))))) (fun _ => .inl rfl))))
def g_is_part_2 (table : List (List Nat)) (some_ : List Int) : M Bool :=
 (((pure table) >>= fun a1 => (pure some_) >>= fun a2 => g_look_things_2 a1 a2) >>= fun _ => (((((pure some_) >>= fun a4 => pure (List.length a4)) >>= fun a5 => (pure (0 : Nat)) >>= fun a6 => pure (decide (a6 < a5))) >>= fun a15 => if a15 = true then ((((pure table) >>= fun a10 => ((pure some_) >>= fun x => (fun d => ofOpt ((pcL toNo) d)) x) >>= fun a11 => g_grown a10 a11) >>= fun x => pure ((List.map (fun x : Nat => (x : Int))) x)) >>= fun a13 => ((pure some_) >>= fun a12 => srtI a12) >>= fun a14 => pure (decide (a13 = a14))) else pure false) >>= fun v16 => pure v16))
theorem c_is_part_2 (table : List (List Nat)) (some_ : List Int) : Is eB (f_is_part [(eTu (eTu natD)) table, (eLi eI) some_]) (g_is_part_2 table some_) :=
 is_runN (L := 2) (b := b_is_part) (ρ := [.fz ((eTu (eTu natD)) table), .fz ((eLi eI) some_)]) rfl
 (j_drop (ea := eU) (y_f2 (fun a1 a2 => c_look_things_2 a1 a2) (y_v (ea := (eTu (eTu natD))) (a := table) rfl) (y_v (ea := (eLi eI)) (a := some_) rfl)) (fun _ => (j_ret (b := fun v => v) (y_eAnd (y_2 o_gtN (y_c1 (o_lenL (ea := eI)) (y_v (ea := (eLi eI)) (a := some_) rfl)) (y_k (ea := natD) (a := 0) rfl)) (y_2 (o_eq (enL enI) (by decide)) (is_co (e := (eLi natD)) (e2 := (eLi eI)) (co := (List.map (fun x : Nat => (x : Int)))) (y_f2 (fun a10 a11 => c_grown a10 a11) (y_v (ea := (eTu (eTu natD))) (a := table) rfl) (is_coM (e := (eLi eI)) (e2 := (eLi natD)) (co := (fun d => ofOpt ((pcL toNo) d))) (y_v (ea := (eLi eI)) (a := some_) rfl) (pc_is (pcL_of toNo_of)))) (co_L (fun _ => rfl))) (y_eL (yl_srtI seqI_L (y_v (ea := (eLi eI)) (a := some_) rfl))))) (fun _ => .inl rfl))))
def g_part_table (table : List (List Nat)) (some_ : List Nat) : M (List (List Nat)) :=
 (((((pure table) >>= fun a3 => (pure some_) >>= fun a4 => g_is_part a3 a4) >>= fun a5 => pure a5) >>= fun a6 => pure (!a6)) >>= fun k7 => if k7 = true then (refuse "BadThing") else (((pure some_) >>= fun a8 => srtN a8) >>= fun row_9 => ((((pure row_9) >>= fun xs257 => mapMM (fun one_134 : Nat => (((pure row_9) >>= fun xs255 => mapMM (fun other_226 : Nat => ((pure row_9) >>= fun a253 => (((pure table) >>= fun a249 => (pure one_134) >>= fun a250 => ixN a249 a250) >>= fun a251 => (pure other_226) >>= fun a252 => ixN a251 a252) >>= fun a254 => idxM a253 a254)) xs255) >>= fun a256 => pure a256)) xs257) >>= fun a258 => pure a258) >>= fun v259 => pure v259)))
theorem c_part_table (table : List (List Nat)) (some_ : List Nat) : Is (eTu (eTu natD)) (f_part_table [(eTu (eTu natD)) table, (eLi natD) some_]) (g_part_table table some_) :=
 is_runN (L := 5) (b := b_part_table) (ρ := [.fz ((eTu (eTu natD)) table), .fz ((eLi natD) some_), .no, .no, .no]) rfl
 (j_ifP (y_bNot (y_tT tr_B (y_f2 (fun a3 a4 => c_is_part a3 a4) (y_v (ea := (eTu (eTu natD))) (a := table) rfl) (y_v (ea := (eLi natD)) (a := some_) rfl)))) j_raiseP (j_nxP (j_setN (ea := (eLi natD)) (ρ2 := fun row_9 => [.fz ((eTu (eTu natD)) table), .fz ((eLi natD) some_), .fz ((eLi natD) row_9), .no, .no]) (fun _ => rfl) (y_eL (yl_srtN seqN_L (y_v (ea := (eLi natD)) (a := some_) rfl))) (fun row_9 => (j_ret (b := fun v => v) (y_c1 (o_tupL (ea := (eTu natD))) (y_eL (yl_map (ea := natD) (eb := (eTu natD)) (i_L (ea := natD) (y_v (ea := (eLi natD)) (a := row_9) rfl)) (fun one_134 => ⟨_, rfl, (y_c1 (o_tupL (ea := natD)) (y_eL (yl_map (ea := natD) (eb := natD) (i_L (ea := natD) (y_v (ea := (eLi natD)) (a := row_9) rfl)) (fun other_226 => ⟨_, rfl, (y_idx enN (by decide) (y_v (ea := (eLi natD)) (a := row_9) rfl) (y_2 (o_ixTN (ea := natD)) (y_2 (o_ixTN (ea := (eTu natD))) (y_v (ea := (eTu (eTu natD))) (a := table) rfl) (y_v (ea := natD) (a := one_134) rfl)) (y_v (ea := natD) (a := other_226) rfl)))⟩))))⟩)))) (fun _ => .inl rfl))))))
def g_part_table_2 (table : List (List Nat)) (some_ : List Int) : M (List (List Nat)) :=
 (((((pure table) >>= fun a3 => (pure some_) >>= fun a4 => g_is_part_2 a3 a4) >>= fun a5 => pure a5) >>= fun a6 => pure (!a6)) >>= fun k7 => if k7 = true then (refuse "BadThing") else (((pure some_) >>= fun a8 => srtI a8) >>= fun row_9 => ((((pure row_9) >>= fun xs257 => mapMM (fun one_134 : Int => (((pure row_9) >>= fun xs255 => mapMM (fun other_226 : Int => ((pure row_9) >>= fun a253 => ((((pure table) >>= fun a249 => (pure one_134) >>= fun a250 => ixI a249 a250) >>= fun a251 => (pure other_226) >>= fun a252 => ixI a251 a252) >>= fun x => pure ((fun x : Nat => (x : Int)) x)) >>= fun a254 => idxM a253 a254)) xs255) >>= fun a256 => pure a256)) xs257) >>= fun a258 => pure a258) >>= fun v259 => pure v259)))
theorem c_part_table_2 (table : List (List Nat)) (some_ : List Int) : Is (eTu (eTu natD)) (f_part_table [(eTu (eTu natD)) table, (eLi eI) some_]) (g_part_table_2 table some_) :=
 is_runN (L := 5) (b := b_part_table) (ρ := [.fz ((eTu (eTu natD)) table), .fz ((eLi eI) some_), .no, .no, .no]) rfl
 (j_ifP (y_bNot (y_tT tr_B (y_f2 (fun a3 a4 => c_is_part_2 a3 a4) (y_v (ea := (eTu (eTu natD))) (a := table) rfl) (y_v (ea := (eLi eI)) (a := some_) rfl)))) j_raiseP (j_nxP (j_setN (ea := (eLi eI)) (ρ2 := fun row_9 => [.fz ((eTu (eTu natD)) table), .fz ((eLi eI) some_), .fz ((eLi eI) row_9), .no, .no]) (fun _ => rfl) (y_eL (yl_srtI seqI_L (y_v (ea := (eLi eI)) (a := some_) rfl))) (fun row_9 => (j_ret (b := fun v => v) (y_c1 (o_tupL (ea := (eTu natD))) (y_eL (yl_map (ea := eI) (eb := (eTu natD)) (i_L (ea := eI) (y_v (ea := (eLi eI)) (a := row_9) rfl)) (fun one_134 => ⟨_, rfl, (y_c1 (o_tupL (ea := natD)) (y_eL (yl_map (ea := eI) (eb := natD) (i_L (ea := eI) (y_v (ea := (eLi eI)) (a := row_9) rfl)) (fun other_226 => ⟨_, rfl, (y_idx enI (by decide) (y_v (ea := (eLi eI)) (a := row_9) rfl) (is_co (e := natD) (e2 := eI) (co := (fun x : Nat => (x : Int))) (y_2 (o_ixTI (ea := natD)) (y_2 (o_ixTI (ea := (eTu natD))) (y_v (ea := (eTu (eTu natD))) (a := table) rfl) (y_v (ea := eI) (a := one_134) rfl)) (y_v (ea := eI) (a := other_226) rfl)) (fun _ => rfl)))⟩))))⟩)))) (fun _ => .inl rfl))))))
def g_lists (size : Nat) : M (List (List Nat)) :=
 (((pure ([] : List Nat)) >>= fun a1 => (pure ([] : List (List Nat))) >>= fun a2 => pure (a1 :: a2)) >>= fun found_3 => (((pure size) >>= fun a6 => iterM a6) >>= fun xs88 => forN xs88 found_3 (fun (thing_9 : Nat) (s7 : (List (List Nat))) => (((pure s7) >>= fun a38 => ((pure s7) >>= fun xs37 => mapMM (fun some_24 : List Nat => ((pure some_24) >>= fun a35 => ((pure thing_9) >>= fun a33 => (pure ([] : List Nat)) >>= fun a34 => pure (a33 :: a34)) >>= fun a36 => catM a35 a36)) xs37) >>= fun a39 => catM a38 a39) >>= fun found_40 => (pure found_40))) >>= fun s41 => (((((pure s41) >>= fun xs83 => mapMM (fun some_74 : List Nat => (((pure some_74) >>= fun a80 => pure (List.length a80)) >>= fun a81 => (pure some_74) >>= fun a82 => pure (a81, a82))) xs83) >>= fun a84 => sortM (eP natD (eLi natD)) a84) >>= fun xs86 => mapMM (fun p_85 : Nat × (List Nat) => (pure p_85.2)) xs86) >>= fun v87 => pure v87)))
theorem c_lists (size : Nat) : Is (eLi (eLi natD)) (f_lists [natD size]) (g_lists size) :=
 is_runN (L := 5) (b := b_lists) (ρ := [.fz (natD size), .no, .no, .no, .no]) rfl
 (j_setN (ea := (eLi (eLi natD))) (ρ2 := fun found_3 => [.fz (natD size), .fz ((eLi (eLi natD)) found_3), .no, .no, .no]) (fun _ => rfl) (y_eL (yl_lit (ea := (eLi natD)) (v_cons (y_eL (yl_lit (ea := natD) (v_nil (ea := natD)) (by decide))) (v_nil (ea := (eLi natD)))) (by decide))) (fun found_3 => (j_forN (ea := natD) (R := (fun (s4 : (List (List Nat))) (ρ : Mi.Env) => ∃ j5 : Sl, ρ = [.fz (natD size), .fz ((eLi (eLi natD)) s4), j5, .no, .no])) (s0 := found_3) (i_r1 (y_v (ea := natD) (a := size) rfl)) ⟨_, rfl⟩ (fun thing_9 s7 ρ h => by
 obtain ⟨j8, rfl⟩ := h
 exact ⟨_, rfl, (j_end (j_setN (ea := (eLi (eLi natD))) (ρ2 := fun found_40 => [.fz (natD size), .fz ((eLi (eLi natD)) found_40), .fz (natD thing_9), .no, .no]) (fun _ => rfl) (y_2 (o_addL (ea := (eLi natD))) (y_v (ea := (eLi (eLi natD))) (a := s7) rfl) (y_eL (yl_map (ea := (eLi natD)) (eb := (eLi natD)) (i_L (ea := (eLi natD)) (y_v (ea := (eLi (eLi natD))) (a := s7) rfl)) (fun some_24 => ⟨_, rfl, (y_2 (o_addL (ea := natD)) (y_v (ea := (eLi natD)) (a := some_24) rfl) (y_eL (yl_lit (ea := natD) (v_cons (y_v (ea := natD) (a := thing_9) rfl) (v_nil (ea := natD))) (by decide))))⟩)))) (fun found_40 => (j_nx ⟨rfl, ⟨_, rfl⟩⟩))))⟩) (fun s41 ρ h => by
 obtain ⟨j42, rfl⟩ := h
 exact (j_ret (b := fun v => v) (y_eL (yl_map (ea := (eP natD (eLi natD))) (eb := (eLi natD)) (i_L (ea := (eP natD (eLi natD))) (y_eL (yl_c1 (ol_sort (ea := (eP natD (eLi natD)))) (y_eL (yl_map (ea := (eLi natD)) (eb := (eP natD (eLi natD))) (i_L (ea := (eLi natD)) (y_v (ea := (eLi (eLi natD))) (a := s41) rfl)) (fun some_74 => ⟨_, rfl, (y_p2 (ea := natD) (eb := (eLi natD)) (y_c1 (o_lenL (ea := natD)) (y_v (ea := (eLi natD)) (a := some_74) rfl)) (y_v (ea := (eLi natD)) (a := some_74) rfl))⟩)))))) (fun p_85 => ⟨_, rfl, (y_v (ea := (eLi natD)) (a := p_85.2) rfl)⟩))) (fun _ => .inl rfl))))))
def g_parts (table : List (List Nat)) : M (List (List Nat)) :=
 (((pure table) >>= fun a1 => g_look_table a1) >>= fun _ => (((((pure table) >>= fun a6 => pure (List.length a6)) >>= fun a7 => g_lists a7) >>= fun xs17 => compM (fun some_8 : List Nat => (((pure some_8) >>= fun a9 => pure (!List.isEmpty a9)) >>= fun a16 => if a16 = true then (((pure table) >>= fun a12 => (pure some_8) >>= fun a13 => g_grown a12 a13) >>= fun a14 => (pure some_8) >>= fun a15 => pure (decide (a14 = a15))) else pure false)) (fun some_8 : List Nat => (pure some_8)) xs17) >>= fun v18 => pure v18))
theorem c_parts (table : List (List Nat)) : Is (eLi (eLi natD)) (f_parts [(eTu (eTu natD)) table]) (g_parts table) :=
 is_runN (L := 2) (b := b_parts) (ρ := [.fz ((eTu (eTu natD)) table), .no]) rfl
 (j_drop (ea := eU) (y_f1 (fun a1 => c_look_table a1) (y_v (ea := (eTu (eTu natD))) (a := table) rfl)) (fun _ => (j_ret (b := fun v => v) (y_eL (yl_comp (ea := (eLi natD)) (eb := (eLi natD)) (i_L (ea := (eLi natD)) (y_f1 (fun a7 => c_lists a7) (y_c1 (o_lenT (ea := (eTu natD))) (y_v (ea := (eTu (eTu natD))) (a := table) rfl)))) (fun some_8 => ⟨_, rfl, (y_bAnd (y_tT (tr_L (ea := natD)) (y_v (ea := (eLi natD)) (a := some_8) rfl)) (y_tB (y_2 (o_eq (enL enN) (by decide)) (y_f2 (fun a12 a13 => c_grown a12 a13) (y_v (ea := (eTu (eTu natD))) (a := table) rfl) (y_v (ea := (eLi natD)) (a := some_8) rfl)) (y_v (ea := (eLi natD)) (a := some_8) rfl)))), (y_v (ea := (eLi natD)) (a := some_8) rfl)⟩))) (fun _ => .inl rfl))))
def g_look_parting (table : List (List Nat)) (parting : List Nat) : M Unit :=
 (((pure table) >>= fun a1 => g_look_table a1) >>= fun _ => (((((pure parting) >>= fun a4 => pure (List.length a4)) >>= fun a6 => ((pure table) >>= fun a5 => pure (List.length a5)) >>= fun a7 => pure (!decide (a6 = a7))) >>= fun a92 => if a92 = true then pure true else (((((((pure parting) >>= fun a69 => pure (List.length a69)) >>= fun a70 => iterM a70) >>= fun xs88 => mapMM (fun thing_71 : Nat => ((pure (0 : Nat)) >>= fun a84 => ((pure parting) >>= fun a82 => (pure thing_71) >>= fun a83 => ixN a82 a83) >>= fun a85 => pure (decide (a84 ≤ a85)) >>= fun k87 => if k87 = true then (pure thing_71) >>= fun a86 => pure (decide (a85 ≤ a86)) else pure false)) xs88) >>= fun a89 => pure ((fun bs => bs.all id) a89)) >>= fun a90 => pure a90) >>= fun a91 => pure (!a91))) >>= fun k93 => if k93 = true then (refuse "BadParting") else ((((((pure parting) >>= fun xs150 => mapMM (fun least_137 : Nat => (((pure parting) >>= fun a146 => (pure least_137) >>= fun a147 => ixN a146 a147) >>= fun a148 => (pure least_137) >>= fun a149 => pure (decide (a148 = a149)))) xs150) >>= fun a151 => pure ((fun bs => bs.all id) a151)) >>= fun a152 => pure a152) >>= fun a153 => pure (!a153)) >>= fun k154 => if k154 = true then (refuse "BadParting") else (pure ()))))
theorem c_look_parting (table : List (List Nat)) (parting : List Nat) : Is eU (f_look_parting [(eTu (eTu natD)) table, (eTu natD) parting]) (g_look_parting table parting) :=
 is_runN (L := 4) (b := b_look_parting) (ρ := [.fz ((eTu (eTu natD)) table), .fz ((eTu natD) parting), .no, .no]) rfl
 (j_drop (ea := eU) (y_f1 (fun a1 => c_look_table a1) (y_v (ea := (eTu (eTu natD))) (a := table) rfl)) (fun _ => (j_ifP (y_bOr (y_tB (y_2 (o_ne enN (by decide)) (y_c1 (o_lenT (ea := natD)) (y_v (ea := (eTu natD)) (a := parting) rfl)) (y_c1 (o_lenT (ea := (eTu natD))) (y_v (ea := (eTu (eTu natD))) (a := table) rfl)))) (y_bNot (y_tT tr_B (y_c1 (o_allB (fun bs => bs.all id)) (y_eL (yl_map (ea := natD) (eb := eB) (i_r1 (y_c1 (o_lenT (ea := natD)) (y_v (ea := (eTu natD)) (a := parting) rfl))) (fun thing_71 => ⟨_, rfl, (y_3 o_leN o_leN (y_k (ea := natD) (a := 0) rfl) (y_2 (o_ixTN (ea := natD)) (y_v (ea := (eTu natD)) (a := parting) rfl) (y_v (ea := natD) (a := thing_71) rfl)) (y_v (ea := natD) (a := thing_71) rfl))⟩))))))) j_raiseP (j_nxP (j_if (y_bNot (y_tT tr_B (y_c1 (o_allB (fun bs => bs.all id)) (y_eL (yl_map (ea := natD) (eb := eB) (i_T (ea := natD) (y_v (ea := (eTu natD)) (a := parting) rfl)) (fun least_137 => ⟨_, rfl, (y_2 (o_eq enN (by decide)) (y_2 (o_ixTN (ea := natD)) (y_v (ea := (eTu natD)) (a := parting) rfl) (y_v (ea := natD) (a := least_137) rfl)) (y_v (ea := natD) (a := least_137) rfl))⟩)))))) j_raise (j_nx (.inr ⟨rfl, rfl⟩)))))))
def g_look_parting_2 (table : List (List Nat)) (parting : List Int) : M Unit :=
 (((pure table) >>= fun a1 => g_look_table a1) >>= fun _ => (((((pure parting) >>= fun a4 => pure (List.length a4)) >>= fun a6 => ((pure table) >>= fun a5 => pure (List.length a5)) >>= fun a7 => pure (!decide (a6 = a7))) >>= fun a92 => if a92 = true then pure true else (((((((pure parting) >>= fun a69 => pure (List.length a69)) >>= fun a70 => iterM a70) >>= fun xs88 => mapMM (fun thing_71 : Nat => (((pure (0 : Nat)) >>= fun x => pure ((fun x : Nat => (x : Int)) x)) >>= fun a84 => ((pure parting) >>= fun a82 => (pure thing_71) >>= fun a83 => ixN a82 a83) >>= fun a85 => pure (decide (a84 ≤ a85)) >>= fun k87 => if k87 = true then ((pure thing_71) >>= fun x => pure ((fun x : Nat => (x : Int)) x)) >>= fun a86 => pure (decide (a85 ≤ a86)) else pure false)) xs88) >>= fun a89 => pure ((fun bs => bs.all id) a89)) >>= fun a90 => pure a90) >>= fun a91 => pure (!a91))) >>= fun k93 => if k93 = true then (refuse "BadParting") else ((((((pure parting) >>= fun xs150 => mapMM (fun least_137 : Int => (((pure parting) >>= fun a146 => (pure least_137) >>= fun a147 => ixI a146 a147) >>= fun a148 => (pure least_137) >>= fun a149 => pure (decide (a148 = a149)))) xs150) >>= fun a151 => pure ((fun bs => bs.all id) a151)) >>= fun a152 => pure a152) >>= fun a153 => pure (!a153)) >>= fun k154 => if k154 = true then (refuse "BadParting") else (pure ()))))
theorem c_look_parting_2 (table : List (List Nat)) (parting : List Int) : Is eU (f_look_parting [(eTu (eTu natD)) table, (eTu eI) parting]) (g_look_parting_2 table parting) :=
 is_runN (L := 4) (b := b_look_parting) (ρ := [.fz ((eTu (eTu natD)) table), .fz ((eTu eI) parting), .no, .no]) rfl
 (j_drop (ea := eU) (y_f1 (fun a1 => c_look_table a1) (y_v (ea := (eTu (eTu natD))) (a := table) rfl)) (fun _ => (j_ifP (y_bOr (y_tB (y_2 (o_ne enN (by decide)) (y_c1 (o_lenT (ea := eI)) (y_v (ea := (eTu eI)) (a := parting) rfl)) (y_c1 (o_lenT (ea := (eTu natD))) (y_v (ea := (eTu (eTu natD))) (a := table) rfl)))) (y_bNot (y_tT tr_B (y_c1 (o_allB (fun bs => bs.all id)) (y_eL (yl_map (ea := natD) (eb := eB) (i_r1 (y_c1 (o_lenT (ea := eI)) (y_v (ea := (eTu eI)) (a := parting) rfl))) (fun thing_71 => ⟨_, rfl, (y_3 o_leI o_leI (is_co (e := natD) (e2 := eI) (co := (fun x : Nat => (x : Int))) (y_k (ea := natD) (a := 0) rfl) (fun _ => rfl)) (y_2 (o_ixTN (ea := eI)) (y_v (ea := (eTu eI)) (a := parting) rfl) (y_v (ea := natD) (a := thing_71) rfl)) (is_co (e := natD) (e2 := eI) (co := (fun x : Nat => (x : Int))) (y_v (ea := natD) (a := thing_71) rfl) (fun _ => rfl)))⟩))))))) j_raiseP (j_nxP (j_if (y_bNot (y_tT tr_B (y_c1 (o_allB (fun bs => bs.all id)) (y_eL (yl_map (ea := eI) (eb := eB) (i_T (ea := eI) (y_v (ea := (eTu eI)) (a := parting) rfl)) (fun least_137 => ⟨_, rfl, (y_2 (o_eq enI (by decide)) (y_2 (o_ixTI (ea := eI)) (y_v (ea := (eTu eI)) (a := parting) rfl) (y_v (ea := eI) (a := least_137) rfl)) (y_v (ea := eI) (a := least_137) rfl))⟩)))))) j_raise (j_nx (.inr ⟨rfl, rfl⟩)))))))
def g_does_keep (table : List (List Nat)) (parting : List Nat) : M Bool :=
 (((pure table) >>= fun a1 => pure (List.length a1)) >>= fun size_2 => (((pure size_2) >>= fun a6 => iterM a6) >>= fun xs134 => (forC xs134 () (fun (one_10 : Nat) (s7 : Unit) => (((pure size_2) >>= fun a13 => iterM a13) >>= fun xs127 => (forC xs127 () (fun (other_16 : Nat) (s14 : Unit) => ((((pure parting) >>= fun a81 => (((pure table) >>= fun a77 => (pure one_10) >>= fun a78 => ixN a77 a78) >>= fun a79 => (pure other_16) >>= fun a80 => ixN a79 a80) >>= fun a82 => ixN a81 a82) >>= fun a121 => ((pure parting) >>= fun a119 => (((pure table) >>= fun a113 => ((pure parting) >>= fun a111 => (pure one_10) >>= fun a112 => ixN a111 a112) >>= fun a114 => ixN a113 a114) >>= fun a117 => ((pure parting) >>= fun a115 => (pure other_16) >>= fun a116 => ixN a115 a116) >>= fun a118 => ixN a117 a118) >>= fun a120 => ixN a119 a120) >>= fun a122 => pure (!decide (a121 = a122))) >>= fun k123 => if k123 = true then ((pure false) >>= fun v124 => pure (Ctl.rt v124)) else (pure (Ctl.nx ())))) : M (Ctl (Unit) Bool)) >>= fun c129 => c129.go (fun s125 => (pure (Ctl.nx ()))) (fun v128 => pure (Ctl.rt v128)))) : M (Ctl (Unit) Bool)) >>= fun c136 => c136.go (fun s130 => ((pure true) >>= fun v133 => pure v133)) (fun v135 => pure v135)))
theorem c_does_keep (table : List (List Nat)) (parting : List Nat) : Is eB (f_does_keep [(eTu (eTu natD)) table, (eTu natD) parting]) (g_does_keep table parting) :=
 is_runN (L := 5) (b := b_does_keep) (ρ := [.fz ((eTu (eTu natD)) table), .fz ((eTu natD) parting), .no, .no, .no]) rfl
 (j_setN (ea := natD) (ρ2 := fun size_2 => [.fz ((eTu (eTu natD)) table), .fz ((eTu natD) parting), .fz (natD size_2), .no, .no]) (fun _ => rfl) (y_c1 (o_lenT (ea := (eTu natD))) (y_v (ea := (eTu (eTu natD))) (a := table) rfl)) (fun size_2 => (j_forC (ea := natD) (R := (fun (s3 : Unit) (ρ : Mi.Env) => ∃ j4 j5 : Sl, ρ = [.fz ((eTu (eTu natD)) table), .fz ((eTu natD) parting), .fz (natD size_2), j4, j5])) (e := eB) (b := (fun v => v)) (s0 := ()) (i_r1 (y_v (ea := natD) (a := size_2) rfl)) ⟨_, _, rfl⟩ (fun one_10 s7 ρ h => by
 obtain ⟨j8, j9, rfl⟩ := h
 exact ⟨_, rfl, (j_end (j_forC (ea := natD) (R := (fun (s11 : Unit) (ρ : Mi.Env) => ∃ j12 : Sl, ρ = [.fz ((eTu (eTu natD)) table), .fz ((eTu natD) parting), .fz (natD size_2), .fz (natD one_10), j12])) (e := eB) (b := (fun v => Ctl.rt v)) (s0 := ()) (i_r1 (y_v (ea := natD) (a := size_2) rfl)) ⟨_, rfl⟩ (fun other_16 s14 ρ h => by
 obtain ⟨j15, rfl⟩ := h
 exact ⟨_, rfl, (j_if (y_tB (y_2 (o_ne enN (by decide)) (y_2 (o_ixTN (ea := natD)) (y_v (ea := (eTu natD)) (a := parting) rfl) (y_2 (o_ixTN (ea := natD)) (y_2 (o_ixTN (ea := (eTu natD))) (y_v (ea := (eTu (eTu natD))) (a := table) rfl) (y_v (ea := natD) (a := one_10) rfl)) (y_v (ea := natD) (a := other_16) rfl))) (y_2 (o_ixTN (ea := natD)) (y_v (ea := (eTu natD)) (a := parting) rfl) (y_2 (o_ixTN (ea := natD)) (y_2 (o_ixTN (ea := (eTu natD))) (y_v (ea := (eTu (eTu natD))) (a := table) rfl) (y_2 (o_ixTN (ea := natD)) (y_v (ea := (eTu natD)) (a := parting) rfl) (y_v (ea := natD) (a := one_10) rfl))) (y_2 (o_ixTN (ea := natD)) (y_v (ea := (eTu natD)) (a := parting) rfl) (y_v (ea := natD) (a := other_16) rfl)))))) (j_ret (b := fun v => Ctl.rt v) (y_k (ea := eB) (a := false) rfl) (fun _ => rfl)) (j_nx ⟨rfl, ⟨_, rfl⟩⟩))⟩) (fun s125 ρ h => by
 obtain ⟨j126, rfl⟩ := h
 exact (j_nx ⟨rfl, ⟨_, _, rfl⟩⟩)) (fun _ _ => rfl)))⟩) (fun s130 ρ h => by
 obtain ⟨j131, j132, rfl⟩ := h
 exact (j_ret (b := fun v => v) (y_k (ea := eB) (a := true) rfl) (fun _ => .inl rfl))) (fun _ _ => .inl rfl))))
def g_does_keep_2 (table : List (List Nat)) (parting : List Int) : M Bool :=
 (((pure table) >>= fun a1 => pure (List.length a1)) >>= fun size_2 => (((pure size_2) >>= fun a6 => iterM a6) >>= fun xs134 => (forC xs134 () (fun (one_10 : Nat) (s7 : Unit) => (((pure size_2) >>= fun a13 => iterM a13) >>= fun xs127 => (forC xs127 () (fun (other_16 : Nat) (s14 : Unit) => ((((pure parting) >>= fun a81 => (((pure table) >>= fun a77 => (pure one_10) >>= fun a78 => ixN a77 a78) >>= fun a79 => (pure other_16) >>= fun a80 => ixN a79 a80) >>= fun a82 => ixN a81 a82) >>= fun a121 => ((pure parting) >>= fun a119 => (((pure table) >>= fun a113 => ((pure parting) >>= fun a111 => (pure one_10) >>= fun a112 => ixN a111 a112) >>= fun a114 => ixI a113 a114) >>= fun a117 => ((pure parting) >>= fun a115 => (pure other_16) >>= fun a116 => ixN a115 a116) >>= fun a118 => ixI a117 a118) >>= fun a120 => ixN a119 a120) >>= fun a122 => pure (!decide (a121 = a122))) >>= fun k123 => if k123 = true then ((pure false) >>= fun v124 => pure (Ctl.rt v124)) else (pure (Ctl.nx ())))) : M (Ctl (Unit) Bool)) >>= fun c129 => c129.go (fun s125 => (pure (Ctl.nx ()))) (fun v128 => pure (Ctl.rt v128)))) : M (Ctl (Unit) Bool)) >>= fun c136 => c136.go (fun s130 => ((pure true) >>= fun v133 => pure v133)) (fun v135 => pure v135)))
theorem c_does_keep_2 (table : List (List Nat)) (parting : List Int) : Is eB (f_does_keep [(eTu (eTu natD)) table, (eTu eI) parting]) (g_does_keep_2 table parting) :=
 is_runN (L := 5) (b := b_does_keep) (ρ := [.fz ((eTu (eTu natD)) table), .fz ((eTu eI) parting), .no, .no, .no]) rfl
 (j_setN (ea := natD) (ρ2 := fun size_2 => [.fz ((eTu (eTu natD)) table), .fz ((eTu eI) parting), .fz (natD size_2), .no, .no]) (fun _ => rfl) (y_c1 (o_lenT (ea := (eTu natD))) (y_v (ea := (eTu (eTu natD))) (a := table) rfl)) (fun size_2 => (j_forC (ea := natD) (R := (fun (s3 : Unit) (ρ : Mi.Env) => ∃ j4 j5 : Sl, ρ = [.fz ((eTu (eTu natD)) table), .fz ((eTu eI) parting), .fz (natD size_2), j4, j5])) (e := eB) (b := (fun v => v)) (s0 := ()) (i_r1 (y_v (ea := natD) (a := size_2) rfl)) ⟨_, _, rfl⟩ (fun one_10 s7 ρ h => by
 obtain ⟨j8, j9, rfl⟩ := h
 exact ⟨_, rfl, (j_end (j_forC (ea := natD) (R := (fun (s11 : Unit) (ρ : Mi.Env) => ∃ j12 : Sl, ρ = [.fz ((eTu (eTu natD)) table), .fz ((eTu eI) parting), .fz (natD size_2), .fz (natD one_10), j12])) (e := eB) (b := (fun v => Ctl.rt v)) (s0 := ()) (i_r1 (y_v (ea := natD) (a := size_2) rfl)) ⟨_, rfl⟩ (fun other_16 s14 ρ h => by
 obtain ⟨j15, rfl⟩ := h
 exact ⟨_, rfl, (j_if (y_tB (y_2 (o_ne enI (by decide)) (y_2 (o_ixTN (ea := eI)) (y_v (ea := (eTu eI)) (a := parting) rfl) (y_2 (o_ixTN (ea := natD)) (y_2 (o_ixTN (ea := (eTu natD))) (y_v (ea := (eTu (eTu natD))) (a := table) rfl) (y_v (ea := natD) (a := one_10) rfl)) (y_v (ea := natD) (a := other_16) rfl))) (y_2 (o_ixTN (ea := eI)) (y_v (ea := (eTu eI)) (a := parting) rfl) (y_2 (o_ixTI (ea := natD)) (y_2 (o_ixTI (ea := (eTu natD))) (y_v (ea := (eTu (eTu natD))) (a := table) rfl) (y_2 (o_ixTN (ea := eI)) (y_v (ea := (eTu eI)) (a := parting) rfl) (y_v (ea := natD) (a := one_10) rfl))) (y_2 (o_ixTN (ea := eI)) (y_v (ea := (eTu eI)) (a := parting) rfl) (y_v (ea := natD) (a := other_16) rfl)))))) (j_ret (b := fun v => Ctl.rt v) (y_k (ea := eB) (a := false) rfl) (fun _ => rfl)) (j_nx ⟨rfl, ⟨_, rfl⟩⟩))⟩) (fun s125 ρ h => by
 obtain ⟨j126, rfl⟩ := h
 exact (j_nx ⟨rfl, ⟨_, _, rfl⟩⟩)) (fun _ _ => rfl)))⟩) (fun s130 ρ h => by
 obtain ⟨j131, j132, rfl⟩ := h
 exact (j_ret (b := fun v => v) (y_k (ea := eB) (a := true) rfl) (fun _ => .inl rfl))) (fun _ _ => .inl rfl))))
def g_is_kept (table : List (List Nat)) (parting : List Nat) : M Bool :=
 (((pure table) >>= fun a1 => (pure parting) >>= fun a2 => g_look_parting a1 a2) >>= fun _ => (((pure table) >>= fun a3 => (pure parting) >>= fun a4 => g_does_keep a3 a4) >>= fun v5 => pure v5))
theorem c_is_kept (table : List (List Nat)) (parting : List Nat) : Is eB (f_is_kept [(eTu (eTu natD)) table, (eTu natD) parting]) (g_is_kept table parting) :=
 is_runN (L := 2) (b := b_is_kept) (ρ := [.fz ((eTu (eTu natD)) table), .fz ((eTu natD) parting)]) rfl
 (j_drop (ea := eU) (y_f2 (fun a1 a2 => c_look_parting a1 a2) (y_v (ea := (eTu (eTu natD))) (a := table) rfl) (y_v (ea := (eTu natD)) (a := parting) rfl)) (fun _ => (j_ret (b := fun v => v) (y_f2 (fun a3 a4 => c_does_keep a3 a4) (y_v (ea := (eTu (eTu natD))) (a := table) rfl) (y_v (ea := (eTu natD)) (a := parting) rfl)) (fun _ => .inl rfl))))
def g_is_kept_2 (table : List (List Nat)) (parting : List Int) : M Bool :=
 (((pure table) >>= fun a1 => (pure parting) >>= fun a2 => g_look_parting_2 a1 a2) >>= fun _ => (((pure table) >>= fun a3 => (pure parting) >>= fun a4 => g_does_keep_2 a3 a4) >>= fun v5 => pure v5))
theorem c_is_kept_2 (table : List (List Nat)) (parting : List Int) : Is eB (f_is_kept [(eTu (eTu natD)) table, (eTu eI) parting]) (g_is_kept_2 table parting) :=
 is_runN (L := 2) (b := b_is_kept) (ρ := [.fz ((eTu (eTu natD)) table), .fz ((eTu eI) parting)]) rfl
 (j_drop (ea := eU) (y_f2 (fun a1 a2 => c_look_parting_2 a1 a2) (y_v (ea := (eTu (eTu natD))) (a := table) rfl) (y_v (ea := (eTu eI)) (a := parting) rfl)) (fun _ => (j_ret (b := fun v => v) (y_f2 (fun a3 a4 => c_does_keep_2 a3 a4) (y_v (ea := (eTu (eTu natD))) (a := table) rfl) (y_v (ea := (eTu eI)) (a := parting) rfl)) (fun _ => .inl rfl))))
def g_tidied (parting : List Nat) : M (List Nat) :=
 ((((pure parting) >>= fun xs12 => mapMM (fun name_7 : Nat => ((pure parting) >>= fun a10 => (pure name_7) >>= fun a11 => idxM a10 a11)) xs12) >>= fun a13 => pure a13) >>= fun v14 => pure v14)
theorem c_tidied (parting : List Nat) : Is (eTu natD) (f_tidied [(eLi natD) parting]) (g_tidied parting) :=
 is_runN (L := 2) (b := b_tidied) (ρ := [.fz ((eLi natD) parting), .no]) rfl
 (j_ret (b := fun v => v) (y_c1 (o_tupL (ea := natD)) (y_eL (yl_map (ea := natD) (eb := natD) (i_L (ea := natD) (y_v (ea := (eLi natD)) (a := parting) rfl)) (fun name_7 => ⟨_, rfl, (y_idx enN (by decide) (y_v (ea := (eLi natD)) (a := parting) rfl) (y_v (ea := natD) (a := name_7) rfl))⟩)))) (fun _ => .inl rfl))
def g_tidied_2 (parting : List (Nat × Nat)) : M (List Nat) :=
 ((((pure parting) >>= fun xs12 => mapMM (fun name_7 : Nat × Nat => ((pure parting) >>= fun a10 => (pure name_7) >>= fun a11 => idxM a10 a11)) xs12) >>= fun a13 => pure a13) >>= fun v14 => pure v14)
theorem c_tidied_2 (parting : List (Nat × Nat)) : Is (eTu natD) (f_tidied [(eLi (eP natD natD)) parting]) (g_tidied_2 parting) :=
 is_runN (L := 2) (b := b_tidied) (ρ := [.fz ((eLi (eP natD natD)) parting), .no]) rfl
 (j_ret (b := fun v => v) (y_c1 (o_tupL (ea := natD)) (y_eL (yl_map (ea := (eP natD natD)) (eb := natD) (i_L (ea := (eP natD natD)) (y_v (ea := (eLi (eP natD natD))) (a := parting) rfl)) (fun name_7 => ⟨_, rfl, (y_idx (enP enN enN) (by decide) (y_v (ea := (eLi (eP natD natD))) (a := parting) rfl) (y_v (ea := (eP natD natD)) (a := name_7) rfl))⟩)))) (fun _ => .inl rfl))
def g_tidied_3 (parting : List Int) : M (List Nat) :=
 ((((pure parting) >>= fun xs12 => mapMM (fun name_7 : Int => ((pure parting) >>= fun a10 => (pure name_7) >>= fun a11 => idxM a10 a11)) xs12) >>= fun a13 => pure a13) >>= fun v14 => pure v14)
theorem c_tidied_3 (parting : List Int) : Is (eTu natD) (f_tidied [(eLi eI) parting]) (g_tidied_3 parting) :=
 is_runN (L := 2) (b := b_tidied) (ρ := [.fz ((eLi eI) parting), .no]) rfl
 (j_ret (b := fun v => v) (y_c1 (o_tupL (ea := natD)) (y_eL (yl_map (ea := eI) (eb := natD) (i_L (ea := eI) (y_v (ea := (eLi eI)) (a := parting) rfl)) (fun name_7 => ⟨_, rfl, (y_idx enI (by decide) (y_v (ea := (eLi eI)) (a := parting) rfl) (y_v (ea := eI) (a := name_7) rfl))⟩)))) (fun _ => .inl rfl))
def g_met (one : List Nat) (other : List Nat) : M (List Nat) :=
 ((((((pure one) >>= fun a25 => pure (List.length a25)) >>= fun a26 => iterM a26) >>= fun xs48 => mapMM (fun k_27 : Nat => (((pure one) >>= fun a42 => (pure k_27) >>= fun a43 => ixN a42 a43) >>= fun a46 => ((pure other) >>= fun a44 => (pure k_27) >>= fun a45 => ixN a44 a45) >>= fun a47 => pure (a46, a47))) xs48) >>= fun a49 => g_tidied_2 a49) >>= fun v50 => pure v50)
theorem c_met (one : List Nat) (other : List Nat) : Is (eTu natD) (f_met [(eTu natD) one, (eTu natD) other]) (g_met one other) :=
 is_runN (L := 3) (b := b_met) (ρ := [.fz ((eTu natD) one), .fz ((eTu natD) other), .no]) rfl
 (j_ret (b := fun v => v) (y_f1 (fun a49 => c_tidied_2 a49) (y_eL (yl_map (ea := natD) (eb := (eP natD natD)) (i_r1 (y_c1 (o_lenT (ea := natD)) (y_v (ea := (eTu natD)) (a := one) rfl))) (fun k_27 => ⟨_, rfl, (y_p2 (ea := natD) (eb := natD) (y_2 (o_ixTN (ea := natD)) (y_v (ea := (eTu natD)) (a := one) rfl) (y_v (ea := natD) (a := k_27) rfl)) (y_2 (o_ixTN (ea := natD)) (y_v (ea := (eTu natD)) (a := other) rfl) (y_v (ea := natD) (a := k_27) rfl)))⟩)))) (fun _ => .inl rfl))
def g_both_met (table : List (List Nat)) (one : List Nat) (other : List Nat) : M (List Nat) :=
 (((pure table) >>= fun a1 => (pure one) >>= fun a2 => g_look_parting a1 a2) >>= fun _ => (((pure table) >>= fun a3 => (pure other) >>= fun a4 => g_look_parting a3 a4) >>= fun _ => (((pure one) >>= fun a5 => (pure other) >>= fun a6 => g_met a5 a6) >>= fun v7 => pure v7)))
theorem c_both_met (table : List (List Nat)) (one : List Nat) (other : List Nat) : Is (eTu natD) (f_both_met [(eTu (eTu natD)) table, (eTu natD) one, (eTu natD) other]) (g_both_met table one other) :=
 is_runN (L := 3) (b := b_both_met) (ρ := [.fz ((eTu (eTu natD)) table), .fz ((eTu natD) one), .fz ((eTu natD) other)]) rfl
 (j_drop (ea := eU) (y_f2 (fun a1 a2 => c_look_parting a1 a2) (y_v (ea := (eTu (eTu natD))) (a := table) rfl) (y_v (ea := (eTu natD)) (a := one) rfl)) (fun _ => (j_drop (ea := eU) (y_f2 (fun a3 a4 => c_look_parting a3 a4) (y_v (ea := (eTu (eTu natD))) (a := table) rfl) (y_v (ea := (eTu natD)) (a := other) rfl)) (fun _ => (j_ret (b := fun v => v) (y_f2 (fun a5 a6 => c_met a5 a6) (y_v (ea := (eTu natD)) (a := one) rfl) (y_v (ea := (eTu natD)) (a := other) rfl)) (fun _ => .inl rfl))))))
def g_closed (table : List (List Nat)) (names : List Nat) (pairs : List (Nat × Nat)) : M (List Nat) :=
 (((pure table) >>= fun a1 => pure (List.length a1)) >>= fun size_2 => (((pure pairs) >>= fun a3 => pure a3) >>= fun row_4 => (((pure size_2) >>= fun a7 => iterM a7) >>= fun xs202 => forN xs202 row_4 (fun (thing_10 : Nat) (s8 : (List (Nat × Nat))) => (((pure thing_10) >>= fun a15 => ((pure names) >>= fun a13 => (pure thing_10) >>= fun a14 => ixN a13 a14) >>= fun a16 => pure (a15, a16)) >>= fun a17 => room (List.length s8 + 1) >>= fun _ => (pure ((s8 ++ [a17]))))) >>= fun s18 => (((pure size_2) >>= fun a20 => rgM a20) >>= fun found_21 => (whN (fun (s28 : (List (Nat × Nat)) × (List Nat)) => ((pure s28.1) >>= fun a34 => pure (!List.isEmpty a34))) (fun (s35 : (List (Nat × Nat)) × (List Nat)) => (popM s35.1 >>= fun p41 => ((((pure s35.2) >>= fun a46 => (pure p41.1.1) >>= fun a47 => ixN a46 a47) >>= fun a50 => ((pure s35.2) >>= fun a48 => (pure p41.1.2) >>= fun a49 => ixN a48 a49) >>= fun a51 => pure (min a50 a51)) >>= fun low_52 => ((((pure s35.2) >>= fun a57 => (pure p41.1.1) >>= fun a58 => ixN a57 a58) >>= fun a61 => ((pure s35.2) >>= fun a59 => (pure p41.1.2) >>= fun a60 => ixN a59 a60) >>= fun a62 => pure (max a61 a62)) >>= fun high_63 => (((pure low_52) >>= fun a64 => (pure high_63) >>= fun a65 => pure (!decide (a64 = a65))) >>= fun k66 => if k66 = true then (((pure s35.2) >>= fun xs74 => mapMM (fun name_67 : Nat => (((pure name_67) >>= fun a71 => (pure high_63) >>= fun a72 => pure (decide (a71 = a72))) >>= fun a73 => if a73 = true then (pure low_52) else (pure name_67))) xs74) >>= fun found_75 => (((pure size_2) >>= fun a78 => iterM a78) >>= fun xs193 => forN xs193 p41.2 (fun (thing_81 : Nat) (s79 : (List (Nat × Nat))) => ((((((pure table) >>= fun a148 => (pure p41.1.1) >>= fun a149 => ixN a148 a149) >>= fun a150 => (pure thing_81) >>= fun a151 => ixN a150 a151) >>= fun a158 => (((pure table) >>= fun a154 => (pure p41.1.2) >>= fun a155 => ixN a154 a155) >>= fun a156 => (pure thing_81) >>= fun a157 => ixN a156 a157) >>= fun a159 => pure (a158, a159)) >>= fun a188 => (((((pure table) >>= fun a174 => (pure thing_81) >>= fun a175 => ixN a174 a175) >>= fun a176 => (pure p41.1.1) >>= fun a177 => ixN a176 a177) >>= fun a184 => (((pure table) >>= fun a180 => (pure thing_81) >>= fun a181 => ixN a180 a181) >>= fun a182 => (pure p41.1.2) >>= fun a183 => ixN a182 a183) >>= fun a185 => pure (a184, a185)) >>= fun a186 => (pure ([] : List (Nat × Nat))) >>= fun a187 => pure (a186 :: a187)) >>= fun a189 => pure (a188 :: a189)) >>= fun ys190 => room (List.length s79 + List.length ys190) >>= fun _ => (pure ((s79 ++ ys190))))) >>= fun s191 => (pure (s191, found_75)))) else (pure (p41.2, s35.2))))))) 4096 (s18, found_21) >>= fun s194 => (((pure s194.2) >>= fun a200 => pure a200) >>= fun v201 => pure v201))))))
theorem c_closed (table : List (List Nat)) (names : List Nat) (pairs : List (Nat × Nat)) : Is (eTu natD) (f_closed [(eTu (eTu natD)) table, (eTu natD) names, (eLi (eP natD natD)) pairs]) (g_closed table names pairs) :=
 is_runN (L := 12) (b := b_closed) (ρ := [.fz ((eTu (eTu natD)) table), .fz ((eTu natD) names), .fz ((eLi (eP natD natD)) pairs), .no, .no, .no, .no, .no, .no, .no, .no, .no]) rfl
 (j_setN (ea := natD) (ρ2 := fun size_2 => [.fz ((eTu (eTu natD)) table), .fz ((eTu natD) names), .fz ((eLi (eP natD natD)) pairs), .fz (natD size_2), .no, .no, .no, .no, .no, .no, .no, .no]) (fun _ => rfl) (y_c1 (o_lenT (ea := (eTu natD))) (y_v (ea := (eTu (eTu natD))) (a := table) rfl)) (fun size_2 => (j_ownN (ea := (eP natD natD)) (ρ2 := fun row_4 => [.fz ((eTu (eTu natD)) table), .fz ((eTu natD) names), .fz ((eLi (eP natD natD)) pairs), .fz (natD size_2), .ow (List.map (eP natD natD) row_4), .no, .no, .no, .no, .no, .no, .no]) (fun _ => rfl) (yl_c1 (ol_listL (ea := (eP natD natD))) (y_v (ea := (eLi (eP natD natD))) (a := pairs) rfl)) (show 4 < 12 by omega) (fun row_4 => (j_forN (ea := natD) (R := (fun (s5 : (List (Nat × Nat))) (ρ : Mi.Env) => ∃ j6 : Sl, ρ = [.fz ((eTu (eTu natD)) table), .fz ((eTu natD) names), .fz ((eLi (eP natD natD)) pairs), .fz (natD size_2), .ow (List.map (eP natD natD) s5), j6, .no, .no, .no, .no, .no, .no])) (s0 := row_4) (i_r1 (y_v (ea := natD) (a := size_2) rfl)) ⟨_, rfl⟩ (fun thing_10 s8 ρ h => by
 obtain ⟨j9, rfl⟩ := h
 exact ⟨_, rfl, (j_end (j_app (ea := (eP natD natD)) (xs := s8) rfl (y_p2 (ea := natD) (eb := natD) (y_v (ea := natD) (a := thing_10) rfl) (y_2 (o_ixTN (ea := natD)) (y_v (ea := (eTu natD)) (a := names) rfl) (y_v (ea := natD) (a := thing_10) rfl))) (fun a17 => (j_nx ⟨rfl, ⟨_, rfl⟩⟩))))⟩) (fun s18 ρ h => by
 obtain ⟨j19, rfl⟩ := h
 exact (j_setN (ea := (eLi natD)) (ρ2 := fun found_21 => [.fz ((eTu (eTu natD)) table), .fz ((eTu natD) names), .fz ((eLi (eP natD natD)) pairs), .fz (natD size_2), .ow (List.map (eP natD natD) s18), j19, .fz ((eLi natD) found_21), .no, .no, .no, .no, .no]) (fun _ => rfl) (y_eL (yl_rg1 (y_v (ea := natD) (a := size_2) rfl))) (fun found_21 => (j_whN (R := (fun (s22 : (List (Nat × Nat)) × (List Nat)) (ρ : Mi.Env) => ∃ j23 j24 j25 j26 j27 : Sl, ρ = [.fz ((eTu (eTu natD)) table), .fz ((eTu natD) names), .fz ((eLi (eP natD natD)) pairs), .fz (natD size_2), .ow (List.map (eP natD natD) s22.1), j23, .fz ((eLi natD) s22.2), j24, j25, j26, j27, .no])) (s0 := (s18, found_21)) ⟨_, _, _, _, _, rfl⟩ (fun s28 ρ h => by
 obtain ⟨j29, j30, j31, j32, j33, rfl⟩ := h
 exact (y_bBo (y_tT (tr_L (ea := (eP natD natD))) (y_v (ea := (eLi (eP natD natD))) (a := s28.1) rfl)))) (fun s35 ρ h => by
 obtain ⟨j36, j37, j38, j39, j40, rfl⟩ := h
 exact (j_pop (ea := (eP natD natD)) (xs := s35.1) rfl (fun p41 => rfl) (fun p41 => (j_setN (ea := natD) (ρ2 := fun low_52 => [.fz ((eTu (eTu natD)) table), .fz ((eTu natD) names), .fz ((eLi (eP natD natD)) pairs), .fz (natD size_2), .ow (List.map (eP natD natD) p41.2), j36, .fz ((eLi natD) s35.2), .fz (natD low_52), j38, .fz (natD p41.1.1), .fz (natD p41.1.2), .no]) (fun _ => rfl) (y_c2 o_minN (y_2 (o_ixLN (ea := natD)) (y_v (ea := (eLi natD)) (a := s35.2) rfl) (y_v (ea := natD) (a := p41.1.1) rfl)) (y_2 (o_ixLN (ea := natD)) (y_v (ea := (eLi natD)) (a := s35.2) rfl) (y_v (ea := natD) (a := p41.1.2) rfl))) (fun low_52 => (j_setN (ea := natD) (ρ2 := fun high_63 => [.fz ((eTu (eTu natD)) table), .fz ((eTu natD) names), .fz ((eLi (eP natD natD)) pairs), .fz (natD size_2), .ow (List.map (eP natD natD) p41.2), j36, .fz ((eLi natD) s35.2), .fz (natD low_52), .fz (natD high_63), .fz (natD p41.1.1), .fz (natD p41.1.2), .no]) (fun _ => rfl) (y_c2 o_maxN (y_2 (o_ixLN (ea := natD)) (y_v (ea := (eLi natD)) (a := s35.2) rfl) (y_v (ea := natD) (a := p41.1.1) rfl)) (y_2 (o_ixLN (ea := natD)) (y_v (ea := (eLi natD)) (a := s35.2) rfl) (y_v (ea := natD) (a := p41.1.2) rfl))) (fun high_63 => (j_if (y_tB (y_2 (o_ne enN (by decide)) (y_v (ea := natD) (a := low_52) rfl) (y_v (ea := natD) (a := high_63) rfl))) (j_setN (ea := (eLi natD)) (ρ2 := fun found_75 => [.fz ((eTu (eTu natD)) table), .fz ((eTu natD) names), .fz ((eLi (eP natD natD)) pairs), .fz (natD size_2), .ow (List.map (eP natD natD) p41.2), j36, .fz ((eLi natD) found_75), .fz (natD low_52), .fz (natD high_63), .fz (natD p41.1.1), .fz (natD p41.1.2), .no]) (fun _ => rfl) (y_eL (yl_map (ea := natD) (eb := natD) (i_L (ea := natD) (y_v (ea := (eLi natD)) (a := s35.2) rfl)) (fun name_67 => ⟨_, rfl, (y_eIf (ea := natD) (y_tB (y_2 (o_eq enN (by decide)) (y_v (ea := natD) (a := name_67) rfl) (y_v (ea := natD) (a := high_63) rfl))) (y_v (ea := natD) (a := low_52) rfl) (y_v (ea := natD) (a := name_67) rfl))⟩))) (fun found_75 => (j_end (j_forN (ea := natD) (R := (fun (s76 : (List (Nat × Nat))) (ρ : Mi.Env) => ∃ j77 : Sl, ρ = [.fz ((eTu (eTu natD)) table), .fz ((eTu natD) names), .fz ((eLi (eP natD natD)) pairs), .fz (natD size_2), .ow (List.map (eP natD natD) s76), j77, .fz ((eLi natD) found_75), .fz (natD low_52), .fz (natD high_63), .fz (natD p41.1.1), .fz (natD p41.1.2), .no])) (s0 := p41.2) (i_r1 (y_v (ea := natD) (a := size_2) rfl)) ⟨_, rfl⟩ (fun thing_81 s79 ρ h => by
 obtain ⟨j80, rfl⟩ := h
 exact ⟨_, rfl, (j_end (j_ext (ea := (eP natD natD)) (xs := s79) rfl (y_eL (yl_lit (ea := (eP natD natD)) (v_cons (y_p2 (ea := natD) (eb := natD) (y_2 (o_ixTN (ea := natD)) (y_2 (o_ixTN (ea := (eTu natD))) (y_v (ea := (eTu (eTu natD))) (a := table) rfl) (y_v (ea := natD) (a := p41.1.1) rfl)) (y_v (ea := natD) (a := thing_81) rfl)) (y_2 (o_ixTN (ea := natD)) (y_2 (o_ixTN (ea := (eTu natD))) (y_v (ea := (eTu (eTu natD))) (a := table) rfl) (y_v (ea := natD) (a := p41.1.2) rfl)) (y_v (ea := natD) (a := thing_81) rfl))) (v_cons (y_p2 (ea := natD) (eb := natD) (y_2 (o_ixTN (ea := natD)) (y_2 (o_ixTN (ea := (eTu natD))) (y_v (ea := (eTu (eTu natD))) (a := table) rfl) (y_v (ea := natD) (a := thing_81) rfl)) (y_v (ea := natD) (a := p41.1.1) rfl)) (y_2 (o_ixTN (ea := natD)) (y_2 (o_ixTN (ea := (eTu natD))) (y_v (ea := (eTu (eTu natD))) (a := table) rfl) (y_v (ea := natD) (a := thing_81) rfl)) (y_v (ea := natD) (a := p41.1.2) rfl))) (v_nil (ea := (eP natD natD))))) (by decide))) (fun ys190 => (j_nx ⟨rfl, ⟨_, rfl⟩⟩))))⟩) (fun s191 ρ h => by
 obtain ⟨j192, rfl⟩ := h
 exact (j_nx ⟨rfl, ⟨_, _, _, _, _, rfl⟩⟩)))))) (j_nx ⟨rfl, ⟨_, _, _, _, _, rfl⟩⟩))))))))) (fun s194 ρ h => by
 obtain ⟨j195, j196, j197, j198, j199, rfl⟩ := h
 exact (j_ret (b := fun v => v) (y_c1 (o_tupL (ea := natD)) (y_v (ea := (eLi natD)) (a := s194.2) rfl)) (fun _ => .inl rfl))))))))))))
def g_closed_2 (table : List (List Nat)) (names : List Nat) (pairs : List (Nat × Nat)) : M (List Nat) :=
 (((pure table) >>= fun a1 => pure (List.length a1)) >>= fun size_2 => (((pure pairs) >>= fun a3 => pure a3) >>= fun row_4 => (((pure size_2) >>= fun a7 => iterM a7) >>= fun xs202 => forN xs202 row_4 (fun (thing_10 : Nat) (s8 : (List (Nat × Nat))) => (((pure thing_10) >>= fun a15 => ((pure names) >>= fun a13 => (pure thing_10) >>= fun a14 => ixN a13 a14) >>= fun a16 => pure (a15, a16)) >>= fun a17 => room (List.length s8 + 1) >>= fun _ => (pure ((s8 ++ [a17]))))) >>= fun s18 => (((pure size_2) >>= fun a20 => rgM a20) >>= fun found_21 => (whN (fun (s28 : (List (Nat × Nat)) × (List Nat)) => ((pure s28.1) >>= fun a34 => pure (!List.isEmpty a34))) (fun (s35 : (List (Nat × Nat)) × (List Nat)) => (popM s35.1 >>= fun p41 => ((((pure s35.2) >>= fun a46 => (pure p41.1.1) >>= fun a47 => ixN a46 a47) >>= fun a50 => ((pure s35.2) >>= fun a48 => (pure p41.1.2) >>= fun a49 => ixN a48 a49) >>= fun a51 => pure (min a50 a51)) >>= fun low_52 => ((((pure s35.2) >>= fun a57 => (pure p41.1.1) >>= fun a58 => ixN a57 a58) >>= fun a61 => ((pure s35.2) >>= fun a59 => (pure p41.1.2) >>= fun a60 => ixN a59 a60) >>= fun a62 => pure (max a61 a62)) >>= fun high_63 => (((pure low_52) >>= fun a64 => (pure high_63) >>= fun a65 => pure (!decide (a64 = a65))) >>= fun k66 => if k66 = true then (((pure s35.2) >>= fun xs74 => mapMM (fun name_67 : Nat => (((pure name_67) >>= fun a71 => (pure high_63) >>= fun a72 => pure (decide (a71 = a72))) >>= fun a73 => if a73 = true then (pure low_52) else (pure name_67))) xs74) >>= fun found_75 => (((pure size_2) >>= fun a78 => iterM a78) >>= fun xs193 => forN xs193 p41.2 (fun (thing_81 : Nat) (s79 : (List (Nat × Nat))) => ((((((pure table) >>= fun a148 => (pure p41.1.1) >>= fun a149 => ixN a148 a149) >>= fun a150 => (pure thing_81) >>= fun a151 => ixN a150 a151) >>= fun a158 => (((pure table) >>= fun a154 => (pure p41.1.2) >>= fun a155 => ixN a154 a155) >>= fun a156 => (pure thing_81) >>= fun a157 => ixN a156 a157) >>= fun a159 => pure (a158, a159)) >>= fun a188 => (((((pure table) >>= fun a174 => (pure thing_81) >>= fun a175 => ixN a174 a175) >>= fun a176 => (pure p41.1.1) >>= fun a177 => ixN a176 a177) >>= fun a184 => (((pure table) >>= fun a180 => (pure thing_81) >>= fun a181 => ixN a180 a181) >>= fun a182 => (pure p41.1.2) >>= fun a183 => ixN a182 a183) >>= fun a185 => pure (a184, a185)) >>= fun a186 => (pure ([] : List (Nat × Nat))) >>= fun a187 => pure (a186 :: a187)) >>= fun a189 => pure (a188 :: a189)) >>= fun ys190 => room (List.length s79 + List.length ys190) >>= fun _ => (pure ((s79 ++ ys190))))) >>= fun s191 => (pure (s191, found_75)))) else (pure (p41.2, s35.2))))))) 4096 (s18, found_21) >>= fun s194 => (((pure s194.2) >>= fun a200 => pure a200) >>= fun v201 => pure v201))))))
theorem c_closed_2 (table : List (List Nat)) (names : List Nat) (pairs : List (Nat × Nat)) : Is (eTu natD) (f_closed [(eTu (eTu natD)) table, (eLi natD) names, (eLi (eP natD natD)) pairs]) (g_closed_2 table names pairs) :=
 is_runN (L := 12) (b := b_closed) (ρ := [.fz ((eTu (eTu natD)) table), .fz ((eLi natD) names), .fz ((eLi (eP natD natD)) pairs), .no, .no, .no, .no, .no, .no, .no, .no, .no]) rfl
 (j_setN (ea := natD) (ρ2 := fun size_2 => [.fz ((eTu (eTu natD)) table), .fz ((eLi natD) names), .fz ((eLi (eP natD natD)) pairs), .fz (natD size_2), .no, .no, .no, .no, .no, .no, .no, .no]) (fun _ => rfl) (y_c1 (o_lenT (ea := (eTu natD))) (y_v (ea := (eTu (eTu natD))) (a := table) rfl)) (fun size_2 => (j_ownN (ea := (eP natD natD)) (ρ2 := fun row_4 => [.fz ((eTu (eTu natD)) table), .fz ((eLi natD) names), .fz ((eLi (eP natD natD)) pairs), .fz (natD size_2), .ow (List.map (eP natD natD) row_4), .no, .no, .no, .no, .no, .no, .no]) (fun _ => rfl) (yl_c1 (ol_listL (ea := (eP natD natD))) (y_v (ea := (eLi (eP natD natD))) (a := pairs) rfl)) (show 4 < 12 by omega) (fun row_4 => (j_forN (ea := natD) (R := (fun (s5 : (List (Nat × Nat))) (ρ : Mi.Env) => ∃ j6 : Sl, ρ = [.fz ((eTu (eTu natD)) table), .fz ((eLi natD) names), .fz ((eLi (eP natD natD)) pairs), .fz (natD size_2), .ow (List.map (eP natD natD) s5), j6, .no, .no, .no, .no, .no, .no])) (s0 := row_4) (i_r1 (y_v (ea := natD) (a := size_2) rfl)) ⟨_, rfl⟩ (fun thing_10 s8 ρ h => by
 obtain ⟨j9, rfl⟩ := h
 exact ⟨_, rfl, (j_end (j_app (ea := (eP natD natD)) (xs := s8) rfl (y_p2 (ea := natD) (eb := natD) (y_v (ea := natD) (a := thing_10) rfl) (y_2 (o_ixLN (ea := natD)) (y_v (ea := (eLi natD)) (a := names) rfl) (y_v (ea := natD) (a := thing_10) rfl))) (fun a17 => (j_nx ⟨rfl, ⟨_, rfl⟩⟩))))⟩) (fun s18 ρ h => by
 obtain ⟨j19, rfl⟩ := h
 exact (j_setN (ea := (eLi natD)) (ρ2 := fun found_21 => [.fz ((eTu (eTu natD)) table), .fz ((eLi natD) names), .fz ((eLi (eP natD natD)) pairs), .fz (natD size_2), .ow (List.map (eP natD natD) s18), j19, .fz ((eLi natD) found_21), .no, .no, .no, .no, .no]) (fun _ => rfl) (y_eL (yl_rg1 (y_v (ea := natD) (a := size_2) rfl))) (fun found_21 => (j_whN (R := (fun (s22 : (List (Nat × Nat)) × (List Nat)) (ρ : Mi.Env) => ∃ j23 j24 j25 j26 j27 : Sl, ρ = [.fz ((eTu (eTu natD)) table), .fz ((eLi natD) names), .fz ((eLi (eP natD natD)) pairs), .fz (natD size_2), .ow (List.map (eP natD natD) s22.1), j23, .fz ((eLi natD) s22.2), j24, j25, j26, j27, .no])) (s0 := (s18, found_21)) ⟨_, _, _, _, _, rfl⟩ (fun s28 ρ h => by
 obtain ⟨j29, j30, j31, j32, j33, rfl⟩ := h
 exact (y_bBo (y_tT (tr_L (ea := (eP natD natD))) (y_v (ea := (eLi (eP natD natD))) (a := s28.1) rfl)))) (fun s35 ρ h => by
 obtain ⟨j36, j37, j38, j39, j40, rfl⟩ := h
 exact (j_pop (ea := (eP natD natD)) (xs := s35.1) rfl (fun p41 => rfl) (fun p41 => (j_setN (ea := natD) (ρ2 := fun low_52 => [.fz ((eTu (eTu natD)) table), .fz ((eLi natD) names), .fz ((eLi (eP natD natD)) pairs), .fz (natD size_2), .ow (List.map (eP natD natD) p41.2), j36, .fz ((eLi natD) s35.2), .fz (natD low_52), j38, .fz (natD p41.1.1), .fz (natD p41.1.2), .no]) (fun _ => rfl) (y_c2 o_minN (y_2 (o_ixLN (ea := natD)) (y_v (ea := (eLi natD)) (a := s35.2) rfl) (y_v (ea := natD) (a := p41.1.1) rfl)) (y_2 (o_ixLN (ea := natD)) (y_v (ea := (eLi natD)) (a := s35.2) rfl) (y_v (ea := natD) (a := p41.1.2) rfl))) (fun low_52 => (j_setN (ea := natD) (ρ2 := fun high_63 => [.fz ((eTu (eTu natD)) table), .fz ((eLi natD) names), .fz ((eLi (eP natD natD)) pairs), .fz (natD size_2), .ow (List.map (eP natD natD) p41.2), j36, .fz ((eLi natD) s35.2), .fz (natD low_52), .fz (natD high_63), .fz (natD p41.1.1), .fz (natD p41.1.2), .no]) (fun _ => rfl) (y_c2 o_maxN (y_2 (o_ixLN (ea := natD)) (y_v (ea := (eLi natD)) (a := s35.2) rfl) (y_v (ea := natD) (a := p41.1.1) rfl)) (y_2 (o_ixLN (ea := natD)) (y_v (ea := (eLi natD)) (a := s35.2) rfl) (y_v (ea := natD) (a := p41.1.2) rfl))) (fun high_63 => (j_if (y_tB (y_2 (o_ne enN (by decide)) (y_v (ea := natD) (a := low_52) rfl) (y_v (ea := natD) (a := high_63) rfl))) (j_setN (ea := (eLi natD)) (ρ2 := fun found_75 => [.fz ((eTu (eTu natD)) table), .fz ((eLi natD) names), .fz ((eLi (eP natD natD)) pairs), .fz (natD size_2), .ow (List.map (eP natD natD) p41.2), j36, .fz ((eLi natD) found_75), .fz (natD low_52), .fz (natD high_63), .fz (natD p41.1.1), .fz (natD p41.1.2), .no]) (fun _ => rfl) (y_eL (yl_map (ea := natD) (eb := natD) (i_L (ea := natD) (y_v (ea := (eLi natD)) (a := s35.2) rfl)) (fun name_67 => ⟨_, rfl, (y_eIf (ea := natD) (y_tB (y_2 (o_eq enN (by decide)) (y_v (ea := natD) (a := name_67) rfl) (y_v (ea := natD) (a := high_63) rfl))) (y_v (ea := natD) (a := low_52) rfl) (y_v (ea := natD) (a := name_67) rfl))⟩))) (fun found_75 => (j_end (j_forN (ea := natD) (R := (fun (s76 : (List (Nat × Nat))) (ρ : Mi.Env) => ∃ j77 : Sl, ρ = [.fz ((eTu (eTu natD)) table), .fz ((eLi natD) names), .fz ((eLi (eP natD natD)) pairs), .fz (natD size_2), .ow (List.map (eP natD natD) s76), j77, .fz ((eLi natD) found_75), .fz (natD low_52), .fz (natD high_63), .fz (natD p41.1.1), .fz (natD p41.1.2), .no])) (s0 := p41.2) (i_r1 (y_v (ea := natD) (a := size_2) rfl)) ⟨_, rfl⟩ (fun thing_81 s79 ρ h => by
 obtain ⟨j80, rfl⟩ := h
 exact ⟨_, rfl, (j_end (j_ext (ea := (eP natD natD)) (xs := s79) rfl (y_eL (yl_lit (ea := (eP natD natD)) (v_cons (y_p2 (ea := natD) (eb := natD) (y_2 (o_ixTN (ea := natD)) (y_2 (o_ixTN (ea := (eTu natD))) (y_v (ea := (eTu (eTu natD))) (a := table) rfl) (y_v (ea := natD) (a := p41.1.1) rfl)) (y_v (ea := natD) (a := thing_81) rfl)) (y_2 (o_ixTN (ea := natD)) (y_2 (o_ixTN (ea := (eTu natD))) (y_v (ea := (eTu (eTu natD))) (a := table) rfl) (y_v (ea := natD) (a := p41.1.2) rfl)) (y_v (ea := natD) (a := thing_81) rfl))) (v_cons (y_p2 (ea := natD) (eb := natD) (y_2 (o_ixTN (ea := natD)) (y_2 (o_ixTN (ea := (eTu natD))) (y_v (ea := (eTu (eTu natD))) (a := table) rfl) (y_v (ea := natD) (a := thing_81) rfl)) (y_v (ea := natD) (a := p41.1.1) rfl)) (y_2 (o_ixTN (ea := natD)) (y_2 (o_ixTN (ea := (eTu natD))) (y_v (ea := (eTu (eTu natD))) (a := table) rfl) (y_v (ea := natD) (a := thing_81) rfl)) (y_v (ea := natD) (a := p41.1.2) rfl))) (v_nil (ea := (eP natD natD))))) (by decide))) (fun ys190 => (j_nx ⟨rfl, ⟨_, rfl⟩⟩))))⟩) (fun s191 ρ h => by
 obtain ⟨j192, rfl⟩ := h
 exact (j_nx ⟨rfl, ⟨_, _, _, _, _, rfl⟩⟩)))))) (j_nx ⟨rfl, ⟨_, _, _, _, _, rfl⟩⟩))))))))) (fun s194 ρ h => by
 obtain ⟨j195, j196, j197, j198, j199, rfl⟩ := h
 exact (j_ret (b := fun v => v) (y_c1 (o_tupL (ea := natD)) (y_v (ea := (eLi natD)) (a := s194.2) rfl)) (fun _ => .inl rfl))))))))))))
def g_both_joined (table : List (List Nat)) (one : List Nat) (other : List Nat) : M (List Nat) :=
 (((pure table) >>= fun a1 => (pure one) >>= fun a2 => g_look_parting a1 a2) >>= fun _ => (((pure table) >>= fun a3 => (pure other) >>= fun a4 => g_look_parting a3 a4) >>= fun _ => (((pure table) >>= fun a37 => (pure one) >>= fun a38 => ((((pure table) >>= fun a21 => pure (List.length a21)) >>= fun a22 => iterM a22) >>= fun xs36 => mapMM (fun thing_23 : Nat => ((pure thing_23) >>= fun a34 => ((pure other) >>= fun a32 => (pure thing_23) >>= fun a33 => ixN a32 a33) >>= fun a35 => pure (a34, a35))) xs36) >>= fun a39 => g_closed a37 a38 a39) >>= fun v40 => pure v40)))
theorem c_both_joined (table : List (List Nat)) (one : List Nat) (other : List Nat) : Is (eTu natD) (f_both_joined [(eTu (eTu natD)) table, (eTu natD) one, (eTu natD) other]) (g_both_joined table one other) :=
 is_runN (L := 4) (b := b_both_joined) (ρ := [.fz ((eTu (eTu natD)) table), .fz ((eTu natD) one), .fz ((eTu natD) other), .no]) rfl
 (j_drop (ea := eU) (y_f2 (fun a1 a2 => c_look_parting a1 a2) (y_v (ea := (eTu (eTu natD))) (a := table) rfl) (y_v (ea := (eTu natD)) (a := one) rfl)) (fun _ => (j_drop (ea := eU) (y_f2 (fun a3 a4 => c_look_parting a3 a4) (y_v (ea := (eTu (eTu natD))) (a := table) rfl) (y_v (ea := (eTu natD)) (a := other) rfl)) (fun _ => (j_ret (b := fun v => v) (y_f3 (fun a37 a38 a39 => c_closed a37 a38 a39) (y_v (ea := (eTu (eTu natD))) (a := table) rfl) (y_v (ea := (eTu natD)) (a := one) rfl) (y_eL (yl_map (ea := natD) (eb := (eP natD natD)) (i_r1 (y_c1 (o_lenT (ea := (eTu natD))) (y_v (ea := (eTu (eTu natD))) (a := table) rfl))) (fun thing_23 => ⟨_, rfl, (y_p2 (ea := natD) (eb := natD) (y_v (ea := natD) (a := thing_23) rfl) (y_2 (o_ixTN (ea := natD)) (y_v (ea := (eTu natD)) (a := other) rfl) (y_v (ea := natD) (a := thing_23) rfl)))⟩)))) (fun _ => .inl rfl))))))
def g_parted_table (table : List (List Nat)) (parting : List Nat) : M (List (List Nat)) :=
 (((((pure table) >>= fun a3 => (pure parting) >>= fun a4 => g_is_kept a3 a4) >>= fun a5 => pure a5) >>= fun a6 => pure (!a6)) >>= fun k7 => if k7 = true then (refuse "BadParting") else (((pure parting) >>= fun a8 => srtN a8) >>= fun least_9 => ((((pure least_9) >>= fun xs513 => mapMM (fun one_262 : Nat => (((pure least_9) >>= fun xs511 => mapMM (fun other_450 : Nat => ((pure least_9) >>= fun a509 => ((pure parting) >>= fun a507 => (((pure table) >>= fun a503 => (pure one_262) >>= fun a504 => ixN a503 a504) >>= fun a505 => (pure other_450) >>= fun a506 => ixN a505 a506) >>= fun a508 => ixN a507 a508) >>= fun a510 => idxM a509 a510)) xs511) >>= fun a512 => pure a512)) xs513) >>= fun a514 => pure a514) >>= fun v515 => pure v515)))
theorem c_parted_table (table : List (List Nat)) (parting : List Nat) : Is (eTu (eTu natD)) (f_parted_table [(eTu (eTu natD)) table, (eTu natD) parting]) (g_parted_table table parting) :=
 is_runN (L := 5) (b := b_parted_table) (ρ := [.fz ((eTu (eTu natD)) table), .fz ((eTu natD) parting), .no, .no, .no]) rfl
 (j_ifP (y_bNot (y_tT tr_B (y_f2 (fun a3 a4 => c_is_kept a3 a4) (y_v (ea := (eTu (eTu natD))) (a := table) rfl) (y_v (ea := (eTu natD)) (a := parting) rfl)))) j_raiseP (j_nxP (j_setN (ea := (eLi natD)) (ρ2 := fun least_9 => [.fz ((eTu (eTu natD)) table), .fz ((eTu natD) parting), .fz ((eLi natD) least_9), .no, .no]) (fun _ => rfl) (y_eL (yl_srtN seqN_T (y_v (ea := (eTu natD)) (a := parting) rfl))) (fun least_9 => (j_ret (b := fun v => v) (y_c1 (o_tupL (ea := (eTu natD))) (y_eL (yl_map (ea := natD) (eb := (eTu natD)) (i_L (ea := natD) (y_v (ea := (eLi natD)) (a := least_9) rfl)) (fun one_262 => ⟨_, rfl, (y_c1 (o_tupL (ea := natD)) (y_eL (yl_map (ea := natD) (eb := natD) (i_L (ea := natD) (y_v (ea := (eLi natD)) (a := least_9) rfl)) (fun other_450 => ⟨_, rfl, (y_idx enN (by decide) (y_v (ea := (eLi natD)) (a := least_9) rfl) (y_2 (o_ixTN (ea := natD)) (y_v (ea := (eTu natD)) (a := parting) rfl) (y_2 (o_ixTN (ea := natD)) (y_2 (o_ixTN (ea := (eTu natD))) (y_v (ea := (eTu (eTu natD))) (a := table) rfl) (y_v (ea := natD) (a := one_262) rfl)) (y_v (ea := natD) (a := other_450) rfl))))⟩))))⟩)))) (fun _ => .inl rfl))))))
def g_parted_table_2 (table : List (List Nat)) (parting : List Int) : M (List (List Nat)) :=
 (((((pure table) >>= fun a3 => (pure parting) >>= fun a4 => g_is_kept_2 a3 a4) >>= fun a5 => pure a5) >>= fun a6 => pure (!a6)) >>= fun k7 => if k7 = true then (refuse "BadParting") else (((pure parting) >>= fun a8 => srtI a8) >>= fun least_9 => ((((pure least_9) >>= fun xs513 => mapMM (fun one_262 : Int => (((pure least_9) >>= fun xs511 => mapMM (fun other_450 : Int => ((pure least_9) >>= fun a509 => ((pure parting) >>= fun a507 => (((pure table) >>= fun a503 => (pure one_262) >>= fun a504 => ixI a503 a504) >>= fun a505 => (pure other_450) >>= fun a506 => ixI a505 a506) >>= fun a508 => ixN a507 a508) >>= fun a510 => idxM a509 a510)) xs511) >>= fun a512 => pure a512)) xs513) >>= fun a514 => pure a514) >>= fun v515 => pure v515)))
theorem c_parted_table_2 (table : List (List Nat)) (parting : List Int) : Is (eTu (eTu natD)) (f_parted_table [(eTu (eTu natD)) table, (eTu eI) parting]) (g_parted_table_2 table parting) :=
 is_runN (L := 5) (b := b_parted_table) (ρ := [.fz ((eTu (eTu natD)) table), .fz ((eTu eI) parting), .no, .no, .no]) rfl
 (j_ifP (y_bNot (y_tT tr_B (y_f2 (fun a3 a4 => c_is_kept_2 a3 a4) (y_v (ea := (eTu (eTu natD))) (a := table) rfl) (y_v (ea := (eTu eI)) (a := parting) rfl)))) j_raiseP (j_nxP (j_setN (ea := (eLi eI)) (ρ2 := fun least_9 => [.fz ((eTu (eTu natD)) table), .fz ((eTu eI) parting), .fz ((eLi eI) least_9), .no, .no]) (fun _ => rfl) (y_eL (yl_srtI seqI_T (y_v (ea := (eTu eI)) (a := parting) rfl))) (fun least_9 => (j_ret (b := fun v => v) (y_c1 (o_tupL (ea := (eTu natD))) (y_eL (yl_map (ea := eI) (eb := (eTu natD)) (i_L (ea := eI) (y_v (ea := (eLi eI)) (a := least_9) rfl)) (fun one_262 => ⟨_, rfl, (y_c1 (o_tupL (ea := natD)) (y_eL (yl_map (ea := eI) (eb := natD) (i_L (ea := eI) (y_v (ea := (eLi eI)) (a := least_9) rfl)) (fun other_450 => ⟨_, rfl, (y_idx enI (by decide) (y_v (ea := (eLi eI)) (a := least_9) rfl) (y_2 (o_ixTN (ea := eI)) (y_v (ea := (eTu eI)) (a := parting) rfl) (y_2 (o_ixTI (ea := natD)) (y_2 (o_ixTI (ea := (eTu natD))) (y_v (ea := (eTu (eTu natD))) (a := table) rfl) (y_v (ea := eI) (a := one_262) rfl)) (y_v (ea := eI) (a := other_450) rfl))))⟩))))⟩)))) (fun _ => .inl rfl))))))
def g_partings (size : Nat) : M (List (List Nat)) :=
 (((pure ([] : List Nat)) >>= fun a1 => (pure ([] : List (List Nat))) >>= fun a2 => pure (a1 :: a2)) >>= fun found_3 => (((pure size) >>= fun a8 => iterM a8) >>= fun xs93 => forN xs93 found_3 (fun (thing_13 : Nat) (s9 : (List (List Nat))) => ((pure ([] : List (List Nat))) >>= fun longer_14 => ((pure s9) >>= fun xs86 => forN xs86 longer_14 (fun (parting_19 : List Nat) (s17 : (List (List Nat))) => (((((pure parting_19) >>= fun a51 => srtN a51) >>= fun xs65 => mapMM (fun least_52 : Nat => ((pure parting_19) >>= fun a63 => ((pure least_52) >>= fun a61 => (pure ([] : List Nat)) >>= fun a62 => pure (a61 :: a62)) >>= fun a64 => catM a63 a64)) xs65) >>= fun a80 => (((pure parting_19) >>= fun a76 => ((pure thing_13) >>= fun a74 => (pure ([] : List Nat)) >>= fun a75 => pure (a74 :: a75)) >>= fun a77 => catM a76 a77) >>= fun a78 => (pure ([] : List (List Nat))) >>= fun a79 => pure (a78 :: a79)) >>= fun a81 => catM a80 a81) >>= fun ys82 => room (List.length s17 + List.length ys82) >>= fun _ => (pure ((s17 ++ ys82))))) >>= fun s83 => ((pure s83) >>= fun found_85 => (pure found_85))))) >>= fun s87 => (((pure s87) >>= fun a91 => sortM (eTu natD) a91) >>= fun v92 => pure v92)))
theorem c_partings (size : Nat) : Is (eLi (eTu natD)) (f_partings [natD size]) (g_partings size) :=
 is_runN (L := 6) (b := b_partings) (ρ := [.fz (natD size), .no, .no, .no, .no, .no]) rfl
 (j_setN (ea := (eLi (eTu natD))) (ρ2 := fun found_3 => [.fz (natD size), .fz ((eLi (eTu natD)) found_3), .no, .no, .no, .no]) (fun _ => rfl) (y_eL (yl_lit (ea := (eTu natD)) (v_cons (y_tlit (ea := natD) (v_nil (ea := natD)) (by decide)) (v_nil (ea := (eTu natD)))) (by decide))) (fun found_3 => (j_forN (ea := natD) (R := (fun (s4 : (List (List Nat))) (ρ : Mi.Env) => ∃ j5 j6 j7 : Sl, ρ = [.fz (natD size), .fz ((eLi (eTu natD)) s4), j5, j6, j7, .no])) (s0 := found_3) (i_r1 (y_v (ea := natD) (a := size) rfl)) ⟨_, _, _, rfl⟩ (fun thing_13 s9 ρ h => by
 obtain ⟨j10, j11, j12, rfl⟩ := h
 exact ⟨_, rfl, (j_ownN (ea := (eTu natD)) (ρ2 := fun longer_14 => [.fz (natD size), .fz ((eLi (eTu natD)) s9), .fz (natD thing_13), .ow (List.map (eTu natD) longer_14), j12, .no]) (fun _ => rfl) (yl_lit (ea := (eTu natD)) (v_nil (ea := (eTu natD))) (by decide)) (show 3 < 6 by omega) (fun longer_14 => (j_forN (ea := (eTu natD)) (R := (fun (s15 : (List (List Nat))) (ρ : Mi.Env) => ∃ j16 : Sl, ρ = [.fz (natD size), .fz ((eLi (eTu natD)) s9), .fz (natD thing_13), .ow (List.map (eTu natD) s15), j16, .no])) (s0 := longer_14) (i_L (ea := (eTu natD)) (y_v (ea := (eLi (eTu natD))) (a := s9) rfl)) ⟨_, rfl⟩ (fun parting_19 s17 ρ h => by
 obtain ⟨j18, rfl⟩ := h
 exact ⟨_, rfl, (j_end (j_ext (ea := (eTu natD)) (xs := s17) rfl (y_2 (o_addL (ea := (eTu natD))) (y_eL (yl_map (ea := natD) (eb := (eTu natD)) (i_L (ea := natD) (y_eL (yl_srtN seqN_T (y_v (ea := (eTu natD)) (a := parting_19) rfl)))) (fun least_52 => ⟨_, rfl, (y_2 (o_addT (ea := natD)) (y_v (ea := (eTu natD)) (a := parting_19) rfl) (y_tlit (ea := natD) (v_cons (y_v (ea := natD) (a := least_52) rfl) (v_nil (ea := natD))) (by decide)))⟩))) (y_eL (yl_lit (ea := (eTu natD)) (v_cons (y_2 (o_addT (ea := natD)) (y_v (ea := (eTu natD)) (a := parting_19) rfl) (y_tlit (ea := natD) (v_cons (y_v (ea := natD) (a := thing_13) rfl) (v_nil (ea := natD))) (by decide))) (v_nil (ea := (eTu natD)))) (by decide)))) (fun ys82 => (j_nx ⟨rfl, ⟨_, rfl⟩⟩))))⟩) (fun s83 ρ h => by
 obtain ⟨j84, rfl⟩ := h
 exact (j_fz (j_end (j_setN (ea := (eLi (eTu natD))) (ρ2 := fun found_85 => [.fz (natD size), .fz ((eLi (eTu natD)) found_85), .fz (natD thing_13), .fz ((eLi (eTu natD)) s83), j84, .no]) (fun _ => rfl) (y_v (ea := (eLi (eTu natD))) (a := s83) rfl) (fun found_85 => (j_nx ⟨rfl, ⟨_, _, _, rfl⟩⟩)))))))))⟩) (fun s87 ρ h => by
 obtain ⟨j88, j89, j90, rfl⟩ := h
 exact (j_ret (b := fun v => v) (y_eL (yl_c1 (ol_sort (ea := (eTu natD))) (y_v (ea := (eLi (eTu natD))) (a := s87) rfl))) (fun _ => .inl rfl))))))
def g_kept_ones (table : List (List Nat)) : M (List (List Nat)) :=
 (((pure table) >>= fun a1 => g_look_table a1) >>= fun _ => (((((pure table) >>= fun a6 => pure (List.length a6)) >>= fun a7 => g_partings a7) >>= fun xs14 => compM (fun parting_8 : List Nat => (((pure table) >>= fun a11 => (pure parting_8) >>= fun a12 => g_does_keep a11 a12) >>= fun a13 => pure a13)) (fun parting_8 : List Nat => (pure parting_8)) xs14) >>= fun v15 => pure v15))
theorem c_kept_ones (table : List (List Nat)) : Is (eLi (eTu natD)) (f_kept_ones [(eTu (eTu natD)) table]) (g_kept_ones table) :=
 is_runN (L := 2) (b := b_kept_ones) (ρ := [.fz ((eTu (eTu natD)) table), .no]) rfl
 (j_drop (ea := eU) (y_f1 (fun a1 => c_look_table a1) (y_v (ea := (eTu (eTu natD))) (a := table) rfl)) (fun _ => (j_ret (b := fun v => v) (y_eL (yl_comp (ea := (eTu natD)) (eb := (eTu natD)) (i_L (ea := (eTu natD)) (y_f1 (fun a7 => c_partings a7) (y_c1 (o_lenT (ea := (eTu natD))) (y_v (ea := (eTu (eTu natD))) (a := table) rfl)))) (fun parting_8 => ⟨_, rfl, (y_tT tr_B (y_f2 (fun a11 a12 => c_does_keep a11 a12) (y_v (ea := (eTu (eTu natD))) (a := table) rfl) (y_v (ea := (eTu natD)) (a := parting_8) rfl))), (y_v (ea := (eTu natD)) (a := parting_8) rfl)⟩))) (fun _ => .inl rfl))))
def g_law_keeps (table_here : List (List Nat)) (parting : List Nat) : M Bool :=
 (((pure table_here) >>= fun a1 => pure (List.length a1)) >>= fun size_2 => (((pure size_2) >>= fun a8 => iterM a8) >>= fun xs256 => (forC xs256 () (fun (b_14 : Nat) (s9 : Unit) => ((((pure size_2) >>= fun a32 => iterM a32) >>= fun xs44 => compM (fun c_33 : Nat => (((pure parting) >>= fun a38 => (pure b_14) >>= fun a39 => ixN a38 a39) >>= fun a42 => ((pure parting) >>= fun a40 => (pure c_33) >>= fun a41 => ixN a40 a41) >>= fun a43 => pure (decide (a42 = a43)))) (fun c_33 : Nat => (pure c_33)) xs44) >>= fun xs247 => (forC xs247 () (fun (c_49 : Nat) (s45 : Unit) => (((pure size_2) >>= fun a53 => iterM a53) >>= fun xs240 => (forC xs240 () (fun (a_57 : Nat) (s54 : Unit) => ((((pure parting) >>= fun a98 => (((pure table_here) >>= fun a94 => (pure a_57) >>= fun a95 => ixN a94 a95) >>= fun a96 => (pure b_14) >>= fun a97 => ixN a96 a97) >>= fun a99 => ixN a98 a99) >>= fun a114 => ((pure parting) >>= fun a112 => (((pure table_here) >>= fun a108 => (pure b_14) >>= fun a109 => ixN a108 a109) >>= fun a110 => (pure a_57) >>= fun a111 => ixN a110 a111) >>= fun a113 => ixN a112 a113) >>= fun a115 => pure (a114, a115)) >>= fun first_116 => (((pure first_116) >>= fun a233 => (((pure parting) >>= fun a215 => (((pure table_here) >>= fun a211 => (pure a_57) >>= fun a212 => ixN a211 a212) >>= fun a213 => (pure c_49) >>= fun a214 => ixN a213 a214) >>= fun a216 => ixN a215 a216) >>= fun a231 => ((pure parting) >>= fun a229 => (((pure table_here) >>= fun a225 => (pure c_49) >>= fun a226 => ixN a225 a226) >>= fun a227 => (pure a_57) >>= fun a228 => ixN a227 a228) >>= fun a230 => ixN a229 a230) >>= fun a232 => pure (a231, a232)) >>= fun a234 => pure (!decide (a233 = a234))) >>= fun k235 => if k235 = true then ((pure false) >>= fun v236 => pure (Ctl.rt v236)) else (pure (Ctl.nx ()))))) : M (Ctl (Unit) Bool)) >>= fun c242 => c242.go (fun s237 => (pure (Ctl.nx ()))) (fun v241 => pure (Ctl.rt v241)))) : M (Ctl (Unit) Bool)) >>= fun c249 => c249.go (fun s243 => (pure (Ctl.nx ()))) (fun v248 => pure (Ctl.rt v248)))) : M (Ctl (Unit) Bool)) >>= fun c258 => c258.go (fun s250 => ((pure true) >>= fun v255 => pure v255)) (fun v257 => pure v257)))
theorem c_law_keeps (table_here : List (List Nat)) (parting : List Nat) : Is eB (f_law_keeps [(eTu (eTu natD)) table_here, (eTu natD) parting]) (g_law_keeps table_here parting) :=
 is_runN (L := 7) (b := b_law_keeps) (ρ := [.fz ((eTu (eTu natD)) table_here), .fz ((eTu natD) parting), .no, .no, .no, .no, .no]) rfl
 (j_setN (ea := natD) (ρ2 := fun size_2 => [.fz ((eTu (eTu natD)) table_here), .fz ((eTu natD) parting), .fz (natD size_2), .no, .no, .no, .no]) (fun _ => rfl) (y_c1 (o_lenT (ea := (eTu natD))) (y_v (ea := (eTu (eTu natD))) (a := table_here) rfl)) (fun size_2 => (j_forC (ea := natD) (R := (fun (s3 : Unit) (ρ : Mi.Env) => ∃ j4 j5 j6 j7 : Sl, ρ = [.fz ((eTu (eTu natD)) table_here), .fz ((eTu natD) parting), .fz (natD size_2), j4, j5, j6, j7])) (e := eB) (b := (fun v => v)) (s0 := ()) (i_r1 (y_v (ea := natD) (a := size_2) rfl)) ⟨_, _, _, _, rfl⟩ (fun b_14 s9 ρ h => by
 obtain ⟨j10, j11, j12, j13, rfl⟩ := h
 exact ⟨_, rfl, (j_end (j_forC (ea := natD) (R := (fun (s15 : Unit) (ρ : Mi.Env) => ∃ j16 j17 j18 : Sl, ρ = [.fz ((eTu (eTu natD)) table_here), .fz ((eTu natD) parting), .fz (natD size_2), .fz (natD b_14), j16, j17, j18])) (e := eB) (b := (fun v => Ctl.rt v)) (s0 := ()) (i_L (ea := natD) (y_eL (yl_comp (ea := natD) (eb := natD) (i_r1 (y_v (ea := natD) (a := size_2) rfl)) (fun c_33 => ⟨_, rfl, (y_tB (y_2 (o_eq enN (by decide)) (y_2 (o_ixTN (ea := natD)) (y_v (ea := (eTu natD)) (a := parting) rfl) (y_v (ea := natD) (a := b_14) rfl)) (y_2 (o_ixTN (ea := natD)) (y_v (ea := (eTu natD)) (a := parting) rfl) (y_v (ea := natD) (a := c_33) rfl)))), (y_v (ea := natD) (a := c_33) rfl)⟩)))) ⟨_, _, _, rfl⟩ (fun c_49 s45 ρ h => by
 obtain ⟨j46, j47, j48, rfl⟩ := h
 exact ⟨_, rfl, (j_end (j_forC (ea := natD) (R := (fun (s50 : Unit) (ρ : Mi.Env) => ∃ j51 j52 : Sl, ρ = [.fz ((eTu (eTu natD)) table_here), .fz ((eTu natD) parting), .fz (natD size_2), .fz (natD b_14), .fz (natD c_49), j51, j52])) (e := eB) (b := (fun v => Ctl.rt v)) (s0 := ()) (i_r1 (y_v (ea := natD) (a := size_2) rfl)) ⟨_, _, rfl⟩ (fun a_57 s54 ρ h => by
 obtain ⟨j55, j56, rfl⟩ := h
 exact ⟨_, rfl, (j_setN (ea := (eP natD natD)) (ρ2 := fun first_116 => [.fz ((eTu (eTu natD)) table_here), .fz ((eTu natD) parting), .fz (natD size_2), .fz (natD b_14), .fz (natD c_49), .fz (natD a_57), .fz ((eP natD natD) first_116)]) (fun _ => rfl) (y_p2 (ea := natD) (eb := natD) (y_2 (o_ixTN (ea := natD)) (y_v (ea := (eTu natD)) (a := parting) rfl) (y_2 (o_ixTN (ea := natD)) (y_2 (o_ixTN (ea := (eTu natD))) (y_v (ea := (eTu (eTu natD))) (a := table_here) rfl) (y_v (ea := natD) (a := a_57) rfl)) (y_v (ea := natD) (a := b_14) rfl))) (y_2 (o_ixTN (ea := natD)) (y_v (ea := (eTu natD)) (a := parting) rfl) (y_2 (o_ixTN (ea := natD)) (y_2 (o_ixTN (ea := (eTu natD))) (y_v (ea := (eTu (eTu natD))) (a := table_here) rfl) (y_v (ea := natD) (a := b_14) rfl)) (y_v (ea := natD) (a := a_57) rfl)))) (fun first_116 => (j_if (y_tB (y_2 (o_ne (enP enN enN) (by decide)) (y_v (ea := (eP natD natD)) (a := first_116) rfl) (y_p2 (ea := natD) (eb := natD) (y_2 (o_ixTN (ea := natD)) (y_v (ea := (eTu natD)) (a := parting) rfl) (y_2 (o_ixTN (ea := natD)) (y_2 (o_ixTN (ea := (eTu natD))) (y_v (ea := (eTu (eTu natD))) (a := table_here) rfl) (y_v (ea := natD) (a := a_57) rfl)) (y_v (ea := natD) (a := c_49) rfl))) (y_2 (o_ixTN (ea := natD)) (y_v (ea := (eTu natD)) (a := parting) rfl) (y_2 (o_ixTN (ea := natD)) (y_2 (o_ixTN (ea := (eTu natD))) (y_v (ea := (eTu (eTu natD))) (a := table_here) rfl) (y_v (ea := natD) (a := c_49) rfl)) (y_v (ea := natD) (a := a_57) rfl)))))) (j_ret (b := fun v => Ctl.rt v) (y_k (ea := eB) (a := false) rfl) (fun _ => rfl)) (j_nx ⟨rfl, ⟨_, _, rfl⟩⟩))))⟩) (fun s237 ρ h => by
 obtain ⟨j238, j239, rfl⟩ := h
 exact (j_nx ⟨rfl, ⟨_, _, _, rfl⟩⟩)) (fun _ _ => rfl)))⟩) (fun s243 ρ h => by
 obtain ⟨j244, j245, j246, rfl⟩ := h
 exact (j_nx ⟨rfl, ⟨_, _, _, _, rfl⟩⟩)) (fun _ _ => rfl)))⟩) (fun s250 ρ h => by
 obtain ⟨j251, j252, j253, j254, rfl⟩ := h
 exact (j_ret (b := fun v => v) (y_k (ea := eB) (a := true) rfl) (fun _ => .inl rfl))) (fun _ _ => .inl rfl))))
def g_law_finer (one : List Nat) (other : List Nat) : M Bool :=
 ((((((pure one) >>= fun a41 => pure (List.length a41)) >>= fun a42 => iterM a42) >>= fun xs80 => mapMM (fun k_43 : Nat => (((pure other) >>= fun a70 => (pure k_43) >>= fun a71 => ixN a70 a71) >>= fun a78 => ((pure other) >>= fun a76 => ((pure one) >>= fun a74 => (pure k_43) >>= fun a75 => ixN a74 a75) >>= fun a77 => ixN a76 a77) >>= fun a79 => pure (decide (a78 = a79)))) xs80) >>= fun a81 => pure ((fun bs => bs.all id) a81)) >>= fun v82 => pure v82)
theorem c_law_finer (one : List Nat) (other : List Nat) : Is eB (f_law_finer [(eTu natD) one, (eTu natD) other]) (g_law_finer one other) :=
 is_runN (L := 3) (b := b_law_finer) (ρ := [.fz ((eTu natD) one), .fz ((eTu natD) other), .no]) rfl
 (j_ret (b := fun v => v) (y_c1 (o_allB (fun bs => bs.all id)) (y_eL (yl_map (ea := natD) (eb := eB) (i_r1 (y_c1 (o_lenT (ea := natD)) (y_v (ea := (eTu natD)) (a := one) rfl))) (fun k_43 => ⟨_, rfl, (y_2 (o_eq enN (by decide)) (y_2 (o_ixTN (ea := natD)) (y_v (ea := (eTu natD)) (a := other) rfl) (y_v (ea := natD) (a := k_43) rfl)) (y_2 (o_ixTN (ea := natD)) (y_v (ea := (eTu natD)) (a := other) rfl) (y_2 (o_ixTN (ea := natD)) (y_v (ea := (eTu natD)) (a := one) rfl) (y_v (ea := natD) (a := k_43) rfl))))⟩)))) (fun _ => .inl rfl))
def g_law_orders (size : Nat) : M (List (List Nat)) :=
 (((pure ([] : List Nat)) >>= fun a1 => (pure ([] : List (List Nat))) >>= fun a2 => pure (a1 :: a2)) >>= fun found_3 => (((pure size) >>= fun a8 => iterM a8) >>= fun xs66 => forN xs66 found_3 (fun (k_13 : Nat) (s9 : (List (List Nat))) => ((pure ([] : List (List Nat))) >>= fun longer_14 => ((pure s9) >>= fun xs60 => forN xs60 longer_14 (fun (some_19 : List Nat) (s17 : (List (List Nat))) => (((pure s17) >>= fun a54 => (((pure size) >>= fun a37 => iterM a37) >>= fun xs53 => compM (fun thing_38 : Nat => ((pure thing_38) >>= fun a45 => (pure some_19) >>= fun a46 => pure (!memB a45 a46))) (fun thing_38 : Nat => ((pure some_19) >>= fun a51 => ((pure thing_38) >>= fun a49 => (pure ([] : List Nat)) >>= fun a50 => pure (a49 :: a50)) >>= fun a52 => catM a51 a52)) xs53) >>= fun a55 => catM a54 a55) >>= fun longer_56 => (pure longer_56))) >>= fun s57 => ((pure s57) >>= fun found_59 => (pure found_59))))) >>= fun s61 => ((pure s61) >>= fun v65 => pure v65)))
theorem c_law_orders (size : Nat) : Is (eLi (eLi natD)) (f_law_orders [natD size]) (g_law_orders size) :=
 is_runN (L := 6) (b := b_law_orders) (ρ := [.fz (natD size), .no, .no, .no, .no, .no]) rfl
 (j_setN (ea := (eLi (eLi natD))) (ρ2 := fun found_3 => [.fz (natD size), .fz ((eLi (eLi natD)) found_3), .no, .no, .no, .no]) (fun _ => rfl) (y_eL (yl_lit (ea := (eLi natD)) (v_cons (y_eL (yl_lit (ea := natD) (v_nil (ea := natD)) (by decide))) (v_nil (ea := (eLi natD)))) (by decide))) (fun found_3 => (j_forN (ea := natD) (R := (fun (s4 : (List (List Nat))) (ρ : Mi.Env) => ∃ j5 j6 j7 : Sl, ρ = [.fz (natD size), .fz ((eLi (eLi natD)) s4), j5, j6, j7, .no])) (s0 := found_3) (i_r1 (y_v (ea := natD) (a := size) rfl)) ⟨_, _, _, rfl⟩ (fun k_13 s9 ρ h => by
 obtain ⟨j10, j11, j12, rfl⟩ := h
 exact ⟨_, rfl, (j_setN (ea := (eLi (eLi natD))) (ρ2 := fun longer_14 => [.fz (natD size), .fz ((eLi (eLi natD)) s9), .fz (natD k_13), .fz ((eLi (eLi natD)) longer_14), j12, .no]) (fun _ => rfl) (y_eL (yl_lit (ea := (eLi natD)) (v_nil (ea := (eLi natD))) (by decide))) (fun longer_14 => (j_forN (ea := (eLi natD)) (R := (fun (s15 : (List (List Nat))) (ρ : Mi.Env) => ∃ j16 : Sl, ρ = [.fz (natD size), .fz ((eLi (eLi natD)) s9), .fz (natD k_13), .fz ((eLi (eLi natD)) s15), j16, .no])) (s0 := longer_14) (i_L (ea := (eLi natD)) (y_v (ea := (eLi (eLi natD))) (a := s9) rfl)) ⟨_, rfl⟩ (fun some_19 s17 ρ h => by
 obtain ⟨j18, rfl⟩ := h
 exact ⟨_, rfl, (j_end (j_setN (ea := (eLi (eLi natD))) (ρ2 := fun longer_56 => [.fz (natD size), .fz ((eLi (eLi natD)) s9), .fz (natD k_13), .fz ((eLi (eLi natD)) longer_56), .fz ((eLi natD) some_19), .no]) (fun _ => rfl) (y_2 (o_addL (ea := (eLi natD))) (y_v (ea := (eLi (eLi natD))) (a := s17) rfl) (y_eL (yl_comp (ea := natD) (eb := (eLi natD)) (i_r1 (y_v (ea := natD) (a := size) rfl)) (fun thing_38 => ⟨_, rfl, (y_tB (y_2 (o_notIn enN (by decide)) (y_v (ea := natD) (a := thing_38) rfl) (y_v (ea := (eLi natD)) (a := some_19) rfl))), (y_2 (o_addL (ea := natD)) (y_v (ea := (eLi natD)) (a := some_19) rfl) (y_eL (yl_lit (ea := natD) (v_cons (y_v (ea := natD) (a := thing_38) rfl) (v_nil (ea := natD))) (by decide))))⟩)))) (fun longer_56 => (j_nx ⟨rfl, ⟨_, rfl⟩⟩))))⟩) (fun s57 ρ h => by
 obtain ⟨j58, rfl⟩ := h
 exact (j_end (j_setN (ea := (eLi (eLi natD))) (ρ2 := fun found_59 => [.fz (natD size), .fz ((eLi (eLi natD)) found_59), .fz (natD k_13), .fz ((eLi (eLi natD)) s57), j58, .no]) (fun _ => rfl) (y_v (ea := (eLi (eLi natD))) (a := s57) rfl) (fun found_59 => (j_nx ⟨rfl, ⟨_, _, _, rfl⟩⟩))))))))⟩) (fun s61 ρ h => by
 obtain ⟨j62, j63, j64, rfl⟩ := h
 exact (j_ret (b := fun v => v) (y_v (ea := (eLi (eLi natD))) (a := s61) rfl) (fun _ => .inl rfl))))))
def g_look_leading (one : List (List Nat)) (other : List (List Nat)) (leading : List Nat) : M Unit :=
 (((pure one) >>= fun a1 => g_look_table a1) >>= fun _ => (((pure other) >>= fun a2 => g_look_table a2) >>= fun _ => (((((pure leading) >>= fun a5 => pure (List.length a5)) >>= fun a7 => ((pure one) >>= fun a6 => pure (List.length a6)) >>= fun a8 => pure (!decide (a7 = a8))) >>= fun a69 => if a69 = true then pure true else (((((pure leading) >>= fun xs65 => mapMM (fun thing_52 : Nat => ((pure (0 : Nat)) >>= fun a61 => (pure thing_52) >>= fun a62 => pure (decide (a61 ≤ a62)) >>= fun k64 => if k64 = true then ((pure other) >>= fun a60 => pure (List.length a60)) >>= fun a63 => pure (decide (a62 < a63)) else pure false)) xs65) >>= fun a66 => pure ((fun bs => bs.all id) a66)) >>= fun a67 => pure a67) >>= fun a68 => pure (!a68))) >>= fun k70 => if k70 = true then (refuse "BadLeading") else (pure ()))))
theorem c_look_leading (one : List (List Nat)) (other : List (List Nat)) (leading : List Nat) : Is eU (f_look_leading [(eTu (eTu natD)) one, (eTu (eTu natD)) other, (eTu natD) leading]) (g_look_leading one other leading) :=
 is_runN (L := 4) (b := b_look_leading) (ρ := [.fz ((eTu (eTu natD)) one), .fz ((eTu (eTu natD)) other), .fz ((eTu natD) leading), .no]) rfl
 (j_drop (ea := eU) (y_f1 (fun a1 => c_look_table a1) (y_v (ea := (eTu (eTu natD))) (a := one) rfl)) (fun _ => (j_drop (ea := eU) (y_f1 (fun a2 => c_look_table a2) (y_v (ea := (eTu (eTu natD))) (a := other) rfl)) (fun _ => (j_if (y_bOr (y_tB (y_2 (o_ne enN (by decide)) (y_c1 (o_lenT (ea := natD)) (y_v (ea := (eTu natD)) (a := leading) rfl)) (y_c1 (o_lenT (ea := (eTu natD))) (y_v (ea := (eTu (eTu natD))) (a := one) rfl)))) (y_bNot (y_tT tr_B (y_c1 (o_allB (fun bs => bs.all id)) (y_eL (yl_map (ea := natD) (eb := eB) (i_T (ea := natD) (y_v (ea := (eTu natD)) (a := leading) rfl)) (fun thing_52 => ⟨_, rfl, (y_3 o_leN o_ltN (y_k (ea := natD) (a := 0) rfl) (y_v (ea := natD) (a := thing_52) rfl) (y_c1 (o_lenT (ea := (eTu natD))) (y_v (ea := (eTu (eTu natD))) (a := other) rfl)))⟩))))))) j_raise (j_nx (.inr ⟨rfl, rfl⟩)))))))
def g_look_leading_2 (one : List (List Nat)) (other : List (List Nat)) (leading : List Int) : M Unit :=
 (((pure one) >>= fun a1 => g_look_table a1) >>= fun _ => (((pure other) >>= fun a2 => g_look_table a2) >>= fun _ => (((((pure leading) >>= fun a5 => pure (List.length a5)) >>= fun a7 => ((pure one) >>= fun a6 => pure (List.length a6)) >>= fun a8 => pure (!decide (a7 = a8))) >>= fun a69 => if a69 = true then pure true else (((((pure leading) >>= fun xs65 => mapMM (fun thing_52 : Int => (((pure (0 : Nat)) >>= fun x => pure ((fun x : Nat => (x : Int)) x)) >>= fun a61 => (pure thing_52) >>= fun a62 => pure (decide (a61 ≤ a62)) >>= fun k64 => if k64 = true then (((pure other) >>= fun a60 => pure (List.length a60)) >>= fun x => pure ((fun x : Nat => (x : Int)) x)) >>= fun a63 => pure (decide (a62 < a63)) else pure false)) xs65) >>= fun a66 => pure ((fun bs => bs.all id) a66)) >>= fun a67 => pure a67) >>= fun a68 => pure (!a68))) >>= fun k70 => if k70 = true then (refuse "BadLeading") else (pure ()))))
theorem c_look_leading_2 (one : List (List Nat)) (other : List (List Nat)) (leading : List Int) : Is eU (f_look_leading [(eTu (eTu natD)) one, (eTu (eTu natD)) other, (eTu eI) leading]) (g_look_leading_2 one other leading) :=
 is_runN (L := 4) (b := b_look_leading) (ρ := [.fz ((eTu (eTu natD)) one), .fz ((eTu (eTu natD)) other), .fz ((eTu eI) leading), .no]) rfl
 (j_drop (ea := eU) (y_f1 (fun a1 => c_look_table a1) (y_v (ea := (eTu (eTu natD))) (a := one) rfl)) (fun _ => (j_drop (ea := eU) (y_f1 (fun a2 => c_look_table a2) (y_v (ea := (eTu (eTu natD))) (a := other) rfl)) (fun _ => (j_if (y_bOr (y_tB (y_2 (o_ne enN (by decide)) (y_c1 (o_lenT (ea := eI)) (y_v (ea := (eTu eI)) (a := leading) rfl)) (y_c1 (o_lenT (ea := (eTu natD))) (y_v (ea := (eTu (eTu natD))) (a := one) rfl)))) (y_bNot (y_tT tr_B (y_c1 (o_allB (fun bs => bs.all id)) (y_eL (yl_map (ea := eI) (eb := eB) (i_T (ea := eI) (y_v (ea := (eTu eI)) (a := leading) rfl)) (fun thing_52 => ⟨_, rfl, (y_3 o_leI o_ltI (is_co (e := natD) (e2 := eI) (co := (fun x : Nat => (x : Int))) (y_k (ea := natD) (a := 0) rfl) (fun _ => rfl)) (y_v (ea := eI) (a := thing_52) rfl) (is_co (e := natD) (e2 := eI) (co := (fun x : Nat => (x : Int))) (y_c1 (o_lenT (ea := (eTu natD))) (y_v (ea := (eTu (eTu natD))) (a := other) rfl)) (fun _ => rfl)))⟩))))))) j_raise (j_nx (.inr ⟨rfl, rfl⟩)))))))
def g_does_lead (one : List (List Nat)) (other : List (List Nat)) (leading : List Nat) : M Bool :=
 ((((pure one) >>= fun a4 => pure (List.length a4)) >>= fun a5 => iterM a5) >>= fun xs94 => (forC xs94 () (fun (a_9 : Nat) (s6 : Unit) => ((((pure one) >>= fun a12 => pure (List.length a12)) >>= fun a13 => iterM a13) >>= fun xs87 => (forC xs87 () (fun (b_16 : Nat) (s14 : Unit) => ((((pure leading) >>= fun a61 => (((pure one) >>= fun a57 => (pure a_9) >>= fun a58 => ixN a57 a58) >>= fun a59 => (pure b_16) >>= fun a60 => ixN a59 a60) >>= fun a62 => ixN a61 a62) >>= fun a81 => (((pure other) >>= fun a75 => ((pure leading) >>= fun a73 => (pure a_9) >>= fun a74 => ixN a73 a74) >>= fun a76 => ixN a75 a76) >>= fun a79 => ((pure leading) >>= fun a77 => (pure b_16) >>= fun a78 => ixN a77 a78) >>= fun a80 => ixN a79 a80) >>= fun a82 => pure (!decide (a81 = a82))) >>= fun k83 => if k83 = true then ((pure false) >>= fun v84 => pure (Ctl.rt v84)) else (pure (Ctl.nx ())))) : M (Ctl (Unit) Bool)) >>= fun c89 => c89.go (fun s85 => (pure (Ctl.nx ()))) (fun v88 => pure (Ctl.rt v88)))) : M (Ctl (Unit) Bool)) >>= fun c96 => c96.go (fun s90 => ((pure true) >>= fun v93 => pure v93)) (fun v95 => pure v95))
theorem c_does_lead (one : List (List Nat)) (other : List (List Nat)) (leading : List Nat) : Is eB (f_does_lead [(eTu (eTu natD)) one, (eTu (eTu natD)) other, (eTu natD) leading]) (g_does_lead one other leading) :=
 is_runN (L := 5) (b := b_does_lead) (ρ := [.fz ((eTu (eTu natD)) one), .fz ((eTu (eTu natD)) other), .fz ((eTu natD) leading), .no, .no]) rfl
 (j_forC (ea := natD) (R := (fun (s1 : Unit) (ρ : Mi.Env) => ∃ j2 j3 : Sl, ρ = [.fz ((eTu (eTu natD)) one), .fz ((eTu (eTu natD)) other), .fz ((eTu natD) leading), j2, j3])) (e := eB) (b := (fun v => v)) (s0 := ()) (i_r1 (y_c1 (o_lenT (ea := (eTu natD))) (y_v (ea := (eTu (eTu natD))) (a := one) rfl))) ⟨_, _, rfl⟩ (fun a_9 s6 ρ h => by
 obtain ⟨j7, j8, rfl⟩ := h
 exact ⟨_, rfl, (j_end (j_forC (ea := natD) (R := (fun (s10 : Unit) (ρ : Mi.Env) => ∃ j11 : Sl, ρ = [.fz ((eTu (eTu natD)) one), .fz ((eTu (eTu natD)) other), .fz ((eTu natD) leading), .fz (natD a_9), j11])) (e := eB) (b := (fun v => Ctl.rt v)) (s0 := ()) (i_r1 (y_c1 (o_lenT (ea := (eTu natD))) (y_v (ea := (eTu (eTu natD))) (a := one) rfl))) ⟨_, rfl⟩ (fun b_16 s14 ρ h => by
 obtain ⟨j15, rfl⟩ := h
 exact ⟨_, rfl, (j_if (y_tB (y_2 (o_ne enN (by decide)) (y_2 (o_ixTN (ea := natD)) (y_v (ea := (eTu natD)) (a := leading) rfl) (y_2 (o_ixTN (ea := natD)) (y_2 (o_ixTN (ea := (eTu natD))) (y_v (ea := (eTu (eTu natD))) (a := one) rfl) (y_v (ea := natD) (a := a_9) rfl)) (y_v (ea := natD) (a := b_16) rfl))) (y_2 (o_ixTN (ea := natD)) (y_2 (o_ixTN (ea := (eTu natD))) (y_v (ea := (eTu (eTu natD))) (a := other) rfl) (y_2 (o_ixTN (ea := natD)) (y_v (ea := (eTu natD)) (a := leading) rfl) (y_v (ea := natD) (a := a_9) rfl))) (y_2 (o_ixTN (ea := natD)) (y_v (ea := (eTu natD)) (a := leading) rfl) (y_v (ea := natD) (a := b_16) rfl))))) (j_ret (b := fun v => Ctl.rt v) (y_k (ea := eB) (a := false) rfl) (fun _ => rfl)) (j_nx ⟨rfl, ⟨_, rfl⟩⟩))⟩) (fun s85 ρ h => by
 obtain ⟨j86, rfl⟩ := h
 exact (j_nx ⟨rfl, ⟨_, _, rfl⟩⟩)) (fun _ _ => rfl)))⟩) (fun s90 ρ h => by
 obtain ⟨j91, j92, rfl⟩ := h
 exact (j_ret (b := fun v => v) (y_k (ea := eB) (a := true) rfl) (fun _ => .inl rfl))) (fun _ _ => .inl rfl))
def g_does_lead_2 (one : List (List Nat)) (other : List (List Nat)) (leading : List Int) : M Bool :=
 ((((pure one) >>= fun a4 => pure (List.length a4)) >>= fun a5 => iterM a5) >>= fun xs94 => (forC xs94 () (fun (a_9 : Nat) (s6 : Unit) => ((((pure one) >>= fun a12 => pure (List.length a12)) >>= fun a13 => iterM a13) >>= fun xs87 => (forC xs87 () (fun (b_16 : Nat) (s14 : Unit) => ((((pure leading) >>= fun a61 => (((pure one) >>= fun a57 => (pure a_9) >>= fun a58 => ixN a57 a58) >>= fun a59 => (pure b_16) >>= fun a60 => ixN a59 a60) >>= fun a62 => ixN a61 a62) >>= fun a81 => ((((pure other) >>= fun a75 => ((pure leading) >>= fun a73 => (pure a_9) >>= fun a74 => ixN a73 a74) >>= fun a76 => ixI a75 a76) >>= fun a79 => ((pure leading) >>= fun a77 => (pure b_16) >>= fun a78 => ixN a77 a78) >>= fun a80 => ixI a79 a80) >>= fun x => pure ((fun x : Nat => (x : Int)) x)) >>= fun a82 => pure (!decide (a81 = a82))) >>= fun k83 => if k83 = true then ((pure false) >>= fun v84 => pure (Ctl.rt v84)) else (pure (Ctl.nx ())))) : M (Ctl (Unit) Bool)) >>= fun c89 => c89.go (fun s85 => (pure (Ctl.nx ()))) (fun v88 => pure (Ctl.rt v88)))) : M (Ctl (Unit) Bool)) >>= fun c96 => c96.go (fun s90 => ((pure true) >>= fun v93 => pure v93)) (fun v95 => pure v95))
theorem c_does_lead_2 (one : List (List Nat)) (other : List (List Nat)) (leading : List Int) : Is eB (f_does_lead [(eTu (eTu natD)) one, (eTu (eTu natD)) other, (eTu eI) leading]) (g_does_lead_2 one other leading) :=
 is_runN (L := 5) (b := b_does_lead) (ρ := [.fz ((eTu (eTu natD)) one), .fz ((eTu (eTu natD)) other), .fz ((eTu eI) leading), .no, .no]) rfl
 (j_forC (ea := natD) (R := (fun (s1 : Unit) (ρ : Mi.Env) => ∃ j2 j3 : Sl, ρ = [.fz ((eTu (eTu natD)) one), .fz ((eTu (eTu natD)) other), .fz ((eTu eI) leading), j2, j3])) (e := eB) (b := (fun v => v)) (s0 := ()) (i_r1 (y_c1 (o_lenT (ea := (eTu natD))) (y_v (ea := (eTu (eTu natD))) (a := one) rfl))) ⟨_, _, rfl⟩ (fun a_9 s6 ρ h => by
 obtain ⟨j7, j8, rfl⟩ := h
 exact ⟨_, rfl, (j_end (j_forC (ea := natD) (R := (fun (s10 : Unit) (ρ : Mi.Env) => ∃ j11 : Sl, ρ = [.fz ((eTu (eTu natD)) one), .fz ((eTu (eTu natD)) other), .fz ((eTu eI) leading), .fz (natD a_9), j11])) (e := eB) (b := (fun v => Ctl.rt v)) (s0 := ()) (i_r1 (y_c1 (o_lenT (ea := (eTu natD))) (y_v (ea := (eTu (eTu natD))) (a := one) rfl))) ⟨_, rfl⟩ (fun b_16 s14 ρ h => by
 obtain ⟨j15, rfl⟩ := h
 exact ⟨_, rfl, (j_if (y_tB (y_2 (o_ne enI (by decide)) (y_2 (o_ixTN (ea := eI)) (y_v (ea := (eTu eI)) (a := leading) rfl) (y_2 (o_ixTN (ea := natD)) (y_2 (o_ixTN (ea := (eTu natD))) (y_v (ea := (eTu (eTu natD))) (a := one) rfl) (y_v (ea := natD) (a := a_9) rfl)) (y_v (ea := natD) (a := b_16) rfl))) (is_co (e := natD) (e2 := eI) (co := (fun x : Nat => (x : Int))) (y_2 (o_ixTI (ea := natD)) (y_2 (o_ixTI (ea := (eTu natD))) (y_v (ea := (eTu (eTu natD))) (a := other) rfl) (y_2 (o_ixTN (ea := eI)) (y_v (ea := (eTu eI)) (a := leading) rfl) (y_v (ea := natD) (a := a_9) rfl))) (y_2 (o_ixTN (ea := eI)) (y_v (ea := (eTu eI)) (a := leading) rfl) (y_v (ea := natD) (a := b_16) rfl))) (fun _ => rfl)))) (j_ret (b := fun v => Ctl.rt v) (y_k (ea := eB) (a := false) rfl) (fun _ => rfl)) (j_nx ⟨rfl, ⟨_, rfl⟩⟩))⟩) (fun s85 ρ h => by
 obtain ⟨j86, rfl⟩ := h
 exact (j_nx ⟨rfl, ⟨_, _, rfl⟩⟩)) (fun _ _ => rfl)))⟩) (fun s90 ρ h => by
 obtain ⟨j91, j92, rfl⟩ := h
 exact (j_ret (b := fun v => v) (y_k (ea := eB) (a := true) rfl) (fun _ => .inl rfl))) (fun _ _ => .inl rfl))
def g_is_leading (one : List (List Nat)) (other : List (List Nat)) (leading : List Nat) : M Bool :=
 (((pure one) >>= fun a1 => (pure other) >>= fun a2 => (pure leading) >>= fun a3 => g_look_leading a1 a2 a3) >>= fun _ => (((pure one) >>= fun a4 => (pure other) >>= fun a5 => (pure leading) >>= fun a6 => g_does_lead a4 a5 a6) >>= fun v7 => pure v7))
theorem c_is_leading (one : List (List Nat)) (other : List (List Nat)) (leading : List Nat) : Is eB (f_is_leading [(eTu (eTu natD)) one, (eTu (eTu natD)) other, (eTu natD) leading]) (g_is_leading one other leading) :=
 is_runN (L := 3) (b := b_is_leading) (ρ := [.fz ((eTu (eTu natD)) one), .fz ((eTu (eTu natD)) other), .fz ((eTu natD) leading)]) rfl
 (j_drop (ea := eU) (y_f3 (fun a1 a2 a3 => c_look_leading a1 a2 a3) (y_v (ea := (eTu (eTu natD))) (a := one) rfl) (y_v (ea := (eTu (eTu natD))) (a := other) rfl) (y_v (ea := (eTu natD)) (a := leading) rfl)) (fun _ => (j_ret (b := fun v => v) (y_f3 (fun a4 a5 a6 => c_does_lead a4 a5 a6) (y_v (ea := (eTu (eTu natD))) (a := one) rfl) (y_v (ea := (eTu (eTu natD))) (a := other) rfl) (y_v (ea := (eTu natD)) (a := leading) rfl)) (fun _ => .inl rfl))))
def g_is_leading_2 (one : List (List Nat)) (other : List (List Nat)) (leading : List Int) : M Bool :=
 (((pure one) >>= fun a1 => (pure other) >>= fun a2 => (pure leading) >>= fun a3 => g_look_leading_2 a1 a2 a3) >>= fun _ => (((pure one) >>= fun a4 => (pure other) >>= fun a5 => (pure leading) >>= fun a6 => g_does_lead_2 a4 a5 a6) >>= fun v7 => pure v7))
theorem c_is_leading_2 (one : List (List Nat)) (other : List (List Nat)) (leading : List Int) : Is eB (f_is_leading [(eTu (eTu natD)) one, (eTu (eTu natD)) other, (eTu eI) leading]) (g_is_leading_2 one other leading) :=
 is_runN (L := 3) (b := b_is_leading) (ρ := [.fz ((eTu (eTu natD)) one), .fz ((eTu (eTu natD)) other), .fz ((eTu eI) leading)]) rfl
 (j_drop (ea := eU) (y_f3 (fun a1 a2 a3 => c_look_leading_2 a1 a2 a3) (y_v (ea := (eTu (eTu natD))) (a := one) rfl) (y_v (ea := (eTu (eTu natD))) (a := other) rfl) (y_v (ea := (eTu eI)) (a := leading) rfl)) (fun _ => (j_ret (b := fun v => v) (y_f3 (fun a4 a5 a6 => c_does_lead_2 a4 a5 a6) (y_v (ea := (eTu (eTu natD))) (a := one) rfl) (y_v (ea := (eTu (eTu natD))) (a := other) rfl) (y_v (ea := (eTu eI)) (a := leading) rfl)) (fun _ => .inl rfl))))
def g_can_go_on (one : List (List Nat)) (other : List (List Nat)) (some_ : List Nat) : M Bool :=
 (((pure some_) >>= fun a1 => pure (List.length a1)) >>= fun size_2 => (((pure size_2) >>= fun a6 => iterM a6) >>= fun xs109 => (forC xs109 () (fun (a_10 : Nat) (s7 : Unit) => (((pure size_2) >>= fun a13 => iterM a13) >>= fun xs102 => (forC xs102 () (fun (b_16 : Nat) (s14 : Unit) => ((((((pure one) >>= fun a25 => (pure a_10) >>= fun a26 => ixN a25 a26) >>= fun a27 => (pure b_16) >>= fun a28 => ixN a27 a28) >>= fun a29 => (pure size_2) >>= fun a30 => pure (decide (a29 < a30))) >>= fun a97 => if a97 = true then (((pure some_) >>= fun a75 => (((pure one) >>= fun a71 => (pure a_10) >>= fun a72 => ixN a71 a72) >>= fun a73 => (pure b_16) >>= fun a74 => ixN a73 a74) >>= fun a76 => ixN a75 a76) >>= fun a95 => (((pure other) >>= fun a89 => ((pure some_) >>= fun a87 => (pure a_10) >>= fun a88 => ixN a87 a88) >>= fun a90 => ixN a89 a90) >>= fun a93 => ((pure some_) >>= fun a91 => (pure b_16) >>= fun a92 => ixN a91 a92) >>= fun a94 => ixN a93 a94) >>= fun a96 => pure (!decide (a95 = a96))) else pure false) >>= fun k98 => if k98 = true then ((pure false) >>= fun v99 => pure (Ctl.rt v99)) else (pure (Ctl.nx ())))) : M (Ctl (Unit) Bool)) >>= fun c104 => c104.go (fun s100 => (pure (Ctl.nx ()))) (fun v103 => pure (Ctl.rt v103)))) : M (Ctl (Unit) Bool)) >>= fun c111 => c111.go (fun s105 => ((pure true) >>= fun v108 => pure v108)) (fun v110 => pure v110)))
theorem c_can_go_on (one : List (List Nat)) (other : List (List Nat)) (some_ : List Nat) : Is eB (f_can_go_on [(eTu (eTu natD)) one, (eTu (eTu natD)) other, (eTu natD) some_]) (g_can_go_on one other some_) :=
 is_runN (L := 6) (b := b_can_go_on) (ρ := [.fz ((eTu (eTu natD)) one), .fz ((eTu (eTu natD)) other), .fz ((eTu natD) some_), .no, .no, .no]) rfl
 (j_setN (ea := natD) (ρ2 := fun size_2 => [.fz ((eTu (eTu natD)) one), .fz ((eTu (eTu natD)) other), .fz ((eTu natD) some_), .fz (natD size_2), .no, .no]) (fun _ => rfl) (y_c1 (o_lenT (ea := natD)) (y_v (ea := (eTu natD)) (a := some_) rfl)) (fun size_2 => (j_forC (ea := natD) (R := (fun (s3 : Unit) (ρ : Mi.Env) => ∃ j4 j5 : Sl, ρ = [.fz ((eTu (eTu natD)) one), .fz ((eTu (eTu natD)) other), .fz ((eTu natD) some_), .fz (natD size_2), j4, j5])) (e := eB) (b := (fun v => v)) (s0 := ()) (i_r1 (y_v (ea := natD) (a := size_2) rfl)) ⟨_, _, rfl⟩ (fun a_10 s7 ρ h => by
 obtain ⟨j8, j9, rfl⟩ := h
 exact ⟨_, rfl, (j_end (j_forC (ea := natD) (R := (fun (s11 : Unit) (ρ : Mi.Env) => ∃ j12 : Sl, ρ = [.fz ((eTu (eTu natD)) one), .fz ((eTu (eTu natD)) other), .fz ((eTu natD) some_), .fz (natD size_2), .fz (natD a_10), j12])) (e := eB) (b := (fun v => Ctl.rt v)) (s0 := ()) (i_r1 (y_v (ea := natD) (a := size_2) rfl)) ⟨_, rfl⟩ (fun b_16 s14 ρ h => by
 obtain ⟨j15, rfl⟩ := h
 exact ⟨_, rfl, (j_if (y_bAnd (y_tB (y_2 o_ltN (y_2 (o_ixTN (ea := natD)) (y_2 (o_ixTN (ea := (eTu natD))) (y_v (ea := (eTu (eTu natD))) (a := one) rfl) (y_v (ea := natD) (a := a_10) rfl)) (y_v (ea := natD) (a := b_16) rfl)) (y_v (ea := natD) (a := size_2) rfl))) (y_tB (y_2 (o_ne enN (by decide)) (y_2 (o_ixTN (ea := natD)) (y_v (ea := (eTu natD)) (a := some_) rfl) (y_2 (o_ixTN (ea := natD)) (y_2 (o_ixTN (ea := (eTu natD))) (y_v (ea := (eTu (eTu natD))) (a := one) rfl) (y_v (ea := natD) (a := a_10) rfl)) (y_v (ea := natD) (a := b_16) rfl))) (y_2 (o_ixTN (ea := natD)) (y_2 (o_ixTN (ea := (eTu natD))) (y_v (ea := (eTu (eTu natD))) (a := other) rfl) (y_2 (o_ixTN (ea := natD)) (y_v (ea := (eTu natD)) (a := some_) rfl) (y_v (ea := natD) (a := a_10) rfl))) (y_2 (o_ixTN (ea := natD)) (y_v (ea := (eTu natD)) (a := some_) rfl) (y_v (ea := natD) (a := b_16) rfl)))))) (j_ret (b := fun v => Ctl.rt v) (y_k (ea := eB) (a := false) rfl) (fun _ => rfl)) (j_nx ⟨rfl, ⟨_, rfl⟩⟩))⟩) (fun s100 ρ h => by
 obtain ⟨j101, rfl⟩ := h
 exact (j_nx ⟨rfl, ⟨_, _, rfl⟩⟩)) (fun _ _ => rfl)))⟩) (fun s105 ρ h => by
 obtain ⟨j106, j107, rfl⟩ := h
 exact (j_ret (b := fun v => v) (y_k (ea := eB) (a := true) rfl) (fun _ => .inl rfl))) (fun _ _ => .inl rfl))))
def g_leadings (one : List (List Nat)) (other : List (List Nat)) : M (List (List Nat)) :=
 (((pure one) >>= fun a1 => g_look_table a1) >>= fun _ => (((pure other) >>= fun a2 => g_look_table a2) >>= fun _ => (((pure ([] : List Nat)) >>= fun a3 => (pure ([] : List (List Nat))) >>= fun a4 => pure (a3 :: a4)) >>= fun found_5 => ((((pure one) >>= fun a10 => pure (List.length a10)) >>= fun a11 => iterM a11) >>= fun xs80 => forN xs80 found_5 (fun (a_16 : Nat) (s12 : (List (List Nat))) => ((pure ([] : List (List Nat))) >>= fun longer_17 => ((pure s12) >>= fun xs74 => forN xs74 longer_17 (fun (some_22 : List Nat) (s20 : (List (List Nat))) => (((((pure other) >>= fun a23 => pure (List.length a23)) >>= fun a24 => iterM a24) >>= fun xs69 => compM (fun thing_25 : Nat => (((pure one) >>= fun a59 => (pure other) >>= fun a60 => ((pure some_22) >>= fun a57 => ((pure thing_25) >>= fun a55 => (pure ([] : List Nat)) >>= fun a56 => pure (a55 :: a56)) >>= fun a58 => catM a57 a58) >>= fun a61 => g_can_go_on a59 a60 a61) >>= fun a62 => pure a62)) (fun thing_25 : Nat => ((pure some_22) >>= fun a67 => ((pure thing_25) >>= fun a65 => (pure ([] : List Nat)) >>= fun a66 => pure (a65 :: a66)) >>= fun a68 => catM a67 a68)) xs69) >>= fun ys70 => room (List.length s20 + List.length ys70) >>= fun _ => (pure ((s20 ++ ys70))))) >>= fun s71 => ((pure s71) >>= fun found_73 => (pure found_73))))) >>= fun s75 => ((pure s75) >>= fun v79 => pure v79)))))
theorem c_leadings (one : List (List Nat)) (other : List (List Nat)) : Is (eLi (eTu natD)) (f_leadings [(eTu (eTu natD)) one, (eTu (eTu natD)) other]) (g_leadings one other) :=
 is_runN (L := 7) (b := b_leadings) (ρ := [.fz ((eTu (eTu natD)) one), .fz ((eTu (eTu natD)) other), .no, .no, .no, .no, .no]) rfl
 (j_drop (ea := eU) (y_f1 (fun a1 => c_look_table a1) (y_v (ea := (eTu (eTu natD))) (a := one) rfl)) (fun _ => (j_drop (ea := eU) (y_f1 (fun a2 => c_look_table a2) (y_v (ea := (eTu (eTu natD))) (a := other) rfl)) (fun _ => (j_setN (ea := (eLi (eTu natD))) (ρ2 := fun found_5 => [.fz ((eTu (eTu natD)) one), .fz ((eTu (eTu natD)) other), .fz ((eLi (eTu natD)) found_5), .no, .no, .no, .no]) (fun _ => rfl) (y_eL (yl_lit (ea := (eTu natD)) (v_cons (y_tlit (ea := natD) (v_nil (ea := natD)) (by decide)) (v_nil (ea := (eTu natD)))) (by decide))) (fun found_5 => (j_forN (ea := natD) (R := (fun (s6 : (List (List Nat))) (ρ : Mi.Env) => ∃ j7 j8 j9 : Sl, ρ = [.fz ((eTu (eTu natD)) one), .fz ((eTu (eTu natD)) other), .fz ((eLi (eTu natD)) s6), j7, j8, j9, .no])) (s0 := found_5) (i_r1 (y_c1 (o_lenT (ea := (eTu natD))) (y_v (ea := (eTu (eTu natD))) (a := one) rfl))) ⟨_, _, _, rfl⟩ (fun a_16 s12 ρ h => by
 obtain ⟨j13, j14, j15, rfl⟩ := h
 exact ⟨_, rfl, (j_ownN (ea := (eTu natD)) (ρ2 := fun longer_17 => [.fz ((eTu (eTu natD)) one), .fz ((eTu (eTu natD)) other), .fz ((eLi (eTu natD)) s12), .fz (natD a_16), .ow (List.map (eTu natD) longer_17), j15, .no]) (fun _ => rfl) (yl_lit (ea := (eTu natD)) (v_nil (ea := (eTu natD))) (by decide)) (show 4 < 7 by omega) (fun longer_17 => (j_forN (ea := (eTu natD)) (R := (fun (s18 : (List (List Nat))) (ρ : Mi.Env) => ∃ j19 : Sl, ρ = [.fz ((eTu (eTu natD)) one), .fz ((eTu (eTu natD)) other), .fz ((eLi (eTu natD)) s12), .fz (natD a_16), .ow (List.map (eTu natD) s18), j19, .no])) (s0 := longer_17) (i_L (ea := (eTu natD)) (y_v (ea := (eLi (eTu natD))) (a := s12) rfl)) ⟨_, rfl⟩ (fun some_22 s20 ρ h => by
 obtain ⟨j21, rfl⟩ := h
 exact ⟨_, rfl, (j_end (j_ext (ea := (eTu natD)) (xs := s20) rfl (y_eL (yl_comp (ea := natD) (eb := (eTu natD)) (i_r1 (y_c1 (o_lenT (ea := (eTu natD))) (y_v (ea := (eTu (eTu natD))) (a := other) rfl))) (fun thing_25 => ⟨_, rfl, (y_tT tr_B (y_f3 (fun a59 a60 a61 => c_can_go_on a59 a60 a61) (y_v (ea := (eTu (eTu natD))) (a := one) rfl) (y_v (ea := (eTu (eTu natD))) (a := other) rfl) (y_2 (o_addT (ea := natD)) (y_v (ea := (eTu natD)) (a := some_22) rfl) (y_tlit (ea := natD) (v_cons (y_v (ea := natD) (a := thing_25) rfl) (v_nil (ea := natD))) (by decide))))), (y_2 (o_addT (ea := natD)) (y_v (ea := (eTu natD)) (a := some_22) rfl) (y_tlit (ea := natD) (v_cons (y_v (ea := natD) (a := thing_25) rfl) (v_nil (ea := natD))) (by decide)))⟩))) (fun ys70 => (j_nx ⟨rfl, ⟨_, rfl⟩⟩))))⟩) (fun s71 ρ h => by
 obtain ⟨j72, rfl⟩ := h
 exact (j_fz (j_end (j_setN (ea := (eLi (eTu natD))) (ρ2 := fun found_73 => [.fz ((eTu (eTu natD)) one), .fz ((eTu (eTu natD)) other), .fz ((eLi (eTu natD)) found_73), .fz (natD a_16), .fz ((eLi (eTu natD)) s71), j72, .no]) (fun _ => rfl) (y_v (ea := (eLi (eTu natD))) (a := s71) rfl) (fun found_73 => (j_nx ⟨rfl, ⟨_, _, _, rfl⟩⟩)))))))))⟩) (fun s75 ρ h => by
 obtain ⟨j76, j77, j78, rfl⟩ := h
 exact (j_ret (b := fun v => v) (y_v (ea := (eLi (eTu natD))) (a := s75) rfl) (fun _ => .inl rfl))))))))))
def g_turns (one : List (List Nat)) (other : List (List Nat)) : M (List (List Nat)) :=
 (((pure one) >>= fun a1 => (pure other) >>= fun a2 => g_leadings a1 a2) >>= fun found_3 => (((pure found_3) >>= fun xs18 => compM (fun some_4 : List Nat => ((((pure one) >>= fun a7 => pure (List.length a7)) >>= fun a9 => ((pure other) >>= fun a8 => pure (List.length a8)) >>= fun a10 => pure (decide (a9 = a10))) >>= fun a17 => if a17 = true then (((pure some_4) >>= fun a13 => lensN a13) >>= fun a15 => ((pure some_4) >>= fun a14 => pure (List.length a14)) >>= fun a16 => pure (decide (a15 = a16))) else pure false)) (fun some_4 : List Nat => (pure some_4)) xs18) >>= fun v19 => pure v19))
theorem c_turns (one : List (List Nat)) (other : List (List Nat)) : Is (eLi (eTu natD)) (f_turns [(eTu (eTu natD)) one, (eTu (eTu natD)) other]) (g_turns one other) :=
 is_runN (L := 4) (b := b_turns) (ρ := [.fz ((eTu (eTu natD)) one), .fz ((eTu (eTu natD)) other), .no, .no]) rfl
 (j_setN (ea := (eLi (eTu natD))) (ρ2 := fun found_3 => [.fz ((eTu (eTu natD)) one), .fz ((eTu (eTu natD)) other), .fz ((eLi (eTu natD)) found_3), .no]) (fun _ => rfl) (y_f2 (fun a1 a2 => c_leadings a1 a2) (y_v (ea := (eTu (eTu natD))) (a := one) rfl) (y_v (ea := (eTu (eTu natD))) (a := other) rfl)) (fun found_3 => (j_ret (b := fun v => v) (y_eL (yl_comp (ea := (eTu natD)) (eb := (eTu natD)) (i_L (ea := (eTu natD)) (y_v (ea := (eLi (eTu natD))) (a := found_3) rfl)) (fun some_4 => ⟨_, rfl, (y_bAnd (y_tB (y_2 (o_eq enN (by decide)) (y_c1 (o_lenT (ea := (eTu natD))) (y_v (ea := (eTu (eTu natD))) (a := one) rfl)) (y_c1 (o_lenT (ea := (eTu natD))) (y_v (ea := (eTu (eTu natD))) (a := other) rfl)))) (y_tB (y_2 (o_eq enN (by decide)) (y_lensN seqN_T (y_v (ea := (eTu natD)) (a := some_4) rfl)) (y_c1 (o_lenT (ea := natD)) (y_v (ea := (eTu natD)) (a := some_4) rfl))))), (y_v (ea := (eTu natD)) (a := some_4) rfl)⟩))) (fun _ => .inl rfl))))
def g_alike (one : List (List Nat)) (other : List (List Nat)) : M (Option (List Nat)) :=
 (((pure one) >>= fun a1 => (pure other) >>= fun a2 => g_turns a1 a2) >>= fun found_3 => ((((pure found_3) >>= fun a4 => pure (!List.isEmpty a4)) >>= fun a9 => if a9 = true then (((pure found_3) >>= fun a7 => (pure (0 : Nat)) >>= fun a8 => ixN a7 a8) >>= fun x => pure (some x)) else ((pure ()) >>= fun x => pure ((fun _ : Unit => none) x))) >>= fun v10 => pure v10))
theorem c_alike (one : List (List Nat)) (other : List (List Nat)) : Is (eO (eTu natD)) (f_alike [(eTu (eTu natD)) one, (eTu (eTu natD)) other]) (g_alike one other) :=
 is_runN (L := 3) (b := b_alike) (ρ := [.fz ((eTu (eTu natD)) one), .fz ((eTu (eTu natD)) other), .no]) rfl
 (j_setN (ea := (eLi (eTu natD))) (ρ2 := fun found_3 => [.fz ((eTu (eTu natD)) one), .fz ((eTu (eTu natD)) other), .fz ((eLi (eTu natD)) found_3)]) (fun _ => rfl) (y_f2 (fun a1 a2 => c_turns a1 a2) (y_v (ea := (eTu (eTu natD))) (a := one) rfl) (y_v (ea := (eTu (eTu natD))) (a := other) rfl)) (fun found_3 => (j_ret (b := fun v => v) (y_eIf (ea := (eO (eTu natD))) (y_tT (tr_L (ea := (eTu natD))) (y_v (ea := (eLi (eTu natD))) (a := found_3) rfl)) (is_co (e := (eTu natD)) (e2 := (eO (eTu natD))) (co := some) (y_2 (o_ixLN (ea := (eTu natD))) (y_v (ea := (eLi (eTu natD))) (a := found_3) rfl) (y_k (ea := natD) (a := 0) rfl)) (fun _ => rfl)) (is_co (e := eU) (e2 := (eO (eTu natD))) (co := (fun _ : Unit => none)) (y_k (ea := eU) (a := ()) rfl) (fun _ => rfl))) (fun _ => .inl rfl))))
def g_image (one : List (List Nat)) (other : List (List Nat)) (leading : List Nat) : M (List Nat) :=
 (((((pure one) >>= fun a4 => (pure other) >>= fun a5 => (pure leading) >>= fun a6 => g_is_leading a4 a5 a6) >>= fun a7 => pure a7) >>= fun a8 => pure (!a8)) >>= fun k9 => if k9 = true then (refuse "BadLeading") else (((pure leading) >>= fun a10 => srtN a10) >>= fun v11 => pure v11))
theorem c_image (one : List (List Nat)) (other : List (List Nat)) (leading : List Nat) : Is (eLi natD) (f_image [(eTu (eTu natD)) one, (eTu (eTu natD)) other, (eTu natD) leading]) (g_image one other leading) :=
 is_runN (L := 3) (b := b_image) (ρ := [.fz ((eTu (eTu natD)) one), .fz ((eTu (eTu natD)) other), .fz ((eTu natD) leading)]) rfl
 (j_ifP (y_bNot (y_tT tr_B (y_f3 (fun a4 a5 a6 => c_is_leading a4 a5 a6) (y_v (ea := (eTu (eTu natD))) (a := one) rfl) (y_v (ea := (eTu (eTu natD))) (a := other) rfl) (y_v (ea := (eTu natD)) (a := leading) rfl)))) j_raiseP (j_nxP (j_ret (b := fun v => v) (y_eL (yl_srtN seqN_T (y_v (ea := (eTu natD)) (a := leading) rfl))) (fun _ => .inl rfl))))
def g_parting_of (one : List (List Nat)) (other : List (List Nat)) (leading : List Nat) : M (List Nat) :=
 (((((pure one) >>= fun a4 => (pure other) >>= fun a5 => (pure leading) >>= fun a6 => g_is_leading a4 a5 a6) >>= fun a7 => pure a7) >>= fun a8 => pure (!a8)) >>= fun k9 => if k9 = true then (refuse "BadLeading") else ((((pure leading) >>= fun a11 => pure a11) >>= fun a12 => g_tidied a12) >>= fun v13 => pure v13))
theorem c_parting_of (one : List (List Nat)) (other : List (List Nat)) (leading : List Nat) : Is (eTu natD) (f_parting_of [(eTu (eTu natD)) one, (eTu (eTu natD)) other, (eTu natD) leading]) (g_parting_of one other leading) :=
 is_runN (L := 3) (b := b_parting_of) (ρ := [.fz ((eTu (eTu natD)) one), .fz ((eTu (eTu natD)) other), .fz ((eTu natD) leading)]) rfl
 (j_ifP (y_bNot (y_tT tr_B (y_f3 (fun a4 a5 a6 => c_is_leading a4 a5 a6) (y_v (ea := (eTu (eTu natD))) (a := one) rfl) (y_v (ea := (eTu (eTu natD))) (a := other) rfl) (y_v (ea := (eTu natD)) (a := leading) rfl)))) j_raiseP (j_nxP (j_ret (b := fun v => v) (y_f1 (fun a12 => c_tidied a12) (y_eL (yl_c1 (ol_listT (ea := natD)) (y_v (ea := (eTu natD)) (a := leading) rfl)))) (fun _ => .inl rfl))))
def g_orders (size : Nat) : M (List (List Nat)) :=
 (((pure ([] : List Nat)) >>= fun a1 => (pure ([] : List (List Nat))) >>= fun a2 => pure (a1 :: a2)) >>= fun found_3 => (((pure size) >>= fun a8 => iterM a8) >>= fun xs47 => forN xs47 found_3 (fun (k_13 : Nat) (s9 : (List (List Nat))) => ((pure ([] : List (List Nat))) >>= fun longer_14 => ((pure s9) >>= fun xs41 => forN xs41 longer_14 (fun (some_19 : List Nat) (s17 : (List (List Nat))) => ((((pure size) >>= fun a20 => iterM a20) >>= fun xs36 => compM (fun thing_21 : Nat => ((pure thing_21) >>= fun a28 => (pure some_19) >>= fun a29 => pure (!memB a28 a29))) (fun thing_21 : Nat => ((pure some_19) >>= fun a34 => ((pure thing_21) >>= fun a32 => (pure ([] : List Nat)) >>= fun a33 => pure (a32 :: a33)) >>= fun a35 => catM a34 a35)) xs36) >>= fun ys37 => room (List.length s17 + List.length ys37) >>= fun _ => (pure ((s17 ++ ys37))))) >>= fun s38 => ((pure s38) >>= fun found_40 => (pure found_40))))) >>= fun s42 => ((pure s42) >>= fun v46 => pure v46)))
theorem c_orders (size : Nat) : Is (eLi (eLi natD)) (f_orders [natD size]) (g_orders size) :=
 is_runN (L := 6) (b := b_orders) (ρ := [.fz (natD size), .no, .no, .no, .no, .no]) rfl
 (j_setN (ea := (eLi (eLi natD))) (ρ2 := fun found_3 => [.fz (natD size), .fz ((eLi (eLi natD)) found_3), .no, .no, .no, .no]) (fun _ => rfl) (y_eL (yl_lit (ea := (eLi natD)) (v_cons (y_eL (yl_lit (ea := natD) (v_nil (ea := natD)) (by decide))) (v_nil (ea := (eLi natD)))) (by decide))) (fun found_3 => (j_forN (ea := natD) (R := (fun (s4 : (List (List Nat))) (ρ : Mi.Env) => ∃ j5 j6 j7 : Sl, ρ = [.fz (natD size), .fz ((eLi (eLi natD)) s4), j5, j6, j7, .no])) (s0 := found_3) (i_r1 (y_v (ea := natD) (a := size) rfl)) ⟨_, _, _, rfl⟩ (fun k_13 s9 ρ h => by
 obtain ⟨j10, j11, j12, rfl⟩ := h
 exact ⟨_, rfl, (j_ownN (ea := (eLi natD)) (ρ2 := fun longer_14 => [.fz (natD size), .fz ((eLi (eLi natD)) s9), .fz (natD k_13), .ow (List.map (eLi natD) longer_14), j12, .no]) (fun _ => rfl) (yl_lit (ea := (eLi natD)) (v_nil (ea := (eLi natD))) (by decide)) (show 3 < 6 by omega) (fun longer_14 => (j_forN (ea := (eLi natD)) (R := (fun (s15 : (List (List Nat))) (ρ : Mi.Env) => ∃ j16 : Sl, ρ = [.fz (natD size), .fz ((eLi (eLi natD)) s9), .fz (natD k_13), .ow (List.map (eLi natD) s15), j16, .no])) (s0 := longer_14) (i_L (ea := (eLi natD)) (y_v (ea := (eLi (eLi natD))) (a := s9) rfl)) ⟨_, rfl⟩ (fun some_19 s17 ρ h => by
 obtain ⟨j18, rfl⟩ := h
 exact ⟨_, rfl, (j_end (j_ext (ea := (eLi natD)) (xs := s17) rfl (y_eL (yl_comp (ea := natD) (eb := (eLi natD)) (i_r1 (y_v (ea := natD) (a := size) rfl)) (fun thing_21 => ⟨_, rfl, (y_tB (y_2 (o_notIn enN (by decide)) (y_v (ea := natD) (a := thing_21) rfl) (y_v (ea := (eLi natD)) (a := some_19) rfl))), (y_2 (o_addL (ea := natD)) (y_v (ea := (eLi natD)) (a := some_19) rfl) (y_eL (yl_lit (ea := natD) (v_cons (y_v (ea := natD) (a := thing_21) rfl) (v_nil (ea := natD))) (by decide))))⟩))) (fun ys37 => (j_nx ⟨rfl, ⟨_, rfl⟩⟩))))⟩) (fun s38 ρ h => by
 obtain ⟨j39, rfl⟩ := h
 exact (j_fz (j_end (j_setN (ea := (eLi (eLi natD))) (ρ2 := fun found_40 => [.fz (natD size), .fz ((eLi (eLi natD)) found_40), .fz (natD k_13), .fz ((eLi (eLi natD)) s38), j39, .no]) (fun _ => rfl) (y_v (ea := (eLi (eLi natD))) (a := s38) rfl) (fun found_40 => (j_nx ⟨rfl, ⟨_, _, _, rfl⟩⟩)))))))))⟩) (fun s42 ρ h => by
 obtain ⟨j43, j44, j45, rfl⟩ := h
 exact (j_ret (b := fun v => v) (y_v (ea := (eLi (eLi natD))) (a := s42) rfl) (fun _ => .inl rfl))))))
def g_least_form (table : List (List Nat)) : M (List (List Nat)) :=
 (((pure table) >>= fun a1 => g_look_table a1) >>= fun _ => ((((((pure table) >>= fun a18 => pure (List.length a18)) >>= fun a19 => g_orders a19) >>= fun xs25 => mapMM (fun names_20 : List Nat => ((pure table) >>= fun a23 => (pure names_20) >>= fun a24 => g_call a23 a24)) xs25) >>= fun a26 => minM (eTu (eTu natD)) a26) >>= fun v27 => pure v27))
theorem c_least_form (table : List (List Nat)) : Is (eTu (eTu natD)) (f_least_form [(eTu (eTu natD)) table]) (g_least_form table) :=
 is_runN (L := 2) (b := b_least_form) (ρ := [.fz ((eTu (eTu natD)) table), .no]) rfl
 (j_drop (ea := eU) (y_f1 (fun a1 => c_look_table a1) (y_v (ea := (eTu (eTu natD))) (a := table) rfl)) (fun _ => (j_ret (b := fun v => v) (y_c1 (o_min (ea := (eTu (eTu natD)))) (y_eL (yl_map (ea := (eLi natD)) (eb := (eTu (eTu natD))) (i_L (ea := (eLi natD)) (y_f1 (fun a19 => c_orders a19) (y_c1 (o_lenT (ea := (eTu natD))) (y_v (ea := (eTu (eTu natD))) (a := table) rfl)))) (fun names_20 => ⟨_, rfl, (y_f2 (fun a23 a24 => c_call a23 a24) (y_v (ea := (eTu (eTu natD))) (a := table) rfl) (y_v (ea := (eLi natD)) (a := names_20) rfl))⟩)))) (fun _ => .inl rfl))))
end Pg

end

section
set_option Elab.async false
set_option linter.all false
set_option maxRecDepth 100000
set_option maxHeartbeats 4000000
/-! ## Pm0: running typed functions -/
namespace Mi
open PySem PySem.Spec L2 PySem.W
section
variable {α β γ σ τ : Type}
theorem ite_pp (c : Prop) [Decidable c] (a b : α) : (if c then (pure a : M α) else pure b) = pure (if c then a else b) := by split <;> rfl
theorem bnd_unit (m : M Unit) : (m >>= fun _ => pure ()) = m := bnd_ret m
theorem need_t {f : Unit → M α} : (need true >>= f) = f () := rfl
theorem need_p {p : Prop} [Decidable p] (h : p) {f : Unit → M α} : (need (decide p) >>= f) = f () := by
  rw [decide_eq_true h]
  rfl
theorem room_ok {k : Nat} (h : k ≤ 1000000) : room k = pure () := by
  have hs := sizeLine_eq
  unfold room
  rw [decide_eq_true (by omega)]
  rfl
theorem ixN_ok {xs : List α} {i : Nat} {d : α} (h : i < xs.length) : ixN xs i = pure (xs.getD i d) := by
  unfold ixN
  rw [List.getD_eq_getElem?_getD, List.getElem?_eq_getElem h]
  rfl
theorem ixN_some {xs : List α} {i : Nat} {a : α} (h : xs[i]? = some a) : ixN xs i = pure a := by
  unfold ixN
  rw [h]
  rfl
theorem catM_ok {xs ys : List α} (h : xs.length + ys.length ≤ 1000000) : catM xs ys = pure (xs ++ ys) := by
  unfold catM
  rw [room_ok h]
  rfl
theorem rgM_ok {k : Nat} (h : k ≤ 1000000) : rgM k = pure (List.range k) := by
  unfold rgM
  rw [decide_eq_true (by omega)]
  rfl
theorem iterM_ok {k : Nat} (h : k ≤ 1000000) : iterM k = pure (List.range k) := by
  unfold iterM
  rw [decide_eq_true (by omega)]
  rfl
theorem srtN_ok {xs : List Nat} (h : xs.length < 60) : srtN xs = pure (onceN xs) := by
  unfold srtN
  rw [decide_eq_true h]
  rfl
theorem srtI_ok {xs : List Int} (h : xs.length < 60) : srtI xs = pure (once xs) := by
  unfold srtI
  rw [decide_eq_true h]
  rfl
theorem lensN_ok {xs : List Nat} (h : xs.length < 60) : lensN xs = pure (onceN xs).length := by
  unfold lensN
  rw [decide_eq_true h]
  rfl
theorem idxM_ok [DecidableEq α] {xs : List α} {a : α} (hl : xs.length ≤ 1000000) (h : a ∈ xs) : idxM xs a = pure (xs.idxOf a) := by
  unfold idxM
  rw [room_ok hl, decide_eq_true h]
  rfl
theorem modN_ok {a b : Nat} (h : 0 < b) : modN' a b = pure (a % b) := by
  unfold modN'
  rw [decide_eq_true h]
  rfl
theorem divN_ok {a b : Nat} (h : 0 < b) (h2 : b ≤ 1000000) : divN' a b = pure (a / b) := by
  unfold divN'
  rw [decide_eq_true ⟨h, by omega⟩]
  rfl
theorem mulN_ok {a b : Nat} (h : a ≤ 1000000) : mulN' a b = pure (a * b) := by
  unfold mulN'
  rw [decide_eq_true (.inl (by omega))]
  rfl
theorem putN_ok {xs : List α} {i : Nat} {a : α} (h : i < xs.length) : putN xs i a = pure (xs.set i a) := by
  unfold putN
  rw [decide_eq_true h]
  rfl
theorem insM_ok {xs : List α} {i : Nat} {a : α} (h : xs.length ≤ 100000) (hi : i ≤ 100000) : insM xs i a = pure (xs.take i ++ a :: xs.drop i) := by
  unfold insM
  rw [decide_eq_true (by omega), room_ok (by omega)]
  rfl
theorem repM_ok {xs : List α} {k : Nat} (h : xs.length * k ≤ 1000000) : repM xs k = pure (List.replicate k xs).flatten := by
  unfold repM
  rw [room_ok h]
  rfl
/-! comprehensions -/
theorem noErr_pure {a : α} : noErr (pure a : M α) = pure a := rfl
theorem mapA_pure {g : α → M β} {h : α → β} : ∀ {xs : List α} {acc : List β}, (∀ x ∈ xs, g x = pure (h x)) → acc.length + xs.length ≤ 1000000 → mapA g xs acc = pure (acc ++ xs.map h)
  | [], acc, _, _ => by rw [List.map_nil, List.append_nil]; rfl
  | x :: r, acc, hg, hz => by
    have hs := sizeLine_eq
    rw [List.length_cons] at hz
    unfold mapA
    rw [hg x List.mem_cons_self, noErr_pure, ret_bnd, need_p (by omega), mapA_pure (fun y hy => hg y (List.mem_cons_of_mem _ hy)) (by rw [List.length_append, List.length_singleton]; omega), List.append_assoc]
    rfl
theorem mapMM_pure {g : α → M β} {xs : List α} (h : α → β) (hg : ∀ x ∈ xs, g x = pure (h x)) (hz : xs.length ≤ 1000000) : mapMM g xs = pure (xs.map h) := by
  unfold mapMM
  rw [mapA_pure hg (by simpa using hz)]
  rfl
theorem compA_pure {p : α → M Bool} {g : α → M β} {q : α → Bool} {h : α → β} : ∀ {xs : List α} {acc : List β}, (∀ x ∈ xs, p x = pure (q x)) → (∀ x ∈ xs, q x = true → g x = pure (h x)) → acc.length + xs.length ≤ 1000000 → compA p g xs acc = pure (acc ++ (xs.filter q).map h)
  | [], acc, _, _, _ => by rw [List.filter_nil, List.map_nil, List.append_nil]; rfl
  | x :: r, acc, hp, hg, hz => by
    have hs := sizeLine_eq
    rw [List.length_cons] at hz
    have ih : ∀ acc : List β, acc.length + r.length ≤ 1000000 → compA p g r acc = pure (acc ++ (r.filter q).map h) := fun acc hz => compA_pure (fun y hy => hp y (List.mem_cons_of_mem _ hy)) (fun y hy => hg y (List.mem_cons_of_mem _ hy)) hz
    unfold compA
    rw [hp x List.mem_cons_self, noErr_pure, ret_bnd]
    cases e : q x with
    | false => rw [if_neg Bool.false_ne_true, ih acc (by omega), List.filter_cons_of_neg (by rw [e]; exact Bool.false_ne_true)]
    | true =>
      rw [if_pos rfl, hg x List.mem_cons_self e, noErr_pure, ret_bnd, need_p (by omega), ih _ (by rw [List.length_append, List.length_singleton]; omega), List.filter_cons_of_pos e, List.append_assoc]
      rfl
theorem compM_pure {p : α → M Bool} {g : α → M β} {xs : List α} (q : α → Bool) (h : α → β) (hp : ∀ x ∈ xs, p x = pure (q x)) (hg : ∀ x ∈ xs, q x = true → g x = pure (h x)) (hz : xs.length ≤ 1000000) : compM p g xs = pure ((xs.filter q).map h) := by
  unfold compM
  rw [compA_pure hp hg (by simpa using hz)]
  rfl
theorem compM_filter {p : α → M Bool} {xs : List α} (q : α → Bool) (hp : ∀ x ∈ xs, p x = pure (q x)) (hz : xs.length ≤ 1000000) : compM p (fun x => pure x) xs = pure (xs.filter q) := by
  rw [compM_pure q (fun x => x) hp (fun _ _ _ => rfl) hz, List.map_id']
/-! loops -/
theorem forN_nil {s : σ} {f : α → σ → M σ} : forN [] s f = pure s := rfl
theorem forN_cons {a : α} {r : List α} {s : σ} {f : α → σ → M σ} : forN (a :: r) s f = f a s >>= fun s' => forN r s' f := rfl
/-- each turn is a step -/
theorem forN_foldl {f : α → σ → M σ} {g : σ → α → σ} (I : σ → Prop) : ∀ {xs : List α} {s : σ}, I s → (∀ x ∈ xs, ∀ s, I s → f x s = pure (g s x) ∧ I (g s x)) → forN xs s f = pure (xs.foldl g s) ∧ I (xs.foldl g s)
  | [], s, h, _ => ⟨rfl, h⟩
  | a :: r, s, h, st => by
    obtain ⟨e, h'⟩ := st a List.mem_cons_self s h
    rw [forN_cons, e, ret_bnd, List.foldl_cons]
    exact forN_foldl I h' fun x hx => st x (List.mem_cons_of_mem _ hx)
/-- by an invariant over how many have been -/
theorem forN_inv {f : α → σ → M σ} (I : List α → σ → Prop) : ∀ {xs : List α} {done : List α} {s : σ}, I done s → (∀ done x rest, ∀ s, done ++ x :: rest = done ++ x :: rest → I done s → x ∈ xs → ∃ s', f x s = pure s' ∧ I (done ++ [x]) s') → ∃ s', forN xs s f = pure s' ∧ I (done ++ xs) s'
  | [], done, s, h, _ => ⟨s, rfl, by rw [List.append_nil]; exact h⟩
  | a :: r, done, s, h, st => by
    obtain ⟨s', e, h'⟩ := st done a r s rfl h List.mem_cons_self
    obtain ⟨s2, e2, h2⟩ := forN_inv I (xs := r) (done := done ++ [a]) h' fun d x rest s hd hI hx => st d x rest s hd hI (List.mem_cons_of_mem _ hx)
    refine ⟨s2, ?_, by rw [List.append_assoc] at h2; exact h2⟩
    rw [forN_cons, e, ret_bnd]
    exact e2
/-- over 0 .. n - 1 -/
theorem forN_range {f : Nat → σ → M σ} (I : Nat → σ → Prop) {n : Nat} {s : σ} (h : I 0 s) (st : ∀ k s, k < n → I k s → ∃ s', f k s = pure s' ∧ I (k + 1) s') : ∃ s', forN (List.range n) s f = pure s' ∧ I n s' := by
  have key : ∀ m k s, k + m = n → I k s → ∃ s', forN (List.range' k m) s f = pure s' ∧ I n s' := fun m => by
    induction m with
    | zero =>
      intro k s e hI
      have : k = n := by omega
      subst this
      exact ⟨s, rfl, hI⟩
    | succ m ih =>
      intro k s e hI
      obtain ⟨s', e1, h1⟩ := st k s (by omega) hI
      obtain ⟨s2, e2, h2⟩ := ih (k + 1) s' (by omega) h1
      refine ⟨s2, ?_, h2⟩
      rw [List.range'_succ, forN_cons, e1, ret_bnd]
      exact e2
  rw [List.range_eq_range']
  exact key n 0 s (by omega) h
theorem forC_nil {s : σ} {f : α → σ → M (Ctl σ τ)} : forC [] s f = pure (.nx s) := rfl
/-- a loop that may return one answer -/
theorem forC_any {f : α → Unit → M (Ctl Unit τ)} {v : τ} (p : α → Bool) : ∀ {xs : List α}, (∀ x ∈ xs, f x () = pure (if p x = true then .rt v else .nx ())) → forC xs () f = pure (if xs.any p = true then .rt v else .nx ())
  | [], _ => rfl
  | a :: r, h => by
    unfold forC
    rw [h a List.mem_cons_self, ret_bnd, List.any_cons]
    cases e : p a with
    | true => rfl
    | false =>
      rw [Bool.false_or]
      exact forC_any p fun x hx => h x (List.mem_cons_of_mem _ hx)
/-- .. the first one's -/
theorem forC_find {f : α → Unit → M (Ctl Unit τ)} (p : α → Option τ) : ∀ {xs : List α}, (∀ x ∈ xs, f x () = pure (match p x with | some v => .rt v | none => .nx ())) → forC xs () f = pure (match xs.findSome? p with | some v => .rt v | none => .nx ())
  | [], _ => rfl
  | a :: r, h => by
    unfold forC
    rw [h a List.mem_cons_self, ret_bnd, List.findSome?_cons]
    cases e : p a with
    | some v => rfl
    | none => exact forC_find p fun x hx => h x (List.mem_cons_of_mem _ hx)
theorem go_ite {b : Bool} {v : τ} {s : σ} {f : σ → M γ} {g : τ → M γ} : Ctl.go (if b = true then .rt v else .nx s : Ctl σ τ) f g = if b = true then g v else f s := by cases b <;> rfl
theorem go_nx {s : σ} {f : σ → M γ} {g : τ → M γ} : Ctl.go (.nx s : Ctl σ τ) f g = f s := rfl
theorem go_rt {v : τ} {f : σ → M γ} {g : τ → M γ} : Ctl.go (.rt v : Ctl σ τ) f g = g v := rfl
/-- while: the invariant, the measure -/
theorem whN_inv {c : σ → M Bool} {f : σ → M σ} (I : σ → Prop) (μ : σ → Nat) (b : σ → Bool) (hc : ∀ s, I s → c s = pure (b s)) (st : ∀ s, I s → b s = true → ∃ s', f s = pure s' ∧ I s' ∧ μ s' < μ s) :
    ∀ (k : Nat) (s : σ), I s → μ s < k → ∃ s', whN c f k s = pure s' ∧ I s' ∧ b s' = false
  | 0, _, _, h => absurd h (Nat.not_lt_zero _)
  | k + 1, s, h, hm => by
    unfold whN
    rw [hc s h, ret_bnd]
    cases e : b s with
    | false => exact ⟨s, rfl, h, e⟩
    | true =>
      obtain ⟨s', e1, h1, hl⟩ := st s h e
      obtain ⟨s2, e2, h2, h3⟩ := whN_inv I μ b hc st k s' h1 (by omega)
      refine ⟨s2, ?_, h2, h3⟩
      rw [if_pos rfl, e1, ret_bnd]
      exact e2
/-! refusals -/
theorem refuse_bnd' {c : Str} {f : α → M β} : (refuse c : M α) >>= f = refuse c := rfl
theorem tryM_pure {names : List Str} {a : α} : tryM names (pure a) = pure (.ok a) := rfl
theorem tryM_refuse {names : List Str} {c : Str} (h : ranked names c = true) : tryM names (refuse c : M α) = pure (.error c) := by
  funext n
  show (if ranked names c = true then Res.ok (Except.error c) n else .bad) = _
  rw [if_pos h]
  rfl
/-! the town: a run that draws at most c times -/
def Tr (m : M α) (c : Nat) (P : α → Prop) : Prop := ∀ n, n + c ≤ 1000000 → ∃ a k, m n = .ok a k ∧ k ≤ n + c ∧ P a
variable {m : M α} {f : α → M β} {P : α → Prop} {Q : β → Prop} {c c' : Nat}
theorem tr_pure {a : α} (h : P a) : Tr (pure a) c P := fun n _ => ⟨a, n, rfl, by omega, h⟩
theorem tr_eq {a : α} (e : m = pure a) (h : P a) : Tr m c P := e ▸ tr_pure h
theorem tr_bind (h : Tr m c P) (h2 : ∀ a, P a → Tr (f a) c' Q) : Tr (m >>= f) (c' + c) Q := fun n hn => by
  obtain ⟨a, k, e, hk, hp⟩ := h n (by omega)
  obtain ⟨b, k2, e2, hk2, hq⟩ := h2 a hp k (by omega)
  exact ⟨b, k2, by rw [bnd_app, e]; exact e2, by omega, hq⟩
theorem tr_mono {P' : α → Prop} (h : Tr m c P) (hc : c ≤ c') (hp : ∀ a, P a → P' a) : Tr m c' P' := fun n hn => by
  obtain ⟨a, k, e, hk, h⟩ := h n (by omega)
  exact ⟨a, k, e, by omega, hp a h⟩
theorem tr_ite {b : Bool} {m m' : M α} (h : b = true → Tr m c P) (h' : b = false → Tr m' c P) : Tr (if b = true then m else m') c P := by
  cases b
  · exact h' rfl
  · exact h rfl
theorem tr_noErr (h : Tr m c P) : Tr (noErr m) c P := fun n hn => by
  obtain ⟨a, k, e, hk, h⟩ := h n hn
  exact ⟨a, k, noErr_ok e, hk, h⟩
theorem tr_mapA {g : α → M β} : ∀ {xs : List α} {acc : List β}, (∀ x ∈ xs, Tr (g x) c Q) → acc.length + xs.length ≤ 1000000 → Tr (mapA g xs acc) (xs.length * c) fun ys => ∃ zs : List β, ys = acc ++ zs ∧ zs.length = xs.length ∧ ∀ z ∈ zs, Q z
  | [], acc, _, _ => tr_pure ⟨[], by rw [List.append_nil], rfl, fun _ h => nomatch h⟩
  | x :: r, acc, hg, hz => by
    have hs := sizeLine_eq
    rw [List.length_cons] at hz
    unfold mapA
    refine tr_mono (tr_bind (c := c) (c' := r.length * c) (tr_noErr (hg x List.mem_cons_self)) fun y hy => ?_) (by rw [List.length_cons, Nat.succ_mul]; omega) fun _ h => h
    rw [need_p (by omega)]
    refine tr_mono (tr_mapA (fun z hz => hg z (List.mem_cons_of_mem _ hz)) (by rw [List.length_append, List.length_singleton]; omega)) (Nat.le_refl _) ?_
    rintro ys ⟨zs, rfl, hl, hq⟩
    refine ⟨y :: zs, by rw [List.append_assoc]; rfl, by rw [List.length_cons, hl]; rfl, fun z hz => ?_⟩
    rcases List.mem_cons.mp hz with e | e
    · rw [e]; exact hy
    · exact hq z e
theorem tr_mapMM {g : α → M β} {xs : List α} (hg : ∀ x ∈ xs, Tr (g x) c Q) (hz : xs.length ≤ 1000000) : Tr (mapMM g xs) (xs.length * c) fun ys => ys.length = xs.length ∧ ∀ y ∈ ys, Q y :=
  tr_mono (tr_mapA hg (by simpa using hz)) (Nat.le_refl _) fun ys ⟨zs, e, h1, h2⟩ => by
    rw [List.nil_append] at e
    subst e
    exact ⟨h1, h2⟩
theorem tr_forN {f : α → σ → M σ} (I : σ → Prop) : ∀ {xs : List α} {s : σ}, I s → (∀ x ∈ xs, ∀ s, I s → Tr (f x s) c I) → Tr (forN xs s f) (xs.length * c) I
  | [], s, h, _ => tr_pure h
  | a :: r, s, h, st => by
    rw [forN_cons]
    refine tr_mono (tr_bind (c := c) (c' := r.length * c) (st a List.mem_cons_self s h) fun s' h' => tr_forN I h' fun x hx => st x (List.mem_cons_of_mem _ hx)) (by rw [List.length_cons, Nat.succ_mul]; omega) fun _ h => h
theorem tr_forN_range {f : Nat → σ → M σ} (I : Nat → σ → Prop) {n : Nat} {s : σ} (h : I 0 s) (st : ∀ k s, k < n → I k s → Tr (f k s) c (I (k + 1))) : Tr (forN (List.range n) s f) (n * c) (I n) := by
  have key : ∀ m k s, k + m = n → I k s → Tr (forN (List.range' k m) s f) (m * c) (I n) := fun m => by
    induction m with
    | zero =>
      intro k s e hI
      have : k = n := by omega
      subst this
      exact tr_pure hI
    | succ m ih =>
      intro k s e hI
      rw [List.range'_succ, forN_cons]
      exact tr_mono (tr_bind (c := c) (c' := m * c) (st k s (by omega) hI) fun s' h' => ih (k + 1) s' (by omega) h') (by rw [Nat.succ_mul]; omega) fun _ h => h
  rw [List.range_eq_range']
  exact key n 0 s (by omega) h
/-- a loop of a law's: no turn returns -/
theorem tr_forC {f : α → σ → M (Ctl σ τ)} (I : σ → Prop) : ∀ {xs : List α} {s : σ}, I s → (∀ x ∈ xs, ∀ s, I s → Tr (f x s) c fun r => ∃ s', r = .nx s' ∧ I s') → Tr (forC xs s f) (xs.length * c) fun r => ∃ s', r = .nx s' ∧ I s'
  | [], s, h, _ => tr_pure ⟨s, rfl, h⟩
  | a :: r, s, h, st => by
    unfold forC
    refine tr_mono (tr_bind (c := c) (c' := r.length * c) (st a List.mem_cons_self s h) fun q => ?_) (by rw [List.length_cons, Nat.succ_mul]; omega) fun _ h => h
    rintro ⟨s', rfl, h'⟩
    exact tr_forC I h' fun x hx => st x (List.mem_cons_of_mem _ hx)
theorem law_tr {g : M Bool} (h : Tr g 1000000 fun b => b = true) : ∃ n, g 0 = .ok true n := by
  obtain ⟨b, k, e, _, rfl⟩ := h 0 (by omega)
  exact ⟨k, e⟩
/-! slices -/
theorem cut_to (xs : List α) (k : Nat) : cutL xs none (some (k : Int)) = xs.take k := by
  unfold cutL
  rw [HT.sIx_none, HT.sIx_nat, List.drop_zero, Nat.sub_zero]
  by_cases h : k ≤ xs.length
  · rw [Nat.min_eq_left h]
  · rw [Nat.min_eq_right (by omega), List.take_of_length_le (Nat.le_refl _), List.take_of_length_le (by omega)]
theorem cut_from (xs : List α) (k : Nat) : cutL xs (some (k : Int)) none = xs.drop k := by
  unfold cutL
  rw [HT.sIx_none, HT.sIx_nat]
  by_cases h : k ≤ xs.length
  · rw [Nat.min_eq_left h, List.take_of_length_le (by rw [List.length_drop]; omega)]
  · rw [Nat.min_eq_right (by omega), List.drop_of_length_le (Nat.le_refl _), List.drop_of_length_le (by omega)]
    simp
theorem cut_most (xs : List α) : cutL xs none (some (-1)) = xs.take (xs.length - 1) := by
  unfold cutL
  have e2 : HT.sIx xs.length xs.length (some (-1)) = xs.length - 1 := by
    unfold HT.sIx
    show (if (-1 : Int) < 0 then ((-1 : Int) + (xs.length : Int)).toNat else _) = _
    rw [if_pos (by omega)]
    omega
  rw [HT.sIx_none, e2, List.drop_zero, Nat.sub_zero]
theorem cut_last (xs : List α) : cutL xs (some (-1)) none = xs.drop (xs.length - 1) := by
  unfold cutL
  have e2 : HT.sIx xs.length 0 (some (-1)) = xs.length - 1 := by
    unfold HT.sIx
    show (if (-1 : Int) < 0 then ((-1 : Int) + (xs.length : Int)).toNat else _) = _
    rw [if_pos (by omega)]
    omega
  rw [HT.sIx_none, e2]
  exact List.take_of_length_le (by rw [List.length_drop]; omega)
theorem cut_mid (xs : List α) (i j : Nat) (h : j ≤ xs.length) : cutL xs (some (i : Int)) (some (j : Int)) = (xs.drop i).take (j - i) := by
  unfold cutL
  rw [HT.sIx_nat, HT.sIx_nat, Nat.min_eq_left h]
  by_cases z : i ≤ xs.length
  · rw [Nat.min_eq_left z]
  · rw [Nat.min_eq_right (by omega), List.drop_of_length_le (Nat.le_refl _), List.drop_of_length_le (by omega)]
    simp
end
end Mi

end

section
set_option Elab.async false
set_option linter.all false
set_option maxRecDepth 100000
set_option maxHeartbeats 4000000
/-! ## Pm1: draws, the laws' tables, what is looked at -/
namespace Pg
open PySem PySem.Spec L2 PySem.W Mi
/-- a table of s things, 1 to 6 -/
structure Tab (s : Nat) (T : List (List Nat)) : Prop extends Tb s T where
  pos : 1 ≤ s
  le6 : s ≤ 6
theorem Tab.tb {s : Nat} {T : List (List Nat)} (t : Tab s T) : Tb s T := t.toTb
/-! ### draws -/
theorem cell_ex (ns : List Int) (k : Nat) : ∃ c, g_law_cell ns k = pure c := by
  simp only [g_law_cell, ret_bnd]
  cases ns with
  | nil => exact ⟨0, rfl⟩
  | cons a r =>
    have h : k % (a :: r).length < (a :: r).length := Nat.mod_lt _ (by simp)
    refine ⟨(a :: r).getD (k % (a :: r).length) 0, ?_⟩
    rw [show (!(a :: r).isEmpty) = true from rfl, if_pos rfl, modN_ok (by simp), ret_bnd, ixN_ok (d := 0) h, ret_bnd]
theorem mix_ex (ns : List Int) (k : Nat) : ∃ c, g_law_mix ns k = pure c := by
  obtain ⟨c, hc⟩ := cell_ex ns k
  simp only [g_law_mix, ret_bnd, hc]
  rw [mulN_ok (by omega)]
  unfold modI'
  simp only [ret_bnd, bnd_bnd]
  rw [need_p (by omega)]
  generalize hz : ((c + ((104729 * (k + 1) : Nat) : Int)) % ((4294967291 : Nat) : Int)).toNat = z
  have hzl : z < 4294967291 := by
    have h1 : (c + ((104729 * (k + 1) : Nat) : Int)) % ((4294967291 : Nat) : Int) < ((4294967291 : Nat) : Int) := Int.emod_lt_of_pos _ (by omega)
    omega
  unfold powN'
  rw [bnd_bnd, need_p (by omega), ret_bnd, modN_ok (by omega), ret_bnd]
  generalize z ^ 5 % 4294967279 = y
  rw [divN_ok (by omega) (by omega), ret_bnd]
  unfold mulN'
  rw [bnd_bnd, need_p (by omega), ret_bnd, modN_ok (by omega)]
  exact ⟨_, rfl⟩
theorem draw_tr (ns : List Int) {many : Nat} (hm : 1 ≤ many) : Tr (g_law_draw ns many) 1 fun x => x < many := fun n hn => by
  obtain ⟨c, hc⟩ := mix_ex ns (n + 1)
  have hs := sizeLine_eq
  simp only [g_law_draw, ret_bnd, bnd_bnd, bnd_ret]
  have e : ∀ f : Unit → M Nat, (bumpT >>= f) n = f () (n + 1) := fun f => by
    rw [bnd_app]
    show Res.bd (if n < sizeLine then _ else _) f = _
    rw [if_pos (by omega)]
    rfl
  refine ⟨c / 8 % many, n + 1, ?_, by omega, Nat.mod_lt _ (by omega)⟩
  rw [e]
  have e2 : ∀ f : Nat → M Nat, (townLen >>= f) (n + 1) = f (n + 1) (n + 1) := fun f => rfl
  rw [e2, hc, ret_bnd, divN_ok (by omega) (by omega), ret_bnd, modN_ok (by omega)]
  rfl
theorem pick_tr {α : Type} (ns : List Int) {xs : List α} (h : xs ≠ []) : Tr (g_law_pick ns xs) 1 fun x => x ∈ xs := by
  have hl : 1 ≤ xs.length := List.length_pos_iff.mpr h
  simp only [g_law_pick, ret_bnd, bnd_ret]
  refine tr_bind (draw_tr ns hl) fun i hi => ?_
  rw [ixN_some (List.getElem?_eq_getElem hi)]
  exact tr_pure (List.getElem_mem hi)
/-! ### names -/
def namedT (T : List (List Nat)) (nm : List Nat) : List (List Nat) := (List.range nm.length).map fun a => (List.range nm.length).map fun b => nm.getD (cellT T (nm.idxOf a) (nm.idxOf b)) 0
/-- names of s things: each once -/
structure Nms (s : Nat) (nm : List Nat) : Prop where
  len : nm.length = s
  mem : ∀ i, i ∈ nm ↔ i < s
theorem Nms.ix {s : Nat} {nm : List Nat} (h : Nms s nm) {i : Nat} (hi : i < s) : nm.idxOf i < s := by
  have := List.idxOf_lt_length_of_mem ((h.mem i).mpr hi)
  rw [h.len] at this
  exact this
theorem Nms.get {s : Nat} {nm : List Nat} (h : Nms s nm) {i : Nat} (hi : i < s) : nm[i]? = some (nm.getD i 0) ∧ nm.getD i 0 < s := by
  have hl : i < nm.length := by rw [h.len]; exact hi
  have e : nm[i]? = some (nm.getD i 0) := by
    rw [List.getD_eq_getElem?_getD, List.getElem?_eq_getElem hl]
    rfl
  exact ⟨e, (h.mem _).mp (List.mem_of_getElem? e)⟩
theorem namedT_tb {s : Nat} {T : List (List Nat)} {nm : List Nat} (t : Tb s T) (h : Nms s nm) : Tb s (namedT T nm) where
  len := by unfold namedT; rw [List.length_map, List.length_range, h.len]
  row := fun r hr => by
    unfold namedT at hr
    obtain ⟨a, ha, rfl⟩ := List.mem_map.mp hr
    have ha : a < s := by rw [← h.len]; simpa using ha
    refine ⟨by rw [List.length_map, List.length_range, h.len], fun x hx => ?_⟩
    obtain ⟨b, hb, rfl⟩ := List.mem_map.mp hx
    have hb : b < s := by rw [← h.len]; simpa using hb
    exact (h.get (t.cell (h.ix ha) (h.ix hb)).2).2
theorem namedT_tab {s : Nat} {T : List (List Nat)} {nm : List Nat} (t : Tab s T) (h : Nms s nm) : Tab s (namedT T nm) := ⟨namedT_tb t.tb h, t.pos, t.le6⟩
theorem getD_map_range {α : Type} {n i : Nat} {f : Nat → α} {d : α} (h : i < n) : ((List.range n).map f).getD i d = f i := by
  rw [List.getD_eq_getElem?_getD, map_get _ (range_at h)]
  rfl
theorem Tb.ixR {s : Nat} {T : List (List Nat)} (t : Tb s T) {i : Nat} (hi : i < s) : Mi.ixN T i = pure (T.getD i []) := ixN_ok (by rw [t.len]; exact hi)
theorem Tb.ixC {s : Nat} {T : List (List Nat)} (t : Tb s T) {i j : Nat} (hi : i < s) (hj : j < s) : Mi.ixN (T.getD i []) j = pure (cellT T i j) := ixN_ok (d := 0) (by rw [(t.rowAt hi).1]; exact hj)
theorem Tb.lt {s : Nat} {T : List (List Nat)} (t : Tb s T) {i j : Nat} (hi : i < s) (hj : j < s) : cellT T i j < s := (t.cell hi hj).2
/-- table[i][j] -/
theorem Tb.ix2 {s : Nat} {T : List (List Nat)} (t : Tb s T) {i j : Nat} (hi : i < s) (hj : j < s) : (Mi.ixN T i >>= fun r => Mi.ixN r j) = pure (cellT T i j) := by rw [Tb.ixR t hi, ret_bnd, Tb.ixC t hi hj]
theorem Nms.ixM {s : Nat} {nm : List Nat} (h : Nms s nm) {i : Nat} (hi : i < s) : Mi.ixN nm i = pure (nm.getD i 0) := ixN_some (h.get hi).1
theorem forN_snoc {α β : Type} {f : α → List β → M (List β)} {g : α → β} {xs : List α} (hz : xs.length ≤ 1000) (h : ∀ x ∈ xs, ∀ acc : List β, acc.length ≤ 1000 → f x acc = pure (acc ++ [g x])) : forN xs [] f = pure (xs.map g) := by
  have key : ∀ (ys : List α) (acc : List β), (∀ y ∈ ys, y ∈ xs) → acc.length + ys.length ≤ 1000 → forN ys acc f = pure (acc ++ ys.map g) := fun ys => by
    induction ys with
    | nil => intro acc _ _; rw [List.map_nil, List.append_nil]; rfl
    | cons y r ih =>
      intro acc hy hl
      rw [List.length_cons] at hl
      rw [forN_cons, h y (hy y List.mem_cons_self) acc (by omega), ret_bnd, ih _ (fun z hz => hy z (List.mem_cons_of_mem _ hz)) (by rw [List.length_append, List.length_singleton]; omega), List.append_assoc]
      rfl
  have := key xs [] (fun _ h => h) (by simpa using hz)
  rw [this, List.nil_append]
theorem named_ok {s : Nat} {T : List (List Nat)} {nm : List Nat} (t : Tb s T) (h : Nms s nm) (hs : s ≤ 100) : g_law_named T nm = pure (namedT T nm) := by
  have hl := h.len
  simp only [g_law_named, ret_bnd, bnd_bnd]
  rw [iterM_ok (by omega), ret_bnd, mapMM_pure (fun i => nm.idxOf i) (fun x hx => idxM_ok (by omega) ((h.mem x).mpr (by rw [← hl]; simpa using hx))) (by simp; omega), ret_bnd, ret_bnd]
  rw [forN_snoc (g := fun a => (List.range nm.length).map fun b => nm.getD (cellT T (nm.idxOf a) (nm.idxOf b)) 0) (by simp; omega) fun a ha acc hacc => ?_]
  · rfl
  · have ha : a < nm.length := by simpa using ha
    simp only [ret_bnd, bnd_bnd]
    rw [mapMM_pure (fun b => nm.getD (cellT T (nm.idxOf a) (nm.idxOf b)) 0) (fun b hb => ?_) (by simp; omega), ret_bnd, room_ok (by omega), ret_bnd]
    have hb : b < nm.length := by simpa using hb
    rw [ixN_ok (d := 0) (by simpa using ha), ret_bnd, getD_map_range ha, Tb.ixR t (h.ix (by omega)), ret_bnd, ixN_ok (d := 0) (by simpa using hb), ret_bnd, getD_map_range hb, Tb.ixC t (h.ix (by omega)) (h.ix (by omega)), ret_bnd, h.ixM (Tb.lt t (h.ix (by omega)) (h.ix (by omega)))]
theorem named2_ok {s : Nat} {T : List (List Nat)} {nm : List Nat} (t : Tb s T) (h : Nms s nm) (hs : s ≤ 100) : g_law_named_2 T nm = pure (namedT T nm) := named_ok t h hs
theorem swap_nms {s : Nat} {nm : List Nat} (h : Nms s nm) {i j : Nat} (hi : i < s) (hj : j < s) : Nms s ((nm.set i (nm.getD j 0)).set j (nm.getD i 0)) where
  len := by rw [List.length_set, List.length_set, h.len]
  mem := fun x => by
    rw [← h.mem x]
    have li : i < nm.length := by rw [h.len]; exact hi
    have lj : j < nm.length := by rw [h.len]; exact hj
    have gi := (h.get hi).1
    have gj := (h.get hj).1
    constructor
    · intro hx
      obtain ⟨p, hp⟩ := List.mem_iff_getElem?.mp hx
      by_cases e : p = j
      · subst e
        rw [List.getElem?_set_self (by rw [List.length_set]; exact lj)] at hp
        cases hp
        exact List.mem_of_getElem? gi
      · rw [List.getElem?_set_ne (Ne.symm e)] at hp
        by_cases e2 : p = i
        · subst e2
          rw [List.getElem?_set_self li] at hp
          cases hp
          exact List.mem_of_getElem? gj
        · rw [List.getElem?_set_ne (Ne.symm e2)] at hp
          exact List.mem_of_getElem? hp
    · intro hx
      obtain ⟨p, hp⟩ := List.mem_iff_getElem?.mp hx
      by_cases e : p = i
      · subst e
        rw [gi] at hp
        cases hp
        exact List.mem_iff_getElem?.mpr ⟨j, List.getElem?_set_self (by rw [List.length_set]; exact lj)⟩
      · by_cases e2 : p = j
        · subst e2
          rw [gj] at hp
          cases hp
          refine List.mem_iff_getElem?.mpr ⟨i, ?_⟩
          rw [List.getElem?_set_ne e, List.getElem?_set_self li]
        · refine List.mem_iff_getElem?.mpr ⟨p, ?_⟩
          rw [List.getElem?_set_ne (Ne.symm e2), List.getElem?_set_ne (Ne.symm e)]
          exact hp
theorem range_nms (s : Nat) : Nms s (List.range s) := ⟨List.length_range, fun i => List.mem_range⟩
/-- the rows as they are drawn -/
def RowsOk (s k : Nat) (R : List (List Nat)) : Prop := R.length = k ∧ ∀ r ∈ R, r.length = s ∧ ∀ x ∈ r, x < s
theorem rows_tb {s : Nat} {R : List (List Nat)} (h : RowsOk s s R) : Tb s R := ⟨h.1, h.2⟩
theorem rows_set {s : Nat} {R : List (List Nat)} (hR : RowsOk s s R) {a b x : Nat} (ha : a < s) (hb : b < s) (hx : x < s) : RowsOk s s (R.set a ((R.getD a []).set b x)) := by
  have la : a < R.length := by rw [hR.1]; exact ha
  have e : R.getD a [] = R[a] := by rw [List.getD_eq_getElem?_getD, List.getElem?_eq_getElem la]; rfl
  have hw := hR.2 _ (List.getElem_mem la)
  refine ⟨by rw [List.length_set]; exact hR.1, fun r hr => ?_⟩
  rcases List.mem_or_eq_of_mem_set hr with h | h
  · exact hR.2 r h
  · rw [h, List.length_set, e]
    refine ⟨hw.1, fun y hy => ?_⟩
    rcases List.mem_or_eq_of_mem_set hy with h | h
    · exact hw.2 y h
    · rw [h]
      exact hx
/-- the law's table is a table -/
theorem table_tr (ns : List Int) {most : Nat} (h1 : 1 ≤ most) (h6 : most ≤ 6) : Tr (g_law_table ns most) 60 fun T => ∃ s, s ≤ most ∧ Tab s T := by
  simp only [g_law_table, ret_bnd, bnd_bnd, bnd_ret]
  refine tr_bind (draw_tr ns h1) fun z hz => ?_
  have hs : 1 ≤ 1 + z := by omega
  have hs6 : 1 + z ≤ 6 := by omega
  have hm : 1 + z ≤ most := by omega
  generalize 1 + z = s at hs hs6 hm
  refine tr_bind (draw_tr ns (by omega)) fun kd hkd => ?_
  simp only [iterM_ok (show s ≤ 1000000 by omega), rgM_ok (show s ≤ 1000000 by omega), ret_bnd]
  refine tr_bind (c := 36) (tr_mono (c := s * (s * 1)) (tr_forN_range (fun k R => RowsOk s k R) ⟨rfl, fun _ h => nomatch h⟩ fun a R ha hR => ?_) (Nat.le_trans (Nat.mul_le_mul hs6 (Nat.mul_le_mul_right 1 hs6)) (by omega)) fun _ h => h) fun R hR => ?_
  · refine tr_mono (c := 0 + s * 1) (tr_bind (P := fun w => w.length = s ∧ ∀ x ∈ w, x < s) (tr_mono (tr_forN_range (fun k w => w.length = k ∧ ∀ x ∈ w, x < s) ⟨rfl, fun _ h => nomatch h⟩ fun b w hb hw => ?_) (Nat.le_refl _) fun _ h => h) fun w hw => ?_) (by omega) fun _ h => h
    · unfold modI'
      rw [modN_ok (by omega), ret_bnd, need_p (by omega), ret_bnd, mulN_ok (by omega), ret_bnd, modN_ok (by omega), ret_bnd]
      refine tr_bind (c := 1) (c' := 0) (P := fun x => x < s) (tr_ite (fun h => ?_) fun h => draw_tr ns hs) fun x hx => ?_
      · have h : kd < 7 := of_decide_eq_true h
        have hl : kd < [(a + b) % s, min a b, max a b, a, b, (((a : Int) - (b : Int)) % (s : Int)).toNat, a * b % s].length := h
        rw [ixN_ok (d := 0) hl]
        refine tr_pure ?_
        have hm : [(a + b) % s, min a b, max a b, a, b, (((a : Int) - (b : Int)) % (s : Int)).toNat, a * b % s].getD kd 0 ∈ [(a + b) % s, min a b, max a b, a, b, (((a : Int) - (b : Int)) % (s : Int)).toNat, a * b % s] := by
          rw [List.getD_eq_getElem?_getD, List.getElem?_eq_getElem hl]
          exact List.getElem_mem hl
        generalize List.getD _ kd 0 = y at hm
        simp only [List.mem_cons, List.not_mem_nil, or_false] at hm
        have m1 : ((a : Int) - (b : Int)) % (s : Int) < s := Int.emod_lt_of_pos _ (by omega)
        have m2 : (a + b) % s < s := Nat.mod_lt _ (by omega)
        have m3 : a * b % s < s := Nat.mod_lt _ (by omega)
        rcases hm with h | h | h | h | h | h | h
        · omega
        · omega
        · omega
        · omega
        · omega
        · omega
        · rw [h]; exact m3
      · rw [room_ok (by rw [hw.1]; omega), ret_bnd]
        refine tr_pure ⟨by rw [List.length_append, hw.1]; rfl, fun y hy => ?_⟩
        rcases List.mem_append.mp hy with h | h
        · exact hw.2 y h
        · rw [List.mem_singleton.mp h]
          exact hx
    · rw [room_ok (by rw [hR.1]; omega), ret_bnd]
      refine tr_pure ⟨by rw [List.length_append, hR.1]; rfl, fun r hr => ?_⟩
      rcases List.mem_append.mp hr with h | h
      · exact hR.2 r h
      · rw [List.mem_singleton.mp h]
        exact hw
  refine tr_bind (draw_tr ns (by omega)) fun c hc => ?_
  refine tr_bind (c := 3) (P := fun R => RowsOk s s R) (tr_ite (fun h => ?_) fun h => tr_pure hR) fun R' hR' => ?_
  · refine tr_bind (draw_tr ns hs) fun y hy => tr_bind (draw_tr ns hs) fun p hp => ?_
    rw [Tb.ixR (rows_tb hR) hp, ret_bnd]
    refine tr_bind (draw_tr ns hs) fun q hq => ?_
    rw [putN_ok (by rw [((rows_tb hR).rowAt hp).1]; exact hq), ret_bnd]
    exact tr_pure (rows_set hR hp hq hy)
  refine tr_bind (c := 6) (P := Nms s) (tr_mono (c := s * 1) (tr_forN_range (fun _ nm => Nms s nm) (range_nms s) fun k nm hk h => ?_) (by omega) fun _ h => h) fun nm hN => ?_
  · refine tr_bind (draw_tr ns hs) fun x hx => ?_
    rw [h.ixM hx, ret_bnd, h.ixM hk, ret_bnd, putN_ok (by rw [h.len]; exact hk), ret_bnd, putN_ok (by rw [List.length_set, h.len]; exact hx)]
    exact tr_pure (swap_nms h hk hx)
  rw [mapMM_pure (fun x => x) (fun _ _ => rfl) (by rw [hR'.1]; omega), ret_bnd, List.map_id', named_ok (rows_tb hR') hN (by omega)]
  exact tr_pure ⟨s, hm, namedT_tab ⟨rows_tb hR', hs, hs6⟩ hN⟩
/-! ### what is looked at -/
section
variable {s : Nat} {T : List (List Nat)}
theorem look_table_ok (t : Tab s T) : g_look_table T = pure () := by
  have hl := t.len
  have h1 := t.pos
  have h6 := t.le6
  simp only [g_look_table, ret_bnd, bnd_bnd, bnd_ret, ite_pp]
  rw [hl, decide_eq_true h1, if_pos rfl, decide_eq_true h6, if_neg (by simp), mapMM_pure (xs := T) (fun row => decide (row.length = s)) (fun _ _ => rfl) (by omega), ret_bnd,
    mapMM_pure (fun row : List Nat => row.all fun x => decide (x < s)) (fun row hr => ?_) (by omega), ret_bnd]
  · have a1 : (T.map fun row => decide (row.length = s)).all id = true := by
      rw [List.all_map]
      exact List.all_eq_true.mpr fun r hr => decide_eq_true (t.tb.row r hr).1
    have a2 : (T.map fun row : List Nat => row.all fun x => decide (x < s)).all id = true := by
      rw [List.all_map]
      exact List.all_eq_true.mpr fun r hr => List.all_eq_true.mpr fun x hx => decide_eq_true ((t.tb.row r hr).2 x hx)
    rw [a1, ret_bnd, a2]
    rfl
  · rw [mapMM_pure (fun x => decide (x < s)) (fun x _ => by rw [decide_eq_true (Nat.zero_le x), if_pos rfl]) (by rw [(t.tb.row row hr).1]; omega), ret_bnd, List.all_map]
    rfl
theorem look_thing_ok (t : Tab s T) {x : Nat} (hx : x < s) : g_look_thing T x = pure () := by
  simp only [g_look_thing, ret_bnd, bnd_bnd, bnd_ret, ite_pp]
  rw [t.len, decide_eq_true (Nat.zero_le x), decide_eq_true hx]
  rfl
theorem look_thing2_ok (t : Tab s T) {x : Int} (h0 : 0 ≤ x) (hx : x < s) : g_look_thing_2 T x = pure () := by
  simp only [g_look_thing_2, ret_bnd, bnd_bnd, bnd_ret, ite_pp]
  rw [t.len, decide_eq_true (show ((0 : Nat) : Int) ≤ x from h0), decide_eq_true hx]
  rfl
theorem look_thing2_err (t : Tab s T) {x : Int} (h : ¬ (0 ≤ x ∧ x < s)) : g_look_thing_2 T x = refuse "BadThing" := by
  simp only [g_look_thing_2, ret_bnd, bnd_bnd, bnd_ret, ite_pp]
  rw [t.len]
  by_cases h0 : ((0 : Nat) : Int) ≤ x
  · rw [decide_eq_true h0, if_pos rfl, decide_eq_false (fun z => h ⟨h0, z⟩)]
    rfl
  · rw [decide_eq_false h0]
    rfl
theorem forN_unit {α : Type} {f : α → Unit → M Unit} : ∀ {xs : List α}, (∀ x ∈ xs, f x () = pure ()) → forN xs () f = pure ()
  | [], _ => rfl
  | a :: r, h => by
    rw [forN_cons, h a List.mem_cons_self, ret_bnd]
    exact forN_unit fun x hx => h x (List.mem_cons_of_mem _ hx)
/-- the first that is refused -/
theorem forN_refuse {α : Type} {c : Str} {f : α → Unit → M Unit} (p : α → Bool) : ∀ {xs : List α}, (∀ x ∈ xs, p x = false → f x () = pure ()) → (∀ x ∈ xs, p x = true → f x () = refuse c) → xs.any p = true → forN xs () f = refuse c
  | [], _, _, h => by cases h
  | a :: r, h1, h2, h => by
    rw [forN_cons]
    cases e : p a with
    | true => rw [h2 a List.mem_cons_self e]; rfl
    | false =>
      rw [h1 a List.mem_cons_self e, ret_bnd]
      rw [List.any_cons, e, Bool.false_or] at h
      exact forN_refuse p (fun x hx => h1 x (List.mem_cons_of_mem _ hx)) (fun x hx => h2 x (List.mem_cons_of_mem _ hx)) h
theorem look_things_ok (t : Tab s T) {xs : List Nat} (hx : ∀ x ∈ xs, x < s) : g_look_things T xs = pure () := by
  simp only [g_look_things, ret_bnd, bnd_bnd, bnd_ret, bnd_unit]
  rw [look_table_ok t, ret_bnd, forN_unit fun x h => look_thing_ok t (hx x h)]
theorem look_things2_ok (t : Tab s T) {xs : List Int} (hx : ∀ x ∈ xs, 0 ≤ x ∧ x < s) : g_look_things_2 T xs = pure () := by
  simp only [g_look_things_2, ret_bnd, bnd_bnd, bnd_ret, bnd_unit]
  rw [look_table_ok t, ret_bnd, forN_unit fun x h => look_thing2_ok t (hx x h).1 (hx x h).2]
theorem look_things2_err (t : Tab s T) {xs : List Int} (hx : ∃ x ∈ xs, ¬ (0 ≤ x ∧ x < s)) : g_look_things_2 T xs = refuse "BadThing" := by
  simp only [g_look_things_2, ret_bnd, bnd_bnd, bnd_ret, bnd_unit]
  obtain ⟨x, hx, hn⟩ := hx
  rw [look_table_ok t, ret_bnd]
  refine forN_refuse (fun x : Int => !decide (0 ≤ x ∧ x < s)) (fun y _ hy => ?_) (fun y _ hy => ?_) (List.any_eq_true.mpr ⟨x, hx, by rw [decide_eq_false hn]; rfl⟩)
  · have hy : 0 ≤ y ∧ y < s := by simpa using hy
    exact look_thing2_ok t hy.1 hy.2
  · exact look_thing2_err t fun z => by rw [decide_eq_true z] at hy; cases hy
end
end Pg

end

section
set_option Elab.async false
set_option linter.all false
set_option maxRecDepth 100000
set_option maxHeartbeats 4000000
/-! ## Po: values in order; sorted(..), min(..) -/
namespace Mi
open PySem PySem.Spec L2 PySem.W
/-- the first difference decides, else the shorter is the less -/
def lstLt {α : Type} [DecidableEq α] (lt : α → α → Bool) : List α → List α → Bool
  | [], [] => false
  | [], _ :: _ => true
  | _ :: _, [] => false
  | x :: xs, y :: ys => if x = y then lstLt lt xs ys else lt x y
/-- a strict order, total -/
structure Str0 {α : Type} (lt : α → α → Bool) : Prop where
  irr : ∀ a, lt a a = false
  trans : ∀ a b c, lt a b = true → lt b c = true → lt a c = true
  tot : ∀ a b, a ≠ b → lt a b = true ∨ lt b a = true
theorem Str0.asym {α : Type} {lt : α → α → Bool} (h : Str0 lt) {a b : α} (h1 : lt a b = true) : lt b a = false := by
  cases e : lt b a with
  | false => rfl
  | true => rw [← h.irr a, h.trans a b a h1 e]
theorem str0_nat : Str0 (fun a b : Nat => decide (a < b)) := ⟨fun a => by simp, fun a b c h1 h2 => by simp at h1 h2 ⊢; omega, fun a b h => by simp; omega⟩
theorem str0_lst {α : Type} [DecidableEq α] {lt : α → α → Bool} (h : Str0 lt) : Str0 (lstLt lt) where
  irr a := by
    induction a with
    | nil => rfl
    | cons x r ih => unfold lstLt; rw [if_pos rfl]; exact ih
  trans a := by
    induction a with
    | nil =>
      intro b c h1 h2
      cases b with
      | nil => cases h1
      | cons y t =>
        cases c with
        | nil => cases h2
        | cons => rfl
    | cons x r ih =>
      intro b c h1 h2
      cases b with
      | nil => cases h1
      | cons y t =>
        cases c with
        | nil => cases h2
        | cons z u =>
          unfold lstLt at h1 h2 ⊢
          by_cases e1 : x = y
          · subst e1
            rw [if_pos rfl] at h1
            by_cases e2 : x = z
            · rw [if_pos e2] at h2 ⊢
              exact ih t u h1 h2
            · rw [if_neg e2] at h2 ⊢
              exact h2
          · rw [if_neg e1] at h1
            by_cases e2 : y = z
            · subst e2
              rw [if_neg e1]
              exact h1
            · rw [if_neg e2] at h2
              have h3 := h.trans x y z h1 h2
              have e3 : x ≠ z := by
                rintro rfl
                rw [h.irr] at h3
                cases h3
              rw [if_neg e3]
              exact h3
  tot a := by
    induction a with
    | nil =>
      intro b hb
      cases b with
      | nil => exact absurd rfl hb
      | cons => exact .inl rfl
    | cons x r ih =>
      intro b hb
      cases b with
      | nil => exact .inr rfl
      | cons y t =>
        unfold lstLt
        by_cases e : x = y
        · subst e
          rw [if_pos rfl, if_pos rfl]
          exact ih t fun z => hb (by rw [z])
        · rw [if_neg e, if_neg (Ne.symm e)]
          exact h.tot x y e
def prLt {α β : Type} [DecidableEq α] (lt : α → α → Bool) (lt' : β → β → Bool) (p q : α × β) : Bool := if p.1 = q.1 then lt' p.2 q.2 else lt p.1 q.1
/-- a way to write down values that have an order, as Python has it -/
structure Cm {α : Type} [DecidableEq α] (e : α → D) extends Enc e where
  lt : α → α → Bool
  str : Str0 lt
  alike : ∀ a b, PySem.W.alike (e a) (e b) = true
  notNone : ∀ a, isNone (e a) = false
  lt_eq : ∀ a b, dataLt (e a) (e b) = lt a b
section
variable {α β : Type} [DecidableEq α] [DecidableEq β] {e : α → D} {e' : β → D}
def cmN : Cm natD where
  toEnc := enN
  lt a b := decide (a < b)
  str := str0_nat
  alike a b := by show PySem.W.alike (.int a) (.int b) = true; simp only [PySem.W.alike]
  notNone a := rfl
  lt_eq a b := (dataLt_int a b).trans (decide_eq_decide.mpr (by omega))
theorem alikeAll_enc (C : Cm e) : ∀ xs ys : List α, PySem.W.alikeAll (xs.map e) (ys.map e) = true
  | [], _ => by rw [List.map_nil, alikeAll]
  | _ :: _, [] => by rw [List.map_nil, List.map_cons, alikeAll]
  | x :: xs, y :: ys => by
    rw [List.map_cons, List.map_cons, alikeAll, C.alike x y, alikeAll_enc C xs ys]
    rfl
open PyProof.Rows in
theorem lexAll_enc (C : Cm e) : ∀ xs ys : List α, PyProof.Rows.lexLt itemOrd (keyToksAll (xs.map e)) (keyToksAll (ys.map e)) = lstLt C.lt xs ys
  | [], [] => lex_irrefl _
  | [], y :: ys => by
    rw [List.map_nil, List.map_cons, toks_all_cons]
    simp only [keyToksAll]
    rw [lex_diff (O := itemOrd) (by simp)]
    rfl
  | x :: xs, [] => by
    rw [List.map_nil, List.map_cons, toks_all_cons]
    simp only [keyToksAll]
    rw [lex_diff (O := itemOrd) (by simp)]
    rfl
  | x :: xs, y :: ys => by
    rw [List.map_cons, List.map_cons, lstLt]
    by_cases h : x = y
    · rw [if_pos h, dataLt_all_yes (C.alike x y) (by rw [C.eqv, decide_eq_true_eq]; exact h), lexAll_enc C xs ys]
    · rw [if_neg h, dataLt_all_no (C.alike x y) (by rw [C.eqv, decide_eq_false_iff_not]; exact h)]
      exact C.lt_eq x y
def cmL (C : Cm e) : Cm (eLi e) where
  toEnc := enL C.toEnc
  lt := lstLt C.lt
  str := str0_lst C.str
  alike xs ys := by show PySem.W.alike (.list _) (.list _) = true; simp only [PySem.W.alike]; exact alikeAll_enc C xs ys
  notNone a := rfl
  lt_eq xs ys := (dataLt_list _ _).trans (lexAll_enc C xs ys)
def cmT (C : Cm e) : Cm (eTu e) where
  toEnc := enT C.toEnc
  lt := lstLt C.lt
  str := str0_lst C.str
  alike xs ys := by show PySem.W.alike (.tuple _) (.tuple _) = true; simp only [PySem.W.alike]; exact alikeAll_enc C xs ys
  notNone a := rfl
  lt_eq xs ys := (dataLt_tuple _ _).trans (lexAll_enc C xs ys)
open PyProof.Rows in
def cmP (C : Cm e) (C' : Cm e') : Cm (eP e e') where
  toEnc := enP C.toEnc C'.toEnc
  lt := prLt C.lt C'.lt
  str := {
    irr := fun p => by unfold prLt; rw [if_pos rfl]; exact C'.str.irr _
    trans := fun p q r h1 h2 => by
      unfold prLt at h1 h2 ⊢
      by_cases e1 : p.1 = q.1
      · rw [if_pos e1] at h1
        by_cases e2 : q.1 = r.1
        · rw [if_pos e2] at h2
          rw [if_pos (e1.trans e2)]
          exact C'.str.trans _ _ _ h1 h2
        · rw [if_neg e2] at h2
          rw [if_neg (e1 ▸ e2), e1]
          exact h2
      · rw [if_neg e1] at h1
        by_cases e2 : q.1 = r.1
        · rw [← e2, if_neg e1]
          exact h1
        · rw [if_neg e2] at h2
          have h3 := C.str.trans _ _ _ h1 h2
          have e3 : p.1 ≠ r.1 := fun z => by rw [z, C.str.irr] at h3; cases h3
          rw [if_neg e3]
          exact h3
    tot := fun p q h => by
      unfold prLt
      by_cases e1 : p.1 = q.1
      · rw [if_pos e1, if_pos e1.symm]
        exact C'.str.tot _ _ fun z => h (Prod.ext e1 z)
      · rw [if_neg e1, if_neg (Ne.symm e1)]
        exact C.str.tot _ _ e1 }
  alike p q := by
    show PySem.W.alike (.tuple [_, _]) (.tuple [_, _]) = true
    simp only [PySem.W.alike, alikeAll, C.alike, C'.alike, Bool.and_self]
  notNone a := rfl
  lt_eq p q := by
    unfold prLt
    refine (dataLt_tuple _ _).trans ?_
    by_cases h : p.1 = q.1
    · rw [if_pos h, dataLt_all_yes (C.alike p.1 q.1) (by rw [C.eqv, decide_eq_true_eq]; exact h)]
      by_cases h2 : p.2 = q.2
      · rw [dataLt_all_yes (C'.alike p.2 q.2) (by rw [C'.eqv, decide_eq_true_eq]; exact h2), lex_irrefl, h2, C'.str.irr]
      · rw [dataLt_all_no (C'.alike p.2 q.2) (by rw [C'.eqv, decide_eq_false_iff_not]; exact h2)]
        exact C'.lt_eq p.2 q.2
    · rw [if_neg h, dataLt_all_no (C.alike p.1 q.1) (by rw [C.eqv, decide_eq_false_iff_not]; exact h)]
      exact C.lt_eq p.1 q.1
theorem dataLe_lt (C : Cm e) (a b : α) : PySem.W.dataLe false id (e a) (e b) = !C.lt b a := by
  rw [← C.lt_eq]
  rfl
theorem allAl_enc (C : Cm e) (xs : List α) : allAl (xs.map e) = true := by
  unfold allAl
  refine List.all_eq_true.mpr fun d hd => List.all_eq_true.mpr fun d' hd' => ?_
  obtain ⟨x, _, rfl⟩ := List.mem_map.mp hd
  obtain ⟨y, _, rfl⟩ := List.mem_map.mp hd'
  exact C.alike x y
/-- xs, sorted -/
def srt (lt : α → α → Bool) (xs : List α) : List α := xs.mergeSort fun a b => !lt b a
theorem sortM_ok (C : Cm e) (h : C.dep ≤ 50) {xs : List α} (hk : (∀ x ∈ xs, sortK (e x) = true) ∨ (∀ x ∈ xs, sortN (e x) = true)) (hl : xs.length ≤ 1000000) : sortM e xs = pure (srt C.lt xs) := by
  have hs := sizeLine_eq
  have ok : sortOk (xs.map e) = true := by
    unfold sortOk
    have h1 : okD (.list (xs.map e)) = true := enc_okD (enL C.toEnc) (show C.dep + 1 ≤ 60 by omega) xs
    rw [h1, allAl_enc C, List.length_map, decide_eq_true (show xs.length ≤ sizeLine by omega)]
    rcases hk with hk | hk
    · rw [show (xs.map e).all sortK = true from List.all_eq_true.mpr fun d hd => by obtain ⟨x, hx, rfl⟩ := List.mem_map.mp hd; exact hk x hx]
      rfl
    · rw [show (xs.map e).all sortN = true from List.all_eq_true.mpr fun d hd => by obtain ⟨x, hx, rfl⟩ := List.mem_map.mp hd; exact hk x hx, Bool.or_true]
      rfl
  unfold sortM srt
  rw [ok, need_t]
  congr 2
  funext a b
  exact dataLe_lt C a b
theorem sortK_T {xs : List α} (h : xs ≠ []) : sortK (eTu e xs) = true := by
  cases xs with
  | nil => exact absurd rfl h
  | cons => rfl
theorem srt_perm (lt : α → α → Bool) (xs : List α) : (srt lt xs).Perm xs := List.mergeSort_perm _ _
theorem mem_srt {lt : α → α → Bool} {xs : List α} {x : α} : x ∈ srt lt xs ↔ x ∈ xs := (srt_perm lt xs).mem_iff
theorem srt_len {lt : α → α → Bool} {xs : List α} : (srt lt xs).length = xs.length := (srt_perm lt xs).length_eq
theorem srt_nodup {lt : α → α → Bool} {xs : List α} : (srt lt xs).Nodup ↔ xs.Nodup := (srt_perm lt xs).nodup_iff
/-- sorted is sorted -/
theorem srt_sorted {lt : α → α → Bool} (h : Str0 lt) (xs : List α) : (srt lt xs).Pairwise fun a b => lt b a = false := by
  have := List.pairwise_mergeSort (le := fun a b => !lt b a) (fun a b c h1 h2 => by
    simp only [Bool.not_eq_true'] at h1 h2 ⊢
    by_cases e1 : a = b
    · rw [e1]; exact h2
    · by_cases e2 : b = c
      · rw [← e2]; exact h1
      · have a1 := (h.tot a b e1).resolve_right (by rw [h1]; exact Bool.false_ne_true)
        have a2 := (h.tot b c e2).resolve_right (by rw [h2]; exact Bool.false_ne_true)
        exact h.asym (h.trans _ _ _ a1 a2)) (fun a b => by
    by_cases e : a = b
    · subst e
      rw [h.irr]
      rfl
    · rcases h.tot a b e with z | z
      · rw [h.asym z]; rfl
      · rw [h.asym z]; simp) xs
  exact this.imp fun {a b} hab => by simpa using hab
/-- two sorted lists of the same things are one -/
theorem sorted_uniq {lt : α → α → Bool} (h : Str0 lt) {xs ys : List α} (p : xs.Perm ys) (h1 : xs.Pairwise fun a b => lt b a = false) (h2 : ys.Pairwise fun a b => lt b a = false) : xs = ys :=
  p.eq_of_pairwise (fun a b _ _ c1 c2 => by
    by_cases e : a = b
    · exact e
    · rcases h.tot a b e with z | z
      · rw [z] at c2; cases c2
      · rw [z] at c1; cases c1) h1 h2
theorem srt_eq {lt : α → α → Bool} (h : Str0 lt) {xs ys : List α} (p : xs.Perm ys) : srt lt xs = srt lt ys := sorted_uniq h ((srt_perm lt xs).trans (p.trans (srt_perm lt ys).symm)) (srt_sorted h xs) (srt_sorted h ys)
theorem srt_id {lt : α → α → Bool} (h : Str0 lt) {xs : List α} (s : xs.Pairwise fun a b => lt b a = false) : srt lt xs = xs := sorted_uniq h (srt_perm lt xs) (srt_sorted h xs) s
/-- min(xs) -/
def minOf (lt : α → α → Bool) (x : α) (r : List α) : α := r.foldl (fun a y => if lt y a = true then y else a) x
theorem minM_ok (C : Cm e) (h : C.dep ≤ 50) {x : α} {r : List α} : minM e (x :: r) = pure (minOf C.lt x r) := by
  have ok : minOk ((x :: r).map e) = true := by
    unfold minOk
    have h1 : okD (.list ((x :: r).map e)) = true := enc_okD (enL C.toEnc) (show C.dep + 1 ≤ 60 by omega) _
    rw [h1, allAl_enc C, show ((x :: r).map e).all (fun d => !isNone d) = true from List.all_eq_true.mpr fun d hd => by obtain ⟨y, _, rfl⟩ := List.mem_map.mp hd; rw [C.notNone]; rfl]
    rfl
  unfold minM minL minOf
  rw [ok, need_t]
  simp only [C.lt_eq]
theorem minOf_spec {lt : α → α → Bool} (h : Str0 lt) : ∀ (r : List α) (x : α), minOf lt x r ∈ x :: r ∧ ∀ y ∈ x :: r, lt y (minOf lt x r) = false
  | [], x => ⟨List.mem_cons_self, fun y hy => by rw [List.mem_singleton.mp hy]; exact h.irr x⟩
  | z :: r, x => by
    have e : minOf lt x (z :: r) = minOf lt (if lt z x = true then z else x) r := rfl
    rw [e]
    obtain ⟨h1, h2⟩ := minOf_spec h r (if lt z x = true then z else x)
    refine ⟨?_, fun y hy => ?_⟩
    · rcases List.mem_cons.mp h1 with q | q
      · rw [q]
        split
        · exact List.mem_cons_of_mem _ List.mem_cons_self
        · exact List.mem_cons_self
      · exact List.mem_cons_of_mem _ (List.mem_cons_of_mem _ q)
    · have key : lt (if lt z x = true then z else x) (minOf lt (if lt z x = true then z else x) r) = false := h2 _ List.mem_cons_self
      rcases List.mem_cons.mp hy with q | hy
      · subst q
        cases zx : lt z y with
        | false => rw [zx] at key; exact key
        | true =>
          rw [zx] at key
          have key : lt z (minOf lt z r) = false := key
          show lt y (minOf lt z r) = false
          cases q : lt y (minOf lt z r) with
          | false => rfl
          | true => rw [h.trans _ _ _ zx q] at key; cases key
      · rcases List.mem_cons.mp hy with q | hy
        · subst q
          cases zx : lt y x with
          | true => rw [zx] at key; exact key
          | false =>
            rw [zx] at key
            have key : lt x (minOf lt x r) = false := key
            show lt y (minOf lt x r) = false
            cases q : lt y (minOf lt x r) with
            | false => rfl
            | true =>
              by_cases e2 : y = x
              · rw [e2, key] at q; cases q
              · rcases h.tot y x e2 with w | w
                · rw [w] at zx; cases zx
                · rw [h.trans _ _ _ w q] at key; cases key
        · exact h2 y (List.mem_cons_of_mem _ hy)
/-! comparing what is written down -/
theorem eqD_enc (E : Enc e) (h : E.dep ≤ 60) (a b : α) : eqD (e a) (e b) = pure (decide (a = b)) := by
  unfold eqD
  rw [enc_okD E h, enc_okD E h, E.eqv]
  rfl
theorem neD_enc (E : Enc e) (h : E.dep ≤ 60) (a b : α) : neD (e a) (e b) = pure (!decide (a = b)) := by
  unfold neD
  rw [enc_okD E h, enc_okD E h, E.eqv]
  rfl
theorem neD_same (E : Enc e) (h : E.dep ≤ 60) (a : α) : neD (e a) (e a) = pure false := by rw [neD_enc E h, decide_eq_true rfl]; rfl
theorem eqD_same (E : Enc e) (h : E.dep ≤ 60) (a : α) : eqD (e a) (e a) = pure true := by rw [eqD_enc E h, decide_eq_true rfl]
end
def refD (w : Str) : D := .tuple [.str "refused", .str w]
def enRef : Enc refD where
  dep := 1
  plain w := rfl
  eqv a b := by
    show (PyData.eqv (.str "refused") (.str "refused") && (PyData.eqv (.str a) (.str b) && true)) = _
    have h1 := encS.eqv "refused" "refused"
    have h2 := encS.eqv a b
    rw [h1, h2, decide_eq_true rfl, Bool.true_and, Bool.and_true]
  le w := by show 1 ≤ 1; omega
theorem refD_eP (w : Str) : eP eS eS ("refused", w) = refD w := rfl
/-- a table is no refusal -/
theorem eqv_tab_ref {r : List Nat} {T : List (List Nat)} {w : Str} : PyData.eqv (tabD (r :: T)) (refD w) = false := by
  show (PyData.eqv (rowD r) (.str "refused") && PyData.eqvAll (T.map rowD) [.str w]) = false
  have : PyData.eqv (rowD r) (.str "refused") = false := rfl
  rw [this]
  rfl
end Mi

end

section
/-! ## Tx1: terms written down and read (plain: no program in sight). For law k42 -/
set_option linter.all false
namespace Tx
/-- terms -/
inductive Trm where
  | lt (c : Nat)
  | pr (a b : Trm)
/-- what stands in a row: an opening or a closing sign, a finished term and how deep it is, or another sign -/
inductive It where
  | op
  | cl
  | it (t : Trm) (h : Nat)
  | ot (c : Nat)
abbrev Wd (a b : Trm) (h k : Nat) : List It := [.op, .it a h, .it b k, .cl]
abbrev On (a b : Trm) (h k : Nat) : It := .it (.pr a b) (1 + max h k)
/-- a term is read from a row's front, the rest stays -/
inductive Ps : List It → Trm → Nat → List It → Prop
  | it {t : Trm} {h : Nat} {r : List It} : Ps (.it t h :: r) t h r
  | pr {w r1 r2 : List It} {a b : Trm} {h k : Nat} : Ps w a h r1 → Ps r1 b k (.cl :: r2) → Ps (.op :: w) (.pr a b) (1 + max h k) r2
theorem Ps.det {w : List It} {a : Trm} {h : Nat} {r : List It} (p : Ps w a h r) : ∀ {a' : Trm} {h' : Nat} {r' : List It}, Ps w a' h' r' → a = a' ∧ h = h' ∧ r = r' := by
  induction p with
  | it => intro a' h' r' q; cases q; exact ⟨rfl, rfl, rfl⟩
  | pr p1 p2 ih1 ih2 =>
    intro a' h' r' q
    cases q with
    | pr q1 q2 =>
      obtain ⟨rfl, rfl, rfl⟩ := ih1 q1
      obtain ⟨rfl, rfl, e⟩ := ih2 q2
      cases e
      exact ⟨rfl, rfl, rfl⟩
/-- one reduction: what is read of the whole row stays -/
theorem red_to {a b : Trm} {h k : Nat} {v : List It} {w : List It} {T : Trm} {H : Nat} {r : List It} (p : Ps w T H r) : ∀ {u : List It}, w = u ++ Wd a b h k ++ v →
    (∃ u', r = u' ++ Wd a b h k ++ v ∧ Ps (u ++ On a b h k :: v) T H (u' ++ On a b h k :: v)) ∨ ((∃ q, v = q ++ r) ∧ Ps (u ++ On a b h k :: v) T H r) := by
  induction p with
  | @it t h' r' =>
    intro u e
    cases u with
    | nil => cases e
    | cons x u =>
      obtain ⟨rfl, e2⟩ := List.cons.inj e
      exact .inl ⟨u, e2, .it⟩
  | @pr w r1 r2 a' b' h' k' p1 p2 ih1 ih2 =>
    intro u e
    cases u with
    | nil =>
      obtain ⟨_, e2⟩ := List.cons.inj e
      subst e2
      cases p1
      cases p2
      exact .inr ⟨⟨[], rfl⟩, .it⟩
    | cons x u =>
      obtain ⟨rfl, e2⟩ := List.cons.inj e
      rcases ih1 e2 with ⟨u1, e3, q1⟩ | ⟨⟨q, e3⟩, q1⟩
      · rcases ih2 e3 with ⟨u2, e4, q2⟩ | ⟨⟨q, e4⟩, q2⟩
        · cases u2 with
          | nil => cases e4
          | cons y u2 =>
            obtain ⟨rfl, e5⟩ := List.cons.inj e4
            exact .inl ⟨u2, e5, .pr q1 q2⟩
        · exact .inr ⟨⟨q ++ [.cl], by rw [List.append_assoc]; exact e4⟩, .pr q1 q2⟩
      · -- the first ended behind the window: the second is read behind it too
        have tail : ∀ {w : List It} {T : Trm} {H : Nat} {r : List It}, Ps w T H r → ∃ q, w = q ++ r := by
          intro w T H r p
          induction p with
          | @it t h r => exact ⟨[.it t h], rfl⟩
          | @pr w r1 r2 a b h k _ _ i1 i2 =>
            obtain ⟨q1, rfl⟩ := i1
            obtain ⟨q2, rfl⟩ := i2
            exact ⟨.op :: q1 ++ q2 ++ [.cl], by simp⟩
        obtain ⟨q2, e4⟩ := tail p2
        exact .inr ⟨⟨q ++ q2 ++ [.cl], by rw [e3, e4]; simp⟩, .pr q1 p2⟩
theorem Ps.tail {w : List It} {T : Trm} {H : Nat} {r : List It} (p : Ps w T H r) : ∃ q, w = q ++ r := by
  induction p with
  | @it t h r => exact ⟨[.it t h], rfl⟩
  | @pr w r1 r2 a b h k _ _ i1 i2 =>
    obtain ⟨q1, rfl⟩ := i1
    obtain ⟨q2, rfl⟩ := i2
    exact ⟨.op :: q1 ++ q2 ++ [.cl], by simp⟩
theorem red_from {a b : Trm} {h k : Nat} {v : List It} {w : List It} {T : Trm} {H : Nat} {r : List It} (p : Ps w T H r) : ∀ {u : List It}, w = u ++ On a b h k :: v →
    (∃ u', r = u' ++ On a b h k :: v ∧ Ps (u ++ Wd a b h k ++ v) T H (u' ++ Wd a b h k ++ v)) ∨ ((∃ q, v = q ++ r) ∧ Ps (u ++ Wd a b h k ++ v) T H r) := by
  induction p with
  | @it t h' r' =>
    intro u e
    cases u with
    | nil =>
      obtain ⟨e1, e2⟩ := List.cons.inj e
      cases e1
      subst e2
      exact .inr ⟨⟨[], rfl⟩, .pr .it .it⟩
    | cons x u =>
      obtain ⟨rfl, e2⟩ := List.cons.inj e
      exact .inl ⟨u, e2, .it⟩
  | @pr w r1 r2 a' b' h' k' p1 p2 ih1 ih2 =>
    intro u e
    cases u with
    | nil => cases e
    | cons x u =>
      obtain ⟨rfl, e2⟩ := List.cons.inj e
      rcases ih1 e2 with ⟨u1, e3, q1⟩ | ⟨⟨q, e3⟩, q1⟩
      · rcases ih2 e3 with ⟨u2, e4, q2⟩ | ⟨⟨q, e4⟩, q2⟩
        · cases u2 with
          | nil => cases e4
          | cons y u2 =>
            obtain ⟨rfl, e5⟩ := List.cons.inj e4
            exact .inl ⟨u2, e5, .pr q1 q2⟩
        · exact .inr ⟨⟨q ++ [.cl], by rw [List.append_assoc]; exact e4⟩, .pr q1 q2⟩
      · obtain ⟨q2, e4⟩ := p2.tail
        exact .inr ⟨⟨q ++ q2 ++ [.cl], by rw [e3, e4]; simp⟩, .pr q1 p2⟩
theorem red {a b : Trm} {h k : Nat} {u v : List It} {T : Trm} {H : Nat} : Ps (u ++ Wd a b h k ++ v) T H [] ↔ Ps (u ++ On a b h k :: v) T H [] := by
  constructor
  · intro p
    rcases red_to p rfl with ⟨u', e, _⟩ | ⟨_, q⟩
    · simp at e
    · exact q
  · intro p
    rcases red_from p rfl with ⟨u', e, _⟩ | ⟨_, q⟩
    · simp at e
    · exact q
/-- a row that is read whole is one item, or has a window -/
theorem window {w : List It} {T : Trm} {H : Nat} {r : List It} (p : Ps w T H r) : (w = .it T H :: r) ∨ ∃ u a b h k v, w = u ++ Wd a b h k ++ v := by
  induction p with
  | it => exact .inl rfl
  | @pr w r1 r2 a b h k p1 p2 i1 i2 =>
    right
    rcases i1 with rfl | ⟨u, a', b', h', k', v, rfl⟩
    · rcases i2 with rfl | ⟨u, a', b', h', k', v, rfl⟩
      · exact ⟨[], a, b, h, k, r2, rfl⟩
      · exact ⟨.op :: .it a h :: u, a', b', h', k', v, rfl⟩
    · exact ⟨.op :: u, a', b', h', k', v, rfl⟩
/-- the descent with a bound on how deep -/
def Dn : Nat → List It → Option (Trm × List It)
  | _, .it t 0 :: r => some (t, r)
  | d + 1, .op :: w => match Dn d w with
    | some (a, r1) => match Dn d r1 with
      | some (b, .cl :: r2) => some (.pr a b, r2)
      | _ => none
    | none => none
  | _, _ => none
/-- all items are signs -/
def Raw (w : List It) : Prop := ∀ x ∈ w, x = .op ∨ x = .cl ∨ (∃ t, x = .it t 0) ∨ ∃ c, x = .ot c
theorem raw_tail {q w : List It} (h : Raw (q ++ w)) : Raw w := fun x hx => h x (List.mem_append.mpr (.inr hx))
theorem dn_iff : ∀ {d : Nat} {w : List It} {t : Trm} {r : List It}, Raw w → (Dn d w = some (t, r) ↔ ∃ h, h ≤ d ∧ Ps w t h r) := by
  intro d
  induction d with
  | zero =>
    intro w t r hw
    constructor
    · intro e
      match w, e with
      | .it t' 0 :: r', e =>
        cases e
        exact ⟨0, Nat.le_refl _, .it⟩
    · rintro ⟨h, hh, p⟩
      cases p with
      | it =>
        cases Nat.le_zero.mp hh
        rfl
      | pr p1 p2 => omega
  | succ d ih =>
    intro w t r hw
    constructor
    · intro e
      match w, e, hw with
      | .it t' 0 :: r', e, _ =>
        cases e
        exact ⟨0, Nat.zero_le _, .it⟩
      | .op :: w', e, hw =>
        have hw' : Raw w' := raw_tail (q := [.op]) hw
        unfold Dn at e
        cases e1 : Dn d w' with
        | none => rw [e1] at e; cases e
        | some x =>
          obtain ⟨a, r1⟩ := x
          rw [e1] at e
          obtain ⟨h1, l1, p1⟩ := (ih hw').mp e1
          obtain ⟨q1, rfl⟩ := p1.tail
          have hr1 : Raw r1 := raw_tail hw'
          simp only at e
          cases e2 : Dn d r1 with
          | none => rw [e2] at e; cases e
          | some y =>
            obtain ⟨b, r2⟩ := y
            rw [e2] at e
            obtain ⟨h2, l2, p2⟩ := (ih hr1).mp e2
            match r2, e, p2 with
            | .cl :: r3, e, p2 =>
              cases e
              exact ⟨1 + max h1 h2, by omega, .pr p1 p2⟩
    · rintro ⟨h, hh, p⟩
      cases p with
      | it =>
        have := hw (.it t h) List.mem_cons_self
        rcases this with e | e | ⟨t', e⟩ | ⟨c, e⟩
        · cases e
        · cases e
        · cases e
          rfl
        · cases e
      | @pr w' r1 _ a b h1 h2 p1 p2 =>
        have hw' : Raw w' := raw_tail (q := [.op]) hw
        have e1 := (ih hw').mpr ⟨h1, by omega, p1⟩
        obtain ⟨q1, rfl⟩ := p1.tail
        have hr1 : Raw r1 := raw_tail hw'
        have e2 := (ih hr1).mpr ⟨h2, by omega, p2⟩
        unfold Dn
        rw [e1]
        simp only
        rw [e2]
/-- what is read does not look behind itself -/
theorem Ps.more {w : List It} {T : Trm} {H : Nat} {r : List It} (p : Ps w T H r) (v : List It) : Ps (w ++ v) T H (r ++ v) := by
  induction p with
  | it => exact .it
  | pr p1 p2 i1 i2 => exact .pr i1 i2
theorem Ps.front {w : List It} {T : Trm} {H : Nat} {r : List It} (p : Ps w T H r) : ∀ {q : List It}, w = q ++ r → Ps q T H [] := by
  have key : ∃ q, w = q ++ r ∧ ∀ v, Ps (q ++ v) T H v := by
    induction p with
    | @it t h r => exact ⟨[.it t h], rfl, fun v => .it⟩
    | @pr w r1 r2 a b h k p1 p2 i1 i2 =>
      obtain ⟨q1, rfl, f1⟩ := i1
      obtain ⟨q2, e2, f2⟩ := i2
      refine ⟨.op :: q1 ++ q2 ++ [.cl], by rw [e2]; simp, fun v => ?_⟩
      have g1 := f1 (q2 ++ .cl :: v)
      have g2 := f2 (.cl :: v)
      have := Ps.pr g1 g2
      simpa using this
  obtain ⟨q, e, f⟩ := key
  intro q' e'
  have : q' = q := List.append_cancel_right (e'.symm.trans e)
  subst this
  simpa using f []
/-- no other sign is ever read -/
theorem Ps.clean {w : List It} {T : Trm} {H : Nat} {r : List It} (p : Ps w T H r) : ∀ {q : List It}, w = q ++ r → ∀ c, It.ot c ∉ q := by
  induction p with
  | @it t h r =>
    intro q e c hc
    have : q = [.it t h] := List.append_cancel_right (bs := r) (e.symm.trans rfl)
    subst this
    simp at hc
  | @pr w r1 r2 a b h k p1 p2 i1 i2 =>
    intro q e c hc
    obtain ⟨q1, rfl⟩ := p1.tail
    obtain ⟨q2, e2⟩ := p2.tail
    have c1 := i1 rfl c
    have c2 := i2 e2 c
    have e3 : .op :: (q1 ++ r1) = .op :: q1 ++ (q2 ++ .cl :: r2) := by rw [e2]; rfl
    have e4 : q ++ r2 = (.op :: q1 ++ (q2 ++ [.cl])) ++ r2 := by rw [← e, e3]; simp
    have e5 := List.append_cancel_right e4
    subst e5
    simp at hc
    rcases hc with hc | hc
    · exact c1 hc
    · exact c2 hc
/-- terms written down -/
def txt : Trm → List It
  | .lt c => [.it (.lt c) 0]
  | .pr a b => .op :: txt a ++ (txt b ++ [.cl])
def dp : Trm → Nat
  | .lt _ => 0
  | .pr a b => 1 + max (dp a) (dp b)
theorem txt_read : ∀ (t : Trm) (r : List It), Ps (txt t ++ r) t (dp t) r
  | .lt c, r => .it
  | .pr a b, r => by
    have h2 := txt_read b (.cl :: r)
    have h1 := txt_read a (txt b ++ .cl :: r)
    have := Ps.pr h1 h2
    simpa [txt, dp] using this
end Tx

end

section
/-! ## Tx2: putting terms together from the inmost on tells what the descent reads. For law k42 -/
set_option linter.all false
namespace Tx
def winA : List It → Option (Trm × Nat × Trm × Nat)
  | .op :: .it a h :: .it b j :: .cl :: _ => some (a, h, b, j)
  | _ => none
def win (w : List It) (k : Nat) : Option (Trm × Nat × Trm × Nat) := winA (w.drop k)
theorem winA_some {w : List It} {a b : Trm} {h j : Nat} (e : winA w = some (a, h, b, j)) : ∃ v, w = Wd a b h j ++ v := by
  match w, e with
  | .op :: .it a' h' :: .it b' j' :: .cl :: v, e =>
    cases e
    exact ⟨v, rfl⟩
theorem win_some {w : List It} {k : Nat} {a b : Trm} {h j : Nat} (e : win w k = some (a, h, b, j)) : w = w.take k ++ Wd a b h j ++ w.drop (k + 4) := by
  obtain ⟨v, ev⟩ := winA_some e
  have e2 : w.drop (k + 4) = v := by
    rw [← List.drop_drop, ev]
    rfl
  rw [e2, List.append_assoc, ← ev, List.take_append_drop]
theorem win_at {u v : List It} {a b : Trm} {h j : Nat} : win (u ++ Wd a b h j ++ v) u.length = some (a, h, b, j) := by
  unfold win
  rw [List.append_assoc, List.drop_left]
  rfl
/-- the loop -/
def lp : Nat → List It → Nat → Option (List It)
  | 0, _, _ => none
  | f + 1, w, k => if k + 3 < w.length then match win w k with
      | some (a, h, b, j) => lp f (w.take k ++ On a b h j :: w.drop (k + 4)) 0
      | none => lp f w (k + 1)
    else some w
theorem lp_ok : ∀ {f : Nat} {w : List It} {k : Nat}, (∀ j, j < k → win w j = none) → k ≤ w.length → w.length ≤ 67 → w.length / 3 * 68 + (w.length - k) < f →
    ∃ w', lp f w k = some w' ∧ ∀ T H, Ps w T H [] ↔ w' = [.it T H] := by
  intro f
  induction f with
  | zero => intro w k _ _ _ h; omega
  | succ f ih =>
    intro w k hk hkl hl hb
    unfold lp
    by_cases c : k + 3 < w.length
    · rw [if_pos c]
      cases e : win w k with
      | none =>
        exact ih (fun j hj => by
          by_cases z : j = k
          · rw [z]; exact e
          · exact hk j (by omega)) (by omega) hl (by omega)
      | some x =>
        obtain ⟨a, h, b, j⟩ := x
        have ew := win_some e
        have hlen : (w.take k ++ On a b h j :: w.drop (k + 4)).length + 3 = w.length := by
          rw [List.length_append, List.length_cons, List.length_take, List.length_drop]
          omega
        obtain ⟨w', e1, e2⟩ := ih (w := w.take k ++ On a b h j :: w.drop (k + 4)) (k := 0) (fun j hj => absurd hj (Nat.not_lt_zero _)) (Nat.zero_le _) (by omega) (by omega)
        refine ⟨w', e1, fun T H => ?_⟩
        rw [← e2 T H]
        have := red (a := a) (b := b) (h := h) (k := j) (u := w.take k) (v := w.drop (k + 4)) (T := T) (H := H)
        rw [← ew] at this
        exact this
    · rw [if_neg c]
      refine ⟨w, rfl, fun T H => ⟨fun p => ?_, fun e => by rw [e]; exact .it⟩⟩
      rcases window p with e | ⟨u, a, b, h, j, v, e⟩
      · exact e
      · have h1 : win w u.length = some (a, h, b, j) := by rw [e]; exact win_at
        have h2 : u.length + 4 ≤ w.length := by rw [e]; simp
        rw [hk u.length (by omega)] at h1
        cases h1
/-- what the law tells of one side -/
def side (w : List It) : Option (Trm × Nat) := match lp 4096 w 0 with
  | some [.it T H] => some (T, H)
  | _ => none
theorem side_iff {w : List It} (hl : w.length ≤ 67) {T : Trm} {H : Nat} : side w = some (T, H) ↔ Ps w T H [] := by
  obtain ⟨w', e1, e2⟩ := lp_ok (f := 4096) (w := w) (k := 0) (fun j hj => absurd hj (Nat.not_lt_zero _)) (Nat.zero_le _) hl (by omega)
  rw [e2 T H]
  unfold side
  rw [e1]
  constructor
  · intro e
    match w', e with
    | [.it T' H'], e => cases e; rfl
  · rintro rfl
    rfl
end Tx

end

section
/-! ## Tx3: the two readings of a whole text -/
namespace Tx
/-- split a row at the one sign 61 -/
theorem dn_top {d : Nat} {w : List It} {t : Trm} {r : List It} (hw : Raw w) (h : Dn d w = some (t, r)) : ∃ q hh, w = q ++ r ∧ hh ≤ d ∧ Ps q t hh [] := by
  obtain ⟨hh, h1, h2⟩ := (dn_iff hw).mp h
  obtain ⟨q, e⟩ := h2.tail
  exact ⟨q, hh, e, h1, h2.front e⟩
theorem dn_of {d : Nat} {q r : List It} {t : Trm} {hh : Nat} (hw : Raw (q ++ r)) (h1 : hh ≤ d) (h : Ps q t hh []) : Dn d (q ++ r) = some (t, r) :=
  (dn_iff hw).mpr ⟨hh, h1, by simpa using h.more r⟩
end Tx

end

section
set_option Elab.async false
set_option linter.all false
set_option maxRecDepth 100000
set_option maxHeartbeats 4000000
namespace Lk42
open PySem PySem.Spec L2 PySem.W Mi Pg Tx
def toD : Trm → D
  | .lt c => .str ⟨#[c]⟩
  | .pr a b => .tuple [toD a, toD b]
def cds : Trm → List Nat
  | .lt c => [c]
  | .pr a b => 40 :: cds a ++ (cds b ++ [41])
def sOf (l : List Nat) : Str := ⟨l.toArray⟩
theorem sOf_app (a b : List Nat) : sOf a ++ sOf b = sOf (a ++ b) := by
  show (⟨a.toArray ++ b.toArray⟩ : Str) = ⟨(a ++ b).toArray⟩
  rw [List.append_toArray]
theorem sOf_len (a : List Nat) : (sOf a).length = a.length := by
  show a.toArray.size = a.length
  exact List.size_toArray
theorem cds_len (t : Trm) : (cds t).length + 3 ≤ 4 * 2 ^ dp t := by
  induction t with
  | lt c => show 1 + 3 ≤ 4 * 2 ^ 0; omega
  | pr a b ha hb =>
    have h1 : (cds (.pr a b)).length = (cds a).length + (cds b).length + 2 := by
      show (40 :: cds a ++ (cds b ++ [41])).length = _
      simp; omega
    have h2 : dp (.pr a b) = 1 + max (dp a) (dp b) := rfl
    have ha2 : 2 ^ dp a ≤ 2 ^ max (dp a) (dp b) := Nat.pow_le_pow_right (by omega) (by omega)
    have hb2 : 2 ^ dp b ≤ 2 ^ max (dp a) (dp b) := Nat.pow_le_pow_right (by omega) (by omega)
    rw [h1, h2, Nat.pow_add]
    omega
theorem isStr_str (z : Str) : PyData.isStr (.str z) = true := rfl
theorem add_str (x y : List Nat) (h : x.length + y.length ≤ 1000000) (n : Nat) : dAdd (.str (sOf x)) (.str (sOf y)) n = .ok (.str (sOf (x ++ y))) n := by
  have hs := sizeLine_eq
  show (need (decide ((sOf x).length + (sOf y).length ≤ sizeLine)) >>= fun _ => (pure (.str (sOf x ++ sOf y)) : M D)) n = _
  rw [sOf_len, sOf_len, decide_eq_true (by omega), sOf_app]
  rfl
theorem s_op : ("(" : Str) = sOf [40] := by kernel_rfl
theorem s_cl : (")" : Str) = sOf [41] := by kernel_rfl
theorem toD_plain : ∀ t : Trm, (toD t).plain = true
  | .lt c => rfl
  | .pr a b => by
    show PyData.plainAll [toD a, toD b] = true
    simp [PyData.plainAll, toD_plain a, toD_plain b]
theorem pr_plain (a b : Trm) : (PyData.tuple [toD a, toD b]).plain = true := toD_plain (.pr a b)
theorem at0 (a b : D) : atI [a, b] 0 = some a := rfl
theorem at1 (a b : D) : atI [a, b] 1 = some b := rfl
theorem tru_b (b : Bool) (n : Nat) : dTru (.bool b) n = .ok b n := rfl
theorem ix0 (a b : D) (n : Nat) : dIx (.tuple [a, b]) (.int 0) n = .ok a n := rfl
theorem ix1 (a b : D) (n : Nat) : dIx (.tuple [a, b]) (.int 1) n = .ok b n := rfl
theorem text_ok : ∀ (t : Trm) (d : Nat), dp t < d → dp t ≤ 12 → ∀ n, f_law_text d [toD t] n = .ok (.str (sOf (cds t))) n
  | .lt c, 0, h, _, n => absurd h (Nat.not_lt_zero _)
  | .lt c, d + 1, _, _, n => by
    show Mi.run 1 (b_law_text (f_law_text d)) [toD (.lt c)] n = _
    unfold b_law_text
    simp [startE, Env.at, toD, eIsTy, PyData.isStr, outR]
    rfl
  | .pr a b, 0, h, _, n => absurd h (Nat.not_lt_zero _)
  | .pr a b, d + 1, h, h12, n => by
    have hd : dp (.pr a b) = 1 + max (dp a) (dp b) := rfl
    have ea := text_ok a d (by omega) (by omega) n
    have eb := text_ok b d (by omega) (by omega) n
    have la := cds_len a
    have lb := cds_len b
    have pa : 2 ^ dp a ≤ 2 ^ 12 := Nat.pow_le_pow_right (by omega) (by omega)
    have pb : 2 ^ dp b ≤ 2 ^ 12 := Nat.pow_le_pow_right (by omega) (by omega)
    have e1 : dAdd (.str (sOf [40])) (.str (sOf (cds a))) n = .ok (.str (sOf (40 :: cds a))) n := add_str [40] (cds a) (by simp; omega) n
    have e2 : dAdd (.str (sOf (40 :: cds a))) (.str (sOf (cds b))) n = .ok (.str (sOf (40 :: (cds a ++ cds b)))) n := add_str (40 :: cds a) (cds b) (by simp; omega) n
    have e3 : dAdd (.str (sOf (40 :: (cds a ++ cds b)))) (.str (sOf [41])) n = .ok (.str (sOf (40 :: (cds a ++ (cds b ++ [41]))))) n := by
      have := add_str (40 :: (cds a ++ cds b)) [41] (by simp; omega) n
      simpa using this
    show Mi.run 1 (b_law_text (f_law_text d)) [toD (.pr a b)] n = _
    unfold b_law_text
    simp only [run_app, sSeq_app, sIf_app, tT_app, startE, eIsTy]
    simp [Env.at, toD, PyData.isStr, outR, ix0, ix1, at0, at1, ea, eb, s_op, s_cl, pr_plain, tru_b, e1, e2, e3]
    rfl
theorem term_text_ok : ∀ (t : Trm) (d : Nat), dp t < d → dp t ≤ 12 → ∀ n, f_term_text d [toD t] n = .ok (.str (sOf (cds t))) n
  | .lt c, 0, h, _, n => absurd h (Nat.not_lt_zero _)
  | .lt c, d + 1, _, _, n => by
    show Mi.run 1 (b_term_text (f_term_text d)) [toD (.lt c)] n = _
    unfold b_term_text
    simp [startE, Env.at, toD, eIsTy, PyData.isStr, outR]
    rfl
  | .pr a b, 0, h, _, n => absurd h (Nat.not_lt_zero _)
  | .pr a b, d + 1, h, h12, n => by
    have hd : dp (.pr a b) = 1 + max (dp a) (dp b) := rfl
    have ea := term_text_ok a d (by omega) (by omega) n
    have eb := term_text_ok b d (by omega) (by omega) n
    have la := cds_len a
    have lb := cds_len b
    have pa : 2 ^ dp a ≤ 2 ^ 12 := Nat.pow_le_pow_right (by omega) (by omega)
    have pb : 2 ^ dp b ≤ 2 ^ 12 := Nat.pow_le_pow_right (by omega) (by omega)
    have e1 : dAdd (.str (sOf [40])) (.str (sOf (cds a))) n = .ok (.str (sOf (40 :: cds a))) n := add_str [40] (cds a) (by simp; omega) n
    have e2 : dAdd (.str (sOf (40 :: cds a))) (.str (sOf (cds b))) n = .ok (.str (sOf (40 :: (cds a ++ cds b)))) n := add_str (40 :: cds a) (cds b) (by simp; omega) n
    have e3 : dAdd (.str (sOf (40 :: (cds a ++ cds b)))) (.str (sOf [41])) n = .ok (.str (sOf (40 :: (cds a ++ (cds b ++ [41]))))) n := by
      have := add_str (40 :: (cds a ++ cds b)) [41] (by simp; omega) n
      simpa using this
    show Mi.run 1 (b_term_text (f_term_text d)) [toD (.pr a b)] n = _
    unfold b_term_text
    simp only [run_app, sSeq_app, sIf_app, tT_app, startE, eIsTy]
    simp [Env.at, toD, PyData.isStr, outR, ix0, ix1, at0, at1, ea, eb, s_op, s_cl, pr_plain, tru_b, e1, e2, e3]
    rfl
/-- letters of the alphabet -/
def Abc : Trm → Prop
  | .lt c => c = 120 ∨ c = 121 ∨ c = 122
  | .pr a b => Abc a ∧ Abc b
theorem letter_in (c : Nat) (h : c = 120 ∨ c = 121 ∨ c = 122) (k : Int) (d : Nat) (n : Nat) : f_is_term (d + 1) [.str ⟨#[c]⟩, .int k] n = .ok (.bool true) n := by
  rcases h with rfl | rfl | rfl <;> kernel_rfl
theorem len2 (a b : D) (n : Nat) : dLen (.tuple [a, b]) n = .ok (.int 2) n := by
  unfold dLen
  rfl
theorem is_term_ok : ∀ (t : Trm) (d k : Nat), Abc t → dp t ≤ k → k < d → ∀ n, f_is_term d [toD t, .int k] n = .ok (.bool true) n
  | .lt c, 0, k, _, _, h, n => absurd h (Nat.not_lt_zero _)
  | .lt c, d + 1, k, h, _, _, n => letter_in c h k d n
  | .pr a b, 0, k, _, _, h, n => absurd h (Nat.not_lt_zero _)
  | .pr a b, d + 1, 0, _, h, _, n => by
    have hd : dp (.pr a b) = 1 + max (dp a) (dp b) := rfl
    omega
  | .pr a b, d + 1, k + 1, ⟨ha, hb⟩, h, hk, n => by
    have hd : dp (.pr a b) = 1 + max (dp a) (dp b) := rfl
    have ea := is_term_ok a d k ha (by omega) (by omega) n
    have eb := is_term_ok b d k hb (by omega) (by omega) n
    have hs := sizeLine_eq
    have hsub : dSub (.int ((k : Int) + 1)) (.int 1) n = .ok (.int (k : Int)) n := by
      show (pure (.int ((k : Int) + 1 - 1)) : M D) n = _
      rw [Int.add_sub_cancel]
      rfl
    have hc : lComp (iSeq (eVar 0)) (.nm 2) [2] tYesM (eFn 2 (f_is_term d) (aCons (eVar 2) (aCons (e2 dSub (eVar 1) (eC (.int 1))) aNil))) [.fz (.tuple [toD a, toD b]), .fz (.int ((k : Int) + 1)), .no] n = .ok [.bool true, .bool true] n := by
      refine lComp_all (ds := [toD a, toD b]) (fun _ => .bool true) rfl (fun x hx => ?_) (by simp; omega)
      simp only [List.mem_cons, List.not_mem_nil, or_false] at hx
      rcases hx with rfl | rfl
      · simp [wipeE, Env.at, hsub, ea]
      · simp [wipeE, Env.at, hsub, eb]
    have hgt : dGt (.int ((k : Int) + 1)) (.int 0) n = .ok (.bool true) n := by
      show (pure (.bool (decide ((0 : Int) < (k : Int) + 1))) : M D) n = _
      rw [decide_eq_true (by omega)]
      rfl
    have heq : dEq (.int 2) (.int 2) n = .ok (.bool true) n := by kernel_rfl
    have hall : gAll (fun bs => bs.all id) (.list [.bool true, .bool true]) n = .ok (.bool true) n := rfl
    show Mi.run 3 (b_is_term (f_is_term d)) [toD (.pr a b), .int ((k + 1 : Nat) : Int)] n = _
    unfold b_is_term
    simp only [run_app, sSeq_app, sIf_app, tT_app, startE, eIsTy]
    simp [Env.at, toD, PyData.isStr, outR, pr_plain, tru_b, len2, hc, hgt, heq, hall]
    simp [eIsTy, PyData.isTuple, Env.at, pr_plain, tru_b, len2, hc, hgt, heq, hall]
theorem s_eq : ("=" : Str) = sOf [61] := by kernel_rfl
theorem look_ok {a b : Trm} (ha : Abc a) (hb : Abc b) (da : dp a ≤ 3) (db : dp b ≤ 3) (n : Nat) : f_look_saying [.tuple [toD a, toD b]] n = .ok .none n := by
  have hs := sizeLine_eq
  have ea := is_term_ok a 12 3 ha da (by omega) n
  have eb := is_term_ok b 12 3 hb db (by omega) n
  have hc : lComp (iSeq (eVar 0)) (.nm 1) [1] tYesM (eFn 2 (f_is_term 12) (aCons (eVar 1) (aCons (eC (.int 3)) aNil))) [.fz (.tuple [toD a, toD b]), .no] n = .ok [.bool true, .bool true] n := by
    refine lComp_all (ds := [toD a, toD b]) (fun _ => .bool true) rfl (fun x hx => ?_) (by simp; omega)
    simp only [List.mem_cons, List.not_mem_nil, or_false] at hx
    have e3 : ((3 : Nat) : Int) = 3 := rfl
    rw [e3] at ea eb
    rcases hx with rfl | rfl
    · simp [wipeE, Env.at, ea]
    · simp [wipeE, Env.at, eb]
  have hne : dNe (.int 2) (.int 2) n = .ok (.bool false) n := by kernel_rfl
  have hall : gAll (fun bs => bs.all id) (.list [.bool true, .bool true]) n = .ok (.bool true) n := rfl
  unfold f_look_saying
  rw [run_app]
  unfold b_look_saying
  simp [startE, Env.at, outR, len2, hc, hne, hall, tru_b]
theorem said_ok {a b : Trm} (ha : Abc a) (hb : Abc b) (da : dp a ≤ 3) (db : dp b ≤ 3) (n : Nat) : f_said [.tuple [toD a, toD b]] n = .ok (.str (sOf (cds a ++ 61 :: cds b))) n := by
  have ea := term_text_ok a 12 (by omega) (by omega) n
  have eb := term_text_ok b 12 (by omega) (by omega) n
  have la := cds_len a
  have lb := cds_len b
  have pa : 2 ^ dp a ≤ 2 ^ 3 := Nat.pow_le_pow_right (by omega) da
  have pb : 2 ^ dp b ≤ 2 ^ 3 := Nat.pow_le_pow_right (by omega) db
  have e1 : dAdd (.str (sOf (cds a))) (.str (sOf [61])) n = .ok (.str (sOf (cds a ++ [61]))) n := add_str _ _ (by simp; omega) n
  have e2 : dAdd (.str (sOf (cds a ++ [61]))) (.str (sOf (cds b))) n = .ok (.str (sOf (cds a ++ 61 :: cds b))) n := by
    have := add_str (cds a ++ [61]) (cds b) (by simp; omega) n
    simpa using this
  unfold f_said
  rw [run_app]
  unfold b_said
  simp [startE, Env.at, outR, look_ok ha hb da db n, ix0, ix1, at0, at1, ea, eb, s_eq, e1, e2]
theorem inStr_one (x : Str) (c : Nat) : inStr ⟨#[c]⟩ x = decide (c ∈ x.cps.toList) := StrLaws.found_one x c
theorem cut1 (l : List Nat) (i : Nat) : cutS (sOf l) (some (i : Int)) (some ((i : Int) + 1)) = sOf ((l.drop i).take 1) := by
  have hl : (sOf l).length = l.length := sOf_len l
  unfold cutS
  rw [show ((i : Int) + 1) = ((i + 1 : Nat) : Int) from rfl, HT.sIx_nat, HT.sIx_nat, hl]
  show sOf _ = sOf _
  congr 1
  show List.take _ (List.drop _ l.toArray.toList) = _
  rw [List.toList_toArray]
  by_cases h : i < l.length
  · rw [Nat.min_eq_left (by omega), Nat.min_eq_left (by omega), Nat.add_sub_cancel_left]
  · rw [Nat.min_eq_right (by omega), Nat.min_eq_right (by omega), List.drop_of_length_le (Nat.le_refl _), List.drop_of_length_le (by omega)]
    simp
theorem atS (l : List Nat) {i c : Nat} (h : l[i]? = some c) (hl : l.length ≤ 1000) (n : Nat) : dIx (.str (sOf l)) (.int (i : Int)) n = .ok (.str ⟨#[c]⟩) n := by
  have hs := sizeLine_eq
  show (need (decide ((sOf l).length ≤ sizeLine)) >>= fun _ => ofOpt (atI (sOf l).cps.toList (i : Int)) >>= fun c => (pure (.str ⟨#[c]⟩) : M D)) n = _
  rw [sOf_len, decide_eq_true (by omega)]
  have e : atI (sOf l).cps.toList (i : Int) = some c := by
    show atI l.toArray.toList (i : Int) = some c
    rw [atI_cast]
    simpa using h
  rw [e]
  rfl
def itm (c : Nat) : Tx.It := if c = 40 then .op else if c = 41 then .cl else if c = 120 ∨ c = 121 ∨ c = 122 then .it (.lt c) 0 else .ot c
def its (l : List Nat) : List Tx.It := l.map itm
theorem ne_str (a b : Str) (n : Nat) : dNe (.str a) (.str b) n = .ok (.bool (!decide (a = b))) n := congrFun (dNe_at (α := Str) (by decide) a b) n
theorem sOf_inj {a b : List Nat} : sOf a = sOf b ↔ a = b := ⟨fun h => by
  have := congrArg (fun z : Str => z.cps.toList) h
  simpa [sOf] using this, fun h => by rw [h]⟩
theorem s_e : ("" : Str) = sOf [] := by kernel_rfl
theorem in_xyz (c n : Nat) : dIn false (.str ⟨#[c]⟩) (.str "xyz") n = .ok (.bool (decide (c = 120 ∨ c = 121 ∨ c = 122))) n := by
  show (Res.ok (.bool (inStr ⟨#[c]⟩ "xyz")) n : Res D) = _
  rw [inStr_one, show ("xyz" : Str).cps.toList = [120, 121, 122] from by kernel_rfl]
  congr 2
  exact decide_eq_decide.mpr (by simp)
theorem sl_at (l : List Nat) (i : Nat) (hl : l.length ≤ 1000) (n : Nat) : dSl (some (i : Int)) (some ((i : Int) + 1)) (.str (sOf l)) n = .ok (.str (sOf ((l.drop i).take 1))) n := by
  have hs := sizeLine_eq
  show (need (decide ((sOf l).length ≤ sizeLine)) >>= fun _ => (pure (.str (cutS (sOf l) (some (i : Int)) (some ((i : Int) + 1)))) : M D)) n = _
  rw [sOf_len, decide_eq_true (by omega), cut1]
  rfl
theorem add_int (a b : Int) (n : Nat) : dAdd (.int a) (.int b) n = .ok (.int (a + b)) n := rfl
theorem sub_int (a b : Int) (n : Nat) : dSub (.int a) (.int b) n = .ok (.int (a - b)) n := rfl
theorem eq_int (a b : Int) (n : Nat) : dEq (.int a) (.int b) n = .ok (.bool (decide (a = b))) n := congrFun (dEq_at (α := Int) (by decide) a b) n
theorem eSl_at (l : List Nat) (i k n : Nat) (hl : l.length ≤ 1000) (a b : Sl) : eSl (eVar 0) (pYes (eVar 1)) (pYes (e2 dAdd (eVar 1) (eC (.int 1)))) [.fz (.str (sOf l)), .fz (.int (i : Int)), .fz (.int (k : Int)), a, b] n = .ok (.str (sOf ((l.drop i).take 1))) n := by
  have h := sl_at l i hl n
  show (dSl (some (i : Int)) (some ((i : Int) + 1)) (.str (sOf l))) n = _
  exact h
theorem term_none (l : List Nat) (hl : l.length ≤ 1000) (i k d n : Nat) (h : l.drop i = []) : f_term_at (d + 1) [.str (sOf l), .int (i : Int), .int (k : Int)] n = .err "BadText" n := by
  have e1 := eSl_at l i k n hl .no .no
  rw [h] at e1
  have ne1 : dNe (.str (sOf [])) (.str "") n = .ok (.bool false) n := by rw [s_e, ne_str]; simp
  have ne2 : dNe (.str (sOf [])) (.str "(") n = .ok (.bool true) n := by rw [s_op, ne_str]; simp [sOf_inj]
  show Mi.run 5 (b_term_at (f_term_at d)) _ n = _
  unfold b_term_at
  simp only [run_app, sSeq_app, sIf_app, startE]
  simp [e1, ne1, ne2, outR]
theorem term_letter (l : List Nat) (hl : l.length ≤ 1000) (i k d n c : Nat) (r : List Nat) (h : l.drop i = c :: r) (hc : c = 120 ∨ c = 121 ∨ c = 122) : f_term_at (d + 1) [.str (sOf l), .int (i : Int), .int (k : Int)] n = .ok (.tuple [.str ⟨#[c]⟩, .int ((i : Int) + 1)]) n := by
  have hs := sizeLine_eq
  have e1 := eSl_at l i k n hl .no .no
  rw [h] at e1
  have e1 : eSl (eVar 0) (pYes (eVar 1)) (pYes (e2 dAdd (eVar 1) (eC (.int 1)))) [.fz (.str (sOf l)), .fz (.int (i : Int)), .fz (.int (k : Int)), .no, .no] n = .ok (.str (sOf [c])) n := e1
  have hi : l[i]? = some c := by
    have := congrArg (fun x => x[0]?) h
    simpa [List.getElem?_drop] using this
  have ne1 : dNe (.str (sOf [c])) (.str "") n = .ok (.bool true) n := by rw [s_e, ne_str]; simp [sOf_inj]
  have ix := atS l hi hl n
  have inx : dIn false (.str ⟨#[c]⟩) (.str "xyz") n = .ok (.bool true) n := by rw [in_xyz, decide_eq_true hc]
  show Mi.run 5 (b_term_at (f_term_at d)) _ n = _
  unfold b_term_at
  simp only [run_app, sSeq_app, sIf_app, startE]
  have h2 : 2 ≤ sizeLine := by omega
  simp [e1, ne1, Env.at, ix, inx, outR, add_int, h2]
theorem term_other (l : List Nat) (hl : l.length ≤ 1000) (i k d n c : Nat) (r : List Nat) (h : l.drop i = c :: r) (hc : ¬ (c = 120 ∨ c = 121 ∨ c = 122)) (hk : c ≠ 40 ∨ k = 0) : f_term_at (d + 1) [.str (sOf l), .int (i : Int), .int (k : Int)] n = .err "BadText" n := by
  have e1 := eSl_at l i k n hl .no .no
  rw [h] at e1
  have e1 : eSl (eVar 0) (pYes (eVar 1)) (pYes (e2 dAdd (eVar 1) (eC (.int 1)))) [.fz (.str (sOf l)), .fz (.int (i : Int)), .fz (.int (k : Int)), .no, .no] n = .ok (.str (sOf [c])) n := e1
  have hi : l[i]? = some c := by
    have := congrArg (fun x => x[0]?) h
    simpa [List.getElem?_drop] using this
  have ne1 : dNe (.str (sOf [c])) (.str "") n = .ok (.bool true) n := by rw [s_e, ne_str]; simp [sOf_inj]
  have ix := atS l hi hl n
  have inx : dIn false (.str ⟨#[c]⟩) (.str "xyz") n = .ok (.bool false) n := by rw [in_xyz, decide_eq_false hc]
  have ne2 : dNe (.str (sOf [c])) (.str "(") n = .ok (.bool (!decide (c = 40))) n := by rw [s_op, ne_str]; simp [sOf_inj]
  have eqk : dEq (.int (k : Int)) (.int 0) n = .ok (.bool (decide (k = 0))) n := by rw [eq_int]; congr 3; simp
  show Mi.run 5 (b_term_at (f_term_at d)) _ n = _
  unfold b_term_at
  simp only [run_app, sSeq_app, sIf_app, startE]
  by_cases z : c = 40
  · have hk0 := hk.resolve_left (fun w => w z)
    rw [decide_eq_true z] at ne2
    rw [decide_eq_true hk0] at eqk
    simp [e1, ne1, Env.at, ix, inx, outR, ne2, eqk]
  · rw [decide_eq_false z] at ne2
    simp [e1, ne1, Env.at, ix, inx, outR, ne2]
section
variable {l : List Nat} {i k d n : Nat} {r : List Nat}
theorem op_pre (hl : l.length ≤ 1000) (h : l.drop i = 40 :: r) : 
    Mi.run 5 (b_term_at (f_term_at d)) [.str (sOf l), .int (i : Int), .int ((k + 1 : Nat) : Int)] n = outR ((sSeq (sPat (.tup [3, 1]) (eFn 3 (f_term_at d) (aCons (eVar 0) (aCons (e2 dAdd (eVar 1) (eC (.int 1))) (aCons (e2 dSub (eVar 2) (eC (.int 1))) aNil)))))
    (sSeq (sPat (.tup [4, 1]) (eFn 3 (f_term_at d) (aCons (eVar 0) (aCons (eVar 1) (aCons (e2 dSub (eVar 2) (eC (.int 1))) aNil)))))
    (sSeq (sIf (Mi.tB (e2 dNe (eSl (eVar 0) (pYes (eVar 1)) (pYes (e2 dAdd (eVar 1) (eC (.int 1))))) (eC (.str ")"))))
    (sRaise "BadText")
    sNx)
    (sRet (eTup (aCons (eTup (aCons (eVar 3) (aCons (eVar 4) aNil))) (aCons (e2 dAdd (eVar 1) (eC (.int 1))) aNil))))))) [.fz (.str (sOf l)), .fz (.int (i : Int)), .fz (.int ((k + 1 : Nat) : Int)), .no, .no] n) := by
  have e1 := eSl_at l i (k + 1) n hl .no .no
  rw [h] at e1
  have e1 : eSl (eVar 0) (pYes (eVar 1)) (pYes (e2 dAdd (eVar 1) (eC (.int 1)))) [.fz (.str (sOf l)), .fz (.int (i : Int)), .fz (.int ((k + 1 : Nat) : Int)), .no, .no] n = .ok (.str (sOf [40])) n := e1
  have hi : l[i]? = some 40 := by
    have := congrArg (fun x => x[0]?) h
    simpa [List.getElem?_drop] using this
  have ne1 : dNe (.str (sOf [40])) (.str "") n = .ok (.bool true) n := by rw [s_e, ne_str]; simp [sOf_inj]
  have ix := atS l hi hl n
  have inx : dIn false (.str ⟨#[40]⟩) (.str "xyz") n = .ok (.bool false) n := by rw [in_xyz]; rfl
  have ne2 : dNe (.str (sOf [40])) (.str "(") n = .ok (.bool false) n := by rw [s_op, ne_str]; simp
  have eqk : dEq (.int ((k + 1 : Nat) : Int)) (.int 0) n = .ok (.bool false) n := by rw [eq_int, decide_eq_false (by omega)]
  rw [run_app]
  unfold b_term_at
  show outR (sSeq _ _ [.fz (.str (sOf l)), .fz (.int (i : Int)), .fz (.int ((k + 1 : Nat) : Int)), .no, .no] n) = _
  rw [sSeq_app, sIf_app]
  have t1 : bAnd (Mi.tB (e2 dNe (eSl (eVar 0) (pYes (eVar 1)) (pYes (e2 dAdd (eVar 1) (eC (.int 1))))) (eC (.str "")))) (Mi.tB (e2 (dIn false) (e2 dIx (eVar 0) (eVar 1)) (eC (.str "xyz")))) [.fz (.str (sOf l)), .fz (.int (i : Int)), .fz (.int ((k + 1 : Nat) : Int)), .no, .no] n = .ok false n := by
    simp only [bAnd_app, tB_app, e2_app, eVar_app]
    rw [e1]
    simp only [bd_ok, bnd_app, eC_app, ne1, asB_app, bdB_t]
    simp [Env.at, ix, inx]
  have t2 : bOr (Mi.tB (e2 dNe (eSl (eVar 0) (pYes (eVar 1)) (pYes (e2 dAdd (eVar 1) (eC (.int 1))))) (eC (.str "(")))) (Mi.tB (e2 dEq (eVar 2) (eC (.int 0)))) [.fz (.str (sOf l)), .fz (.int (i : Int)), .fz (.int ((k + 1 : Nat) : Int)), .no, .no] n = .ok false n := by
    simp only [bOr_app, tB_app, e2_app, eVar_app]
    rw [e1]
    simp only [bd_ok, bnd_app, eC_app, ne2, asB_app, bdB_f]
    simp only [tB_app, e2_app, eVar_app]
    have : Env.at [Sl.fz (.str (sOf l)), .fz (.int (i : Int)), .fz (.int ((k + 1 : Nat) : Int)), .no, .no] 2 = .fz (.int ((k + 1 : Nat) : Int)) := rfl
    rw [this]
    simp only [varM_fz, bd_ok, bnd_app, eC_app, eqk, asB_app]
  rw [t1, bdB_f, sNx_app, seqR_nx, sSeq_app, sIf_app, t2, bdB_f, sNx_app, seqR_nx]
end
theorem drop_next {l r : List Nat} {i c : Nat} (h : l.drop i = c :: r) : l.drop (i + 1) = r := by
  rw [← List.drop_drop, h]; rfl
theorem drop_le {l r : List Nat} {i c : Nat} (h : l.drop i = c :: r) : i + 1 ≤ l.length := by
  have := congrArg List.length h
  simp only [List.length_drop, List.length_cons] at this
  omega
theorem dn_nil (k : Nat) : Dn k [] = none := by cases k <;> rfl
theorem dn_let (k c : Nat) (w : List Tx.It) : Dn k (.it (.lt c) 0 :: w) = some (.lt c, w) := by cases k <;> rfl
theorem dn_cl (k : Nat) (w : List Tx.It) : Dn k (.cl :: w) = none := by cases k <;> rfl
theorem dn_ot (k c : Nat) (w : List Tx.It) : Dn k (.ot c :: w) = none := by cases k <;> rfl
abbrev opRest (d : Nat) : MS := (sSeq (sPat (.tup [3, 1]) (eFn 3 (f_term_at d) (aCons (eVar 0) (aCons (e2 dAdd (eVar 1) (eC (.int 1))) (aCons (e2 dSub (eVar 2) (eC (.int 1))) aNil)))))
    (sSeq (sPat (.tup [4, 1]) (eFn 3 (f_term_at d) (aCons (eVar 0) (aCons (eVar 1) (aCons (e2 dSub (eVar 2) (eC (.int 1))) aNil)))))
    (sSeq (sIf (Mi.tB (e2 dNe (eSl (eVar 0) (pYes (eVar 1)) (pYes (e2 dAdd (eVar 1) (eC (.int 1))))) (eC (.str ")"))))
    (sRaise "BadText")
    sNx)
    (sRet (eTup (aCons (eTup (aCons (eVar 3) (aCons (eVar 4) aNil))) (aCons (e2 dAdd (eVar 1) (eC (.int 1))) aNil)))))))
section
variable {l : List Nat} {i k d n : Nat}
theorem subk : dSub (.int ((k + 1 : Nat) : Int)) (.int 1) n = .ok (.int (k : Int)) n := by
  rw [sub_int]; congr 2; omega
theorem op_err (h : f_term_at d [.str (sOf l), .int ((i : Int) + 1), .int (k : Int)] n = .err "BadText" n) :
    outR (opRest d [.fz (.str (sOf l)), .fz (.int (i : Int)), .fz (.int ((k + 1 : Nat) : Int)), .no, .no] n) = .err "BadText" n := by
  simp [opRest, Env.at, add_int, subk, h, outR]
theorem op_err2 {j : Nat} {t : D} (h : f_term_at d [.str (sOf l), .int ((i : Int) + 1), .int (k : Int)] n = .ok (.tuple [t, .int (j : Int)]) n)
    (h2 : f_term_at d [.str (sOf l), .int (j : Int), .int (k : Int)] n = .err "BadText" n) :
    outR (opRest d [.fz (.str (sOf l)), .fz (.int (i : Int)), .fz (.int ((k + 1 : Nat) : Int)), .no, .no] n) = .err "BadText" n := by
  simp [opRest, Env.at, add_int, subk, h, h2, outR, patSet, setAll]

theorem op_end (hl : l.length ≤ 1000) {j e : Nat} {t u : Trm} (h : f_term_at d [.str (sOf l), .int ((i : Int) + 1), .int (k : Int)] n = .ok (.tuple [toD t, .int (j : Int)]) n)
    (h2 : f_term_at d [.str (sOf l), .int (j : Int), .int (k : Int)] n = .ok (.tuple [toD u, .int (e : Int)]) n) :
    outR (opRest d [.fz (.str (sOf l)), .fz (.int (i : Int)), .fz (.int ((k + 1 : Nat) : Int)), .no, .no] n) = if (l.drop e).take 1 = [41] then .ok (.tuple [toD (.pr t u), .int ((e : Int) + 1)]) n else .err "BadText" n := by
  have hs := sizeLine_eq
  have h2' : 2 ≤ sizeLine := by omega
  have e1 := eSl_at l e (k + 1) n hl (.fz (toD t)) (.fz (toD u))
  have ne1 : dNe (.str (sOf ((l.drop e).take 1))) (.str (")")) n = .ok (.bool (!decide ((l.drop e).take 1 = [41]))) n := by rw [s_cl, ne_str]; simp [sOf_inj]
  simp only [opRest, sSeq_app, sPat_app, sIf_app, tB_app]
  simp [Env.at, add_int, subk, h, h2, patSet, setAll]
  rw [show ((k + 1 : Nat) : Int) = (k : Int) + 1 from rfl] at e1
  rw [e1]
  by_cases z : (l.drop e).take 1 = [41]
  · rw [decide_eq_true z] at ne1
    rw [if_pos z]
    simp [ne1, Env.at, add_int, h2', toD]
  · rw [decide_eq_false z] at ne1
    rw [if_neg z]
    simp [ne1, outR]
theorem itm_cl {x : Nat} (h : x ≠ 41) : itm x ≠ .cl := by
  unfold itm
  rw [if_neg h]
  split
  · exact fun w => by cases w
  · split <;> exact fun w => by cases w
theorem term_at_ok (l : List Nat) (hl : l.length ≤ 1000) : ∀ (k d i n : Nat), k < d →
    (∃ t j, j ≤ l.length ∧ Dn k (its (l.drop i)) = some (t, its (l.drop j)) ∧ f_term_at d [.str (sOf l), .int (i : Int), .int (k : Int)] n = .ok (.tuple [toD t, .int (j : Int)]) n) ∨
    (Dn k (its (l.drop i)) = none ∧ f_term_at d [.str (sOf l), .int (i : Int), .int (k : Int)] n = .err "BadText" n) := by
  intro k
  induction k with
  | zero =>
    intro d i n hd
    obtain ⟨d, rfl⟩ : ∃ e, d = e + 1 := ⟨d - 1, by omega⟩
    cases h : l.drop i with
    | nil => exact .inr ⟨rfl, term_none l hl i 0 d n h⟩
    | cons c r =>
      by_cases hx : c = 120 ∨ c = 121 ∨ c = 122
      · refine .inl ⟨.lt c, i + 1, drop_le h, ?_, term_letter l hl i 0 d n c r h hx⟩
        rw [drop_next h]
        have : itm c = .it (.lt c) 0 := by unfold itm; rw [if_neg (by omega), if_neg (by omega), if_pos hx]
        show Dn 0 (itm c :: its r) = _
        rw [this, dn_let]
      · refine .inr ⟨?_, term_other l hl i 0 d n c r h hx (.inr rfl)⟩
        show Dn 0 (itm c :: its r) = none
        unfold itm
        rw [if_neg hx]
        split
        · rfl
        · split <;> rfl
  | succ k ih =>
    intro d i n hd
    obtain ⟨d, rfl⟩ : ∃ e, d = e + 1 := ⟨d - 1, by omega⟩
    cases h : l.drop i with
    | nil => exact .inr ⟨rfl, term_none l hl i (k + 1) d n h⟩
    | cons c r =>
      by_cases hx : c = 120 ∨ c = 121 ∨ c = 122
      · refine .inl ⟨.lt c, i + 1, drop_le h, ?_, term_letter l hl i (k + 1) d n c r h hx⟩
        rw [drop_next h]
        have : itm c = .it (.lt c) 0 := by unfold itm; rw [if_neg (by omega), if_neg (by omega), if_pos hx]
        show Dn (k + 1) (itm c :: its r) = _
        rw [this, dn_let]
      · by_cases hc : c = 40
        · subst hc
          have hp := op_pre (k := k) (d := d) (n := n) hl h
          have hp : f_term_at (d + 1) [.str (sOf l), .int (i : Int), .int ((k + 1 : Nat) : Int)] n = _ := hp
          have hr := drop_next h
          have ei : ((i + 1 : Nat) : Int) = (i : Int) + 1 := rfl
          have dn1 : Dn (k + 1) (its (40 :: r)) = Dn (k + 1) (.op :: its r) := rfl
          rw [dn1, hp]
          rcases ih d (i + 1) n (by omega) with ⟨t, j, _, e1, q1⟩ | ⟨e1, q1⟩
          · rw [hr] at e1
            rw [ei] at q1
            rcases ih d j n (by omega) with ⟨u, e, _, e2, q2⟩ | ⟨e2, q2⟩
            · have he := op_end hl q1 q2
              rw [he]
              by_cases z : (l.drop e).take 1 = [41]
              · rw [if_pos z]
                obtain ⟨r2, hr2⟩ : ∃ r2, l.drop e = 41 :: r2 := by
                  cases g : l.drop e with
                  | nil => rw [g] at z; cases z
                  | cons x y => rw [g] at z; simp at z; exact ⟨y, by rw [z]⟩
                refine .inl ⟨.pr t u, e + 1, drop_le hr2, ?_, rfl⟩
                rw [drop_next hr2]
                rw [hr2] at e2
                show (match Dn k (its r) with | some (a, r1) => _ | none => none) = _
                rw [e1]
                show (match Dn k (its (l.drop j)) with | some (b, .cl :: r2) => some (Trm.pr t b, r2) | _ => none) = _
                rw [e2]
                rfl
              · rw [if_neg z]
                refine .inr ⟨?_, rfl⟩
                show (match Dn k (its r) with | some (a, r1) => _ | none => none) = _
                rw [e1]
                show (match Dn k (its (l.drop j)) with | some (b, .cl :: r2) => some (Trm.pr t b, r2) | _ => none) = _
                rw [e2]
                cases g : l.drop e with
                | nil => rfl
                | cons x y =>
                  rw [g] at z
                  have hx : x ≠ 41 := fun w => z (by rw [w]; rfl)
                  show (match some (u, itm x :: its y) with | some (b, .cl :: r2) => some (Trm.pr t b, r2) | _ => none) = none
                  have hn := itm_cl hx
                  revert hn
                  generalize itm x = w
                  intro hn
                  cases w <;> first | rfl | exact absurd rfl hn
            · refine .inr ⟨?_, op_err2 q1 q2⟩
              show (match Dn k (its r) with | some (a, r1) => _ | none => none) = _
              rw [e1]
              show (match Dn k (its (l.drop j)) with | some (b, .cl :: r2) => some (Trm.pr t b, r2) | _ => none) = _
              rw [e2]
          · rw [hr] at e1
            rw [ei] at q1
            refine .inr ⟨?_, op_err q1⟩
            show (match Dn k (its r) with | some (a, r1) => _ | none => none) = _
            rw [e1]
        · refine .inr ⟨?_, term_other l hl i (k + 1) d n c r h hx (.inl hc)⟩
          show Dn (k + 1) (itm c :: its r) = none
          unfold itm
          rw [if_neg hx, if_neg hc]
          split
          · exact dn_cl _ _
          · exact dn_ot _ _ _
end
def rd (l : List Nat) : Option (Trm × Trm) := match Dn 3 (its l) with
  | some (a, .ot 61 :: w) => match Dn 3 w with
    | some (b, []) => some (a, b)
    | _ => none
  | _ => none
theorem itm_eq {c : Nat} : itm c = .ot 61 ↔ c = 61 := by
  unfold itm
  constructor
  · intro h
    split at h
    · cases h
    · split at h
      · cases h
      · split at h
        · cases h
        · cases h; rfl
  · rintro rfl; rfl
theorem eSl2_at (l : List Nat) (i n : Nat) (hl : l.length ≤ 1000) (a b : Sl) : eSl (eVar 0) (pYes (eVar 2)) (pYes (e2 dAdd (eVar 2) (eC (.int 1)))) [.fz (.str (sOf l)), a, .fz (.int (i : Int)), b] n = .ok (.str (sOf ((l.drop i).take 1))) n := by
  have h := sl_at l i hl n
  show (dSl (some (i : Int)) (some ((i : Int) + 1)) (.str (sOf l))) n = _
  exact h
theorem len_at (l : List Nat) (hl : l.length ≤ 1000) (n : Nat) : dLen (.str (sOf l)) n = .ok (.int (l.length : Int)) n := by
  have hs := sizeLine_eq
  show (need (decide ((sOf l).length ≤ sizeLine)) >>= fun _ => (pure (.int ((sOf l).length : Int)) : M D)) n = _
  rw [sOf_len, decide_eq_true (by omega)]
  rfl
theorem ne_nat (a b n : Nat) : dNe (.int (a : Int)) (.int (b : Int)) n = .ok (.bool (!decide (a = b))) n := by
  have h : dNe (.int (a : Int)) (.int (b : Int)) n = .ok (.bool (!decide ((a : Int) = (b : Int)))) n := congrFun (dNe_at (α := Int) (by decide) (a : Int) (b : Int)) n
  rw [h, decide_eq_decide.mpr (Int.natCast_inj (m := a) (n := b))]
theorem read_ok (l : List Nat) (hl : l.length ≤ 1000) (n : Nat) : f_read [.str (sOf l)] n = match rd l with
  | some (a, b) => .ok (.tuple [toD a, toD b]) n
  | none => .err "BadText" n := by
  have hs := sizeLine_eq
  have h2' : 2 ≤ sizeLine := by omega
  unfold f_read b_read
  have c0 : ((0 : Nat) : Int) = 0 := rfl
  have c3 : ((3 : Nat) : Int) = 3 := rfl
  rcases term_at_ok l hl 3 12 0 n (by omega) with ⟨a, j, hj, e1, q1⟩ | ⟨e1, q1⟩
  · rw [List.drop_zero] at e1
    rw [c0, c3] at q1
    have s1 := eSl2_at l j n hl (.fz (toD a)) .no
    have ne1 : dNe (.str (sOf ((l.drop j).take 1))) (.str "=") n = .ok (.bool (!decide ((l.drop j).take 1 = [61]))) n := by rw [s_eq, ne_str]; simp [sOf_inj]
    by_cases z : (l.drop j).take 1 = [61]
    · obtain ⟨w, hw⟩ : ∃ w, l.drop j = 61 :: w := by
        cases g : l.drop j with
        | nil => rw [g] at z; cases z
        | cons x y => rw [g] at z; simp at z; exact ⟨y, by rw [z]⟩
      rw [decide_eq_true z] at ne1
      have hd := drop_next hw
      have e1' : Dn 3 (its l) = some (a, .ot 61 :: its w) := by rw [e1, hw]; rfl
      rcases term_at_ok l hl 3 12 (j + 1) n (by omega) with ⟨b, e, he, e2, q2⟩ | ⟨e2, q2⟩
      · rw [c3] at q2
        rw [hd] at e2
        rw [show ((j + 1 : Nat) : Int) = (j : Int) + 1 from rfl] at q2
        have ln := len_at l hl n
        have ne2 : dNe (.int (e : Int)) (.int (l.length : Int)) n = .ok (.bool (!decide (e = l.length))) n := ne_nat _ _ n
        have rl : rd l = if e = l.length then some (a, b) else none := by
          unfold rd
          rw [e1']
          simp only [e2]
          by_cases y : e = l.length
          · rw [if_pos y, y, List.drop_length]; rfl
          · rw [if_neg y]
            cases g : l.drop e with
            | nil => exact absurd (Nat.le_antisymm he (List.drop_eq_nil_iff.mp g)) y
            | cons x y => rfl
        rw [rl]
        simp only [run_app, sSeq_app, startE]
        by_cases y : e = l.length
        · rw [if_pos y]
          rw [decide_eq_true y] at ne2
          simp [Env.at, q1, outR, patSet, setAll, s1, ne1, add_int, q2, ne2, h2', ln]
        · rw [if_neg y]
          rw [decide_eq_false y] at ne2
          simp [Env.at, q1, outR, patSet, setAll, s1, ne1, add_int, q2, ne2, h2', ln]
      · rw [c3] at q2
        rw [hd] at e2
        rw [show ((j + 1 : Nat) : Int) = (j : Int) + 1 from rfl] at q2
        have rl : rd l = none := by unfold rd; rw [e1']; simp only [e2]
        rw [rl]
        simp only [run_app, sSeq_app, startE]
        simp [Env.at, q1, outR, patSet, setAll, s1, ne1, add_int, q2]
    · rw [decide_eq_false z] at ne1
      have rl : rd l = none := by
        unfold rd
        rw [e1]
        cases g : l.drop j with
        | nil => rfl
        | cons x y =>
          rw [g] at z
          have hx : itm x ≠ .ot 61 := fun w => z (by rw [itm_eq.mp w]; rfl)
          show (match some (a, itm x :: its y) with | some (a, .ot 61 :: w) => (match Dn 3 w with | some (b, []) => some (a, b) | _ => none) | _ => none) = none
          revert hx
          generalize itm x = w
          intro hx
          split
          · rename_i h
            cases h
            exact absurd rfl hx
          · rfl
      rw [rl]
      simp only [run_app, sSeq_app, startE]
      simp [Env.at, q1, outR, patSet, setAll, s1, ne1, add_int]
  · rw [List.drop_zero] at e1
    rw [c0, c3] at q1
    have : rd l = none := by unfold rd; rw [e1]
    rw [this]
    simp only [run_app, sSeq_app, startE]
    simp [Env.at, q1, outR]
theorem its_raw (l : List Nat) : Raw (its l) := by
  intro x hx
  obtain ⟨c, _, rfl⟩ := List.mem_map.mp hx
  unfold itm
  split
  · exact .inl rfl
  · split
    · exact .inr (.inl rfl)
    · split
      · exact .inr (.inr (.inl ⟨_, rfl⟩))
      · exact .inr (.inr (.inr ⟨_, rfl⟩))
theorem its_cut {l : List Nat} {q r : List Tx.It} (h : its l = q ++ r) : ∃ u v, l = u ++ v ∧ its u = q ∧ its v = r := by
  obtain ⟨u, v, e, e1, e2⟩ := List.map_eq_append_iff.mp h
  exact ⟨u, v, e, e1, e2⟩
/-- one side of a whole text -/
def Sd (u : List Nat) (a : Trm) : Prop := ∃ h, h ≤ 3 ∧ Ps (its u) a h []
theorem Sd.no_other {u : List Nat} {a : Trm} (h : Sd u a) : ∀ c ∈ u, c = 40 ∨ c = 41 ∨ c = 120 ∨ c = 121 ∨ c = 122 := by
  obtain ⟨k, _, p⟩ := h
  intro c hc
  have h1 := p.clean (q := its u) (by simp) c
  have h2 : itm c ∈ its u := List.mem_map.mpr ⟨c, hc, rfl⟩
  by_cases z : c = 40 ∨ c = 41 ∨ c = 120 ∨ c = 121 ∨ c = 122
  · exact z
  · have : itm c = .ot c := by
      unfold itm
      rw [if_neg (by omega), if_neg (by omega), if_neg (by omega)]
    rw [this] at h2
    exact absurd h2 h1
theorem Sd.fn {u : List Nat} {a a' : Trm} (h : Sd u a) (h' : Sd u a') : a = a' := by
  obtain ⟨_, _, p⟩ := h
  obtain ⟨_, _, p'⟩ := h'
  exact (p.det p').1
theorem rd_iff {l : List Nat} {a b : Trm} : rd l = some (a, b) ↔ ∃ u v, l = u ++ 61 :: v ∧ Sd u a ∧ Sd v b := by
  constructor
  · intro h
    unfold rd at h
    split at h
    · rename_i a' w e1
      split at h
      · rename_i b' e2
        cases h
        obtain ⟨q, hh, e, h1, p⟩ := dn_top (its_raw l) e1
        obtain ⟨u, v, rfl, rfl, e3⟩ := its_cut e
        cases v with
        | nil => cases e3
        | cons c v =>
          obtain ⟨e4, e5⟩ := List.cons.inj e3
          have hc := itm_eq.mp e4
          subst hc
          rw [← e5] at e2
          obtain ⟨q2, h2, e6, h3, p2⟩ := dn_top (its_raw v) e2
          rw [List.append_nil] at e6
          have : List.map itm v = q2 := e6
          exact ⟨u, v, rfl, ⟨hh, h1, p⟩, ⟨h2, h3, by rw [show its v = q2 from e6]; exact p2⟩⟩
      · cases h
    · cases h
  · rintro ⟨u, v, rfl, ⟨h1, g1, p1⟩, ⟨h2, g2, p2⟩⟩
    have e : its (u ++ 61 :: v) = its u ++ (.ot 61 :: its v) := by
      show List.map itm _ = _
      rw [List.map_append]
      rfl
    have e1 : Dn 3 (its (u ++ 61 :: v)) = some (a, .ot 61 :: its v) := by
      have := its_raw (u ++ 61 :: v)
      rw [e] at this ⊢
      exact dn_of this g1 p1
    have e2 : Dn 3 (its v) = some (b, []) := by
      have := its_raw v
      rw [← List.append_nil (its v)] at this ⊢
      exact dn_of this g2 p2
    unfold rd
    rw [e1]
    simp only [e2]
/-- an item of the law's row -/
def iD : Tx.It → D
  | .op => .str "("
  | .cl => .str ")"
  | .it t h => .tuple [toD t, .int (h : Int)]
  | .ot _ => .none
def isOp : Tx.It → Bool
  | .op => true
  | _ => false
def isCl : Tx.It → Bool
  | .cl => true
  | _ => false
/-- an item that may be compared -/
def IOk (x : Tx.It) : Prop := okD (iD x) = true
theorem eqv_op (x : Tx.It) : PyData.eqv (iD x) (.str "(") = isOp x := by cases x <;> kernel_rfl
theorem eqv_cl (x : Tx.It) : PyData.eqv (iD x) (.str ")") = isCl x := by cases x <;> kernel_rfl
theorem eq_op {x : Tx.It} (h : IOk x) (n : Nat) : dEq (iD x) (.str "(") n = .ok (.bool (isOp x)) n := by
  show (need (okD (iD x) && okD (.str "(")) >>= fun _ => (pure (.bool (PyData.eqv (iD x) (.str "("))) : M D)) n = _
  rw [eqv_op, show okD (iD x) = true from h]
  rfl
theorem eq_cl {x : Tx.It} (h : IOk x) (n : Nat) : dEq (iD x) (.str ")") n = .ok (.bool (isCl x)) n := by
  show (need (okD (iD x) && okD (.str ")")) >>= fun _ => (pure (.bool (PyData.eqv (iD x) (.str ")"))) : M D)) n = _
  rw [eqv_cl, show okD (iD x) = true from h]
  rfl
/-- how deep an item is, as a value -/
def IBd (x : Tx.It) (d : Nat) : Prop := match x with
  | .it t h => dp t ≤ h ∧ h ≤ d
  | .ot _ => False
  | _ => True
theorem toD_depth : ∀ t : Trm, (toD t).depth ≤ dp t + 1
  | .lt c => by
    show PyData.depth (.str ⟨#[c]⟩) ≤ _
    simp [PyData.depth]
  | .pr a b => by
    have h1 := toD_depth a
    have h2 := toD_depth b
    have hd : dp (.pr a b) = 1 + max (dp a) (dp b) := rfl
    show PyData.depth (.tuple [toD a, toD b]) ≤ _
    simp [PyData.depth, PyData.depthAll]
    omega
theorem iD_plain {x : Tx.It} {d : Nat} (h : IBd x d) : (iD x).plain = true ∧ (iD x).depth ≤ d + 2 := by
  cases x with
  | op => exact ⟨rfl, by show PyData.depth (.str "(") ≤ _; simp [PyData.depth]⟩
  | cl => exact ⟨rfl, by show PyData.depth (.str ")") ≤ _; simp [PyData.depth]⟩
  | ot c => exact h.elim
  | it t k =>
    obtain ⟨h1, h2⟩ := h
    have h3 := toD_depth t
    refine ⟨?_, ?_⟩
    · show PyData.plainAll [toD t, .int (k : Int)] = true
      simp [PyData.plainAll, toD_plain, PyData.plain]
    · show PyData.depth (.tuple [toD t, .int (k : Int)]) ≤ _
      simp [PyData.depth, PyData.depthAll]
      omega
theorem iok_of {x : Tx.It} {d : Nat} (h : IBd x d) (hd : d ≤ 50) : IOk x := by
  have := iD_plain h
  unfold IOk okD
  rw [this.1, decide_eq_true (by omega)]
  rfl
theorem okl {x y : Tx.It} {d : Nat} (h : IBd x d) (h' : IBd y d) (hd : d ≤ 50) : okD (.list [iD x, iD y]) = true := by
  have h1 := iD_plain h
  have h2 := iD_plain h'
  unfold okD
  rw [Bool.and_eq_true]
  refine ⟨?_, decide_eq_true ?_⟩
  · show PyData.plainAll [iD x, iD y] = true
    simp [PyData.plainAll, h1.1, h2.1]
  · simp [PyData.depth, PyData.depthAll]
    omega
theorem in_op {x y : Tx.It} {d : Nat} (h : IBd x d) (h' : IBd y d) (hd : d ≤ 50) (n : Nat) : dIn true (.str "(") (.list [iD x, iD y]) n = .ok (.bool (!(isOp x || isOp y))) n := by
  show (need (okD (.str "(") && okD (.list [iD x, iD y])) >>= fun _ => (pure (.bool (!inD (.str "(") [iD x, iD y])) : M D)) n = _
  rw [okl h h' hd]
  show Res.ok (PyData.bool (!(PyData.eqv (iD x) (.str "(") || (PyData.eqv (iD y) (.str "(") || false)))) n = _
  rw [eqv_op, eqv_op, Bool.or_false]
theorem in_cl {x y : Tx.It} {d : Nat} (h : IBd x d) (h' : IBd y d) (hd : d ≤ 50) (n : Nat) : dIn true (.str ")") (.list [iD x, iD y]) n = .ok (.bool (!(isCl x || isCl y))) n := by
  show (need (okD (.str ")") && okD (.list [iD x, iD y])) >>= fun _ => (pure (.bool (!inD (.str ")") [iD x, iD y])) : M D)) n = _
  rw [okl h h' hd]
  show Res.ok (PyData.bool (!(PyData.eqv (iD x) (.str ")") || (PyData.eqv (iD y) (.str ")") || false)))) n = _
  rw [eqv_cl, eqv_cl, Bool.or_false]
/-- the windows that count, by what the law asks of four items -/
def wq (p q r s : Tx.It) : Bool := isOp p && (isCl s && (!(isOp q || isOp r) && !(isCl q || isCl r)))
theorem wq_win {p q r s : Tx.It} {v : List Tx.It} {d : Nat} (hq : IBd q d) (hr : IBd r d) :
    (wq p q r s = true → ∃ a h b j, q = .it a h ∧ r = .it b j ∧ winA (p :: q :: r :: s :: v) = some (a, h, b, j)) ∧ (wq p q r s = false → winA (p :: q :: r :: s :: v) = none) := by
  cases p <;> cases s <;> cases q <;> cases r <;> simp_all [wq, isOp, isCl, winA, IBd]
  exact ⟨_, _, ⟨rfl, rfl⟩, _, _, ⟨rfl, rfl⟩, rfl, rfl, rfl, rfl⟩
theorem cut4 (ds : List D) (i : Nat) (h : i + 4 ≤ ds.length) : cutD ds (some (i : Int)) (some ((i : Int) + 4)) = (ds.drop i).take 4 := by
  unfold cutD
  rw [show ((i : Int) + 4) = ((i + 4 : Nat) : Int) from rfl, HT.sIx_nat, HT.sIx_nat, Nat.min_eq_left (by omega), Nat.min_eq_left (by omega), Nat.add_sub_cancel_left]
/-- the loop of law_read: what it asks, what it does -/
abbrev wc : Mi.Env → M Bool := (tB (e2 dLt (e2 dAdd (eVar 5) (eC (.int 3))) (eCall (arg1 dLen) (aCons (eVar 4) aNil))))
abbrev wb : MS :=
    (sSeq (sSet 6 (eSl (eVar 4) (pYes (eVar 5)) (pYes (e2 dAdd (eVar 5) (eC (.int 4))))))
    (sIf (bAnd (tB (e2 dEq (e2 dIx (eVar 6) (eC (.int 0))) (eC (.str "(")))) (bAnd (tB (e2 dEq (e2 dIx (eVar 6) (eC (.int 3))) (eC (.str ")")))) (bAnd (tB (e2 (dIn true) (eC (.str "(")) (eSl (eVar 6) (pYes (eC (.int 1))) (pYes (eC (.int 3)))))) (tB (e2 (dIn true) (eC (.str ")")) (eSl (eVar 6) (pYes (eC (.int 1))) (pYes (eC (.int 3)))))))))
    (sSeq (sSet 4 (e2 dAdd (e2 dAdd (eSl (eVar 4) pNo (pYes (eVar 5))) (eL (lLst (aCons (eTup (aCons (eTup (aCons (e2 dIx (e2 dIx (eVar 6) (eC (.int 1))) (eC (.int 0))) (aCons (e2 dIx (e2 dIx (eVar 6) (eC (.int 2))) (eC (.int 0))) aNil))) (aCons (e2 dAdd (eC (.int 1)) (eCall (arg2 gMax2) (aCons (e2 dIx (e2 dIx (eVar 6) (eC (.int 1))) (eC (.int 1))) (aCons (e2 dIx (e2 dIx (eVar 6) (eC (.int 2))) (eC (.int 1))) aNil)))) aNil))) aNil)))) (eSl (eVar 4) (pYes (e2 dAdd (eVar 5) (eC (.int 4)))) pNo)))
    (sSet 5 (eC (.int 0))))
    (sSet 5 (e2 dAdd (eVar 5) (eC (.int 1))))))
section
variable {x0 x1 x2 x3 x6 x7 : Sl} {w : List Tx.It} {k d n : Nat}
abbrev we (x0 x1 x2 x3 : Sl) (w : List Tx.It) (k : Nat) (x6 x7 : Sl) : Mi.Env := [x0, x1, x2, x3, .fz (.list (w.map iD)), .fz (.int (k : Int)), x6, x7]
theorem wc_ok : wc (we x0 x1 x2 x3 w k x6 x7) n = .ok (decide (k + 3 < w.length)) n := by
  have e : dLt (.int ((k : Int) + 3)) (.int ((w.map iD).length : Int)) n = .ok (.bool (decide ((k : Int) + 3 < ((w.map iD).length : Int)))) n := rfl
  have el : dLen (.list (w.map iD)) n = .ok (.int ((w.map iD).length : Int)) n := rfl
  simp only [tB_app, e2_app, eVar_app]
  simp [Env.at, add_int, el, e]
  omega
end
section
variable {x0 x1 x2 x3 x6 x7 : Sl} {w : List Tx.It} {k d n : Nat}
theorem four_ok {p q r s : Tx.It} {v : List Tx.It} (hw : w.drop k = p :: q :: r :: s :: v) (n : Nat) : dSl (some (k : Int)) (some ((k : Int) + 4)) (.list (w.map iD)) n = .ok (.list [iD p, iD q, iD r, iD s]) n := by
  have hl := congrArg List.length hw
  simp only [List.length_drop, List.length_cons] at hl
  show Res.ok (PyData.list (cutD (w.map iD) (some (k : Int)) (some ((k : Int) + 4)))) n = _
  rw [cut4 _ _ (by rw [List.length_map]; omega), ← List.map_drop, hw]
  rfl
end
section
variable {x0 x1 x2 x3 x6 x7 : Sl} {w : List Tx.It} {k d n : Nat}
theorem es4 {p q r s : Tx.It} {v : List Tx.It} (hw : w.drop k = p :: q :: r :: s :: v) (n : Nat) : eSl (eVar 4) (pYes (eVar 5)) (pYes (e2 dAdd (eVar 5) (eC (.int 4)))) (we x0 x1 x2 x3 w k x6 x7) n = .ok (.list [iD p, iD q, iD r, iD s]) n := by
  have h := four_ok hw n
  show dSl (some (k : Int)) (some ((k : Int) + 4)) (.list (w.map iD)) n = _
  exact h
theorem es13 {a b c e : Sl} {f g : Sl} {ds : List D} {y : Sl} (n : Nat) : eSl (eVar 6) (pYes (eC (.int 1))) (pYes (eC (.int 3))) [a, b, c, e, f, g, .fz (.list ds), y] n = .ok (.list (cutD ds (some 1) (some 3))) n := rfl
theorem wb_no {p q r s : Tx.It} {v : List Tx.It} (hw : w.drop k = p :: q :: r :: s :: v) (hp : IBd p d) (hq : IBd q d) (hr : IBd r d) (hs : IBd s d) (hd : d ≤ 50) (z : wq p q r s = false) :
    wb (we x0 x1 x2 x3 w k x6 x7) n = .ok (we x0 x1 x2 x3 w (k + 1) (.fz (.list [iD p, iD q, iD r, iD s])) x7, .nx) n := by
  have e4 := es4 (x0 := x0) (x1 := x1) (x2 := x2) (x3 := x3) (x6 := x6) (x7 := x7) hw n
  have ep := eq_op (iok_of hp hd) n
  have es := eq_cl (iok_of hs hd) n
  have iq := in_op hq hr hd n
  have ic := in_cl hq hr hd n
  have i0 : dIx (.list [iD p, iD q, iD r, iD s]) (.int 0) n = .ok (iD p) n := rfl
  have i3 : dIx (.list [iD p, iD q, iD r, iD s]) (.int 3) n = .ok (iD s) n := rfl
  have s13 : eSl (eVar 6) (pYes (eC (.int 1))) (pYes (eC (.int 3))) [x0, x1, x2, x3, .fz (.list (w.map iD)), .fz (.int (k : Int)), .fz (.list [iD p, iD q, iD r, iD s]), x7] n = .ok (.list [iD q, iD r]) n := rfl
  unfold wq at z
  simp [wb, Env.at, e4, s13]
  cases a : isOp p <;> cases b : isCl s <;> cases c : (isOp q || isOp r) <;> cases g : (isCl q || isCl r) <;> simp_all
end
section
variable {x0 x1 x2 x3 x6 x7 : Sl} {w : List Tx.It} {k d n : Nat}
theorem sIx_bot (m : Nat) : HT.sIx m 0 none = 0 := rfl
theorem pre_ok {f : Sl} (hk : k ≤ w.length) (n : Nat) : eSl (eVar 4) pNo (pYes (eVar 5)) [x0, x1, x2, x3, .fz (.list (w.map iD)), .fz (.int (k : Int)), f, x7] n = .ok (.list ((w.take k).map iD)) n := by
  show Res.ok (PyData.list (cutD (w.map iD) none (some (k : Int)))) n = _
  congr 2
  unfold cutD
  rw [HT.sIx_nat, List.length_map, Nat.min_eq_left hk, sIx_bot, List.drop_zero, Nat.sub_zero, ← List.map_take]
theorem suf_ok {f : Sl} (hk : k + 4 ≤ w.length) (n : Nat) : eSl (eVar 4) (pYes (e2 dAdd (eVar 5) (eC (.int 4)))) pNo [x0, x1, x2, x3, .fz (.list (w.map iD)), .fz (.int (k : Int)), f, x7] n = .ok (.list ((w.drop (k + 4)).map iD)) n := by
  show Res.ok (PyData.list (cutD (w.map iD) (some ((k : Int) + 4)) none)) n = _
  congr 2
  unfold cutD
  rw [show ((k : Int) + 4) = ((k + 4 : Nat) : Int) from rfl, HT.sIx_nat, List.length_map, Nat.min_eq_left hk, show HT.sIx w.length w.length none = w.length from rfl, ← List.map_drop, List.take_of_length_le (by simp)]
theorem add_list (a b : List D) (h : a.length + b.length ≤ 1000) (n : Nat) : dAdd (.list a) (.list b) n = .ok (.list (a ++ b)) n := by
  have hs := sizeLine_eq
  show (need (decide (a.length + b.length ≤ sizeLine)) >>= fun _ => (pure (.list (a ++ b)) : M D)) n = _
  rw [decide_eq_true (by omega)]
  rfl
theorem max2_nat (a b n : Nat) : gMax2 (.int (a : Int)) (.int (b : Int)) n = .ok (.int ((max a b : Nat) : Int)) n := by
  show Res.ok (PyData.int (if (b : Int) > (a : Int) then (b : Int) else (a : Int))) n = _
  congr 2
  split <;> omega
end
/-- the row's items, bounded by how many there were -/
def Itb (m : Nat) : Tx.It → Prop
  | .it t h => dp t ≤ h ∧ 3 * h ≤ m
  | .ot _ => False
  | _ => True
theorem Itb.mono {m m' : Nat} (hm : m ≤ m') : ∀ {x : Tx.It}, Itb m x → Itb m' x
  | .op, h => h
  | .cl, h => h
  | .ot _, h => h
  | .it _ _, h => ⟨h.1, Nat.le_trans h.2 hm⟩
def Iv (L : Nat) (w : List Tx.It) : Prop := w.length ≤ L ∧ ∀ x ∈ w, Itb (L - w.length) x
theorem iv_bd {L : Nat} {w : List Tx.It} (h : Iv L w) (hL : L ≤ 67) {x : Tx.It} (hx : x ∈ w) : IBd x 22 := by
  have := h.2 x hx
  cases x with
  | op => trivial
  | cl => trivial
  | ot c => exact this
  | it t k =>
    have : dp t ≤ k ∧ 3 * k ≤ L - w.length := this
    exact ⟨this.1, by omega⟩
theorem iv_its (l : List Nat) (h : ∀ c ∈ l, c = 40 ∨ c = 41 ∨ c = 120 ∨ c = 121 ∨ c = 122) : Iv l.length (its l) := by
  have hl : (its l).length = l.length := List.length_map _
  refine ⟨by rw [hl]; exact Nat.le_refl _, fun x hx => ?_⟩
  rw [hl]
  obtain ⟨c, hc, rfl⟩ := List.mem_map.mp hx
  have := h c hc
  unfold itm
  by_cases h1 : c = 40
  · rw [if_pos h1]; trivial
  · rw [if_neg h1]
    by_cases h2 : c = 41
    · rw [if_pos h2]; trivial
    · rw [if_neg h2, if_pos (by omega)]
      exact ⟨Nat.le_refl _, by omega⟩
theorem iv_red {L k : Nat} {w v : List Tx.It} {a b : Trm} {h j : Nat} (iv : Iv L w) (hw : w.drop k = .op :: .it a h :: .it b j :: .cl :: v) : Iv L (w.take k ++ On a b h j :: w.drop (k + 4)) := by
  have hl := congrArg List.length hw
  simp only [List.length_drop, List.length_cons] at hl
  have hlen : (w.take k ++ On a b h j :: w.drop (k + 4)).length + 3 = w.length := by
    rw [List.length_append, List.length_cons, List.length_take, List.length_drop]
    omega
  have hm : ∀ x ∈ w.drop k, x ∈ w := fun x hx => List.mem_of_mem_drop hx
  have ma := iv.2 (.it a h) (hm _ (by rw [hw]; simp))
  have mb := iv.2 (.it b j) (hm _ (by rw [hw]; simp))
  have ma : dp a ≤ h ∧ 3 * h ≤ L - w.length := ma
  have mb : dp b ≤ j ∧ 3 * j ≤ L - w.length := mb
  have h0 := iv.1
  have hle : L - w.length ≤ L - (w.take k ++ On a b h j :: w.drop (k + 4)).length := by omega
  refine ⟨by omega, fun x hx => ?_⟩
  rcases List.mem_append.mp hx with hx | hx
  · exact (iv.2 x (List.mem_of_mem_take hx)).mono hle
  · rcases List.mem_cons.mp hx with rfl | hx
    · show dp (.pr a b) ≤ 1 + max h j ∧ 3 * (1 + max h j) ≤ _
      have e : dp (.pr a b) = 1 + max (dp a) (dp b) := rfl
      rw [e]
      omega
    · exact (iv.2 x (List.mem_of_mem_drop hx)).mono hle
section
variable {x0 x1 x2 x3 x6 x7 : Sl} {w : List Tx.It} {k n : Nat}
theorem one_more (m : Nat) : (((1 + m : Nat)) : Int) = 1 + (m : Int) := by omega
theorem wb_yes {a b : Trm} {h j : Nat} {v : List Tx.It} (hw : w.drop k = .op :: .it a h :: .it b j :: .cl :: v) (hl : w.length ≤ 67) (ha : IBd (.it a h) 22) (hb : IBd (.it b j) 22) :
    wb (we x0 x1 x2 x3 w k x6 x7) n = .ok (we x0 x1 x2 x3 (w.take k ++ On a b h j :: w.drop (k + 4)) 0 (.fz (.list [iD .op, iD (.it a h), iD (.it b j), iD .cl])) x7, .nx) n := by
  have hsz := sizeLine_eq
  have h1s : 1 ≤ sizeLine := by omega
  have h2s : 2 ≤ sizeLine := by omega
  have hll := congrArg List.length hw
  simp only [List.length_drop, List.length_cons] at hll
  have hd : (22 : Nat) ≤ 50 := by omega
  have e4 := es4 (x0 := x0) (x1 := x1) (x2 := x2) (x3 := x3) (x6 := x6) (x7 := x7) hw n
  have ep := eq_op (iok_of (x := .op) (d := 22) trivial hd) n
  have es := eq_cl (iok_of (x := .cl) (d := 22) trivial hd) n
  have iq := in_op ha hb hd n
  have ic := in_cl ha hb hd n
  have i0 : dIx (.list [iD .op, iD (.it a h), iD (.it b j), iD .cl]) (.int 0) n = .ok (iD .op) n := rfl
  have i1 : dIx (.list [iD .op, iD (.it a h), iD (.it b j), iD .cl]) (.int 1) n = .ok (.tuple [toD a, .int (h : Int)]) n := rfl
  have i2 : dIx (.list [iD .op, iD (.it a h), iD (.it b j), iD .cl]) (.int 2) n = .ok (.tuple [toD b, .int (j : Int)]) n := rfl
  have i3 : dIx (.list [iD .op, iD (.it a h), iD (.it b j), iD .cl]) (.int 3) n = .ok (iD .cl) n := rfl
  have s13 : eSl (eVar 6) (pYes (eC (.int 1))) (pYes (eC (.int 3))) [x0, x1, x2, x3, .fz (.list (w.map iD)), .fz (.int (k : Int)), .fz (.list [iD .op, iD (.it a h), iD (.it b j), iD .cl]), x7] n = .ok (.list [iD (.it a h), iD (.it b j)]) n := rfl
  have pr := pre_ok (x0 := x0) (x1 := x1) (x2 := x2) (x3 := x3) (x7 := x7) (w := w) (k := k) (f := .fz (.list [iD .op, iD (.it a h), iD (.it b j), iD .cl])) (by omega) n
  have su := suf_ok (x0 := x0) (x1 := x1) (x2 := x2) (x3 := x3) (x7 := x7) (w := w) (k := k) (f := .fz (.list [iD .op, iD (.it a h), iD (.it b j), iD .cl])) (by omega) n
  have ap : isOp Tx.It.op = true := rfl
  have ac : isCl Tx.It.cl = true := rfl
  have aa : isOp (.it a h) = false := rfl
  have ab : isOp (.it b j) = false := rfl
  have ca : isCl (.it a h) = false := rfl
  have cb : isCl (.it b j) = false := rfl
  rw [ap] at ep
  rw [ac] at es
  rw [aa, ab] at iq
  rw [ca, cb] at ic
  have q0 : ∀ (x : D) (m : Int), dIx (.tuple [x, .int m]) (.int 0) n = .ok x n := fun _ _ => rfl
  have q1 : ∀ (x : D) (m : Int), dIx (.tuple [x, .int m]) (.int 1) n = .ok (.int m) n := fun _ _ => rfl
  have mx := max2_nat h j n
  have d1 := add_list ((w.take k).map iD) [.tuple [.tuple [toD a, toD b], .int (1 + ((max h j : Nat) : Int))]] (by simp; omega) n
  have d2 := add_list ((w.take k).map iD ++ [.tuple [.tuple [toD a, toD b], .int (1 + ((max h j : Nat) : Int))]]) ((w.drop (k + 4)).map iD) (by simp; omega) n
  have fin : (w.take k).map iD ++ [.tuple [.tuple [toD a, toD b], .int (1 + ((max h j : Nat) : Int))]] ++ (w.drop (k + 4)).map iD = (w.take k ++ On a b h j :: w.drop (k + 4)).map iD := by
    rw [List.map_append, List.map_cons, List.append_assoc]
    show _ ++ (_ :: _) = _ ++ (PyData.tuple [toD (.pr a b), .int ((1 + max h j : Nat) : Int)] :: _)
    rw [one_more]
    rfl
  rw [fin] at d2
  have cond : bAnd (Mi.tB (e2 dEq (e2 dIx (eVar 6) (eC (.int 0))) (eC (.str "(")))) (bAnd (Mi.tB (e2 dEq (e2 dIx (eVar 6) (eC (.int 3))) (eC (.str ")")))) (bAnd (Mi.tB (e2 (dIn true) (eC (.str "(")) (eSl (eVar 6) (pYes (eC (.int 1))) (pYes (eC (.int 3)))))) (Mi.tB (e2 (dIn true) (eC (.str ")")) (eSl (eVar 6) (pYes (eC (.int 1))) (pYes (eC (.int 3)))))))) [x0, x1, x2, x3, .fz (.list (w.map iD)), .fz (.int (k : Int)), .fz (.list [iD .op, iD (.it a h), iD (.it b j), iD .cl]), x7] n = .ok true n := by
    simp [Env.at, s13, i0, i3, ep, es, iq, ic]
  have row : e2 dAdd (e2 dAdd (eSl (eVar 4) pNo (pYes (eVar 5))) (eL (lLst (aCons (eTup (aCons (eTup (aCons (e2 dIx (e2 dIx (eVar 6) (eC (.int 1))) (eC (.int 0))) (aCons (e2 dIx (e2 dIx (eVar 6) (eC (.int 2))) (eC (.int 0))) aNil))) (aCons (e2 dAdd (eC (.int 1)) (eCall (arg2 gMax2) (aCons (e2 dIx (e2 dIx (eVar 6) (eC (.int 1))) (eC (.int 1))) (aCons (e2 dIx (e2 dIx (eVar 6) (eC (.int 2))) (eC (.int 1))) aNil)))) aNil))) aNil)))) (eSl (eVar 4) (pYes (e2 dAdd (eVar 5) (eC (.int 4)))) pNo) [x0, x1, x2, x3, .fz (.list (w.map iD)), .fz (.int (k : Int)), .fz (.list [iD .op, iD (.it a h), iD (.it b j), iD .cl]), x7] n = .ok (.list ((w.take k ++ On a b h j :: w.drop (k + 4)).map iD)) n := by
    clear fin cond e4 ep es iq ic i0 i3 s13 ha hb hw hll hl
    generalize hP : (w.take k).map iD = P at pr d1 d2 ⊢
    generalize hS : (w.drop (k + 4)).map iD = S at su d1 d2 ⊢
    generalize hR : (w.take k ++ On a b h j :: w.drop (k + 4)).map iD = R at d2 ⊢
    generalize hF : [iD .op, iD (.it a h), iD (.it b j), iD .cl] = F at pr su i1 i2 ⊢
    simp only [e2_app, eL_app, lLst_app, aCons_app, eTup_app, eCall_app, pr, su]
    simp [Env.at, i1, i2, q0, q1, mx, add_int, d1, d2, h1s, h2s, su]
  show sSeq _ _ _ _ = _
  rw [sSeq_app, sSet_app, e4]
  simp only [bd_ok, pure_app, seqR_nx]
  rw [sIf_app]
  show (bAnd _ _ [x0, x1, x2, x3, .fz (.list (w.map iD)), .fz (.int (k : Int)), .fz (.list [iD .op, iD (.it a h), iD (.it b j), iD .cl]), x7] n).bdB _ _ = _
  rw [cond]
  simp only [bdB_t]
  rw [sSeq_app, sSet_app]
  show seqR ((e2 dAdd _ _ [x0, x1, x2, x3, .fz (.list (w.map iD)), .fz (.int (k : Int)), .fz (.list [iD .op, iD (.it a h), iD (.it b j), iD .cl]), x7] n).bd _) _ = _
  rw [row]
  rfl
/-- the loop -/
theorem wh_ok {L : Nat} (hL : L ≤ 67) : ∀ (f : Nat) (w : List Tx.It) (k : Nat) (x6 : Sl) (w' : List Tx.It), Iv L w → lp f w k = some w' → ∃ k' y6, whL wc wb f (we x0 x1 x2 x3 w k x6 x7) n = .ok (we x0 x1 x2 x3 w' k' y6 x7, .nx) n ∧ Iv L w' := by
  intro f
  induction f with
  | zero => intro w k x6 w' _ e; cases e
  | succ f ih =>
    intro w k x6 w' iv e
    unfold lp at e
    have hc := wc_ok (x0 := x0) (x1 := x1) (x2 := x2) (x3 := x3) (x6 := x6) (x7 := x7) (w := w) (k := k) (n := n)
    by_cases c : k + 3 < w.length
    · rw [if_pos c] at e
      rw [decide_eq_true c] at hc
      obtain ⟨p, q, r, s, v, hw⟩ : ∃ p q r s v, w.drop k = p :: q :: r :: s :: v := by
        have hl : (w.drop k).length = w.length - k := List.length_drop
        match hd : w.drop k, hl with
        | [], hl => simp at hl; omega
        | [_], hl => simp at hl; omega
        | [_, _], hl => simp at hl; omega
        | [_, _, _], hl => simp at hl; omega
        | p :: q :: r :: s :: v, _ => exact ⟨p, q, r, s, v, rfl⟩
      have hm : ∀ x ∈ w.drop k, x ∈ w := fun x hx => List.mem_of_mem_drop hx
      have bp := iv_bd iv hL (hm p (by rw [hw]; simp))
      have bq := iv_bd iv hL (hm q (by rw [hw]; simp))
      have br := iv_bd iv hL (hm r (by rw [hw]; simp))
      have bs := iv_bd iv hL (hm s (by rw [hw]; simp))
      obtain ⟨z1, z2⟩ := wq_win (p := p) (s := s) (v := v) bq br
      have ew : win w k = winA (p :: q :: r :: s :: v) := by unfold win; rw [hw]
      unfold whL
      rw [bnd_app, hc, bd_ok, if_pos rfl, bnd_app]
      cases z : wq p q r s with
      | false =>
        rw [ew, z2 z] at e
        simp only at e
        rw [wb_no (d := 22) hw bp bq br bs (by omega) z, bd_ok]
        exact ih w (k + 1) _ w' iv e
      | true =>
        obtain ⟨a, h, b, j, rfl, rfl, e2⟩ := z1 z
        rw [ew, e2] at e
        simp only at e
        obtain ⟨v2, ev⟩ := winA_some e2
        have hw2 : w.drop k = .op :: .it a h :: .it b j :: .cl :: v2 := by rw [hw, ev]; rfl
        rw [wb_yes hw2 (by have := iv.1; omega) bq br, bd_ok]
        exact ih _ 0 _ w' (iv_red iv hw2) e
    · rw [if_neg c] at e
      cases e
      rw [decide_eq_false c] at hc
      refine ⟨k, x6, ?_, iv⟩
      unfold whL
      rw [bnd_app, hc, bd_ok, if_neg Bool.false_ne_true]
      rfl
end
section
open Builtin Builtin.Str StrLaws
theorem occ_go (x : Str) (c hi limit : Nat) (hx : hi = x.length) : ∀ (m a : Nat) (st : Array Nat × Nat), st.1.size ≤ a → st.2 ≤ a → a + m ≤ limit →
    (forIn (List.range' a m) st (occBody x ⟨#[c]⟩ hi limit)).run.fst.toList = st.1.toList ++ (List.range' a m).filter (fun i => decide (x.cps.toList[i]? = some c))
  | 0, a, st, _, _, _ => by
    show st.1.toList = _
    simp
  | m + 1, a, st, h1, h2, h3 => by
    rw [List.range'_succ, List.forIn_cons]
    unfold occBody
    by_cases hc : x.cps.toList[a]? = some c
    · have hc' := (subAt_one x c a).mpr hc
      rw [← hx] at hc'
      rw [if_pos ⟨⟨⟨by omega, h2⟩, hc'.1⟩, hc'.2⟩]
      have ih := occ_go x c hi limit hx m (a + 1) (st.1.push a, a + 1) (by simp; omega) (Nat.le_refl _) (by omega)
      refine Eq.trans ih ?_
      rw [List.filter_cons_of_pos (by rw [decide_eq_true hc])]
      simp
    · have hc' : ¬ (a + (⟨#[c]⟩ : Str).length ≤ hi ∧ subAt x ⟨#[c]⟩ a = true) := fun h => hc ((subAt_one x c a).mp (by rw [← hx]; exact h))
      rw [if_neg (fun h => hc' ⟨h.1.2, h.2⟩)]
      have ih := occ_go x c hi limit hx m (a + 1) st (by omega) (by omega) (by omega)
      refine Eq.trans ih ?_
      rw [List.filter_cons_of_neg (by rw [decide_eq_false hc]; exact Bool.false_ne_true)]
def cuts (l : List Nat) (c : Nat) : List Nat := (List.range (l.length + 1)).filter fun i => decide (l[i]? = some c)
theorem occ_cuts (l : List Nat) (c : Nat) : occurrences (sOf l) (sOf [c]) 0 (sOf l).length ((sOf l).length + 1) = cuts l c := by
  rw [occ_eq]
  have := occ_go (sOf l) c (sOf l).length ((sOf l).length + 1) rfl ((sOf l).length + 1) 0 (#[], 0) (Nat.le_refl _) (Nat.le_refl _) (by omega)
  refine Eq.trans this ?_
  rw [sOf_len]
  unfold cuts
  rw [List.range_eq_range']
  rfl
theorem kind_one (c : Nat) (h : c < 256) : Builtin.Str.strKind (sOf [c]) = 1 := by
  unfold Builtin.Str.strKind sOf
  simp [h]
theorem kind_pos (x : Str) : 1 ≤ Builtin.Str.strKind x := by
  unfold Builtin.Str.strKind
  split
  · omega
  · split <;> omega
theorem split_parts (l : List Nat) (c : Nat) (hc : c < 256) : Txt.split (sOf l) (sOf [c]) = partsFrom (sOf l) 1 0 (cuts l c) := by
  have e1 : (sOf [c]).length = 1 := sOf_len [c]
  unfold Txt.split
  by_cases h0 : l = []
  · subst h0
    rw [if_pos (by rw [sOf_len, sOf_len]; rfl)]
    have : cuts [] c = [] := by
      unfold cuts
      simp
    rw [this]
    show [sOf []] = [strSub (sOf []) 0 (sOf []).length]
    rw [sub_whole]
  · have hl : 1 ≤ l.length := List.length_pos_iff.mpr h0
    rw [if_neg (by
      have k1 := kind_one c hc
      have k2 := kind_pos (sOf l)
      rw [e1, sOf_len, k1, decide_eq_false (by omega), decide_eq_false (by omega)]
      exact Bool.false_ne_true), occ_cuts, e1]
    by_cases h1 : (cuts l c).isEmpty = true
    · rw [if_pos h1, List.isEmpty_iff.mp h1]
      show [sOf l] = [strSub (sOf l) 0 (sOf l).length]
      rw [sub_whole]
    · rw [if_neg h1, partsBetween_eq]
theorem mem_cuts {l : List Nat} {c i : Nat} : i ∈ cuts l c ↔ l[i]? = some c := by
  unfold cuts
  rw [List.mem_filter, decide_eq_true_eq, List.mem_range]
  exact ⟨fun h => h.2, fun h => ⟨by have := (List.getElem?_eq_some_iff.mp h).1; omega, h⟩⟩
theorem cuts_nodup (l : List Nat) (c : Nat) : (cuts l c).Nodup := List.nodup_range.sublist List.filter_sublist
theorem parts_len (x : Str) : ∀ (cs : List Nat) (a : Nat), (partsFrom x 1 a cs).length = cs.length + 1
  | [], _ => rfl
  | c :: r, a => by
    show (partsFrom x 1 (c + 1) r).length + 1 = _
    rw [parts_len x r]
    rfl
theorem split_cases (l : List Nat) (c : Nat) (hc : c < 256) :
    (∃ u v, l = u ++ c :: v ∧ c ∉ u ∧ c ∉ v ∧ Txt.split (sOf l) (sOf [c]) = [sOf u, sOf v]) ∨
    ((Txt.split (sOf l) (sOf [c])).length ≠ 2 ∧ ∀ u v, l = u ++ c :: v → c ∈ u ∨ c ∈ v) := by
  have hp := split_parts l c hc
  have hl := parts_len (sOf l) (cuts l c) 0
  rw [← hp] at hl
  match hcs : cuts l c with
  | [] =>
    refine .inr ⟨by rw [hl, hcs]; decide, fun u v e => ?_⟩
    have : u.length ∈ cuts l c := mem_cuts.mpr (by rw [e]; simp)
    rw [hcs] at this
    cases this
  | [i] =>
    have hi : l[i]? = some c := mem_cuts.mp (by rw [hcs]; simp)
    have only : ∀ j, l[j]? = some c → j = i := fun j hj => by
      have := mem_cuts.mpr hj
      rw [hcs] at this
      simpa using this
    obtain ⟨hlt, hv⟩ := List.getElem?_eq_some_iff.mp hi
    refine .inl ⟨l.take i, l.drop (i + 1), ?_, fun h => ?_, fun h => ?_, ?_⟩
    · rw [← hv, ← List.drop_eq_getElem_cons hlt, List.take_append_drop]
    · obtain ⟨j, hj⟩ := List.mem_iff_getElem?.mp h
      have hji : j < i := by
        have := (List.getElem?_eq_some_iff.mp hj).1
        rw [List.length_take] at this
        omega
      rw [List.getElem?_take, if_pos hji] at hj
      have := only j hj
      omega
    · obtain ⟨j, hj⟩ := List.mem_iff_getElem?.mp h
      rw [List.getElem?_drop] at hj
      have := only _ hj
      omega
    · rw [hp, hcs]
      show [strSub (sOf l) 0 i, strSub (sOf l) (i + 1) (sOf l).length] = _
      have e1 : strSub (sOf l) 0 i = sOf (l.take i) := by
        apply Str.ext'
        apply Array.toList_inj.mp
        rw [strSub_toList]
        simp [sOf]
      have e2 : strSub (sOf l) (i + 1) (sOf l).length = sOf (l.drop (i + 1)) := by
        apply Str.ext'
        apply Array.toList_inj.mp
        rw [strSub_toList, sOf_len]
        show (l.drop (i + 1)).take _ = l.drop (i + 1)
        exact List.take_of_length_le (by simp)
      rw [e1, e2]
  | i :: j :: r =>
    refine .inr ⟨by rw [hl, hcs]; simp, fun u v e => ?_⟩
    refine Classical.byContradiction fun h => ?_
    have hu : c ∉ u := fun z => h (.inl z)
    have hv : c ∉ v := fun z => h (.inr z)
    have only : ∀ j, l[j]? = some c → j = u.length := fun j hj => by
      rw [e] at hj
      rcases Nat.lt_trichotomy j u.length with z | z | z
      · rw [List.getElem?_append_left z] at hj
        exact absurd (List.mem_of_getElem? hj) hu
      · exact z
      · rw [List.getElem?_append_right (by omega), show j - u.length = (j - u.length - 1) + 1 by omega, List.getElem?_cons_succ] at hj
        exact absurd (List.mem_of_getElem? hj) hv
    have h1 := only i (mem_cuts.mp (by rw [hcs]; simp))
    have h2 := only j (mem_cuts.mp (by rw [hcs]; simp))
    have nd := cuts_nodup l c
    rw [hcs] at nd
    have := (List.nodup_cons.mp nd).1
    exact this (by rw [h1, h2]; simp)
end
/-- a text's signs -/
def chD (c : Nat) : D := .str ⟨#[c]⟩
theorem signs_ok (l : List Nat) : (chs (sOf l)).map PyData.str = l.map chD := by
  unfold chs sOf
  rw [List.map_map]
  rfl
theorem chD_sOf (c : Nat) : chD c = .str (sOf [c]) := rfl
/-- the signs of texts -/
def okc (c : Nat) : Bool := decide (c = 40 ∨ c = 41 ∨ c = 120 ∨ c = 121 ∨ c = 122 ∨ c = 61)
theorem notin_all (c n : Nat) : dIn true (chD c) (.str "()xyz=") n = .ok (.bool (!okc c)) n := by
  show (Res.ok (.bool (!inStr ⟨#[c]⟩ "()xyz=")) n : Res D) = _
  rw [inStr_one, show ("()xyz=" : Str).cps.toList = [40, 41, 120, 121, 122, 61] from by kernel_rfl]
  congr 3
  unfold okc
  exact decide_eq_decide.mpr (by simp)
theorem in_br (c n : Nat) : dIn false (chD c) (.str "()") n = .ok (.bool (decide (c = 40 ∨ c = 41))) n := by
  show (Res.ok (.bool (inStr ⟨#[c]⟩ "()")) n : Res D) = _
  rw [inStr_one, show ("()" : Str).cps.toList = [40, 41] from by kernel_rfl]
  congr 2
  exact decide_eq_decide.mpr (by simp)
theorem iStrM_ok {fa : Mi.Env → M D} {ρ : Mi.Env} {n : Nat} {l : List Nat} (h : fa ρ n = .ok (.str (sOf l)) n) : iStrM fa ρ n = .ok (l.map chD) n := by
  unfold iStrM
  rw [bnd_app, h, bd_ok]
  show Res.ok ((chs (sOf l)).map PyData.str) n = _
  rw [signs_ok]
theorem ne_strs (a b : List Str) (n : Nat) : dNe (.list (a.map PyData.str)) (.list (b.map PyData.str)) n = .ok (.bool (!decide (a = b))) n := ne_enc (encL encS) (by decide) a b n
theorem ne_nil (l : List Nat) (n : Nat) : dNe (.list (l.map chD)) (.list []) n = .ok (.bool (!decide (l = []))) n := by
  have := ne_strs (l.map fun c => ⟨#[c]⟩) [] n
  rw [List.map_map] at this
  refine Eq.trans this ?_
  congr 3
  exact decide_eq_decide.mpr (by simp)
/-- a row's sign as an item -/
theorem iD_itm {c : Nat} (h : c = 40 ∨ c = 41 ∨ c = 120 ∨ c = 121 ∨ c = 122) : iD (itm c) = if c = 40 ∨ c = 41 then chD c else .tuple [chD c, .int 0] := by
  rcases h with rfl | rfl | rfl | rfl | rfl <;> kernel_rfl
theorem row_ok {ρ : Mi.Env} {n : Nat} {u : List Nat} {i : Nat} {x0 x1 x2 x4 x5 x6 x7 : Sl} (hu : ∀ c ∈ u, c = 40 ∨ c = 41 ∨ c = 120 ∨ c = 121 ∨ c = 122) (hl : u.length ≤ 1000) :
    lComp (iStrM (eVar 3)) (.nm 7) [7] tYesM (eIf (Mi.tB (e2 (dIn false) (eVar 7) (eC (.str "()")))) (eVar 7) (eTup (aCons (eVar 7) (aCons (eC (.int 0)) aNil)))) [x0, x1, x2, .fz (.str (sOf u)), x4, x5, x6, x7] n = .ok ((its u).map iD) n := by
  have hs := sizeLine_eq
  have h2 : 2 ≤ sizeLine := by omega
  have e : (its u).map iD = u.map fun c => iD (itm c) := by
    unfold its
    rw [List.map_map]
    rfl
  rw [e]
  refine lComp_map chD u (fun c => iD (itm c)) (iStrM_ok rfl) (fun c hc => ?_) (by omega)
  rw [iD_itm (hu c hc)]
  have hi := in_br c n
  show eIf _ _ _ [x0, x1, x2, .fz (.str (sOf u)), x4, x5, x6, .fz (chD c)] n = _
  by_cases z : c = 40 ∨ c = 41
  · rw [if_pos z]
    rw [decide_eq_true z] at hi
    simp [Env.at, hi]
  · rw [if_neg z]
    rw [decide_eq_false z] at hi
    simp [Env.at, hi, h2]
theorem oks_ok {n : Nat} {l : List Nat} {x1 x2 x3 x4 x5 x6 x7 : Sl} (hl : l.length ≤ 1000) :
    lComp (iStrM (eVar 0)) (.nm 7) [7] (Mi.tB (e2 (dIn true) (eVar 7) (eC (.str "()xyz=")))) (eVar 7) [.fz (.str (sOf l)), x1, x2, x3, x4, x5, x6, x7] n = .ok ((l.filter fun c => !okc c).map chD) n := by
  refine lComp_mapIf chD l (fun c => !okc c) chD (iStrM_ok rfl) (fun c hc => ?_) (fun c hc _ => rfl) (by omega)
  show Mi.tB _ [.fz (.str (sOf l)), x1, x2, x3, x4, x5, x6, .fz (chD c)] n = _
  have := notin_all c n
  simp [Env.at, this]
theorem split_at (l : List Nat) (hl : l.length ≤ 1000) {x1 x2 x3 x4 x5 x6 x7 : Sl} (n : Nat) : lSplit (eVar 0) (eC (.str "=")) [.fz (.str (sOf l)), x1, x2, x3, x4, x5, x6, x7] n = .ok ((Txt.split (sOf l) (sOf [61])).map PyData.str) n := by
  have hs := sizeLine_eq
  have e : lSplit (eVar 0) (eC (.str "=")) [.fz (.str (sOf l)), x1, x2, x3, x4, x5, x6, x7] n = ((need (decide ((("=" : Str).length == 0) = false ∧ (sOf l).length + 2 ≤ sizeLine)) >>= fun _ => (pure ((Txt.split (sOf l) "=").map PyData.str) : M (List D))) n) := rfl
  rw [e, sOf_len, decide_eq_true ⟨by kernel_rfl, by omega⟩, s_eq]
  rfl
abbrev scd : Mi.Env → M Bool := (bOr (Mi.tB (e2 dNe (eCall (arg1 dLen) (aCons (eVar 4) aNil)) (eC (.int 1)))) (bOr (Mi.tB (e2 (dIn false) (e2 dIx (eVar 4) (eC (.int 0))) (eTup (aCons (eC (.str "(")) (aCons (eC (.str ")")) aNil))))) (Mi.tB (e2 dGt (e2 dIx (e2 dIx (eVar 4) (eC (.int 0))) (eC (.int 1))) (eC (.int 3))))))
abbrev sbd : MS :=
    (sSeq (sSet 4 (eL (lComp (iStrM (eVar 3)) (.nm 7) [7] tYesM (eIf (Mi.tB (e2 (dIn false) (eVar 7) (eC (.str "()")))) (eVar 7) (eTup (aCons (eVar 7) (aCons (eC (.int 0)) aNil)))))))
    (sSeq (sSet 5 (eC (.int 0)))
    (sSeq (sWhile 4096 wc wb)
    (sSeq (sIf scd
    (sRet (eC .none))
    sNx)
    (sApp 2 (e2 dIx (e2 dIx (eVar 4) (eC (.int 0))) (eC (.int 0))))))))
section
variable {x0 x1 x2 x3 x6 x7 : Sl} {n k : Nat}
theorem at00 (x : D) : atI [x] 0 = some x := rfl
theorem len_row (w : List Tx.It) (n : Nat) : eCall (arg1 dLen) (aCons (eVar 4) aNil) (we x0 x1 x2 x3 w k x6 x7) n = .ok (.int (w.length : Int)) n := by
  have el : dLen (.list (w.map iD)) n = .ok (.int ((w.map iD).length : Int)) n := rfl
  rw [List.length_map] at el
  simp [Env.at, el]
theorem scd_len {w : List Tx.It} (h : w.length ≠ 1) : scd (we x0 x1 x2 x3 w k x6 x7) n = .ok true n := by
  have e1 := len_row (x0 := x0) (x1 := x1) (x2 := x2) (x3 := x3) (k := k) (x6 := x6) (x7 := x7) w n
  have ne1 : dNe (.int (w.length : Int)) (.int 1) n = .ok (.bool true) n := by
    have := ne_nat w.length 1 n
    rw [decide_eq_false h] at this
    exact this
  show bOr _ _ _ n = _
  rw [bOr_app, tB_app, e2_app, e1]
  simp [ne1]
theorem scd_one (x : Tx.It) (hx : IBd x 22) : scd (we x0 x1 x2 x3 [x] k x6 x7) n = .ok (match x with | .it _ H => decide (3 < H) | _ => true) n := by
  have hs := sizeLine_eq
  have h2 : 2 ≤ sizeLine := by omega
  have e1 := len_row (x0 := x0) (x1 := x1) (x2 := x2) (x3 := x3) (k := k) (x6 := x6) (x7 := x7) [x] n
  have ne1 : dNe (.int (([x] : List Tx.It).length : Int)) (.int 1) n = .ok (.bool false) n := ne_nat 1 1 n
  have i0 : dIx (.list [iD x]) (.int 0) n = .ok (iD x) n := rfl
  show bOr _ _ _ n = _
  rw [bOr_app, tB_app, e2_app, e1]
  simp only [bd_ok, bnd_app, eC_app, ne1, asB_app, bdB_f]
  cases x with
  | op =>
    have i : dIn false (.str "(") (.tuple [.str "(", .str ")"]) n = .ok (.bool true) n := by kernel_rfl
    simp [Env.at, at00, h2, iD, i]
  | cl =>
    have i : dIn false (.str ")") (.tuple [.str "(", .str ")"]) n = .ok (.bool true) n := by kernel_rfl
    simp [Env.at, at00, h2, iD, i]
  | ot c => exact hx.elim
  | it T H =>
    have i : dIn false (iD (.it T H)) (.tuple [.str "(", .str ")"]) n = .ok (.bool false) n := by
      have ok := iok_of hx (by omega)
      have : dIn false (iD (.it T H)) (.tuple [.str "(", .str ")"]) n = (need (okD (iD (.it T H)) && okD (.tuple [.str "(", .str ")"])) >>= fun _ => (pure (.bool (inD (iD (.it T H)) [.str "(", .str ")"])) : M D)) n := rfl
      rw [this, show okD (iD (.it T H)) = true from ok]
      rfl
    have i1 : dIx (iD (.it T H)) (.int 1) n = .ok (.int (H : Int)) n := rfl
    have g : dGt (.int (H : Int)) (.int 3) n = .ok (.bool (decide (3 < H))) n := by
      show Res.ok (PyData.bool (decide ((3 : Int) < (H : Int)))) n = _
      congr 2
      exact decide_eq_decide.mpr (by omega)
    simp [Env.at, at00, h2, i, i1, g]
end
section
variable {x0 x1 y4 y5 y6 x7 : Sl} {n : Nat}
theorem side_body {u : List Nat} (hu : ∀ c ∈ u, c = 40 ∨ c = 41 ∨ c = 120 ∨ c = 121 ∨ c = 122) (hl : u.length ≤ 67) (acc : List D) (ha : acc.length ≤ 10) :
    (∃ T, Sd u T ∧ ∃ z4 z5 z6, sbd [x0, x1, .ow acc, .fz (.str (sOf u)), y4, y5, y6, x7] n = .ok ([x0, x1, .ow (acc ++ [toD T]), .fz (.str (sOf u)), z4, z5, z6, x7], .nx) n) ∨
    ((¬ ∃ T, Sd u T) ∧ ∃ ρ', sbd [x0, x1, .ow acc, .fz (.str (sOf u)), y4, y5, y6, x7] n = .ok (ρ', .rt .none) n) := by
  have hs := sizeLine_eq
  have hlen : (its u).length = u.length := List.length_map _
  obtain ⟨w', e1, q2⟩ := lp_ok (f := 4096) (w := its u) (k := 0) (fun j hj => absurd hj (Nat.not_lt_zero _)) (Nat.zero_le _) (by omega) (by omega)
  obtain ⟨k', z6, ew, iv⟩ := wh_ok (x0 := x0) (x1 := x1) (x2 := .ow acc) (x3 := .fz (.str (sOf u))) (x7 := x7) (n := n) hl 4096 (its u) 0 y6 w' (iv_its u hu) e1
  have r1 := row_ok (ρ := []) (n := n) (i := 0) (x0 := x0) (x1 := x1) (x2 := .ow acc) (x4 := y4) (x5 := y5) (x6 := y6) (x7 := x7) hu (by omega)
  have start : sbd [x0, x1, .ow acc, .fz (.str (sOf u)), y4, y5, y6, x7] n = seqR (sIf scd (sRet (eC .none)) sNx (we x0 x1 (.ow acc) (.fz (.str (sOf u))) w' k' z6 x7) n) (sApp 2 (e2 dIx (e2 dIx (eVar 4) (eC (.int 0))) (eC (.int 0)))) := by
    show sSeq _ _ _ n = _
    rw [sSeq_app, sSet_app, eL_app, r1]
    simp only [bd_ok, pure_app, seqR_nx]
    rw [sSeq_app, sSet_app, eC_app]
    simp only [bd_ok, pure_app, seqR_nx]
    rw [sSeq_app]
    show seqR (whL wc wb 4096 (we x0 x1 (.ow acc) (.fz (.str (sOf u))) (its u) 0 y6 x7) n) _ = _
    rw [ew, seqR_nx, sSeq_app]
  rw [start]
  have stop : scd (we x0 x1 (.ow acc) (.fz (.str (sOf u))) w' k' z6 x7) n = .ok true n → ∃ ρ', seqR (sIf scd (sRet (eC .none)) sNx (we x0 x1 (.ow acc) (.fz (.str (sOf u))) w' k' z6 x7) n) (sApp 2 (e2 dIx (e2 dIx (eVar 4) (eC (.int 0))) (eC (.int 0)))) = .ok (ρ', .rt .none) n := fun h => by
    rw [sIf_app, h]
    exact ⟨_, rfl⟩
  have none_of : (∀ T H, H ≤ 3 → w' ≠ [.it T H]) → ¬ ∃ T, Sd u T := by
    rintro h ⟨T, H, hH, p⟩
    exact h T H hH ((q2 T H).mp p)
  match w', q2, iv, stop, none_of with
  | [], q2, iv, stop, none_of => exact .inr ⟨none_of (fun _ _ _ z => (by cases z)), stop (scd_len (by decide))⟩
  | x :: y :: r, q2, iv, stop, none_of => exact .inr ⟨none_of (fun _ _ _ z => (by cases z)), stop (scd_len (by simp))⟩
  | [x], q2, iv, stop, none_of =>
    have hx := iv_bd iv hl (x := x) (by simp)
    have sc := scd_one (x0 := x0) (x1 := x1) (x2 := .ow acc) (x3 := .fz (.str (sOf u))) (k := k') (x6 := z6) (x7 := x7) (n := n) x hx
    cases x with
    | op => exact .inr ⟨none_of (fun _ _ _ z => (by cases z)), stop sc⟩
    | cl => exact .inr ⟨none_of (fun _ _ _ z => (by cases z)), stop sc⟩
    | ot c => exact hx.elim
    | it T H =>
      by_cases h3 : H ≤ 3
      · refine .inl ⟨T, ⟨H, h3, (q2 T H).mpr rfl⟩, .fz (.list [iD (.it T H)]), .fz (.int (k' : Int)), z6, ?_⟩
        have sc : scd _ n = .ok (decide (3 < H)) n := sc
        rw [sIf_app, sc, decide_eq_false (by omega), bdB_f, sNx_app, seqR_nx]
        have i0 : dIx (.list [iD (.it T H)]) (.int 0) n = .ok (iD (.it T H)) n := rfl
        have i1 : dIx (iD (.it T H)) (.int 0) n = .ok (toD T) n := rfl
        have hlt : acc.length < sizeLine := by omega
        unfold sApp
        simp [Env.at, i0, i1, hlt]
      · have sc : scd _ n = .ok (decide (3 < H)) n := sc
        rw [decide_eq_true (by omega)] at sc
        refine .inr ⟨none_of fun T' H' h' z => ?_, stop sc⟩
        cases z
        omega
end
abbrev rcd : Mi.Env → M Bool := bOr (Mi.tB (e2 dNe (eCall (arg1 dLen) (aCons (eVar 1) aNil)) (eC (.int 2)))) (Mi.tB (e2 dNe (eL (lComp (iStrM (eVar 0)) (.nm 7) [7] (Mi.tB (e2 (dIn true) (eVar 7) (eC (.str "()xyz=")))) (eVar 7))) (eL (lLst aNil))))
theorem rcd_ok {ρ : Mi.Env} {n m : Nat} {X : List Nat} (ln : eCall (arg1 dLen) (aCons (eVar 1) aNil) ρ n = .ok (.int (m : Int)) n)
    (ok : lComp (iStrM (eVar 0)) (.nm 7) [7] (Mi.tB (e2 (dIn true) (eVar 7) (eC (.str "()xyz=")))) (eVar 7) ρ n = .ok (X.map chD) n) : rcd ρ n = .ok (!decide (m = 2) || !decide (X = [])) n := by
  have ne1 : dNe (.int (m : Int)) (.int 2) n = .ok (.bool (!decide (m = 2))) n := ne_nat _ 2 n
  have nen := ne_nil X n
  have h0 : 0 ≤ sizeLine := Nat.zero_le _
  show bOr _ _ _ _ = _
  rw [bOr_app, tB_app, e2_app, ln]
  simp only [bd_ok, bnd_app, eC_app, ne1, asB_app]
  by_cases z : m = 2
  · rw [decide_eq_true z]
    simp only [Bool.not_true, bdB_f, Bool.false_or]
    rw [tB_app, e2_app, eL_app, ok]
    generalize X.map chD = Y at nen
    simp [h0, nen]
  · rw [decide_eq_false z]
    rfl
theorem rd_none {l : List Nat} (h : ¬ ∃ a b, rd l = some (a, b)) : rd l = none := by
  cases e : rd l with
  | none => rfl
  | some p => exact absurd ⟨p.1, p.2, e⟩ h
theorem law_read_ok (l : List Nat) (hl : l.length ≤ 67) (n : Nat) : f_law_read [.str (sOf l)] n = .ok (match rd l with | some (a, b) => .tuple [toD a, toD b] | none => .none) n := by
  have hs := sizeLine_eq
  unfold f_law_read
  rw [run_app]
  unfold b_law_read
  show outR (sSeq _ _ [.fz (.str (sOf l)), .no, .no, .no, .no, .no, .no, .no] n) = _
  rw [sSeq_app, sSet_app, eL_app, split_at l (by omega) n]
  simp only [bd_ok, pure_app, seqR_nx]
  show outR (sSeq _ _ [.fz (.str (sOf l)), .fz (.list ((Txt.split (sOf l) (sOf [61])).map PyData.str)), .no, .no, .no, .no, .no, .no] n) = _
  have ln : eCall (arg1 dLen) (aCons (eVar 1) aNil) [.fz (.str (sOf l)), .fz (.list ((Txt.split (sOf l) (sOf [61])).map PyData.str)), .no, .no, .no, .no, .no, .no] n = .ok (.int (((Txt.split (sOf l) (sOf [61])).length : Nat) : Int)) n := by
    have el : dLen (.list ((Txt.split (sOf l) (sOf [61])).map PyData.str)) n = .ok (.int (((Txt.split (sOf l) (sOf [61])).map PyData.str).length : Int)) n := rfl
    rw [List.length_map] at el
    simp [Env.at, el]
  have ne1 : dNe (.int (((Txt.split (sOf l) (sOf [61])).length : Nat) : Int)) (.int 2) n = .ok (.bool (!decide ((Txt.split (sOf l) (sOf [61])).length = 2))) n := ne_nat _ 2 n
  have ok := oks_ok (n := n) (l := l) (x1 := .fz (.list ((Txt.split (sOf l) (sOf [61])).map PyData.str))) (x2 := .no) (x3 := .no) (x4 := .no) (x5 := .no) (x6 := .no) (x7 := .no) (by omega)
  have nen := ne_nil (l.filter fun c => !okc c) n
  have h0 : 0 ≤ sizeLine := Nat.zero_le _
  rcases split_cases l 61 (by omega) with ⟨u, v, e, hu, hv, es⟩ | ⟨h2, hno⟩
  · rw [es] at ln ne1 ok ⊢
    by_cases good : (l.filter fun c => !okc c) = []
    · rw [decide_eq_true good] at nen
      have gd : ∀ c ∈ l, okc c = true := fun c hc => by
        cases z : okc c with
        | true => rfl
        | false =>
          have : c ∈ l.filter fun c => !okc c := List.mem_filter.mpr ⟨hc, by rw [z]; rfl⟩
          rw [good] at this
          cases this
      have gu : ∀ c ∈ u, c = 40 ∨ c = 41 ∨ c = 120 ∨ c = 121 ∨ c = 122 := fun c hc => by
        have h1 := gd c (by rw [e]; simp [hc])
        have h2 : c ≠ 61 := fun z => hu (z ▸ hc)
        unfold okc at h1
        have := of_decide_eq_true h1
        omega
      have gv : ∀ c ∈ v, c = 40 ∨ c = 41 ∨ c = 120 ∨ c = 121 ∨ c = 122 := fun c hc => by
        have h1 := gd c (by rw [e]; simp [hc])
        have h2 : c ≠ 61 := fun z => hv (z ▸ hc)
        unfold okc at h1
        have := of_decide_eq_true h1
        omega
      have hlu : u.length ≤ 67 ∧ v.length ≤ 67 := by
        rw [e] at hl
        simp at hl
        omega
      have cond : rcd [.fz (.str (sOf l)), .fz (.list ([sOf u, sOf v].map PyData.str)), .no, .no, .no, .no, .no, .no] n = .ok false n := by
        rw [rcd_ok ln ok]
        congr 1
        simp [good]
      rw [sSeq_app, sIf_app, show bOr _ _ _ n = _ from cond, bdB_f, sNx_app, seqR_nx, sSeq_app]
      have ow : sOwn 2 (lLst aNil) [.fz (.str (sOf l)), .fz (.list ([sOf u, sOf v].map PyData.str)), .no, .no, .no, .no, .no, .no] n = .ok ([.fz (.str (sOf l)), .fz (.list ([sOf u, sOf v].map PyData.str)), .ow [], .no, .no, .no, .no, .no], .nx) n := rfl
      rw [ow, seqR_nx, sSeq_app]
      have it1 : sFor (iSeq (eVar 1)) (.nm 3) sbd [.fz (.str (sOf l)), .fz (.list ([sOf u, sOf v].map PyData.str)), .ow [], .no, .no, .no, .no, .no] n = forL (.nm 3) sbd [.str (sOf u), .str (sOf v)] [.fz (.str (sOf l)), .fz (.list ([sOf u, sOf v].map PyData.str)), .ow [], .no, .no, .no, .no, .no] n := rfl
      show outR (seqR (sFor (iSeq (eVar 1)) (.nm 3) sbd [.fz (.str (sOf l)), .fz (.list ([sOf u, sOf v].map PyData.str)), .ow [], .no, .no, .no, .no, .no] n) _) = _
      rw [it1]
      have st1 : ∀ (d : D) (r : List D) (a b c x3 x4 x5 x6 x7 : Sl), forL (.nm 3) sbd (d :: r) [a, b, c, x3, x4, x5, x6, x7] n = (sbd [a, b, c, .fz d, x4, x5, x6, x7] n).bd fun q => match q with
          | (ρ2, .nx) => forL (.nm 3) sbd r ρ2
          | (ρ2, .ct) => forL (.nm 3) sbd r ρ2
          | (ρ2, .bk) => pure (ρ2, .nx)
          | (ρ2, .rt d) => pure (ρ2, .rt d)
          | (ρ2, .ro ds) => pure (ρ2, .ro ds) := fun d r a b c x3 x4 x5 x6 x7 => by
        show (ofOpt (some _) >>= _) n = _
        rw [bnd_app, some_app, bd_ok, bnd_app]
        rfl
      rw [st1]
      rcases side_body (x0 := .fz (.str (sOf l))) (x1 := .fz (.list ([sOf u, sOf v].map PyData.str))) (y4 := .no) (y5 := .no) (y6 := .no) (x7 := .no) (n := n) gu hlu.1 [] (by simp) with ⟨a, ha, z4, z5, z6, q1⟩ | ⟨ha, ρ', q1⟩
      · rw [q1, bd_ok]
        dsimp only
        rw [st1]
        rcases side_body (x0 := .fz (.str (sOf l))) (x1 := .fz (.list ([sOf u, sOf v].map PyData.str))) (y4 := z4) (y5 := z5) (y6 := z6) (x7 := .no) (n := n) gv hlu.2 ([] ++ [toD a]) (by simp) with ⟨b, hb, v4, v5, v6, q2⟩ | ⟨hb, ρ', q2⟩
        · rw [q2, bd_ok]
          dsimp only
          have : rd l = some (a, b) := rd_iff.mpr ⟨u, v, e, ha, hb⟩
          rw [this]
          rfl
        · rw [q2, bd_ok]
          have : rd l = none := rd_none (by
            rintro ⟨a', b', h⟩
            obtain ⟨u', v', e', hu', hv'⟩ := rd_iff.mp h
            have : u' = u ∧ v' = v := by
              have nu' : 61 ∉ u' := fun z => by have := hu'.no_other 61 z; omega
              have nu := hu
              have key : ∀ (p q r s : List Nat), p ++ 61 :: q = r ++ 61 :: s → 61 ∉ p → 61 ∉ r → p = r ∧ q = s := by
                intro p
                induction p with
                | nil =>
                  intro q r s h _ hr
                  cases r with
                  | nil => exact ⟨rfl, (List.cons.inj h).2⟩
                  | cons x r => exact absurd (by rw [← (List.cons.inj h).1]; simp) hr
                | cons x p ih =>
                  intro q r s h hp hr
                  cases r with
                  | nil => exact absurd (by rw [(List.cons.inj h).1]; simp) hp
                  | cons y r =>
                    obtain ⟨h1, h2⟩ := List.cons.inj h
                    obtain ⟨h3, h4⟩ := ih q r s h2 (fun z => hp (List.mem_cons_of_mem _ z)) (fun z => hr (List.mem_cons_of_mem _ z))
                    exact ⟨by rw [h1, h3], h4⟩
              exact key u' v' u v (e'.symm.trans e) nu' nu
            exact hb ⟨b', this.2 ▸ hv'⟩)
          rw [this]
          rfl
      · rw [q1, bd_ok]
        have : rd l = none := rd_none (by
          rintro ⟨a', b', h⟩
          obtain ⟨u', v', e', hu', hv'⟩ := rd_iff.mp h
          have nu' : 61 ∉ u' := fun z => by have := hu'.no_other 61 z; omega
          have key : ∀ (p q r s : List Nat), p ++ 61 :: q = r ++ 61 :: s → 61 ∉ p → 61 ∉ r → p = r ∧ q = s := by
            intro p
            induction p with
            | nil =>
              intro q r s h _ hr
              cases r with
              | nil => exact ⟨rfl, (List.cons.inj h).2⟩
              | cons x r => exact absurd (by rw [← (List.cons.inj h).1]; simp) hr
            | cons x p ih =>
              intro q r s h hp hr
              cases r with
              | nil => exact absurd (by rw [(List.cons.inj h).1]; simp) hp
              | cons y r =>
                obtain ⟨h1, h2⟩ := List.cons.inj h
                obtain ⟨h3, h4⟩ := ih q r s h2 (fun z => hp (List.mem_cons_of_mem _ z)) (fun z => hr (List.mem_cons_of_mem _ z))
                exact ⟨by rw [h1, h3], h4⟩
          exact ha ⟨a', (key u' v' u v (e'.symm.trans e) nu' hu).1 ▸ hu'⟩)
        rw [this]
        rfl
    · rw [decide_eq_false good] at nen
      have cond : rcd [.fz (.str (sOf l)), .fz (.list ([sOf u, sOf v].map PyData.str)), .no, .no, .no, .no, .no, .no] n = .ok true n := by
        rw [rcd_ok ln ok]
        congr 1
        simp [good]
      rw [sSeq_app, sIf_app, show bOr _ _ _ n = _ from cond, bdB_t]
      have : rd l = none := rd_none (by
        rintro ⟨a', b', h⟩
        obtain ⟨u', v', e', hu', hv'⟩ := rd_iff.mp h
        refine good (List.filter_eq_nil_iff.mpr fun c hc => ?_)
        have : okc c = true := by
          unfold okc
          refine decide_eq_true ?_
          rw [e'] at hc
          rcases List.mem_append.mp hc with hc | hc
          · have := hu'.no_other c hc; omega
          · rcases List.mem_cons.mp hc with hc | hc
            · omega
            · have := hv'.no_other c hc; omega
        rw [this]
        exact Bool.false_ne_true)
      rw [this]
      rfl
  · rw [decide_eq_false h2] at ne1
    have cond : rcd [.fz (.str (sOf l)), .fz (.list ((Txt.split (sOf l) (sOf [61])).map PyData.str)), .no, .no, .no, .no, .no, .no] n = .ok true n := by
      rw [rcd_ok ln ok]
      congr 1
      simp [h2]
    rw [sSeq_app, sIf_app, show bOr _ _ _ n = _ from cond, bdB_t]
    have : rd l = none := rd_none (by
      rintro ⟨a', b', h⟩
      obtain ⟨u', v', e', hu', hv'⟩ := rd_iff.mp h
      rcases hno u' v' e' with z | z
      · have := hu'.no_other 61 z; omega
      · have := hv'.no_other 61 z; omega)
    rw [this]
    rfl
def refT : D := .tuple [.str "refused", .str "text"]
theorem refu (n : Nat) : f_law_refusal [excD "BadText"] n = .ok refT n := by kernel_rfl
theorem rk : ranked raised "BadText" = true := by decide +kernel
theorem nn1 : isNone PyData.none = true := rfl
theorem nn2 : isNone (excD "BadText") = false := rfl
/-- what is due of a text -/
def due (l : List Nat) : D := match rd l with
  | some (a, b) => .tuple [toD a, toD b]
  | none => refT
theorem told_ok (l : List Nat) (hl : l.length ≤ 1000) (n : Nat) : f_law_told [.str (sOf l)] n = .ok (due l) n := by
  have h := read_ok l hl n
  unfold f_law_told
  rw [run_app]
  unfold b_law_told due
  cases e : rd l with
  | some p =>
    obtain ⟨a, b⟩ := p
    rw [e] at h
    simp only at h
    simp [startE, Env.at, h, outR, sTry, dIs, nn1, nn2]
  | none =>
    rw [e] at h
    simp only at h
    simp [startE, Env.at, h, outR, sTry, rk, refu, dIs, nn1, nn2]
theorem its_cds : ∀ {t : Trm}, Abc t → its (cds t) = txt t
  | .lt c, h => by
    have h : c = 120 ∨ c = 121 ∨ c = 122 := h
    show [itm c] = [.it (.lt c) 0]
    unfold itm
    rw [if_neg (by omega), if_neg (by omega), if_pos h]
  | .pr a b, ⟨ha, hb⟩ => by
    have e1 := its_cds ha
    have e2 := its_cds hb
    unfold its at e1 e2 ⊢
    show List.map itm (40 :: cds a ++ (cds b ++ [41])) = .op :: txt a ++ (txt b ++ [.cl])
    rw [List.map_append, List.map_append, List.map_cons, e1, e2]
    rfl
theorem cds_sd {t : Trm} (h : Abc t) (d : dp t ≤ 3) : Sd (cds t) t := ⟨dp t, d, by
  rw [its_cds h]
  have := txt_read t []
  rwa [List.append_nil] at this⟩
theorem rd_text {a b : Trm} (ha : Abc a) (hb : Abc b) (da : dp a ≤ 3) (db : dp b ≤ 3) : rd (cds a ++ 61 :: cds b) = some (a, b) :=
  rd_iff.mpr ⟨_, _, rfl, cds_sd ha da, cds_sd hb db⟩
/-- what is read is no deeper than told -/
theorem ps_dp {w : List Tx.It} {T : Trm} {H : Nat} {r : List Tx.It} (p : Ps w T H r) : (∀ t h, Tx.It.it t h ∈ w → dp t ≤ h) → dp T ≤ H := by
  induction p with
  | it => exact fun h => h _ _ (by simp)
  | @pr w r1 r2 a b h k p1 p2 i1 i2 =>
    intro hw
    obtain ⟨q, e⟩ := p1.tail
    have h1 := i1 fun t h' m => hw t h' (List.mem_cons_of_mem _ m)
    have h2 := i2 fun t h' m => hw t h' (List.mem_cons_of_mem _ (by rw [e]; exact List.mem_append.mpr (.inr m)))
    show 1 + max (dp a) (dp b) ≤ _
    omega
theorem sd_dp {u : List Nat} {a : Trm} (h : Sd u a) : dp a ≤ 3 := by
  obtain ⟨k, hk, p⟩ := h
  refine Nat.le_trans (ps_dp p fun t h' m => ?_) hk
  obtain ⟨c, _, e⟩ := List.mem_map.mp m
  unfold itm at e
  split at e
  · cases e
  · split at e
    · cases e
    · split at e
      · cases e; exact Nat.le_refl _
      · cases e
theorem eqv_toD : ∀ a : Trm, PyData.eqv (toD a) (toD a) = true
  | .lt c => by
    show PyData.eqv (.str ⟨#[c]⟩) (.str ⟨#[c]⟩) = true
    simp [PyData.eqv]
  | .pr a b => by
    show PyData.eqv (.tuple [toD a, toD b]) (.tuple [toD a, toD b]) = true
    simp [PyData.eqv, PyData.eqvAll, eqv_toD a, eqv_toD b]
theorem okD_pair {a b : Trm} (ha : dp a ≤ 50) (hb : dp b ≤ 50) : okD (.tuple [toD a, toD b]) = true := by
  have h := toD_depth (.pr a b)
  have e : dp (.pr a b) = 1 + max (dp a) (dp b) := rfl
  have h : (PyData.tuple [toD a, toD b]).depth ≤ dp (.pr a b) + 1 := h
  unfold okD
  rw [pr_plain, decide_eq_true (by omega)]
  rfl
theorem ne_pair {a b : Trm} (ha : dp a ≤ 50) (hb : dp b ≤ 50) (n : Nat) : dNe (.tuple [toD a, toD b]) (.tuple [toD a, toD b]) n = .ok (.bool false) n := by
  have ok := okD_pair ha hb
  have e := eqv_toD (.pr a b)
  have e : PyData.eqv (.tuple [toD a, toD b]) (.tuple [toD a, toD b]) = true := e
  unfold dNe
  rw [ok, e]
  rfl
theorem ne_due (l : List Nat) (n : Nat) : dNe (due l) (due l) n = .ok (.bool false) n := by
  unfold due
  cases e : rd l with
  | none => kernel_rfl
  | some p =>
    obtain ⟨a, b⟩ := p
    obtain ⟨u, v, _, ha, hb⟩ := rd_iff.mp e
    exact ne_pair (Nat.le_trans (sd_dp ha) (by omega)) (Nat.le_trans (sd_dp hb) (by omega)) n
/-! draws -/
theorem draw_at (ns : List Int) {many n : Nat} (hm : 1 ≤ many) (hn : n < 100000) : ∃ x k, x < many ∧ k ≤ n + 1 ∧ f_law_draw [scrD ns, townD, .int (many : Int)] n = .ok (.int (x : Int)) k := by
  obtain ⟨x, k, e, hk, hx⟩ := draw_tr ns hm n (by omega)
  exact ⟨x, k, hx, hk, (c_law_draw ns many).ok e⟩
theorem pick_at {α : Type} (e : α → D) (ns : List Int) {xs : List α} {n : Nat} (hne : xs ≠ []) (hn : n < 100000) : ∃ x k, x ∈ xs ∧ k ≤ n + 1 ∧ f_law_pick [scrD ns, townD, .list (xs.map e)] n = .ok (e x) k := by
  obtain ⟨x, k, e1, hk, hx⟩ := pick_tr ns hne n (by omega)
  exact ⟨x, k, hx, hk, (c_law_pick (eV := e) ns xs).ok e1⟩
theorem three : ([.str "x", .str "y", .str "z"] : List D) = [120, 121, 122].map chD := by kernel_rfl
theorem term_draw (ns : List Int) : ∀ (k d n : Nat), k < d → n + 4 * 2 ^ k ≤ 1000 → ∃ t m, f_law_term d [scrD ns, townD, .int (k : Int)] n = .ok (toD t) m ∧ Abc t ∧ dp t ≤ k ∧ m + 1 ≤ n + 4 * 2 ^ k := by
  have hs := sizeLine_eq
  have h3 : 3 ≤ sizeLine := by omega
  have h2 : 2 ≤ sizeLine := by omega
  intro k
  induction k with
  | zero =>
    intro d n hd hn
    obtain ⟨d, rfl⟩ : ∃ e, d = e + 1 := ⟨d - 1, by omega⟩
    obtain ⟨c, m, hc, hm, e⟩ := pick_at chD ns (xs := [120, 121, 122]) (n := n) (by simp) (by omega)
    rw [← three] at e
    have hz : dEq (.int 0) (.int 0) n = .ok (.bool true) n := by rw [eq_int]; rfl
    refine ⟨.lt c, m, ?_, ?_, Nat.le_refl _, by omega⟩
    · show Mi.run 3 (b_law_term (f_law_term d)) _ n = _
      rw [run_app]
      unfold b_law_term
      simp only [startE, List.map, List.length, List.replicate, List.cons_append, List.nil_append, Nat.sub_self, sSeq_app, sIf_app, bOr_app, tB_app, e2_app, eVar_app]
      simp [Env.at, hz, e, outR, h3]
      rfl
    · show c = 120 ∨ c = 121 ∨ c = 122
      simpa using hc
  | succ k ih =>
    intro d n hd hn
    obtain ⟨d, rfl⟩ : ∃ e, d = e + 1 := ⟨d - 1, by omega⟩
    have hp : 4 * 2 ^ (k + 1) = 8 * 2 ^ k := by rw [Nat.pow_succ]; omega
    have h1 : 1 ≤ 2 ^ k := Nat.one_le_two_pow
    have hz : dEq (.int ((k + 1 : Nat) : Int)) (.int 0) n = .ok (.bool false) n := by rw [eq_int, decide_eq_false (by omega)]
    obtain ⟨x, n1, hx, hn1, ex⟩ := draw_at ns (many := 3) (n := n) (by omega) (by omega)
    have ex : f_law_draw [scrD ns, townD, .int 3] n = .ok (.int (x : Int)) n1 := ex
    have hq : dEq (.int (x : Int)) (.int 0) n1 = .ok (.bool (decide (x = 0))) n1 := by
      rw [eq_int]; congr 2
      exact decide_eq_decide.mpr (by omega)
    by_cases x0 : x = 0
    · rw [decide_eq_true x0] at hq
      obtain ⟨c, m, hc, hm, e⟩ := pick_at chD ns (xs := [120, 121, 122]) (n := n1) (by simp) (by omega)
      rw [← three] at e
      refine ⟨.lt c, m, ?_, ?_, Nat.zero_le _, by omega⟩
      · show Mi.run 3 (b_law_term (f_law_term d)) _ n = _
        rw [run_app]
        unfold b_law_term
        simp only [startE, List.map, List.length, List.replicate, List.cons_append, List.nil_append, Nat.sub_self, sSeq_app, sIf_app, bOr_app, tB_app, e2_app, eVar_app]
        have hz : dEq (.int ((k : Int) + 1)) (.int 0) n = .ok (.bool false) n := hz
        simp [Env.at, hz, ex, hq, e, outR, h3]
        rfl
      · show c = 120 ∨ c = 121 ∨ c = 122
        simpa using hc
    · rw [decide_eq_false x0] at hq
      obtain ⟨a, m1, e1, ha, da, hm1⟩ := ih d n1 (by omega) (by omega)
      obtain ⟨b, m2, e2, hb, db, hm2⟩ := ih d m1 (by omega) (by omega)
      refine ⟨.pr a b, m2, ?_, ⟨ha, hb⟩, ?_, by omega⟩
      · show Mi.run 3 (b_law_term (f_law_term d)) _ n = _
        rw [run_app]
        unfold b_law_term
        simp only [startE, List.map, List.length, List.replicate, List.cons_append, List.nil_append, Nat.sub_self, sSeq_app, sIf_app, bOr_app, tB_app, e2_app, eVar_app]
        have hz : dEq (.int ((k : Int) + 1)) (.int 0) n = .ok (.bool false) n := hz
        have sk : ∀ n, dSub (.int ((k : Int) + 1)) (.int 1) n = .ok (.int (k : Int)) n := fun n => subk
        simp [Env.at, hz, ex, hq, sk, e1, e2, outR, h2]
        rfl
      · show 1 + max (dp a) (dp b) ≤ k + 1
        omega
def known : List (Trm × Trm) := [(.lt 120, .pr (.lt 120) (.lt 120)), (.pr (.lt 120) (.lt 121), .pr (.lt 121) (.lt 120)), (.pr (.pr (.lt 120) (.lt 121)) (.lt 122), .pr (.lt 120) (.pr (.lt 121) (.lt 122))), (.pr (.lt 120) (.lt 121), .lt 120),
  (.pr (.lt 120) (.lt 121), .lt 121), (.pr (.lt 120) (.pr (.lt 120) (.lt 121)), .pr (.lt 120) (.lt 121)), (.pr (.pr (.lt 120) (.lt 121)) (.lt 121), .lt 120), (.lt 120, .lt 121)]
def sayD (p : Trm × Trm) : D := .tuple [toD p.1, toD p.2]
/-- a saying -/
structure Say (p : Trm × Trm) : Prop where
  a1 : Abc p.1
  a2 : Abc p.2
  d1 : dp p.1 ≤ 3
  d2 : dp p.2 ≤ 3
theorem known_say : ∀ p ∈ known, Say p := by
  intro p hp
  simp only [known, List.mem_cons, List.not_mem_nil, or_false] at hp
  rcases hp with rfl | rfl | rfl | rfl | rfl | rfl | rfl | rfl <;> exact ⟨by simp [Abc], by simp [Abc], by simp [dp], by simp [dp]⟩
theorem known_D : (known.take 4).map sayD ++ (known.drop 4).map sayD = known.map sayD := by
  rw [← List.map_append, List.take_append_drop]
theorem set2_at {n : Nat} (ns : List Int) : sSet 2 (eL (lLst (aCons (eTup (aCons (eC (.str "x")) (aCons (eTup (aCons (eC (.str "x")) (aCons (eC (.str "x")) aNil))) aNil))) (aCons (eTup (aCons (eTup (aCons (eC (.str "x")) (aCons (eC (.str "y")) aNil))) (aCons (eTup (aCons (eC (.str "y")) (aCons (eC (.str "x")) aNil))) aNil))) (aCons (eTup (aCons (eTup (aCons (eTup (aCons (eC (.str "x")) (aCons (eC (.str "y")) aNil))) (aCons (eC (.str "z")) aNil))) (aCons (eTup (aCons (eC (.str "x")) (aCons (eTup (aCons (eC (.str "y")) (aCons (eC (.str "z")) aNil))) aNil))) aNil))) (aCons (eTup (aCons (eTup (aCons (eC (.str "x")) (aCons (eC (.str "y")) aNil))) (aCons (eC (.str "x")) aNil))) aNil)))))) [.fz (scrD ns), .fz townD, .no, .no] n = .ok ([.fz (scrD ns), .fz townD, .fz (.list ((known.take 4).map sayD)), .no], .nx) n := by kernel_rfl
theorem set2b_at {n : Nat} (ns : List Int) : sSet 2 (e2 dAdd (eVar 2) (eL (lLst (aCons (eTup (aCons (eTup (aCons (eC (.str "x")) (aCons (eC (.str "y")) aNil))) (aCons (eC (.str "y")) aNil))) (aCons (eTup (aCons (eTup (aCons (eC (.str "x")) (aCons (eTup (aCons (eC (.str "x")) (aCons (eC (.str "y")) aNil))) aNil))) (aCons (eTup (aCons (eC (.str "x")) (aCons (eC (.str "y")) aNil))) aNil))) (aCons (eTup (aCons (eTup (aCons (eTup (aCons (eC (.str "x")) (aCons (eC (.str "y")) aNil))) (aCons (eC (.str "y")) aNil))) (aCons (eC (.str "x")) aNil))) (aCons (eTup (aCons (eC (.str "x")) (aCons (eC (.str "y")) aNil))) aNil))))))) [.fz (scrD ns), .fz townD, .fz (.list ((known.take 4).map sayD)), .no] n = .ok ([.fz (scrD ns), .fz townD, .fz (.list (known.map sayD)), .no], .nx) n := by kernel_rfl
theorem saying_draw (ns : List Int) (n : Nat) (hn : n ≤ 500) : ∃ p m, f_law_saying [scrD ns, townD] n = .ok (sayD p) m ∧ Say p ∧ m ≤ n + 100 := by
  have hs := sizeLine_eq
  have h2 : 2 ≤ sizeLine := by omega
  obtain ⟨x, n1, hx, hn1, ex⟩ := draw_at ns (many := 2) (n := n) (by omega) (by omega)
  have ex : f_law_draw [scrD ns, townD, .int 2] n = .ok (.int (x : Int)) n1 := ex
  have hq : dEq (.int (x : Int)) (.int 0) n1 = .ok (.bool (decide (x = 0))) n1 := by
    rw [eq_int]; congr 2
    exact decide_eq_decide.mpr (by omega)
  have start : f_law_saying [scrD ns, townD] n = outR (sSeq (sIf (Mi.tB (e2 dEq (eFn 3 f_law_draw (aCons (eVar 0) (aCons (eVar 1) (aCons (eC (.int 2)) aNil)))) (eC (.int 0))))
    (sRet (eFn 3 f_law_pick (aCons (eVar 0) (aCons (eVar 1) (aCons (eVar 2) aNil)))))
    sNx)
    (sSeq (sSet 3 (e2 dAdd (eC (.int 1)) (eFn 3 f_law_draw (aCons (eVar 0) (aCons (eVar 1) (aCons (eC (.int 3)) aNil))))))
    (sRet (eTup (aCons (eFn 3 (f_law_term 12) (aCons (eVar 0) (aCons (eVar 1) (aCons (eVar 3) aNil)))) (aCons (eFn 3 (f_law_term 12) (aCons (eVar 0) (aCons (eVar 1) (aCons (eFn 3 f_law_draw (aCons (eVar 0) (aCons (eVar 1) (aCons (eC (.int 4)) aNil)))) aNil)))) aNil))))) [.fz (scrD ns), .fz townD, .fz (.list (known.map sayD)), .no] n) := by
    unfold f_law_saying
    rw [run_app]
    unfold b_law_saying
    show outR (sSeq _ _ [.fz (scrD ns), .fz townD, .no, .no] n) = _
    rw [sSeq_app, set2_at, seqR_nx, sSeq_app, set2b_at, seqR_nx]
  rw [start]
  generalize hk : known.map sayD = K
  by_cases x0 : x = 0
  · rw [decide_eq_true x0] at hq
    obtain ⟨p, m, hp, hm, e⟩ := pick_at sayD ns (xs := known) (n := n1) (by unfold known; simp) (by omega)
    rw [hk] at e
    refine ⟨p, m, ?_, known_say p hp, by omega⟩
    simp [Env.at, ex, hq, e, outR]
  · rw [decide_eq_false x0] at hq
    obtain ⟨y, n2, hy, hn2, ey⟩ := draw_at ns (many := 3) (n := n1) (by omega) (by omega)
    have ey : f_law_draw [scrD ns, townD, .int 3] n1 = .ok (.int (y : Int)) n2 := ey
    have p8 : 4 * 2 ^ (1 + y) ≤ 32 := by
      have : 2 ^ (1 + y) ≤ 2 ^ 3 := Nat.pow_le_pow_right (by omega) (by omega)
      omega
    obtain ⟨a, n3, ea, ha, da, hn3⟩ := term_draw ns (1 + y) 12 n2 (by omega) (by omega)
    have ea : f_law_term 12 [scrD ns, townD, .int (1 + (y : Int))] n2 = .ok (toD a) n3 := by
      rw [one_more] at ea
      exact ea
    obtain ⟨z, n4, hz, hn4, ez⟩ := draw_at ns (many := 4) (n := n3) (by omega) (by omega)
    have ez : f_law_draw [scrD ns, townD, .int 4] n3 = .ok (.int (z : Int)) n4 := ez
    have p9 : 4 * 2 ^ z ≤ 32 := by
      have : 2 ^ z ≤ 2 ^ 3 := Nat.pow_le_pow_right (by omega) (by omega)
      omega
    obtain ⟨b, n5, eb, hb, db, hn5⟩ := term_draw ns z 12 n4 (by omega) (by omega)
    refine ⟨(a, b), n5, ?_, ⟨ha, hb, by show dp a ≤ 3; omega, by show dp b ≤ 3; omega⟩, by omega⟩
    simp [Env.at, ex, hq, ey, ea, ez, eb, h2, outR, add_int, sayD]
theorem cut_pre (l : List Nat) (i : Nat) (hi : i ≤ l.length) : cutS (sOf l) none (some (i : Int)) = sOf (l.take i) := by
  have hl : (sOf l).length = l.length := sOf_len l
  unfold cutS
  rw [HT.sIx_nat, hl, sIx_bot, Nat.min_eq_left hi]
  show sOf _ = sOf _
  congr 1
theorem cut_suf (l : List Nat) (i : Nat) : cutS (sOf l) (some (i : Int)) none = sOf (l.drop i) := by
  have hl : (sOf l).length = l.length := sOf_len l
  unfold cutS
  rw [HT.sIx_nat, hl, show HT.sIx l.length l.length none = l.length from rfl]
  show sOf _ = sOf _
  congr 1
  show List.take _ (List.drop _ l) = _
  by_cases h : i ≤ l.length
  · rw [Nat.min_eq_left h, List.take_of_length_le (by simp)]
  · rw [Nat.min_eq_right (by omega), List.drop_of_length_le (Nat.le_refl _), List.drop_of_length_le (by omega)]
    simp
theorem sl_pre (l : List Nat) (i : Nat) (hi : i ≤ l.length) (hl : l.length ≤ 1000) (n : Nat) : dSl none (some (i : Int)) (.str (sOf l)) n = .ok (.str (sOf (l.take i))) n := by
  have hs := sizeLine_eq
  show (need (decide ((sOf l).length ≤ sizeLine)) >>= fun _ => (pure (.str (cutS (sOf l) none (some (i : Int)))) : M D)) n = _
  rw [sOf_len, decide_eq_true (by omega), cut_pre l i hi]
  rfl
theorem sl_suf (l : List Nat) (i : Nat) (hl : l.length ≤ 1000) (n : Nat) : dSl (some (i : Int)) none (.str (sOf l)) n = .ok (.str (sOf (l.drop i))) n := by
  have hs := sizeLine_eq
  show (need (decide ((sOf l).length ≤ sizeLine)) >>= fun _ => (pure (.str (cutS (sOf l) (some (i : Int)) none)) : M D)) n = _
  rw [sOf_len, decide_eq_true (by omega), cut_suf l i]
  rfl
def bends : List (List Nat) := [[120], [121], [40], [41], [40, 120, 121, 41], [61], [119], [32], []]
def txD (s : List Nat) : D := .str (sOf s)
theorem bends_D : ([.str "x", .str "y", .str "(", .str ")", .str "(xy)", .str "=", .str "w", .str " ", .str ""] : List D) = bends.map txD := by kernel_rfl
theorem bends_len : ∀ s ∈ bends, s.length ≤ 4 := by decide
abbrev lbd : MS :=
    (sSeq (sSet 5 (eFn 3 f_law_draw (aCons (eVar 0) (aCons (eVar 1) (aCons (e2 dAdd (eCall (arg1 dLen) (aCons (eVar 3) aNil)) (eC (.int 1))) aNil)))))
    (sSeq (sSet 6 (eFn 3 f_law_pick (aCons (eVar 0) (aCons (eVar 1) (aCons (eL (lLst (aCons (eC (.str "x")) (aCons (eC (.str "y")) (aCons (eC (.str "(")) (aCons (eC (.str ")")) (aCons (eC (.str "(xy)")) (aCons (eC (.str "=")) (aCons (eC (.str "w")) (aCons (eC (.str " ")) (aCons (eC (.str "")) aNil))))))))))) aNil)))))
    (sSeq (sSet 3 (e2 dAdd (e2 dAdd (eSl (eVar 3) pNo (pYes (eVar 5))) (eVar 6)) (eSl (eVar 3) (pYes (e2 dAdd (eVar 5) (eFn 3 f_law_draw (aCons (eVar 0) (aCons (eVar 1) (aCons (eC (.int 2)) aNil)))))) pNo)))
    (sSeq (sSet 7 (eFn 1 f_law_read (aCons (eVar 3) aNil)))
    (sIf (Mi.tB (e2 dNe (eFn 1 f_law_told (aCons (eVar 3) aNil)) (eIf (Mi.tB (e2 dIsNot (eVar 7) (eC .none))) (eVar 7) (eTup (aCons (eC (.str "refused")) (aCons (eC (.str "text")) aNil))))))
    (sRet (eC (.bool false)))
    sNx)))))
theorem turn_ok (ns : List Int) {l : List Nat} {n : Nat} {s : D} {a b c d : Sl} (hl : l.length ≤ 63) (hn : n ≤ 1000) :
    ∃ l2 n2 b' c' d', lbd [.fz (scrD ns), .fz townD, .fz s, .fz (.str (sOf l)), a, b, c, d] n = .ok ([.fz (scrD ns), .fz townD, .fz s, .fz (.str (sOf l2)), a, b', c', d'], .nx) n2 ∧ l2.length ≤ l.length + 4 ∧ n2 ≤ n + 3 := by
  have hs := sizeLine_eq
  have h9 : 9 ≤ sizeLine := by omega
  have h2 : 2 ≤ sizeLine := by omega
  obtain ⟨at_, n1, hat, hn1, e1⟩ := draw_at ns (many := l.length + 1) (n := n) (by omega) (by omega)
  have e1 : f_law_draw [scrD ns, townD, .int ((l.length : Int) + 1)] n = .ok (.int (at_ : Int)) n1 := e1
  obtain ⟨sg, n2, hsg, hn2, e2'⟩ := pick_at txD ns (xs := bends) (n := n1) (by unfold bends; simp) (by omega)
  rw [← bends_D] at e2'
  obtain ⟨z, n3, hz, hn3, e3'⟩ := draw_at ns (many := 2) (n := n2) (by omega) (by omega)
  have e3' : f_law_draw [scrD ns, townD, .int 2] n2 = .ok (.int (z : Int)) n3 := e3'
  have ls := bends_len sg hsg
  have ln := len_at l (by omega) n
  have s1 := sl_pre l at_ (by omega) (by omega) n2
  have s2 := sl_suf l (at_ + z) (by omega) n3
  have s2 : dSl (some ((at_ : Int) + (z : Int))) none (.str (sOf l)) n3 = .ok (.str (sOf (l.drop (at_ + z)))) n3 := s2
  have a1 : dAdd (.str (sOf (l.take at_))) (txD sg) n2 = .ok (.str (sOf (l.take at_ ++ sg))) n2 := add_str _ _ (by simp; omega) n2
  have hl2 : (l.take at_ ++ sg ++ l.drop (at_ + z)).length ≤ l.length + 4 := by
    simp only [List.length_append, List.length_take, List.length_drop]
    omega
  have a2 := add_str (l.take at_ ++ sg) (l.drop (at_ + z)) (by rw [← List.length_append]; omega) n3
  generalize hl2' : l.take at_ ++ sg ++ l.drop (at_ + z) = l2 at hl2 a2
  have r := law_read_ok l2 (by omega) n3
  have t := told_ok l2 (by omega) n3
  have nd := ne_due l2 n3
  refine ⟨l2, n3, .fz (.int (at_ : Int)), .fz (txD sg), .fz (match rd l2 with | some (a, b) => .tuple [toD a, toD b] | none => .none), ?_, hl2, by omega⟩
  have st1 : sSet 5 (eFn 3 f_law_draw (aCons (eVar 0) (aCons (eVar 1) (aCons (e2 dAdd (eCall (arg1 dLen) (aCons (eVar 3) aNil)) (eC (.int 1))) aNil)))) [.fz (scrD ns), .fz townD, .fz s, .fz (.str (sOf l)), a, b, c, d] n = .ok ([.fz (scrD ns), .fz townD, .fz s, .fz (.str (sOf l)), a, .fz (.int (at_ : Int)), c, d], .nx) n1 := by
    simp [Env.at, ln, add_int, e1]
  have st2 : sSet 6 (eFn 3 f_law_pick (aCons (eVar 0) (aCons (eVar 1) (aCons (eL (lLst (aCons (eC (.str "x")) (aCons (eC (.str "y")) (aCons (eC (.str "(")) (aCons (eC (.str ")")) (aCons (eC (.str "(xy)")) (aCons (eC (.str "=")) (aCons (eC (.str "w")) (aCons (eC (.str " ")) (aCons (eC (.str "")) aNil))))))))))) aNil)))) [.fz (scrD ns), .fz townD, .fz s, .fz (.str (sOf l)), a, .fz (.int (at_ : Int)), c, d] n1 = .ok ([.fz (scrD ns), .fz townD, .fz s, .fz (.str (sOf l)), a, .fz (.int (at_ : Int)), .fz (txD sg), d], .nx) n2 := by
    simp [Env.at, h9, e2']
  have q1 : eSl (eVar 3) pNo (pYes (eVar 5)) [.fz (scrD ns), .fz townD, .fz s, .fz (.str (sOf l)), a, .fz (.int (at_ : Int)), .fz (txD sg), d] n2 = .ok (.str (sOf (l.take at_))) n2 := s1
  have q2 : eSl (eVar 3) (pYes (e2 dAdd (eVar 5) (eFn 3 f_law_draw (aCons (eVar 0) (aCons (eVar 1) (aCons (eC (.int 2)) aNil)))))) pNo [.fz (scrD ns), .fz townD, .fz s, .fz (.str (sOf l)), a, .fz (.int (at_ : Int)), .fz (txD sg), d] n2 = .ok (.str (sOf (l.drop (at_ + z)))) n3 := by
    have py : pYes (e2 dAdd (eVar 5) (eFn 3 f_law_draw (aCons (eVar 0) (aCons (eVar 1) (aCons (eC (.int 2)) aNil))))) [.fz (scrD ns), .fz townD, .fz s, .fz (.str (sOf l)), a, .fz (.int (at_ : Int)), .fz (txD sg), d] n2 = .ok (some ((at_ : Int) + (z : Int))) n3 := by
      unfold pYes
      simp [Env.at, e3', add_int, asI]
    unfold eSl
    rw [bnd_app, eVar_app]
    show (varM (.fz (.str (sOf l))) n2).bd _ = _
    rw [varM_fz, bd_ok, bnd_app, py, bd_ok, bnd_app]
    exact s2
  have st3 : sSet 3 (e2 dAdd (e2 dAdd (eSl (eVar 3) pNo (pYes (eVar 5))) (eVar 6)) (eSl (eVar 3) (pYes (e2 dAdd (eVar 5) (eFn 3 f_law_draw (aCons (eVar 0) (aCons (eVar 1) (aCons (eC (.int 2)) aNil)))))) pNo)) [.fz (scrD ns), .fz townD, .fz s, .fz (.str (sOf l)), a, .fz (.int (at_ : Int)), .fz (txD sg), d] n2 = .ok ([.fz (scrD ns), .fz townD, .fz s, .fz (.str (sOf l2)), a, .fz (.int (at_ : Int)), .fz (txD sg), d], .nx) n3 := by
    rw [sSet_app, e2_app, e2_app, q1]
    simp only [bd_ok]
    rw [bnd_app, eVar_app]
    show Res.bd (Res.bd (Res.bd (varM (.fz (txD sg)) n2) _) _) _ = _
    rw [varM_fz, bd_ok, a1, bd_ok, bnd_app, q2, bd_ok, a2]
    rfl
  have st4 : sSet 7 (eFn 1 f_law_read (aCons (eVar 3) aNil)) [.fz (scrD ns), .fz townD, .fz s, .fz (.str (sOf l2)), a, .fz (.int (at_ : Int)), .fz (txD sg), d] n3 = .ok ([.fz (scrD ns), .fz townD, .fz s, .fz (.str (sOf l2)), a, .fz (.int (at_ : Int)), .fz (txD sg), .fz (match rd l2 with | some (a, b) => .tuple [toD a, toD b] | none => .none)], .nx) n3 := by
    rw [sSet_app, eFn_app]
    simp only [aCons_app, eVar_app]
    show Res.bd (Res.bd (Res.bd (varM (.fz (.str (sOf l2))) n3) _) _) _ = _
    rw [varM_fz, bd_ok]
    simp only [bnd_app, aNil_app, bd_ok, pure_app]
    show Res.bd (f_law_read [.str (sOf l2)] n3) _ = _
    rw [r]
    rfl
  have st5 : Mi.tB (e2 dNe (eFn 1 f_law_told (aCons (eVar 3) aNil)) (eIf (Mi.tB (e2 dIsNot (eVar 7) (eC .none))) (eVar 7) (eTup (aCons (eC (.str "refused")) (aCons (eC (.str "text")) aNil))))) [.fz (scrD ns), .fz townD, .fz s, .fz (.str (sOf l2)), a, .fz (.int (at_ : Int)), .fz (txD sg), .fz (match rd l2 with | some (a, b) => .tuple [toD a, toD b] | none => .none)] n3 = .ok false n3 := by
    unfold due at t nd
    cases e : rd l2 with
    | none =>
      rw [e] at t nd
      simp only at t nd
      unfold refT at t nd
      simp [Env.at, t, nd, dIsNot, isNone, h2]
    | some p =>
      obtain ⟨p1, p2⟩ := p
      rw [e] at t nd
      simp only at t nd
      simp [Env.at, t, nd, dIsNot, isNone, h2]
  show sSeq _ _ _ n = _
  rw [sSeq_app, st1, seqR_nx, sSeq_app, st2, seqR_nx, sSeq_app, st3, seqR_nx, sSeq_app, st4, seqR_nx, sIf_app, st5, bdB_f]
  rfl
theorem law_true (ns : List Int) (_ : ns.length ≤ 63) : lawOk 8 1 b_law ns := by
  have hs := sizeLine_eq
  obtain ⟨p, n1, e1, hp, hn1⟩ := saying_draw ns 0 (by omega)
  obtain ⟨a, b⟩ := p
  obtain ⟨ha, hb, da, db⟩ := hp
  have da : dp a ≤ 3 := da
  have db : dp b ≤ 3 := db
  have ta := text_ok a 12 (by omega) (by omega) n1
  have tb := text_ok b 12 (by omega) (by omega) n1
  have la := cds_len a
  have lb := cds_len b
  have pa : 2 ^ dp a ≤ 2 ^ 3 := Nat.pow_le_pow_right (by omega) da
  have pb : 2 ^ dp b ≤ 2 ^ 3 := Nat.pow_le_pow_right (by omega) db
  have x1 : dAdd (.str (sOf (cds a))) (.str (sOf [61])) n1 = .ok (.str (sOf (cds a ++ [61]))) n1 := add_str _ _ (by simp; omega) n1
  have x2 : dAdd (.str (sOf (cds a ++ [61]))) (.str (sOf (cds b))) n1 = .ok (.str (sOf (cds a ++ 61 :: cds b))) n1 := by
    have := add_str (cds a ++ [61]) (cds b) (by simp; omega) n1
    simpa using this
  have sd := said_ok ha hb da db n1
  have ll : (cds a ++ 61 :: cds b).length ≤ 59 := by simp; omega
  have tl := told_ok (cds a ++ 61 :: cds b) (by omega) n1
  have rt := rd_text ha hb da db
  have np := ne_pair (a := a) (b := b) (by omega) (by omega) n1
  have ns1 : dNe (.str (sOf (cds a ++ 61 :: cds b))) (.str (sOf (cds a ++ 61 :: cds b))) n1 = .ok (.bool false) n1 := by rw [ne_str]; simp
  unfold due at tl
  rw [rt] at tl
  simp only at tl
  generalize cds a ++ 61 :: cds b = l at x2 sd ll tl ns1
  obtain ⟨k, n2, hk, hn2, e2'⟩ := draw_at ns (many := 3) (n := n1) (by omega) (by omega)
  have e2' : f_law_draw [scrD ns, townD, .int 3] n1 = .ok (.int (k : Int)) n2 := e2'
  have loop := forL_map natD (i := 4) (body := lbd) (xs := List.range k) (k := 0) (ρ := [.fz (scrD ns), .fz townD, .fz (.tuple [toD a, toD b]), .fz (.str (sOf l)), .no, .no, .no, .no]) (n := n2)
    (fun j ρ n => ∃ l a1 b1 c1 d1, ρ = [.fz (scrD ns), .fz townD, .fz (.tuple [toD a, toD b]), .fz (.str (sOf l)), a1, b1, c1, d1] ∧ l.length ≤ 59 + 4 * j ∧ n ≤ 200 + 3 * j)
    ⟨l, .no, .no, .no, .no, rfl, by omega, by omega⟩ (fun j x ρ n hj hI => by
      obtain ⟨l', a1, b1, c1, d1, rfl, hl', hn'⟩ := hI
      have hj2 : j < 2 := by
        have := (range_get hj).2
        omega
      obtain ⟨l2, n2, b', c', d', q, h1, h2⟩ := turn_ok ns (l := l') (n := n) (s := .tuple [toD a, toD b]) (a := .fz (natD x)) (b := b1) (c := c1) (d := d1) (by omega) (by omega)
      exact ⟨_, n2, q, l2, _, _, _, _, rfl, by omega, by omega⟩)
  obtain ⟨ρ', n3, q3, l3, a3, b3, c3, d3, rfl, _, _⟩ := loop
  have f1 : f_law_told [.str "((((xx)x)x)x)=x"] n3 = .ok refT n3 := by kernel_rfl
  have f2 : f_law_told [.str ""] n3 = .ok refT n3 := by kernel_rfl
  have qq : dEq refT (.tuple [.str "refused", .str "text"]) n3 = .ok (.bool true) n3 := by kernel_rfl
  have h2 : 2 ≤ sizeLine := by omega
  refine ⟨n3, ?_⟩
  rw [bnd_app]
  have main : b_law [.fz (scrD ns), .fz townD, .no, .no, .no, .no, .no, .no] 0 = .ok ([.fz (scrD ns), .fz townD, .fz (.tuple [toD a, toD b]), .fz (.str (sOf l3)), a3, b3, c3, d3], .rt (.bool true)) n3 := by
    unfold b_law
    have s1 : sSet 2 (eFn 2 f_law_saying (aCons (eVar 0) (aCons (eVar 1) aNil))) [.fz (scrD ns), .fz townD, .no, .no, .no, .no, .no, .no] 0 = .ok ([.fz (scrD ns), .fz townD, .fz (.tuple [toD a, toD b]), .no, .no, .no, .no, .no], .nx) n1 := by
      have e1 : f_law_saying [scrD ns, townD] 0 = .ok (.tuple [toD a, toD b]) n1 := e1
      simp [Env.at, e1]
    have s2 : sSet 3 (e2 dAdd (e2 dAdd (eFn 1 (f_law_text 12) (aCons (e2 dIx (eVar 2) (eC (.int 0))) aNil)) (eC (.str "="))) (eFn 1 (f_law_text 12) (aCons (e2 dIx (eVar 2) (eC (.int 1))) aNil))) [.fz (scrD ns), .fz townD, .fz (.tuple [toD a, toD b]), .no, .no, .no, .no, .no] n1 = .ok ([.fz (scrD ns), .fz townD, .fz (.tuple [toD a, toD b]), .fz (.str (sOf l)), .no, .no, .no, .no], .nx) n1 := by
      simp [Env.at, at0, at1, ta, tb, s_eq, x1, x2]
    have s3 : bOr (Mi.tB (e2 dNe (eFn 1 f_said (aCons (eVar 2) aNil)) (eVar 3))) (Mi.tB (e2 dNe (eFn 1 f_law_told (aCons (eVar 3) aNil)) (eVar 2))) [.fz (scrD ns), .fz townD, .fz (.tuple [toD a, toD b]), .fz (.str (sOf l)), .no, .no, .no, .no] n1 = .ok false n1 := by
      simp [Env.at, sd, ns1, tl, np]
    have it : iRange1 (aCons (eFn 3 f_law_draw (aCons (eVar 0) (aCons (eVar 1) (aCons (eC (.int 3)) aNil)))) aNil) [.fz (scrD ns), .fz townD, .fz (.tuple [toD a, toD b]), .fz (.str (sOf l)), .no, .no, .no, .no] n1 = .ok ((List.range k).map natD) n2 := by
      refine iRange1_nat ?_ (by omega)
      simp [Env.at, e2']
    rw [sSeq_app, s1, seqR_nx, sSeq_app, s2, seqR_nx, sSeq_app, sIf_app, s3, bdB_f, sNx_app, seqR_nx, sSeq_app, sFor_app, it, bd_ok]
    show seqR (forL (.nm 4) lbd _ _ n2) _ = _
    rw [q3, seqR_nx]
    simp [f1, f2, qq, h2]
  show Res.bd (b_law [.fz (scrD ns), .fz townD, .no, .no, .no, .no, .no, .no] 0) _ = _
  rw [main]
  rfl
end Lk42

end

section
set_option Elab.async false
set_option linter.all false
set_option maxRecDepth 100000
set_option maxHeartbeats 4000000
/-! the walk of law_k42_whole_texts -/
namespace Lk42
open PySem PySem.Spec L2 Mi Pg
def top (i : Nat) : Stmt := PySem.Challenge.pw_onerule_k42_whole_texts.main.body.getD i (.Pass ⟨0, 0, 0, 0⟩)
structure Tx (K : PySem.W.Frag) (mg : Str → Option Value) : Prop where
  z_ValueError : mg "ValueError" = none
  z_all : mg "all" = none
  z_isinstance : mg "isinstance" = none
  z_len : mg "len" = none
  z_list : mg "list" = none
  z_max : mg "max" = none
  z_range : mg "range" = none
  z_str : mg "str" = none
  z_tuple : mg "tuple" = none
  g_LETTERS : ∃ t, mg "LETTERS" = some (.str "xyz" t)
  g_MOST_DEEP : ∃ t, mg "MOST_DEEP" = some (.int 3 t)
  r_BadSaying : CanRaise K mg "BadSaying"
  r_BadText : CanRaise K mg "BadText"
  e_RuleError : ∃ C : Addr, mg "RuleError" = some (.ref C) ∧ ∀ c, ranked raised c = true → ∀ D, mg c = some (.ref D) → PySem.W.exmOne K (.ref D) (.ref C) = some true
  i_BadLeading : ∃ C : Addr, mg "BadLeading" = some (.ref C) ∧ ∀ c r D, isx_BadLeading c = some r → mg c = some (.ref D) → ExcC K D ∧ PySem.W.kitOne K (.ref D) (.ref C) = some r
  i_BadNumber : ∃ C : Addr, mg "BadNumber" = some (.ref C) ∧ ∀ c r D, isx_BadNumber c = some r → mg c = some (.ref D) → ExcC K D ∧ PySem.W.kitOne K (.ref D) (.ref C) = some r
  i_BadParting : ∃ C : Addr, mg "BadParting" = some (.ref C) ∧ ∀ c r D, isx_BadParting c = some r → mg c = some (.ref D) → ExcC K D ∧ PySem.W.kitOne K (.ref D) (.ref C) = some r
  i_BadSaying : ∃ C : Addr, mg "BadSaying" = some (.ref C) ∧ ∀ c r D, isx_BadSaying c = some r → mg c = some (.ref D) → ExcC K D ∧ PySem.W.kitOne K (.ref D) (.ref C) = some r
  i_BadTable : ∃ C : Addr, mg "BadTable" = some (.ref C) ∧ ∀ c r D, isx_BadTable c = some r → mg c = some (.ref D) → ExcC K D ∧ PySem.W.kitOne K (.ref D) (.ref C) = some r
  i_BadText : ∃ C : Addr, mg "BadText" = some (.ref C) ∧ ∀ c r D, isx_BadText c = some r → mg c = some (.ref D) → ExcC K D ∧ PySem.W.kitOne K (.ref D) (.ref C) = some r
  i_BadThing : ∃ C : Addr, mg "BadThing" = some (.ref C) ∧ ∀ c r D, isx_BadThing c = some r → mg c = some (.ref D) → ExcC K D ∧ PySem.W.kitOne K (.ref D) (.ref C) = some r
  i_TooGreat : ∃ C : Addr, mg "TooGreat" = some (.ref C) ∧ ∀ c r D, isx_TooGreat c = some r → mg c = some (.ref D) → ExcC K D ∧ PySem.W.kitOne K (.ref D) (.ref C) = some r
  i_ValueError : ∀ c r D, isx_ValueError c = some r → mg c = some (.ref D) → ExcC K D ∧ PySem.W.kitOne K (.ref D) (.type "ValueError") = some r
section
variable {P : Program} {w : World} {K : PySem.W.Frag} {mg : Str → Option Value} {base : Heap}
abbrev st_is_term : Stmt := top 13
theorem sc_is_term : FnScope ["term", "deep", "one"] ["term", "deep"] (defScope st_is_term) := ⟨rfl, rfl, rfl, by decide +kernel, rfl, by decide +kernel, by decide +kernel⟩
theorem ok_is_term (T : Tx K mg) (F : FunAt K mg "is_term" st_is_term)  : ∀ d : Nat, Cal P w K mg base (0 + d) "is_term" 2 (f_is_term d)
  | 0 => cal_bad (ps := ["term", "deep"]) F (fun _ _ _ _ _ _ us hl => match us, hl with | [_, _], _ => rfl)
  | d + 1 =>
    have c_rec := ok_is_term T F  d
    cal_of (k := 0 + d) (body := b_is_term (f_is_term d)) F sc_is_term rfl rfl (fun _ _ _ _ _ _ us hl => match us, hl with | [_, _], _ => rfl) fun f cdv A outer s H E hr =>
    have S := sc_is_term
    (ss_cons (s_if (t_truth (x_isTy is_str T.z_isinstance (x_var 0) (pe_bltn (v := .ty "str") rfl T.z_str (by decide +kernel) rfl)))
    (ss_one (s_ret (x_in hr.units (x_var 0) (x_fz (l_listS rfl T.z_list (a_cons (x_globS T.g_LETTERS) a_nil))))))
    ss_nil)
    (ss_one (s_ret (x_and (x_isTy is_tuple T.z_isinstance (x_var 0) (pe_bltn (v := .ty "tuple") rfl T.z_tuple (by decide +kernel) rfl)) (x_and (x_eq hr.units (x_len T.z_len (a_cons (x_var 0) a_nil)) x_int) (x_and (x_gt (x_var 1) x_int) (x_one (x_all rfl T.z_all (a_cons (x_fz (l_comp rfl S.nd (i_seq (x_var 0)) (blkOk_by (own := [("one", 2)]) (by kernel_rfl)) (fun _ _ _ _ _ => (g_nm (i := 2) S.nd rfl (by first | exact Or.inl rfl | exact Or.inr rfl))) (fun _ _ _ _ _ => ts_nil) (fun _ _ _ _ _ => (x_cal takes0 (hr.mono (by omega)) c_rec (a_cons (x_var 2) (a_cons (x_sub (x_var 1) x_int) a_nil)))))) a_nil)))))))))
abbrev st_look_saying : Stmt := top 14
theorem sc_look_saying : FnScope ["saying", "term"] ["saying"] (defScope st_look_saying) := ⟨rfl, rfl, rfl, by decide +kernel, rfl, by decide +kernel, by decide +kernel⟩
theorem ok_look_saying (T : Tx K mg) (F : FunAt K mg "look_saying" st_look_saying) (c_is_term : Cal P w K mg base 12 "is_term" 2 (f_is_term 12)) : Cal P w K mg base 13 "look_saying" 1 f_look_saying :=
  cal_of (k := 12) (body := b_look_saying) F sc_look_saying rfl rfl (fun _ _ _ _ _ _ us hl => match us, hl with | [_], _ => rfl) fun f cdv A outer s H E hr =>
    have S := sc_look_saying
    (ss_one (s_if (PW.pt (w_or (t_ne hr.units (x_len T.z_len (a_cons (x_var 0) a_nil)) x_int) (w_or1 (t_not (t_truth (x_all rfl T.z_all (a_cons (x_fz (l_comp rfl S.nd (i_seq (x_var 0)) (blkOk_by (own := [("term", 1)]) (by kernel_rfl)) (fun _ _ _ _ _ => (g_nm (i := 1) S.nd rfl (by first | exact Or.inl rfl | exact Or.inr rfl))) (fun _ _ _ _ _ => ts_nil) (fun _ _ _ _ _ => (x_cal takes0 (hr.mono (by decide)) c_is_term (a_cons (x_var 1) (a_cons (x_globI T.g_MOST_DEEP) a_nil)))))) a_nil)))))))
    (ss_one (s_raiseC rfl (takes_of rfl rfl rfl rfl) T.r_BadSaying))
    ss_nil))
abbrev st_term_text : Stmt := top 15
theorem sc_term_text : FnScope ["term"] ["term"] (defScope st_term_text) := ⟨rfl, rfl, rfl, by decide +kernel, rfl, by decide +kernel, by decide +kernel⟩
theorem ok_term_text (T : Tx K mg) (F : FunAt K mg "term_text" st_term_text)  : ∀ d : Nat, Cal P w K mg base (0 + d) "term_text" 1 (f_term_text d)
  | 0 => cal_bad (ps := ["term"]) F (fun _ _ _ _ _ _ us hl => match us, hl with | [_], _ => rfl)
  | d + 1 =>
    have c_rec := ok_term_text T F  d
    cal_of (k := 0 + d) (body := b_term_text (f_term_text d)) F sc_term_text rfl rfl (fun _ _ _ _ _ _ us hl => match us, hl with | [_], _ => rfl) fun f cdv A outer s H E hr =>
    have S := sc_term_text
    (ss_cons (s_if (t_truth (x_isTy is_str T.z_isinstance (x_var 0) (pe_bltn (v := .ty "str") rfl T.z_str (by decide +kernel) rfl)))
    (ss_one (s_ret (x_var 0)))
    ss_nil)
    (ss_one (s_ret (x_add (x_add (x_add x_str (x_cal (takes_of rfl rfl rfl rfl) (hr.mono (by omega)) c_rec (a_cons (x_ix (x_var 0) x_int) a_nil))) (x_cal (takes_of rfl rfl rfl rfl) (hr.mono (by omega)) c_rec (a_cons (x_ix (x_var 0) x_int) a_nil))) x_str))))
abbrev st_said : Stmt := top 16
theorem sc_said : FnScope ["saying"] ["saying"] (defScope st_said) := ⟨rfl, rfl, rfl, by decide +kernel, rfl, by decide +kernel, by decide +kernel⟩
theorem ok_said (T : Tx K mg) (F : FunAt K mg "said" st_said) (c_look_saying : Cal P w K mg base 13 "look_saying" 1 f_look_saying) (c_term_text : Cal P w K mg base 12 "term_text" 1 (f_term_text 12)) : Cal P w K mg base 14 "said" 1 f_said :=
  cal_of (k := 13) (body := b_said) F sc_said rfl rfl (fun _ _ _ _ _ _ us hl => match us, hl with | [_], _ => rfl) fun f cdv A outer s H E hr =>
    have S := sc_said
    (ss_cons (s_drop (x_cal (takes_of rfl rfl rfl rfl) (hr.mono (by decide)) c_look_saying (a_cons (x_var 0) a_nil)))
    (ss_one (s_ret (x_add (x_add (x_cal (takes_of rfl rfl rfl rfl) (hr.mono (by decide)) c_term_text (a_cons (x_ix (x_var 0) x_int) a_nil)) x_str) (x_cal (takes_of rfl rfl rfl rfl) (hr.mono (by decide)) c_term_text (a_cons (x_ix (x_var 0) x_int) a_nil))))))
abbrev st_term_at : Stmt := top 17
theorem sc_term_at : FnScope ["text", "at", "deep", "one", "other"] ["text", "at", "deep"] (defScope st_term_at) := ⟨rfl, rfl, rfl, by decide +kernel, rfl, by decide +kernel, by decide +kernel⟩
theorem ok_term_at (T : Tx K mg) (F : FunAt K mg "term_at" st_term_at)  : ∀ d : Nat, Cal P w K mg base (0 + d) "term_at" 3 (f_term_at d)
  | 0 => cal_bad (ps := ["text", "at", "deep"]) F (fun _ _ _ _ _ _ us hl => match us, hl with | [_, _, _], _ => rfl)
  | d + 1 =>
    have c_rec := ok_term_at T F  d
    cal_of (k := 0 + d) (body := b_term_at (f_term_at d)) F sc_term_at rfl rfl (fun _ _ _ _ _ _ us hl => match us, hl with | [_, _, _], _ => rfl) fun f cdv A outer s H E hr =>
    have S := sc_term_at
    (ss_cons (s_if (PW.pt (w_and (t_ne hr.units (x_sl (x_var 0) (p_yes (x_var 1)) (p_yes (x_add (x_var 1) x_int))) x_str) (w_and1 (t_in hr.units (x_ix (x_var 0) (x_var 1)) (x_globS T.g_LETTERS)))))
    (ss_one (s_ret (x_tup (a_cons (x_ix (x_var 0) (x_var 1)) (a_cons (x_add (x_var 1) x_int) a_nil)))))
    ss_nil)
    (ss_cons (s_if (PW.pt (w_or (t_ne hr.units (x_sl (x_var 0) (p_yes (x_var 1)) (p_yes (x_add (x_var 1) x_int))) x_str) (w_or1 (t_eq hr.units (x_var 2) x_int))))
    (ss_one (s_raiseC rfl (takes_of rfl rfl rfl rfl) T.r_BadText))
    ss_nil)
    (ss_cons (s_pat (x_cal (takes_of rfl rfl rfl rfl) (hr.mono (by omega)) c_rec (a_cons (x_var 0) (a_cons (x_add (x_var 1) x_int) (a_cons (x_sub (x_var 2) x_int) a_nil)))) (g_tup (is := [3, 1]) rfl (pgs_cons (pg_name (i := 3) S.nd rfl (Or.inl rfl)) (pgs_cons (pg_name (i := 1) S.nd rfl (Or.inl rfl)) pgs_nil))))
    (ss_cons (s_pat (x_cal (takes_of rfl rfl rfl rfl) (hr.mono (by omega)) c_rec (a_cons (x_var 0) (a_cons (x_var 1) (a_cons (x_sub (x_var 2) x_int) a_nil)))) (g_tup (is := [4, 1]) rfl (pgs_cons (pg_name (i := 4) S.nd rfl (Or.inl rfl)) (pgs_cons (pg_name (i := 1) S.nd rfl (Or.inl rfl)) pgs_nil))))
    (ss_cons (s_if (t_ne hr.units (x_sl (x_var 0) (p_yes (x_var 1)) (p_yes (x_add (x_var 1) x_int))) x_str)
    (ss_one (s_raiseC rfl (takes_of rfl rfl rfl rfl) T.r_BadText))
    ss_nil)
    (ss_one (s_ret (x_tup (a_cons (x_tup (a_cons (x_var 3) (a_cons (x_var 4) a_nil))) (a_cons (x_add (x_var 1) x_int) a_nil))))))))))
abbrev st_read : Stmt := top 18
theorem sc_read : FnScope ["text", "one", "at", "other"] ["text"] (defScope st_read) := ⟨rfl, rfl, rfl, by decide +kernel, rfl, by decide +kernel, by decide +kernel⟩
theorem ok_read (T : Tx K mg) (F : FunAt K mg "read" st_read) (c_term_at : Cal P w K mg base 12 "term_at" 3 (f_term_at 12)) : Cal P w K mg base 13 "read" 1 f_read :=
  cal_of (k := 12) (body := b_read) F sc_read rfl rfl (fun _ _ _ _ _ _ us hl => match us, hl with | [_], _ => rfl) fun f cdv A outer s H E hr =>
    have S := sc_read
    (ss_cons (s_pat (x_cal (takes_of rfl rfl rfl rfl) (hr.mono (by decide)) c_term_at (a_cons (x_var 0) (a_cons x_int (a_cons (x_globI T.g_MOST_DEEP) a_nil)))) (g_tup (is := [1, 2]) rfl (pgs_cons (pg_name (i := 1) S.nd rfl (Or.inl rfl)) (pgs_cons (pg_name (i := 2) S.nd rfl (Or.inl rfl)) pgs_nil))))
    (ss_cons (s_if (t_ne hr.units (x_sl (x_var 0) (p_yes (x_var 2)) (p_yes (x_add (x_var 2) x_int))) x_str)
    (ss_one (s_raiseC rfl (takes_of rfl rfl rfl rfl) T.r_BadText))
    ss_nil)
    (ss_cons (s_pat (x_cal (takes_of rfl rfl rfl rfl) (hr.mono (by decide)) c_term_at (a_cons (x_var 0) (a_cons (x_add (x_var 2) x_int) (a_cons (x_globI T.g_MOST_DEEP) a_nil)))) (g_tup (is := [3, 2]) rfl (pgs_cons (pg_name (i := 3) S.nd rfl (Or.inl rfl)) (pgs_cons (pg_name (i := 2) S.nd rfl (Or.inl rfl)) pgs_nil))))
    (ss_cons (s_if (t_ne hr.units (x_var 2) (x_len T.z_len (a_cons (x_var 0) a_nil)))
    (ss_one (s_raiseC rfl (takes_of rfl rfl rfl rfl) T.r_BadText))
    ss_nil)
    (ss_one (s_ret (x_tup (a_cons (x_var 1) (a_cons (x_var 3) a_nil)))))))))
abbrev st_law_cell : Stmt := top 20
theorem sc_law_cell : FnScope ["_law_script", "_law_k"] ["_law_script", "_law_k"] (defScope st_law_cell) := ⟨rfl, rfl, rfl, by decide +kernel, rfl, by decide +kernel, by decide +kernel⟩
theorem ok_law_cell (T : Tx K mg) (F : FunAt K mg "_law_cell" st_law_cell)  : Cal P w K mg base 1 "_law_cell" 2 f_law_cell :=
  cal_of (k := 0) (body := b_law_cell) F sc_law_cell rfl rfl (fun _ _ _ _ _ _ us hl => match us, hl with | [_, _], _ => rfl) fun f cdv A outer s H E hr =>
    have S := sc_law_cell
    (ss_cons (s_if (t_truth (x_var 0))
    (ss_one (s_ret (x_ix (x_var 0) (x_mod (x_var 1) (x_len T.z_len (a_cons (x_var 0) a_nil))))))
    ss_nil)
    (ss_one (s_ret x_int)))
abbrev st_law_mix : Stmt := top 21
theorem sc_law_mix : FnScope ["_law_script", "_law_k", "_law_number"] ["_law_script", "_law_k"] (defScope st_law_mix) := ⟨rfl, rfl, rfl, by decide +kernel, rfl, by decide +kernel, by decide +kernel⟩
theorem ok_law_mix (T : Tx K mg) (F : FunAt K mg "_law_mix" st_law_mix) (c_law_cell : Cal P w K mg base 1 "_law_cell" 2 f_law_cell) : Cal P w K mg base 2 "_law_mix" 2 f_law_mix :=
  cal_of (k := 1) (body := b_law_mix) F sc_law_mix rfl rfl (fun _ _ _ _ _ _ us hl => match us, hl with | [_, _], _ => rfl) fun f cdv A outer s H E hr =>
    have S := sc_law_mix
    (ss_cons (s_set (i := 2) S.nd rfl (Or.inl rfl) (x_mod (x_add (x_cal (takes_of rfl rfl rfl rfl) (hr.mono (by decide)) c_law_cell (a_cons (x_var 0) (a_cons (x_var 1) a_nil))) (x_mulI x_int (x_add (x_var 1) x_int))) x_int))
    (ss_cons (s_set (i := 2) S.nd rfl (Or.inl rfl) (x_mod (x_pow (x_var 2) x_int) x_int))
    (ss_one (s_ret (x_mod (x_add (x_mulI (x_fdiv (x_var 2) x_int) x_int) (x_var 2)) x_int)))))
abbrev st_law_draw : Stmt := top 22
theorem sc_law_draw : FnScope ["_law_script", "_law_town", "_law_many"] ["_law_script", "_law_town", "_law_many"] (defScope st_law_draw) := ⟨rfl, rfl, rfl, by decide +kernel, rfl, by decide +kernel, by decide +kernel⟩
theorem ok_law_draw (T : Tx K mg) (F : FunAt K mg "_law_draw" st_law_draw) (c_law_mix : Cal P w K mg base 2 "_law_mix" 2 f_law_mix) : Cal P w K mg base 3 "_law_draw" 3 f_law_draw :=
  cal_of (k := 2) (body := b_law_draw) F sc_law_draw rfl rfl (fun _ _ _ _ _ _ us hl => match us, hl with | [_, _, _], _ => rfl) fun f cdv A outer s H E hr =>
    have S := sc_law_draw
    (ss_cons (s_town (pv 1))
    (ss_one (s_ret (x_mod (x_fdiv (x_cal (takes_of rfl rfl rfl rfl) (hr.mono (by decide)) c_law_mix (a_cons (x_var 0) (a_cons (x_len T.z_len (a_cons (x_var 1) a_nil)) a_nil))) x_int) (x_var 2)))))
abbrev st_law_pick : Stmt := top 23
theorem sc_law_pick : FnScope ["_law_script", "_law_town", "_law_some"] ["_law_script", "_law_town", "_law_some"] (defScope st_law_pick) := ⟨rfl, rfl, rfl, by decide +kernel, rfl, by decide +kernel, by decide +kernel⟩
theorem ok_law_pick (T : Tx K mg) (F : FunAt K mg "_law_pick" st_law_pick) (c_law_draw : Cal P w K mg base 3 "_law_draw" 3 f_law_draw) : Cal P w K mg base 4 "_law_pick" 3 f_law_pick :=
  cal_of (k := 3) (body := b_law_pick) F sc_law_pick rfl rfl (fun _ _ _ _ _ _ us hl => match us, hl with | [_, _, _], _ => rfl) fun f cdv A outer s H E hr =>
    have S := sc_law_pick
    (ss_one (s_ret (x_ix (x_var 2) (x_cal (takes_of rfl rfl rfl rfl) (hr.mono (by decide)) c_law_draw (a_cons (x_var 0) (a_cons (x_var 1) (a_cons (x_len T.z_len (a_cons (x_var 2) a_nil)) a_nil)))))))
abbrev st_law_refusal : Stmt := top 24
theorem sc_law_refusal : FnScope ["_law_caught", "_law_kinds", "_law_words"] ["_law_caught"] (defScope st_law_refusal) := ⟨rfl, rfl, rfl, by decide +kernel, rfl, by decide +kernel, by decide +kernel⟩
theorem ok_law_refusal (T : Tx K mg) (F : FunAt K mg "_law_refusal" st_law_refusal)  : Cal P w K mg base 1 "_law_refusal" 1 f_law_refusal :=
  cal_of (k := 0) (body := b_law_refusal) F sc_law_refusal rfl rfl (fun _ _ _ _ _ _ us hl => match us, hl with | [_], _ => rfl) fun f cdv A outer s H E hr =>
    have S := sc_law_refusal
    (ss_cons (s_if (t_is (x_var 0) x_non)
    (ss_one (s_ret (x_tup (a_cons x_str a_nil))))
    ss_nil)
    (ss_cons (s_set (i := 1) S.nd rfl (Or.inl rfl) (x_fz (l_lst (a_cons (T.i_BadTable.elim fun C hC => x_isX T.z_isinstance (x_var 0) (pe_glob (v := .ref C) rfl hC.1 rfl) (fun _ h => h) hC.2) (a_cons (T.i_BadThing.elim fun C hC => x_isX T.z_isinstance (x_var 0) (pe_glob (v := .ref C) rfl hC.1 rfl) (fun _ h => h) hC.2) (a_cons (T.i_BadParting.elim fun C hC => x_isX T.z_isinstance (x_var 0) (pe_glob (v := .ref C) rfl hC.1 rfl) (fun _ h => h) hC.2) a_nil))))))
    (ss_cons (s_set (i := 1) S.nd rfl (Or.inl rfl) (x_add (x_var 1) (x_fz (l_lst (a_cons (T.i_BadSaying.elim fun C hC => x_isX T.z_isinstance (x_var 0) (pe_glob (v := .ref C) rfl hC.1 rfl) (fun _ h => h) hC.2) (a_cons (T.i_BadLeading.elim fun C hC => x_isX T.z_isinstance (x_var 0) (pe_glob (v := .ref C) rfl hC.1 rfl) (fun _ h => h) hC.2) (a_cons (T.i_BadNumber.elim fun C hC => x_isX T.z_isinstance (x_var 0) (pe_glob (v := .ref C) rfl hC.1 rfl) (fun _ h => h) hC.2) a_nil)))))))
    (ss_cons (s_set (i := 1) S.nd rfl (Or.inl rfl) (x_add (x_var 1) (x_fz (l_lst (a_cons (T.i_TooGreat.elim fun C hC => x_isX T.z_isinstance (x_var 0) (pe_glob (v := .ref C) rfl hC.1 rfl) (fun _ h => h) hC.2) (a_cons (T.i_BadText.elim fun C hC => x_isX T.z_isinstance (x_var 0) (pe_glob (v := .ref C) rfl hC.1 rfl) (fun _ h => h) hC.2) a_nil))))))
    (ss_cons (s_if (PW.pt (w_or (t_ne hr.units (x_cnt hr.units (x_var 1) x_bl) x_int) (w_or1 (t_not (t_truth (x_isX T.z_isinstance (x_var 0) (pe_bltn (v := .ty "ValueError") rfl T.z_ValueError (by decide +kernel) rfl) (fun _ h => h) T.i_ValueError))))))
    (ss_one (s_ret (x_tup (a_cons x_str a_nil))))
    ss_nil)
    (ss_cons (s_set (i := 2) S.nd rfl (Or.inl rfl) (x_fz (l_lst (a_cons x_str (a_cons x_str (a_cons x_str (a_cons x_str (a_cons x_str (a_cons x_str (a_cons x_str (a_cons x_str a_nil)))))))))))
    (ss_one (s_ret (x_tup (a_cons x_str (a_cons (x_ix (x_var 2) (x_idx hr.units (x_var 1) x_bl)) a_nil)))))))))))
abbrev st_law_term : Stmt := top 25
theorem sc_law_term : FnScope ["_law_script", "_law_town", "_law_deep"] ["_law_script", "_law_town", "_law_deep"] (defScope st_law_term) := ⟨rfl, rfl, rfl, by decide +kernel, rfl, by decide +kernel, by decide +kernel⟩
theorem ok_law_term (T : Tx K mg) (F : FunAt K mg "_law_term" st_law_term) (c_law_draw : Cal P w K mg base 3 "_law_draw" 3 f_law_draw) (c_law_pick : Cal P w K mg base 4 "_law_pick" 3 f_law_pick) : ∀ d : Nat, Cal P w K mg base (4 + d) "_law_term" 3 (f_law_term d)
  | 0 => cal_bad (ps := ["_law_script", "_law_town", "_law_deep"]) F (fun _ _ _ _ _ _ us hl => match us, hl with | [_, _, _], _ => rfl)
  | d + 1 =>
    have c_rec := ok_law_term T F c_law_draw c_law_pick d
    cal_of (k := 4 + d) (body := b_law_term (f_law_term d)) F sc_law_term rfl rfl (fun _ _ _ _ _ _ us hl => match us, hl with | [_, _, _], _ => rfl) fun f cdv A outer s H E hr =>
    have S := sc_law_term
    (ss_cons (s_if (PW.pt (w_or (t_eq hr.units (x_var 2) x_int) (w_or1 (t_eq hr.units (x_cal (takes_of rfl rfl rfl rfl) (hr.mono (by omega)) c_law_draw (a_cons (x_var 0) (a_cons (x_var 1) (a_cons x_int a_nil)))) x_int))))
    (ss_one (s_ret (x_cal (takes_of rfl rfl rfl rfl) (hr.mono (by omega)) c_law_pick (a_cons (x_var 0) (a_cons (x_var 1) (a_cons (x_fz (l_lst (a_cons x_str (a_cons x_str (a_cons x_str a_nil))))) a_nil))))))
    ss_nil)
    (ss_one (s_ret (x_tup (a_cons (x_cal (takes_of rfl rfl rfl rfl) (hr.mono (by omega)) c_rec (a_cons (x_var 0) (a_cons (x_var 1) (a_cons (x_sub (x_var 2) x_int) a_nil)))) (a_cons (x_cal (takes_of rfl rfl rfl rfl) (hr.mono (by omega)) c_rec (a_cons (x_var 0) (a_cons (x_var 1) (a_cons (x_sub (x_var 2) x_int) a_nil)))) a_nil))))))
abbrev st_law_saying : Stmt := top 26
theorem sc_law_saying : FnScope ["_law_script", "_law_town", "_law_some", "_law_deep"] ["_law_script", "_law_town"] (defScope st_law_saying) := ⟨rfl, rfl, rfl, by decide +kernel, rfl, by decide +kernel, by decide +kernel⟩
theorem ok_law_saying (T : Tx K mg) (F : FunAt K mg "_law_saying" st_law_saying) (c_law_draw : Cal P w K mg base 3 "_law_draw" 3 f_law_draw) (c_law_pick : Cal P w K mg base 4 "_law_pick" 3 f_law_pick) (c_law_term : Cal P w K mg base 16 "_law_term" 3 (f_law_term 12)) : Cal P w K mg base 17 "_law_saying" 2 f_law_saying :=
  cal_of (k := 16) (body := b_law_saying) F sc_law_saying rfl rfl (fun _ _ _ _ _ _ us hl => match us, hl with | [_, _], _ => rfl) fun f cdv A outer s H E hr =>
    have S := sc_law_saying
    (ss_cons (s_set (i := 2) S.nd rfl (Or.inl rfl) (x_fz (l_lst (a_cons (x_tup (a_cons x_str (a_cons (x_tup (a_cons x_str (a_cons x_str a_nil))) a_nil))) (a_cons (x_tup (a_cons (x_tup (a_cons x_str (a_cons x_str a_nil))) (a_cons (x_tup (a_cons x_str (a_cons x_str a_nil))) a_nil))) (a_cons (x_tup (a_cons (x_tup (a_cons (x_tup (a_cons x_str (a_cons x_str a_nil))) (a_cons x_str a_nil))) (a_cons (x_tup (a_cons x_str (a_cons (x_tup (a_cons x_str (a_cons x_str a_nil))) a_nil))) a_nil))) (a_cons (x_tup (a_cons (x_tup (a_cons x_str (a_cons x_str a_nil))) (a_cons x_str a_nil))) a_nil)))))))
    (ss_cons (s_set (i := 2) S.nd rfl (Or.inl rfl) (x_add (x_var 2) (x_fz (l_lst (a_cons (x_tup (a_cons (x_tup (a_cons x_str (a_cons x_str a_nil))) (a_cons x_str a_nil))) (a_cons (x_tup (a_cons (x_tup (a_cons x_str (a_cons (x_tup (a_cons x_str (a_cons x_str a_nil))) a_nil))) (a_cons (x_tup (a_cons x_str (a_cons x_str a_nil))) a_nil))) (a_cons (x_tup (a_cons (x_tup (a_cons (x_tup (a_cons x_str (a_cons x_str a_nil))) (a_cons x_str a_nil))) (a_cons x_str a_nil))) (a_cons (x_tup (a_cons x_str (a_cons x_str a_nil))) a_nil))))))))
    (ss_cons (s_if (t_eq hr.units (x_cal (takes_of rfl rfl rfl rfl) (hr.mono (by decide)) c_law_draw (a_cons (x_var 0) (a_cons (x_var 1) (a_cons x_int a_nil)))) x_int)
    (ss_one (s_ret (x_cal (takes_of rfl rfl rfl rfl) (hr.mono (by decide)) c_law_pick (a_cons (x_var 0) (a_cons (x_var 1) (a_cons (x_var 2) a_nil))))))
    ss_nil)
    (ss_cons (s_set (i := 3) S.nd rfl (Or.inl rfl) (x_add x_int (x_cal (takes_of rfl rfl rfl rfl) (hr.mono (by decide)) c_law_draw (a_cons (x_var 0) (a_cons (x_var 1) (a_cons x_int a_nil))))))
    (ss_one (s_ret (x_tup (a_cons (x_cal (takes_of rfl rfl rfl rfl) (hr.mono (by decide)) c_law_term (a_cons (x_var 0) (a_cons (x_var 1) (a_cons (x_var 3) a_nil)))) (a_cons (x_cal (takes_of rfl rfl rfl rfl) (hr.mono (by decide)) c_law_term (a_cons (x_var 0) (a_cons (x_var 1) (a_cons (x_cal (takes_of rfl rfl rfl rfl) (hr.mono (by decide)) c_law_draw (a_cons (x_var 0) (a_cons (x_var 1) (a_cons x_int a_nil)))) a_nil)))) a_nil)))))))))
abbrev st_law_text : Stmt := top 27
theorem sc_law_text : FnScope ["_law_term_here"] ["_law_term_here"] (defScope st_law_text) := ⟨rfl, rfl, rfl, by decide +kernel, rfl, by decide +kernel, by decide +kernel⟩
theorem ok_law_text (T : Tx K mg) (F : FunAt K mg "_law_text" st_law_text)  : ∀ d : Nat, Cal P w K mg base (0 + d) "_law_text" 1 (f_law_text d)
  | 0 => cal_bad (ps := ["_law_term_here"]) F (fun _ _ _ _ _ _ us hl => match us, hl with | [_], _ => rfl)
  | d + 1 =>
    have c_rec := ok_law_text T F  d
    cal_of (k := 0 + d) (body := b_law_text (f_law_text d)) F sc_law_text rfl rfl (fun _ _ _ _ _ _ us hl => match us, hl with | [_], _ => rfl) fun f cdv A outer s H E hr =>
    have S := sc_law_text
    (ss_cons (s_if (t_truth (x_isTy is_str T.z_isinstance (x_var 0) (pe_bltn (v := .ty "str") rfl T.z_str (by decide +kernel) rfl)))
    (ss_one (s_ret (x_var 0)))
    ss_nil)
    (ss_one (s_ret (x_add (x_add (x_add x_str (x_cal (takes_of rfl rfl rfl rfl) (hr.mono (by omega)) c_rec (a_cons (x_ix (x_var 0) x_int) a_nil))) (x_cal (takes_of rfl rfl rfl rfl) (hr.mono (by omega)) c_rec (a_cons (x_ix (x_var 0) x_int) a_nil))) x_str))))
abbrev st_law_told : Stmt := top 28
theorem sc_law_told : FnScope ["_law_text_here", "_law_caught", "_law_found", "e"] ["_law_text_here"] (defScope st_law_told) := ⟨rfl, rfl, rfl, by decide +kernel, rfl, by decide +kernel, by decide +kernel⟩
theorem ok_law_told (T : Tx K mg) (F : FunAt K mg "_law_told" st_law_told) (c_read : Cal P w K mg base 13 "read" 1 f_read) (c_law_refusal : Cal P w K mg base 1 "_law_refusal" 1 f_law_refusal) : Cal P w K mg base 14 "_law_told" 1 f_law_told :=
  cal_of (k := 13) (body := b_law_told) F sc_law_told rfl rfl (fun _ _ _ _ _ _ us hl => match us, hl with | [_], _ => rfl) fun f cdv A outer s H E hr =>
    have S := sc_law_told
    (ss_cons (s_set (i := 1) S.nd rfl (Or.inl rfl) x_non)
    (ss_cons (s_set (i := 2) S.nd rfl (Or.inl rfl) x_non)
    (ss_cons (T.e_RuleError.elim fun C hC => s_tryT rfl rfl rfl S.nd (i := 3) (j := 1) (iy := 2) rfl rfl ⟨rfl, by decide, Or.inl hC.1⟩ hC.2 (fun a pn => pss_one (ps_set (i := 1) S.nd rfl (Or.inl rfl) (pv 3))) (fun W pn xe tk => (tree_set (i := 2) S.nd rfl rfl (x_cal tk (hr.mono (by decide)) c_read (a_cons (x_var 0) a_nil)))))
    (ss_one (s_ret (x_if (t_is (x_var 1) x_non) (x_var 2) (x_cal (takes_of rfl rfl rfl rfl) (hr.mono (by decide)) c_law_refusal (a_cons (x_var 1) a_nil))))))))
abbrev st_law_read : Stmt := top 29
theorem sc_law_read : FnScope ["_law_text_here", "_law_sides", "_law_found", "_law_side", "_law_row", "_law_k", "_law_four", "_law_sign"] ["_law_text_here"] (defScope st_law_read) := ⟨rfl, rfl, rfl, by decide +kernel, rfl, by decide +kernel, by decide +kernel⟩
theorem ok_law_read (T : Tx K mg) (F : FunAt K mg "_law_read" st_law_read)  : Cal P w K mg base 1 "_law_read" 1 f_law_read :=
  cal_of (k := 0) (body := b_law_read) F sc_law_read rfl rfl (fun _ _ _ _ _ _ us hl => match us, hl with | [_], _ => rfl) fun f cdv A outer s H E hr =>
    have S := sc_law_read
    (ss_cons (s_set (i := 1) S.nd rfl (Or.inl rfl) (x_fz (l_split (x_var 0) x_str)))
    (ss_cons (s_if (PW.pt (w_or (t_ne hr.units (x_len T.z_len (a_cons (x_var 1) a_nil)) x_int) (w_or1 (t_ne hr.units (x_fz (l_comp rfl S.nd (i_str (x_var 0)) (blkOk_by (own := [("_law_sign", 7)]) (by kernel_rfl)) (fun _ _ _ _ _ => (g_nm (i := 7) S.nd rfl (by first | exact Or.inl rfl | exact Or.inr rfl))) (fun _ _ _ _ _ => (ts_one (t_notIn hr.units (x_var 7) x_str))) (fun _ _ _ _ _ => (x_var 7)))) (x_fz (l_lst a_nil))))))
    (ss_one (s_ret x_non))
    ss_nil)
    (ss_cons (s_own (i := 2) S.nd rfl (Or.inl rfl) (l_lst a_nil))
    (ss_cons (s_for (passes_of rfl) rfl (i_seq (x_var 1)) (g_nm (i := 3) S.nd rfl (Or.inl rfl))
    (ss_cons (s_setLc (i := 4) rfl S.nd rfl rfl (i_str (x_var 3)) (blkOk_by (own := [("_law_sign", 7)]) (by kernel_rfl)) (fun _ _ _ _ _ => (g_nm (i := 7) S.nd rfl (by first | exact Or.inl rfl | exact Or.inr rfl))) (fun _ _ _ _ _ => ts_nil) (fun _ _ _ _ _ => (x_if (t_in hr.units (x_var 7) x_str) (x_var 7) (x_tup (a_cons (x_var 7) (a_cons x_int a_nil))))))
    (ss_cons (s_set (i := 5) S.nd rfl (Or.inl rfl) x_int)
    (ss_cons (s_while (passes_of rfl) (t_lt (x_add (x_var 5) x_int) (x_len T.z_len (a_cons (x_var 4) a_nil)))
    (ss_cons (s_set (i := 6) S.nd rfl (Or.inl rfl) (x_sl (x_var 4) (p_yes (x_var 5)) (p_yes (x_add (x_var 5) x_int))))
    (ss_one (s_if (PW.pt (w_and (t_eq hr.units (x_ix (x_var 6) x_int) x_str) (w_and (t_eq hr.units (x_ix (x_var 6) x_int) x_str) (w_and (t_notIn hr.units x_str (x_sl (x_var 6) (p_yes x_int) (p_yes x_int))) (w_and1 (t_notIn hr.units x_str (x_sl (x_var 6) (p_yes x_int) (p_yes x_int))))))))
    (ss_cons (s_set (i := 4) S.nd rfl (Or.inl rfl) (x_add (x_add (x_sl (x_var 4) p_no (p_yes (x_var 5))) (x_fz (l_lst (a_cons (x_tup (a_cons (x_tup (a_cons (x_ix (x_ix (x_var 6) x_int) x_int) (a_cons (x_ix (x_ix (x_var 6) x_int) x_int) a_nil))) (a_cons (x_add x_int (x_max2 rfl T.z_max (a_cons (x_ix (x_ix (x_var 6) x_int) x_int) (a_cons (x_ix (x_ix (x_var 6) x_int) x_int) a_nil)))) a_nil))) a_nil)))) (x_sl (x_var 4) (p_yes (x_add (x_var 5) x_int)) p_no)))
    (ss_one (s_set (i := 5) S.nd rfl (Or.inl rfl) x_int)))
    (ss_one (s_set (i := 5) S.nd rfl (Or.inl rfl) (x_add (x_var 5) x_int)))))))
    (ss_cons (s_if (PW.pt (w_or (t_ne hr.units (x_len T.z_len (a_cons (x_var 4) a_nil)) x_int) (w_or (t_in hr.units (x_ix (x_var 4) x_int) (x_tup (a_cons x_str (a_cons x_str a_nil)))) (w_or1 (t_gt (x_ix (x_ix (x_var 4) x_int) x_int) x_int)))))
    (ss_one (s_ret x_non))
    ss_nil)
    (ss_one (s_app (pv 2) (x_ix (x_ix (x_var 4) x_int) x_int))))))))
    (ss_one (s_fz 2 (s_ret (x_tuple T.z_tuple (a_cons (x_var 2) a_nil)))))))))
abbrev st_law : Stmt := top 30
theorem sc_law : FnScope ["_law_script", "_law_town", "_law_saying_here", "_law_text_here", "_law_k", "_law_at", "_law_sign", "_law_due"] ["_law_script"] (defScope st_law) := ⟨rfl, rfl, rfl, by decide +kernel, rfl, by decide +kernel, by decide +kernel⟩
theorem ok_law (T : Tx K mg) {f : Addr} {fd : FuncData} (F : Fun K "law" "law" st_law f fd) (c_law_saying : Cal P w K mg base 17 "_law_saying" 2 f_law_saying) (c_law_text : Cal P w K mg base 12 "_law_text" 1 (f_law_text 12)) (c_said : Cal P w K mg base 14 "said" 1 f_said) (c_law_told : Cal P w K mg base 14 "_law_told" 1 f_law_told) (c_law_draw : Cal P w K mg base 3 "_law_draw" 3 f_law_draw) (c_law_pick : Cal P w K mg base 4 "_law_pick" 3 f_law_pick) (c_law_read : Cal P w K mg base 1 "_law_read" 1 f_law_read) : FnOk P w K mg base (L2.CX P w) 18 f fd ["_law_script"] (spLaw K 8 1 b_law) :=
  have S := sc_law
  law_body (k := 17) (N := ["_law_script", "_law_town", "_law_saying_here", "_law_text_here", "_law_k", "_law_at", "_law_sign", "_law_due"]) (i := 1) F sc_law rfl sc_law.nd rfl (fun cdv A outer s H E => ps_mono (ps_set (i := 1) S.nd rfl (Or.inl rfl) (pe_lst pa_nil)) fun _ _ _ h => ⟨by decide, h⟩) fun cdv A outer s H E hr =>
    (ss_cons (s_set (i := 2) S.nd rfl (Or.inl rfl) (x_cal (takes_of rfl rfl rfl rfl) (hr.mono (by decide)) c_law_saying (a_cons (x_var 0) (a_cons (x_var 1) a_nil))))
    (ss_cons (s_set (i := 3) S.nd rfl (Or.inl rfl) (x_add (x_add (x_cal (takes_of rfl rfl rfl rfl) (hr.mono (by decide)) c_law_text (a_cons (x_ix (x_var 2) x_int) a_nil)) x_str) (x_cal (takes_of rfl rfl rfl rfl) (hr.mono (by decide)) c_law_text (a_cons (x_ix (x_var 2) x_int) a_nil))))
    (ss_cons (s_if (PW.pt (w_or (t_ne hr.units (x_cal (takes_of rfl rfl rfl rfl) (hr.mono (by decide)) c_said (a_cons (x_var 2) a_nil)) (x_var 3)) (w_or1 (t_ne hr.units (x_cal (takes_of rfl rfl rfl rfl) (hr.mono (by decide)) c_law_told (a_cons (x_var 3) a_nil)) (x_var 2)))))
    (ss_one (s_ret x_bl))
    ss_nil)
    (ss_cons (s_for (passes_of rfl) rfl (i_range1 T.z_range (a_cons (x_cal (takes_of rfl rfl rfl rfl) (hr.mono (by decide)) c_law_draw (a_cons (x_var 0) (a_cons (x_var 1) (a_cons x_int a_nil)))) a_nil)) (g_nm (i := 4) S.nd rfl (Or.inl rfl))
    (ss_cons (s_set (i := 5) S.nd rfl (Or.inl rfl) (x_cal (takes_of rfl rfl rfl rfl) (hr.mono (by decide)) c_law_draw (a_cons (x_var 0) (a_cons (x_var 1) (a_cons (x_add (x_len T.z_len (a_cons (x_var 3) a_nil)) x_int) a_nil)))))
    (ss_cons (s_set (i := 6) S.nd rfl (Or.inl rfl) (x_cal (takes_of rfl rfl rfl rfl) (hr.mono (by decide)) c_law_pick (a_cons (x_var 0) (a_cons (x_var 1) (a_cons (x_fz (l_lst (a_cons x_str (a_cons x_str (a_cons x_str (a_cons x_str (a_cons x_str (a_cons x_str (a_cons x_str (a_cons x_str (a_cons x_str a_nil))))))))))) a_nil)))))
    (ss_cons (s_set (i := 3) S.nd rfl (Or.inl rfl) (x_add (x_add (x_sl (x_var 3) p_no (p_yes (x_var 5))) (x_var 6)) (x_sl (x_var 3) (p_yes (x_add (x_var 5) (x_cal (takes_of rfl rfl rfl rfl) (hr.mono (by decide)) c_law_draw (a_cons (x_var 0) (a_cons (x_var 1) (a_cons x_int a_nil)))))) p_no)))
    (ss_cons (s_set (i := 7) S.nd rfl (Or.inl rfl) (x_cal (takes_of rfl rfl rfl rfl) (hr.mono (by decide)) c_law_read (a_cons (x_var 3) a_nil)))
    (ss_one (s_if (t_ne hr.units (x_cal (takes_of rfl rfl rfl rfl) (hr.mono (by decide)) c_law_told (a_cons (x_var 3) a_nil)) (x_if (t_isNot (x_var 7) x_non) (x_var 7) (x_tup (a_cons x_str (a_cons x_str a_nil)))))
    (ss_one (s_ret x_bl))
    ss_nil)))))))
    (ss_one (s_ret (x_and (x_eq hr.units (x_cal (takes_of rfl rfl rfl rfl) (hr.mono (by decide)) c_law_told (a_cons x_str a_nil)) (x_tup (a_cons x_str (a_cons x_str a_nil)))) (x_one (x_eq hr.units (x_cal (takes_of rfl rfl rfl rfl) (hr.mono (by decide)) c_law_told (a_cons x_str a_nil)) (x_tup (a_cons x_str (a_cons x_str a_nil))))))))))))
end
end Lk42

end

section
set_option Elab.async false
set_option linter.all false
set_option maxRecDepth 100000
set_option maxHeartbeats 4000000
/-! the end of law_k42_whole_texts -/
namespace Lk42
open PySem PySem.Spec L2 Mi Pg
theorem ranked_mem {c : Str} (h : ranked raised c = true) : c = "BadSaying" ∨ c = "BadText" := by
  unfold ranked raised at h
  simp only [List.any_cons, List.any_nil, Bool.or_false, Bool.or_eq_true, decide_eq_true_eq] at h
  simpa [eq_comm] using h
theorem isx_BadLeading_of {c : Str} {r : Bool} (h : isx_BadLeading c = some r) : ranked raised c = true ∧ r = decide (c = "BadLeading") := by
  unfold isx_BadLeading at h
  split at h
  · rename_i z; exact ⟨z, (Option.some.inj h).symm⟩
  · cases h
theorem isx_BadNumber_of {c : Str} {r : Bool} (h : isx_BadNumber c = some r) : ranked raised c = true ∧ r = decide (c = "BadNumber") := by
  unfold isx_BadNumber at h
  split at h
  · rename_i z; exact ⟨z, (Option.some.inj h).symm⟩
  · cases h
theorem isx_BadParting_of {c : Str} {r : Bool} (h : isx_BadParting c = some r) : ranked raised c = true ∧ r = decide (c = "BadParting") := by
  unfold isx_BadParting at h
  split at h
  · rename_i z; exact ⟨z, (Option.some.inj h).symm⟩
  · cases h
theorem isx_BadSaying_of {c : Str} {r : Bool} (h : isx_BadSaying c = some r) : ranked raised c = true ∧ r = decide (c = "BadSaying") := by
  unfold isx_BadSaying at h
  split at h
  · rename_i z; exact ⟨z, (Option.some.inj h).symm⟩
  · cases h
theorem isx_BadTable_of {c : Str} {r : Bool} (h : isx_BadTable c = some r) : ranked raised c = true ∧ r = decide (c = "BadTable") := by
  unfold isx_BadTable at h
  split at h
  · rename_i z; exact ⟨z, (Option.some.inj h).symm⟩
  · cases h
theorem isx_BadText_of {c : Str} {r : Bool} (h : isx_BadText c = some r) : ranked raised c = true ∧ r = decide (c = "BadText") := by
  unfold isx_BadText at h
  split at h
  · rename_i z; exact ⟨z, (Option.some.inj h).symm⟩
  · cases h
theorem isx_BadThing_of {c : Str} {r : Bool} (h : isx_BadThing c = some r) : ranked raised c = true ∧ r = decide (c = "BadThing") := by
  unfold isx_BadThing at h
  split at h
  · rename_i z; exact ⟨z, (Option.some.inj h).symm⟩
  · cases h
theorem isx_TooGreat_of {c : Str} {r : Bool} (h : isx_TooGreat c = some r) : ranked raised c = true ∧ r = decide (c = "TooGreat") := by
  unfold isx_TooGreat at h
  split at h
  · rename_i z; exact ⟨z, (Option.some.inj h).symm⟩
  · cases h
theorem isx_ValueError_of {c : Str} {r : Bool} (h : isx_ValueError c = some r) : ranked raised c = true ∧ r = true := by
  unfold isx_ValueError at h
  split at h
  · rename_i z; exact ⟨z, (Option.some.inj h).symm⟩
  · cases h
theorem all_mk {P : Program} {w : World} {K : PySem.W.Frag} {h : Heap} {mg : Str → Option Value} {fa : Addr} (X : K.In h) (G : h.Ns mainGlobals mg) (hfa : mg "law" = some (.ref fa))
    {tk_LETTERS : Tok}
    {tk_MOST_DEEP : Tok}
    {C_RuleError : Addr}
    {C_BadTable : Addr}
    {C_BadThing : Addr}
    {C_BadParting : Addr}
    {C_BadSaying : Addr}
    {C_BadLeading : Addr}
    {C_BadNumber : Addr}
    {C_TooGreat : Addr}
    {C_BadText : Addr}
    {f_is_term : Addr} {od_is_term an_is_term : Option Addr} {sl_is_term : Array (Option Value)} {oc_is_term kV_is_term dc_is_term pm_is_term cd_is_term ct_is_term : Value}
    {f_look_saying : Addr} {od_look_saying an_look_saying : Option Addr} {sl_look_saying : Array (Option Value)} {oc_look_saying kV_look_saying dc_look_saying pm_look_saying cd_look_saying ct_look_saying : Value}
    {f_term_text : Addr} {od_term_text an_term_text : Option Addr} {sl_term_text : Array (Option Value)} {oc_term_text kV_term_text dc_term_text pm_term_text cd_term_text ct_term_text : Value}
    {f_said : Addr} {od_said an_said : Option Addr} {sl_said : Array (Option Value)} {oc_said kV_said dc_said pm_said cd_said ct_said : Value}
    {f_term_at : Addr} {od_term_at an_term_at : Option Addr} {sl_term_at : Array (Option Value)} {oc_term_at kV_term_at dc_term_at pm_term_at cd_term_at ct_term_at : Value}
    {f_read : Addr} {od_read an_read : Option Addr} {sl_read : Array (Option Value)} {oc_read kV_read dc_read pm_read cd_read ct_read : Value}
    {f_law_cell : Addr} {od_law_cell an_law_cell : Option Addr} {sl_law_cell : Array (Option Value)} {oc_law_cell kV_law_cell dc_law_cell pm_law_cell cd_law_cell ct_law_cell : Value}
    {f_law_mix : Addr} {od_law_mix an_law_mix : Option Addr} {sl_law_mix : Array (Option Value)} {oc_law_mix kV_law_mix dc_law_mix pm_law_mix cd_law_mix ct_law_mix : Value}
    {f_law_draw : Addr} {od_law_draw an_law_draw : Option Addr} {sl_law_draw : Array (Option Value)} {oc_law_draw kV_law_draw dc_law_draw pm_law_draw cd_law_draw ct_law_draw : Value}
    {f_law_pick : Addr} {od_law_pick an_law_pick : Option Addr} {sl_law_pick : Array (Option Value)} {oc_law_pick kV_law_pick dc_law_pick pm_law_pick cd_law_pick ct_law_pick : Value}
    {f_law_refusal : Addr} {od_law_refusal an_law_refusal : Option Addr} {sl_law_refusal : Array (Option Value)} {oc_law_refusal kV_law_refusal dc_law_refusal pm_law_refusal cd_law_refusal ct_law_refusal : Value}
    {f_law_term : Addr} {od_law_term an_law_term : Option Addr} {sl_law_term : Array (Option Value)} {oc_law_term kV_law_term dc_law_term pm_law_term cd_law_term ct_law_term : Value}
    {f_law_saying : Addr} {od_law_saying an_law_saying : Option Addr} {sl_law_saying : Array (Option Value)} {oc_law_saying kV_law_saying dc_law_saying pm_law_saying cd_law_saying ct_law_saying : Value}
    {f_law_text : Addr} {od_law_text an_law_text : Option Addr} {sl_law_text : Array (Option Value)} {oc_law_text kV_law_text dc_law_text pm_law_text cd_law_text ct_law_text : Value}
    {f_law_told : Addr} {od_law_told an_law_told : Option Addr} {sl_law_told : Array (Option Value)} {oc_law_told kV_law_told dc_law_told pm_law_told cd_law_told ct_law_told : Value}
    {f_law_read : Addr} {od_law_read an_law_read : Option Addr} {sl_law_read : Array (Option Value)} {oc_law_read kV_law_read dc_law_read pm_law_read cd_law_read ct_law_read : Value}
    {f_law : Addr} {od_law an_law : Option Addr} {sl_law : Array (Option Value)} {oc_law kV_law dc_law pm_law cd_law ct_law : Value}
    (z_ValueError : PySem.W.nsIn K mainGlobals "ValueError" = some none)
    (z_all : PySem.W.nsIn K mainGlobals "all" = some none)
    (z_isinstance : PySem.W.nsIn K mainGlobals "isinstance" = some none)
    (z_len : PySem.W.nsIn K mainGlobals "len" = some none)
    (z_list : PySem.W.nsIn K mainGlobals "list" = some none)
    (z_max : PySem.W.nsIn K mainGlobals "max" = some none)
    (z_range : PySem.W.nsIn K mainGlobals "range" = some none)
    (z_str : PySem.W.nsIn K mainGlobals "str" = some none)
    (z_tuple : PySem.W.nsIn K mainGlobals "tuple" = some none)
    (g_LETTERS : PySem.W.nsIn K mainGlobals "LETTERS" = some (some (.str "xyz" tk_LETTERS)))
    (g_MOST_DEEP : PySem.W.nsIn K mainGlobals "MOST_DEEP" = some (some (.int 3 tk_MOST_DEEP)))
    (a_RuleError : PySem.W.nsIn K mainGlobals "RuleError" = some (some (.ref C_RuleError)))
    (m_RuleError : PySem.W.isClsIn K C_RuleError = true)
    (t_RuleError : PySem.W.typeIn K (.ref C_RuleError) = some (.type "type"))
    (b_RuleError : PySem.W.subIn K (.ref C_RuleError) (.type "BaseException") = some true)
    (hd_RuleError : PySem.W.hasDictIn K C_RuleError = true)
    (a_BadTable : PySem.W.nsIn K mainGlobals "BadTable" = some (some (.ref C_BadTable)))
    (m_BadTable : PySem.W.isClsIn K C_BadTable = true)
    (t_BadTable : PySem.W.typeIn K (.ref C_BadTable) = some (.type "type"))
    (a_BadThing : PySem.W.nsIn K mainGlobals "BadThing" = some (some (.ref C_BadThing)))
    (m_BadThing : PySem.W.isClsIn K C_BadThing = true)
    (t_BadThing : PySem.W.typeIn K (.ref C_BadThing) = some (.type "type"))
    (a_BadParting : PySem.W.nsIn K mainGlobals "BadParting" = some (some (.ref C_BadParting)))
    (m_BadParting : PySem.W.isClsIn K C_BadParting = true)
    (t_BadParting : PySem.W.typeIn K (.ref C_BadParting) = some (.type "type"))
    (a_BadSaying : PySem.W.nsIn K mainGlobals "BadSaying" = some (some (.ref C_BadSaying)))
    (m_BadSaying : PySem.W.isClsIn K C_BadSaying = true)
    (t_BadSaying : PySem.W.typeIn K (.ref C_BadSaying) = some (.type "type"))
    (b_BadSaying : PySem.W.subIn K (.ref C_BadSaying) (.type "BaseException") = some true)
    (a_BadLeading : PySem.W.nsIn K mainGlobals "BadLeading" = some (some (.ref C_BadLeading)))
    (m_BadLeading : PySem.W.isClsIn K C_BadLeading = true)
    (t_BadLeading : PySem.W.typeIn K (.ref C_BadLeading) = some (.type "type"))
    (a_BadNumber : PySem.W.nsIn K mainGlobals "BadNumber" = some (some (.ref C_BadNumber)))
    (m_BadNumber : PySem.W.isClsIn K C_BadNumber = true)
    (t_BadNumber : PySem.W.typeIn K (.ref C_BadNumber) = some (.type "type"))
    (a_TooGreat : PySem.W.nsIn K mainGlobals "TooGreat" = some (some (.ref C_TooGreat)))
    (m_TooGreat : PySem.W.isClsIn K C_TooGreat = true)
    (t_TooGreat : PySem.W.typeIn K (.ref C_TooGreat) = some (.type "type"))
    (a_BadText : PySem.W.nsIn K mainGlobals "BadText" = some (some (.ref C_BadText)))
    (m_BadText : PySem.W.isClsIn K C_BadText = true)
    (t_BadText : PySem.W.typeIn K (.ref C_BadText) = some (.type "type"))
    (b_BadText : PySem.W.subIn K (.ref C_BadText) (.type "BaseException") = some true)
    (x_BadSaying : PySem.W.excIn K C_BadSaying [.type "ValueError", .type "Exception", .type "BaseException", .type "object"] "ValueError.__new__" = true)
    (k_BadSaying : PySem.W.keepIn K (.ref C_BadSaying) = true)
    (s_BadSaying : PySem.W.subIn K (.ref C_BadSaying) (.ref C_BadSaying) = some true)
    (hg_BadSaying : PySem.W.findIn K (.ref C_BadSaying) "__getattribute__" = some (some (.builtin "BaseException.__getattribute__")))
    (hk_BadSaying : PySem.W.findIn K (.ref C_BadSaying) "__getattr__" = some none)
    (hd_BadSaying : PySem.W.hasDictIn K C_BadSaying = true)
    (ha_BadSaying : PySem.W.findIn K (.ref C_BadSaying) "__class__" = some (some (.builtin "object.__class__")))
    (hm_BadSaying : PySem.W.mroIn K C_BadSaying (.type "object") = some true)
    (s_BadSaying_BadLeading : PySem.W.subIn K (.ref C_BadSaying) (.ref C_BadLeading) = some false)
    (s_BadSaying_BadNumber : PySem.W.subIn K (.ref C_BadSaying) (.ref C_BadNumber) = some false)
    (s_BadSaying_BadParting : PySem.W.subIn K (.ref C_BadSaying) (.ref C_BadParting) = some false)
    (s_BadSaying_BadTable : PySem.W.subIn K (.ref C_BadSaying) (.ref C_BadTable) = some false)
    (s_BadSaying_BadText : PySem.W.subIn K (.ref C_BadSaying) (.ref C_BadText) = some false)
    (s_BadSaying_BadThing : PySem.W.subIn K (.ref C_BadSaying) (.ref C_BadThing) = some false)
    (s_BadSaying_TooGreat : PySem.W.subIn K (.ref C_BadSaying) (.ref C_TooGreat) = some false)
    (s_BadSaying_ValueError : PySem.W.subIn K (.ref C_BadSaying) (.type "ValueError") = some true)
    (s_BadSaying_RuleError : PySem.W.subIn K (.ref C_BadSaying) (.ref C_RuleError) = some true)
    (x_BadText : PySem.W.excIn K C_BadText [.type "ValueError", .type "Exception", .type "BaseException", .type "object"] "ValueError.__new__" = true)
    (k_BadText : PySem.W.keepIn K (.ref C_BadText) = true)
    (s_BadText : PySem.W.subIn K (.ref C_BadText) (.ref C_BadText) = some true)
    (hg_BadText : PySem.W.findIn K (.ref C_BadText) "__getattribute__" = some (some (.builtin "BaseException.__getattribute__")))
    (hk_BadText : PySem.W.findIn K (.ref C_BadText) "__getattr__" = some none)
    (hd_BadText : PySem.W.hasDictIn K C_BadText = true)
    (ha_BadText : PySem.W.findIn K (.ref C_BadText) "__class__" = some (some (.builtin "object.__class__")))
    (hm_BadText : PySem.W.mroIn K C_BadText (.type "object") = some true)
    (s_BadText_BadLeading : PySem.W.subIn K (.ref C_BadText) (.ref C_BadLeading) = some false)
    (s_BadText_BadNumber : PySem.W.subIn K (.ref C_BadText) (.ref C_BadNumber) = some false)
    (s_BadText_BadParting : PySem.W.subIn K (.ref C_BadText) (.ref C_BadParting) = some false)
    (s_BadText_BadSaying : PySem.W.subIn K (.ref C_BadText) (.ref C_BadSaying) = some false)
    (s_BadText_BadTable : PySem.W.subIn K (.ref C_BadText) (.ref C_BadTable) = some false)
    (s_BadText_BadThing : PySem.W.subIn K (.ref C_BadText) (.ref C_BadThing) = some false)
    (s_BadText_TooGreat : PySem.W.subIn K (.ref C_BadText) (.ref C_TooGreat) = some false)
    (s_BadText_ValueError : PySem.W.subIn K (.ref C_BadText) (.type "ValueError") = some true)
    (s_BadText_RuleError : PySem.W.subIn K (.ref C_BadText) (.ref C_RuleError) = some true)
    (hn : PySem.W.specialIn K (.builtin "object.__class__") "__get__" = some (some (.builtin "getset_descriptor.__get__")))
    (ht : PySem.W.takesIn K (.builtin "object.__class__") = some true)
    (fa_is_term : PySem.W.nsIn K mainGlobals "is_term" = some (some (.ref f_is_term)))
    (fl_is_term : K.lookup f_is_term = some ⟨oc_is_term, od_is_term, .func (PySem.W.fnOf "is_term" "is_term" (defArgs st_is_term) (defBody st_is_term) (defScope st_is_term) .none kV_is_term dc_is_term pm_is_term an_is_term cd_is_term ct_is_term), sl_is_term⟩)
    (fc_is_term : PySem.W.codeIn K cd_is_term "is_term" = true)
    (fk_is_term : PySem.W.keepIn K (.ref f_is_term) = true)
    (fa_look_saying : PySem.W.nsIn K mainGlobals "look_saying" = some (some (.ref f_look_saying)))
    (fl_look_saying : K.lookup f_look_saying = some ⟨oc_look_saying, od_look_saying, .func (PySem.W.fnOf "look_saying" "look_saying" (defArgs st_look_saying) (defBody st_look_saying) (defScope st_look_saying) .none kV_look_saying dc_look_saying pm_look_saying an_look_saying cd_look_saying ct_look_saying), sl_look_saying⟩)
    (fc_look_saying : PySem.W.codeIn K cd_look_saying "look_saying" = true)
    (fk_look_saying : PySem.W.keepIn K (.ref f_look_saying) = true)
    (fa_term_text : PySem.W.nsIn K mainGlobals "term_text" = some (some (.ref f_term_text)))
    (fl_term_text : K.lookup f_term_text = some ⟨oc_term_text, od_term_text, .func (PySem.W.fnOf "term_text" "term_text" (defArgs st_term_text) (defBody st_term_text) (defScope st_term_text) .none kV_term_text dc_term_text pm_term_text an_term_text cd_term_text ct_term_text), sl_term_text⟩)
    (fc_term_text : PySem.W.codeIn K cd_term_text "term_text" = true)
    (fk_term_text : PySem.W.keepIn K (.ref f_term_text) = true)
    (fa_said : PySem.W.nsIn K mainGlobals "said" = some (some (.ref f_said)))
    (fl_said : K.lookup f_said = some ⟨oc_said, od_said, .func (PySem.W.fnOf "said" "said" (defArgs st_said) (defBody st_said) (defScope st_said) .none kV_said dc_said pm_said an_said cd_said ct_said), sl_said⟩)
    (fc_said : PySem.W.codeIn K cd_said "said" = true)
    (fk_said : PySem.W.keepIn K (.ref f_said) = true)
    (fa_term_at : PySem.W.nsIn K mainGlobals "term_at" = some (some (.ref f_term_at)))
    (fl_term_at : K.lookup f_term_at = some ⟨oc_term_at, od_term_at, .func (PySem.W.fnOf "term_at" "term_at" (defArgs st_term_at) (defBody st_term_at) (defScope st_term_at) .none kV_term_at dc_term_at pm_term_at an_term_at cd_term_at ct_term_at), sl_term_at⟩)
    (fc_term_at : PySem.W.codeIn K cd_term_at "term_at" = true)
    (fk_term_at : PySem.W.keepIn K (.ref f_term_at) = true)
    (fa_read : PySem.W.nsIn K mainGlobals "read" = some (some (.ref f_read)))
    (fl_read : K.lookup f_read = some ⟨oc_read, od_read, .func (PySem.W.fnOf "read" "read" (defArgs st_read) (defBody st_read) (defScope st_read) .none kV_read dc_read pm_read an_read cd_read ct_read), sl_read⟩)
    (fc_read : PySem.W.codeIn K cd_read "read" = true)
    (fk_read : PySem.W.keepIn K (.ref f_read) = true)
    (fa_law_cell : PySem.W.nsIn K mainGlobals "_law_cell" = some (some (.ref f_law_cell)))
    (fl_law_cell : K.lookup f_law_cell = some ⟨oc_law_cell, od_law_cell, .func (PySem.W.fnOf "_law_cell" "_law_cell" (defArgs st_law_cell) (defBody st_law_cell) (defScope st_law_cell) .none kV_law_cell dc_law_cell pm_law_cell an_law_cell cd_law_cell ct_law_cell), sl_law_cell⟩)
    (fc_law_cell : PySem.W.codeIn K cd_law_cell "_law_cell" = true)
    (fk_law_cell : PySem.W.keepIn K (.ref f_law_cell) = true)
    (fa_law_mix : PySem.W.nsIn K mainGlobals "_law_mix" = some (some (.ref f_law_mix)))
    (fl_law_mix : K.lookup f_law_mix = some ⟨oc_law_mix, od_law_mix, .func (PySem.W.fnOf "_law_mix" "_law_mix" (defArgs st_law_mix) (defBody st_law_mix) (defScope st_law_mix) .none kV_law_mix dc_law_mix pm_law_mix an_law_mix cd_law_mix ct_law_mix), sl_law_mix⟩)
    (fc_law_mix : PySem.W.codeIn K cd_law_mix "_law_mix" = true)
    (fk_law_mix : PySem.W.keepIn K (.ref f_law_mix) = true)
    (fa_law_draw : PySem.W.nsIn K mainGlobals "_law_draw" = some (some (.ref f_law_draw)))
    (fl_law_draw : K.lookup f_law_draw = some ⟨oc_law_draw, od_law_draw, .func (PySem.W.fnOf "_law_draw" "_law_draw" (defArgs st_law_draw) (defBody st_law_draw) (defScope st_law_draw) .none kV_law_draw dc_law_draw pm_law_draw an_law_draw cd_law_draw ct_law_draw), sl_law_draw⟩)
    (fc_law_draw : PySem.W.codeIn K cd_law_draw "_law_draw" = true)
    (fk_law_draw : PySem.W.keepIn K (.ref f_law_draw) = true)
    (fa_law_pick : PySem.W.nsIn K mainGlobals "_law_pick" = some (some (.ref f_law_pick)))
    (fl_law_pick : K.lookup f_law_pick = some ⟨oc_law_pick, od_law_pick, .func (PySem.W.fnOf "_law_pick" "_law_pick" (defArgs st_law_pick) (defBody st_law_pick) (defScope st_law_pick) .none kV_law_pick dc_law_pick pm_law_pick an_law_pick cd_law_pick ct_law_pick), sl_law_pick⟩)
    (fc_law_pick : PySem.W.codeIn K cd_law_pick "_law_pick" = true)
    (fk_law_pick : PySem.W.keepIn K (.ref f_law_pick) = true)
    (fa_law_refusal : PySem.W.nsIn K mainGlobals "_law_refusal" = some (some (.ref f_law_refusal)))
    (fl_law_refusal : K.lookup f_law_refusal = some ⟨oc_law_refusal, od_law_refusal, .func (PySem.W.fnOf "_law_refusal" "_law_refusal" (defArgs st_law_refusal) (defBody st_law_refusal) (defScope st_law_refusal) .none kV_law_refusal dc_law_refusal pm_law_refusal an_law_refusal cd_law_refusal ct_law_refusal), sl_law_refusal⟩)
    (fc_law_refusal : PySem.W.codeIn K cd_law_refusal "_law_refusal" = true)
    (fk_law_refusal : PySem.W.keepIn K (.ref f_law_refusal) = true)
    (fa_law_term : PySem.W.nsIn K mainGlobals "_law_term" = some (some (.ref f_law_term)))
    (fl_law_term : K.lookup f_law_term = some ⟨oc_law_term, od_law_term, .func (PySem.W.fnOf "_law_term" "_law_term" (defArgs st_law_term) (defBody st_law_term) (defScope st_law_term) .none kV_law_term dc_law_term pm_law_term an_law_term cd_law_term ct_law_term), sl_law_term⟩)
    (fc_law_term : PySem.W.codeIn K cd_law_term "_law_term" = true)
    (fk_law_term : PySem.W.keepIn K (.ref f_law_term) = true)
    (fa_law_saying : PySem.W.nsIn K mainGlobals "_law_saying" = some (some (.ref f_law_saying)))
    (fl_law_saying : K.lookup f_law_saying = some ⟨oc_law_saying, od_law_saying, .func (PySem.W.fnOf "_law_saying" "_law_saying" (defArgs st_law_saying) (defBody st_law_saying) (defScope st_law_saying) .none kV_law_saying dc_law_saying pm_law_saying an_law_saying cd_law_saying ct_law_saying), sl_law_saying⟩)
    (fc_law_saying : PySem.W.codeIn K cd_law_saying "_law_saying" = true)
    (fk_law_saying : PySem.W.keepIn K (.ref f_law_saying) = true)
    (fa_law_text : PySem.W.nsIn K mainGlobals "_law_text" = some (some (.ref f_law_text)))
    (fl_law_text : K.lookup f_law_text = some ⟨oc_law_text, od_law_text, .func (PySem.W.fnOf "_law_text" "_law_text" (defArgs st_law_text) (defBody st_law_text) (defScope st_law_text) .none kV_law_text dc_law_text pm_law_text an_law_text cd_law_text ct_law_text), sl_law_text⟩)
    (fc_law_text : PySem.W.codeIn K cd_law_text "_law_text" = true)
    (fk_law_text : PySem.W.keepIn K (.ref f_law_text) = true)
    (fa_law_told : PySem.W.nsIn K mainGlobals "_law_told" = some (some (.ref f_law_told)))
    (fl_law_told : K.lookup f_law_told = some ⟨oc_law_told, od_law_told, .func (PySem.W.fnOf "_law_told" "_law_told" (defArgs st_law_told) (defBody st_law_told) (defScope st_law_told) .none kV_law_told dc_law_told pm_law_told an_law_told cd_law_told ct_law_told), sl_law_told⟩)
    (fc_law_told : PySem.W.codeIn K cd_law_told "_law_told" = true)
    (fk_law_told : PySem.W.keepIn K (.ref f_law_told) = true)
    (fa_law_read : PySem.W.nsIn K mainGlobals "_law_read" = some (some (.ref f_law_read)))
    (fl_law_read : K.lookup f_law_read = some ⟨oc_law_read, od_law_read, .func (PySem.W.fnOf "_law_read" "_law_read" (defArgs st_law_read) (defBody st_law_read) (defScope st_law_read) .none kV_law_read dc_law_read pm_law_read an_law_read cd_law_read ct_law_read), sl_law_read⟩)
    (fc_law_read : PySem.W.codeIn K cd_law_read "_law_read" = true)
    (fk_law_read : PySem.W.keepIn K (.ref f_law_read) = true)
    (fa_law : PySem.W.nsIn K mainGlobals "law" = some (some (.ref f_law)))
    (fl_law : K.lookup f_law = some ⟨oc_law, od_law, .func (PySem.W.fnOf "law" "law" (defArgs st_law) (defBody st_law) (defScope st_law) .none kV_law dc_law pm_law an_law cd_law ct_law), sl_law⟩)
    (fc_law : PySem.W.codeIn K cd_law "law" = true)
    (fk_law : PySem.W.keepIn K (.ref f_law) = true) :
    ∃ fd : FuncData, (∀ (s : Shared) (u : Value), BindsTo s fd ⟨[u], []⟩ [("_law_script", u)]) ∧ ∀ base : Heap, K.In base → base.Ns mainGlobals mg → FnOk P w K mg base (L2.CX P w) 18 fa fd ["_law_script"] (spLaw K 8 1 b_law) := by
  have e := hfa.symm.trans (PySem.W.mg_of X G fa_law)
  cases e
  have T : Tx K mg := ⟨PySem.W.mg_none_of X G z_ValueError,
    PySem.W.mg_none_of X G z_all,
    PySem.W.mg_none_of X G z_isinstance,
    PySem.W.mg_none_of X G z_len,
    PySem.W.mg_none_of X G z_list,
    PySem.W.mg_none_of X G z_max,
    PySem.W.mg_none_of X G z_range,
    PySem.W.mg_none_of X G z_str,
    PySem.W.mg_none_of X G z_tuple,
    ⟨_, PySem.W.mg_of X G g_LETTERS⟩,
    ⟨_, PySem.W.mg_of X G g_MOST_DEEP⟩,
    ⟨_, PySem.W.mg_of X G a_BadSaying, x_BadSaying, k_BadSaying, b_BadSaying, t_BadSaying⟩,
    ⟨_, PySem.W.mg_of X G a_BadText, x_BadText, k_BadText, b_BadText, t_BadText⟩,
    ⟨_, PySem.W.mg_of X G a_RuleError, fun c hr D hD => by
      rcases ranked_mem hr with rfl | rfl
      · cases hD.symm.trans (PySem.W.mg_of X G a_BadSaying)
        exact PySem.W.exm_ref b_RuleError hd_RuleError t_RuleError s_BadSaying_RuleError
      · cases hD.symm.trans (PySem.W.mg_of X G a_BadText)
        exact PySem.W.exm_ref b_RuleError hd_RuleError t_RuleError s_BadText_RuleError
    ⟩,
    ⟨_, PySem.W.mg_of X G a_BadLeading, fun c r D hr hD => by
      obtain ⟨h1, h2⟩ := isx_BadLeading_of hr
      rcases ranked_mem h1 with rfl | rfl
      · cases hD.symm.trans (PySem.W.mg_of X G a_BadSaying)
        exact ⟨⟨hg_BadSaying, hk_BadSaying, b_BadSaying, hd_BadSaying, ha_BadSaying, hn, ht, hm_BadSaying⟩, by rw [h2]; exact kit_own m_BadLeading t_BadLeading s_BadSaying_BadLeading s_BadSaying⟩
      · cases hD.symm.trans (PySem.W.mg_of X G a_BadText)
        exact ⟨⟨hg_BadText, hk_BadText, b_BadText, hd_BadText, ha_BadText, hn, ht, hm_BadText⟩, by rw [h2]; exact kit_own m_BadLeading t_BadLeading s_BadText_BadLeading s_BadText⟩
    ⟩,
    ⟨_, PySem.W.mg_of X G a_BadNumber, fun c r D hr hD => by
      obtain ⟨h1, h2⟩ := isx_BadNumber_of hr
      rcases ranked_mem h1 with rfl | rfl
      · cases hD.symm.trans (PySem.W.mg_of X G a_BadSaying)
        exact ⟨⟨hg_BadSaying, hk_BadSaying, b_BadSaying, hd_BadSaying, ha_BadSaying, hn, ht, hm_BadSaying⟩, by rw [h2]; exact kit_own m_BadNumber t_BadNumber s_BadSaying_BadNumber s_BadSaying⟩
      · cases hD.symm.trans (PySem.W.mg_of X G a_BadText)
        exact ⟨⟨hg_BadText, hk_BadText, b_BadText, hd_BadText, ha_BadText, hn, ht, hm_BadText⟩, by rw [h2]; exact kit_own m_BadNumber t_BadNumber s_BadText_BadNumber s_BadText⟩
    ⟩,
    ⟨_, PySem.W.mg_of X G a_BadParting, fun c r D hr hD => by
      obtain ⟨h1, h2⟩ := isx_BadParting_of hr
      rcases ranked_mem h1 with rfl | rfl
      · cases hD.symm.trans (PySem.W.mg_of X G a_BadSaying)
        exact ⟨⟨hg_BadSaying, hk_BadSaying, b_BadSaying, hd_BadSaying, ha_BadSaying, hn, ht, hm_BadSaying⟩, by rw [h2]; exact kit_own m_BadParting t_BadParting s_BadSaying_BadParting s_BadSaying⟩
      · cases hD.symm.trans (PySem.W.mg_of X G a_BadText)
        exact ⟨⟨hg_BadText, hk_BadText, b_BadText, hd_BadText, ha_BadText, hn, ht, hm_BadText⟩, by rw [h2]; exact kit_own m_BadParting t_BadParting s_BadText_BadParting s_BadText⟩
    ⟩,
    ⟨_, PySem.W.mg_of X G a_BadSaying, fun c r D hr hD => by
      obtain ⟨h1, h2⟩ := isx_BadSaying_of hr
      rcases ranked_mem h1 with rfl | rfl
      · cases hD.symm.trans (PySem.W.mg_of X G a_BadSaying)
        exact ⟨⟨hg_BadSaying, hk_BadSaying, b_BadSaying, hd_BadSaying, ha_BadSaying, hn, ht, hm_BadSaying⟩, by rw [h2]; exact kit_own m_BadSaying t_BadSaying s_BadSaying s_BadSaying⟩
      · cases hD.symm.trans (PySem.W.mg_of X G a_BadText)
        exact ⟨⟨hg_BadText, hk_BadText, b_BadText, hd_BadText, ha_BadText, hn, ht, hm_BadText⟩, by rw [h2]; exact kit_own m_BadSaying t_BadSaying s_BadText_BadSaying s_BadText⟩
    ⟩,
    ⟨_, PySem.W.mg_of X G a_BadTable, fun c r D hr hD => by
      obtain ⟨h1, h2⟩ := isx_BadTable_of hr
      rcases ranked_mem h1 with rfl | rfl
      · cases hD.symm.trans (PySem.W.mg_of X G a_BadSaying)
        exact ⟨⟨hg_BadSaying, hk_BadSaying, b_BadSaying, hd_BadSaying, ha_BadSaying, hn, ht, hm_BadSaying⟩, by rw [h2]; exact kit_own m_BadTable t_BadTable s_BadSaying_BadTable s_BadSaying⟩
      · cases hD.symm.trans (PySem.W.mg_of X G a_BadText)
        exact ⟨⟨hg_BadText, hk_BadText, b_BadText, hd_BadText, ha_BadText, hn, ht, hm_BadText⟩, by rw [h2]; exact kit_own m_BadTable t_BadTable s_BadText_BadTable s_BadText⟩
    ⟩,
    ⟨_, PySem.W.mg_of X G a_BadText, fun c r D hr hD => by
      obtain ⟨h1, h2⟩ := isx_BadText_of hr
      rcases ranked_mem h1 with rfl | rfl
      · cases hD.symm.trans (PySem.W.mg_of X G a_BadSaying)
        exact ⟨⟨hg_BadSaying, hk_BadSaying, b_BadSaying, hd_BadSaying, ha_BadSaying, hn, ht, hm_BadSaying⟩, by rw [h2]; exact kit_own m_BadText t_BadText s_BadSaying_BadText s_BadSaying⟩
      · cases hD.symm.trans (PySem.W.mg_of X G a_BadText)
        exact ⟨⟨hg_BadText, hk_BadText, b_BadText, hd_BadText, ha_BadText, hn, ht, hm_BadText⟩, by rw [h2]; exact kit_own m_BadText t_BadText s_BadText s_BadText⟩
    ⟩,
    ⟨_, PySem.W.mg_of X G a_BadThing, fun c r D hr hD => by
      obtain ⟨h1, h2⟩ := isx_BadThing_of hr
      rcases ranked_mem h1 with rfl | rfl
      · cases hD.symm.trans (PySem.W.mg_of X G a_BadSaying)
        exact ⟨⟨hg_BadSaying, hk_BadSaying, b_BadSaying, hd_BadSaying, ha_BadSaying, hn, ht, hm_BadSaying⟩, by rw [h2]; exact kit_own m_BadThing t_BadThing s_BadSaying_BadThing s_BadSaying⟩
      · cases hD.symm.trans (PySem.W.mg_of X G a_BadText)
        exact ⟨⟨hg_BadText, hk_BadText, b_BadText, hd_BadText, ha_BadText, hn, ht, hm_BadText⟩, by rw [h2]; exact kit_own m_BadThing t_BadThing s_BadText_BadThing s_BadText⟩
    ⟩,
    ⟨_, PySem.W.mg_of X G a_TooGreat, fun c r D hr hD => by
      obtain ⟨h1, h2⟩ := isx_TooGreat_of hr
      rcases ranked_mem h1 with rfl | rfl
      · cases hD.symm.trans (PySem.W.mg_of X G a_BadSaying)
        exact ⟨⟨hg_BadSaying, hk_BadSaying, b_BadSaying, hd_BadSaying, ha_BadSaying, hn, ht, hm_BadSaying⟩, by rw [h2]; exact kit_own m_TooGreat t_TooGreat s_BadSaying_TooGreat s_BadSaying⟩
      · cases hD.symm.trans (PySem.W.mg_of X G a_BadText)
        exact ⟨⟨hg_BadText, hk_BadText, b_BadText, hd_BadText, ha_BadText, hn, ht, hm_BadText⟩, by rw [h2]; exact kit_own m_TooGreat t_TooGreat s_BadText_TooGreat s_BadText⟩
    ⟩,
    fun c r D hr hD => by
      obtain ⟨h1, h2⟩ := isx_ValueError_of hr
      rcases ranked_mem h1 with rfl | rfl
      · cases hD.symm.trans (PySem.W.mg_of X G a_BadSaying)
        exact ⟨⟨hg_BadSaying, hk_BadSaying, b_BadSaying, hd_BadSaying, ha_BadSaying, hn, ht, hm_BadSaying⟩, by rw [h2]; exact kit_ty (by decide +kernel) s_BadSaying_ValueError⟩
      · cases hD.symm.trans (PySem.W.mg_of X G a_BadText)
        exact ⟨⟨hg_BadText, hk_BadText, b_BadText, hd_BadText, ha_BadText, hn, ht, hm_BadText⟩, by rw [h2]; exact kit_ty (by decide +kernel) s_BadText_ValueError⟩
    ⟩
  refine ⟨PySem.W.fnOf "law" "law" (defArgs st_law) (defBody st_law) (defScope st_law) .none kV_law dc_law pm_law an_law cd_law ct_law, fun s u => .of_eq rfl, fun base _ _ => ?_⟩
  have k_is_term := ok_is_term (P := P) (w := w) (base := base) T (fun_at X G fa_is_term fl_is_term fc_is_term fk_is_term)  12
  have k_look_saying := ok_look_saying (P := P) (w := w) (base := base) T (fun_at X G fa_look_saying fl_look_saying fc_look_saying fk_look_saying) k_is_term
  have k_term_text := ok_term_text (P := P) (w := w) (base := base) T (fun_at X G fa_term_text fl_term_text fc_term_text fk_term_text)  12
  have k_said := ok_said (P := P) (w := w) (base := base) T (fun_at X G fa_said fl_said fc_said fk_said) k_look_saying k_term_text
  have k_term_at := ok_term_at (P := P) (w := w) (base := base) T (fun_at X G fa_term_at fl_term_at fc_term_at fk_term_at)  12
  have k_read := ok_read (P := P) (w := w) (base := base) T (fun_at X G fa_read fl_read fc_read fk_read) k_term_at
  have k_law_cell := ok_law_cell (P := P) (w := w) (base := base) T (fun_at X G fa_law_cell fl_law_cell fc_law_cell fk_law_cell) 
  have k_law_mix := ok_law_mix (P := P) (w := w) (base := base) T (fun_at X G fa_law_mix fl_law_mix fc_law_mix fk_law_mix) k_law_cell
  have k_law_draw := ok_law_draw (P := P) (w := w) (base := base) T (fun_at X G fa_law_draw fl_law_draw fc_law_draw fk_law_draw) k_law_mix
  have k_law_pick := ok_law_pick (P := P) (w := w) (base := base) T (fun_at X G fa_law_pick fl_law_pick fc_law_pick fk_law_pick) k_law_draw
  have k_law_refusal := ok_law_refusal (P := P) (w := w) (base := base) T (fun_at X G fa_law_refusal fl_law_refusal fc_law_refusal fk_law_refusal) 
  have k_law_term := ok_law_term (P := P) (w := w) (base := base) T (fun_at X G fa_law_term fl_law_term fc_law_term fk_law_term) k_law_draw k_law_pick 12
  have k_law_saying := ok_law_saying (P := P) (w := w) (base := base) T (fun_at X G fa_law_saying fl_law_saying fc_law_saying fk_law_saying) k_law_draw k_law_pick k_law_term
  have k_law_text := ok_law_text (P := P) (w := w) (base := base) T (fun_at X G fa_law_text fl_law_text fc_law_text fk_law_text)  12
  have k_law_told := ok_law_told (P := P) (w := w) (base := base) T (fun_at X G fa_law_told fl_law_told fc_law_told fk_law_told) k_read k_law_refusal
  have k_law_read := ok_law_read (P := P) (w := w) (base := base) T (fun_at X G fa_law_read fl_law_read fc_law_read fk_law_read) 
  exact ok_law T (fun_mk fl_law fc_law fk_law) k_law_saying k_law_text k_said k_law_told k_law_draw k_law_pick k_law_read
end Lk42
open PySem PySem.W PyProof.Rows
theorem PySem.Challenge.cw_onerule_k42_whole_texts_holds : PySem.Challenge.rw_onerule_k42_whole_texts.Holds := by
  w_on; o_law; k_head; (case hw => w_witness2)
  k_fill
  refine Mi.walk_end (l := PySem.Challenge.rw_onerule_k42_whole_texts) (k := 18) (L := 8) (i := 1) (body := Lk42.b_law) (sc := "_law_script") rfl rfl ⟨rfl, by decide, by decide⟩ (by decide) (fun w h Y => PySem.W.kIn_of Y) ?F Lk42.law_true
  case F =>
    intro w mg fa h KX G hmg
    refine' Lk42.all_mk KX G hmg ?z_ValueError ?z_all ?z_isinstance ?z_len ?z_list ?z_max ?z_range ?z_str ?z_tuple ?g_LETTERS ?g_MOST_DEEP ?a_RuleError ?m_RuleError ?t_RuleError ?b_RuleError ?hd_RuleError ?a_BadTable ?m_BadTable ?t_BadTable ?a_BadThing ?m_BadThing ?t_BadThing ?a_BadParting ?m_BadParting ?t_BadParting ?a_BadSaying ?m_BadSaying ?t_BadSaying ?b_BadSaying ?a_BadLeading ?m_BadLeading ?t_BadLeading ?a_BadNumber ?m_BadNumber ?t_BadNumber ?a_TooGreat ?m_TooGreat ?t_TooGreat ?a_BadText ?m_BadText ?t_BadText ?b_BadText ?x_BadSaying ?k_BadSaying ?s_BadSaying ?hg_BadSaying ?hk_BadSaying ?hd_BadSaying ?ha_BadSaying ?hm_BadSaying ?s_BadSaying_BadLeading ?s_BadSaying_BadNumber ?s_BadSaying_BadParting ?s_BadSaying_BadTable ?s_BadSaying_BadText ?s_BadSaying_BadThing ?s_BadSaying_TooGreat ?s_BadSaying_ValueError ?s_BadSaying_RuleError ?x_BadText ?k_BadText ?s_BadText ?hg_BadText ?hk_BadText ?hd_BadText ?ha_BadText ?hm_BadText ?s_BadText_BadLeading ?s_BadText_BadNumber ?s_BadText_BadParting ?s_BadText_BadSaying ?s_BadText_BadTable ?s_BadText_BadThing ?s_BadText_TooGreat ?s_BadText_ValueError ?s_BadText_RuleError ?hn ?ht ?fa_is_term ?fl_is_term ?fc_is_term ?fk_is_term ?fa_look_saying ?fl_look_saying ?fc_look_saying ?fk_look_saying ?fa_term_text ?fl_term_text ?fc_term_text ?fk_term_text ?fa_said ?fl_said ?fc_said ?fk_said ?fa_term_at ?fl_term_at ?fc_term_at ?fk_term_at ?fa_read ?fl_read ?fc_read ?fk_read ?fa_law_cell ?fl_law_cell ?fc_law_cell ?fk_law_cell ?fa_law_mix ?fl_law_mix ?fc_law_mix ?fk_law_mix ?fa_law_draw ?fl_law_draw ?fc_law_draw ?fk_law_draw ?fa_law_pick ?fl_law_pick ?fc_law_pick ?fk_law_pick ?fa_law_refusal ?fl_law_refusal ?fc_law_refusal ?fk_law_refusal ?fa_law_term ?fl_law_term ?fc_law_term ?fk_law_term ?fa_law_saying ?fl_law_saying ?fc_law_saying ?fk_law_saying ?fa_law_text ?fl_law_text ?fc_law_text ?fk_law_text ?fa_law_told ?fl_law_told ?fc_law_told ?fk_law_told ?fa_law_read ?fl_law_read ?fc_law_read ?fk_law_read ?fa_law ?fl_law ?fc_law ?fk_law
    (case z_ValueError => k_is)
    (case z_all => k_is)
    (case z_isinstance => k_is)
    (case z_len => k_is)
    (case z_list => k_is)
    (case z_max => k_is)
    (case z_range => k_is)
    (case z_str => k_is)
    (case z_tuple => k_is)
    (case g_LETTERS => k_is)
    (case g_MOST_DEEP => k_is)
    (case a_RuleError => k_is)
    (case m_RuleError => k_is)
    (case t_RuleError => k_is)
    (case b_RuleError => k_is)
    (case hd_RuleError => k_is)
    (case a_BadTable => k_is)
    (case m_BadTable => k_is)
    (case t_BadTable => k_is)
    (case a_BadThing => k_is)
    (case m_BadThing => k_is)
    (case t_BadThing => k_is)
    (case a_BadParting => k_is)
    (case m_BadParting => k_is)
    (case t_BadParting => k_is)
    (case a_BadSaying => k_is)
    (case m_BadSaying => k_is)
    (case t_BadSaying => k_is)
    (case b_BadSaying => k_is)
    (case a_BadLeading => k_is)
    (case m_BadLeading => k_is)
    (case t_BadLeading => k_is)
    (case a_BadNumber => k_is)
    (case m_BadNumber => k_is)
    (case t_BadNumber => k_is)
    (case a_TooGreat => k_is)
    (case m_TooGreat => k_is)
    (case t_TooGreat => k_is)
    (case a_BadText => k_is)
    (case m_BadText => k_is)
    (case t_BadText => k_is)
    (case b_BadText => k_is)
    (case x_BadSaying => k_exc)
    (case k_BadSaying => k_is)
    (case s_BadSaying => first | rfl | k_is)
    (case hg_BadSaying => k_is)
    (case hk_BadSaying => k_is)
    (case hd_BadSaying => k_is)
    (case ha_BadSaying => k_is)
    (case hm_BadSaying => k_is)
    (case s_BadSaying_BadLeading => first | rfl | k_is)
    (case s_BadSaying_BadNumber => first | rfl | k_is)
    (case s_BadSaying_BadParting => first | rfl | k_is)
    (case s_BadSaying_BadTable => first | rfl | k_is)
    (case s_BadSaying_BadText => first | rfl | k_is)
    (case s_BadSaying_BadThing => first | rfl | k_is)
    (case s_BadSaying_TooGreat => first | rfl | k_is)
    (case s_BadSaying_ValueError => k_is)
    (case s_BadSaying_RuleError => first | rfl | k_is)
    (case x_BadText => k_exc)
    (case k_BadText => k_is)
    (case s_BadText => first | rfl | k_is)
    (case hg_BadText => k_is)
    (case hk_BadText => k_is)
    (case hd_BadText => k_is)
    (case ha_BadText => k_is)
    (case hm_BadText => k_is)
    (case s_BadText_BadLeading => first | rfl | k_is)
    (case s_BadText_BadNumber => first | rfl | k_is)
    (case s_BadText_BadParting => first | rfl | k_is)
    (case s_BadText_BadSaying => first | rfl | k_is)
    (case s_BadText_BadTable => first | rfl | k_is)
    (case s_BadText_BadThing => first | rfl | k_is)
    (case s_BadText_TooGreat => first | rfl | k_is)
    (case s_BadText_ValueError => k_is)
    (case s_BadText_RuleError => first | rfl | k_is)
    (case hn => k_is)
    (case ht => k_is)
    (case fa_is_term => k_is)
    (case fl_is_term => k_is)
    (case fc_is_term => k_is)
    (case fk_is_term => k_is)
    (case fa_look_saying => k_is)
    (case fl_look_saying => k_is)
    (case fc_look_saying => k_is)
    (case fk_look_saying => k_is)
    (case fa_term_text => k_is)
    (case fl_term_text => k_is)
    (case fc_term_text => k_is)
    (case fk_term_text => k_is)
    (case fa_said => k_is)
    (case fl_said => k_is)
    (case fc_said => k_is)
    (case fk_said => k_is)
    (case fa_term_at => k_is)
    (case fl_term_at => k_is)
    (case fc_term_at => k_is)
    (case fk_term_at => k_is)
    (case fa_read => k_is)
    (case fl_read => k_is)
    (case fc_read => k_is)
    (case fk_read => k_is)
    (case fa_law_cell => k_is)
    (case fl_law_cell => k_is)
    (case fc_law_cell => k_is)
    (case fk_law_cell => k_is)
    (case fa_law_mix => k_is)
    (case fl_law_mix => k_is)
    (case fc_law_mix => k_is)
    (case fk_law_mix => k_is)
    (case fa_law_draw => k_is)
    (case fl_law_draw => k_is)
    (case fc_law_draw => k_is)
    (case fk_law_draw => k_is)
    (case fa_law_pick => k_is)
    (case fl_law_pick => k_is)
    (case fc_law_pick => k_is)
    (case fk_law_pick => k_is)
    (case fa_law_refusal => k_is)
    (case fl_law_refusal => k_is)
    (case fc_law_refusal => k_is)
    (case fk_law_refusal => k_is)
    (case fa_law_term => k_is)
    (case fl_law_term => k_is)
    (case fc_law_term => k_is)
    (case fk_law_term => k_is)
    (case fa_law_saying => k_is)
    (case fl_law_saying => k_is)
    (case fc_law_saying => k_is)
    (case fk_law_saying => k_is)
    (case fa_law_text => k_is)
    (case fl_law_text => k_is)
    (case fc_law_text => k_is)
    (case fk_law_text => k_is)
    (case fa_law_told => k_is)
    (case fl_law_told => k_is)
    (case fc_law_told => k_is)
    (case fk_law_told => k_is)
    (case fa_law_read => k_is)
    (case fl_law_read => k_is)
    (case fc_law_read => k_is)
    (case fk_law_read => k_is)
    (case fa_law => k_is)
    (case fl_law => k_is)
    (case fc_law => k_is)
    (case fk_law => k_is)

end
