import PyProof.Rows.All
import Wide.All
import OpenK.AllK
import Wide.FinOn
import HandS.ForMost
import HandS.Flow
import HandS.Zip
import HandS.Conv
import HandS.Wide
import HandS.Exc
import HandS.TupAny
import HandS.TupLe
import HandS.Deep
import HandS.More
import HandS.ExcOwn
import HandS.WordsExc
import HandS.Dict
import HandS.Ends
import PySem.Challenge.RW_heldafar_k32_mail_holds
set_option Elab.async false
set_option linter.all false
set_option maxRecDepth 100000
/-! Values, cells, and how they stand for what is tracked. -/
namespace G60
open PySem L2

/-- a value: tuples are values, all that can change is a reference -/
inductive D where
  | non | bl (b : Bool) | int (i : Int) | str (x : Str) | tup (xs : List D) | ref (a : Nat) | scr (ns : List Int)
  deriving Inhabited

mutual
def D.beq : D → D → Bool
  | .non, .non => true
  | .bl a, .bl b => a == b
  | .int a, .int b => a == b
  | .str a, .str b => a == b
  | .tup xs, .tup ys => D.beqs xs ys
  | .ref a, .ref b => a == b
  | .scr a, .scr b => a == b
  | _, _ => false
def D.beqs : List D → List D → Bool
  | [], [] => true
  | x :: xs, y :: ys => D.beq x y && D.beqs xs ys
  | _, _ => false
end
mutual
theorem D.beq_eq : ∀ {a b : D}, D.beq a b = true → a = b
  | .non, b, h => by cases b <;> first | rfl | (simp [D.beq] at h)
  | .bl a, b, h => by cases b <;> first | (simp only [D.beq, beq_iff_eq] at h; rw [h]) | (simp [D.beq] at h)
  | .int a, b, h => by cases b <;> first | (simp only [D.beq, beq_iff_eq] at h; rw [h]) | (simp [D.beq] at h)
  | .str a, b, h => by cases b <;> first | (simp only [D.beq, beq_iff_eq] at h; rw [h]) | (simp [D.beq] at h)
  | .tup xs, .tup ys, h => by simp only [D.beq] at h; rw [D.beqs_eq h]
  | .tup _, .non, h | .tup _, .bl _, h | .tup _, .int _, h | .tup _, .str _, h | .tup _, .ref _, h | .tup _, .scr _, h => by simp [D.beq] at h
  | .ref a, b, h => by cases b <;> first | (simp only [D.beq, beq_iff_eq] at h; rw [h]) | (simp [D.beq] at h)
  | .scr a, b, h => by cases b <;> first | (simp only [D.beq, beq_iff_eq] at h; rw [h]) | (simp [D.beq] at h)
theorem D.beqs_eq : ∀ {xs ys : List D}, D.beqs xs ys = true → xs = ys
  | [], [], _ => rfl
  | x :: xs, y :: ys, h => by
    simp only [D.beqs, Bool.and_eq_true] at h
    rw [D.beq_eq h.1, D.beqs_eq h.2]
  | [], _ :: _, h | _ :: _, [], h => by simp [D.beqs] at h
end
mutual
theorem D.beq_refl : ∀ a : D, D.beq a a = true
  | .non => rfl
  | .bl a => by simp [D.beq]
  | .int a => by simp [D.beq]
  | .str a => by simp [D.beq]
  | .tup xs => by simp only [D.beq]; exact D.beqs_refl xs
  | .ref a => by simp [D.beq]
  | .scr a => by simp [D.beq]
theorem D.beqs_refl : ∀ xs : List D, D.beqs xs xs = true
  | [] => rfl
  | x :: xs => by simp [D.beqs, D.beq_refl x, D.beqs_refl xs]
end
instance : DecidableEq D := fun a b => if h : D.beq a b = true then .isTrue (D.beq_eq h) else .isFalse fun e => h (e ▸ D.beq_refl a)

/-- what stands at a reference -/
inductive Cell where
  /-- a list -/
  | lst (xs : List D)
  /-- a dict; while it is walked -/
  | dct (kvs : List (D × D)) | fd (kvs : List (D × D))
  /-- an instance: its class, its attributes -/
  | ins (C : Nat) (fs : List (Nat × D))
  deriving DecidableEq, Inhabited

abbrev Hm := List Cell

inductive Res (α : Type) where
  | ok (a : α) (h : Hm) | err (c : Nat) (fs : List (Nat × D)) (h : Hm) | bad

abbrev M (α : Type) := Hm → Res α
@[reducible] def M.ret {α : Type} (a : α) : M α := fun h => .ok a h
def M.bind {α β : Type} (m : M α) (f : α → M β) : M β := fun h =>
  match m h with
  | .ok a h' => f a h'
  | .err c fs h' => .err c fs h'
  | .bad => .bad
def M.bad {α : Type} : M α := fun _ => .bad
instance : Monad M where
  pure := M.ret
  bind := M.bind

/-! ### representation -/
/-- the static part: where the classes stand, the attributes' names, which class has which -/
structure Tab where
  cls : List Addr
  att : List Str
  has : Nat → Nat → Bool

section
variable (T : Tab) (K : PySem.W.Frag)
/-- a list that nobody changes -/
def SqF (H : Hp) (a : Addr) (xs : List V) : Prop :=
  (∃ o, H a = some (.frz o (.lst xs))) ∨
    ∃ (o : Obj) (its : Array Value) (n : Nat), K.lookup a = some o ∧ o.cls = .type "list" ∧ o.dict = none ∧ o.data = .seq its n ∧ its.size ≤ sizeLine ∧ Vals xs its.toList
theorem SqF.sq {H : Hp} {a : Addr} {xs : List V} (h : SqF K H a xs) : SqL K H a xs := by
  rcases h with h | h
  · exact .inl (.inr h)
  · exact .inr h
mutual
/-- a value stands for a tracked one; ρ: the addresses of the references -/
inductive Rep (H : Hp) (ρ : List Addr) : D → V → Prop
  | non : Rep H ρ .non .non
  | bl (b : Bool) : Rep H ρ (.bl b) (.bl b)
  | int (i : Int) : Rep H ρ (.int i) (.int i)
  | str (x : Str) : Rep H ρ (.str x) (.str x)
  | tup {xs : List D} {a : Addr} {vs : List V} : H a = some (.tup vs) → Reps H ρ xs vs → Rep H ρ (.tup xs) (.ref a)
  | ref {r : Nat} {a : Addr} : ρ[r]? = some a → Rep H ρ (.ref r) (.ref a)
  | scr {ns : List Int} {a : Addr} : SqF K H a (ns.map V.int) → Rep H ρ (.scr ns) (.ref a)
inductive Reps (H : Hp) (ρ : List Addr) : List D → List V → Prop
  | nil : Reps H ρ [] []
  | cons {x : D} {v : V} {xs : List D} {vs : List V} : Rep H ρ x v → Reps H ρ xs vs → Reps H ρ (x :: xs) (v :: vs)
end
/-- the tracked tuples stay, the frozen lists too -/
structure TK (H H' : Hp) : Prop where
  t : ∀ a xs, H a = some (.tup xs) → H' a = some (.tup xs)
  f : ∀ a xs, SqF K H a xs → SqF K H' a xs
/-- what may be written -/
def NoTup : HO → Prop
  | .tup _ => False
  | .frz _ (.tup _) => False
  | .frz _ (.lst _) => False
  | _ => True
section
variable {K}
theorem TK.refl (H : Hp) : TK K H H := ⟨fun _ _ h => h, fun _ _ h => h⟩
theorem TK.trans {H H1 H2 : Hp} (a : TK K H H1) (b : TK K H1 H2) : TK K H H2 := ⟨fun x xs h => b.t x xs (a.t x xs h), fun x xs h => b.f x xs (a.f x xs h)⟩
theorem TK.of_ne {H : Hp} {p : Addr} {o : HO} (hp : ∀ u, H p = some u → NoTup u) : TK K H (upd H p o) := by
  have ne : ∀ {a : Addr} {u : HO}, H a = some u → ¬ NoTup u → a ≠ p := fun {a u} h n e => n (hp u (e ▸ h))
  refine ⟨fun a xs h => ?_, fun a xs h => ?_⟩
  · rw [upd_ne (ne h fun z => z)]; exact h
  · rcases h with ⟨u, h⟩ | h
    · exact .inl ⟨u, by rw [upd_ne (ne h fun z => z)]; exact h⟩
    · exact .inr h
theorem TK.of_new {H : Hp} {p : Addr} {o : HO} (hp : H p = none) : TK K H (upd H p o) := TK.of_ne fun u h => by rw [hp] at h; cases h
theorem TK.of_set {H : Hp} {p : Addr} {o u : HO} (hp : H p = some u) (hn : NoTup u) : TK K H (upd H p o) := TK.of_ne fun w h => by rw [hp] at h; cases h; exact hn
mutual
theorem Rep.mono {H H' : Hp} {ρ ρ' : List Addr} (t : TK K H H') (e : ρ <+: ρ') : ∀ {d : D} {v : V}, Rep K H ρ d v → Rep K H' ρ' d v
  | _, _, .non => .non
  | _, _, .bl b => .bl b
  | _, _, .int i => .int i
  | _, _, .str x => .str x
  | _, _, .tup h hs => .tup (t.t _ _ h) (Reps.mono t e hs)
  | _, _, .scr h => .scr (t.f _ _ h)
  | _, _, .ref h => .ref (by
    obtain ⟨s, rfl⟩ := e
    rw [List.getElem?_append_left (List.getElem?_eq_some_iff.mp h).1]
    exact h)
theorem Reps.mono {H H' : Hp} {ρ ρ' : List Addr} (t : TK K H H') (e : ρ <+: ρ') : ∀ {xs : List D} {vs : List V}, Reps K H ρ xs vs → Reps K H' ρ' xs vs
  | _, _, .nil => .nil
  | _, _, .cons h hs => .cons (Rep.mono t e h) (Reps.mono t e hs)
end
section
variable {H H' : Hp} {ρ ρ' : List Addr}
theorem Reps.length : ∀ {xs : List D} {vs : List V}, Reps K H ρ xs vs → xs.length = vs.length
  | _, _, .nil => rfl
  | _, _, .cons _ t => by rw [List.length_cons, List.length_cons, Reps.length t]
theorem Reps.get : ∀ {xs : List D} {vs : List V} {i : Nat} {x : D}, Reps K H ρ xs vs → xs[i]? = some x → ∃ v, vs[i]? = some v ∧ Rep K H ρ x v
  | _, _, _, _, .nil, e => by simp at e
  | _, _, 0, _, .cons r _, e => by simp at e; subst e; exact ⟨_, rfl, r⟩
  | _, _, i + 1, x, .cons _ t, e => by
    obtain ⟨u, h1, h2⟩ := Reps.get (i := i) (x := x) t (by simpa using e)
    exact ⟨u, by simpa using h1, h2⟩
theorem Reps.getV : ∀ {xs : List D} {vs : List V} {i : Nat} {v : V}, Reps K H ρ xs vs → vs[i]? = some v → ∃ x, xs[i]? = some x ∧ Rep K H ρ x v
  | _, _, _, _, .nil, e => by simp at e
  | _, _, 0, _, .cons r _, e => by simp at e; subst e; exact ⟨_, rfl, r⟩
  | _, _, i + 1, x, .cons _ t, e => by
    obtain ⟨u, h1, h2⟩ := Reps.getV (i := i) (v := x) t (by simpa using e)
    exact ⟨u, by simpa using h1, h2⟩
theorem Reps.set {x : D} {u : V} (r : Rep K H ρ x u) : ∀ {xs : List D} {us : List V} (i : Nat), Reps K H ρ xs us → Reps K H ρ (xs.set i x) (us.set i u)
  | _, _, _, .nil => .nil
  | _, _, 0, .cons _ t => .cons r t
  | _, _, i + 1, .cons q t => .cons q (Reps.set r i t)
theorem Reps.append : ∀ {xs ys : List D} {us ws : List V}, Reps K H ρ xs us → Reps K H ρ ys ws → Reps K H ρ (xs ++ ys) (us ++ ws)
  | _, _, _, _, .nil, s => s
  | _, _, _, _, .cons r t, s => .cons r (Reps.append t s)
theorem Reps.take : ∀ {xs : List D} {us : List V} (n : Nat), Reps K H ρ xs us → Reps K H ρ (xs.take n) (us.take n)
  | _, _, 0, _ => .nil
  | _, _, _ + 1, .nil => .nil
  | _, _, n + 1, .cons r t => .cons r (Reps.take n t)
theorem Reps.drop : ∀ {xs : List D} {us : List V} (n : Nat), Reps K H ρ xs us → Reps K H ρ (xs.drop n) (us.drop n)
  | _, _, 0, r => r
  | _, _, _ + 1, .nil => .nil
  | _, _, n + 1, .cons _ t => Reps.drop n t
theorem Reps.eraseIdx : ∀ {xs : List D} {us : List V} (i : Nat), Reps K H ρ xs us → Reps K H ρ (xs.eraseIdx i) (us.eraseIdx i)
  | _, _, _, .nil => .nil
  | _, _, 0, .cons _ t => t
  | _, _, i + 1, .cons q t => .cons q (Reps.eraseIdx i t)
theorem Reps.dropLast {xs : List D} {us : List V} (h : Reps K H ρ xs us) : Reps K H ρ xs.dropLast us.dropLast := by
  rw [List.dropLast_eq_take, List.dropLast_eq_take, h.length]
  exact h.take _
theorem Reps.reverse : ∀ {xs : List D} {us : List V}, Reps K H ρ xs us → Reps K H ρ xs.reverse us.reverse
  | _, _, .nil => .nil
  | _, _, .cons r t => by
    rw [List.reverse_cons, List.reverse_cons]
    exact (Reps.reverse t).append (.cons r .nil)
theorem Reps.rep {xs : List D} {us : List V} (h : Reps K H ρ xs us) : ∀ n : Nat, Reps K H ρ (List.replicate n xs).flatten (List.replicate n us).flatten
  | 0 => .nil
  | n + 1 => by
    rw [List.replicate_succ, List.replicate_succ, List.flatten_cons, List.flatten_cons]
    exact h.append (Reps.rep h n)
theorem reps_ints : ∀ ns : List Int, Reps K H ρ (ns.map D.int) (ns.map V.int)
  | [] => .nil
  | n :: ns => .cons (.int n) (reps_ints ns)
end
end
end
end G60

/-! Cells at addresses, a whole heap, what stands behind a run. -/
namespace G60
open PySem L2

def keyD : D → Option Key
  | .int i => some (.inl i)
  | .str x => some (.inr x)
  | _ => none
def keysD : List D → Option (List Key)
  | [] => some []
  | x :: xs => match keyD x, keysD xs with
    | some k, some ks => some (k :: ks)
    | _, _ => none
def tkeyD : D → Option (List Key)
  | .tup xs => keysD xs
  | _ => none

section
variable (T : Tab) (K : PySem.W.Frag) (H : Hp) (ρ : List Addr)
def KRep : List (D × D) → List (Key × V) → Prop := Paired fun p q => keyD p.1 = some q.1 ∧ Rep K H ρ p.2 q.2
def TRep : List (D × D) → List (List Key × V) → Prop := Paired fun p q => tkeyD p.1 = some q.1 ∧ Rep K H ρ p.2 q.2
def DictRep (o : HO) (kvs : List (D × D)) : Prop := (∃ ks, o = .dK ks ∧ KRep K H ρ kvs ks) ∨ ∃ ks, o = .dT ks ∧ TRep K H ρ kvs ks
def FRep (C : Nat) : List (Nat × D) → List (Str × V) → Prop := Paired fun p q => T.att[p.1]? = some q.1 ∧ T.has C p.1 = true ∧ Rep K H ρ p.2 q.2
def CellRep : Cell → Addr → Prop
  | .lst xs, a => ∃ vs, H a = some (.lst vs) ∧ Reps K H ρ xs vs
  | .dct kvs, a => ∃ o, H a = some o ∧ DictRep K H ρ o kvs
  | .fd kvs, a => ∃ ob o, H a = some (.frz ob o) ∧ DictRep K H ρ o kvs
  | .ins C fs, a => ∃ Ca dx vs, T.cls[C]? = some Ca ∧ H a = some (.ins Ca dx vs) ∧ FRep T K H ρ C fs vs
end

theorem Paired.mapMem {α β : Type} {F G : α → β → Prop} : ∀ {l₁ : List α} {l₂ : List β}, Paired F l₁ l₂ → (∀ a b, a ∈ l₁ → b ∈ l₂ → F a b → G a b) → Paired G l₁ l₂
  | _, _, .nil, _ => .nil
  | _, _, .cons r t, f => .cons (f _ _ List.mem_cons_self List.mem_cons_self r) (Paired.mapMem t fun a b ha hb => f a b (List.mem_cons_of_mem _ ha) (List.mem_cons_of_mem _ hb))

section
variable {T : Tab} {K : PySem.W.Frag} {H H' : Hp} {ρ ρ' : List Addr}
theorem KRep.mono (t : TK K H H') (e : ρ <+: ρ') {kvs ks} (r : KRep K H ρ kvs ks) : KRep K H' ρ' kvs ks := Paired.mapP r fun _ _ x => ⟨x.1, x.2.mono t e⟩
theorem TRep.mono (t : TK K H H') (e : ρ <+: ρ') {kvs ks} (r : TRep K H ρ kvs ks) : TRep K H' ρ' kvs ks := Paired.mapP r fun _ _ x => ⟨x.1, x.2.mono t e⟩
theorem DictRep.mono (t : TK K H H') (e : ρ <+: ρ') {o kvs} (r : DictRep K H ρ o kvs) : DictRep K H' ρ' o kvs := by
  rcases r with ⟨ks, h, r⟩ | ⟨ks, h, r⟩
  · exact .inl ⟨ks, h, r.mono t e⟩
  · exact .inr ⟨ks, h, r.mono t e⟩
theorem FRep.mono (t : TK K H H') (e : ρ <+: ρ') {C fs vs} (r : FRep T K H ρ C fs vs) : FRep T K H' ρ' C fs vs := Paired.mapP r fun _ _ x => ⟨x.1, x.2.1, x.2.2.mono t e⟩
theorem CellRep.mono (t : TK K H H') (e : ρ <+: ρ') {c : Cell} {a : Addr} (k : H' a = H a) (r : CellRep T K H ρ c a) : CellRep T K H' ρ' c a := by
  cases c with
  | lst xs => obtain ⟨vs, h, r⟩ := r; exact ⟨vs, k.trans h, r.mono t e⟩
  | dct kvs => obtain ⟨o, h, r⟩ := r; exact ⟨o, k.trans h, r.mono t e⟩
  | fd kvs => obtain ⟨ob, o, h, r⟩ := r; exact ⟨ob, o, k.trans h, r.mono t e⟩
  | ins C fs => obtain ⟨Ca, dx, vs, hc, h, r⟩ := r; exact ⟨Ca, dx, vs, hc, k.trans h, r.mono t e⟩
/-- what a cell's address holds is tracked, and no tuple -/
theorem CellRep.there {c : Cell} {a : Addr} (r : CellRep T K H ρ c a) : ∃ o, H a = some o ∧ NoTup o := by
  cases c with
  | lst xs => obtain ⟨vs, h, r⟩ := r; exact ⟨_, h, trivial⟩
  | dct kvs => obtain ⟨o, h, r⟩ := r; rcases r with ⟨ks, rfl, _⟩ | ⟨ks, rfl, _⟩ <;> exact ⟨_, h, trivial⟩
  | fd kvs => obtain ⟨ob, o, h, r⟩ := r; rcases r with ⟨ks, rfl, _⟩ | ⟨ks, rfl, _⟩ <;> exact ⟨_, h, trivial⟩
  | ins C fs => obtain ⟨Ca, dx, vs, hc, h, r⟩ := r; exact ⟨_, h, trivial⟩
end

/-- the heap stands for what is tracked -/
structure Sim (T : Tab) (K : PySem.W.Frag) (ρ : List Addr) (h : Hm) (H : Hp) : Prop where
  len : ρ.length = h.length
  nd : ρ.Nodup
  cell : ∀ (r : Nat) (c : Cell) (a : Addr), h[r]? = some c → ρ[r]? = some a → CellRep T K H ρ c a
/-- later -/
structure Ext (K : PySem.W.Frag) (ρ : List Addr) (H : Hp) (ρ' : List Addr) (H' : Hp) : Prop where
  pre : ρ <+: ρ'
  tk : TK K H H'

section
variable {T : Tab} {K : PySem.W.Frag} {H H' H1 H2 : Hp} {ρ ρ' ρ1 ρ2 : List Addr} {h h' : Hm}
theorem Ext.refl : Ext K ρ H ρ H := ⟨List.prefix_rfl, TK.refl H⟩
theorem Ext.trans (a : Ext K ρ H ρ1 H1) (b : Ext K ρ1 H1 ρ2 H2) : Ext K ρ H ρ2 H2 := ⟨a.pre.trans b.pre, a.tk.trans b.tk⟩
theorem Ext.rep (e : Ext K ρ H ρ' H') {d : D} {v : V} (r : Rep K H ρ d v) : Rep K H' ρ' d v := r.mono e.tk e.pre
theorem Ext.reps (e : Ext K ρ H ρ' H') {d : List D} {v : List V} (r : Reps K H ρ d v) : Reps K H' ρ' d v := r.mono e.tk e.pre
theorem Sim.at (S : Sim T K ρ h H) {r : Nat} {c : Cell} (e : h[r]? = some c) : ∃ a, ρ[r]? = some a ∧ CellRep T K H ρ c a := by
  have hl : r < ρ.length := by rw [S.len]; exact (List.getElem?_eq_some_iff.mp e).1
  exact ⟨ρ[r], List.getElem?_eq_getElem hl, S.cell r c _ e (List.getElem?_eq_getElem hl)⟩
theorem Sim.atA (S : Sim T K ρ h H) {r : Nat} {c : Cell} {a : Addr} (e : h[r]? = some c) (ea : ρ[r]? = some a) : CellRep T K H ρ c a := S.cell r c a e ea
theorem Sim.new {p : Addr} {o : HO} {c : Cell} (S : Sim T K ρ h H) (hp : H p = none) (hc : CellRep T K (upd H p o) (ρ ++ [p]) c p) : Sim T K (ρ ++ [p]) (h ++ [c]) (upd H p o) where
  len := by rw [List.length_append, List.length_append, S.len]; rfl
  nd := by
    rw [List.nodup_append]
    refine ⟨S.nd, by simp, fun a ha b hb => ?_⟩
    rintro rfl
    have e : a = p := by simpa using hb
    subst e
    obtain ⟨r, hr, e⟩ := List.mem_iff_getElem.mp ha
    have hl : r < h.length := by rw [← S.len]; exact hr
    obtain ⟨u, hu, _⟩ := (S.cell r _ a (List.getElem?_eq_getElem hl) (by rw [List.getElem?_eq_getElem hr, e])).there
    rw [hp] at hu; cases hu
  cell := fun r c' a e ea => by
    by_cases hr : r < h.length
    · rw [List.getElem?_append_left hr] at e
      have hr' : r < ρ.length := by rw [S.len]; exact hr
      rw [List.getElem?_append_left hr'] at ea
      have R := S.cell r c' a e ea
      obtain ⟨u, hu, _⟩ := R.there
      exact R.mono (TK.of_new hp) (List.prefix_append _ _) (upd_ne (ne_of_none hu hp))
    · have hl1 : r < (h ++ [c]).length := (List.getElem?_eq_some_iff.mp e).1
      have hr1 : r = h.length := by rw [List.length_append, List.length_singleton] at hl1; omega
      subst hr1
      rw [List.getElem?_append_right (Nat.le_refl _)] at e
      simp at e
      subst e
      rw [← S.len, List.getElem?_append_right (Nat.le_refl _)] at ea
      simp at ea
      subst ea
      exact hc
theorem Ext.new {p : Addr} {o : HO} (hp : H p = none) : Ext K ρ H (ρ ++ [p]) (upd H p o) := ⟨List.prefix_append _ _, TK.of_new hp⟩
theorem Ext.tup {p : Addr} {o : HO} (hp : H p = none) : Ext K ρ H ρ (upd H p o) := ⟨List.prefix_rfl, TK.of_new hp⟩
/-- a new tuple -/
theorem Sim.tup {p : Addr} {o : HO} (S : Sim T K ρ h H) (hp : H p = none) : Sim T K ρ h (upd H p o) where
  len := S.len
  nd := S.nd
  cell := fun r c a e ea => by
    have R := S.cell r c a e ea
    obtain ⟨u, hu, _⟩ := R.there
    exact R.mono (TK.of_new hp) List.prefix_rfl (upd_ne (ne_of_none hu hp))
theorem Sim.set {r : Nat} {a : Addr} {o u : HO} {c c0 : Cell} (S : Sim T K ρ h H) (er : h[r]? = some c0) (ea : ρ[r]? = some a) (hu : H a = some u) (hn : NoTup u) (hc : CellRep T K (upd H a o) ρ c a) : Sim T K ρ (h.set r c) (upd H a o) where
  len := by rw [List.length_set]; exact S.len
  nd := S.nd
  cell := fun r' c' a' e ea' => by
    by_cases hr : r = r'
    · subst hr
      have hl := (List.getElem?_eq_some_iff.mp er).1
      rw [List.getElem?_set_self hl] at e
      cases e
      rw [ea] at ea'; cases ea'
      exact hc
    · rw [List.getElem?_set_ne hr] at e
      have ne : a' ≠ a := by
        rintro rfl
        obtain ⟨h1, e1⟩ := List.getElem?_eq_some_iff.mp ea
        obtain ⟨h2, e2⟩ := List.getElem?_eq_some_iff.mp ea'
        exact hr ((List.getElem_inj S.nd).mp (e1.trans e2.symm))
      exact (S.cell r' c' a' e ea').mono (TK.of_set hu hn) List.prefix_rfl (upd_ne ne)
theorem Ext.set {a : Addr} {o u : HO} (hu : H a = some u) (hn : NoTup u) : Ext K ρ H ρ (upd H a o) := ⟨List.prefix_rfl, TK.of_set hu hn⟩
end

/-! ### the names -/
abbrev Ev := List (Option D)
def EnvRep (K : PySem.W.Frag) (H : Hp) (ρ : List Addr) : Ev → St → Prop := Paired fun o s => ∀ d, o = some d → ∃ v, s = some v ∧ Rep K H ρ d v
section
variable {T : Tab} {K : PySem.W.Frag} {H H' H1 H2 : Hp} {ρ ρ' ρ1 ρ2 : List Addr} {h h' : Hm} {env : Ev} {σ : St}
theorem EnvRep.mono (e : Ext K ρ H ρ' H') (r : EnvRep K H ρ env σ) : EnvRep K H' ρ' env σ := Paired.mapP r fun _ _ x d hd => let ⟨v, a, b⟩ := x d hd; ⟨v, a, e.rep b⟩
theorem EnvRep.get : ∀ {env : Ev} {σ : St} {i : Nat} {d : D}, EnvRep K H ρ env σ → env[i]? = some (some d) → ∃ v, σ[i]? = some (some v) ∧ Rep K H ρ d v
  | _, _, _, _, .nil, e => by simp at e
  | _, _, 0, d, .cons r _, e => by
    simp at e
    obtain ⟨v, h1, h2⟩ := r d e
    exact ⟨v, by simp [h1], h2⟩
  | _, _, i + 1, d, .cons _ t, e => by
    obtain ⟨v, h1, h2⟩ := EnvRep.get (i := i) (d := d) t (by simpa using e)
    exact ⟨v, by simpa using h1, h2⟩
theorem EnvRep.set {d : D} {v : V} (r : Rep K H ρ d v) : ∀ {env : Ev} {σ : St} (i : Nat), EnvRep K H ρ env σ → EnvRep K H ρ (env.set i (some d)) (σ.set i (some v))
  | _, _, _, .nil => .nil
  | _, _, 0, .cons _ t => .cons (fun d' e => ⟨v, rfl, by cases e; exact r⟩) t
  | _, _, i + 1, .cons q t => .cons q (EnvRep.set r i t)
theorem EnvRep.setN : ∀ {env : Ev} {σ : St} (i : Nat) (o : Option V), EnvRep K H ρ env σ → EnvRep K H ρ (env.set i none) (σ.set i o)
  | _, _, _, _, .nil => .nil
  | _, _, 0, _, .cons _ t => .cons (fun d' e => by cases e) t
  | _, _, i + 1, o, .cons q t => .cons q (EnvRep.setN i o t)
theorem EnvRep.length (r : EnvRep K H ρ env σ) : env.length = σ.length := Paired.length r
end

/-! ### behind a run -/
/-- how an exception lies -/
def ExcRep (T : Tab) (K : PySem.W.Frag) (H : Hp) (ρ : List Addr) (c : Nat) (fs : List (Nat × D)) (cls : Value) (d : Option Addr) : Prop :=
  ∃ Ca, T.cls[c]? = some Ca ∧ cls = .ref Ca ∧ match d with
    | none => fs = []
    | some da => ∃ vs, H da = some (.xd vs) ∧ FRep T K H ρ c fs vs
def After (T : Tab) (K : PySem.W.Frag) {α : Type} (ρ : List Addr) (H : Hp) (r : Res α) (P : α → Hm → List Addr → Hp → Prop) (E : XK) : Prop :=
  match r with
  | .ok a h' => ∀ ρ' H', Ext K ρ H ρ' H' → Sim T K ρ' h' H' → P a h' ρ' H'
  | .err c fs h' => ∀ ρ' H' cls d, Ext K ρ H ρ' H' → Sim T K ρ' h' H' → ExcRep T K H' ρ' c fs cls d → E cls d H'
  | .bad => False
section
variable {T : Tab} {K : PySem.W.Frag} {H H' H1 H2 : Hp} {ρ ρ' ρ1 ρ2 : List Addr} {h h' : Hm} {α β : Type} {P P' : α → Hm → List Addr → Hp → Prop} {Pb : β → Hm → List Addr → Hp → Prop} {E E' : XK} {r : Res α}
theorem After.imp (a : After T K ρ H r P E) (hp : ∀ x h' ρ' H', Ext K ρ H ρ' H' → Sim T K ρ' h' H' → P x h' ρ' H' → P' x h' ρ' H') (he : ∀ c d H', E c d H' → E' c d H') : After T K ρ H r P' E' := by
  cases r with
  | ok x h' => exact fun ρ' H' e s => hp _ _ _ _ e s (a ρ' H' e s)
  | err c fs h' => exact fun ρ' H' cls d e s x => he _ _ _ (a ρ' H' cls d e s x)
  | bad => exact a
theorem After.bind {m : M α} {f : α → M β} (a : After T K ρ H (M.bind m f h) Pb E) :
    After T K ρ H (m h) (fun x h1 ρ1 H1 => After T K ρ1 H1 (f x h1) Pb E) E := by
  unfold M.bind at a
  cases hm : m h with
  | ok x h1 =>
    rw [hm] at a
    intro ρ1 H1 e1 s1
    have a : After T K ρ H (f x h1) Pb E := a
    cases hf : f x h1 with
    | ok y h2 => rw [hf] at a; exact fun ρ2 H2 e2 s2 => a ρ2 H2 (e1.trans e2) s2
    | err c fs h2 => rw [hf] at a; exact fun ρ2 H2 cls d e2 s2 x2 => a ρ2 H2 cls d (e1.trans e2) s2 x2
    | bad => rw [hf] at a; exact a
  | err c fs h1 => rw [hm] at a; exact a
  | bad => rw [hm] at a; exact a
/-- from an earlier state -/
theorem After.ext (e : Ext K ρ H ρ1 H1) (a : After T K ρ H r P E) : After T K ρ1 H1 r P E := by
  cases r with
  | ok x h' => exact fun ρ' H' e' s => a ρ' H' (e.trans e') s
  | err c fs h' => exact fun ρ' H' cls d e' s x => a ρ' H' cls d (e.trans e') s x
  | bad => exact a
end
/-- the value is handed to Q -/
abbrev PV (K : PySem.W.Frag) (Q : VK) : D → Hm → List Addr → Hp → Prop := fun d _ ρ' H' => ∀ v, Rep K H' ρ' d v → Q v H'
abbrev PVs (K : PySem.W.Frag) (Q : List V → Hp → Prop) : List D → Hm → List Addr → Hp → Prop := fun d _ ρ' H' => ∀ v, Reps K H' ρ' d v → Q v H'
abbrev PB (Q : Bool → Hp → Prop) : Bool → Hm → List Addr → Hp → Prop := fun b _ _ H' => Q b H'

/-- an expression's reading by what it computes -/
def tE (T : Tab) (K : PySem.W.Frag) (W : WX) (m : Ev → M D) : TE := fun σ H Q => ∃ ρ env h, EnvRep K H ρ env σ ∧ Sim T K ρ h H ∧ After T K ρ H (m env h) (PV K Q) fun c d H' => W c d σ H'
def tEs (T : Tab) (K : PySem.W.Frag) (W : WX) (m : Ev → M (List D)) : TA := fun σ H Q => ∃ ρ env h, EnvRep K H ρ env σ ∧ Sim T K ρ h H ∧ After T K ρ H (m env h) (PVs K Q) fun c d H' => W c d σ H'
def tT (T : Tab) (K : PySem.W.Frag) (W : WX) (m : Ev → M Bool) : TT := fun σ H Q => ∃ ρ env h, EnvRep K H ρ env σ ∧ Sim T K ρ h H ∧ After T K ρ H (m env h) (PB Q) fun c d H' => W c d σ H'
end G60

/-! What a program computes: expressions, statements, over values and cells. -/
namespace G60
open PySem L2

/-! ### small steps on the heap -/
def M.alloc (c : Cell) : M D := fun h => .ok (.ref h.length) (h ++ [c])
def M.put (r : Nat) (c : Cell) : M Unit := fun h => .ok () (h.set r c)
def M.cell (r : Nat) : M Cell := fun h => match h[r]? with
  | some c => .ok c h
  | none => .bad
def M.test (b : Bool) : M Unit := fun h => if b = true then .ok () h else .bad
def M.opt {α : Type} (o : Option α) : M α := fun h => match o with
  | some a => .ok a h
  | none => .bad

/-! ### data as a whole -/
def mapO {α β : Type} (f : α → Option β) : List α → Option (List β)
  | [] => some []
  | x :: xs => match f x, mapO f xs with
    | some y, some ys => some (y :: ys)
    | _, _ => none
/-- what a value is, lists gone into, to a depth -/
def toPy : Nat → Hm → D → Option PyData
  | 0, _, _ => none
  | n + 1, h, d => match d with
    | .non => some .none
    | .bl b => some (.bool b)
    | .int i => some (.int i)
    | .str x => if (PyData.str x).canLay0 = true then some (.str x) else none
    | .tup xs => (mapO (toPy n h) xs).map .tuple
    | .ref r => match h[r]? with
      | some (.lst xs) => (mapO (toPy n h) xs).map .list
      | _ => none
    | .scr ns => if n = 0 then none else some (.list (ns.map .int))
abbrev DEEP : Nat := 60
def eqD (x y : D) : M Bool := fun h => match toPy DEEP h x, toPy DEEP h y with
  | some a, some b => .ok (PyData.eqv a b) h
  | _, _ => .bad
/-- the items of a list or a tuple -/
def itemsD (x : D) : M (List D) := fun h => match x with
  | .tup xs => .ok xs h
  | .scr ns => .ok (ns.map .int) h
  | .ref r => match h[r]? with
    | some (.lst xs) => .ok xs h
    | _ => .bad
  | _ => .bad
def eqAnyD (x : D) : List D → M Bool
  | [] => M.ret false
  | y :: ys => M.bind (eqD y x) fun b => M.bind (eqAnyD x ys) fun c => M.ret (b || c)

/-! ### truth -/
def truth (x : D) : M Bool := fun h => match x with
  | .non => .ok false h
  | .bl b => .ok b h
  | .int i => .ok (i != 0) h
  | .str z => if z.length ≤ sizeLine then .ok ((z.length : Int) != 0) h else .bad
  | .tup xs => .ok (!xs.isEmpty) h
  | .scr ns => .ok (!ns.isEmpty) h
  | .ref r => match h[r]? with
    | some (.lst xs) => .ok (!xs.isEmpty) h
    | _ => .bad

/-! ### operators -/
def opBin (o : Operator) (x y : D) : M D := fun h => match o, x, y with
  | .Add, .int i, .int j => .ok (.int (i + j)) h
  | .Add, .str i, .str j => if i.length + j.length ≤ sizeLine then .ok (.str (i ++ j)) h else .bad
  | .Add, .tup xs, .tup ys => if xs.length + ys.length ≤ sizeLine then .ok (.tup (xs ++ ys)) h else .bad
  | .Add, .ref r, .ref s => match h[r]?, h[s]? with
    | some (.lst xs), some (.lst ys) => if xs.length + ys.length ≤ sizeLine then .ok (.ref h.length) (h ++ [.lst (xs ++ ys)]) else .bad
    | _, _ => .bad
  | .Sub, .int i, .int j => .ok (.int (i - j)) h
  | .Mult, .int i, .int j => if (-(2 ^ 64) < i ∧ i < 2 ^ 64) ∨ (-(2 ^ 64) < j ∧ j < 2 ^ 64) then .ok (.int (i * j)) h else .bad
  | .Mult, .ref r, .int k => match h[r]? with
    | some (.lst xs) => if -(2 ^ 63) ≤ k ∧ k < 2 ^ 63 ∧ xs.length * k.toNat ≤ sizeLine then .ok (.ref h.length) (h ++ [.lst (List.replicate k.toNat xs).flatten]) else .bad
    | _ => .bad
  | .FloorDiv, .int i, .int j => if 0 < j ∧ j < 1073741824 then .ok (.int (i / j)) h else .bad
  | .Mod, .int i, .int j => if 0 < j then .ok (.int (i % j)) h else .bad
  | .Pow, .int i, .int j => if 0 ≤ j ∧ j ≤ 1000000 ∧ i.natAbs < 2 ^ 64 then .ok (.int (i ^ j.toNat)) h else .bad
  | _, _, _ => .bad
def isNone : D → Bool
  | .non => true
  | _ => false
def ltInts : List D → List D → Option Bool
  | [], [] => some false
  | [], .int _ :: _ => some true
  | .int _ :: _, [] => some false
  | .int x :: xs, .int y :: ys => if x = y then ltInts xs ys else match ltInts xs ys with
    | some _ => some (decide (x < y))
    | none => none
  | _, _ => none
def opCmp (o : CmpOp) (x y : D) : M D := match o with
  | .Eq => M.bind (eqD x y) fun b => M.ret (.bl b)
  | .NotEq => M.bind (eqD x y) fun b => M.ret (.bl (!b))
  | .Lt => match x, y with
    | .int i, .int j => M.ret (.bl (decide (i < j)))
    | _, _ => M.bad
  | .LtE => match x, y with
    | .int i, .int j => M.ret (.bl (decide (i ≤ j)))
    | _, _ => M.bad
  | .Gt => match x, y with
    | .int i, .int j => M.ret (.bl (decide (j < i)))
    | _, _ => M.bad
  | .GtE => match x, y with
    | .int i, .int j => M.ret (.bl (decide (j ≤ i)))
    | _, _ => M.bad
  | .Is => match y with
    | .non => M.ret (.bl (isNone x))
    | .bl b => match x with
      | .bl c => M.ret (.bl (decide (c = b)))
      | _ => M.bad
    | _ => M.bad
  | .IsNot => match y with
    | .non => M.ret (.bl (!isNone x))
    | .bl b => match x with
      | .bl c => M.ret (.bl (!decide (c = b)))
      | _ => M.bad
    | _ => M.bad
  | .In => M.bad
  | .NotIn => M.bad
/-- an item -/
def opIdx (x y : D) : M D := fun h => match x, y with
  | .tup xs, .int i => match atI xs i with
    | some v => .ok v h
    | none => .bad
  | .scr ns, .int i => match atI ns i with
    | some v => .ok (.int v) h
    | none => .bad
  | .ref r, .int i => match h[r]? with
    | some (.lst xs) => match atI xs i with
      | some v => .ok v h
      | none => .bad
    | _ => .bad
  | _, _ => .bad
def cutD (xs : List D) (lo hi : Option Int) : List D := (xs.drop (HT.sIx xs.length 0 lo)).take (HT.sIx xs.length xs.length hi - HT.sIx xs.length 0 lo)
def opCut (x : D) (lo hi : Option Int) : M D := fun h => match x with
  | .tup xs => .ok (.tup (cutD xs lo hi)) h
  | .ref r => match h[r]? with
    | some (.lst xs) => .ok (.ref h.length) (h ++ [.lst (cutD xs lo hi)])
    | _ => .bad
  | _ => .bad

/-! ### built-in functions and methods -/
inductive Bi where
  | len | abs | max2 | min2 | int | list | tuple
  deriving DecidableEq
def biM (b : Bi) (xs : List D) : M D := match b, xs with
  | .len, [x] => match x with
    | .str z => if z.length ≤ sizeLine then M.ret (.int z.length) else M.bad
    | x => M.bind (itemsD x) fun xs => M.ret (.int xs.length)
  | .abs, [.int i] => M.ret (.int (if i < 0 then -i else i))
  | .max2, [.int i, .int j] => M.ret (.int (if j > i then j else i))
  | .min2, [.int i, .int j] => M.ret (.int (if j < i then j else i))
  | .int, [.int i] => M.ret (.int i)
  | .int, [.bl k] => M.ret (.int (if k then 1 else 0))
  | .list, [x] => M.bind (itemsD x) fun xs => M.alloc (.lst xs)
  | .tuple, [x] => M.bind (itemsD x) fun xs => M.ret (.tup xs)
  | _, _ => M.bad
inductive Bm where
  | append | pop | insert | reverse | get | items | values | extend | index | remove | clear | update | join | split | upper
  deriving DecidableEq
/-- of what kind a receiver is -/
inductive Ty where
  | lst | dct | str
  deriving DecidableEq
def tyM (x : D) : M Ty := fun h => match x with
  | .ref r => match h[r]? with
    | some (.lst _) => .ok .lst h
    | some (.dct _) => .ok .dct h
    | _ => .bad
  | .str _ => .ok .str h
  | _ => .bad
/-- the methods that are served -/
def bmOk : Ty → Bm → Bool
  | .lst, .append | .lst, .pop | .lst, .reverse | .lst, .extend | .lst, .clear | .lst, .insert => true
  | _, _ => false
def lstM (x : D) : M (Nat × List D) := fun h => match x with
  | .ref r => match h[r]? with
    | some (.lst xs) => .ok (r, xs) h
    | _ => .bad
  | _ => .bad
def notScr : D → Bool
  | .scr _ => false
  | _ => true
def bmM (t : Ty) (m : Bm) (x : D) (vs : List D) : M D := match t, m, vs with
  | .lst, .append, [y] => M.bind (lstM x) fun (r, xs) => M.bind (M.test (decide (xs.length < sizeLine))) fun _ => M.bind (M.put r (.lst (xs ++ [y]))) fun _ => M.ret .non
  | .lst, .pop, [] => M.bind (lstM x) fun (r, xs) => M.bind (M.opt xs.getLast?) fun y => M.bind (M.put r (.lst xs.dropLast)) fun _ => M.ret y
  | .lst, .pop, [.int i] => M.bind (lstM x) fun (r, xs) => M.bind (M.opt (ixN xs.length i)) fun k => M.bind (M.opt xs[k]?) fun y => M.bind (M.put r (.lst (xs.eraseIdx k))) fun _ => M.ret y
  | .lst, .reverse, [] => M.bind (lstM x) fun (r, xs) => M.bind (M.put r (.lst xs.reverse)) fun _ => M.ret .non
  | .lst, .clear, [] => M.bind (lstM x) fun (r, _) => M.bind (M.put r (.lst [])) fun _ => M.ret .non
  | .lst, .extend, [y] => M.bind (M.test (notScr y)) fun _ => M.bind (itemsD y) fun ys => M.bind (lstM x) fun (r, xs) => M.bind (M.test (decide (xs.length + ys.length ≤ sizeLine))) fun _ => M.bind (M.put r (.lst (xs ++ ys))) fun _ => M.ret .non
  | .lst, .insert, [.int i, y] => M.bind (lstM x) fun (r, xs) => M.bind (M.test (decide (0 ≤ i ∧ i ≤ xs.length ∧ xs.length < sizeLine))) fun _ => M.bind (M.put r (.lst (xs.take i.toNat ++ y :: xs.drop i.toNat))) fun _ => M.ret .non
  | _, _, _ => M.bad
end G60

/-! The program's own language: expressions, targets, walks, statements; what they compute. -/
namespace G60
open PySem L2

mutual
inductive Tg where
  | nm (i : Nat) | tp (ts : Tgs)
inductive Tgs where
  | nil | cons (t : Tg) (ts : Tgs)
end
mutual
inductive IE where
  | c (d : D) | v (i : Nat)
  | bin (o : Operator) (a b : IE) | cmp (o : CmpOp) (a b : IE) | chain (o o' : CmpOp) (a b c : IE)
  | neg (a : IE) | not (a : IE) | and (a b : IE) | or (a b : IE) | ite (c a b : IE)
  | tup (es : IEs) | lst (es : IEs) | dct
  | idx (a b : IE) | cut (a : IE) (lo hi : IO)
  | att (a : IE) (n : Nat)
  | call (f : Nat) (es : IEs) | new (C f : Nat) (es : IEs)
  | ometh (a : IE) (m : Nat) (es : IEs) | bmeth (a : IE) (m : Bm) (es : IEs) | bi (b : Bi) (es : IEs)
  | comp (elt : IE) (tg : Tg) (it : It) (cond : IO) (own : List Nat)
inductive IEs where
  | nil | cons (e : IE) (es : IEs)
inductive IO where
  | no | yes (e : IE)
inductive It where
  | seq (e : IE) | rng1 (a : IE) | rng2 (a b : IE) | enum (e : IE) | zip (a b : IE)
end
mutual
inductive IS where
  | set (t : Tg) (e : IE) | setIdx (o i e : IE) | setAtt (o : IE) (n : Nat) (e : IE)
  | aug (i : Nat) (o : Operator) (e : IE) | augAtt (a : IE) (n : Nat) (o : Operator) (e : IE)
  | ex (e : IE) | ret (e : IE) | retN | ite (c : IE) (a b : ISs)
  | whl (c : IE) (b : ISs) | for_ (t : Tg) (it : It) (b : ISs)
  | brk | cont | pass | never
inductive ISs where
  | nil | cons (s : IS) (ss : ISs)
end

/-- the program around: its defs by number, its classes' methods -/
structure Fx where
  fn : Nat → List D → M D
  mt : Nat → Nat → Option Nat
  has : Nat → Nat → Bool

def lk (env : Ev) (i : Nat) : M D := fun h => match env[i]? with
  | some (some d) => .ok d h
  | _ => .bad
mutual
def asg : Tg → D → Ev → Option Ev
  | .nm i, d, env => some (env.set i (some d))
  | .tp ts, d, env => match d with
    | .tup xs => asgs ts xs env
    | _ => none
def asgs : Tgs → List D → Ev → Option Ev
  | .nil, [], env => some env
  | .cons t ts, d :: ds, env => match asg t d env with
    | some env' => asgs ts ds env'
    | none => none
  | _, _, _ => none
end
def wipeE (env : Ev) : List Nat → Ev
  | [] => env
  | v :: vs => (wipeE env vs).set v none

def insM (x : D) : M (Nat × Nat × List (Nat × D)) := fun h => match x with
  | .ref r => match h[r]? with
    | some (.ins C fs) => .ok (r, C, fs) h
    | _ => .bad
  | _ => .bad
def attM (x : D) (n : Nat) : M D := M.bind (insM x) fun (_, _, fs) => M.opt (fs.lookup n)
def putA (n : Nat) (d : D) : List (Nat × D) → List (Nat × D)
  | [] => [(n, d)]
  | (m, e) :: r => if m = n then (n, d) :: r else (m, e) :: putA n d r
def setAttM (has : Nat → Nat → Bool) (x : D) (n : Nat) (d : D) : M Unit :=
  M.bind (insM x) fun (r, C, fs) => M.bind (M.test (has C n && decide (fs.length < 1000))) fun _ => M.put r (.ins C (putA n d fs))
def setIdxM (x i d : D) : M Unit := fun h => match x, i with
  | .ref r, .int k => match h[r]? with
    | some (.lst xs) => match ixN xs.length k with
      | some j => .ok () (h.set r (.lst (xs.set j d)))
      | none => .bad
    | _ => .bad
  | _, _ => .bad
def newM (Φ : Fx) (C f : Nat) (ds : List D) : M D := fun h =>
  match Φ.fn f (.ref h.length :: ds) (h ++ [.ins C []]) with
  | .ok v h' => if v = .non then .ok (.ref h.length) h' else .bad
  | .err c fs h' => .err c fs h'
  | .bad => .bad
def negM (x : D) : M D := match x with
  | .int i => M.ret (.int (-i))
  | _ => M.bad
/-- the ends of a slice -/
def partM (x : D) : M (Option Int) := match x with
  | .int i => M.ret (some i)
  | _ => M.bad

/-- what is walked: the items, and what must stay -/
abbrev Walk := List D × List (Nat × Cell)
def walkD (x : D) : M Walk := fun h => match x with
  | .tup xs => .ok (xs, []) h
  | .scr ns => .ok (ns.map .int, []) h
  | .ref r => match h[r]? with
    | some (.lst xs) => .ok (xs, [(r, .lst xs)]) h
    | _ => .bad
  | _ => .bad
/-- only a list -/
def walkL (x : D) : M Walk := match x with
  | .ref _ => walkD x
  | .scr _ => walkD x
  | _ => M.bad
def enumD (i : Nat) : List D → List D
  | [] => []
  | x :: xs => .tup [.int i, x] :: enumD (i + 1) xs
def zipD : List D → List D → List D
  | x :: xs, y :: ys => .tup [x, y] :: zipD xs ys
  | _, _ => []
def rngD (lo : Int) : Nat → List D
  | 0 => []
  | n + 1 => .int lo :: rngD (lo + 1) n
def rngM (lo hi : D) : M Walk := match lo, hi with
  | .int i, .int j => M.bind (M.test (decide (-(2 ^ 62) ≤ i ∧ i < 2 ^ 62 ∧ -(2 ^ 62) ≤ j ∧ j < 2 ^ 62))) fun _ => M.ret (rngD i (j - i).toNat, [])
  | _, _ => M.bad
def stays (gs : List (Nat × Cell)) : M Unit := fun h => if gs.all (fun g => decide (h[g.1]? = some g.2)) = true then .ok () h else .bad
/-- what can't be raised here -/
def noErr {α : Type} (r : Res α) : Res α := match r with
  | .err _ _ _ => .bad
  | r => r
/-- a comprehension's turns: the new list at r -/
def compL (gs : List (Nat × Cell)) (as : D → Option Ev) (cond : Ev → M Bool) (elt : Ev → M D) (r : Nat) : List D → M Unit
  | [] => M.bind (stays gs) fun _ => M.ret ()
  | x :: xs => M.bind (stays gs) fun _ => M.bind (M.opt (as x)) fun env => M.bind (cond env) fun b =>
    M.bind (if b = true then M.bind (elt env) fun y => M.bind (bmM .lst .append (.ref r) [y]) fun _ => M.ret () else M.ret ()) fun _ => compL gs as cond elt r xs

mutual
def eE (Φ : Fx) : IE → Ev → M D
  | .c d, _ => M.ret d
  | .v i, env => lk env i
  | .bin o a b, env => M.bind (eE Φ a env) fun x => M.bind (eE Φ b env) fun y => opBin o x y
  | .cmp o a b, env => M.bind (eE Φ a env) fun x => M.bind (eE Φ b env) fun y => opCmp o x y
  | .chain o o' a b c, env => M.bind (eE Φ a env) fun x => M.bind (eE Φ b env) fun y => M.bind (opCmp o x y) fun t => match t with
    | .bl true => M.bind (eE Φ c env) fun z => opCmp o' y z
    | .bl false => M.ret (.bl false)
    | _ => M.bad
  | .neg a, env => M.bind (eE Φ a env) negM
  | .not a, env => M.bind (eE Φ a env) fun x => M.bind (truth x) fun b => M.ret (.bl (!b))
  | .and a b, env => M.bind (eE Φ a env) fun x => M.bind (truth x) fun t => if t = true then eE Φ b env else M.ret x
  | .or a b, env => M.bind (eE Φ a env) fun x => M.bind (truth x) fun t => if t = true then M.ret x else eE Φ b env
  | .ite c a b, env => M.bind (eE Φ c env) fun x => M.bind (truth x) fun t => if t = true then eE Φ a env else eE Φ b env
  | .tup es, env => M.bind (eEs Φ es env) fun xs => M.bind (M.test (decide (xs.length ≤ sizeLine))) fun _ => M.ret (.tup xs)
  | .lst es, env => M.bind (eEs Φ es env) fun xs => M.bind (M.test (decide (xs.length ≤ sizeLine))) fun _ => M.alloc (.lst xs)
  | .dct, _ => M.alloc (.dct [])
  | .idx a b, env => M.bind (eE Φ a env) fun x => M.bind (eE Φ b env) fun y => opIdx x y
  | .cut a lo hi, env => M.bind (eE Φ a env) fun x => M.bind (eO Φ lo env) fun l => M.bind (eO Φ hi env) fun u => opCut x l u
  | .att a n, env => M.bind (eE Φ a env) fun x => attM x n
  | .call f es, env => M.bind (eEs Φ es env) fun xs => Φ.fn f xs
  | .new C f es, env => M.bind (eEs Φ es env) fun xs => newM Φ C f xs
  | .ometh a m es, env => M.bind (eE Φ a env) fun x => M.bind (insM x) fun i => M.bind (M.opt (Φ.mt i.2.1 m)) fun f => M.bind (eEs Φ es env) fun xs => Φ.fn f (x :: xs)
  | .bmeth a m es, env => M.bind (eE Φ a env) fun x => M.bind (tyM x) fun t => M.bind (M.test (bmOk t m)) fun _ => M.bind (eEs Φ es env) fun xs => bmM t m x xs
  | .bi b es, env => M.bind (eEs Φ es env) fun xs => biM b xs
  | .comp elt tg it cond own, env => M.bind (eI Φ it env) fun w => M.bind (M.alloc (.lst [])) fun d => match d with
    | .ref r => M.bind (compL w.2 (fun x => asg tg x (wipeE env own)) (fun e h => noErr (eC Φ cond e h)) (fun e h => noErr (eE Φ elt e h)) r w.1) fun _ => M.ret (.ref r)
    | _ => M.bad
def eEs (Φ : Fx) : IEs → Ev → M (List D)
  | .nil, _ => M.ret []
  | .cons e es, env => M.bind (eE Φ e env) fun x => M.bind (eEs Φ es env) fun xs => M.ret (x :: xs)
def eO (Φ : Fx) : IO → Ev → M (Option Int)
  | .no, _ => M.ret none
  | .yes e, env => M.bind (eE Φ e env) partM
def eC (Φ : Fx) : IO → Ev → M Bool
  | .no, _ => M.ret true
  | .yes e, env => M.bind (eE Φ e env) truth
def eI (Φ : Fx) : It → Ev → M Walk
  | .seq e, env => M.bind (eE Φ e env) walkD
  | .rng1 a, env => M.bind (eE Φ a env) fun j => rngM (.int 0) j
  | .rng2 a b, env => M.bind (eE Φ a env) fun i => M.bind (eE Φ b env) fun j => rngM i j
  | .enum e, env => M.bind (eE Φ e env) fun x => M.bind (walkL x) fun w => M.ret (enumD 0 w.1, w.2)
  | .zip a b, env => M.bind (eE Φ a env) fun x => M.bind (eE Φ b env) fun y => M.bind (walkL x) fun w => M.bind (walkL y) fun u => M.ret (zipD w.1 u.1, w.2 ++ u.2)
end

/-! ### statements -/
inductive Fl where
  | nx | bk | ct | rt (d : D)
inductive SRes where
  | fl (f : Fl) (env : Ev) (h : Hm) | err (c : Nat) (fs : List (Nat × D)) (env : Ev) (h : Hm) | bad
abbrev SM := Ev → Hm → SRes
def SM.of {α : Type} (m : Ev → M α) (k : α → SM) : SM := fun env h => match m env h with
  | .ok a h' => k a env h'
  | .err c fs h' => .err c fs env h'
  | .bad => .bad
def SM.seq (a b : SM) : SM := fun env h => match a env h with
  | .fl .nx env' h' => b env' h'
  | r => r
def SM.done (f : Fl) : SM := fun env h => .fl f env h
/-- the number of turns that a while is given -/
def FUEL : Nat := 1000000000000
def whL (c : Ev → M Bool) (b : SM) : Nat → SM
  | 0 => fun _ _ => .bad
  | n + 1 => SM.of c fun t => if t = true then fun env h => match b env h with
    | .fl .nx env' h' => whL c b n env' h'
    | .fl .ct env' h' => whL c b n env' h'
    | .fl .bk env' h' => .fl .nx env' h'
    | r => r
    else SM.done .nx
def forL (gs : List (Nat × Cell)) (as : D → Ev → Option Ev) (b : SM) : List D → SM
  | [] => SM.of (fun _ => stays gs) fun _ => SM.done .nx
  | x :: xs => SM.of (fun env => M.bind (stays gs) fun _ => M.opt (as x env)) fun env1 => fun _ h1 => match b env1 h1 with
    | .fl .nx env' h' => forL gs as b xs env' h'
    | .fl .ct env' h' => forL gs as b xs env' h'
    | .fl .bk env' h' => .fl .nx env' h'
    | r => r
/-- target = value -/
def setS (as : D → Ev → Option Ev) (x : D) : SM := fun env h => match as x env with
  | some env' => .fl .nx env' h
  | none => .bad
def augM (o : Operator) (x y : D) : M D := match o, x, y with
  | .Add, .int i, .int j => M.ret (.int (i + j))
  | .Sub, .int i, .int j => M.ret (.int (i - j))
  | _, _, _ => M.bad

mutual
def eS (Φ : Fx) : IS → SM
  | .set t e => SM.of (eE Φ e) (setS (asg t))
  | .setIdx o i e => SM.of (fun env => M.bind (eE Φ e env) fun v => M.bind (eE Φ o env) fun x => M.bind (eE Φ i env) fun k => setIdxM x k v) fun _ => SM.done .nx
  | .setAtt o n e => SM.of (fun env => M.bind (eE Φ e env) fun v => M.bind (eE Φ o env) fun x => setAttM Φ.has x n v) fun _ => SM.done .nx
  | .aug i o e => SM.of (fun env => M.bind (lk env i) fun x => M.bind (eE Φ e env) fun y => augM o x y) fun z env h => .fl .nx (env.set i (some z)) h
  | .augAtt a n o e => SM.of (fun env => M.bind (eE Φ a env) fun x => M.bind (insM x) fun i => M.bind (M.opt (i.2.2.lookup n)) fun v => M.bind (eE Φ e env) fun y => M.bind (augM o v y) fun z => M.bind (insM x) fun j => M.bind (M.test (decide (j.2.1 = i.2.1))) fun _ => setAttM Φ.has x n z) fun _ => SM.done .nx
  | .ex e => SM.of (eE Φ e) fun _ => SM.done .nx
  | .ret e => SM.of (eE Φ e) fun x => SM.done (.rt x)
  | .retN => SM.done (.rt .non)
  | .ite c a b => SM.of (fun env => M.bind (eE Φ c env) truth) fun t => if t = true then eSs Φ a else eSs Φ b
  | .whl c b => whL (fun env => M.bind (eE Φ c env) truth) (eSs Φ b) FUEL
  | .for_ t it b => SM.of (eI Φ it) fun w => forL w.2 (asg t) (eSs Φ b) w.1
  | .brk => SM.done .bk
  | .cont => SM.done .ct
  | .pass => SM.done .nx
  | .never => fun _ _ => .bad
def eSs (Φ : Fx) : ISs → SM
  | .nil => SM.done .nx
  | .cons s ss => SM.seq (eS Φ s) (eSs Φ ss)
end

/-! ### defs -/
mutual
def D.lo (n : Nat) : D → Bool
  | .ref r => decide (r < n)
  | .tup xs => D.los n xs
  | _ => true
def D.los (n : Nat) : List D → Bool
  | [] => true
  | x :: xs => D.lo n x && D.los n xs
end
def Cell.lo (n : Nat) : Cell → Bool
  | .lst xs => xs.all (D.lo n)
  | .dct kvs => kvs.all fun p => D.lo n p.1 && D.lo n p.2
  | .fd kvs => kvs.all fun p => D.lo n p.1 && D.lo n p.2
  | .ins _ fs => fs.all fun p => D.lo n p.2
/-- the cells that changed point to what stood -/
def keptB (n : Nat) : Hm → Hm → Bool
  | c :: h, c' :: h' => (decide (c = c') || c'.lo n) && keptB n h h'
  | [], _ => true
  | _ :: _, [] => false
/-- what was made and isn't come to any more is forgotten -/
def gc (h : Hm) (r : Res D) : Res D := match r with
  | .ok d h' => if (d.lo h.length && keptB h.length h h') = true then .ok d (h'.take h.length) else .ok d h'
  | r => r
structure IF where
  ps : Nat
  ns : Nat
  body : ISs
def runF (Φ : Fx) (f : IF) (ds : List D) : M D := fun h =>
  if ds.length = f.ps then gc h (match eSs Φ f.body (ds.map some ++ List.replicate (f.ns - f.ps) none) h with
    | .fl (.rt d) _ h' => .ok d h'
    | .fl .nx _ h' => .ok .non h'
    | .fl _ _ _ => .bad
    | .err c fs _ h' => .err c fs h'
    | .bad => .bad) else .bad
end G60

/-! Values by values: the operators' rules. -/
namespace G60
open PySem L2

section
variable {T : Tab} {K : PySem.W.Frag} {H H' H1 H2 : Hp} {ρ ρ' ρ1 ρ2 : List Addr} {h h' : Hm} {α β : Type}
/-- a step that raises nothing -/
def NoErr (m : M α) : Prop := ∀ h c fs h', m h ≠ .err c fs h'
theorem NoErr.ret (a : α) : NoErr (M.ret a) := fun _ _ _ _ z => by cases z
theorem NoErr.bad : NoErr (M.bad : M α) := fun _ _ _ _ z => by cases z
theorem NoErr.bind {m : M α} {f : α → M β} (a : NoErr m) (b : ∀ x, NoErr (f x)) : NoErr (M.bind m f) := fun h c fs h' z => by
  unfold M.bind at z
  cases e : m h with
  | ok x h1 => rw [e] at z; exact b x _ _ _ _ z
  | err c' fs' h1 => exact a _ _ _ _ e
  | bad => rw [e] at z; cases z
theorem NoErr.opt (o : Option α) : NoErr (M.opt o) := fun h c fs h' z => by cases o <;> cases z
theorem NoErr.test (b : Bool) : NoErr (M.test b) := fun h c fs h' z => by
  unfold M.test at z; split at z <;> cases z
theorem NoErr.put (r : Nat) (c : Cell) : NoErr (M.put r c) := fun h c fs h' z => by cases z
theorem NoErr.alloc (c : Cell) : NoErr (M.alloc c) := fun h c fs h' z => by cases z
theorem After.ne {m : M α} {P : α → Hm → List Addr → Hp → Prop} {E E' : XK} (n : NoErr m) (a : After T K ρ H (m h) P E) : After T K ρ H (m h) P E' := by
  cases e : m h with
  | ok x h1 => rw [e] at a; exact a
  | err c fs h1 => exact (n _ _ _ _ e).elim
  | bad => rw [e] at a; exact a
end

abbrev EF : XK := fun _ _ _ => False
def r1 (T : Tab) (K : PySem.W.Frag) (f : D → M D) : V → Hp → VK → Prop := fun x H Q => ∃ ρ h dx, Rep K H ρ dx x ∧ Sim T K ρ h H ∧ After T K ρ H (f dx h) (PV K Q) EF
def r2 (T : Tab) (K : PySem.W.Frag) (f : D → D → M D) : R2 := fun x y H Q => ∃ ρ h dx dy, Rep K H ρ dx x ∧ Rep K H ρ dy y ∧ Sim T K ρ h H ∧ After T K ρ H (f dx dy h) (PV K Q) EF
def rn (T : Tab) (K : PySem.W.Frag) (f : List D → M D) : List V → Hp → VK → Prop := fun xs H Q => ∃ ρ h ds, Reps K H ρ ds xs ∧ Sim T K ρ h H ∧ After T K ρ H (f ds h) (PV K Q) EF
def rm (T : Tab) (K : PySem.W.Frag) (f : D → List D → M D) : V → List V → Hp → VK → Prop := fun x xs H Q => ∃ ρ h d ds, Rep K H ρ d x ∧ Reps K H ρ ds xs ∧ Sim T K ρ h H ∧ After T K ρ H (f d ds h) (PV K Q) EF
def rt (T : Tab) (K : PySem.W.Frag) (f : D → M Bool) : V → Hp → (Bool → Hp → Prop) → Prop := fun x H Q => ∃ ρ h dx, Rep K H ρ dx x ∧ Sim T K ρ h H ∧ After T K ρ H (f dx h) (PB Q) EF

theorem OpR.imp {X : Cx} {f : Value → Value → Sem Value} {r r' : R2} (a : OpR X f r) (i : ∀ x y H Q, r' x y H Q → r x y H Q) : OpR X f r' := fun pins s σ H x y v u Q I rx ry q => a pins s σ H x y v u Q I rx ry (i _ _ _ _ q)

section
variable {T : Tab} {K : PySem.W.Frag} {H H' H1 H2 : Hp} {ρ ρ' ρ1 ρ2 : List Addr} {h h' : Hm}
/-- what a reference is -/
theorem Sim.lst (S : Sim T K ρ h H) {r : Nat} {a : Addr} {xs : List D} (e : h[r]? = some (.lst xs)) (ea : ρ[r]? = some a) : ∃ vs, H a = some (.lst vs) ∧ Reps K H ρ xs vs := S.atA e ea
theorem After.okV {d : D} {Q : VK} (S : Sim T K ρ h H) {v : V} (r : Rep K H ρ d v) (a : After T K ρ H (.ok d h) (PV K Q) EF) : Q v H := a ρ H Ext.refl S v r
theorem Reps.isEmpty {xs : List D} {vs : List V} (r : Reps K H ρ xs vs) : xs.isEmpty = vs.isEmpty := by cases r <;> rfl
theorem Reps.nil_iff {xs : List D} {vs : List V} (r : Reps K H ρ xs vs) : xs = [] ↔ vs = [] := by cases r <;> simp
/-- a new list -/
theorem After.lstV {xs : List D} {vs : List V} {Q : VK} {p : Addr} (S : Sim T K ρ h H) (r : Reps K H ρ xs vs) (hp : H p = none) (a : After T K ρ H (.ok (.ref h.length) (h ++ [.lst xs])) (PV K Q) EF) : Q (.ref p) (upd H p (.lst vs)) := by
  have e : Ext K ρ H (ρ ++ [p]) (upd H p (.lst vs)) := Ext.new hp
  exact a _ _ e (S.new hp ⟨vs, upd_same, e.reps r⟩) _ (.ref (by rw [← S.len]; simp))
/-- a new tuple -/
theorem After.tupV {xs : List D} {vs : List V} {Q : VK} {p : Addr} (S : Sim T K ρ h H) (r : Reps K H ρ xs vs) (hp : H p = none) (a : After T K ρ H (.ok (.tup xs) h) (PV K Q) EF) : Q (.ref p) (upd H p (.tup vs)) := by
  have e : Ext K ρ H ρ (upd H p (.tup vs)) := Ext.tup hp
  exact a _ _ e (S.tup hp) _ (.tup upd_same (e.reps r))

/-! ### data as a whole -/
theorem toPy_depth : ∀ (n : Nat) (h : Hm) (d : D) (p : PyData), toPy n h d = some p → p.canLay0 = true ∧ p.depth ≤ n := by
  intro n
  induction n with
  | zero => intro h d p e; cases e
  | succ n ih =>
    intro h d p e
    have all : ∀ (xs : List D) (ps : List PyData), mapO (toPy n h) xs = some ps → PyData.canLayAll0 ps = true ∧ PyData.depthAll ps ≤ n := by
      intro xs
      induction xs with
      | nil => intro ps e; cases e; exact ⟨rfl, Nat.zero_le _⟩
      | cons x xs ihx =>
        intro ps e
        unfold mapO at e
        split at e
        · rename_i y ys h1 h2
          cases e
          have q1 := ih h x y h1
          have q2 := ihx ys h2
          refine ⟨by simp [PyData.canLayAll0, q1.1, q2.1], ?_⟩
          have a := q1.2
          have b := q2.2
          simp only [PyData.depthAll]
          omega
        · cases e
    unfold toPy at e
    split at e
    · cases e; exact ⟨rfl, Nat.zero_le _⟩
    · cases e; exact ⟨rfl, Nat.zero_le _⟩
    · cases e; exact ⟨rfl, Nat.zero_le _⟩
    · split at e
      · rename_i hs; cases e; exact ⟨hs, Nat.zero_le _⟩
      · cases e
    · rename_i xs
      cases q : mapO (toPy n h) xs with
      | none => rw [q] at e; cases e
      | some ps =>
        rw [q] at e; cases e
        have := all xs ps q
        exact ⟨this.1, by simp only [PyData.depth]; omega⟩
    · split at e
      · rename_i xs _
        cases q : mapO (toPy n h) xs with
        | none => rw [q] at e; cases e
        | some ps =>
          rw [q] at e; cases e
          have := all xs ps q
          exact ⟨this.1, by simp only [PyData.depth]; omega⟩
      · cases e
    · rename_i ns
      split at e
      · cases e
      · cases e
        have q : ∀ ns : List Int, PyData.canLayAll0 (ns.map PyData.int) = true ∧ PyData.depthAll (ns.map PyData.int) ≤ 0 := by
          intro ns
          induction ns with
          | nil => exact ⟨rfl, Nat.le_refl _⟩
          | cons k ks ihk => exact ⟨by simp [PyData.canLayAll0, PyData.canLay0, ihk.1], by simp only [List.map_cons, PyData.depthAll, PyData.depth]; omega⟩
        have := q ns
        exact ⟨this.1, by simp only [PyData.depth]; omega⟩
theorem toPy_shaped {h : Hm} {d : D} {p : PyData} (e : toPy DEEP h d = some p) : SeqAt.shaped p = true := by
  obtain ⟨a, b⟩ := toPy_depth DEEP h d p e
  have c : p.depth ≤ 64 := Nat.le_trans b (by decide)
  simp [SeqAt.shaped, a, c]
theorem dpAll_ints : ∀ ns : List Int, DpAll K H (ns.map V.int) (ns.map PyData.int)
  | [] => .nil
  | n :: ns => .cons (.int n) (dpAll_ints ns)
theorem toPy_dp (S : Sim T K ρ h H) : ∀ (n : Nat) (d : D) (v : V) (p : PyData), Rep K H ρ d v → toPy n h d = some p → Dp K H v p := by
  intro n
  induction n with
  | zero => intro d v p r e; cases e
  | succ n ih =>
    intro d v p r e
    have all : ∀ (xs : List D) (vs : List V) (ps : List PyData), Reps K H ρ xs vs → mapO (toPy n h) xs = some ps → DpAll K H vs ps := by
      intro xs
      induction xs with
      | nil => intro vs ps r e; cases e; cases r; exact .nil
      | cons x xs ihx =>
        intro vs ps r e
        unfold mapO at e
        split at e
        · rename_i y ys h1 h2
          cases e
          cases r with
          | cons r rr => exact .cons (ih x _ y r h1) (ihx _ ys rr h2)
        · cases e
    unfold toPy at e
    split at e
    · cases e; cases r; exact .non
    · cases e; cases r; exact .bl _
    · cases e; cases r; exact .int _
    · split at e
      · cases e; cases r; exact .str _
      · cases e
    · rename_i xs
      cases q : mapO (toPy n h) xs with
      | none => rw [q] at e; cases e
      | some ps =>
        rw [q] at e; cases e
        cases r with
        | tup ht rr => exact .tup (SqT.of ht) (all xs _ ps rr q)
    · rename_i rf
      split at e
      · rename_i xs hc
        cases q : mapO (toPy n h) xs with
        | none => rw [q] at e; cases e
        | some ps =>
          rw [q] at e; cases e
          cases r with
          | ref hr =>
            obtain ⟨vs, ha, rr⟩ := S.lst hc hr
            exact .lst (SqL.of ha) (all xs _ ps rr q)
      · cases e
    · rename_i ns
      split at e
      · cases e
      · cases e
        cases r with
        | scr hs => exact .lst hs.sq (dpAll_ints ns)
end
end G60

/-! The operators, one by one. -/
namespace G60
open PySem L2

section
variable {T : Tab} {X : Cx}

theorem so_add : OpR X (binaryOp .Add) (r2 T X.K (opBin .Add)) := by
  intro pins s σ H x y v u Q I rx ry q
  obtain ⟨ρ, h, dx, dy, qx, qy, S, a⟩ := q
  cases qx with
  | int i =>
    cases qy with
    | int j => exact op_add pins s σ H _ _ v u Q I rx ry ⟨i, j, rfl, rfl, a.okV S (.int _)⟩
    | _ => exact a.elim
  | str i =>
    cases qy with
    | str j =>
      simp only [opBin] at a
      split at a
      · rename_i hl
        exact op_add_str pins s σ H _ _ v u Q I rx ry ⟨i, j, rfl, rfl, hl, a.okV S (.str _)⟩
      · exact a.elim
    | _ => exact a.elim
  | tup hx rrx =>
    cases qy with
    | tup hy rry =>
      simp only [opBin] at a
      split at a
      · rename_i xs _ _ ys _ _ hl
        refine op_catA pins s σ H _ _ v u Q I rx ry ⟨_, _, _, _, rfl, rfl, SqT.of hx, SqT.of hy, by rw [← rrx.length, ← rry.length]; exact hl, fun e => ?_, fun _ e => ?_, fun _ _ p hp => ?_⟩
        · have e' := rrx.nil_iff.mpr e
          subst e'
          exact a.okV S (.tup hy rry)
        · have e' := rry.nil_iff.mpr e
          subst e'
          rw [List.append_nil] at a
          exact a.okV S (.tup hx rrx)
        · exact a.tupV S (rrx.append rry) hp
      · exact a.elim
    | _ => exact a.elim
  | ref hx =>
    cases qy with
    | ref hy =>
      simp only [opBin] at a
      split at a
      · rename_i xs ys e1 e2
        split at a
        · rename_i hl
          obtain ⟨vs, ha, rr⟩ := S.lst e1 hx
          obtain ⟨ws, hb, ss⟩ := S.lst e2 hy
          exact op_cat pins s σ H _ _ v u Q I rx ry ⟨_, _, _, _, rfl, rfl, ha, hb, by rw [← rr.length, ← ss.length]; exact hl, fun p hp => a.lstV S (rr.append ss) hp⟩
        · exact a.elim
      · exact a.elim
    | _ => exact a.elim
  | _ => cases qy <;> exact a.elim
theorem so_sub : OpR X (binaryOp .Sub) (r2 T X.K (opBin .Sub)) := by
  intro pins s σ H x y v u Q I rx ry q
  obtain ⟨ρ, h, dx, dy, qx, qy, S, a⟩ := q
  cases qx with
  | int i =>
    cases qy with
    | int j => exact op_sub pins s σ H _ _ v u Q I rx ry ⟨i, j, rfl, rfl, a.okV S (.int _)⟩
    | _ => exact a.elim
  | _ => cases qy <;> exact a.elim
theorem so_mul : OpR X (binaryOp .Mult) (r2 T X.K (opBin .Mult)) := by
  intro pins s σ H x y v u Q I rx ry q
  obtain ⟨ρ, h, dx, dy, qx, qy, S, a⟩ := q
  cases qx with
  | int i =>
    cases qy with
    | int j =>
      simp only [opBin] at a
      split at a
      · rename_i hc
        exact op_mul pins s σ H _ _ v u Q I rx ry ⟨i, j, rfl, rfl, hc, a.okV S (.int _)⟩
      · exact a.elim
    | _ => exact a.elim
  | ref hx =>
    cases qy with
    | int j =>
      simp only [opBin] at a
      split at a
      · rename_i xs e1
        split at a
        · rename_i hl
          obtain ⟨vs, ha, rr⟩ := S.lst e1 hx
          exact op_rep pins s σ H _ _ v u Q I rx ry ⟨_, _, _, rfl, rfl, ha, hl.1, hl.2.1, by rw [← rr.length]; exact hl.2.2, fun p hp => a.lstV S (rr.rep _) hp⟩
        · exact a.elim
      · exact a.elim
    | _ => exact a.elim
  | _ => cases qy <;> exact a.elim
theorem so_fdiv : OpR X (binaryOp .FloorDiv) (r2 T X.K (opBin .FloorDiv)) := by
  intro pins s σ H x y v u Q I rx ry q
  obtain ⟨ρ, h, dx, dy, qx, qy, S, a⟩ := q
  cases qx with
  | int i =>
    cases qy with
    | int j =>
      simp only [opBin] at a
      split at a
      · rename_i hc
        exact op_fdiv pins s σ H _ _ v u Q I rx ry ⟨i, j, rfl, rfl, hc, a.okV S (.int _)⟩
      · exact a.elim
    | _ => exact a.elim
  | _ => cases qy <;> exact a.elim
theorem so_mod : OpR X (binaryOp .Mod) (r2 T X.K (opBin .Mod)) := by
  intro pins s σ H x y v u Q I rx ry q
  obtain ⟨ρ, h, dx, dy, qx, qy, S, a⟩ := q
  cases qx with
  | int i =>
    cases qy with
    | int j =>
      simp only [opBin] at a
      split at a
      · rename_i hc
        exact op_mod pins s σ H _ _ v u Q I rx ry ⟨i, j, rfl, rfl, hc, a.okV S (.int _)⟩
      · exact a.elim
    | _ => exact a.elim
  | _ => cases qy <;> exact a.elim
theorem so_pow : OpR X (binaryOp .Pow) (r2 T X.K (opBin .Pow)) := by
  intro pins s σ H x y v u Q I rx ry q
  obtain ⟨ρ, h, dx, dy, qx, qy, S, a⟩ := q
  cases qx with
  | int i =>
    cases qy with
    | int j =>
      simp only [opBin] at a
      split at a
      · rename_i hc
        exact op_pow pins s σ H _ _ v u Q I rx ry ⟨i, j, rfl, rfl, hc, a.okV S (.int _)⟩
      · exact a.elim
    | _ => exact a.elim
  | _ => cases qy <;> exact a.elim
/-- the operators that are served -/
def binOk : Operator → Bool
  | .Add | .Sub | .Mult | .FloorDiv | .Mod | .Pow => true
  | _ => false
theorem so_bin {o : Operator} (ho : binOk o = true) : OpR X (binaryOp o) (r2 T X.K (opBin o)) := by
  cases o with
  | Add => exact so_add
  | Sub => exact so_sub
  | Mult => exact so_mul
  | FloorDiv => exact so_fdiv
  | Mod => exact so_mod
  | Pow => exact so_pow
  | _ => cases ho
theorem ne_bin {o : Operator} {x y : D} : NoErr (opBin o x y) := by
  intro h c fs h' z
  unfold opBin at z
  repeat' split at z
  all_goals cases z

/-! ### comparisons -/
theorem eqD_of {x y : D} {h : Hm} {a b : PyData} (e1 : toPy DEEP h x = some a) (e2 : toPy DEEP h y = some b) : eqD x y h = .ok (PyData.eqv a b) h := by
  unfold eqD; rw [e1, e2]
theorem eqD_cases (x y : D) (h : Hm) : (∃ a b, toPy DEEP h x = some a ∧ toPy DEEP h y = some b ∧ eqD x y h = .ok (PyData.eqv a b) h) ∨ eqD x y h = .bad := by
  unfold eqD
  cases e1 : toPy DEEP h x with
  | none => exact .inr rfl
  | some a =>
    cases e2 : toPy DEEP h y with
    | none => exact .inr rfl
    | some b => exact .inl ⟨a, b, rfl, rfl, rfl⟩
theorem so_eq (hu : X.A.units + 64 < cLine) : OpR X (compareOp .Eq) (r2 T X.K (opCmp .Eq)) := by
  intro pins s σ H x y v u Q I rx ry q
  obtain ⟨ρ, h, dx, dy, qx, qy, S, a⟩ := q
  have a : After T X.K ρ H (M.bind (eqD dx dy) (fun b => M.ret (.bl b)) h) (PV X.K Q) EF := a
  unfold M.bind at a
  rcases eqD_cases dx dy h with ⟨pa, pb, e1, e2, e⟩ | e
  · rw [e] at a
    exact op_eqD hu pins s σ H x y v u Q I rx ry ⟨pa, pb, toPy_dp S _ _ _ _ qx e1, toPy_dp S _ _ _ _ qy e2, toPy_shaped e1, toPy_shaped e2, a.okV S (.bl _)⟩
  · rw [e] at a; exact a.elim
theorem so_ne (hu : X.A.units + 64 < cLine) : OpR X (compareOp .NotEq) (r2 T X.K (opCmp .NotEq)) := by
  intro pins s σ H x y v u Q I rx ry q
  obtain ⟨ρ, h, dx, dy, qx, qy, S, a⟩ := q
  have a : After T X.K ρ H (M.bind (eqD dx dy) (fun b => M.ret (.bl (!b))) h) (PV X.K Q) EF := a
  unfold M.bind at a
  rcases eqD_cases dx dy h with ⟨pa, pb, e1, e2, e⟩ | e
  · rw [e] at a
    exact op_neD hu pins s σ H x y v u Q I rx ry ⟨pa, pb, toPy_dp S _ _ _ _ qx e1, toPy_dp S _ _ _ _ qy e2, toPy_shaped e1, toPy_shaped e2, a.okV S (.bl _)⟩
  · rw [e] at a; exact a.elim
theorem so_lt : OpR X (compareOp .Lt) (r2 T X.K (opCmp .Lt)) := by
  intro pins s σ H x y v u Q I rx ry q
  obtain ⟨ρ, h, dx, dy, qx, qy, S, a⟩ := q
  cases qx with
  | int i =>
    cases qy with
    | int j => exact op_lt pins s σ H _ _ v u Q I rx ry ⟨i, j, rfl, rfl, a.okV S (.bl _)⟩
    | _ => exact a.elim
  | _ => cases qy <;> exact a.elim
theorem so_le : OpR X (compareOp .LtE) (r2 T X.K (opCmp .LtE)) := by
  intro pins s σ H x y v u Q I rx ry q
  obtain ⟨ρ, h, dx, dy, qx, qy, S, a⟩ := q
  cases qx with
  | int i =>
    cases qy with
    | int j => exact op_le pins s σ H _ _ v u Q I rx ry ⟨i, j, rfl, rfl, a.okV S (.bl _)⟩
    | _ => exact a.elim
  | _ => cases qy <;> exact a.elim
theorem so_gt : OpR X (compareOp .Gt) (r2 T X.K (opCmp .Gt)) := by
  intro pins s σ H x y v u Q I rx ry q
  obtain ⟨ρ, h, dx, dy, qx, qy, S, a⟩ := q
  cases qx with
  | int i =>
    cases qy with
    | int j => exact op_gt pins s σ H _ _ v u Q I rx ry ⟨i, j, rfl, rfl, a.okV S (.bl _)⟩
    | _ => exact a.elim
  | _ => cases qy <;> exact a.elim
theorem so_ge : OpR X (compareOp .GtE) (r2 T X.K (opCmp .GtE)) := by
  intro pins s σ H x y v u Q I rx ry q
  obtain ⟨ρ, h, dx, dy, qx, qy, S, a⟩ := q
  cases qx with
  | int i =>
    cases qy with
    | int j => exact op_ge pins s σ H _ _ v u Q I rx ry ⟨i, j, rfl, rfl, a.okV S (.bl _)⟩
    | _ => exact a.elim
  | _ => cases qy <;> exact a.elim
theorem isNone_of {H : Hp} {ρ : List Addr} {K : PySem.W.Frag} {d : D} {v : V} (r : Rep K H ρ d v) : isNone d = decide (v = .non) := by
  cases r <;> simp [isNone]
theorem so_is : OpR X (compareOp .Is) (r2 T X.K (opCmp .Is)) := by
  intro pins s σ H x y v u Q I rx ry q
  obtain ⟨ρ, h, dx, dy, qx, qy, S, a⟩ := q
  cases qy with
  | non => exact op_isN pins s σ H _ _ v u Q I rx ry ⟨rfl, by rw [← isNone_of qx]; exact a.okV S (.bl _)⟩
  | bl b =>
    cases qx with
    | bl c => exact op_is_bl pins s σ H _ _ v u Q I rx ry ⟨c, b, rfl, rfl, a.okV S (.bl _)⟩
    | _ => exact a.elim
  | _ => exact a.elim
theorem so_isnot : OpR X (compareOp .IsNot) (r2 T X.K (opCmp .IsNot)) := by
  intro pins s σ H x y v u Q I rx ry q
  obtain ⟨ρ, h, dx, dy, qx, qy, S, a⟩ := q
  cases qy with
  | non => exact op_notN pins s σ H _ _ v u Q I rx ry ⟨rfl, by rw [← isNone_of qx]; exact a.okV S (.bl _)⟩
  | bl b =>
    cases qx with
    | bl c => exact op_isnot_bl pins s σ H _ _ v u Q I rx ry ⟨c, b, rfl, rfl, a.okV S (.bl _)⟩
    | _ => exact a.elim
  | _ => exact a.elim
theorem so_cmp {o : CmpOp} (hu : X.A.units + 64 < cLine) : OpR X (compareOp o) (r2 T X.K (opCmp o)) := by
  cases o with
  | Eq => exact so_eq hu
  | NotEq => exact so_ne hu
  | Lt => exact so_lt
  | LtE => exact so_le
  | Gt => exact so_gt
  | GtE => exact so_ge
  | Is => exact so_is
  | IsNot => exact so_isnot
  | In => intro pins s σ H x y v u Q I rx ry q; obtain ⟨ρ, h, dx, dy, qx, qy, S, a⟩ := q; exact a.elim
  | NotIn => intro pins s σ H x y v u Q I rx ry q; obtain ⟨ρ, h, dx, dy, qx, qy, S, a⟩ := q; exact a.elim
theorem ne_eqD {x y : D} : NoErr (eqD x y) := by
  intro h c fs h' z
  rcases eqD_cases x y h with ⟨_, _, _, _, e⟩ | e <;> (rw [e] at z; cases z)
theorem ne_cmp {o : CmpOp} {x y : D} : NoErr (opCmp o x y) := by
  cases o
  case Eq => exact ne_eqD.bind fun _ => .ret _
  case NotEq => exact ne_eqD.bind fun _ => .ret _
  all_goals
    intro h c fs h' z
    unfold opCmp at z
    simp only at z
    repeat' split at z
    all_goals cases z

/-! ### truth -/
theorem so_truth : TruR X (rt T X.K truth) := by
  intro pins s σ H x v Q I rx q
  obtain ⟨ρ, h, d, r, S, a⟩ := q
  refine tru_ok pins s σ H x v Q I rx ?_
  have fin : ∀ {b : Bool}, After T X.K ρ H (.ok b h) (PB Q) EF → Q b H := fun a => a ρ H Ext.refl S
  cases r with
  | non => exact ⟨false, rfl, fin a⟩
  | bl b => exact ⟨b, rfl, fin a⟩
  | int i => exact ⟨_, rfl, fin a⟩
  | str z =>
    simp only [truth] at a
    split at a
    · rename_i hz
      exact ⟨_, ⟨hz, rfl⟩, fin a⟩
    · exact a.elim
  | tup ht rr => exact ⟨_, .inr (.inl ⟨_, SqT.of ht, rfl⟩), by rw [← rr.isEmpty]; exact fin a⟩
  | scr hs => exact ⟨_, .inl ⟨_, hs.sq, rfl⟩, by rw [List.isEmpty_map]; exact fin a⟩
  | ref hr =>
    simp only [truth] at a
    split at a
    · rename_i xs e
      obtain ⟨vs, ha, rr⟩ := S.lst e hr
      exact ⟨_, .inl ⟨_, SqL.of ha, rfl⟩, by rw [← rr.isEmpty]; exact fin a⟩
    · exact a.elim
theorem ne_truth {x : D} : NoErr (truth x) := by
  intro h c fs h' z
  unfold truth at z
  repeat' split at z
  all_goals cases z
end
end G60

/-! Items, slices, built-in functions and methods. -/
namespace G60
open PySem L2

section
variable {T : Tab} {X : Cx} {H : Hp} {ρ : List Addr} {h : Hm}
theorem atI_rep {K : PySem.W.Frag} {xs : List D} {vs : List V} {i : Int} {d : D} (r : Reps K H ρ xs vs) (e : atI xs i = some d) : ∃ v, atI vs i = some v ∧ Rep K H ρ d v := by
  unfold atI at e ⊢
  rw [r.length] at e
  cases q : ixN vs.length i with
  | none => rw [q] at e; cases e
  | some j => rw [q] at e; exact r.get e
theorem so_idx : IxR X (r2 T X.K opIdx) := by
  intro value slice pins s σ H x y v u Q I rx ry q hs
  obtain ⟨ρ, h, dx, dy, qx, qy, S, a⟩ := q
  cases qy with
  | int i =>
    cases qx with
    | tup hx rr =>
      simp only [opIdx] at a
      split at a
      · rename_i d e
        obtain ⟨w, hw, rw'⟩ := atI_rep rr e
        exact ix_tup value slice pins s σ H _ _ v u Q I rx ry ⟨_, _, _, _, rfl, rfl, SqT.of hx, hw, a.okV S rw'⟩ hs
      · exact a.elim
    | scr hx =>
      rename_i ns _
      simp only [opIdx] at a
      split at a
      · rename_i n e
        refine ix_list value slice pins s σ H _ _ v u Q I rx ry ⟨_, _, i, .int n, rfl, rfl, hx.sq, ?_, a.okV S (.int _)⟩ hs
        unfold atI at e ⊢
        rw [List.length_map]
        cases q : ixN ns.length i with
        | none => rw [q] at e; cases e
        | some j =>
          rw [q] at e
          have e' : ns[j]? = some n := e
          show (ns.map V.int)[j]? = _
          rw [List.getElem?_map, e']
          rfl
      · exact a.elim
    | ref hx =>
      simp only [opIdx] at a
      split at a
      · rename_i xs e1
        split at a
        · rename_i d e
          obtain ⟨vs, ha, rr⟩ := S.lst e1 hx
          obtain ⟨w, hw, rw'⟩ := atI_rep rr e
          exact ix_list value slice pins s σ H _ _ v u Q I rx ry ⟨_, _, _, _, rfl, rfl, SqL.of ha, hw, a.okV S rw'⟩ hs
        · exact a.elim
      · exact a.elim
    | _ => exact a.elim
  | _ => cases qx <;> exact a.elim
theorem ne_idx {x y : D} : NoErr (opIdx x y) := by
  intro h c fs h' z
  unfold opIdx at z
  repeat' split at z
  all_goals cases z

def rc (T : Tab) (K : PySem.W.Frag) : V → Option Int → Option Int → Hp → VK → Prop := fun x lo hi H Q => ∃ ρ h d, Rep K H ρ d x ∧ Sim T K ρ h H ∧ After T K ρ H (opCut d lo hi h) (PV K Q) EF
theorem cut_reps {K : PySem.W.Frag} {xs : List D} {vs : List V} (lo hi : Option Int) (r : Reps K H ρ xs vs) : Reps K H ρ (cutD xs lo hi) (cutV vs lo hi) := by
  unfold cutD cutV
  rw [r.length]
  exact (r.drop _).take _
theorem cut_whole {α : Type} (xs : List α) (lo hi : Option Int) (e : HT.sIx xs.length 0 lo = 0 ∧ HT.sIx xs.length xs.length hi = xs.length) : (xs.drop (HT.sIx xs.length 0 lo)).take (HT.sIx xs.length xs.length hi - HT.sIx xs.length 0 lo) = xs := by
  rw [e.1, e.2]; simp
theorem so_cut : SlR X (rc T X.K) := by
  intro pins s σ H x v vl vu lo hi sl Q I rx hs pl pu q
  obtain ⟨ρ, h, d, r, S, a⟩ := q
  cases r with
  | tup hx rr =>
    refine sl_tupA pins s σ H _ v vl vu lo hi sl Q I rx hs pl pu ⟨_, _, rfl, SqT.of hx, fun e => ?_, fun e p hp => ?_⟩
    · simp only [opCut] at a
      have e2 : cutD _ lo hi = _ := cut_whole _ lo hi (by rw [rr.length]; exact e)
      rw [e2] at a
      exact a.okV S (.tup hx rr)
    · exact a.tupV S (cut_reps lo hi rr) hp
  | ref hx =>
    simp only [opCut] at a
    split at a
    · rename_i xs e1
      obtain ⟨vs, ha, rr⟩ := S.lst e1 hx
      exact sl_list pins s σ H _ v vl vu lo hi sl Q I rx hs pl pu ⟨_, _, rfl, SqL.of ha, fun p hp => a.lstV S (cut_reps lo hi rr) hp⟩
    · exact a.elim
  | _ => exact a.elim
theorem ne_cut {x : D} {lo hi : Option Int} : NoErr (opCut x lo hi) := by
  intro h c fs h' z
  unfold opCut at z
  repeat' split at z
  all_goals cases z

/-! ### built-in functions -/
theorem items_of {K : PySem.W.Frag} (S : Sim T K ρ h H) {d : D} {v : V} (r : Rep K H ρ d v) {α : Type} {f : List D → M α} {P : α → Hm → List Addr → Hp → Prop} {E : XK} (a : After T K ρ H (M.bind (itemsD d) f h) P E) :
    ∃ xs vs p, itemsD d h = .ok xs h ∧ v = .ref p ∧ Reps K H ρ xs vs ∧ (SqL K H p vs ∨ H p = some (.tup vs)) ∧ After T K ρ H (f xs h) P E := by
  unfold M.bind itemsD at a
  cases r with
  | tup ht rr => exact ⟨_, _, _, rfl, rfl, rr, .inr ht, a⟩
  | scr hs => exact ⟨_, _, _, rfl, rfl, reps_ints _, .inl hs.sq, a⟩
  | ref hr =>
    rename_i r0 p0
    cases e : h[r0]? with
    | none => simp only [e] at a; exact a.elim
    | some c =>
      cases c with
      | lst xs =>
        simp only [e] at a
        obtain ⟨vs, ha, rr⟩ := S.lst e hr
        exact ⟨xs, vs, p0, by simp [itemsD, e], rfl, rr, .inl (SqL.of ha), a⟩
      | _ => simp only [e] at a; exact a.elim
  | _ => exact a.elim
theorem ne_items {d : D} : NoErr (itemsD d) := by
  intro h c fs h' z
  unfold itemsD at z
  repeat' split at z
  all_goals cases z

theorem CallR.imp {f : Value} {r r' : List V → Hp → VK → Prop} (a : CallR X f r) (i : ∀ xs H Q, r' xs H Q → r xs H Q) : CallR X f r' := fun pins s σ H xs us Q I rx q => a pins s σ H xs us Q I rx (i _ _ _ q)
/-- one argument -/
theorem rn_one {K : PySem.W.Frag} {f : List D → M D} {xs : List V} {Q : VK} (hf : ∀ ds, ds.length ≠ 1 → f ds = M.bad) (q : rn T K f xs H Q) : ∃ ρ h d v, xs = [v] ∧ Rep K H ρ d v ∧ Sim T K ρ h H ∧ After T K ρ H (f [d] h) (PV K Q) EF := by
  obtain ⟨ρ, h, ds, r, S, a⟩ := q
  cases r with
  | nil => rw [hf [] (by simp)] at a; exact a.elim
  | cons r rr =>
    cases rr with
    | nil => exact ⟨ρ, h, _, _, rfl, r, S, a⟩
    | cons _ _ => rw [hf _ (by simp)] at a; exact a.elim
theorem rn_two {K : PySem.W.Frag} {f : List D → M D} {xs : List V} {Q : VK} (hf : ∀ ds, ds.length ≠ 2 → f ds = M.bad) (q : rn T K f xs H Q) : ∃ ρ h d v d' v', xs = [v, v'] ∧ Rep K H ρ d v ∧ Rep K H ρ d' v' ∧ Sim T K ρ h H ∧ After T K ρ H (f [d, d'] h) (PV K Q) EF := by
  obtain ⟨ρ, h, ds, r, S, a⟩ := q
  cases r with
  | nil => rw [hf [] (by simp)] at a; exact a.elim
  | cons r rr =>
    cases rr with
    | nil => rw [hf _ (by simp)] at a; exact a.elim
    | cons r' rr' =>
      cases rr' with
      | nil => exact ⟨ρ, h, _, _, _, _, rfl, r, r', S, a⟩
      | cons _ _ => rw [hf _ (by simp)] at a; exact a.elim
theorem one_bad {b : Bi} (hb : b ≠ .max2 ∧ b ≠ .min2) : ∀ ds : List D, ds.length ≠ 1 → biM b ds = M.bad := by
  intro ds hl
  match ds, hl with
  | [], _ => cases b <;> rfl
  | [_], hl => exact absurd rfl hl
  | x :: y :: r, _ => cases b with
    | max2 => exact absurd rfl hb.1
    | min2 => exact absurd rfl hb.2
    | _ => cases x <;> rfl
theorem so_len : CallR X (.builtin "len") (rn T X.K (biM .len)) := by
  intro pins s σ H xs us Q I rx q
  obtain ⟨ρ, h, d, v, rfl, r, S, a⟩ := rn_one (one_bad ⟨by decide, by decide⟩) q
  have seq : ∀ {d : D} {v : V}, Rep X.K H ρ d v → Vals [v] us → After T X.K ρ H (M.bind (itemsD d) (fun xs => M.ret (.int xs.length)) h) (PV X.K Q) EF → wpAny (model X.prog X.w) X.A (call (.builtin "len") us) (EP X pins σ Q) X.xe s := fun {d v} r rx a => by
    obtain ⟨ds, vs, p, _, rfl, rr, sq, a⟩ := items_of S r a
    exact call_len_seq pins s σ H _ us Q I rx ⟨p, vs, rfl, sq.imp id SqT.of, by rw [← rr.length]; exact a.okV S (.int _)⟩
  cases r with
  | str z =>
    simp only [biM] at a
    split at a
    · rename_i hz
      exact call_len_str pins s σ H _ us Q I rx ⟨z, rfl, hz, a.okV S (.int _)⟩
    · exact a.elim
  | tup ht rr => exact seq (.tup ht rr) rx a
  | scr hs => exact seq (.scr hs) rx a
  | ref hr => exact seq (.ref hr) rx a
  | non => exact seq .non rx a
  | bl b => exact seq (.bl b) rx a
  | int i => exact seq (.int i) rx a
theorem so_abs : CallR X (.builtin "abs") (rn T X.K (biM .abs)) := by
  intro pins s σ H xs us Q I rx q
  obtain ⟨ρ, h, d, v, rfl, r, S, a⟩ := rn_one (one_bad ⟨by decide, by decide⟩) q
  cases r with
  | int i => exact call_abs pins s σ H _ us Q I rx ⟨i, rfl, a.okV S (.int _)⟩
  | _ => exact a.elim
theorem two_bad {b : Bi} (hb : b = .max2 ∨ b = .min2) : ∀ ds : List D, ds.length ≠ 2 → biM b ds = M.bad := by
  intro ds hl
  match ds, hl with
  | [], _ => rcases hb with rfl | rfl <;> rfl
  | [x], _ => rcases hb with rfl | rfl <;> cases x <;> rfl
  | [_, _], hl => exact absurd rfl hl
  | x :: y :: z :: r, _ => rcases hb with rfl | rfl <;> cases x <;> cases y <;> rfl
theorem so_max (hc : X.calm = true) : CallR X (.builtin "max") (rn T X.K (biM .max2)) := by
  intro pins s σ H xs us Q I rx q
  obtain ⟨ρ, h, d, v, d', v', rfl, r, r', S, a⟩ := rn_two (two_bad (.inl rfl)) q
  cases r with
  | int i =>
    cases r' with
    | int j => exact call_max2 hc pins s σ H _ us Q I rx ⟨i, j, rfl, a.okV S (.int _)⟩
    | _ => exact a.elim
  | _ => cases r' <;> exact a.elim
theorem so_min (hc : X.calm = true) : CallR X (.builtin "min") (rn T X.K (biM .min2)) := by
  intro pins s σ H xs us Q I rx q
  obtain ⟨ρ, h, d, v, d', v', rfl, r, r', S, a⟩ := rn_two (two_bad (.inr rfl)) q
  cases r with
  | int i =>
    cases r' with
    | int j => exact call_min2 hc pins s σ H _ us Q I rx ⟨i, j, rfl, a.okV S (.int _)⟩
    | _ => exact a.elim
  | _ => cases r' <;> exact a.elim
theorem so_int : CallR X (.type "int") (rn T X.K (biM .int)) := by
  intro pins s σ H xs us Q I rx q
  obtain ⟨ρ, h, d, v, rfl, r, S, a⟩ := rn_one (one_bad ⟨by decide, by decide⟩) q
  cases r with
  | int i => exact call_int1 pins s σ H _ us Q I rx (.inl ⟨i, rfl, a.okV S (.int _)⟩)
  | bl k => exact call_int1 pins s σ H _ us Q I rx (.inr ⟨k, rfl, a.okV S (.int _)⟩)
  | _ => exact a.elim
theorem so_list : CallR X (.type "list") (rn T X.K (biM .list)) := by
  intro pins s σ H xs us Q I rx q
  obtain ⟨ρ, h, d, v, rfl, r, S, a⟩ := rn_one (one_bad ⟨by decide, by decide⟩) q
  obtain ⟨ds, vs, p, _, rfl, rr, sq, a⟩ := items_of S r a
  exact call_list_of pins s σ H _ us Q I rx ⟨p, vs, rfl, sq.imp id SqT.of, fun l hl => a.lstV S rr hl⟩
theorem so_tuple : CallR X (.type "tuple") (rn T X.K (biM .tuple)) := by
  intro pins s σ H xs us Q I rx q
  obtain ⟨ρ, h, d, v, rfl, r, S, a⟩ := rn_one (one_bad ⟨by decide, by decide⟩) q
  obtain ⟨ds, vs, p, _, rfl, rr, sq, a⟩ := items_of S r a
  refine call_tuple_of pins s σ H _ us Q I rx ⟨p, vs, rfl, ?_⟩
  rcases sq with sq | sq
  · exact .inl ⟨sq, fun l hl => a.tupV S rr hl⟩
  · exact .inr ⟨SqT.of sq, a.okV S (.tup sq rr)⟩
theorem ne_bi {b : Bi} {ds : List D} : NoErr (biM b ds) := by
  unfold biM
  repeat' split
  all_goals first
    | exact .ret _
    | exact .bad
    | exact ne_items.bind fun _ => .ret _
    | exact ne_items.bind fun _ => .alloc _

/-! ### methods of lists -/
theorem lst_of {K : PySem.W.Frag} (S : Sim T K ρ h H) {d : D} {v : V} (r : Rep K H ρ d v) {α : Type} {f : Nat × List D → M α} {P : α → Hm → List Addr → Hp → Prop} {E : XK} (a : After T K ρ H (M.bind (lstM d) f h) P E) :
    ∃ rf xs vs p, d = .ref rf ∧ h[rf]? = some (.lst xs) ∧ ρ[rf]? = some p ∧ v = .ref p ∧ H p = some (.lst vs) ∧ Reps K H ρ xs vs ∧ After T K ρ H (f (rf, xs) h) P E := by
  unfold M.bind lstM at a
  cases r with
  | ref hr =>
    rename_i r0 p0
    cases e : h[r0]? with
    | none => simp only [e] at a; exact a.elim
    | some c =>
      cases c with
      | lst xs =>
        simp only [e] at a
        obtain ⟨vs, ha, rr⟩ := S.lst e hr
        exact ⟨r0, xs, vs, p0, rfl, e, hr, rfl, ha, rr, a⟩
      | _ => simp only [e] at a; exact a.elim
  | _ => exact a.elim
/-- a list is written -/
theorem After.setL {K : PySem.W.Frag} (S : Sim T K ρ h H) {rf : Nat} {p : Addr} {xs ys : List D} {vs ws : List V} {d : D} {w : V} {Q : VK} (e : h[rf]? = some (.lst xs)) (ep : ρ[rf]? = some p) (hp : H p = some (.lst vs)) (rr : Reps K H ρ ys ws) (rd : Rep K H ρ d w)
    (a : After T K ρ H (.ok d (h.set rf (.lst ys))) (PV K Q) EF) : Q w (upd H p (.lst ws)) := by
  have x : Ext K ρ H ρ (upd H p (.lst ws)) := Ext.set hp trivial
  exact a _ _ x (S.set e ep hp trivial ⟨ws, upd_same, x.reps rr⟩) _ (x.rep rd)
theorem so_append : MtR X "list.append" (rm T X.K (bmM .lst .append)) := by
  intro pins s σ H x xs v us Q I rx rs q
  obtain ⟨ρ, h, d, ds, r, rr, S, a⟩ := q
  match ds, rr with
  | [], .nil => exact a.elim
  | [y], .cons ry .nil =>
    have a : After T X.K ρ H (M.bind (lstM d) (fun (r, xs) => M.bind (M.test (decide (xs.length < sizeLine))) fun _ => M.bind (M.put r (.lst (xs ++ [y]))) fun _ => M.ret .non) h) (PV X.K Q) EF := a
    obtain ⟨rf, zs, vs, p, rfl, e, ep, rfl, hp, rz, a⟩ := lst_of S r a
    simp only [M.bind, M.test] at a
    by_cases hz : zs.length < sizeLine
    · simp only [hz, decide_true, if_true] at a
      exact mt_append pins s σ H _ _ v us Q I rx rs ⟨p, vs, _, rfl, rfl, hp, by rw [← rz.length]; exact hz, After.setL S e ep hp (rz.append (.cons ry .nil)) .non a⟩
    · simp only [hz, decide_false, Bool.false_eq_true, if_false] at a
      exact a.elim
  | _ :: _ :: _, .cons _ (.cons _ _) => exact a.elim
theorem so_reverse : MtR X "list.reverse" (rm T X.K (bmM .lst .reverse)) := by
  intro pins s σ H x xs v us Q I rx rs q
  obtain ⟨ρ, h, d, ds, r, rr, S, a⟩ := q
  match ds, rr with
  | [], .nil =>
    have a : After T X.K ρ H (M.bind (lstM d) (fun (r, xs) => M.bind (M.put r (.lst xs.reverse)) fun _ => M.ret .non) h) (PV X.K Q) EF := a
    obtain ⟨rf, zs, vs, p, rfl, e, ep, rfl, hp, rz, a⟩ := lst_of S r a
    exact mt_reverse pins s σ H _ _ v us Q I rx rs ⟨p, vs, rfl, rfl, hp, After.setL S e ep hp rz.reverse .non a⟩
  | _ :: _, .cons _ _ => exact a.elim
theorem so_pop : MtR X "list.pop" (rm T X.K (bmM .lst .pop)) := by
  intro pins s σ H x xs v us Q I rx rs q
  obtain ⟨ρ, h, d, ds, r, rr, S, a⟩ := q
  match ds, rr with
  | [], .nil =>
    have a : After T X.K ρ H (M.bind (lstM d) (fun (r, xs) => M.bind (M.opt xs.getLast?) fun y => M.bind (M.put r (.lst xs.dropLast)) fun _ => M.ret y) h) (PV X.K Q) EF := a
    obtain ⟨rf, zs, vs, p, rfl, e, ep, rfl, hp, rz, a⟩ := lst_of S r a
    simp only [M.bind] at a
    cases el : zs.getLast? with
    | none => rw [el] at a; exact a.elim
    | some y =>
      rw [el] at a
      rw [List.getLast?_eq_getElem?] at el
      obtain ⟨w, hw, rw'⟩ := rz.get el
      exact mt_pop pins s σ H _ _ v us Q I rx rs ⟨p, vs, w, rfl, rfl, hp, by rw [← rz.length]; exact hw, After.setL S e ep hp rz.dropLast rw' a⟩
  | [.int i], .cons (.int _) .nil =>
    have a : After T X.K ρ H (M.bind (lstM d) (fun (r, xs) => M.bind (M.opt (ixN xs.length i)) fun k => M.bind (M.opt xs[k]?) fun y => M.bind (M.put r (.lst (xs.eraseIdx k))) fun _ => M.ret y) h) (PV X.K Q) EF := a
    obtain ⟨rf, zs, vs, p, rfl, e, ep, rfl, hp, rz, a⟩ := lst_of S r a
    simp only [M.bind] at a
    cases el : ixN zs.length i with
    | none => rw [el] at a; exact a.elim
    | some k =>
      rw [el] at a
      simp only [M.opt] at a
      cases ek : zs[k]? with
      | none => rw [ek] at a; exact a.elim
      | some y =>
        rw [ek] at a
        obtain ⟨w, hw, rw'⟩ := rz.get ek
        obtain ⟨q1, q2, q3, q4⟩ := ixN_seq el
        obtain ⟨lz, _⟩ := I.lstM hp
        have l63 := line63
        have lz' : zs.length ≤ sizeLine := by rw [rz.length]; exact lz
        exact mt_popAt pins s σ H _ _ v us Q I rx rs ⟨p, vs, i, k, w, rfl, rfl, hp, by omega, by omega, by rw [← rz.length]; exact q1, hw, After.setL S e ep hp (rz.eraseIdx k) rw' a⟩
  | [.non], _ | [.bl _], _ | [.str _], _ | [.tup _], _ | [.ref _], _ | [.scr _], _ => exact a.elim
  | x :: y :: r, _ => cases x <;> exact a.elim
theorem so_clear : MtR X "list.clear" (rm T X.K (bmM .lst .clear)) := by
  intro pins s σ H x xs v us Q I rx rs q
  obtain ⟨ρ, h, d, ds, r, rr, S, a⟩ := q
  match ds, rr with
  | [], .nil =>
    have a : After T X.K ρ H (M.bind (lstM d) (fun (r, _) => M.bind (M.put r (.lst [])) fun _ => M.ret .non) h) (PV X.K Q) EF := a
    obtain ⟨rf, zs, vs, p, rfl, e, ep, rfl, hp, rz, a⟩ := lst_of S r a
    exact mt_clear pins s σ H _ _ v us Q I rx rs ⟨p, vs, rfl, rfl, hp, After.setL S e ep hp .nil .non a⟩
  | _ :: _, .cons _ _ => exact a.elim
theorem so_insert : MtR X "list.insert" (rm T X.K (bmM .lst .insert)) := by
  intro pins s σ H x xs v us Q I rx rs q
  obtain ⟨ρ, h, d, ds, r, rr, S, a⟩ := q
  match ds, rr with
  | [.int i, y], .cons (.int _) (.cons ry .nil) =>
    have a : After T X.K ρ H (M.bind (lstM d) (fun (r, xs) => M.bind (M.test (decide (0 ≤ i ∧ i ≤ xs.length ∧ xs.length < sizeLine))) fun _ => M.bind (M.put r (.lst (xs.take i.toNat ++ y :: xs.drop i.toNat))) fun _ => M.ret .non) h) (PV X.K Q) EF := a
    obtain ⟨rf, zs, vs, p, rfl, e, ep, rfl, hp, rz, a⟩ := lst_of S r a
    simp only [M.bind, M.test] at a
    by_cases hz : 0 ≤ i ∧ i ≤ zs.length ∧ zs.length < sizeLine
    · simp only [hz, decide_true, if_true] at a
      have l63 := line63
      refine mt_insert pins s σ H _ _ v us Q I rx rs ⟨p, vs, i, _, rfl, rfl, hp, by rw [← rz.length]; exact hz.2.2, hz.1, by omega, ?_⟩
      rw [List.append_assoc]
      exact After.setL S e ep hp ((rz.take _).append (.cons ry (rz.drop _))) .non a
    · simp only [hz, decide_false, Bool.false_eq_true, if_false] at a
      exact a.elim
  | [], _ => exact a.elim
  | [x], _ => cases x <;> exact a.elim
  | [.non, _], _ | [.bl _, _], _ | [.str _, _], _ | [.tup _, _], _ | [.ref _, _], _ | [.scr _, _], _ => exact a.elim
  | x :: _ :: _ :: _, _ => cases x <;> exact a.elim
open AutoSeq1 in
theorem ext_tup (l : Addr) (xs : Array Value) (n : Nat) (b : Addr) (ys : Array Value) (n2 : Nat) (dd : Option Addr) (sl : Array (Option Value)) (hd : ¬(!xs.isEmpty && Builtin.List.listTooLong (xs.size + ys.size)) = true) (h1 : xs.size ≤ sizeLine) (h2 : xs.size + ys.size ≤ sizeLine + 1) :
    Meets (Builtin.«list.extend» ⟨[.ref l, .ref b], []⟩) (fun _ R s => s.heap.get? l = some { cls := .type "list", dict := none, data := .seq xs n, slots := #[] } ∧ s.heap.get? b = some { cls := .type "tuple", dict := dd, data := .seq ys n2, slots := sl } ∧
      R (.ok (.ret Value.none)) { s with heap := s.heap.update l (Obj.mapSeq fun x => x ++ ys), toks := s.toks }) :=
  .of_wp fun prog w A R s hh => by
    obtain ⟨hp, g, d, tk, os⟩ := s
    obtain ⟨hl, hb, hr⟩ := hh
    have f1 := idx_int
    have f2 := sub_tuple_tuple
    have f3 := sub_list_list
    have f4 := sub_tuple_list
    have f5 := sub_list_tuple
    have hz : (xs ++ ys).size ≤ sizeLine + 1 := by rw [Array.size_append]; exact h2
    wp_walk using (wpAny_updateSeq hl rfl (hz := h1) (_hz' := hz)), wpAny_loadPart' hl, wpAny_loadPart' hb
    exact ⟨_, rfl, hr⟩
theorem mt_extendT : MtR X "list.extend" (fun x vs H Q => ∃ l b xs zs, x = .ref l ∧ vs = [.ref b] ∧ H l = some (.lst xs) ∧ H b = some (.tup zs) ∧ xs.length + zs.length ≤ sizeLine ∧ Q .non (upd H l (.lst (xs ++ zs)))) := by
  intro pins s σ H x vs v us Q I rx rv q
  obtain ⟨l, b, xs, zs, rfl, rfl, hl, hb, hz, q⟩ := q
  obtain ⟨u, rfl, ru⟩ := rv.one
  cases rx
  cases ru
  obtain ⟨hz1, its, n, r, el, e⟩ := I.lstM hl
  obtain ⟨its2, r2, ⟨⟨c2, d2, dt2, sl2⟩, e2, hc2, n2, hd2⟩, hz2⟩ := I.tuple (SqT.of hb)
  simp only at hc2 hd2
  subst hc2 hd2
  have el2 := r2.length
  have hsz : its.toArray.size + its2.toArray.size ≤ sizeLine := by rw [List.size_toArray, List.size_toArray]; omega
  refine PySem.call_meets PySem.F.slot_list_extend ⟨_, e, rfl⟩ PySem.F.entry_list_extend (PySem.F.args_list_extend_2 _ _)
    (ext_tup l its.toArray n b its2.toArray n2 d2 sl2 (PyProof.Rows.extend_door hsz) (by rw [List.size_toArray]; omega) (by omega)) ⟨e, e2, ?_⟩
  refine ⟨.non, _, I.lset (its' := its ++ its2) hl e (by simp) (r.append r2) ?_, rfl, q⟩
  rw [List.length_append]; omega
theorem so_extend : MtR X "list.extend" (rm T X.K (bmM .lst .extend)) := by
  intro pins s σ H x xs v us Q I rx rs q
  obtain ⟨ρ, h, d, ds, r, rr, S, a⟩ := q
  match ds, rr with
  | [y], .cons ry .nil =>
    have a : After T X.K ρ H (M.bind (M.test (notScr y)) (fun _ => M.bind (itemsD y) fun ys => M.bind (lstM d) fun (r, xs) => M.bind (M.test (decide (xs.length + ys.length ≤ sizeLine))) fun _ => M.bind (M.put r (.lst (xs ++ ys))) fun _ => M.ret .non) h) (PV X.K Q) EF := a
    have hs : notScr y = true := by
      cases z : notScr y with
      | true => rfl
      | false => unfold M.bind M.test at a; simp only [z] at a; exact a.elim
    have a : After T X.K ρ H (M.bind (itemsD y) (fun ys => M.bind (lstM d) fun (r, xs) => M.bind (M.test (decide (xs.length + ys.length ≤ sizeLine))) fun _ => M.bind (M.put r (.lst (xs ++ ys))) fun _ => M.ret .non) h) (PV X.K Q) EF := by
      unfold M.bind M.test at a
      simp only [hs, if_true] at a
      exact a
    obtain ⟨ys, ws, b, hi, rfl, ryy, hb, a⟩ := items_of S ry a
    obtain ⟨rf, zs, vs, p, rfl, e, ep, rfl, hp, rz, a⟩ := lst_of S r a
    simp only [M.bind, M.test] at a
    by_cases hz : zs.length + ys.length ≤ sizeLine
    · simp only [hz, decide_true, if_true] at a
      have q1 := After.setL S e ep hp (rz.append ryy) .non a
      rw [rz.length, ryy.length] at hz
      cases ry with
      | tup ht rt => exact mt_extendT pins s σ H _ _ v us Q I rx rs ⟨p, b, vs, ws, rfl, rfl, hp, by rcases hb with hb | hb; (· exact absurd (I.list hb) (by intro z; obtain ⟨i1, _, ⟨o1, n1, g1, c1, _⟩, _⟩ := z; obtain ⟨i2, _, ⟨o2, g2, c2, _⟩, _⟩ := I.tuple (SqT.of ht); rw [g1] at g2; cases g2; rw [c1] at c2; exact absurd c2 (by decide))); exact hb, hz, q1⟩
      | scr _ => cases hs
      | ref hr =>
        simp only [itemsD] at hi
        split at hi
        · rename_i ls el
          obtain ⟨us', hb', _⟩ := S.lst el hr
          rcases hb with hb | hb
          · have e2 := I.list_inj hb (SqL.of hb')
            subst e2
            exact mt_extend pins s σ H _ _ v us Q I rx rs ⟨p, b, vs, ws, rfl, rfl, hp, hb', hz, q1⟩
          · rw [hb] at hb'; cases hb'
        · cases hi
    · simp only [hz, decide_false, Bool.false_eq_true, if_false] at a
      exact a.elim
  | [], _ => exact a.elim
  | _ :: _ :: _, _ => exact a.elim
theorem ne_lst {d : D} : NoErr (lstM d) := by
  intro h c fs h' z
  unfold lstM at z
  repeat' split at z
  all_goals cases z
theorem ne_bm {t : Ty} {b : Bm} {x : D} {ds : List D} : NoErr (bmM t b x ds) := by
  unfold bmM
  split
  · exact ne_lst.bind fun _ => (NoErr.test _).bind fun _ => (NoErr.put _ _).bind fun _ => .ret _
  · exact ne_lst.bind fun _ => (NoErr.opt _).bind fun _ => (NoErr.put _ _).bind fun _ => .ret _
  · exact ne_lst.bind fun _ => (NoErr.opt _).bind fun _ => (NoErr.opt _).bind fun _ => (NoErr.put _ _).bind fun _ => .ret _
  · exact ne_lst.bind fun _ => (NoErr.put _ _).bind fun _ => .ret _
  · exact ne_lst.bind fun _ => (NoErr.put _ _).bind fun _ => .ret _
  · exact (NoErr.test _).bind fun _ => ne_items.bind fun _ => ne_lst.bind fun _ => (NoErr.test _).bind fun _ => (NoErr.put _ _).bind fun _ => .ret _
  · exact ne_lst.bind fun _ => (NoErr.test _).bind fun _ => (NoErr.put _ _).bind fun _ => .ret _
  · exact .bad
end
end G60

/-! Expressions by expressions. -/
namespace G60
open PySem L2

theorem PE.imp {X : Cx} {e : Expr} {t t' : TE} (a : PE X e t) (i : ∀ σ H Q, t' σ H Q → t σ H Q) : PE X e t' := ⟨fun pins s σ H Q I q => a.run pins s σ H Q I (i _ _ _ q)⟩
theorem PT.imp {X : Cx} {e : Expr} {t t' : TT} (a : PT X e t) (i : ∀ σ H Q, t' σ H Q → t σ H Q) : PT X e t' := ⟨fun pins s σ H Q I q => a.run pins s σ H Q I (i _ _ _ q)⟩
theorem PW.imp {X : Cx} {e : Expr} {t t' : TT} (a : PW X e t) (i : ∀ σ H Q, t' σ H Q → t σ H Q) : PW X e t' := ⟨fun wh pins s σ H Q I q => a.run wh pins s σ H Q I (i _ _ _ q)⟩
theorem PA.imp {X : Cx} {e : List Expr} {t t' : TA} (a : PA X e t) (i : ∀ σ H Q, t' σ H Q → t σ H Q) : PA X e t' := ⟨fun pos pins s σ H Q I q => a.run pos pins s σ H Q I (i _ _ _ q)⟩

section
variable {T : Tab} {X : Cx} {W : WX}
abbrev SE (T : Tab) (W : WX) (X : Cx) (e : Expr) (m : Ev → M D) : Prop := PE X e (tE T X.K W m)
abbrev ST (T : Tab) (W : WX) (X : Cx) (e : Expr) (m : Ev → M Bool) : Prop := PT X e (tT T X.K W m)
abbrev SAs (T : Tab) (W : WX) (X : Cx) (es : List Expr) (m : Ev → M (List D)) : Prop := PA X es (tEs T X.K W m)
variable {a b c e : Expr} {es : List Expr} {ma mb mc : Ev → M D} {ms : Ev → M (List D)} {pos : Pos}

/-- run a, and go on where it ends -/
theorem tE.then {m : Ev → M D} {f : D → Ev → M D} {σ : St} {H : Hp} {Q : VK} {R : V → Hp → Prop} (q : tE T X.K W (fun env => M.bind (m env) fun x => f x env) σ H Q)
    (k : ∀ ρ h env H1 x v, EnvRep X.K H1 ρ env σ → Sim T X.K ρ h H1 → Rep X.K H1 ρ x v → After T X.K ρ H1 (f x env h) (PV X.K Q) (fun c d H' => W c d σ H') → R v H1) : tE T X.K W m σ H R := by
  obtain ⟨ρ, env, h, er, S, a⟩ := q
  exact ⟨ρ, env, h, er, S, (After.bind a).imp (fun x h1 ρ1 H1 e1 S1 p v rv => k ρ1 h1 env H1 x v (er.mono e1) S1 rv p) fun _ _ _ z => z⟩

theorem se_const {d : D} {v : V} (hp : PE X e (tC v)) (r : ∀ (H : Hp) (ρ : List Addr), Rep X.K H ρ d v) : SE T W X e (fun _ => M.ret d) := by
  refine PE.imp hp fun σ H Q q => ?_
  obtain ⟨ρ, env, h, er, S, a⟩ := q
  exact a ρ H Ext.refl S v (r H ρ)
theorem se_var {i : Nat} (hp : PE X e (tVar i)) : SE T W X e (fun env => lk env i) := by
  refine PE.imp hp fun σ H Q q => ?_
  obtain ⟨ρ, env, h, er, S, a⟩ := q
  unfold lk at a
  cases q : env[i]? with
  | none => simp only [q] at a; exact a.elim
  | some o =>
    cases o with
    | none => simp only [q] at a; exact a.elim
    | some d =>
      simp only [q] at a
      obtain ⟨v, hv, rv⟩ := er.get q
      exact ⟨v, hv, a ρ H Ext.refl S v rv⟩
theorem r2_of {f : D → D → M D} (n : ∀ x y, NoErr (f x y)) {σ : St} {H : Hp} {Q : VK} (q : tE T X.K W (fun env => M.bind (ma env) fun x => M.bind (mb env) fun y => f x y) σ H Q) : tOp (r2 T X.K f) (tE T X.K W ma) (tE T X.K W mb) σ H Q := by
  refine tE.then (f := fun x env => M.bind (mb env) fun y => f x y) q fun ρ h env H1 x v er S rv a => ?_
  exact ⟨ρ, env, h, er, S, (After.bind a).imp (fun y h2 ρ2 H2 e2 S2 p w rw => ⟨ρ2, h2, x, y, e2.rep rv, rw, S2, p.ne (n x y)⟩) fun _ _ _ z => z⟩
theorem r1_of {f : D → M D} (n : ∀ x, NoErr (f x)) {σ : St} {H : Hp} {Q : VK} (q : tE T X.K W (fun env => M.bind (ma env) fun x => f x) σ H Q) : tE T X.K W ma σ H fun x H1 => r1 T X.K f x H1 Q :=
  tE.then (f := fun x _ => f x) q fun ρ h env H1 x v er S rv a => ⟨ρ, h, x, rv, S, a.ne (n x)⟩
theorem se_bin {o : Operator} (ho : binOk o = true) (ha : SE T W X a ma) (hb : SE T W X b mb) : SE T W X (.BinOp a o b pos) (fun env => M.bind (ma env) fun x => M.bind (mb env) fun y => opBin o x y) :=
  PE.imp (pe_op (so_bin ho) ha hb) fun σ H Q q => r2_of (fun _ _ => ne_bin) q
theorem se_cmp {o : CmpOp} (hu : X.A.units + 64 < cLine) (hm : behindInMarks o b = false) (ha : SE T W X a ma) (hb : SE T W X b mb) : SE T W X (.Compare a [o] [b] pos) (fun env => M.bind (ma env) fun x => M.bind (mb env) fun y => opCmp o x y) :=
  PE.imp (pe_cmpR (so_cmp hu) ha hb hm) fun σ H Q q => r2_of (fun _ _ => ne_cmp) q
theorem so_neg : UnR X (unaryOp .USub) (r1 T X.K negM) := by
  intro pins s σ H x v Q I rx q
  obtain ⟨ρ, h, d, r, S, a⟩ := q
  cases r with
  | int i => exact un_neg pins s σ H _ v Q I rx ⟨i, rfl, a.okV S (.int _)⟩
  | _ => exact a.elim
theorem ne_neg {x : D} : NoErr (negM x) := by
  unfold negM; split
  · exact .ret _
  · exact .bad
theorem se_neg (ha : SE T W X a ma) : SE T W X (.UnaryOp .USub a pos) (fun env => M.bind (ma env) negM) :=
  PE.imp (pe_un so_neg ha) fun σ H Q q => r1_of (fun _ => ne_neg) q
theorem se_idx (hs : PlainIx b) (ha : SE T W X a ma) (hb : SE T W X b mb) : SE T W X (.Subscript a b pos) (fun env => M.bind (ma env) fun x => M.bind (mb env) fun y => opIdx x y) :=
  PE.imp (pe_ix so_idx ha hb hs) fun σ H Q q => r2_of (fun _ _ => ne_idx) q

/-! ### truth -/
/-- the truth of x is k, by the heap -/
theorem truV_of {H : Hp} {ρ : List Addr} {h : Hm} {x : D} {v : V} {P : Bool → Hm → List Addr → Hp → Prop} {E : XK} {α : Type} {f : Bool → M α} {Pa : α → Hm → List Addr → Hp → Prop} (S : Sim T X.K ρ h H) (r : Rep X.K H ρ x v) (a : After T X.K ρ H (M.bind (truth x) f h) Pa E) :
    ∃ k, TruV X.K v H k ∧ After T X.K ρ H (f k h) Pa E := by
  unfold M.bind at a
  cases r with
  | non => exact ⟨false, rfl, a⟩
  | bl b => exact ⟨b, rfl, a⟩
  | int i => exact ⟨_, rfl, a⟩
  | str z =>
    simp only [truth] at a
    split at a
    · rename_i e
      split at e
      · rename_i hz
        cases e
        exact ⟨_, ⟨hz, rfl⟩, a⟩
      · cases e
    · rename_i e; split at e <;> cases e
    · exact a.elim
  | tup ht rr => exact ⟨_, .inr (.inl ⟨_, SqT.of ht, rfl⟩), by rw [← rr.isEmpty]; exact a⟩
  | scr hs => exact ⟨_, .inl ⟨_, hs.sq, rfl⟩, by rw [List.isEmpty_map]; exact a⟩
  | ref hr =>
    rename_i r0 p0
    simp only [truth] at a
    cases e : h[r0]? with
    | none => simp only [e] at a; exact a.elim
    | some c =>
      cases c with
      | lst xs =>
        simp only [e] at a
        obtain ⟨vs, ha, rr⟩ := S.lst e hr
        exact ⟨_, .inl ⟨_, SqL.of ha, rfl⟩, by rw [← rr.isEmpty]; exact a⟩
      | _ => simp only [e] at a; exact a.elim
theorem se_not (ha : SE T W X a ma) : SE T W X (.UnaryOp .Not a pos) (fun env => M.bind (ma env) fun x => M.bind (truth x) fun b => M.ret (.bl (!b))) := by
  refine PE.imp (pe_notT ha) fun σ H Q q => ?_
  refine tE.then (f := fun x _ => M.bind (truth x) fun b => M.ret (.bl (!b))) q fun ρ h env H1 x v er S rv a => ?_
  obtain ⟨k, hk, a⟩ := truV_of (P := fun _ _ _ _ => True) S rv a
  exact ⟨k, hk, a ρ H1 Ext.refl S _ (.bl _)⟩
theorem se_and {rest : List Expr} (ha : SE T W X a ma) (hb : SE T W X (.BoolOp .And (b :: rest) pos) mb) : SE T W X (.BoolOp .And (a :: b :: rest) pos) (fun env => M.bind (ma env) fun x => M.bind (truth x) fun t => if t = true then mb env else M.ret x) := by
  refine PE.imp (pe_andT ha hb) fun σ H Q q => ?_
  refine tE.then (f := fun x env => M.bind (truth x) fun t => if t = true then mb env else M.ret x) q fun ρ h env H1 x v er S rv a => ?_
  obtain ⟨k, hk, a⟩ := truV_of (P := fun _ _ _ _ => True) S rv a
  refine ⟨k, hk, ?_⟩
  cases k with
  | true => exact ⟨ρ, env, h, er, S, a⟩
  | false => exact a ρ H1 Ext.refl S _ rv
theorem se_or {rest : List Expr} (ha : SE T W X a ma) (hb : SE T W X (.BoolOp .Or (b :: rest) pos) mb) : SE T W X (.BoolOp .Or (a :: b :: rest) pos) (fun env => M.bind (ma env) fun x => M.bind (truth x) fun t => if t = true then M.ret x else mb env) := by
  refine PE.imp (pe_orT ha hb) fun σ H Q q => ?_
  refine tE.then (f := fun x env => M.bind (truth x) fun t => if t = true then M.ret x else mb env) q fun ρ h env H1 x v er S rv a => ?_
  obtain ⟨k, hk, a⟩ := truV_of (P := fun _ _ _ _ => True) S rv a
  refine ⟨k, hk, ?_⟩
  cases k with
  | true => exact a ρ H1 Ext.refl S _ rv
  | false => exact ⟨ρ, env, h, er, S, a⟩
theorem se_one {op : BoolOp} (ha : SE T W X a ma) : SE T W X (.BoolOp op [a] pos) ma := pe_one ha
abbrev tru (m : Ev → M D) : Ev → M Bool := fun env => M.bind (m env) truth
/-- a test by its value's truth -/
theorem st_plain (ha : SE T W X a ma) (he : ∀ whole, isTrue a X.env whole = (do let v ← whole; standAt a.pos; holding [v] (truthy v))) : ST T W X a (tru ma) := by
  refine PT.imp (pt_truth ha he) fun σ H Q q => ?_
  obtain ⟨ρ, env, h, er, S, a⟩ := q
  refine ⟨ρ, env, h, er, S, (After.bind a).imp (fun x h1 ρ1 H1 e1 S1 p v rv => ?_) fun _ _ _ z => z⟩
  have p' : After T X.K ρ1 H1 (M.bind (truth x) (fun b => M.ret b) h1) (PB Q) (fun c d H' => W c d σ H') := by
    unfold M.bind
    unfold M.bind at p
    cases et : truth x h1 <;> (rw [et] at p; exact p)
  obtain ⟨k, hk, a⟩ := truV_of (P := fun _ _ _ _ => True) S1 rv p'
  exact ⟨k, hk, a ρ1 H1 Ext.refl S1⟩
theorem cmp_bl {o : CmpOp} {x y : D} {h h' : Hm} {d : D} (e : opCmp o x y h = .ok d h') : ∃ b, d = .bl b := by
  cases o
  case Eq =>
    rcases eqD_cases x y h with ⟨_, _, _, _, q⟩ | q <;> (unfold opCmp M.bind at e; simp only [q] at e; cases e)
    exact ⟨_, rfl⟩
  case NotEq =>
    rcases eqD_cases x y h with ⟨_, _, _, _, q⟩ | q <;> (unfold opCmp M.bind at e; simp only [q] at e; cases e)
    exact ⟨_, rfl⟩
  all_goals
    unfold opCmp at e
    simp only at e
    repeat' split at e
    all_goals first
      | (cases e; exact ⟨_, rfl⟩)
      | cases e
/-- a comparison as a test -/
theorem st_cmp {o : CmpOp} (hu : X.A.units + 64 < cLine) (hm : behindInMarks o b = false) (ha : SE T W X a ma) (hb : SE T W X b mb) : ST T W X (.Compare a [o] [b] pos) (tru fun env => M.bind (ma env) fun x => M.bind (mb env) fun y => opCmp o x y) := by
  refine PT.imp (pt_cmpR (so_cmp (T := T) hu) ha hb hm) fun σ H Q q => ?_
  obtain ⟨ρ, env, h, er, S, a⟩ := q
  have a1 : After T X.K ρ H (M.bind (ma env) (fun x => M.bind (mb env) fun y => M.bind (opCmp o x y) truth) h) (PB Q) (fun c d H' => W c d σ H') := by
    have e : M.bind (ma env) (fun x => M.bind (mb env) fun y => M.bind (opCmp o x y) truth) h = M.bind (M.bind (ma env) fun x => M.bind (mb env) fun y => opCmp o x y) truth h := by
      unfold M.bind
      cases ma env h with
      | ok x h1 => simp only; cases mb env h1 <;> rfl
      | _ => rfl
    rw [e]; exact a
  refine ⟨ρ, env, h, er, S, (After.bind a1).imp (fun x h1 ρ1 H1 e1 S1 p v rv => ?_) fun _ _ _ z => z⟩
  refine ⟨ρ1, env, h1, er.mono e1, S1, (After.bind p).imp (fun y h2 ρ2 H2 e2 S2 p2 w rw => ?_) fun _ _ _ z => z⟩
  refine ⟨ρ2, h2, x, y, e2.rep rv, rw, S2, ?_⟩
  have p3 := (After.bind p2).ne (E' := EF) ne_cmp
  cases ec : opCmp o x y h2 with
  | ok d h3 =>
    rw [ec] at p3
    obtain ⟨k, rfl⟩ := cmp_bl ec
    intro ρ3 H3 e3 S3 u ru
    cases ru
    exact ⟨k, rfl, p3 ρ3 H3 e3 S3 ρ3 H3 Ext.refl S3⟩
  | err c fs h3 => exact (ne_cmp _ _ _ _ ec).elim
  | bad => rw [ec] at p3; exact p3
theorem bind_assoc {α β γ : Type} (m : M α) (f : α → M β) (g : β → M γ) : M.bind (M.bind m f) g = M.bind m fun x => M.bind (f x) g := by
  funext h
  unfold M.bind
  cases m h <;> rfl
theorem bind_ret {α β : Type} (a : α) (f : α → M β) : M.bind (M.ret a) f = f a := rfl
theorem bind_ite {α β : Type} (t : Bool) (a b : M α) (f : α → M β) : M.bind (if t = true then a else b) f = if t = true then M.bind a f else M.bind b f := by cases t <;> rfl
theorem tT.then {m : Ev → M Bool} {f : Bool → Ev → M Bool} {σ : St} {H : Hp} {Q : Bool → Hp → Prop} {R : Bool → Hp → Prop} (q : tT T X.K W (fun env => M.bind (m env) fun x => f x env) σ H Q)
    (k : ∀ ρ h env H1 x, EnvRep X.K H1 ρ env σ → Sim T X.K ρ h H1 → After T X.K ρ H1 (f x env h) (PB Q) (fun c d H' => W c d σ H') → R x H1) : tT T X.K W m σ H R := by
  obtain ⟨ρ, env, h, er, S, a⟩ := q
  exact ⟨ρ, env, h, er, S, (After.bind a).imp (fun x h1 ρ1 H1 e1 S1 p => k ρ1 h1 env H1 x (er.mono e1) S1 p) fun _ _ _ z => z⟩
theorem st_not {m : Ev → M D} (ha : ST T W X a (tru m)) : ST T W X (.UnaryOp .Not a pos) (tru fun env => M.bind (m env) fun x => M.bind (truth x) fun b => M.ret (.bl (!b))) := by
  refine PT.imp (pt_not ha) fun σ H Q q => ?_
  have q' : tT T X.K W (fun env => M.bind (tru m env) fun b => M.ret (!b)) σ H Q := by
    have e : (tru fun env => M.bind (m env) fun x => M.bind (truth x) fun b => M.ret (.bl (!b))) = fun env => M.bind (tru m env) fun b => M.ret (!b) := by
      funext env
      unfold tru
      simp only [bind_assoc]
      rfl
    rw [← e]; exact q
  exact tT.then (f := fun x _ => M.ret (!x)) q' fun ρ h env H1 x er S a => a ρ H1 Ext.refl S
abbrev SW (T : Tab) (W : WX) (X : Cx) (e : Expr) (m : Ev → M Bool) : Prop := PW X e (tT T X.K W m)
theorem sw_and1 (ha : ST T W X a (tru ma)) : SW T W X (.BoolOp .And [a] pos) (tru ma) := pw_and1 ha
theorem sw_or1 (ha : ST T W X a (tru ma)) : SW T W X (.BoolOp .Or [a] pos) (tru ma) := pw_or1 ha
theorem truth_same {x : D} {h h2 : Hm} {t : Bool} (e : truth x h = .ok t h2) : h2 = h := by
  unfold truth at e
  repeat' split at e
  all_goals first
    | (injection e with _ e2; exact e2.symm)
    | cases e
/-- truth of an and: where the first is true the second's -/
theorem tru_and {m n : Ev → M D} {σ : St} {H : Hp} {Q : Bool → Hp → Prop} (q : tT T X.K W (tru fun env => M.bind (m env) fun x => M.bind (truth x) fun t => if t = true then n env else M.ret x) σ H Q) :
    tT T X.K W (fun env => M.bind (tru m env) fun t => if t = true then tru n env else M.ret false) σ H Q := by
  obtain ⟨ρ, env, h, er, S, a⟩ := q
  refine ⟨ρ, env, h, er, S, ?_⟩
  have e : tru (fun env => M.bind (m env) fun x => M.bind (truth x) fun t => if t = true then n env else M.ret x) env h = M.bind (tru m env) (fun t => if t = true then tru n env else M.ret false) h := by
    unfold tru
    simp only [bind_assoc]
    unfold M.bind
    cases m env h with
    | ok x h1 =>
      simp only
      cases et : truth x h1 with
      | ok t h2 =>
        simp only
        cases t with
        | true => rfl
        | false =>
          obtain rfl := truth_same et
          show (match Res.ok x h2 with | .ok a h' => truth a h' | .err c fs h' => .err c fs h' | .bad => .bad) = _
          simp only [et]
          rfl
      | _ => rfl
    | _ => rfl
  rw [e] at a; exact a
theorem tru_or {m n : Ev → M D} {σ : St} {H : Hp} {Q : Bool → Hp → Prop} (q : tT T X.K W (tru fun env => M.bind (m env) fun x => M.bind (truth x) fun t => if t = true then M.ret x else n env) σ H Q) :
    tT T X.K W (fun env => M.bind (tru m env) fun t => if t = true then M.ret true else tru n env) σ H Q := by
  obtain ⟨ρ, env, h, er, S, a⟩ := q
  refine ⟨ρ, env, h, er, S, ?_⟩
  have e : tru (fun env => M.bind (m env) fun x => M.bind (truth x) fun t => if t = true then M.ret x else n env) env h = M.bind (tru m env) (fun t => if t = true then M.ret true else tru n env) h := by
    unfold tru
    simp only [bind_assoc]
    unfold M.bind
    cases m env h with
    | ok x h1 =>
      simp only
      cases et : truth x h1 with
      | ok t h2 =>
        simp only
        cases t with
        | false => rfl
        | true =>
          obtain rfl := truth_same et
          show (match Res.ok x h2 with | .ok a h' => truth a h' | .err c fs h' => .err c fs h' | .bad => .bad) = _
          simp only [et]
          rfl
      | _ => rfl
    | _ => rfl
  rw [e] at a; exact a
theorem sw_and {rest : List Expr} (ha : ST T W X a (tru ma)) (hb : SW T W X (.BoolOp .And (b :: rest) pos) (tru mb)) : SW T W X (.BoolOp .And (a :: b :: rest) pos) (tru fun env => M.bind (ma env) fun x => M.bind (truth x) fun t => if t = true then mb env else M.ret x) := by
  refine PW.imp (pw_and ha hb) fun σ H Q q => ?_
  refine tT.then (f := fun t env => if t = true then tru mb env else M.ret false) (tru_and q) fun ρ h env H1 x er S a => ?_
  cases x with
  | true => exact ⟨ρ, env, h, er, S, a⟩
  | false => exact a ρ H1 Ext.refl S
theorem sw_or {rest : List Expr} (ha : ST T W X a (tru ma)) (hb : SW T W X (.BoolOp .Or (b :: rest) pos) (tru mb)) : SW T W X (.BoolOp .Or (a :: b :: rest) pos) (tru fun env => M.bind (ma env) fun x => M.bind (truth x) fun t => if t = true then M.ret x else mb env) := by
  refine PW.imp (pw_or ha hb) fun σ H Q q => ?_
  refine tT.then (f := fun t env => if t = true then M.ret true else tru mb env) (tru_or q) fun ρ h env H1 x er S a => ?_
  cases x with
  | false => exact ⟨ρ, env, h, er, S, a⟩
  | true => exact a ρ H1 Ext.refl S
theorem se_ite (hc : ST T W X c (tru mc)) (ha : SE T W X a ma) (hb : SE T W X b mb) : SE T W X (.IfExp c a b pos) (fun env => M.bind (mc env) fun x => M.bind (truth x) fun t => if t = true then ma env else mb env) := by
  refine PE.imp (pe_ifExp hc ha hb) fun σ H Q q => ?_
  obtain ⟨ρ, env, h, er, S, a⟩ := q
  have a : After T X.K ρ H (M.bind (tru mc env) (fun t => if t = true then ma env else mb env) h) (PV X.K Q) (fun c d H' => W c d σ H') := by
    unfold tru; rw [bind_assoc]; exact a
  refine ⟨ρ, env, h, er, S, (After.bind a).imp (fun x h1 ρ1 H1 e1 S1 p => ?_) fun _ _ _ z => z⟩
  cases x with
  | true => exact ⟨ρ1, env, h1, er.mono e1, S1, p⟩
  | false => exact ⟨ρ1, env, h1, er.mono e1, S1, p⟩

/-! ### lists of expressions -/
theorem sa_nil : SAs T W X [] (fun _ => M.ret []) := by
  refine PA.imp pa_nil fun σ H Q q => ?_
  obtain ⟨ρ, env, h, er, S, a⟩ := q
  exact a ρ H Ext.refl S [] .nil
theorem sa_cons (hs : starEach (e :: es) X.env = (false, eval e X.env) :: starEach es X.env) (ha : SE T W X e ma) (hb : SAs T W X es ms) : SAs T W X (e :: es) (fun env => M.bind (ma env) fun x => M.bind (ms env) fun xs => M.ret (x :: xs)) := by
  refine PA.imp (pa_cons ha hb hs) fun σ H Q q => ?_
  obtain ⟨ρ, env, h, er, S, a⟩ := q
  refine ⟨ρ, env, h, er, S, (After.bind a).imp (fun x h1 ρ1 H1 e1 S1 p v rv => ?_) fun _ _ _ z => z⟩
  refine ⟨ρ1, env, h1, er.mono e1, S1, (After.bind p).imp (fun xs h2 ρ2 H2 e2 S2 p2 vs rvs => ?_) fun _ _ _ z => z⟩
  exact p2 ρ2 H2 Ext.refl S2 _ (.cons (e2.rep rv) rvs)
/-- run the arguments, and go on -/
theorem tEs.then {f : List D → Ev → M D} {σ : St} {H : Hp} {Q : VK} {R : List V → Hp → Prop} (q : tE T X.K W (fun env => M.bind (ms env) fun x => f x env) σ H Q)
    (k : ∀ ρ h env H1 x v, EnvRep X.K H1 ρ env σ → Sim T X.K ρ h H1 → Reps X.K H1 ρ x v → After T X.K ρ H1 (f x env h) (PV X.K Q) (fun c d H' => W c d σ H') → R v H1) : tEs T X.K W ms σ H R := by
  obtain ⟨ρ, env, h, er, S, a⟩ := q
  exact ⟨ρ, env, h, er, S, (After.bind a).imp (fun x h1 ρ1 H1 e1 S1 p v rv => k ρ1 h1 env H1 x v (er.mono e1) S1 rv p) fun _ _ _ z => z⟩
theorem test_of {α : Type} {ρ : List Addr} {H : Hp} {h : Hm} {b : Bool} {f : Unit → M α} {P : α → Hm → List Addr → Hp → Prop} {E : XK} (a : After T X.K ρ H (M.bind (M.test b) f h) P E) : b = true ∧ After T X.K ρ H (f () h) P E := by
  unfold M.bind M.test at a
  cases b with
  | true => exact ⟨rfl, a⟩
  | false => exact a.elim
theorem opt_of {α β : Type} {ρ : List Addr} {H : Hp} {h : Hm} {o : Option β} {f : β → M α} {P : α → Hm → List Addr → Hp → Prop} {E : XK} (a : After T X.K ρ H (M.bind (M.opt o) f h) P E) : ∃ b, o = some b ∧ After T X.K ρ H (f b h) P E := by
  unfold M.bind M.opt at a
  cases o with
  | some b => exact ⟨b, rfl, a⟩
  | none => exact a.elim
theorem se_tup {k : Nat} (hs : SAs T W X es ms) : SE T W X (.Tuple es k pos) (fun env => M.bind (ms env) fun xs => M.bind (M.test (decide (xs.length ≤ sizeLine))) fun _ => M.ret (.tup xs)) := by
  refine PE.imp (pe_tup hs) fun σ H Q q => ?_
  refine tEs.then (f := fun xs _ => M.bind (M.test (decide (xs.length ≤ sizeLine))) fun _ => M.ret (.tup xs)) q fun ρ h env H1 x v er S rv a => ?_
  obtain ⟨hl, a⟩ := test_of a
  refine ⟨by rw [← rv.length]; exact of_decide_eq_true hl, fun p hp => ?_⟩
  exact After.tupV S rv hp (a.ne (NoErr.ret _))
theorem se_lst (hs : SAs T W X es ms) : SE T W X (.List es pos) (fun env => M.bind (ms env) fun xs => M.bind (M.test (decide (xs.length ≤ sizeLine))) fun _ => M.alloc (.lst xs)) := by
  refine PE.imp (pe_lst hs) fun σ H Q q => ?_
  refine tEs.then (f := fun xs _ => M.bind (M.test (decide (xs.length ≤ sizeLine))) fun _ => M.alloc (.lst xs)) q fun ρ h env H1 x v er S rv a => ?_
  obtain ⟨hl, a⟩ := test_of a
  refine ⟨by rw [← rv.length]; exact of_decide_eq_true hl, fun p hp => ?_⟩
  exact After.lstV S rv hp (After.ne (m := M.alloc (.lst x)) (NoErr.alloc _) a)
/-- a built-in function or class, by values -/
theorem cb_of {f : List D → M D} (n : ∀ x, NoErr (f x)) {σ : St} {H : Hp} {Q : VK} (q : tE T X.K W (fun env => M.bind (ms env) fun x => f x) σ H Q) : tCB (rn T X.K f) (tEs T X.K W ms) σ H Q :=
  tEs.then (f := fun x _ => f x) q fun ρ h env H1 x v er S rv a => ⟨ρ, h, x, rv, S, a.ne (n x)⟩

/-! ### slices -/
abbrev SO (T : Tab) (W : WX) (X : Cx) (e : Option Expr) (m : Ev → M (Option Int)) : Prop := PO X e fun σ H Q => ∃ ρ env h, EnvRep X.K H ρ env σ ∧ Sim T X.K ρ h H ∧ After T X.K ρ H (m env h) (fun o _ _ H' => Q o H') fun c d H' => W c d σ H'
theorem PO.imp {e : Option Expr} {t t' : TO} (a : PO X e t) (i : ∀ σ H Q, t' σ H Q → t σ H Q) : PO X e t' := ⟨fun pins s σ H Q I q => a.run pins s σ H Q I (i _ _ _ q)⟩
theorem so_no : SO T W X none (fun _ => M.ret none) := PO.imp po_none fun σ H Q ⟨ρ, env, h, er, S, a⟩ => a ρ H Ext.refl S
theorem so_yes (ha : SE T W X a ma) : SO T W X (some a) (fun env => M.bind (ma env) partM) := by
  refine PO.imp (po_some ha) fun σ H Q ⟨ρ, env, h, er, S, q⟩ => ?_
  refine ⟨ρ, env, h, er, S, (After.bind q).imp (fun x h1 ρ1 H1 e1 S1 p v rv => ?_) fun _ _ _ z => z⟩
  cases rv with
  | int i => exact ⟨i, rfl, p ρ1 H1 Ext.refl S1⟩
  | _ => exact p.elim
theorem se_cut {lo hi : Option Expr} {ml mh : Ev → M (Option Int)} {p2 : Pos} (ha : SE T W X a ma) (hl : SO T W X lo ml) (hh : SO T W X hi mh) : SE T W X (.Subscript a (.Slice lo hi none p2) pos) (fun env => M.bind (ma env) fun x => M.bind (ml env) fun l => M.bind (mh env) fun u => opCut x l u) := by
  refine PE.imp (pe_slice (so_cut (T := T)) ha hl hh) fun σ H Q q => ?_
  refine tE.then (f := fun x env => M.bind (ml env) fun l => M.bind (mh env) fun u => opCut x l u) q fun ρ h env H1 x v er S rv a => ?_
  refine ⟨ρ, env, h, er, S, (After.bind a).imp (fun l h2 ρ2 H2 e2 S2 p2 => ?_) fun _ _ _ z => z⟩
  refine ⟨ρ2, env, h2, er.mono e2, S2, (After.bind p2).imp (fun u h3 ρ3 H3 e3 S3 p3 => ?_) fun _ _ _ z => z⟩
  exact ⟨ρ3, h3, x, (e2.trans e3).rep rv, S3, p3.ne ne_cut⟩
end
end G60

/-! Attributes, own defs, methods, new objects. -/
namespace G60
open PySem L2

def noStar : Expr → Bool
  | .Starred _ _ => false
  | _ => true
theorem star_cons {e : Expr} {es : List Expr} {env : Env} (h : noStar e = true) : starEach (e :: es) env = (false, eval e env) :: starEach es env := by
  cases e <;> first | rfl | cases h
theorem star_any {pos : Pos} {env : Env} : ∀ {es : List Expr}, es.all noStar = true → (backTo pos (starEach es env)).any (·.1) = false
  | [], _ => rfl
  | e :: es, h => by
    have h' : noStar e = true ∧ es.all noStar = true := by simpa using h
    rw [star_cons h'.1]
    show (false || (backTo pos (starEach es env)).any (·.1)) = false
    rw [star_any h'.2]; rfl
theorem star_few {pos : Pos} {env : Env} : ∀ {es : List Expr}, es.all noStar = true → (backTo pos (starEach es env)).all (fun x => !x.1) = true
  | [], _ => rfl
  | e :: es, h => by
    have h' : noStar e = true ∧ es.all noStar = true := by simpa using h
    rw [star_cons h'.1]
    show (!false && (backTo pos (starEach es env)).all (fun x => !x.1)) = true
    rw [star_few h'.2]; rfl

/-! ### what is known of the classes -/
structure CF (T : Tab) (K : PySem.W.Frag) : Prop where
  cls : ∀ (C : Nat) (Ca : Addr), T.cls[C]? = some Ca → Cls K Ca
  noa : ∀ (C n : Nat) (Ca : Addr) (f : Str), T.cls[C]? = some Ca → T.has C n = true → T.att[n]? = some f → NoAttr K Ca f
  nd : T.att.Nodup
section
variable {T : Tab} {K : PySem.W.Frag} {H : Hp} {ρ : List Addr} {C : Nat}
theorem att_inj (nd : T.att.Nodup) {m n : Nat} {f : Str} (a : T.att[m]? = some f) (b : T.att[n]? = some f) : m = n := by
  obtain ⟨h1, e1⟩ := List.getElem?_eq_some_iff.mp a
  obtain ⟨h2, e2⟩ := List.getElem?_eq_some_iff.mp b
  exact (List.getElem_inj nd).mp (e1.trans e2.symm)
theorem FRep.look (nd : T.att.Nodup) {n : Nat} {d : D} : ∀ {fs : List (Nat × D)} {vs : List (Str × V)}, FRep T K H ρ C fs vs → fs.lookup n = some d → ∃ f v, T.att[n]? = some f ∧ T.has C n = true ∧ vs.lookup f = some v ∧ Rep K H ρ d v
  | _, _, .nil, e => by cases e
  | (m, x) :: fs, (g, w) :: vs, .cons r t, e => by
    obtain ⟨r1, r2, r3⟩ := r
    have r1 : T.att[m]? = some g := r1
    by_cases hm : n = m
    · subst hm
      have e' : some x = some d := by simpa [List.lookup] using e
      cases e'
      exact ⟨g, w, r1, r2, by simp [List.lookup], r3⟩
    · have hb : (n == m) = false := beq_eq_false_iff_ne.mpr hm
      have e' : fs.lookup n = some d := by simpa only [List.lookup, hb] using e
      obtain ⟨f, v, a1, a2, a3, a4⟩ := FRep.look nd t e'
      refine ⟨f, v, a1, a2, ?_, a4⟩
      have hg : (f == g) = false := beq_eq_false_iff_ne.mpr fun z => hm (att_inj nd a1 (z ▸ r1))
      simp only [List.lookup, hg]
      exact a3
theorem FRep.put (nd : T.att.Nodup) {n : Nat} {d : D} {f : Str} {v : V} (hn : T.att[n]? = some f) (hh : T.has C n = true) (rd : Rep K H ρ d v) : ∀ {fs : List (Nat × D)} {vs : List (Str × V)}, FRep T K H ρ C fs vs → FRep T K H ρ C (putA n d fs) (putF f v vs)
  | _, _, .nil => .cons ⟨hn, hh, rd⟩ .nil
  | (m, x) :: fs, (g, w) :: vs, .cons r t => by
    have r1 : T.att[m]? = some g := r.1
    unfold putA putF
    by_cases hm : m = n
    · subst hm
      rw [hn] at r1; cases r1
      rw [if_pos rfl, if_pos rfl]
      exact .cons ⟨hn, hh, rd⟩ t
    · have hg : ¬ g = f := fun z => hm (att_inj nd (z ▸ r1) hn)
      rw [if_neg hm, if_neg hg]
      exact .cons r (FRep.put nd hn hh rd t)
theorem FRep.length {fs : List (Nat × D)} {vs : List (Str × V)} (r : FRep T K H ρ C fs vs) : fs.length = vs.length := Paired.length r
/-- no attribute of that name -/
theorem FRep.none {f : Str} (hf : ∀ n, T.has C n = true → T.att[n]? ≠ some f) : ∀ {fs : List (Nat × D)} {vs : List (Str × V)}, FRep T K H ρ C fs vs → vs.lookup f = none
  | _, _, .nil => rfl
  | (m, x) :: fs, (g, w) :: vs, .cons r t => by
    have r1 : T.att[m]? = some g := r.1
    have hg : (f == g) = false := beq_eq_false_iff_ne.mpr fun z => hf m r.2.1 (z ▸ r1)
    simp only [List.lookup, hg]
    exact FRep.none hf t
end

section
variable {T : Tab} {X : Cx} {W : WX} {H : Hp} {ρ : List Addr} {h : Hm}
theorem ins_of {K : PySem.W.Frag} (S : Sim T K ρ h H) {d : D} {v : V} (r : Rep K H ρ d v) {α : Type} {f : Nat × Nat × List (Nat × D) → M α} {P : α → Hm → List Addr → Hp → Prop} {E : XK} (a : After T K ρ H (M.bind (insM d) f h) P E) :
    ∃ rf C fs Ca dx vs p, d = .ref rf ∧ h[rf]? = some (.ins C fs) ∧ ρ[rf]? = some p ∧ v = .ref p ∧ T.cls[C]? = some Ca ∧ H p = some (.ins Ca dx vs) ∧ FRep T K H ρ C fs vs ∧ After T K ρ H (f (rf, C, fs) h) P E := by
  unfold M.bind insM at a
  cases r with
  | ref hr =>
    rename_i r0 p0
    cases e : h[r0]? with
    | none => simp only [e] at a; exact a.elim
    | some c =>
      cases c with
      | ins C fs =>
        simp only [e] at a
        obtain ⟨Ca, dx, vs, hc, ha, rr⟩ := S.atA e hr
        exact ⟨r0, C, fs, Ca, dx, vs, p0, rfl, e, hr, rfl, hc, ha, rr, a⟩
      | _ => simp only [e] at a; exact a.elim
  | _ => exact a.elim
variable {a b c e : Expr} {es : List Expr} {ma mb mc : Ev → M D} {ms : Ev → M (List D)} {pos apos : Pos}
theorem se_att (F : CF T X.K) {n : Nat} {f : Str} (hn : T.att[n]? = some f) (hb : attributeBase a f X.env (eval a X.env) = eval a X.env) (ha : SE T W X a ma) : SE T W X (.Attribute a f pos) (fun env => M.bind (ma env) fun x => attM x n) := by
  refine PE.imp (pe_fld ha hb) fun σ H Q q => ?_
  refine tE.then (f := fun x _ => attM x n) q fun ρ h env H1 x v er S rv a => ?_
  obtain ⟨rf, C, fs, Ca, dx, vs, p, rfl, e, ep, rfl, hc, hp, rr, a⟩ := ins_of S rv a
  unfold M.opt at a
  cases el : fs.lookup n with
  | none => simp only [el] at a; exact a.elim
  | some d =>
    simp only [el] at a
    obtain ⟨g, w, g1, g2, g3, g4⟩ := FRep.look F.nd rr el
    rw [hn] at g1; cases g1
    exact ⟨p, Ca, dx, vs, w, rfl, hp, F.cls _ _ hc, F.noa _ _ _ _ hc g2 hn, g3, a ρ H1 Ext.refl S w g4⟩

/-! ### calls -/
/-- what a def promises, by what it computes -/
def SpOf (T : Tab) (K : PySem.W.Frag) (n : Nat) (F : List D → M D) : Sp := fun vs H Q E => vs.length = n ∧ ∃ ρ h ds, Reps K H ρ ds vs ∧ Sim T K ρ h H ∧ After T K ρ H (F ds h) (PV K Q) E
/-- a def stands at f and keeps it -/
structure Keeps (T : Tab) (P : Program) (w : World) (K : PySem.W.Frag) (mg : Str → Option Value) (base : Heap) (lv : Nat) (f : Addr) (F : List D → M D) : Prop where
  ex : ∃ fd ps k, FnOk P w K mg base (L2.CX P w) k f fd ps (SpOf T K ps.length F) ∧ Binds K fd ps [] ∧ k ≤ lv ∧ ∀ ds h, ds.length ≠ ps.length → F ds h = .bad
theorem tEs.thenW {f : List D → Ev → M D} {σ : St} {H : Hp} {Q : VK} {R : List V → Hp → Prop} (q : tE T X.K W (fun env => M.bind (ms env) fun x => f x env) σ H Q)
    (k : ∀ ρ h env H1 x v, EnvRep X.K H1 ρ env σ → Sim T X.K ρ h H1 → Reps X.K H1 ρ x v → After T X.K ρ H1 (f x env h) (PV X.K Q) (fun c d H' => W c d σ H') → R v H1) : tEs T X.K W ms σ H R := tEs.then q k
variable {pins : List (Addr × Obj)} {s : Shared} {σ : St} {Q : VK} {f : Addr} {F : List D → M D} {lv : Nat}
theorem run_keeps (G : Keeps T X.prog X.w X.K X.mg X.base lv f F) (hr : Room lv X.A) (tk : Takes X W) (I : Inv X pins σ H s) {us : List Value} {vs : List V} (r : Vals vs us) {ds : List D} (rd : Reps X.K H ρ ds vs) (S : Sim T X.K ρ h H)
    (a : After T X.K ρ H (F ds h) (PV X.K Q) fun c d H' => W c d σ H') :
    wpAny (model X.prog X.w) X.A (call (.ref f) us) (EP X pins σ Q) X.xe s := by
  obtain ⟨fd, ps, k, ok, bd, hk, hl⟩ := G.ex
  have hn : ds.length = ps.length := by
    by_cases z : ds.length = ps.length
    · exact z
    · rw [hl ds h z] at a; exact a.elim
  exact run_fnS (E := WE W) ok (hr.mono hk) bd (passAt tk σ) I r ⟨by rw [← rd.length]; exact hn, ρ, h, ds, rd, S, a⟩
/-- the arguments are run, then what is called -/
theorem callW_of {g : Value} {first : List Value} {R : List V → Hp → Prop} (hk : PySem.W.keepIn X.K g = true) (hst : es.all noStar = true) (I : Inv X pins σ H s) (ha : SAs T W X es ms) (q : tEs T X.K W ms σ H R) (he : es = [] → R [] H)
    (k : ∀ us vs s1 H1, Inv X pins σ H1 s1 → Vals vs us → R vs H1 → wpAny (model X.prog X.w) X.A (call g (first ++ us)) (EP X pins σ Q) X.xe s1) :
    wpAny (model X.prog X.w) X.A (callWith pos g first (backTo pos (starEach es X.env)) (backToKw pos (keywordEach [] X.env))) (EP X pins σ Q) X.xe s := by
  cases es with
  | nil => exact PySem.W.callWith_K0 I.kIn hk (k [] [] s H I .nil (he rfl))
  | cons e es =>
    have hst' : noStar e = true ∧ es.all noStar = true := by simpa using hst
    exact PySem.W.callWith_K (h₀ := X.base) I.ok.mod.kin hk (thn (ha.run pos pins s σ H _ I q) fun us s1 ⟨vs, H1, I1, r, q1⟩ => ⟨I1.kIn, k us vs s1 H1 I1 r q1⟩) (star_cons hst'.1) (star_any hst'.2)
end
end G60

namespace G60
open PySem L2

section
variable {T : Tab} {X : Cx} {W : WX} {H : Hp} {ρ : List Addr} {h : Hm} {a b c e : Expr} {es : List Expr} {ma mb mc : Ev → M D} {ms : Ev → M (List D)} {pos apos p : Pos} {f : Addr} {F : List D → M D} {lv : Nat} {x m : Str}
theorem nil_of (hms : es = [] → ms = fun _ => M.ret []) {σ : St} {R : List V → Hp → Prop} (q : tEs T X.K W ms σ H R) (he : es = []) : R [] H := by
  rw [hms he] at q
  obtain ⟨ρ, env, h, er, S, a⟩ := q
  exact a ρ H Ext.refl S [] .nil
/-- f(..), an own def -/
theorem se_call (hst : es.all noStar = true) (hg : Gl X x) (hm : X.mg x = some (.ref f)) (hk : PySem.W.keepIn X.K (.ref f) = true) (hdb : (x == ("__debug__" : Str)) = false) (G : Keeps T X.prog X.w X.K X.mg X.base lv f F) (hr : Room lv X.A) (tk : Takes X W)
    (ha : SAs T W X es ms) (hms : es = [] → ms = fun _ => M.ret []) : SE T W X (.Call (.Name x p) es [] pos) (fun env => M.bind (ms env) fun xs => F xs) := by
  refine ⟨fun pins s σ H Q I q => wpAny_Call_Name_kw (ld_glob I hg hm ?_ hdb)⟩
  have q1 : tEs T X.K W ms σ H fun vs H1 => ∃ ρ h ds, Reps X.K H1 ρ ds vs ∧ Sim T X.K ρ h H1 ∧ After T X.K ρ H1 (F ds h) (PV X.K Q) fun c d H' => W c d σ H' :=
    tEs.then (f := fun xs _ => F xs) q fun ρ h env H1 x v er S rv a => ⟨ρ, h, x, rv, S, a⟩
  refine callW_of (first := []) hk hst I ha q1 (nil_of hms q1) fun us vs s1 H1 I1 r ⟨ρ, h, ds, rd, S, a⟩ => ?_
  exact run_keeps G hr tk I1 r rd S a
/-- the line's form of a call of a method -/
theorem meth_form {env : Env} (hb : attributeBase a m env (eval a env) = eval a env) (hl : (apos.endLine == pos.line) = true) (hst : es.all noStar = true) (hfew : es.length < 30) :
    eval (.Call (.Attribute a m apos) es [] pos) env = (do
      let ov ← eval a env
      standAt apos.atName
      let (g, first) ← holding [ov] (getMethod ov m (do return (← importBound a env).getD true))
      callWith pos g first (backTo pos (starEach es env)) (backToKw pos (keywordEach [] env))) := by
  have e0 : eval (.Call (.Attribute a m apos) es [] pos) env = (do
      let ov ← attributeBase a m env (eval a env)
      standAt apos.atName
      methodCall a m apos pos env ov (es.length + ([] : List Keyword).length) (backTo pos (starEach es env)) (backToKw pos (keywordEach [] env))) := rfl
  rw [e0, hb]
  have few : methodCallForm (es.length + ([] : List Keyword).length) (backTo pos (starEach es env)) (backToKw pos (keywordEach [] env)) = true := by
    unfold methodCallForm
    rw [star_few hst]
    show (true && true && decide (es.length + 0 + 0 < 30)) = true
    rw [decide_eq_true (by omega)]; rfl
  have mp : methodCallPos true a env apos pos = pure pos := by
    unfold methodCallPos
    rw [hl]; rfl
  unfold methodCall
  rw [few, mp]
  rfl
/-- o.m(..), a method of an own class -/
theorem se_ometh {mt : Nat → Option Nat} {fn : Nat → List D → M D} (CC : CF T X.K) (hb : attributeBase a m X.env (eval a X.env) = eval a X.env) (hl : (apos.endLine == pos.line) = true) (hst : es.all noStar = true) (hfew : es.length < 30)
    (hC : ∀ c i Ca, mt c = some i → T.cls[c]? = some Ca → ∃ f, Meth X.K Ca m f ∧ Keeps T X.prog X.w X.K X.mg X.base lv f (fn i)) (hno : ∀ c n, T.has c n = true → T.att[n]? ≠ some m)
    (hr : Room lv X.A) (tk : Takes X W) (he : SE T W X a ma) (ha : SAs T W X es ms) (hms : es = [] → ms = fun _ => M.ret []) :
    SE T W X (.Call (.Attribute a m apos) es [] pos) (fun env => M.bind (ma env) fun x => M.bind (insM x) fun i => M.bind (M.opt (mt i.2.1)) fun f => M.bind (ms env) fun xs => fn f (x :: xs)) := by
  refine ⟨fun pins s σ H Q I q => ?_⟩
  refine PySem.W.methodCall_KW (thn (he.run pins s σ H _ I (tE.then (f := fun x env => M.bind (insM x) fun i => M.bind (M.opt (mt i.2.1)) fun f => M.bind (ms env) fun xs => fn f (x :: xs)) q (R := fun v H1 => ∃ ρ h env rf C fs Ca dx vs p i, EnvRep X.K H1 ρ env σ ∧ Sim T X.K ρ h H1 ∧ ρ[rf]? = some p ∧ v = .ref p ∧ T.cls[C]? = some Ca ∧ H1 p = some (.ins Ca dx vs) ∧ FRep T X.K H1 ρ C fs vs ∧ mt C = some i ∧
      After T X.K ρ H1 (M.bind (ms env) (fun xs => fn i (.ref rf :: xs)) h) (PV X.K Q) fun c d H' => W c d σ H')
    fun ρ h env H1 x v er S rv a => ?_)) fun u s1 ⟨v, H1, I1, ru, ρ, h, env, rf, C0, fs, Ca, dx, vs, p, i, er, S, hp, ev, hc, hH, hF, hi, a⟩ => ?_) (meth_form hb hl hst hfew)
  · obtain ⟨rf, C, fs, Ca, dx, vs, p, rfl, e2, e3, e4, e5, e6, e7, a⟩ := ins_of S rv a
    obtain ⟨i, hi, a⟩ := opt_of a
    exact ⟨ρ, h, env, rf, C, fs, Ca, dx, vs, p, i, er, S, e3, e4, e5, e6, e7, hi, a⟩
  · subst ev
    obtain rfl : u = Value.ref p := ru
    obtain ⟨g, hM, G⟩ := hC _ _ _ hi hc
    have q1 : tEs T X.K W ms σ H1 fun ws H2 => ∃ ρ2 h2 ds, Reps X.K H2 ρ2 ds ws ∧ Rep X.K H2 ρ2 (.ref rf) (.ref p) ∧ Sim T X.K ρ2 h2 H2 ∧ After T X.K ρ2 H2 (fn i (.ref rf :: ds) h2) (PV X.K Q) fun c d H' => W c d σ H' :=
      ⟨ρ, env, h, er, S, (After.bind a).imp (fun xs h2 ρ2 H2 e2 S2 p2 ws rws => ⟨ρ2, h2, xs, rws, e2.rep (.ref hp), S2, p2⟩) fun _ _ _ z => z⟩
    refine getmeth_ok I1 hH (CC.cls _ _ hc) hM (FRep.none (hno C0) hF) ?_
    refine callW_of (first := [.ref p]) hM.kp hst I1 ha q1 (nil_of hms q1) fun us ws s2 H2 I2 r ⟨ρ2, h2, ds, rd, rp, S2, a2⟩ => ?_
    exact run_keeps G hr tk I2 (us := .ref p :: us) (vs := .ref p :: ws) (.cons rfl r) (.cons rp rd) S2 a2
/-- C(..), a new instance and its __init__ -/
theorem se_new {C : Nat} {Ca : Addr} (hst : es.all noStar = true) (hg : Gl X x) (hm : X.mg x = some (.ref Ca)) (hdb : (x == ("__debug__" : Str)) = false) (hC : T.cls[C]? = some Ca) (Mx : Mk X.K Ca f) (G : Keeps T X.prog X.w X.K X.mg X.base lv f F) (hr : Room (lv + 1) X.A) (tk : Takes X W)
    (ha : SAs T W X es ms) (hms : es = [] → ms = fun _ => M.ret []) {newF : List D → M D} (hn : newF = fun ds h => match F (.ref h.length :: ds) (h ++ [.ins C []]) with
      | .ok v h' => if v = .non then .ok (.ref h.length) h' else .bad
      | .err c fs h' => .err c fs h'
      | .bad => .bad) : SE T W X (.Call (.Name x p) es [] pos) (fun env => M.bind (ms env) fun xs => newF xs) := by
  refine ⟨fun pins s σ H Q I q => wpAny_Call_Name_kw (ld_glob I hg hm ?_ hdb)⟩
  have q1 : tEs T X.K W ms σ H fun vs H1 => ∃ ρ h ds, Reps X.K H1 ρ ds vs ∧ Sim T X.K ρ h H1 ∧ After T X.K ρ H1 (newF ds h) (PV X.K Q) fun c d H' => W c d σ H' :=
    tEs.then (f := fun xs _ => newF xs) q fun ρ h env H1 x v er S rv a => ⟨ρ, h, x, rv, S, a⟩
  refine callW_of (first := []) Mx.kp hst I ha q1 (nil_of hms q1) fun us vs s1 H1 I1 r ⟨ρ, h, ds, rd, S, a⟩ => ?_
  subst hn
  simp only at a
  -- the new instance
  have fx : H1 (s1.heap.objs.size + 1) = none := I1.hok.fresh (Nat.le_succ _)
  have fd : H1 s1.heap.objs.size = none := I1.hok.fresh (Nat.le_refl _)
  have ne : s1.heap.objs.size ≠ s1.heap.objs.size + 1 := Nat.ne_of_lt (Nat.lt_succ_self _)
  have I2 := Inv.made (C := Ca) I1
  have fx2 : upd H1 s1.heap.objs.size (.own (s1.heap.objs.size + 1)) (s1.heap.objs.size + 1) = none := by rw [upd_ne (Ne.symm ne)]; exact fx
  have e1 : Ext X.K ρ H1 ρ (upd H1 s1.heap.objs.size (.own (s1.heap.objs.size + 1))) := Ext.tup fd
  have e2 := Ext.new (K := X.K) (ρ := ρ) (o := .ins Ca s1.heap.objs.size []) fx2
  have S2 := (S.tup (o := .own (s1.heap.objs.size + 1)) fd).new (o := .ins Ca s1.heap.objs.size []) (c := .ins C []) fx2 ⟨Ca, s1.heap.objs.size, [], hC, upd_same, .nil⟩
  have rx : Rep X.K (upd (upd H1 s1.heap.objs.size (.own (s1.heap.objs.size + 1))) (s1.heap.objs.size + 1) (.ins Ca s1.heap.objs.size [])) (ρ ++ [s1.heap.objs.size + 1]) (.ref h.length) (.ref (s1.heap.objs.size + 1)) := .ref (by rw [← S.len]; simp)
  have a2 : After T X.K (ρ ++ [s1.heap.objs.size + 1]) (upd (upd H1 s1.heap.objs.size (.own (s1.heap.objs.size + 1))) (s1.heap.objs.size + 1) (.ins Ca s1.heap.objs.size [])) (F (.ref h.length :: ds) (h ++ [.ins C []])) (PV X.K fun v H' => v = .non ∧ Q (.ref (s1.heap.objs.size + 1)) H') fun c d H' => W c d σ H' := by
    cases eF : F (.ref h.length :: ds) (h ++ [.ins C []]) with
    | ok v h' =>
      rw [eF] at a
      simp only at a
      split at a
      · rename_i hv
        subst hv
        intro ρ3 H3 e3 S3 w rw'
        cases rw'
        exact ⟨rfl, a ρ3 H3 ((e1.trans e2).trans e3) S3 _ (e3.rep rx)⟩
      · exact a.elim
    | err c fs h' =>
      rw [eF] at a
      exact fun ρ3 H3 cls d e3 S3 x3 => a ρ3 H3 cls d ((e1.trans e2).trans e3) S3 x3
    | bad => rw [eF] at a; exact a.elim
  obtain ⟨fdt, ps, k, ok, bd, hk, hlen⟩ := G.ex
  have hlen2 : (D.ref h.length :: ds).length = ps.length := by
    by_cases z : (D.ref h.length :: ds).length = ps.length
    · exact z
    · rw [hlen _ _ z] at a2; exact a2.elim
  have r2 : Vals (V.ref (s1.heap.objs.size + 1) :: vs) (Value.ref (s1.heap.objs.size + 1) :: us) := .cons rfl r
  have hv2 : (V.ref (s1.heap.objs.size + 1) :: vs).length = ps.length := by
    rw [← hlen2, List.length_cons, List.length_cons, rd.length]
  have hu2 : (Value.ref (s1.heap.objs.size + 1) :: us).length = ps.length := by rw [← r2.length]; exact hv2
  have bind := bd { s1 with heap := (s1.heap.push PySem.W.emptyDict).push (PySem.W.instObj Ca s1.heap.objs.size) } (Value.ref (s1.heap.objs.size + 1) :: us) I2.kIn (by rw [List.append_nil]; exact hu2)
  rw [List.append_nil] at bind
  have rk : Room k _ := ((hr.mono (Nat.succ_le_succ hk)).make Ca us [])
  refine wpAny_call (make_map (f := f) I1.kIn Mx.makes Mx.init (beq_iff_eq.mp Mx.fn) (codeAny_mono (ok.run _ X.stack _ _ ⟨Value.ref (s1.heap.objs.size + 1) :: us, []⟩ (Value.ref (s1.heap.objs.size + 1) :: us) _ _ (fun c d H' => W c d σ H') rk (I2.env0.make Ca us []) bind r2 ⟨hv2, _, _, _, .cons rx ((e1.trans e2).reps rd), S2, a2⟩) fun rr s' hq' => ?_))
  cases rr with
  | error e => exact passAt tk σ pins _ _ e s' I2 hq'
  | ok fl =>
    cases fl with
    | ret u =>
      obtain ⟨v, H', I3, rv, ev, q3⟩ := I2.after hq'
      subst ev
      exact ⟨rv, ⟨V.ref (s1.heap.objs.size + 1), H', I3, rfl, q3⟩⟩
    | next => exact False.elim hq'
    | brk => exact False.elim hq'
    | cont => exact False.elim hq'
end
end G60

/-! Methods of built-in types, built-in functions, targets. -/
namespace G60
open PySem L2

def bmName : Bm → Str
  | .append => "append" | .pop => "pop" | .insert => "insert" | .reverse => "reverse" | .get => "get" | .items => "items" | .values => "values" | .extend => "extend" | .index => "index"
  | .remove => "remove" | .clear => "clear" | .update => "update" | .join => "join" | .split => "split" | .upper => "upper"
section
variable {T : Tab} {X : Cx} {W : WX} {H : Hp} {ρ : List Addr} {h : Hm} {a b c e : Expr} {es : List Expr} {ma mb mc : Ev → M D} {ms : Ev → M (List D)} {pos apos p : Pos}
/-- a built-in method that is served -/
structure MOk (T : Tab) (X : Cx) (S : String) (t : Ty) (m : Bm) : Prop where
  ex : ∃ id, PlainAttrs S ∧ Slot S (bmName m) id ∧ typeOf (.builtin id) = pure (.type "method_descriptor") ∧ MtR X id (rm T X.K (bmM t m))
def tyN : Ty → String
  | .lst => "list" | .dct => "dict" | .str => "str"
theorem bm_ok {t : Ty} {m : Bm} (hk : bmOk t m = true) : MOk T X (tyN t) t m := by
  cases t <;> cases m <;> first
    | exact absurd (show false = true from hk) (by decide)
    | exact ⟨_, PySem.F.plainAttrs_list, PySem.F.slot_list_append, PySem.F.type_list_append, so_append⟩
    | exact ⟨_, PySem.F.plainAttrs_list, PySem.F.slot_list_pop, PySem.F.type_list_pop, so_pop⟩
    | exact ⟨_, PySem.F.plainAttrs_list, PySem.F.slot_list_reverse, PySem.F.type_list_reverse, so_reverse⟩
    | exact ⟨_, PySem.F.plainAttrs_list, PySem.F.slot_list_extend, PySem.F.type_list_extend, so_extend⟩
    | exact ⟨_, PySem.F.plainAttrs_list, PySem.F.slot_list_clear, PySem.F.type_list_clear, so_clear⟩
    | exact ⟨_, PySem.F.plainAttrs_list, PySem.F.slot_list_insert, PySem.F.type_list_insert, so_insert⟩
theorem ty_of {K : PySem.W.Frag} (S : Sim T K ρ h H) {d : D} {v : V} (r : Rep K H ρ d v) {α : Type} {f : Ty → M α} {P : α → Hm → List Addr → Hp → Prop} {E : XK} (a : After T K ρ H (M.bind (tyM d) f h) P E) :
    ∃ t, tyV K (tyN t) v H ∧ After T K ρ H (f t h) P E := by
  unfold M.bind tyM at a
  cases r with
  | str x => exact ⟨.str, rfl, a⟩
  | ref hr =>
    rename_i r0 p0
    cases e : h[r0]? with
    | none => simp only [e] at a; exact a.elim
    | some c =>
      cases c with
      | lst xs =>
        simp only [e] at a
        obtain ⟨vs, ha, rr⟩ := S.lst e hr
        exact ⟨.lst, .inl ⟨rfl, vs, SqL.of ha⟩, a⟩
      | dct kvs =>
        simp only [e] at a
        obtain ⟨o, ha, rr⟩ := S.atA e hr
        refine ⟨.dct, .inr (.inr (.inl ⟨rfl, ?_⟩)), a⟩
        rcases rr with ⟨ks, rfl, _⟩ | ⟨ks, rfl, _⟩
        · exact .inl ⟨ks, ha⟩
        · exact .inr ⟨ks, ha⟩
      | _ => simp only [e] at a; exact a.elim
  | _ => exact a.elim
theorem se_bmeth {m : Bm} (hb : attributeBase a (bmName m) X.env (eval a X.env) = eval a X.env) (hl : (apos.endLine == pos.line) = true) (hst : es.all noStar = true) (hfew : es.length < 30)
    (he : SE T W X a ma) (ha : SAs T W X es ms) (hms : es = [] → ms = fun _ => M.ret []) :
    SE T W X (.Call (.Attribute a (bmName m) apos) es [] pos) (fun env => M.bind (ma env) fun x => M.bind (tyM x) fun t => M.bind (M.test (bmOk t m)) fun _ => M.bind (ms env) fun xs => bmM t m x xs) := by
  refine ⟨fun pins s σ H Q I q => ?_⟩
  have few : ((backTo pos (starEach es X.env)).all (fun x => !x.1) && (backToKw pos (keywordEach [] X.env)).all (fun x => x.1.isSome) && decide (es.length + ([] : List Keyword).length + (if ([] : List Keyword).isEmpty then 0 else 1) < 30)) = true := by
    rw [star_few hst]
    show (true && true && decide (es.length + 0 + 0 < 30)) = true
    rw [decide_eq_true (by omega)]; rfl
  refine wpAny_Call_method_late hb few hl rfl (thn (he.run pins s σ H _ I (tE.then (f := fun x env => M.bind (tyM x) fun t => M.bind (M.test (bmOk t m)) fun _ => M.bind (ms env) fun xs => bmM t m x xs) q
    (R := fun v H1 => ∃ ρ h env x t, EnvRep X.K H1 ρ env σ ∧ Sim T X.K ρ h H1 ∧ Rep X.K H1 ρ x v ∧ tyV X.K (tyN t) v H1 ∧ bmOk t m = true ∧ After T X.K ρ H1 (M.bind (ms env) (fun xs => bmM t m x xs) h) (PV X.K Q) fun c d H' => W c d σ H') fun ρ h env H1 x v er S rv a => ?_)) fun u s1 ⟨v, H1, I1, ru, ρ, h, env, x, t, er, S, rx, ty, hk, a⟩ => ?_)
  · obtain ⟨t, ty, a⟩ := ty_of S rv a
    obtain ⟨hk, a⟩ := test_of a
    exact ⟨ρ, h, env, x, t, er, S, rv, ty, hk, a⟩
  · obtain ⟨t1, t2⟩ := tyV_is I1 ru ty
    obtain ⟨id, pa, sl, hty, mt⟩ := (bm_ok (T := T) (X := X) hk).ex
    refine ⟨tyN t, id, pa, sl, hty, t1, t2, ?_⟩
    have q1 : tEs T X.K W ms σ H1 fun ws H2 => ∃ ρ2 h2 ds, Reps X.K H2 ρ2 ds ws ∧ Rep X.K H2 ρ2 x v ∧ Sim T X.K ρ2 h2 H2 ∧ After T X.K ρ2 H2 (bmM t m x ds h2) (PV X.K Q) EF :=
      ⟨ρ, env, h, er, S, (After.bind a).imp (fun xs h2 ρ2 H2 e2 S2 p2 ws rws => ⟨ρ2, h2, xs, rws, e2.rep rx, S2, p2.ne ne_bm⟩) fun _ _ _ z => z⟩
    have fin : ∀ us s2, AP X pins σ (fun ws H2 => ∃ ρ2 h2 ds, Reps X.K H2 ρ2 ds ws ∧ Rep X.K H2 ρ2 x v ∧ Sim T X.K ρ2 h2 H2 ∧ After T X.K ρ2 H2 (bmM t m x ds h2) (PV X.K Q) EF) us s2 → wpAny (model X.prog X.w) X.A (call (.builtin id) (u :: us)) (EP X pins σ Q) X.xe s2 := fun us s2 ⟨ws, H2, I2, r2, ρ2, h2, ds, rd, rx2, S2, a2⟩ =>
      mt pins s2 σ H2 v ws u us Q I2 ru r2 ⟨ρ2, h2, x, ds, rx2, rd, S2, a2⟩
    cases es with
    | nil => exact Calls.callWith_builtin rfl (PySem.evalArgs_none (fin [] s1 ⟨[], H1, I1, .nil, nil_of hms q1 rfl⟩))
    | cons e es =>
      have hst' : noStar e = true ∧ es.all noStar = true := by simpa using hst
      have hA := ha.run pos pins s1 σ H1 _ I1 q1
      rw [star_cons hst'.1] at hA ⊢
      exact Calls.callWith_builtin (by show (false || (backTo pos (starEach es X.env)).any (·.1)) = false; rw [star_any hst'.2]; rfl) (Calls.evalArgs_plain (thn hA fin))

/-! ### built-in functions by their names -/
def biName : Bi → Str
  | .len => "len" | .abs => "abs" | .max2 => "max" | .min2 => "min" | .int => "int" | .list => "list" | .tuple => "tuple"
theorem se_bi {bb : Bi} (hc : X.calm = true) (hg : Gl X (biName bb)) (hm : X.mg (biName bb) = none) (hst : (e :: es).all noStar = true) (ha : SAs T W X (e :: es) ms) : SE T W X (.Call (.Name (biName bb) p) (e :: es) [] pos) (fun env => M.bind (ms env) fun xs => biM bb xs) := by
  have hst' : noStar e = true ∧ es.all noStar = true := by simpa using hst
  have fin : ∀ {t : TE}, (∀ σ H Q, tE T X.K W (fun env => M.bind (ms env) fun xs => biM bb xs) σ H Q → t σ H Q) → PE X (.Call (.Name (biName bb) p) (e :: es) [] pos) t → SE T W X (.Call (.Name (biName bb) p) (e :: es) [] pos) (fun env => M.bind (ms env) fun xs => biM bb xs) := fun i h => PE.imp h i
  cases bb with
  | len => exact fin (fun σ H Q q => cb_of (fun _ => ne_bi) q) (pe_callB so_len hg hm (by decide +kernel) ha (by decide) (by decide) (star_cons hst'.1) (star_any hst'.2))
  | abs => exact fin (fun σ H Q q => cb_of (fun _ => ne_bi) q) (pe_callB so_abs hg hm (by decide +kernel) ha (by decide) (by decide) (star_cons hst'.1) (star_any hst'.2))
  | max2 => exact fin (fun σ H Q q => cb_of (fun _ => ne_bi) q) (pe_callB (so_max hc) hg hm (by decide +kernel) ha (by decide) (by decide) (star_cons hst'.1) (star_any hst'.2))
  | min2 => exact fin (fun σ H Q q => cb_of (fun _ => ne_bi) q) (pe_callB (so_min hc) hg hm (by decide +kernel) ha (by decide) (by decide) (star_cons hst'.1) (star_any hst'.2))
  | int => exact fin (fun σ H Q q => cb_of (fun _ => ne_bi) q) (pe_callTy so_int hg hm (by decide +kernel) ha (by decide) (by decide) (star_cons hst'.1) (star_any hst'.2))
  | list => exact fin (fun σ H Q q => cb_of (fun _ => ne_bi) q) (pe_callTy so_list hg hm (by decide +kernel) ha (by decide) (by decide) (star_cons hst'.1) (star_any hst'.2))
  | tuple => exact fin (fun σ H Q q => cb_of (fun _ => ne_bi) q) (pe_callTy so_tuple hg hm (by decide +kernel) ha (by decide) (by decide) (star_cons hst'.1) (star_any hst'.2))
end

/-! ### targets -/
mutual
def Tg.ix : Tg → List Nat
  | .nm i => [i]
  | .tp ts => ts.ix
def Tgs.ix : Tgs → List Nat
  | .nil => []
  | .cons t ts => t.ix ++ ts.ix
end
/-- the slots but these are as they were -/
def But (ix : List Nat) (σ σ' : St) : Prop := σ'.length = σ.length ∧ ∀ j, j ∉ ix → σ'[j]? = σ[j]?
theorem But.refl {ix : List Nat} (σ : St) : But ix σ σ := ⟨rfl, fun _ _ => rfl⟩
theorem But.trans {a b : List Nat} {σ σ1 σ2 : St} (x : But a σ σ1) (y : But b σ1 σ2) : But (a ++ b) σ σ2 :=
  ⟨y.1.trans x.1, fun j hj => (y.2 j fun z => hj (List.mem_append_right _ z)).trans (x.2 j fun z => hj (List.mem_append_left _ z))⟩
/-- a target, by what it stores -/
def tG (T : Tab) (K : PySem.W.Frag) (t : Tg) : TG := fun v σ H Q => ∃ ρ env h d env', EnvRep K H ρ env σ ∧ Sim T K ρ h H ∧ Rep K H ρ d v ∧ asg t d env = some env' ∧ ∀ σ', But t.ix σ σ' → EnvRep K H ρ env' σ' → Q σ' H
def tGs (T : Tab) (K : PySem.W.Frag) (ts : Tgs) : TGs := fun vs σ H Q => ∃ ρ env h ds env', EnvRep K H ρ env σ ∧ Sim T K ρ h H ∧ Reps K H ρ ds vs ∧ asgs ts ds env = some env' ∧ ∀ σ', But ts.ix σ σ' → EnvRep K H ρ env' σ' → Q σ' H
theorem PG.imp {X : Cx} {e : Expr} {t t' : TG} (a : PG X e t) (i : ∀ v σ H Q, t' v σ H Q → t v σ H Q) : PG X e t' := ⟨fun pins s σ H v u Q I r q => a.run pins s σ H v u Q I r (i _ _ _ _ q)⟩
theorem PGs.imp {X : Cx} {e : List Expr} {t t' : TGs} (a : PGs X e t) (i : ∀ v σ H Q, t' v σ H Q → t v σ H Q) : PGs X e t' := ⟨fun pins s σ H v u Q I r q => a.run pins s σ H v u Q I r (i _ _ _ _ q)⟩
section
variable {T : Tab} {X : Cx} {e : Expr} {es : List Expr} {pos : Pos}
theorem sg_name {i : Nat} {x : Str} (hN : X.N.Nodup) (hi : X.N[i]? = some x) (hx : Loc X.env.scope x) (hf : X.fn x = true ∨ X.env.scope.names.lookup x = some .local) : PG X (.Name x pos) (tG T X.K (.nm i)) := by
  refine PG.imp (pg_name hN hi hx hf) fun v σ H Q ⟨ρ, env, h, d, env', er, S, r, ea, k⟩ => ?_
  cases ea
  exact k _ ⟨by simp, fun j hj => List.getElem?_set_ne fun z => hj (by simp [Tg.ix, z])⟩ (er.set r i)
theorem sg_nil : PGs X [] (tGs T X.K .nil) := by
  refine PGs.imp pgs_nil fun v σ H Q ⟨ρ, env, h, ds, env', er, S, r, ea, k⟩ => ?_
  cases r with
  | nil => cases ea; exact ⟨rfl, k _ (.refl _) er⟩
  | cons _ _ => cases ea
theorem sg_cons {t : Tg} {ts : Tgs} (h1 : PG X e (tG T X.K t)) (h2 : PGs X es (tGs T X.K ts)) (hs : (assignEach (e :: es) X.env).map (·.2) = assign e X.env :: (assignEach es X.env).map (·.2)) : PGs X (e :: es) (tGs T X.K (.cons t ts)) := by
  refine PGs.imp (pgs_cons h1 h2 hs) fun v σ H Q ⟨ρ, env, h, ds, env', er, S, r, ea, k⟩ => ?_
  cases r with
  | nil => cases ea
  | @cons d v0 ds vs r rr =>
    have ea : (match asg t d env with | some env' => asgs ts ds env' | none => none) = some env' := ea
    cases e1 : asg t d env with
    | none => rw [e1] at ea; cases ea
    | some env1 =>
      rw [e1] at ea
      exact ⟨_, _, rfl, ρ, env, h, d, env1, er, S, r, e1, fun σ1 b1 er1 => ⟨ρ, env1, h, ds, env', er1, S, rr, ea, fun σ2 b2 er2 => k σ2 (b1.trans b2) er2⟩⟩
def Tgs.len : Tgs → Nat
  | .nil => 0
  | .cons _ ts => ts.len + 1
theorem asgs_length : ∀ {ts : Tgs} {ds : List D} {env env' : Ev}, asgs ts ds env = some env' → ds.length = ts.len
  | .nil, [], _, _, _ => rfl
  | .nil, _ :: _, _, _, e => by simp [asgs] at e
  | .cons _ _, [], _, _, e => by simp [asgs] at e
  | .cons t ts, d :: ds, env, env', e => by
    have e : (match asg t d env with | some env' => asgs ts ds env' | none => none) = some env' := e
    cases e1 : asg t d env with
    | none => rw [e1] at e; cases e
    | some env1 =>
      rw [e1] at e
      rw [List.length_cons, asgs_length e]; rfl
theorem sg_tup {k : Nat} {ts : Tgs} (hc : X.calm = true) (h : PGs X es (tGs T X.K ts)) (hn : (assignEach es X.env).length = ts.len) (hst : (assignEach es X.env).findIdx? (·.1) = none) : PG X (.Tuple es k pos) (tG T X.K (.tp ts)) := by
  refine PG.imp (pg_tup hc h hn hst) fun v σ H Q ⟨ρ, env, h, d, env', er, S, r, ea, kk⟩ => ?_
  cases r with
  | tup ht rr =>
    have ea : asgs ts _ env = some env' := ea
    exact ⟨_, _, rfl, SqT.of ht, by rw [← rr.length]; exact asgs_length ea, ρ, env, h, _, env', er, S, rr, ea, kk⟩
  | _ => cases ea
end
end G60

/-! What is walked; loops; comprehensions. -/
namespace G60
open PySem L2

theorem PI.imp {X : Cx} {tg it : Expr} {t t' : TI} (a : PI X tg it t) (i : ∀ σ H R, t' σ H R → t σ H R) : PI X tg it t' := ⟨fun pins s σ H R I q => a.run pins s σ H R I (i _ _ _ q)⟩
/-- the guards hold -/
def Gs (h : Hm) (gs : List (Nat × Cell)) : Prop := ∀ g ∈ gs, h[g.1]? = some g.2
/-- the iterator yields just these items, as long as the guards hold -/
structure Fits (T : Tab) (K : PySem.W.Frag) (ρ0 : List Addr) (H0 : Hp) (J : L2.It) (xs : List D) (gs : List (Nat × Cell)) : Prop where
  stop : ∀ ρ h H i, Ext K ρ0 H0 ρ H → Sim T K ρ h H → Gs h gs → xs.length ≤ i → J.stop i H
  go : ∀ ρ h H i, Ext K ρ0 H0 ρ H → Sim T K ρ h H → Gs h gs → i < xs.length → J.go i H
  yld : ∀ ρ h H i d v H', Ext K ρ0 H0 ρ H → Sim T K ρ h H → Gs h gs → xs[i]? = some d → J.yld i H v H' → Ext K ρ H ρ H' ∧ Sim T K ρ h H' ∧ Rep K H' ρ d v ∧ ∀ a o, H a = some o → H' a = some o
def tI (T : Tab) (K : PySem.W.Frag) (W : WX) (m : Ev → M Walk) : TI := fun σ H R => ∃ ρ env h, EnvRep K H ρ env σ ∧ Sim T K ρ h H ∧ After T K ρ H (m env h) (fun w _ ρ' H' => ∀ J, Fits T K ρ' H' J w.1 w.2 → R J H') fun c d H' => W c d σ H'

section
variable {T : Tab} {X : Cx} {W : WX} {H H0 : Hp} {ρ ρ0 : List Addr} {h : Hm} {a b e tg : Expr} {ma mb : Ev → M D} {pos p : Pos}
theorem fits_tup {K : PySem.W.Frag} {p : Addr} {vs : List V} {xs : List D} (ht : H0 p = some (.tup vs)) (rr : Reps K H0 ρ0 xs vs) : Fits T K ρ0 H0 (Itt K p) xs [] where
  stop := fun ρ h H i e S _ hl => ⟨vs, SqT.of (e.tk.t _ _ ht), by rw [← rr.length]; exact hl⟩
  go := fun ρ h H i e S _ hl => by
    obtain ⟨v, hv, _⟩ := rr.get (List.getElem?_eq_getElem hl)
    exact ⟨vs, v, SqT.of (e.tk.t _ _ ht), hv⟩
  yld := fun ρ h H i d v H' e S _ hd y => by
    obtain ⟨rfl, y⟩ := y
    obtain ⟨w, hw, rw'⟩ := rr.get hd
    have := y vs (SqT.of (e.tk.t _ _ ht))
    rw [hw] at this; cases this
    exact ⟨Ext.refl, S, e.rep rw', fun _ _ z => z⟩
theorem fits_scr {K : PySem.W.Frag} {p : Addr} {ns : List Int} (hs : SqF K H0 p (ns.map V.int)) : Fits T K ρ0 H0 (Itl K p) (ns.map .int) [] where
  stop := fun ρ h H i e S _ hl => ⟨_, (e.tk.f _ _ hs).sq, by rw [List.length_map] at hl ⊢; exact hl⟩
  go := fun ρ h H i e S _ hl => by
    rw [List.length_map] at hl
    exact ⟨_, .int ns[i], (e.tk.f _ _ hs).sq, by simp [hl]⟩
  yld := fun ρ h H i d v H' e S _ hd y => by
    obtain ⟨rfl, y⟩ := y
    have := y _ (e.tk.f _ _ hs).sq
    rw [List.getElem?_map] at hd this
    cases en : ns[i]? with
    | none => rw [en] at hd; cases hd
    | some n => rw [en] at hd this; cases hd; cases this; exact ⟨Ext.refl, S, .int n, fun _ _ z => z⟩
theorem fits_lst {K : PySem.W.Frag} {r : Nat} {p : Addr} {xs : List D} (hp : ρ0[r]? = some p) : Fits T K ρ0 H0 (Itl K p) xs [(r, .lst xs)] := by
  have base : ∀ {ρ h H}, Ext K ρ0 H0 ρ H → Sim T K ρ h H → Gs h [(r, .lst xs)] → ∃ vs, H p = some (.lst vs) ∧ Reps K H ρ xs vs := fun {ρ h H} e S g => by
    have hr : h[r]? = some (.lst xs) := g (r, .lst xs) (by simp)
    obtain ⟨s, es⟩ := e.pre
    have hp' : ρ[r]? = some p := by rw [← es, List.getElem?_append_left (List.getElem?_eq_some_iff.mp hp).1]; exact hp
    exact S.lst hr hp'
  refine ⟨fun ρ h H i e S g hl => ?_, fun ρ h H i e S g hl => ?_, fun ρ h H i d v H' e S g hd y => ?_⟩
  · obtain ⟨vs, ha, rr⟩ := base e S g
    exact ⟨vs, SqL.of ha, by rw [← rr.length]; exact hl⟩
  · obtain ⟨vs, ha, rr⟩ := base e S g
    obtain ⟨v, hv, _⟩ := rr.get (List.getElem?_eq_getElem hl)
    exact ⟨vs, v, SqL.of ha, hv⟩
  · obtain ⟨vs, ha, rr⟩ := base e S g
    obtain ⟨rfl, y⟩ := y
    obtain ⟨w, hw, rw'⟩ := rr.get hd
    have := y vs (SqL.of ha)
    rw [hw] at this; cases this
    exact ⟨Ext.refl, S, rw', fun _ _ z => z⟩
theorem rngD_length : ∀ (n : Nat) (lo : Int), (rngD lo n).length = n
  | 0, _ => rfl
  | n + 1, lo => by simp [rngD, rngD_length n]
theorem rngD_get : ∀ (n : Nat) (lo : Int) (i : Nat), i < n → (rngD lo n)[i]? = some (.int (lo + i))
  | n + 1, lo, 0, _ => by simp [rngD]
  | n + 1, lo, i + 1, h => by
    simp only [rngD, List.getElem?_cons_succ]
    rw [rngD_get n (lo + 1) i (by omega)]
    congr 2; omega
theorem fits_rng {K : PySem.W.Frag} {lo : Int} {n : Nat} : Fits T K ρ0 H0 (Itr lo n) (rngD lo n) [] where
  stop := fun ρ h H i e S _ hl => by rw [rngD_length] at hl; exact hl
  go := fun ρ h H i e S _ hl => by rw [rngD_length] at hl; exact hl
  yld := fun ρ h H i d v H' e S _ hd y => by
    obtain ⟨rfl, rfl⟩ := y
    have hl := (List.getElem?_eq_some_iff.mp hd).1
    rw [rngD_length] at hl
    rw [rngD_get n lo i hl] at hd
    cases hd
    exact ⟨Ext.refl, S, .int _, fun _ _ z => z⟩

/-- over a list or a tuple -/
theorem si_seq (ha : SE T W X a ma) : PI X tg a (tI T X.K W fun env => M.bind (ma env) walkD) := by
  refine ⟨fun pins s σ H R I q => ?_⟩
  obtain ⟨ρ, env, h, er, S, q⟩ := q
  have q := After.bind q
  have goL : (∀ xs h1, ma env h ≠ .ok (.tup xs) h1) → wpAny (model X.prog X.w) X.A (eval a X.env) (fun v s1 => wpAny (model X.prog X.w) X.A (pyIter v) (PIE X pins σ tg R) X.xe s1) X.xe s := fun nt => by
    refine (pi_list (tg := tg) ha).run pins s σ H R I ⟨ρ, env, h, er, S, ?_⟩
    cases em : ma env h with
    | bad => rw [em] at q; exact q
    | err c fs h1 => rw [em] at q; exact q
    | ok d h1 =>
      rw [em] at q
      intro ρ1 H1 e1 S1 v rv
      have p := q ρ1 H1 e1 S1
      cases rv with
      | ref hr =>
        rename_i r0 p0
        simp only [walkD] at p
        cases ec : h1[r0]? with
        | none => simp only [ec] at p; exact p.elim
        | some c =>
          cases c with
          | lst xs =>
            simp only [ec] at p
            obtain ⟨vs, hv, rr⟩ := S1.lst ec hr
            exact ⟨p0, rfl, ⟨vs, SqL.of hv⟩, p ρ1 H1 Ext.refl S1 _ (fits_lst hr)⟩
          | _ => simp only [ec] at p; exact p.elim
      | scr hs => exact ⟨_, rfl, ⟨_, hs.sq⟩, p ρ1 H1 Ext.refl S1 _ (fits_scr hs)⟩
      | tup ht rr => exact (nt _ _ em).elim
      | _ => exact p.elim
  cases em : ma env h with
  | ok d h1 =>
    cases d with
    | tup xs =>
      refine (pi_tup (tg := tg) ha).run pins s σ H R I ⟨ρ, env, h, er, S, ?_⟩
      rw [em] at q ⊢
      intro ρ1 H1 e1 S1 v rv
      have p := q ρ1 H1 e1 S1
      cases rv with
      | tup ht rr => exact ⟨_, rfl, ⟨_, SqT.of ht⟩, p ρ1 H1 Ext.refl S1 _ (fits_tup ht rr)⟩
    | _ => exact goL fun xs h2 z => by rw [em] at z; cases z
  | _ => exact goL fun xs h2 z => by rw [em] at z; cases z
theorem test_dec {α : Type} {ρ : List Addr} {H : Hp} {h : Hm} {c : Prop} [Decidable c] {f : Unit → M α} {P : α → Hm → List Addr → Hp → Prop} {E : XK} (a : After T X.K ρ H (M.bind (M.test (decide c)) f h) P E) : c ∧ After T X.K ρ H (f () h) P E := by
  obtain ⟨q, a⟩ := test_of a
  exact ⟨of_decide_eq_true q, a⟩
theorem si_rng1 (hg : Gl X "range") (hm : X.mg "range" = none) (hst : noStar a = true) (ha : SE T W X a ma) : PI X tg (.Call (.Name "range" p) [a] [] pos) (tI T X.K W fun env => M.bind (ma env) fun j => rngM (.int 0) j) := by
  refine PI.imp (pi_range1 hg hm (sa_cons (star_cons hst) ha sa_nil) (star_cons hst)) fun σ H R ⟨ρ, env, h, er, S, q⟩ => ?_
  refine ⟨ρ, env, h, er, S, ?_⟩
  have q := After.bind q
  show After T X.K ρ H (M.bind (ma env) (fun x => M.bind (M.ret []) fun xs => M.ret (x :: xs)) h) _ _
  unfold M.bind
  cases em : ma env h with
  | ok d h1 =>
    rw [em] at q
    intro ρ1 H1 e1 S1 vs rvs
    have p := q ρ1 H1 e1 S1
    cases rvs with
    | cons r rr =>
      cases rr
      cases r with
      | int j =>
        obtain ⟨c, p⟩ := test_dec p
        refine ⟨j, rfl, c.2.2.1, c.2.2.2, p ρ1 H1 Ext.refl S1 _ ?_⟩
        have e : (j - 0).toNat = j.toNat := by rw [Int.sub_zero]
        show Fits T X.K ρ1 H1 (Itr 0 j.toNat) (rngD 0 (j - 0).toNat) []
        rw [e]; exact fits_rng
      | _ => exact p.elim
  | err c fs h1 => rw [em] at q; exact q
  | bad => rw [em] at q; exact q
theorem si_rng2 (hg : Gl X "range") (hm : X.mg "range" = none) (hsa : noStar a = true) (hsb : noStar b = true) (ha : SE T W X a ma) (hb : SE T W X b mb) : PI X tg (.Call (.Name "range" p) [a, b] [] pos) (tI T X.K W fun env => M.bind (ma env) fun i => M.bind (mb env) fun j => rngM i j) := by
  refine PI.imp (pi_range2 hg hm (sa_cons (star_cons hsa) ha (sa_cons (star_cons hsb) hb sa_nil)) (by rw [star_cons hsa, star_cons hsb]; rfl) (star_cons hsb)) fun σ H R ⟨ρ, env, h, er, S, q⟩ => ?_
  refine ⟨ρ, env, h, er, S, ?_⟩
  show After T X.K ρ H (M.bind (ma env) (fun x => M.bind (M.bind (mb env) fun y => M.bind (M.ret []) fun xs => M.ret (y :: xs)) fun xs => M.ret (x :: xs)) h) _ _
  simp only [M.bind] at q ⊢
  cases em : ma env h with
  | ok d h1 =>
    simp only [em] at q
    simp only
    cases eb : mb env h1 with
    | ok d2 h2 =>
      simp only [eb] at q
      intro ρ2 H2 e2 S2 vs rvs
      have p := q.ext e2
      cases rvs with
      | cons r rr =>
        cases rr with
        | cons r' rr' =>
          cases rr'
          cases r with
          | int i =>
            cases r' with
            | int j =>
              obtain ⟨c, p⟩ := test_dec p
              exact ⟨i, j, rfl, c, p ρ2 H2 Ext.refl S2 _ fits_rng⟩
            | _ => exact p.elim
          | _ => cases r' <;> exact p.elim
    | err c fs h2 => simp only [eb] at q; exact q
    | bad => simp only [eb] at q; exact q
  | err c fs h1 => simp only [em] at q; exact q
  | bad => simp only [em] at q; exact q
theorem enumD_get : ∀ (xs : List D) (k i : Nat) (d : D), (enumD k xs)[i]? = some d → ∃ x, xs[i]? = some x ∧ d = .tup [.int (k + i : Nat), x]
  | [], _, _, _, e => by simp [enumD] at e
  | x :: xs, k, 0, d, e => by
    simp only [enumD, List.getElem?_cons_zero, Option.some.injEq] at e
    exact ⟨x, rfl, e.symm⟩
  | x :: xs, k, i + 1, d, e => by
    simp only [enumD, List.getElem?_cons_succ] at e
    obtain ⟨y, h1, h2⟩ := enumD_get xs (k + 1) i d e
    refine ⟨y, by simpa using h1, ?_⟩
    rw [h2]; congr 4; omega
theorem enumD_length : ∀ (xs : List D) (k : Nat), (enumD k xs).length = xs.length
  | [], _ => rfl
  | x :: xs, k => by simp [enumD, enumD_length xs]
/-- enumerate of what a list's own walk fits -/
theorem fits_enum {K : PySem.W.Frag} {p : Addr} {xs : List D} {gs : List (Nat × Cell)} (F : Fits T K ρ0 H0 (Itl K p) xs gs) : Fits T K ρ0 H0 (Ite K p) (enumD 0 xs) gs where
  stop := fun ρ h H i e S g hl => F.stop ρ h H i e S g (by rw [enumD_length] at hl; exact hl)
  go := fun ρ h H i e S g hl => F.go ρ h H i e S g (by rw [enumD_length] at hl; exact hl)
  yld := fun ρ h H i d v H' e S g hd y => by
    obtain ⟨Tp, x, rfl, hT, rfl, hx⟩ := y
    obtain ⟨dx, hdx, rfl⟩ := enumD_get xs 0 i d hd
    obtain ⟨_, _, r, _⟩ := F.yld ρ h H i dx x H e S g hdx ⟨rfl, hx⟩
    have e1 : Ext K ρ H ρ (upd H Tp (.tup [.int (i : Nat), x])) := Ext.tup hT
    refine ⟨e1, S.tup hT, .tup upd_same (.cons ?_ (.cons (e1.rep r) .nil)), fun a o z => by rw [upd_ne (ne_of_none z hT)]; exact z⟩
    have q : ((0 + i : Nat) : Int) = (i : Nat) := by omega
    rw [q]; exact .int _
end
end G60

/-! Statements. -/
namespace G60
open PySem L2

/-- where a flow goes -/
def EndsAt (K : PySem.W.Frag) (E : Ends) (f : Fl) (σ : St) (ρ : List Addr) (H : Hp) : Prop := match f with
  | .nx => E.nx σ H
  | .bk => E.bk σ H
  | .ct => E.ct σ H
  | .rt d => ∀ v, Rep K H ρ d v → E.rt v H
def SAfter (T : Tab) (K : PySem.W.Frag) (W : WX) (ρ : List Addr) (H : Hp) (r : SRes) (E : Ends) : Prop := match r with
  | .fl f env' h' => ∀ ρ' H' σ', Ext K ρ H ρ' H' → Sim T K ρ' h' H' → EnvRep K H' ρ' env' σ' → EndsAt K E f σ' ρ' H'
  | .err c fs env' h' => ∀ ρ' H' σ' cls d, Ext K ρ H ρ' H' → Sim T K ρ' h' H' → EnvRep K H' ρ' env' σ' → ExcRep T K H' ρ' c fs cls d → W cls d σ' H'
  | .bad => False
def tS (T : Tab) (K : PySem.W.Frag) (W : WX) (m : SM) : TS := fun D σ H => ∃ ρ env h, EnvRep K H ρ env σ ∧ Sim T K ρ h H ∧ SAfter T K W ρ H (m env h) D
theorem PS.imp {X : Cx} {st : Stmt} {t t' : TS} (a : PS X st t) (i : ∀ D σ H, t' D σ H → t D σ H) : PS X st t' := ⟨fun pins s σ H D I q => a.run pins s σ H D I (i _ _ _ q)⟩
theorem PSs.imp {X : Cx} {st : List Stmt} {t t' : TS} (a : PSs X st t) (i : ∀ D σ H, t' D σ H → t D σ H) : PSs X st t' := ⟨fun pins s σ H D I q => a.run pins s σ H D I (i _ _ _ q)⟩
section
variable {T : Tab} {X : Cx} {W : WX} {H H0 H1 : Hp} {ρ ρ0 ρ1 : List Addr} {h : Hm} {a b c e tg : Expr} {ma mb mc : Ev → M D} {pos p : Pos} {D : Ends} {σ : St} {env : Ev}
theorem SAfter.ext {r : SRes} (e : Ext X.K ρ H ρ1 H1) (a : SAfter T X.K W ρ H r D) : SAfter T X.K W ρ1 H1 r D := by
  cases r with
  | fl f env' h' => exact fun ρ' H' σ' e' => a ρ' H' σ' (e.trans e')
  | err c fs env' h' => exact fun ρ' H' σ' cls d e' => a ρ' H' σ' cls d (e.trans e')
  | bad => exact a
/-- run m, then k -/
theorem SAfter.of {α : Type} {m : Ev → M α} {k : α → SM} (er : EnvRep X.K H ρ env σ) (q : SAfter T X.K W ρ H (SM.of m k env h) D) :
    After T X.K ρ H (m env h) (fun x h1 ρ1 H1 => SAfter T X.K W ρ1 H1 (k x env h1) D) fun c d H' => W c d σ H' := by
  unfold SM.of at q
  cases em : m env h with
  | ok x h1 => rw [em] at q; exact fun ρ1 H1 e1 S1 => SAfter.ext e1 q
  | err c fs h1 => rw [em] at q; exact fun ρ1 H1 cls d e1 S1 x => q ρ1 H1 σ cls d e1 S1 (er.mono e1) x
  | bad => rw [em] at q; exact q
theorem SAfter.done {f : Fl} (S : Sim T X.K ρ h H) (er : EnvRep X.K H ρ env σ) (q : SAfter T X.K W ρ H (.fl f env h) D) : EndsAt X.K D f σ ρ H := q ρ H σ Ext.refl S er
abbrev SS (T : Tab) (W : WX) (X : Cx) (st : Stmt) (m : SM) : Prop := PS X st (tS T X.K W m)
abbrev SSs (T : Tab) (W : WX) (X : Cx) (st : List Stmt) (m : SM) : Prop := PSs X st (tS T X.K W m)
variable {st : Stmt} {sts : List Stmt} {m n : SM}
theorem ss_nil : SSs T W X [] (SM.done .nx) := PSs.imp pss_nil fun D σ H ⟨ρ, env, h, er, S, q⟩ => q.done S er
theorem seq_after {m n : SM} (q : SAfter T X.K W ρ H (SM.seq m n env h) D) : SAfter T X.K W ρ H (m env h) { D with nx := tS T X.K W n D } := by
  unfold SM.seq at q
  cases em : m env h with
  | fl f env' h' =>
    rw [em] at q
    cases f with
    | nx => exact fun ρ' H' σ' e' S' er' => ⟨ρ', env', h', er', S', SAfter.ext e' q⟩
    | _ => exact fun ρ' H' σ' e' S' er' => q ρ' H' σ' e' S' er'
  | err c fs env' h' => rw [em] at q; exact q
  | bad => rw [em] at q; exact q
theorem ss_cons (h1 : SS T W X st m) (h2 : SSs T W X sts n) : SSs T W X (st :: sts) (SM.seq m n) :=
  PSs.imp (pss_cons h1 h2) fun D σ H ⟨ρ, env, h, er, S, q⟩ => ⟨ρ, env, h, er, S, seq_after q⟩
theorem ss_pass : SS T W X (.Pass pos) (SM.done .nx) := PS.imp ps_pass fun D σ H ⟨ρ, env, h, er, S, q⟩ => q.done S er
theorem ss_break : SS T W X (.Break pos) (SM.done .bk) := PS.imp ps_break fun D σ H ⟨ρ, env, h, er, S, q⟩ => q.done S er
theorem ss_cont : SS T W X (.Continue pos) (SM.done .ct) := PS.imp ps_continue fun D σ H ⟨ρ, env, h, er, S, q⟩ => q.done S er
theorem ss_retN : SS T W X (.Return none pos) (SM.done (.rt .non)) := PS.imp ps_retN fun D σ H ⟨ρ, env, h, er, S, q⟩ => q.done S er _ .non
theorem ss_never : SS T W X st (fun _ _ => .bad) := PS.imp ps_never fun D σ H ⟨ρ, env, h, er, S, q⟩ => q
theorem ss_ret (ha : SE T W X a ma) : SS T W X (.Return (some a) pos) (SM.of ma fun x => SM.done (.rt x)) :=
  PS.imp (ps_ret ha) fun D σ H ⟨ρ, env, h, er, S, q⟩ => ⟨ρ, env, h, er, S, (SAfter.of er q).imp (fun x h1 ρ1 H1 e1 S1 p v rv => p.done S1 (er.mono e1) v rv) fun _ _ _ z => z⟩
theorem ss_ex (hs : swapsWith a none pos.line X.env = pure false) (ha : SE T W X a ma) : SS T W X (.Expr a pos) (SM.of ma fun _ => SM.done .nx) :=
  PS.imp (ps_expr ha hs) fun D σ H ⟨ρ, env, h, er, S, q⟩ => ⟨ρ, env, h, er, S, (SAfter.of er q).imp (fun x h1 ρ1 H1 e1 S1 p v rv => p.done S1 (er.mono e1)) fun _ _ _ z => z⟩
theorem ss_ite {sa sb : List Stmt} (hc : ST T W X c (tru mc)) (ha : SSs T W X sa m) (hb : SSs T W X sb n) : SS T W X (.If c sa sb pos) (SM.of (tru mc) fun t => if t = true then m else n) := by
  refine PS.imp (ps_if hc ha hb) fun D σ H ⟨ρ, env, h, er, S, q⟩ => ⟨ρ, env, h, er, S, (SAfter.of er q).imp (fun x h1 ρ1 H1 e1 S1 p => ?_) fun _ _ _ z => z⟩
  cases x with
  | true => exact ⟨ρ1, env, h1, er.mono e1, S1, p⟩
  | false => exact ⟨ρ1, env, h1, er.mono e1, S1, p⟩
theorem ss_set {t : Tg} (hs : swapsWithSole [tg] a pos.line X.env = pure false) (hw : swappedStores [tg] a X.env = pure none) (h1 : (assignEach [tg] X.env).map (·.2) = [assign tg X.env]) (ha : SE T W X a ma) (hg : PG X tg (tG T X.K t)) :
    SS T W X (.Assign [tg] a pos) (SM.of ma (setS (asg t))) := by
  refine PS.imp (ps_asg ha hg hs hw h1) fun D σ H ⟨ρ, env, h, er, S, q⟩ => ⟨ρ, env, h, er, S, (SAfter.of er q).imp (fun x h1 ρ1 H1 e1 S1 p v rv => ?_) fun _ _ _ z => z⟩
  unfold setS at p
  cases ea : asg t x env with
  | none => rw [ea] at p; exact p.elim
  | some env' =>
    rw [ea] at p
    exact ⟨ρ1, env, h1, x, env', er.mono e1, S1, rv, ea, fun σ' _ er' => p ρ1 H1 σ' Ext.refl S1 er'⟩
/-- what a while's state has computed so far -/
theorem ss_while {sb : List Stmt} (hp : PassesOwn (model X.prog X.w) X.A X.env X.xe) (hc : ST T W X c (tru mc)) (hb : SSs T W X sb m) : SS T W X (.While c sb [] pos) (whL (tru mc) m FUEL) := by
  refine PS.imp (ps_while hp hc hb) fun D σ H ⟨ρ, env, h, er, S, q⟩ => ?_
  refine ⟨fun k σ H => ∃ ρ env h, EnvRep X.K H ρ env σ ∧ Sim T X.K ρ h H ∧ SAfter T X.K W ρ H (whL (tru mc) m k env h) D, ⟨FUEL, ρ, env, h, er, S, q⟩, fun k σ H ⟨ρ, env, h, er, S, q⟩ => ?_⟩
  cases k with
  | zero => exact q.elim
  | succ k =>
    refine ⟨ρ, env, h, er, S, (SAfter.of er q).imp (fun x h1 ρ1 H1 e1 S1 p => ?_) fun _ _ _ z => z⟩
    cases x with
    | false => exact p.done S1 (er.mono e1)
    | true =>
      refine iteT ⟨fun σ' H' => ∃ ρ env h, EnvRep X.K H' ρ env σ' ∧ Sim T X.K ρ h H' ∧ SAfter T X.K W ρ H' (whL (tru mc) m k env h) D, fun σ' H' z => ⟨k, Nat.lt_succ_self _, z⟩, ρ1, env, h1, er.mono e1, S1, ?_⟩
      simp only [if_true] at p
      cases em : m env h1 with
      | fl f env' h' =>
        rw [em] at p
        cases f with
        | nx => exact fun ρ' H' σ' e' S' er' => ⟨ρ', env', h', er', S', SAfter.ext e' p⟩
        | ct => exact fun ρ' H' σ' e' S' er' => ⟨ρ', env', h', er', S', SAfter.ext e' p⟩
        | bk => exact fun ρ' H' σ' e' S' er' => p ρ' H' σ' e' S' er'
        | rt d => exact fun ρ' H' σ' e' S' er' => p ρ' H' σ' e' S' er'
      | err c fs env' h' => rw [em] at p; exact p
      | bad => rw [em] at p; exact p
theorem stays_of {gs : List (Nat × Cell)} {α : Type} {f : Unit → M α} {P : α → Hm → List Addr → Hp → Prop} {E : XK} (a : After T X.K ρ H (M.bind (stays gs) f h) P E) : Gs h gs ∧ After T X.K ρ H (f () h) P E := by
  unfold M.bind stays at a
  by_cases hg : gs.all (fun g => decide (h[g.1]? = some g.2)) = true
  · simp only [hg, if_true] at a
    refine ⟨fun g hm => ?_, a⟩
    exact of_decide_eq_true (List.all_eq_true.mp hg g hm)
  · simp only [hg, Bool.false_eq_true, if_false] at a
    exact a.elim
theorem stays_of' {gs : List (Nat × Cell)} {P : Unit → Hm → List Addr → Hp → Prop} {E : XK} (a : After T X.K ρ H (stays gs h) P E) : Gs h gs ∧ ∀ ρ' H', Ext X.K ρ H ρ' H' → Sim T X.K ρ' h H' → P () h ρ' H' := by
  unfold stays at a
  by_cases hg : gs.all (fun g => decide (h[g.1]? = some g.2)) = true
  · simp only [hg, if_true] at a
    exact ⟨fun g hm => of_decide_eq_true (List.all_eq_true.mp hg g hm), a⟩
  · simp only [hg, Bool.false_eq_true, if_false] at a
    exact a.elim
theorem ss_for {iter : Expr} {sb : List Stmt} {t : Tg} {mi : Ev → M Walk} (hp : PassesOwn (model X.prog X.w) X.A X.env X.xe) (hc : X.calm = true) (hi : PI X tg iter (tI T X.K W mi)) (hg : PG X tg (tG T X.K t)) (hb : SSs T W X sb m)
    (hs : ∀ x, foldedSetIterable iter X.env x = pure x) : SS T W X (.For tg iter sb [] pos) (SM.of mi fun w => forL w.2 (asg t) m w.1) := by
  refine PS.imp (ps_for hp hc hi hg hb hs) fun D σ H ⟨ρ, env, h, er, S, q⟩ => ⟨ρ, env, h, er, S, (SAfter.of er q).imp (fun w h1 ρ1 H1 e1 S1 p J F => ?_) fun _ _ _ z => z⟩
  obtain ⟨xs, gs⟩ := w
  have F : Fits T X.K ρ1 H1 J xs gs := F
  have p : SAfter T X.K W ρ1 H1 (forL gs (asg t) m xs env h1) D := p
  refine ⟨fun i k σ2 H2 => k = xs.length - i ∧ ∃ ρ2 env2 h2, EnvRep X.K H2 ρ2 env2 σ2 ∧ Sim T X.K ρ2 h2 H2 ∧ Ext X.K ρ1 H1 ρ2 H2 ∧ i ≤ xs.length ∧ SAfter T X.K W ρ2 H2 (forL gs (asg t) m (xs.drop i) env2 h2) D,
    ⟨xs.length, by simp, ρ1, env, h1, er.mono e1, S1, Ext.refl, Nat.zero_le _, p⟩, fun i k σ2 H2 ⟨hk, ρ2, env2, h2, er2, S2, e2, hi2, p2⟩ => ?_⟩
  by_cases hl : i < xs.length
  · have ed : xs.drop i = xs[i] :: xs.drop (i + 1) := (List.getElem_cons_drop hl).symm
    rw [ed] at p2
    have p3 := SAfter.of er2 p2
    obtain ⟨g, p4⟩ := stays_of p3
    unfold M.opt at p4
    cases ea : asg t xs[i] env2 with
    | none => simp only [ea] at p4; exact p4.elim
    | some env3 =>
      simp only [ea] at p4
      refine .inr ⟨F.go ρ2 h2 H2 i e2 S2 g hl, fun σ3 H3 => ∃ ρ3 env3 h3, EnvRep X.K H3 ρ3 env3 σ3 ∧ Sim T X.K ρ3 h3 H3 ∧ Ext X.K ρ1 H1 ρ3 H3 ∧ SAfter T X.K W ρ3 H3 (forL gs (asg t) m (xs.drop (i + 1)) env3 h3) D, fun σ3 H3 ⟨ρ3, env3, h3, er3, S3, e3, p5⟩ => ⟨xs.length - (i + 1), by omega, rfl, ρ3, env3, h3, er3, S3, e3, hl, p5⟩, fun v H3 y => ?_⟩
      obtain ⟨e3, S3, rv, _⟩ := F.yld ρ2 h2 H2 i xs[i] v H3 e2 S2 g (List.getElem?_eq_getElem hl) y
      refine ⟨ρ2, env2, h2, xs[i], env3, er2.mono e3, S3, rv, ea, fun σ4 _ er4 => ⟨ρ2, env3, h2, er4, S3, ?_⟩⟩
      have p5 := p4 ρ2 H3 e3 S3
      cases em : m env3 h2 with
      | fl f env' h' =>
        simp only [em] at p5
        cases f with
        | nx => exact fun ρ' H' σ' e' S' er' => ⟨ρ', env', h', er', S', (e2.trans e3).trans e', SAfter.ext e' p5⟩
        | ct => exact fun ρ' H' σ' e' S' er' => ⟨ρ', env', h', er', S', (e2.trans e3).trans e', SAfter.ext e' p5⟩
        | bk => exact fun ρ' H' σ' e' S' er' => p5 ρ' H' σ' e' S' er'
        | rt d => exact fun ρ' H' σ' e' S' er' => p5 ρ' H' σ' e' S' er'
      | err c fs env' h' => simp only [em] at p5; exact p5
      | bad => simp only [em] at p5; exact p5
  · have e0 : xs.drop i = [] := List.drop_eq_nil_of_le (by omega)
    rw [e0] at p2
    obtain ⟨g, p3⟩ := stays_of' (SAfter.of er2 p2)
    exact .inl ⟨F.stop ρ2 h2 H2 i e2 S2 g (by omega), (p3 ρ2 H2 Ext.refl S2).done S2 er2⟩
end
end G60

/-! Comprehensions; stores into objects. -/
namespace G60
open PySem L2

theorem wipe_get {σ : St} {j : Nat} : ∀ {vs : List Nat}, (wipe σ vs)[j]? = if j ∈ vs then (σ[j]?).map (fun _ => none) else σ[j]?
  | [] => by simp [wipe]
  | v :: vs => by
    unfold wipe
    by_cases hv : v = j
    · subst hv
      by_cases hl : v < σ.length
      · rw [List.getElem?_set_self (by rw [wipe_length]; exact hl), if_pos (by simp), List.getElem?_eq_getElem hl]; rfl
      · rw [List.getElem?_eq_none (by rw [List.length_set, wipe_length]; omega), if_pos (by simp), List.getElem?_eq_none (by omega)]; rfl
    · rw [List.getElem?_set_ne hv, wipe_get (vs := vs)]
      have : (j ∈ v :: vs) ↔ j ∈ vs := by simp [Ne.symm hv]
      by_cases hj : j ∈ vs
      · rw [if_pos hj, if_pos (this.mpr hj)]
      · rw [if_neg hj, if_neg (fun z => hj (this.mp z))]
theorem wipe_but {σ σ2 : St} {ix vs : List Nat} (b : But ix (wipe σ vs) σ2) (h : ∀ i ∈ ix, i ∈ vs) : wipe σ2 vs = wipe σ vs := by
  refine List.ext_getElem? fun j => ?_
  rw [wipe_get, wipe_get]
  by_cases hj : j ∈ vs
  · rw [if_pos hj, if_pos hj]
    have l1 : σ2.length = σ.length := by rw [b.1, wipe_length]
    by_cases hl : j < σ.length
    · rw [List.getElem?_eq_getElem hl, List.getElem?_eq_getElem (by omega)]; rfl
    · rw [List.getElem?_eq_none (by omega), List.getElem?_eq_none (by omega)]
  · rw [if_neg hj, if_neg hj, b.2 j fun z => hj (h j z), wipe_get, if_neg hj]
section
variable {T : Tab} {X : Cx} {W : WX} {H H0 H1 : Hp} {ρ ρ0 ρ1 : List Addr} {h : Hm} {a b c e tg : Expr} {ma mb mc : Ev → M D} {pos p : Pos} {σ : St} {env : Ev}
theorem EnvRep.wipe {K : PySem.W.Frag} (er : EnvRep K H ρ env σ) : ∀ vs : List Nat, EnvRep K H ρ (wipeE env vs) (L2.wipe σ vs)
  | [] => er
  | v :: vs => (EnvRep.wipe er vs).setN v none
abbrev WF : WX := fun _ _ _ _ => False
theorem noErr_of {α : Type} {K : PySem.W.Frag} {r : Res α} {P : α → Hm → List Addr → Hp → Prop} {E E' : XK} (q : After T K ρ H (noErr r) P E) : After T K ρ H r P E' := by
  cases r with
  | ok x h => exact q
  | err c fs h => exact q.elim
  | bad => exact q
theorem noErr_ne {α : Type} (r : Res α) {c : Nat} {fs : List (Nat × D)} {h : Hm} (z : noErr r = .err c fs h) : False := by
  cases r <;> cases z
theorem app_of {K : PySem.W.Frag} {r : Nat} {d : D} {P : Unit → Hm → List Addr → Hp → Prop} {E : XK} {f : Unit → M Unit} (q : After T K ρ H (M.bind (bmM .lst .append (.ref r) [d]) (fun _ => f ()) h) P E) :
    ∃ xs, h[r]? = some (.lst xs) ∧ xs.length < sizeLine ∧ After T K ρ H (f () (h.set r (.lst (xs ++ [d])))) P E := by
  simp only [bmM, M.bind, lstM] at q
  cases e : h[r]? with
  | none => simp only [e] at q; exact q.elim
  | some c =>
    cases c with
    | lst xs =>
      simp only [e, M.test] at q
      by_cases hz : xs.length < sizeLine
      · simp only [hz, decide_true, if_true, M.put] at q
        exact ⟨xs, rfl, hz, q⟩
      · simp only [hz, decide_false, Bool.false_eq_true, if_false] at q
        exact q.elim
    | _ => simp only [e] at q; exact q.elim
/-- what a comprehension computes -/
abbrev compM (mi : Ev → M Walk) (t : Tg) (mcond : Ev → M Bool) (melt : Ev → M D) (own : List (Str × Nat)) : Ev → M D := fun env => M.bind (mi env) fun w => M.bind (M.alloc (.lst [])) fun d => match d with
      | .ref r => M.bind (compL w.2 (fun x => asg t x (wipeE env (own.map (·.2)))) (fun e h => noErr (mcond e h)) (fun e h => noErr (melt e h)) r w.1) fun _ => M.ret (.ref r)
      | _ => M.bad
theorem lc_of {own : List (Str × Nat)} {t : Tg} {mi : Ev → M Walk} {mcond : Ev → M Bool} {melt : Ev → M D} (hix : ∀ i ∈ t.ix, i ∈ own.map (·.2)) {σ : St} {H : Hp} {Q : VK} (q : tE T X.K W (compM mi t mcond melt own) σ H Q) :
    tLc (tI T X.K W mi) (tG T X.K t) (tT T X.K WF mcond) (tE T X.K WF melt) (own.map (·.2)) σ H Q := by
  obtain ⟨ρ, env, h, er, S, q⟩ := q
  refine ⟨ρ, env, h, er, S, (After.bind q).imp (fun w h1 ρ1 H1 e1 S1 p J F => ?_) fun _ _ _ z => z⟩
  obtain ⟨xs, gs⟩ := w
  have F : Fits T X.K ρ1 H1 J xs gs := F
  intro D hD
  -- the new list
  have eD : Ext X.K ρ1 H1 (ρ1 ++ [D]) (upd H1 D (.lst [])) := Ext.new hD
  have SD := S1.new (o := .lst []) (c := .lst []) hD ⟨[], upd_same, .nil⟩
  have p : After T X.K ρ1 H1 (M.bind (compL gs (fun x => asg t x (wipeE env (own.map (·.2)))) (fun e h => noErr (mcond e h)) (fun e h => noErr (melt e h)) h1.length xs) (fun _ => M.ret (.ref h1.length)) (h1 ++ [.lst []])) (PV X.K Q) (fun c d H' => W c d σ H') := p
  have p := After.bind (p.ext eD)
  have rD : (ρ1 ++ [D])[h1.length]? = some D := by rw [← S1.len]; simp
  refine ⟨fun i k H2 => k = xs.length - i ∧ ∃ ρ2 h2, Sim T X.K ρ2 h2 H2 ∧ Ext X.K (ρ1 ++ [D]) (upd H1 D (.lst [])) ρ2 H2 ∧ i ≤ xs.length ∧
      After T X.K ρ2 H2 (compL gs (fun x => asg t x (wipeE env (own.map (·.2)))) (fun e h => noErr (mcond e h)) (fun e h => noErr (melt e h)) h1.length (xs.drop i) h2) (fun _ _ ρ' H' => ∀ v, Rep X.K H' ρ' (.ref h1.length) v → Q v H') EF,
    ⟨xs.length, by simp, _, _, SD, Ext.refl, Nat.zero_le _, ?_⟩, fun i k H2 ⟨hk, ρ2, h2, S2, e2, hi2, p2⟩ => ?_⟩
  · -- compL raises nothing
    have ne : ∀ (l : List G60.D) hh c fs h', compL gs (fun x => asg t x (wipeE env (own.map (·.2)))) (fun e h => noErr (mcond e h)) (fun e h => noErr (melt e h)) h1.length l hh ≠ .err c fs h' := by
      intro l
      induction l with
      | nil => exact NoErr.bind (fun h c fs h' z => by unfold stays at z; split at z <;> cases z) fun _ => .ret _
      | cons x l ih =>
        refine NoErr.bind (fun h c fs h' z => by unfold stays at z; split at z <;> cases z) fun _ => NoErr.bind (.opt _) fun e => NoErr.bind (fun h c fs h' z => ?_) fun b => NoErr.bind ?_ fun _ => ih
        · exact noErr_ne _ z
        · cases b with
          | false => exact .ret _
          | true =>
            exact NoErr.bind (fun h c fs h' z => noErr_ne _ z) fun y => NoErr.bind ne_bm fun _ => .ret _
    refine After.ne (ne xs) (p.imp (fun _ h' ρ' H' e' S' q' v rv => q' ρ' H' Ext.refl S' v rv) fun _ _ _ z => z)
  · have e02 : Ext X.K ρ1 H1 ρ2 H2 := eD.trans e2
    have rD2 : ρ2[h1.length]? = some D := by
      obtain ⟨s, es⟩ := e2.pre
      rw [← es, List.getElem?_append_left (List.getElem?_eq_some_iff.mp rD).1]; exact rD
    have er2 : EnvRep X.K H2 ρ2 env σ := (er.mono e1).mono e02
    by_cases hl : i < xs.length
    · have ed : xs.drop i = xs[i] :: xs.drop (i + 1) := (List.getElem_cons_drop hl).symm
      rw [ed] at p2
      obtain ⟨g, p2⟩ := stays_of p2
      obtain ⟨env3, ea, p2⟩ := opt_of p2
      refine .inr ⟨F.go ρ2 h2 H2 i e02 S2 g hl, fun H3 => ∃ ρ3 h3, Sim T X.K ρ3 h3 H3 ∧ Ext X.K (ρ1 ++ [D]) (upd H1 D (.lst [])) ρ3 H3 ∧
          After T X.K ρ3 H3 (compL gs (fun x => asg t x (wipeE env (own.map (·.2)))) (fun e h => noErr (mcond e h)) (fun e h => noErr (melt e h)) h1.length (xs.drop (i + 1)) h3) (fun _ _ ρ' H' => ∀ v, Rep X.K H' ρ' (.ref h1.length) v → Q v H') EF,
        fun H3 ⟨ρ3, h3, S3, e3, p3⟩ => ⟨xs.length - (i + 1), by omega, rfl, ρ3, h3, S3, e3, hl, p3⟩, fun v H3 y => ?_⟩
      obtain ⟨e3, S3, rv, _⟩ := F.yld ρ2 h2 H2 i xs[i] v H3 e02 S2 g (List.getElem?_eq_getElem hl) y
      refine ⟨ρ2, _, h2, xs[i], env3, (er2.wipe _).mono e3, S3, rv, ea, fun σ4 b4 er4 => ⟨wipe_but b4 hix, ρ2, env3, h2, er4, S3, ?_⟩⟩
      refine (noErr_of (After.bind (p2.ext e3))).imp (fun b h4 ρ4 H4 e4 S4 p4 => ?_) fun _ _ _ z => z
      cases b with
      | false =>
        exact ⟨ρ4, h4, S4, (e2.trans e3).trans e4, p4⟩
      | true =>
        refine iteT ⟨ρ4, env3, h4, er4.mono e4, S4, ?_⟩
        have p5 : After T X.K ρ4 H4 (M.bind (fun h => noErr (melt env3 h)) (fun y => M.bind (bmM .lst .append (.ref h1.length) [y]) fun _ => compL gs (fun x => asg t x (wipeE env (own.map (·.2)))) (fun e h => noErr (mcond e h)) (fun e h => noErr (melt e h)) h1.length (xs.drop (i + 1))) h4) (fun _ _ ρ' H' => ∀ v, Rep X.K H' ρ' (.ref h1.length) v → Q v H') EF := by
          have q := p4
          simp only [if_true, bind_assoc] at q
          exact q
        refine (noErr_of (After.bind p5)).imp (fun y h5 ρ5 H5 e5 S5 p6 w rw5 => ?_) fun _ _ _ z => z
        obtain ⟨ys, ey, hz, p7⟩ := app_of (f := fun _ => compL gs (fun x => asg t x (wipeE env (own.map (·.2)))) (fun e h => noErr (mcond e h)) (fun e h => noErr (melt e h)) h1.length (xs.drop (i + 1))) p6
        have rD5 : ρ5[h1.length]? = some D := by
          obtain ⟨s, es⟩ := ((e3.trans e4).trans e5).pre
          rw [← es, List.getElem?_append_left (List.getElem?_eq_some_iff.mp rD2).1]; exact rD2
        obtain ⟨vs, hv, rvs⟩ := S5.lst ey rD5
        have e6 : Ext X.K ρ5 H5 ρ5 (upd H5 D (.lst (vs ++ [w]))) := Ext.set hv trivial
        exact ⟨vs, hv, by rw [← rvs.length]; exact hz, ρ5, _, S5.set (c := .lst (ys ++ [y])) ey rD5 hv trivial ⟨_, upd_same, (e6.reps rvs).append (.cons (e6.rep rw5) .nil)⟩, (((e2.trans e3).trans e4).trans e5).trans e6, p7.ext e6⟩
    · have e0 : xs.drop i = [] := List.drop_eq_nil_of_le (by omega)
      rw [e0] at p2
      obtain ⟨g, p3⟩ := stays_of p2
      exact .inl ⟨F.stop ρ2 h2 H2 i e02 S2 g (by omega), p3 ρ2 H2 Ext.refl S2 _ (.ref rD2)⟩
/-- [elt for t in it if cond] -/
theorem se_comp {iter elt : Expr} {ifs : List Expr} {scope : Scope} {own : List (Str × Nat)} {t : Tg} {mi : Ev → M Walk} {mcond : Ev → M Bool} {melt : Ev → M D} (hc : X.calm = true) (hN : X.N.Nodup) (hi : PI X tg iter (tI T X.K W mi)) (ok : BlkOk X.N X.env.scope scope own) (hix : ∀ i ∈ t.ix, i ∈ own.map (·.2))
    (hg : ∀ (s : Shared) (H : Hp) (C : Addr) (cl : List (Str × Addr)) (fp : List Addr), PG (X.blk s H scope (compEnvC scope cl C X.env) fp) tg (tG T X.K t))
    (ht : ∀ (s : Shared) (H : Hp) (C : Addr) (cl : List (Str × Addr)) (fp : List Addr), PTs (X.blk s H scope (compEnvC scope cl C X.env) fp) ifs (tT T X.K WF mcond))
    (he : ∀ (s : Shared) (H : Hp) (C : Addr) (cl : List (Str × Addr)) (fp : List Addr), PE (X.blk s H scope (compEnvC scope cl C X.env) fp) elt (tE T X.K WF melt)) (hs : ∀ x, foldedSetIterable iter X.env x = pure x) :
    SE T W X (.ListComp elt [⟨tg, iter, ifs, 0⟩] scope pos) (compM mi t mcond melt own) :=
  PE.imp (pe_lc hc hN hi ok hg ht he hs) fun σ H Q q => lc_of hix q
/-- y = [elt for t in it if cond] -/
theorem ss_setLc {i : Nat} {y : Str} {py spos : Pos} {iter elt : Expr} {ifs : List Expr} {scope : Scope} {own : List (Str × Nat)} {t : Tg} {mi : Ev → M Walk} {mcond : Ev → M Bool} {melt : Ev → M D} (hc : X.calm = true) (hN : X.N.Nodup) (hy : X.N[i]? = some y) (hyl : X.env.scope.names.lookup y = some .local)
    (hsw : swapsWith (.ListComp elt [⟨tg, iter, ifs, 0⟩] scope pos) (some (.Name y py)) spos.line X.env = pure true) (hi : PI X tg iter (tI T X.K W mi)) (ok : BlkOk X.N X.env.scope scope own) (hix : ∀ i ∈ t.ix, i ∈ own.map (·.2))
    (hg : ∀ (s : Shared) (H : Hp) (C : Addr) (cl : List (Str × Addr)) (fp : List Addr), PG (X.blk s H scope (compEnvC scope cl C X.env) fp) tg (tG T X.K t))
    (ht : ∀ (s : Shared) (H : Hp) (C : Addr) (cl : List (Str × Addr)) (fp : List Addr), PTs (X.blk s H scope (compEnvC scope cl C X.env) fp) ifs (tT T X.K WF mcond))
    (he : ∀ (s : Shared) (H : Hp) (C : Addr) (cl : List (Str × Addr)) (fp : List Addr), PE (X.blk s H scope (compEnvC scope cl C X.env) fp) elt (tE T X.K WF melt)) (hs : ∀ x, foldedSetIterable iter X.env x = pure x) :
    SS T W X (.Assign [.Name y py] (.ListComp elt [⟨tg, iter, ifs, 0⟩] scope pos) spos) (SM.of (compM mi t mcond melt own) (setS (asg (.nm i)))) := by
  refine PS.imp (ps_setLc hc hN hy hyl hsw hi ok hg ht he hs) fun D σ H q => ?_
  refine lc_of hix ?_
  obtain ⟨ρ, env, h, er, S, q⟩ := q
  refine ⟨ρ, env, h, er, S, (SAfter.of er q).imp (fun x h1 ρ1 H1 e1 S1 p v rv => ?_) fun _ _ _ z => z⟩
  exact p ρ1 H1 _ Ext.refl S1 ((er.mono e1).set rv i)
end
end G60

/-! Stores into objects; what is forgotten; defs. -/
namespace G60
open PySem L2
section
variable {T : Tab} {X : Cx} {W : WX} {H H0 H1 : Hp} {ρ ρ0 ρ1 : List Addr} {h : Hm} {a b c e o i : Expr} {ma mb mc : Ev → M D} {pos pos' p : Pos} {σ : St} {env : Ev}
theorem ne_setIdx {x i d : D} : NoErr (setIdxM x i d) := by
  intro h c fs h' z
  unfold setIdxM at z
  repeat' split at z
  all_goals cases z
theorem so_setIdx : PSet X (fun o i v H Q => ∃ ρ h do_ di dv, Rep X.K H ρ do_ o ∧ Rep X.K H ρ di i ∧ Rep X.K H ρ dv v ∧ Sim T X.K ρ h H ∧ After T X.K ρ H (setIdxM do_ di dv h) (fun _ _ _ H' => Q H') EF) := by
  intro pins s σ H o i v ov iv u Q I ro ri rv q
  obtain ⟨ρ, h, do_, di, dv, qo, qi, qv, S, a⟩ := q
  cases qi with
  | int k =>
    cases qo with
    | ref hr =>
      simp only [setIdxM] at a
      split at a
      · rename_i xs e1
        split at a
        · rename_i j ej
          obtain ⟨vs, hv, rr⟩ := S.lst e1 hr
          refine set_list pins s σ H _ _ v ov iv u Q I ro ri rv ⟨_, vs, k, j, rfl, rfl, hv, by rw [← rr.length]; exact ej, ?_⟩
          have x := Ext.set (K := X.K) (ρ := ρ) (o := .lst (vs.set j v)) hv trivial
          exact a _ _ x (S.set (c := .lst (xs.set j dv)) e1 hr hv trivial ⟨_, upd_same, x.reps (rr.set qv j)⟩)
        · exact a.elim
      · exact a.elim
    | _ => exact a.elim
  | _ => cases qo <;> exact a.elim
/-- o[i] = e -/
theorem ss_setIdx (hsub : ∀ v, assign (.Subscript o i pos') X.env v = (do
      let ov ← holding [v] (eval o X.env)
      let iv ← holding [v, ov] (eval i X.env)
      standAt pos'
      holding [v, ov, iv] (setItem ov iv v)
      release [v, ov, iv] [])) (hs : swapsWithSole [.Subscript o i pos'] a pos.line X.env = pure false) (ho : SE T W X o mb) (hi : SE T W X i mc) (ha : SE T W X a ma) : SS T W X (.Assign [.Subscript o i pos'] a pos) (SM.of (fun env => M.bind (ma env) fun v => M.bind (mb env) fun x => M.bind (mc env) fun k => setIdxM x k v) fun _ => SM.done .nx) := by
  refine PS.imp (ps_asg ha (pg_sub ho hi (so_setIdx (T := T)) hsub) hs) fun E σ H ⟨ρ, env, h, er, S, q⟩ => ⟨ρ, env, h, er, S, (After.bind (SAfter.of er q)).imp (fun v h1 ρ1 H1 e1 S1 p w rw1 => ?_) fun _ _ _ z => z⟩
  refine ⟨ρ1, env, h1, er.mono e1, S1, (After.bind p).imp (fun x h2 ρ2 H2 e2 S2 p2 w2 rw2 => ?_) fun _ _ _ z => z⟩
  refine ⟨ρ2, env, h2, (er.mono e1).mono e2, S2, (After.bind p2).imp (fun k h3 ρ3 H3 e3 S3 p3 w3 rw3 => ?_) fun _ _ _ z => z⟩
  exact ⟨ρ3, h3, x, k, v, e3.rep rw2, rw3, (e2.trans e3).rep rw1, S3, (p3.ne ne_setIdx).imp (fun _ h4 ρ4 H4 e4 S4 p4 => p4.done S4 (((er.mono e1).mono e2).mono (e3.trans e4))) fun _ _ _ z => z⟩
theorem After.setA {K : PySem.W.Frag} (F : CF T K) (S : Sim T K ρ h H) {rf C n : Nat} {p Ca dx : Addr} {fs : List (Nat × D)} {vs : List (Str × V)} {f : Str} {d : D} {w : V} {P : Unit → Hm → List Addr → Hp → Prop} {E : XK} (e : h[rf]? = some (.ins C fs)) (ep : ρ[rf]? = some p) (hC : T.cls[C]? = some Ca) (hp : H p = some (.ins Ca dx vs)) (rr : FRep T K H ρ C fs vs)
    (hn : T.att[n]? = some f) (hh : T.has C n = true) (rd : Rep K H ρ d w) (a : After T K ρ H (.ok () (h.set rf (.ins C (putA n d fs)))) P E) : P () (h.set rf (.ins C (putA n d fs))) ρ (upd H p (.ins Ca dx (putF f w vs))) := by
  have x := Ext.set (K := K) (ρ := ρ) (o := .ins Ca dx (putF f w vs)) hp trivial
  exact a _ _ x (S.set (c := .ins C (putA n d fs)) e ep hp trivial ⟨Ca, dx, _, hC, upd_same, (FRep.put F.nd hn hh rd rr).mono x.tk x.pre⟩)
/-- o.f = e -/
theorem ss_setAtt (F : CF T X.K) {n : Nat} {f : Str} (hn : T.att[n]? = some f) (hs : swapsWith a (some (.Attribute o f pos')) pos.line X.env = pure false) (ho : SE T W X o mb) (ha : SE T W X a ma) : SS T W X (.Assign [.Attribute o f pos'] a pos) (SM.of (fun env => M.bind (ma env) fun v => M.bind (mb env) fun x => setAttM T.has x n v) fun _ => SM.done .nx) := by
  refine PS.imp (ps_fld ho ha hs) fun E σ H ⟨ρ, env, h, er, S, q⟩ => ⟨ρ, env, h, er, S, (After.bind (SAfter.of er q)).imp (fun v h1 ρ1 H1 e1 S1 p w rw1 => ?_) fun _ _ _ z => z⟩
  refine ⟨ρ1, env, h1, er.mono e1, S1, (After.bind p).imp (fun x h2 ρ2 H2 e2 S2 p2 w2 rw2 => ?_) fun _ _ _ z => z⟩
  obtain ⟨rf, C, fs, Ca, dx, vs, pp, rfl, g1, g2, rfl, g3, g4, g5, p3⟩ := ins_of S2 rw2 p2
  obtain ⟨ht, p3⟩ := test_of p3
  have ht' : T.has C n = true ∧ fs.length < 1000 := by simpa using ht
  have q3 := After.setA F S2 g1 g2 g3 g4 g5 hn ht'.1 (e2.rep rw1) p3
  refine ⟨pp, Ca, dx, vs, rfl, g4, F.cls _ _ g3, F.noa _ _ _ _ g3 ht'.1 hn, by rw [← g5.length]; exact ht'.2, ?_⟩
  have x := Ext.set (K := X.K) (ρ := ρ2) (o := .ins Ca dx (putF f w vs)) g4 trivial
  exact q3.done (S2.set (c := .ins C (putA n v fs)) g1 g2 g4 trivial ⟨Ca, dx, _, g3, upd_same, (FRep.put F.nd hn ht'.1 (e2.rep rw1) g5).mono x.tk x.pre⟩) (((er.mono e1).mono e2).mono x)
theorem so_aug {op : Operator} : PIp X op (r2 T X.K (augM op)) := by
  intro pins s σ H x y v u Q I rx ry q
  obtain ⟨ρ, h, dx, dy, qx, qy, S, a⟩ := q
  cases op <;> first
    | (cases qx with
       | int i =>
         cases qy with
         | int j => first
           | exact ip_add pins s σ H _ _ v u Q I rx ry ⟨i, j, rfl, rfl, a.okV S (.int _)⟩
           | exact ip_sub pins s σ H _ _ v u Q I rx ry ⟨i, j, rfl, rfl, a.okV S (.int _)⟩
           | exact a.elim
         | _ => exact a.elim
       | _ => cases qy <;> exact a.elim)
theorem ne_aug {o : Operator} {x y : D} : NoErr (augM o x y) := by
  intro h c fs h' z
  unfold augM at z
  repeat' split at z
  all_goals cases z
/-- x op= e -/
theorem ss_aug {k : Nat} {x : Str} {op : Operator} (hN : X.N.Nodup) (hi : X.N[k]? = some x) (hx : Loc X.env.scope x) (hf : X.fn x = true ∨ X.env.scope.names.lookup x = some .local) (ha : SE T W X a ma) : SS T W X (.AugAssign (.Name x pos') op a pos) (SM.of (fun env => M.bind (lk env k) fun x => M.bind (ma env) fun y => augM op x y) fun z env h => .fl .nx (env.set k (some z)) h) := by
  refine PS.imp (ps_aug hN hi hx ha (so_aug (T := T)) hf) fun E σ H ⟨ρ, env, h, er, S, q⟩ => ?_
  have q := SAfter.of er q
  unfold M.bind lk at q
  cases ek : env[k]? with
  | none => simp only [ek] at q; exact q.elim
  | some o =>
    cases o with
    | none => simp only [ek] at q; exact q.elim
    | some d =>
      simp only [ek] at q
      obtain ⟨v, hv, rv⟩ := er.get ek
      refine ⟨v, hv, ρ, env, h, er, S, (After.bind (m := ma env) (f := fun y => augM op d y) q).imp (fun y h1 ρ1 H1 e1 S1 p w rw1 => ?_) fun _ _ _ z => z⟩
      exact ⟨ρ1, h1, d, y, e1.rep rv, rw1, S1, (p.ne ne_aug).imp (fun z h2 ρ2 H2 e2 S2 p2 u ru => p2.done S2 (((er.mono e1).mono e2).set ru k)) fun _ _ _ z => z⟩
/-- o.f op= e -/
theorem ss_augAtt (F : CF T X.K) {n : Nat} {f : Str} {op : Operator} (hn : T.att[n]? = some f) (ho : SE T W X o mb) (ha : SE T W X a ma) : SS T W X (.AugAssign (.Attribute o f pos') op a pos) (SM.of (fun env => M.bind (mb env) fun x => M.bind (insM x) fun i => M.bind (M.opt (i.2.2.lookup n)) fun v => M.bind (ma env) fun y => M.bind (augM op v y) fun z => M.bind (insM x) fun j => M.bind (M.test (decide (j.2.1 = i.2.1))) fun _ => setAttM T.has x n z) fun _ => SM.done .nx) := by
  have inop : InOp X op (r2 T X.K (augM op)) := fun pins s σ H x y u v Q I rx ry q => so_aug pins s σ H x y u v Q I rx ry q
  refine PS.imp (ps_fldaug ho ha inop) fun E σ H ⟨ρ, env, h, er, S, q⟩ => ⟨ρ, env, h, er, S, (After.bind (SAfter.of er q)).imp (fun x h1 ρ1 H1 e1 S1 p w rw1 => ?_) fun _ _ _ z => z⟩
  obtain ⟨rf, C, fs, Ca, dx, vs, pp, rfl, g1, g2, rfl, g3, g4, g5, p⟩ := ins_of S1 rw1 p
  obtain ⟨d, hd, p⟩ := opt_of p
  obtain ⟨f', v, q1, q2, q3, q4⟩ := FRep.look F.nd g5 hd
  rw [hn] at q1; cases q1
  refine ⟨pp, Ca, dx, vs, v, rfl, g4, F.cls _ _ g3, F.noa _ _ _ _ g3 q2 hn, q3, ρ1, env, h1, er.mono e1, S1, (After.bind p).imp (fun y h2 ρ2 H2 e2 S2 p2 w2 rw2 => ?_) fun _ _ _ z => z⟩
  refine ⟨ρ2, h2, d, y, e2.rep q4, rw2, S2, (After.ne ne_aug (After.bind p2)).imp (fun z h3 ρ3 H3 e3 S3 p3 u ru => ?_) fun _ _ _ z => z⟩
  have rx3 := (e2.trans e3).rep rw1
  obtain ⟨rf', C', fs', Ca', dx', vs', pp', eq1, k1, k2, eq2, k3, k4, k5, p3⟩ := ins_of S3 rx3 p3
  cases eq1
  cases eq2
  obtain ⟨hc, p4⟩ := test_dec p3
  have hc : C' = C := hc
  clear p3
  subst hc
  rw [g3] at k3; cases k3
  obtain ⟨rf2, C2, fs2, Ca2, dx2, vs2, pp2, eq1, l1, l2, eq2, l3, l4, l5, p5⟩ := ins_of S3 rx3 p4
  cases eq1
  cases eq2
  rw [k1] at l1; cases l1
  obtain ⟨ht, p6⟩ := test_of p5
  have ht' : T.has C' n = true ∧ fs'.length < 1000 := by simpa using ht
  have q5 := After.setA F S3 k1 k2 g3 k4 k5 hn ht'.1 ru p6
  refine ⟨dx', vs', k4, by rw [← k5.length]; exact ht'.2, ?_⟩
  have x := Ext.set (K := X.K) (ρ := ρ3) (o := .ins Ca dx' (putF f u vs')) k4 trivial
  exact q5.done (S3.set (c := .ins C' (putA n z fs')) k1 k2 k4 trivial ⟨Ca, dx', _, g3, upd_same, (FRep.put F.nd hn ht'.1 ru k5).mono x.tk x.pre⟩) (((er.mono e1).mono (e2.trans e3)).mono x)
end
end G60

/-! What is forgotten; a def by its body. -/
namespace G60
open PySem L2
section
variable {T : Tab} {K : PySem.W.Frag} {H H' : Hp} {ρ ρ' : List Addr} {h h' : Hm}
mutual
theorem Rep.lo : ∀ {d : D} {v : V}, Rep K H ρ d v → d.lo ρ.length = true
  | _, _, .non => rfl
  | _, _, .bl _ => rfl
  | _, _, .int _ => rfl
  | _, _, .str _ => rfl
  | _, _, .scr _ => rfl
  | _, _, .tup _ rr => by unfold D.lo; exact Reps.lo rr
  | _, _, .ref hr => by unfold D.lo; exact decide_eq_true (List.getElem?_eq_some_iff.mp hr).1
theorem Reps.lo : ∀ {xs : List D} {vs : List V}, Reps K H ρ xs vs → D.los ρ.length xs = true
  | _, _, .nil => rfl
  | _, _, .cons r rr => by unfold D.los; rw [Rep.lo r, Reps.lo rr]; rfl
end
theorem los_all {n : Nat} : ∀ xs : List D, D.los n xs = xs.all (D.lo n)
  | [] => rfl
  | x :: xs => by unfold D.los; rw [los_all xs]; rfl
mutual
/-- what points to nothing newer stands without the newer -/
theorem Rep.cut (e : ρ <+: ρ') : ∀ {d : D} {v : V}, Rep K H ρ' d v → d.lo ρ.length = true → Rep K H ρ d v
  | _, _, .non, _ => .non
  | _, _, .bl b, _ => .bl b
  | _, _, .int i, _ => .int i
  | _, _, .str x, _ => .str x
  | _, _, .scr h, _ => .scr h
  | _, _, .tup h rr, l => .tup h (Reps.cut e rr (by unfold D.lo at l; exact l))
  | _, _, .ref hr, l => .ref (by
    unfold D.lo at l
    obtain ⟨s, rfl⟩ := e
    rw [List.getElem?_append_left (of_decide_eq_true l)] at hr
    exact hr)
theorem Reps.cut (e : ρ <+: ρ') : ∀ {xs : List D} {vs : List V}, Reps K H ρ' xs vs → D.los ρ.length xs = true → Reps K H ρ xs vs
  | _, _, .nil, _ => .nil
  | _, _, .cons r rr, l => by
    unfold D.los at l
    have l' := Bool.and_eq_true_iff.mp l
    exact .cons (Rep.cut e r l'.1) (Reps.cut e rr l'.2)
end
theorem CellRep.lo {c : Cell} {a : Addr} (r : CellRep T K H ρ c a) : c.lo ρ.length = true := by
  have kv : ∀ {α : Type} {G : D → α → Prop} {kvs : List (D × D)} {ks : List (α × V)}, (∀ d k, G d k → d.lo ρ.length = true) → Paired (fun (p : D × D) (q : α × V) => G p.1 q.1 ∧ Rep K H ρ p.2 q.2) kvs ks → (kvs.all fun p => D.lo ρ.length p.1 && D.lo ρ.length p.2) = true := fun {α G kvs ks} hG r => by
    induction r with
    | nil => rfl
    | cons x _ ih => rw [List.all_cons, ih, hG _ _ x.1, x.2.lo]; rfl
  have k1 : ∀ (d : D) (k : Key), keyD d = some k → d.lo ρ.length = true := fun d k e => by cases d <;> first | rfl | cases e
  have kk : ∀ (xs : List D) (ks : List Key), keysD xs = some ks → D.los ρ.length xs = true := fun xs => by
    induction xs with
    | nil => intro _ _; rfl
    | cons x xs ih =>
      intro ks e
      unfold keysD at e
      split at e
      · rename_i k ks' e1 e2
        unfold D.los
        rw [k1 x k e1, ih ks' e2]; rfl
      · cases e
  have k2 : ∀ (d : D) (k : List Key), tkeyD d = some k → d.lo ρ.length = true := fun d k e => by
    cases d <;> first | rfl | cases e | (unfold D.lo; exact kk _ _ e)
  have dr : ∀ {o : HO} {kvs : List (D × D)}, DictRep K H ρ o kvs → (kvs.all fun p => D.lo ρ.length p.1 && D.lo ρ.length p.2) = true := fun {o kvs} r => by
    rcases r with ⟨ks, _, r⟩ | ⟨ks, _, r⟩
    · exact kv k1 r
    · exact kv k2 r
  cases c with
  | lst xs =>
    obtain ⟨vs, _, r⟩ := r
    show xs.all (D.lo ρ.length) = true
    rw [← los_all]; exact r.lo
  | dct kvs => obtain ⟨o, _, r⟩ := r; exact dr r
  | fd kvs => obtain ⟨ob, o, _, r⟩ := r; exact dr r
  | ins C fs =>
    obtain ⟨Ca, dx, vs, _, h2, r⟩ := r
    show (fs.all fun p => D.lo ρ.length p.2) = true
    clear h2
    induction r with
    | nil => rfl
    | cons x _ ih => rw [List.all_cons, ih, x.2.2.lo]; rfl
theorem CellRep.cut (e : ρ <+: ρ') {c : Cell} {a : Addr} (r : CellRep T K H ρ' c a) (l : c.lo ρ.length = true) : CellRep T K H ρ c a := by
  have kv : ∀ {α : Type} {G : D → α → Prop} {kvs : List (D × D)} {ks : List (α × V)}, Paired (fun (p : D × D) (q : α × V) => G p.1 q.1 ∧ Rep K H ρ' p.2 q.2) kvs ks → (kvs.all fun p => D.lo ρ.length p.1 && D.lo ρ.length p.2) = true →
      Paired (fun (p : D × D) (q : α × V) => G p.1 q.1 ∧ Rep K H ρ p.2 q.2) kvs ks := fun {α G kvs ks} r => by
    induction r with
    | nil => intro _; exact .nil
    | cons x _ ih =>
      intro l
      rw [List.all_cons] at l
      have l' := Bool.and_eq_true_iff.mp l
      exact .cons ⟨x.1, x.2.cut e (Bool.and_eq_true_iff.mp l'.1).2⟩ (ih l'.2)
  have dr : ∀ {o : HO} {kvs : List (D × D)}, DictRep K H ρ' o kvs → (kvs.all fun p => D.lo ρ.length p.1 && D.lo ρ.length p.2) = true → DictRep K H ρ o kvs := fun {o kvs} r l => by
    rcases r with ⟨ks, h1, r⟩ | ⟨ks, h1, r⟩
    · exact .inl ⟨ks, h1, kv (G := fun d k => keyD d = some k) r l⟩
    · exact .inr ⟨ks, h1, kv (G := fun d k => tkeyD d = some k) r l⟩
  cases c with
  | lst xs =>
    obtain ⟨vs, hv, r⟩ := r
    have l : xs.all (D.lo ρ.length) = true := l
    exact ⟨vs, hv, r.cut e (by rw [los_all]; exact l)⟩
  | dct kvs => obtain ⟨o, hv, r⟩ := r; exact ⟨o, hv, dr r l⟩
  | fd kvs => obtain ⟨ob, o, hv, r⟩ := r; exact ⟨ob, o, hv, dr r l⟩
  | ins C fs =>
    obtain ⟨Ca, dx, vs, h1, h2, r⟩ := r
    refine ⟨Ca, dx, vs, h1, h2, ?_⟩
    have l2 : (fs.all fun p => D.lo ρ.length p.2) = true := l
    clear h2 l
    revert l2
    induction r with
    | nil => intro _; exact .nil
    | cons x _ ih =>
      intro l
      rw [List.all_cons] at l
      have l' := Bool.and_eq_true_iff.mp l
      exact .cons ⟨x.1, x.2.1, x.2.2.cut e l'.1⟩ (ih l'.2)
theorem keptB_get {n : Nat} : ∀ {h h' : Hm}, keptB n h h' = true → h.length ≤ h'.length ∧ ∀ (i : Nat) (c c' : Cell), h[i]? = some c → h'[i]? = some c' → c = c' ∨ c'.lo n = true
  | [], _, _ => ⟨Nat.zero_le _, fun i c c' e => by simp at e⟩
  | _ :: _, [], e => by cases e
  | c :: h, c' :: h', e => by
    unfold keptB at e
    have e' := Bool.and_eq_true_iff.mp e
    obtain ⟨l, g⟩ := keptB_get e'.2
    refine ⟨by simp only [List.length_cons]; omega, fun i d d' e1 e2 => ?_⟩
    cases i with
    | zero =>
      simp at e1 e2
      subst e1 e2
      rcases Bool.or_eq_true_iff.mp e'.1 with z | z
      · exact .inl (of_decide_eq_true z)
      · exact .inr z
    | succ i => exact g i d d' (by simpa using e1) (by simpa using e2)
theorem gc_of (S : Sim T K ρ h H) {r : Res D} {Q : VK} {E : XK} (a : After T K ρ H (gc h r) (PV K Q) E) : After T K ρ H r (PV K Q) E := by
  cases r with
  | bad => exact a
  | err c fs h' => exact a
  | ok d h' =>
    unfold gc at a
    simp only at a
    split at a
    · rename_i hc
      have hc' := Bool.and_eq_true_iff.mp hc
      obtain ⟨hl, hg⟩ := keptB_get hc'.2
      intro ρ' H' e S' v rv
      have n1 : ρ.length = h.length := S.len
      have x : Ext K ρ H ρ H' := ⟨List.prefix_rfl, e.tk⟩
      have SS : Sim T K ρ (h'.take h.length) H' := by
        refine ⟨by rw [List.length_take, n1]; omega, S.nd, fun r c a er ea => ?_⟩
        have rl : r < h.length := by rw [← n1]; exact (List.getElem?_eq_some_iff.mp ea).1
        rw [List.getElem?_take_of_lt rl] at er
        obtain ⟨s, es⟩ := e.pre
        have ea' : ρ'[r]? = some a := by rw [← es, List.getElem?_append_left (by omega)]; exact ea
        refine (S'.cell r c a er ea').cut e.pre ?_
        rcases hg r _ c (List.getElem?_eq_getElem rl) er with z | z
        · have q := (S.cell r _ a (List.getElem?_eq_getElem rl) ea).lo
          rw [z] at q; exact q
        · rw [n1]; exact z
      exact a ρ H' x SS v (rv.cut e.pre (by rw [n1]; exact hc'.1))
    · exact a
end

/-! ### a def -/
theorem envRep_start {K : PySem.W.Frag} {H : Hp} {ρ : List Addr} : ∀ {ds : List D} {vs : List V}, Reps K H ρ ds vs → ∀ n : Nat, EnvRep K H ρ (ds.map some ++ List.replicate n none) (vs.map some ++ List.replicate n none)
  | _, _, .nil, 0 => .nil
  | _, _, .nil, n + 1 => .cons (fun d e => by cases e) (envRep_start (ds := []) (vs := []) .nil n)
  | _, _, .cons r rr, n => .cons (fun d e => by cases e; exact ⟨_, rfl, r⟩) (envRep_start rr n)
/-- a def keeps what its body computes -/
theorem fnok_of {T : Tab} {P : Program} {w : World} {K : PySem.W.Frag} {mg : Str → Option Value} {base : Heap} {x qual : Str} {st : Stmt} {f : Addr} {fd : FuncData} {N ps : List Str} {k : Nat} {Φ : Fx} {body : ISs} (F : Fun K x qual st f fd) (S : FnScope N ps (defScope st))
    (hb : ∀ (X : Cx) (W : WX), X.prog = P → X.w = w → X.K = K → X.mg = mg → X.base = base → X.N = N → X.env.scope = defScope st → X.calm = true → X.fn = (fun _ => true) → X.stack = X.env :: X.outer → X.env.frame = some X.env.locals → PassesOwn (model X.prog X.w) X.A X.env X.xe → Room k X.A → Takes X W → SSs T W X (defBody st) (eSs Φ body)) :
    FnOk P w K mg base (L2.CX P w) (k + 1) f fd ps (SpOf T K ps.length (runF Φ { ps := ps.length, ns := N.length, body := body })) ∧ ∀ ds h, ds.length ≠ ps.length → runF Φ { ps := ps.length, ns := N.length, body := body } ds h = .bad := by
  refine ⟨F.okX S (fun vs H Q E h => h.1) fun cdv A outer s H vs Q E hr h => ?_, fun ds h hl => ?_⟩
  · obtain ⟨hl, ρ, h, ds, rd, SS, a⟩ := h
    have hds : ds.length = ps.length := by rw [rd.length]; exact hl
    have a : After T K ρ H (gc h (match eSs Φ body (ds.map some ++ List.replicate (N.length - ps.length) none) h with
      | .fl (.rt d) _ h' => .ok d h'
      | .fl .nx _ h' => .ok .non h'
      | .fl _ _ _ => .bad
      | .err c fs _ h' => .err c fs h'
      | .bad => .bad)) (PV K Q) E := by
      have e : runF Φ { ps := ps.length, ns := N.length, body := body } ds h = _ := if_pos hds
      rw [e] at a; exact a
    have a := gc_of SS a
    refine ⟨_, hb _ (fun cls d _ H => E cls d H) rfl rfl rfl rfl rfl rfl rfl rfl rfl rfl rfl (passes_of rfl) hr (takes_of rfl rfl rfl rfl), ρ, ds.map some ++ List.replicate (N.length - ps.length) none, h, ?_, SS, ?_⟩
    · unfold L2.start
      rw [hl]
      exact envRep_start rd _
    · cases e : eSs Φ body (ds.map some ++ List.replicate (N.length - ps.length) none) h with
      | fl f env' h' =>
        rw [e] at a
        cases f with
        | nx => exact fun ρ' H' σ' e' S' er' => a ρ' H' e' S' _ .non
        | rt d => exact fun ρ' H' σ' e' S' er' v rv => a ρ' H' e' S' v rv
        | bk => exact a.elim
        | ct => exact a.elim
      | err c fs env' h' =>
        rw [e] at a
        exact fun ρ' H' σ' cls d e' S' er' x => a ρ' H' cls d e' S' x
      | bad => rw [e] at a; exact a
  · exact if_neg hl
end G60

/-! From the text to the program's own language. -/
namespace G60
open PySem L2

/-- what the names mean -/
structure CT where
  N : List Str
  att : List Str
  fns : List (Str × Nat)
  cls : List (Str × (Nat × Nat))
  mts : List (Str × Nat)
  gcs : List (Str × D)
  blt : List Str
abbrev Sc := List (Str × NameKind)
def ixOf (x : Str) : List Str → Option Nat
  | [] => none
  | y :: ys => if y = x then some 0 else (ixOf x ys).map (· + 1)
theorem ixOf_get {x : Str} : ∀ {N : List Str} {i : Nat}, ixOf x N = some i → N[i]? = some x
  | [], _, h => by cases h
  | y :: ys, i, h => by
    unfold ixOf at h
    split at h
    · rename_i e; cases h; simp [e]
    · cases q : ixOf x ys with
      | none => rw [q] at h; cases h
      | some j => rw [q] at h; cases h; simpa using ixOf_get q
def isVar : Option NameKind → Bool
  | some .local | some .cell | some .free => true
  | _ => false
def isTgt : Option NameKind → Bool
  | some .local | some .cell => true
  | _ => false
def noMagic (x : Str) : Bool := !(x == ("__debug__" : Str)) && !(x == ("__classdict__" : Str))
/-- a receiver of the plain form -/
def plainRecv : Expr → Bool
  | .Call (.Name _ _) [] [] _ => false
  | _ => true
def bmAll : List Bm := [.append, .pop, .insert, .reverse, .get, .items, .values, .extend, .index, .remove, .clear, .update, .join, .split, .upper]
def bmOf (x : Str) : Option Bm := bmAll.find? fun m => decide (bmName m = x)
def biAll : List Bi := [.len, .abs, .max2, .min2, .int, .list, .tuple]
def biOf (x : Str) : Option Bi := biAll.find? fun m => decide (biName m = x)
theorem bmOf_name {x : Str} {m : Bm} (h : bmOf x = some m) : bmName m = x := by
  unfold bmOf at h
  have q := List.find?_some h
  exact of_decide_eq_true q
theorem biOf_name {x : Str} {m : Bi} (h : biOf x = some m) : biName m = x := by
  unfold biOf at h
  have q := List.find?_some h
  exact of_decide_eq_true q
def ownOf (N : List Str) : Sc → Option (List (Str × Nat))
  | [] => some []
  | (x, k) :: r => if isTgt (some k) then match ixOf x N, ownOf N r with
      | some i, some l => some ((x, i) :: l)
      | none, l => l
      | _, none => none
    else ownOf N r
/-- a block's scope within a scope -/
def blkIn (N : List Str) (sc : Sc) (scope : Scope) (own : List (Str × Nat)) : Bool :=
  (match scope.kind with | .function => true | _ => false) && (scope.names.all fun y => decide (scope.names.lookup y.1 = some y.2)) && (own.all fun p => decide (N[p.2]? = some p.1)) &&
    (scope.names.all fun y => match y.2 with
      | .free => (match sc.lookup y.1 with | some .cell => true | some .free => true | _ => false)
      | .local => decide (y.1 ∈ own.map (·.1) ∨ y.1 ∉ N)
      | .cell => decide (y.1 ∈ own.map (·.1) ∨ y.1 ∉ N)
      | _ => true)
mutual
def cT (t : CT) (sc : Sc) : Expr → Option Tg
  | .Name x _ => if isTgt (sc.lookup x) then (ixOf x t.N).map .nm else none
  | .Tuple es _ _ => (cTs t sc es).map .tp
  | _ => none
def cTs (t : CT) (sc : Sc) : List Expr → Option Tgs
  | [] => some .nil
  | e :: es => match cT t sc e, cTs t sc es with
    | some a, some b => some (.cons a b)
    | _, _ => none
end
def gl (t : CT) (sc : Sc) (x : Str) : Bool := decide (sc.lookup x = some .globalImplicit) && noMagic x
def bltin (t : CT) (sc : Sc) (x : Str) : Bool := gl t sc x && decide (x ∈ t.blt)
def noSlice : Expr → Bool
  | .Slice _ _ _ _ => false
  | _ => true
def noSet : Expr → Bool
  | .Set _ _ _ => false
  | _ => true
def isTup : Expr → Bool
  | .Tuple _ _ _ => true
  | _ => false
mutual
def cE (t : CT) : Nat → Sc → Expr → Option IE
  | 0, _, _ => none
  | n + 1, sc, e => match e with
    | .Constant c _ _ => match c with
      | .int i => some (.c (.int i))
      | .bool b => some (.c (.bl b))
      | .none => some (.c .non)
      | .str x => some (.c (.str x))
      | _ => none
    | .Name x _ => if noMagic x = true then if isVar (sc.lookup x) = true then (ixOf x t.N).map .v else if gl t sc x = true then (t.gcs.lookup x).map .c else none else none
    | .BinOp a o b _ => if binOk o = true then match cE t n sc a, cE t n sc b with
        | some x, some y => some (.bin o x y)
        | _, _ => none
      else none
    | .UnaryOp o a _ => match o with
      | .USub => (cE t n sc a).map .neg
      | .Not => (cE t n sc a).map .not
      | _ => none
    | .Compare a [o] [b] _ => if behindInMarks o b = false then match cE t n sc a, cE t n sc b with
        | some x, some y => some (.cmp o x y)
        | _, _ => none
      else none
    | .Compare a [o, o'] [b, c] _ => if lastMarks [o, o'] [b, c] = false then match cE t n sc a, cE t n sc b, cE t n sc c with
        | some x, some y, some z => some (.chain o o' x y z)
        | _, _, _ => none
      else none
    | .BoolOp o es _ => cB t n sc o es
    | .IfExp c a b _ => match cX t n sc c, cE t n sc a, cE t n sc b with
      | some z, some x, some y => some (.ite z x y)
      | _, _, _ => none
    | .Tuple es _ _ => if es.all noStar = true then (cEs t n sc es).map .tup else none
    | .List es _ => if es.all noStar = true then (cEs t n sc es).map .lst else none
    | .Dict [] [] _ => some .dct
    | .Subscript a (.Slice lo hi none _) _ => match cE t n sc a, cO t n sc lo, cO t n sc hi with
      | some x, some l, some u => some (.cut x l u)
      | _, _, _ => none
    | .Subscript a b _ => if noSlice b = true then match cE t n sc a, cE t n sc b with
        | some x, some y => some (.idx x y)
        | _, _ => none
      else none
    | .Attribute a f _ => if plainRecv a = true then match cE t n sc a, ixOf f t.att with
        | some x, some k => some (.att x k)
        | _, _ => none
      else none
    | .Call (.Name x _) es [] _ => if es.all noStar = true ∧ gl t sc x = true then match cEs t n sc es with
        | none => none
        | some xs => match t.fns.lookup x with
          | some f => some (.call f xs)
          | none => match t.cls.lookup x with
            | some q => some (.new q.1 q.2 xs)
            | none => if x ∈ t.blt ∧ es ≠ [] then (biOf x).map fun b => .bi b xs else none
      else none
    | .Call (.Attribute a m ap) es [] pos => if es.all noStar = true ∧ plainRecv a = true ∧ (ap.endLine == pos.line) = true ∧ es.length < 30 then match cE t n sc a, cEs t n sc es with
        | some x, some xs => match t.mts.lookup m with
          | some k => some (.ometh x k xs)
          | none => (bmOf m).map fun b => .bmeth x b xs
        | _, _ => none
      else none
    | .ListComp elt [⟨tg, iter, ifs, 0⟩] scope _ => match ownOf t.N scope.names with
      | none => none
      | some own => if blkIn t.N sc scope own = true ∧ noSet iter = true then match cT t scope.names tg, cI t n sc (isTup tg) iter, cIfs t n scope.names ifs, cE t n scope.names elt with
          | some g, some it, some cd, some x => if g.ix.all (fun i => decide (i ∈ own.map (·.2))) = true then some (.comp x g it cd (own.map (·.2))) else none
          | _, _, _, _ => none
        else none
    | _ => none
def cEs (t : CT) : Nat → Sc → List Expr → Option IEs
  | 0, _, _ => none
  | n + 1, sc, es => match es with
    | [] => some .nil
    | e :: es => match cE t n sc e, cEs t n sc es with
      | some a, some b => some (.cons a b)
      | _, _ => none
def cB (t : CT) : Nat → Sc → BoolOp → List Expr → Option IE
  | 0, _, _, _ => none
  | n + 1, sc, o, es => match es with
    | [] => none
    | [e] => cE t n sc e
    | e :: es => match cE t n sc e, cB t n sc o es with
      | some a, some b => some (match o with | .And => .and a b | .Or => .or a b)
      | _, _ => none
def cO (t : CT) : Nat → Sc → Option Expr → Option IO
  | 0, _, _ => none
  | n + 1, sc, o => match o with
    | none => some .no
    | some e => (cE t n sc e).map .yes
def cIfs (t : CT) : Nat → Sc → List Expr → Option IO
  | 0, _, _ => none
  | n + 1, sc, es => match es with
    | [] => some .no
    | [e] => (cX t n sc e).map .yes
    | _ => none
def cI (t : CT) : Nat → Sc → Bool → Expr → Option It
  | 0, _, _, _ => none
  | n + 1, sc, tup, e => match e with
    | .Call (.Name x p) [a] [] pos => if x = "range" ∧ bltin t sc x = true ∧ noStar a = true then (cE t n sc a).map .rng1
      else if x = "enumerate" ∧ bltin t sc x = true ∧ noStar a = true ∧ tup = true then (cE t n sc a).map .enum
      else (cE t n sc (.Call (.Name x p) [a] [] pos)).map .seq
    | .Call (.Name x p) [a, b] [] pos => if x = "range" ∧ bltin t sc x = true ∧ noStar a = true ∧ noStar b = true then match cE t n sc a, cE t n sc b with
        | some i, some j => some (.rng2 i j)
        | _, _ => none
      else (cE t n sc (.Call (.Name x p) [a, b] [] pos)).map .seq
    | e => (cE t n sc e).map .seq
/-- a test -/
def cX (t : CT) : Nat → Sc → Expr → Option IE
  | 0, _, _ => none
  | n + 1, sc, e => match e with
    | .IfExp _ _ _ _ => none
    | .UnaryOp .Not a _ => (cX t n sc a).map .not
    | .BoolOp o es _ => cXB t n sc o es
    | .Compare a [o] [b] _ => if behindInMarks o b = false then match cE t n sc a, cE t n sc b with
        | some x, some y => some (.cmp o x y)
        | _, _ => none
      else none
    | .Compare a [o, o'] [b, c] _ => if lastMarks [o, o'] [b, c] = false then match cE t n sc a, cE t n sc b, cE t n sc c with
        | some x, some y, some z => some (.chain o o' x y z)
        | _, _, _ => none
      else none
    | .Compare _ _ _ _ => none
    | e => cE t n sc e
def cXB (t : CT) : Nat → Sc → BoolOp → List Expr → Option IE
  | 0, _, _, _ => none
  | n + 1, sc, o, es => match es with
    | [] => none
    | [e] => cX t n sc e
    | e :: es => match cX t n sc e, cXB t n sc o es with
      | some a, some b => some (match o with | .And => .and a b | .Or => .or a b)
      | _, _ => none
end
end G60

/-! What is made of the text computes what the text does. -/
namespace G60
open PySem L2

structure GF (t : CT) (T : Tab) (Φ : Fx) (P : Program) (w : World) (K : PySem.W.Frag) (mg : Str → Option Value) (base : Heap) (lv : Nat) : Prop where
  cf : CF T K
  att : T.att = t.att
  has : Φ.has = T.has
  fns : ∀ x f, t.fns.lookup x = some f → ∃ a, mg x = some (.ref a) ∧ PySem.W.keepIn K (.ref a) = true ∧ Keeps T P w K mg base lv a (Φ.fn f)
  cls : ∀ x q, t.cls.lookup x = some q → ∃ Ca a l, mg x = some (.ref Ca) ∧ T.cls[q.1]? = some Ca ∧ Mk K Ca a ∧ Keeps T P w K mg base l a (Φ.fn q.2) ∧ l + 1 ≤ lv
  mts : ∀ (m : Str) (k c i : Nat) (Ca : Addr), t.mts.lookup m = some k → Φ.mt c k = some i → T.cls[c]? = some Ca → ∃ a, Meth K Ca m a ∧ Keeps T P w K mg base lv a (Φ.fn i)
  mno : ∀ m k, t.mts.lookup m = some k → ∀ c n, T.has c n = true → T.att[n]? ≠ some m
  gcs : ∀ x d, t.gcs.lookup x = some d → ∃ u v, mg x = some u ∧ RelV v u ∧ ∀ H ρ, Rep K H ρ d v
  blt : ∀ x, x ∈ t.blt → mg x = none
structure Ok (t : CT) (T : Tab) (Φ : Fx) (lv : Nat) (sc : Sc) (X : Cx) (W : WX) : Prop where
  g : GF t T Φ X.prog X.w X.K X.mg X.base lv
  N : X.N = t.N
  nd : X.N.Nodup
  vis : ∀ x, isVar (sc.lookup x) = true → Vis X.env.scope x
  gl : ∀ x, sc.lookup x = some .globalImplicit → Gl X x
  tgt : ∀ x, isTgt (sc.lookup x) = true → Loc X.env.scope x ∧ (X.fn x = true ∨ X.env.scope.names.lookup x = some .local)
  cf : ∀ x, (sc.lookup x = some .cell ∨ sc.lookup x = some .free) → X.env.scope.names.lookup x = some .cell ∨ X.env.scope.names.lookup x = some .free
  calm : X.calm = true
  room : Room lv X.A
  tk : Takes X W

theorem free_relS {sc : Scope} : ∀ {names : Sc} {x : Str}, names.lookup x = some .free →
    (names.map fun (n, k) => if (k == NameKind.free && sc.kind == .function && sc.names.lookup n == some .cell) then (n, NameKind.cell) else (n, k)).lookup x = some .cell ∨
    (names.map fun (n, k) => if (k == NameKind.free && sc.kind == .function && sc.names.lookup n == some .cell) then (n, NameKind.cell) else (n, k)).lookup x = some .free
  | [], _, h => by simp at h
  | (n, k) :: r, x, h => by
    have ih := @free_relS sc r x
    show List.lookup x ((if (k == NameKind.free && sc.kind == .function && sc.names.lookup n == some .cell) = true then (n, NameKind.cell) else (n, k)) :: _) = _ ∨ List.lookup x ((if (k == NameKind.free && sc.kind == .function && sc.names.lookup n == some .cell) = true then (n, NameKind.cell) else (n, k)) :: _) = _
    cases hx : x == n with
    | true =>
      simp only [List.lookup_cons, hx] at h
      cases h
      by_cases hc : (NameKind.free == NameKind.free && sc.kind == .function && sc.names.lookup n == some .cell) = true
      · rw [if_pos hc]; left; simp only [List.lookup_cons, hx]
      · rw [if_neg hc]; right; simp only [List.lookup_cons, hx]
    | false =>
      simp only [List.lookup_cons, hx] at h
      by_cases hc : (k == NameKind.free && sc.kind == .function && sc.names.lookup n == some .cell) = true
      · rw [if_pos hc]; simp only [List.lookup_cons, hx]; exact ih h
      · rw [if_neg hc]; simp only [List.lookup_cons, hx]; exact ih h
section
variable {t : CT} {T : Tab} {Φ : Fx} {lv : Nat} {sc : Sc} {X : Cx} {W : WX}
theorem Ok.blkOk (O : Ok t T Φ lv sc X W) {scope : Scope} {own : List (Str × Nat)} (h : blkIn t.N sc scope own = true) : BlkOk X.N X.env.scope scope own := by
  unfold blkIn at h
  simp only [Bool.and_eq_true, List.all_eq_true, decide_eq_true_eq] at h
  obtain ⟨⟨⟨h1, h2⟩, h3⟩, h4⟩ := h
  refine ⟨?_, h2, fun p hp => by rw [O.N]; exact h3 p hp, fun y hy e => ?_, fun y hy e => ?_⟩
  · split at h1
    · assumption
    · cases h1
  · have q := h4 y hy
    simp only [e] at q
    apply O.cf
    cases ek : sc.lookup y.1 with
    | none => rw [ek] at q; cases q
    | some k => rw [ek] at q; cases k <;> first | exact .inl rfl | exact .inr rfl | cases q
  · have q := h4 y hy
    rcases e with e | e <;> (simp only [e, decide_eq_true_eq] at q; rw [O.N]; exact q)
theorem Ok.blk (O : Ok t T Φ lv sc X W) (scope : Scope) (s : Shared) (H : Hp) (C : Addr) (cl : List (Str × Addr)) (fp : List Addr) : Ok t T Φ lv scope.names (X.blk s H scope (compEnvC scope cl C X.env) fp) WF where
  g := O.g
  N := O.N
  nd := O.nd
  vis := fun x h => by
    show Vis (relabel scope X.env) x
    cases e : scope.names.lookup x with
    | none => rw [e] at h; cases h
    | some k =>
      rw [e] at h
      cases k with
      | «local» => exact .inl (lookup_relS_keep (sc := X.env.scope) (by decide) e)
      | cell => exact .inr (.inl (lookup_relS_keep (sc := X.env.scope) (by decide) e))
      | free => exact .inr (free_relS (sc := X.env.scope) e)
      | _ => cases h
  gl := fun x h => lookup_relS_keep (sc := X.env.scope) (by decide) h
  tgt := fun x h => by
    cases e : scope.names.lookup x with
    | none => rw [e] at h; cases h
    | some k =>
      rw [e] at h
      cases k with
      | «local» => exact ⟨.inl (lookup_relS_keep (sc := X.env.scope) (by decide) e), .inr (lookup_relS_keep (sc := X.env.scope) (by decide) e)⟩
      | cell => exact ⟨.inr (lookup_relS_keep (sc := X.env.scope) (by decide) e), .inl (by show (scope.names.lookup x == some .cell) = true; rw [e]; rfl)⟩
      | _ => cases h
  cf := fun x h => by
    rcases h with h | h
    · exact .inl (lookup_relS_keep (sc := X.env.scope) (by decide) h)
    · exact free_relS (sc := X.env.scope) h
  calm := O.calm
  room := O.room
  tk := fun u s' x => by
    obtain ⟨_, _, _, _, _, _, _, _, _, _, _, _, _, _, _, _, z⟩ := x
    exact z.elim
theorem magic {x : Str} (h : noMagic x = true) : (x == ("__debug__" : Str)) = false ∧ (x == ("__classdict__" : Str)) = false := by
  unfold noMagic at h
  cases h1 : (x == ("__debug__" : Str)) <;> cases h2 : (x == ("__classdict__" : Str)) <;> rw [h1, h2] at h <;> first | exact ⟨rfl, rfl⟩ | cases h
theorem gl_of {x : Str} (O : Ok t T Φ lv sc X W) (h : gl t sc x = true) : Gl X x ∧ (x == ("__debug__" : Str)) = false := by
  unfold G60.gl at h
  have h' := Bool.and_eq_true_iff.mp h
  exact ⟨O.gl x (of_decide_eq_true h'.1), (magic h'.2).1⟩
theorem plain_base {a : Expr} {f : Str} {env : Env} (h : plainRecv a = true) : attributeBase a f env (eval a env) = eval a env := by
  unfold plainRecv at h
  split at h
  · cases h
  · rename_i hn
    unfold attributeBase
    split
    · rename_i id p pos
      exact (hn id p pos rfl).elim
    · rfl
theorem plainIx_of {b : Expr} (h : noSlice b = true) : PlainIx b := by
  intro o i
  cases b <;> first | rfl | cases h
theorem fold_of {e : Expr} {env : Env} (h : noSet e = true) : ∀ x, foldedSetIterable e env x = pure x := by
  intro x
  cases e <;> first | rfl | cases h

/-! ### targets -/
theorem tgt_noStar : ∀ {e : Expr} {g : Tg}, cT t sc e = some g → noStar e = true := by
  intro e g h
  cases e <;> first | rfl | (simp [cT] at h)
theorem assign_cons {e : Expr} {es : List Expr} {env : Env} (h : noStar e = true) : assignEach (e :: es) env = (false, assign e env) :: assignEach es env := by
  cases e <;> first | rfl | cases h
theorem assign_facts {env : Env} : ∀ {es : List Expr} {ts : Tgs}, cTs t sc es = some ts → (assignEach es env).length = ts.len ∧ (assignEach es env).findIdx? (·.1) = none
  | [], ts, h => by cases h; exact ⟨rfl, rfl⟩
  | e :: es, ts, h => by
    unfold cTs at h
    split at h
    · rename_i a b h1 h2
      cases h
      obtain ⟨q1, q2⟩ := assign_facts (env := env) h2
      rw [assign_cons (tgt_noStar h1)]
      refine ⟨by rw [List.length_cons, q1]; rfl, ?_⟩
      rw [List.findIdx?_cons]
      simp [q2]
    · cases h
mutual
theorem sT (O : Ok t T Φ lv sc X W) : ∀ (e : Expr) (g : Tg), cT t sc e = some g → PG X e (tG T X.K g)
  | .Name x p, g, h => by
    simp only [cT] at h
    split at h
    · rename_i hx
      cases q : ixOf x t.N with
      | none => rw [q] at h; cases h
      | some i =>
        rw [q] at h; cases h
        obtain ⟨h1, h2⟩ := O.tgt x hx
        exact sg_name O.nd (by rw [O.N]; exact ixOf_get q) h1 h2
    · cases h
  | .Tuple es k p, g, h => by
    simp only [cT] at h
    cases q : cTs t sc es with
    | none => rw [q] at h; cases h
    | some ts =>
      rw [q] at h; cases h
      obtain ⟨h1, h2⟩ := assign_facts (env := X.env) q
      exact sg_tup O.calm (sTs O es ts q) h1 h2
  | .BoolOp .., _, h | .NamedExpr .., _, h | .BinOp .., _, h | .UnaryOp .., _, h | .Lambda .., _, h | .IfExp .., _, h | .Dict .., _, h | .Set .., _, h | .ListComp .., _, h | .SetComp .., _, h | .DictComp .., _, h | .GeneratorExp .., _, h
  | .Await .., _, h | .Yield .., _, h | .YieldFrom .., _, h | .Compare .., _, h | .Call .., _, h | .FormattedValue .., _, h | .JoinedStr .., _, h | .Constant .., _, h | .Attribute .., _, h | .Subscript .., _, h | .Starred .., _, h | .List .., _, h | .Slice .., _, h => by simp [cT] at h
theorem sTs (O : Ok t T Φ lv sc X W) : ∀ (es : List Expr) (ts : Tgs), cTs t sc es = some ts → PGs X es (tGs T X.K ts)
  | [], ts, h => by cases h; exact sg_nil
  | e :: es, ts, h => by
    unfold cTs at h
    split at h
    · rename_i a b h1 h2
      cases h
      refine sg_cons (sT O e a h1) (sTs O es b h2) ?_
      rw [assign_cons (tgt_noStar h1)]; rfl
    · cases h
end
end
end G60

set_option maxHeartbeats 1000000
namespace G60
open PySem L2

structure SndE (t : CT) (T : Tab) (Φ : Fx) (lv n : Nat) : Prop where
  e : ∀ sc X W e ie, Ok t T Φ lv sc X W → cE t n sc e = some ie → SE T W X e (eE Φ ie)
  es : ∀ sc X W es ies, Ok t T Φ lv sc X W → es.all noStar = true → cEs t n sc es = some ies → SAs T W X es (eEs Φ ies) ∧ (es = [] → eEs Φ ies = fun _ => M.ret [])
  b : ∀ sc X W o es ie pos, Ok t T Φ lv sc X W → cB t n sc o es = some ie → SE T W X (.BoolOp o es pos) (eE Φ ie)
  o : ∀ sc X W o io, Ok t T Φ lv sc X W → cO t n sc o = some io → SO T W X o (eO Φ io)
  ifs : ∀ sc X W es io, Ok t T Φ lv sc X W → cIfs t n sc es = some io → PTs X es (tT T X.K W (eC Φ io))
  i : ∀ sc X W tg e it, Ok t T Φ lv sc X W → cI t n sc (isTup tg) e = some it → PI X tg e (tI T X.K W (eI Φ it))
  x : ∀ sc X W e ie, Ok t T Φ lv sc X W → cX t n sc e = some ie → ST T W X e (tru (eE Φ ie))
  xb : ∀ sc X W o es ie pos, Ok t T Φ lv sc X W → cXB t n sc o es = some ie → SW T W X (.BoolOp o es pos) (tru (eE Φ ie))

theorem se_dct {T : Tab} {X : Cx} {W : WX} {pos : Pos} : SE T W X (.Dict [] [] pos) (fun _ => M.alloc (.dct [])) := by
  refine PE.imp pe_dnewK fun σ H Q ⟨ρ, env, h, er, S, a⟩ d hd => ?_
  have e : Ext X.K ρ H (ρ ++ [d]) (upd H d (.dK [])) := Ext.new hd
  exact a _ _ e (S.new (c := .dct []) hd ⟨_, upd_same, .inl ⟨[], rfl, .nil⟩⟩) _ (.ref (by rw [← S.len]; simp))
section
variable {T : Tab} {X : Cx} {W : WX} {a b c : Expr} {ma mb mc m : Ev → M D} {pos p : Pos}
/-- what computes a bool, as a test -/
theorem tt_of (hb : ∀ env h d h', m env h = .ok d h' → ∃ k, d = .bl k) {σ : St} {H : Hp} {Q : Bool → Hp → Prop} (q : tT T X.K W (tru m) σ H Q) : tE T X.K W m σ H fun x H' => ∃ k, x = .bl k ∧ Q k H' := by
  obtain ⟨ρ, env, h, er, S, a⟩ := q
  refine ⟨ρ, env, h, er, S, ?_⟩
  have a1 := After.bind a
  cases em : m env h with
  | ok d h1 =>
    rw [em] at a1
    obtain ⟨k, rfl⟩ := hb _ _ _ _ em
    intro ρ1 H1 e1 S1 v rv
    cases rv
    exact ⟨k, rfl, a1 ρ1 H1 e1 S1 ρ1 H1 Ext.refl S1⟩
  | err c fs h1 => rw [em] at a1; exact a1
  | bad => rw [em] at a1; exact a1
abbrev chM (o o' : CmpOp) (ma mb mc : Ev → M D) : Ev → M D := fun env => M.bind (ma env) fun x => M.bind (mb env) fun y => M.bind (opCmp o x y) fun t => match t with
    | .bl true => M.bind (mc env) fun z => opCmp o' y z
    | .bl false => M.ret (.bl false)
    | _ => M.bad
theorem ch_of {o o' : CmpOp} {σ : St} {H : Hp} {Q : VK} (q : tE T X.K W (chM o o' ma mb mc) σ H Q) : tChain (r2 T X.K (opCmp o)) (r2 T X.K (opCmp o')) (tE T X.K W ma) (tE T X.K W mb) (tE T X.K W mc) σ H Q := by
  refine tE.then (f := fun x env => M.bind (mb env) fun y => M.bind (opCmp o x y) fun t => match t with
    | .bl true => M.bind (mc env) fun z => opCmp o' y z
    | .bl false => M.ret (.bl false)
    | _ => M.bad) q fun ρ h env H1 x v er S rv a => ?_
  refine ⟨ρ, env, h, er, S, (After.bind a).imp (fun y h2 ρ2 H2 e2 S2 p w rw => ?_) fun _ _ _ z => z⟩
  refine ⟨ρ2, h2, x, y, e2.rep rv, rw, S2, ?_⟩
  have p3 := After.bind p
  cases ec : opCmp o x y h2 with
  | ok d h3 =>
    rw [ec] at p3
    obtain ⟨k, rfl⟩ := cmp_bl ec
    intro ρ3 H3 e3 S3 u ru
    cases ru
    refine ⟨k, rfl, ?_⟩
    have p4 := p3 ρ3 H3 e3 S3
    cases k with
    | false => exact p4.okV S3 (.bl _)
    | true =>
      rw [if_pos rfl]
      refine ⟨ρ3, env, h3, er.mono (e2.trans e3), S3, (After.bind p4).imp (fun z h4 ρ4 H4 e4 S4 p w2 rw2 => ?_) fun _ _ _ z => z⟩
      exact ⟨ρ4, h4, y, z, (e3.trans e4).rep rw, rw2, S4, p.ne ne_cmp⟩
  | err c fs h3 => exact (ne_cmp _ _ _ _ ec).elim
  | bad => rw [ec] at p3; exact p3
theorem ch_bl {o o' : CmpOp} (env : Ev) (h : Hm) (d : D) (h' : Hm) (e : chM o o' ma mb mc env h = .ok d h') : ∃ k, d = .bl k := by
  simp only [chM, M.bind] at e
  cases e1 : ma env h with
  | ok x h1 =>
    simp only [e1] at e
    cases e2 : mb env h1 with
    | ok y h2 =>
      simp only [e2] at e
      cases e3 : opCmp o x y h2 with
      | ok z h3 =>
        obtain ⟨k, rfl⟩ := cmp_bl e3
        simp only [e3] at e
        cases k with
        | false => cases e; exact ⟨_, rfl⟩
        | true =>
          simp only [M.bind] at e
          cases e4 : mc env h3 with
          | ok z h4 => rw [e4] at e; exact cmp_bl e
          | _ => rw [e4] at e; cases e
      | _ => simp only [e3] at e; cases e
    | _ => simp only [e2] at e; cases e
  | _ => simp only [e1] at e; cases e
theorem se_chain {o o' : CmpOp} (hu : X.A.units + 64 < cLine) (hm : lastMarks [o, o'] [b, c] = false) (ha : SE T W X a ma) (hb : SE T W X b mb) (hc : SE T W X c mc) : SE T W X (.Compare a [o, o'] [b, c] pos) (chM o o' ma mb mc) :=
  PE.imp (pe_chain (so_cmp hu) (so_cmp hu) ha hb hc hm) fun σ H Q q => ch_of q
theorem st_chain {o o' : CmpOp} (hu : X.A.units + 64 < cLine) (hm : lastMarks [o, o'] [b, c] = false) (ha : SE T W X a ma) (hb : SE T W X b mb) (hc : SE T W X c mc) : ST T W X (.Compare a [o, o'] [b, c] pos) (tru (chM o o' ma mb mc)) :=
  PT.imp (pt_chain (so_cmp hu) (so_cmp hu) ha hb hc hm) fun σ H Q q => ch_of (tt_of ch_bl q)
end
section
variable {t : CT} {T : Tab} {Φ : Fx} {lv n : Nat} {sc : Sc} {X : Cx} {W : WX}
theorem snd_e (ih : SndE t T Φ lv n) (O : Ok t T Φ lv sc X W) (e : Expr) (ie : IE) (h : cE t (n + 1) sc e = some ie) : SE T W X e (eE Φ ie) := by
  have hu : X.A.units + 64 < cLine := O.room.units
  unfold cE at h
  split at h
  · -- a constant
    split at h
    · cases h; exact se_const pe_int fun _ _ => .int _
    · cases h; exact se_const pe_bl fun _ _ => .bl _
    · cases h; exact se_const pe_non fun _ _ => .non
    · cases h; exact se_const pe_str fun _ _ => .str _
    · cases h
  · -- a name
    rename_i x p
    split at h
    · rename_i hm
      split at h
      · rename_i hv
        cases q : ixOf x t.N with
        | none => rw [q] at h; cases h
        | some i =>
          rw [q] at h; cases h
          exact se_var (pe_var (by rw [O.N]; exact ixOf_get q) (O.vis x hv) (magic hm).1 (magic hm).2)
      · split at h
        · rename_i hg
          cases q : t.gcs.lookup x with
          | none => rw [q] at h; cases h
          | some d =>
            rw [q] at h; cases h
            obtain ⟨u, v, m1, m2, m3⟩ := O.g.gcs x d q
            exact se_const (pe_glob (gl_of O hg).1 m1 m2 (gl_of O hg).2) m3
        · cases h
    · cases h
  · -- a op b
    rename_i a o b p
    split at h
    · rename_i ho
      split at h
      · rename_i x y h1 h2
        cases h
        exact se_bin ho (ih.e _ _ _ _ _ O h1) (ih.e _ _ _ _ _ O h2)
      · cases h
    · cases h
  · -- op a
    rename_i o a p
    split at h
    · cases q : cE t n sc a with
      | none => rw [q] at h; cases h
      | some x => rw [q] at h; cases h; exact se_neg (ih.e _ _ _ _ _ O q)
    · cases q : cE t n sc a with
      | none => rw [q] at h; cases h
      | some x => rw [q] at h; cases h; exact se_not (ih.e _ _ _ _ _ O q)
    · cases h
  · -- a op b, compared
    rename_i a o b p
    split at h
    · rename_i hm
      split at h
      · rename_i x y h1 h2
        cases h
        exact se_cmp hu hm (ih.e _ _ _ _ _ O h1) (ih.e _ _ _ _ _ O h2)
      · cases h
    · cases h
  · split at h
    · rename_i hm
      split at h
      · rename_i x y z h1 h2 h3
        cases h
        exact se_chain hu hm (ih.e _ _ _ _ _ O h1) (ih.e _ _ _ _ _ O h2) (ih.e _ _ _ _ _ O h3)
      · cases h
    · cases h
  · exact ih.b _ _ _ _ _ _ _ O h
  · -- a if c else b
    split at h
    · rename_i z x y h1 h2 h3
      cases h
      exact se_ite (ih.x _ _ _ _ _ O h1) (ih.e _ _ _ _ _ O h2) (ih.e _ _ _ _ _ O h3)
    · cases h
  · rename_i es k p
    split at h
    · rename_i hs
      cases q : cEs t n sc es with
      | none => rw [q] at h; cases h
      | some xs => rw [q] at h; cases h; exact se_tup (ih.es _ _ _ _ _ O hs q).1
    · cases h
  · rename_i es p
    split at h
    · rename_i hs
      cases q : cEs t n sc es with
      | none => rw [q] at h; cases h
      | some xs => rw [q] at h; cases h; exact se_lst (ih.es _ _ _ _ _ O hs q).1
    · cases h
  · cases h; exact se_dct
  · -- a slice
    split at h
    · rename_i x l u h1 h2 h3
      cases h
      exact se_cut (ih.e _ _ _ _ _ O h1) (ih.o _ _ _ _ _ O h2) (ih.o _ _ _ _ _ O h3)
    · cases h
  · -- an item
    split at h
    · rename_i hs
      split at h
      · rename_i x y h1 h2
        cases h
        exact se_idx (plainIx_of hs) (ih.e _ _ _ _ _ O h1) (ih.e _ _ _ _ _ O h2)
      · cases h
    · cases h
  · -- an attribute
    split at h
    · rename_i hp
      split at h
      · rename_i x k h1 h2
        cases h
        exact se_att O.g.cf (by rw [O.g.att]; exact ixOf_get h2) (plain_base hp) (ih.e _ _ _ _ _ O h1)
      · cases h
    · cases h
  · -- f(..)
    rename_i x p es pos
    split at h
    · rename_i hc
      obtain ⟨hst, hg⟩ := hc
      obtain ⟨hg1, hg2⟩ := gl_of O hg
      split at h
      · cases h
      · rename_i xs hxs
        obtain ⟨ha, hms⟩ := ih.es _ _ _ _ _ O hst hxs
        split at h
        · rename_i f hf
          cases h
          obtain ⟨a, m1, m2, G⟩ := O.g.fns x f hf
          exact se_call hst hg1 m1 m2 hg2 G O.room O.tk ha hms
        · split at h
          · rename_i q hq
            cases h
            obtain ⟨Ca, a, l, m1, m2, m3, G, hl⟩ := O.g.cls x q hq
            exact se_new hst hg1 m1 hg2 m2 m3 G (O.room.mono hl) O.tk ha hms rfl
          · split at h
            · rename_i hb
              cases q : biOf x with
              | none => rw [q] at h; cases h
              | some b =>
                rw [q] at h; cases h
                obtain rfl := biOf_name q
                cases es with
                | nil => exact (hb.2 rfl).elim
                | cons e es => exact se_bi O.calm hg1 (O.g.blt _ hb.1) hst ha
            · cases h
    · cases h
  · -- o.m(..)
    rename_i a m ap es pos
    split at h
    · rename_i hc
      obtain ⟨hst, hp, hl, hfew⟩ := hc
      split at h
      · rename_i x xs h1 h2
        obtain ⟨ha, hms⟩ := ih.es _ _ _ _ _ O hst h2
        split at h
        · rename_i k hk
          cases h
          exact se_ometh O.g.cf (plain_base hp) hl hst hfew (fun c i Ca q1 q2 => O.g.mts m k c i Ca hk q1 q2) (O.g.mno m k hk) O.room O.tk (ih.e _ _ _ _ _ O h1) ha hms
        · cases q : bmOf m with
          | none => rw [q] at h; cases h
          | some b =>
            rw [q] at h; cases h
            obtain rfl := bmOf_name q
            exact se_bmeth (plain_base hp) hl hst hfew (ih.e _ _ _ _ _ O h1) ha hms
      · cases h
    · cases h
  · -- a comprehension
    rename_i elt tg iter ifs scope p
    split at h
    · cases h
    · rename_i own hown
      split at h
      · rename_i hc
        obtain ⟨hb, hs⟩ := hc
        split at h
        · rename_i g it cd x h1 h2 h3 h4
          split at h
          · rename_i hix
            cases h
            refine se_comp O.calm O.nd (ih.i _ _ _ tg _ _ O h2) (O.blkOk hb) (fun i hi => of_decide_eq_true (List.all_eq_true.mp hix i hi)) (fun s H C cl fp => sT (O.blk scope s H C cl fp) tg g h1) (fun s H C cl fp => ih.ifs _ _ _ _ _ (O.blk scope s H C cl fp) h3) (fun s H C cl fp => ih.e _ _ _ _ _ (O.blk scope s H C cl fp) h4) (fold_of hs)
          · cases h
        · cases h
      · cases h
  · cases h
theorem snd_es (ih : SndE t T Φ lv n) (O : Ok t T Φ lv sc X W) (es : List Expr) (ies : IEs) (hst : es.all noStar = true) (h : cEs t (n + 1) sc es = some ies) : SAs T W X es (eEs Φ ies) ∧ (es = [] → eEs Φ ies = fun _ => M.ret []) := by
  unfold cEs at h
  split at h
  · cases h; exact ⟨sa_nil, fun _ => rfl⟩
  · rename_i e es
    split at h
    · rename_i a b h1 h2
      cases h
      have hst' : noStar e = true ∧ es.all noStar = true := by simpa using hst
      exact ⟨sa_cons (star_cons hst'.1) (ih.e _ _ _ _ _ O h1) (ih.es _ _ _ _ _ O hst'.2 h2).1, fun z => by cases z⟩
    · cases h
theorem snd_b (ih : SndE t T Φ lv n) (O : Ok t T Φ lv sc X W) (o : BoolOp) (es : List Expr) (ie : IE) (pos : Pos) (h : cB t (n + 1) sc o es = some ie) : SE T W X (.BoolOp o es pos) (eE Φ ie) := by
  unfold cB at h
  split at h
  · cases h
  · exact se_one (ih.e _ _ _ _ _ O h)
  · rename_i e es hn
    split at h
    · rename_i a b h1 h2
      cases es with
      | nil => exact (hn rfl).elim
      | cons e2 es =>
        cases h
        have q1 := ih.e _ _ _ _ _ O h1
        have q2 := ih.b _ _ _ _ _ _ pos O h2
        cases o with
        | And => exact se_and q1 q2
        | Or => exact se_or q1 q2
    · cases h
theorem snd_o (ih : SndE t T Φ lv n) (O : Ok t T Φ lv sc X W) (o : Option Expr) (io : IO) (h : cO t (n + 1) sc o = some io) : SO T W X o (eO Φ io) := by
  unfold cO at h
  split at h
  · cases h; exact so_no
  · rename_i e
    cases q : cE t n sc e with
    | none => rw [q] at h; cases h
    | some x => rw [q] at h; cases h; exact so_yes (ih.e _ _ _ _ _ O q)
theorem snd_ifs (ih : SndE t T Φ lv n) (O : Ok t T Φ lv sc X W) (es : List Expr) (io : IO) (h : cIfs t (n + 1) sc es = some io) : PTs X es (tT T X.K W (eC Φ io)) := by
  unfold cIfs at h
  split at h
  · cases h
    exact ⟨fun pins s σ H Q I ⟨ρ, env, h, er, S, a⟩ => pts_nil.run pins s σ H Q I (a ρ H Ext.refl S)⟩
  · rename_i e
    cases q : cX t n sc e with
    | none => rw [q] at h; cases h
    | some x => rw [q] at h; cases h; exact pts_one (ih.x _ _ _ _ _ O q)
  · cases h
theorem blt_of {x : Str} (O : Ok t T Φ lv sc X W) (h : bltin t sc x = true) : Gl X x ∧ X.mg x = none := by
  unfold bltin at h
  have h' := Bool.and_eq_true_iff.mp h
  exact ⟨(gl_of O h'.1).1, O.g.blt x (of_decide_eq_true h'.2)⟩
theorem si_enum {a tg : Expr} {ma : Ev → M D} {p pos : Pos} (hg : Gl X "enumerate") (hm : X.mg "enumerate" = none) (hst : noStar a = true) (htp : isTup tg = true) (ha : SE T W X a ma) : PI X tg (.Call (.Name "enumerate" p) [a] [] pos) (tI T X.K W fun env => M.bind (ma env) fun x => M.bind (walkL x) fun w => M.ret (enumD 0 w.1, w.2)) := by
  cases tg <;> first | (cases htp; done) | skip
  refine PI.imp (pi_enum hg hm (sa_cons (star_cons hst) ha sa_nil) (star_cons hst)) fun σ H R ⟨ρ, env, h, er, S, q⟩ => ?_
  refine ⟨ρ, env, h, er, S, ?_⟩
  have q := After.bind q
  show After T X.K ρ H (M.bind (ma env) (fun x => M.bind (M.ret []) fun xs => M.ret (x :: xs)) h) _ _
  unfold M.bind
  cases em : ma env h with
  | ok d h1 =>
    rw [em] at q
    intro ρ1 H1 e1 S1 vs rvs
    have p := q ρ1 H1 e1 S1
    cases rvs with
    | cons r rr =>
      cases rr
      cases r with
      | ref hr =>
        rename_i r0 p0
        simp only [walkL, walkD, M.bind] at p
        cases ec : h1[r0]? with
        | none => simp only [ec] at p; exact p.elim
        | some c =>
          cases c with
          | lst xs =>
            simp only [ec] at p
            obtain ⟨vs, hv, rr⟩ := S1.lst ec hr
            exact ⟨p0, vs, rfl, SqL.of hv, p ρ1 H1 Ext.refl S1 _ (fits_enum (fits_lst hr))⟩
          | _ => simp only [ec] at p; exact p.elim
      | scr hs => exact ⟨_, _, rfl, hs.sq, p ρ1 H1 Ext.refl S1 _ (fits_enum (fits_scr hs))⟩
      | _ => exact p.elim
  | err c fs h1 => rw [em] at q; exact q
  | bad => rw [em] at q; exact q
theorem snd_i (ih : SndE t T Φ lv n) (O : Ok t T Φ lv sc X W) (tg e : Expr) (it : It) (h : cI t (n + 1) sc (isTup tg) e = some it) : PI X tg e (tI T X.K W (eI Φ it)) := by
  unfold cI at h
  split at h
  · rename_i x p a pos
    split at h
    · rename_i hc
      obtain ⟨rfl, hb, hs⟩ := hc
      obtain ⟨g1, g2⟩ := blt_of O hb
      cases q : cE t n sc a with
      | none => rw [q] at h; cases h
      | some y => rw [q] at h; cases h; exact si_rng1 g1 g2 hs (ih.e _ _ _ _ _ O q)
    · split at h
      · rename_i hc
        obtain ⟨rfl, hb, hs, ht⟩ := hc
        obtain ⟨g1, g2⟩ := blt_of O hb
        cases q : cE t n sc a with
        | none => rw [q] at h; cases h
        | some y => rw [q] at h; cases h; exact si_enum g1 g2 hs ht (ih.e _ _ _ _ _ O q)
      · cases q : cE t n sc (.Call (.Name x p) [a] [] pos) with
        | none => rw [q] at h; cases h
        | some y => rw [q] at h; cases h; exact si_seq (ih.e _ _ _ _ _ O q)
  · rename_i x p a b pos
    split at h
    · rename_i hc
      obtain ⟨rfl, hb, hsa, hsb⟩ := hc
      obtain ⟨g1, g2⟩ := blt_of O hb
      split at h
      · rename_i i j h1 h2
        cases h
        exact si_rng2 g1 g2 hsa hsb (ih.e _ _ _ _ _ O h1) (ih.e _ _ _ _ _ O h2)
      · cases h
    · cases q : cE t n sc (.Call (.Name x p) [a, b] [] pos) with
      | none => rw [q] at h; cases h
      | some y => rw [q] at h; cases h; exact si_seq (ih.e _ _ _ _ _ O q)
  · cases q : cE t n sc e with
    | none => rw [q] at h; cases h
    | some y => rw [q] at h; cases h; exact si_seq (ih.e _ _ _ _ _ O q)
theorem snd_x (ih : SndE t T Φ lv n) (O : Ok t T Φ lv sc X W) (e : Expr) (ie : IE) (h : cX t (n + 1) sc e = some ie) : ST T W X e (tru (eE Φ ie)) := by
  have hu : X.A.units + 64 < cLine := O.room.units
  unfold cX at h
  split at h
  · cases h
  · rename_i a p
    cases q : cX t n sc a with
    | none => rw [q] at h; cases h
    | some x => rw [q] at h; cases h; exact st_not (ih.x _ _ _ _ _ O q)
  · exact (ih.xb _ _ _ _ _ _ _ O h).pt
  · split at h
    · rename_i hm
      split at h
      · rename_i x y h1 h2
        cases h
        exact st_cmp hu hm (ih.e _ _ _ _ _ O h1) (ih.e _ _ _ _ _ O h2)
      · cases h
    · cases h
  · split at h
    · rename_i hm
      split at h
      · rename_i x y z h1 h2 h3
        cases h
        exact st_chain hu hm (ih.e _ _ _ _ _ O h1) (ih.e _ _ _ _ _ O h2) (ih.e _ _ _ _ _ O h3)
      · cases h
    · cases h
  · cases h
  · rename_i h1 h2 h3 h4 h5 h6
    refine st_plain (ih.e _ _ _ _ _ O h) fun whole => ?_
    cases e <;> first | rfl | (exact (h1 _ _ _ _ rfl).elim) | (exact (h3 _ _ _ rfl).elim) | (exact (h6 _ _ _ _ rfl).elim) | skip
    rename_i op a p
    cases op <;> first | rfl | exact (h2 _ _ rfl).elim
theorem snd_xb (ih : SndE t T Φ lv n) (O : Ok t T Φ lv sc X W) (o : BoolOp) (es : List Expr) (ie : IE) (pos : Pos) (h : cXB t (n + 1) sc o es = some ie) : SW T W X (.BoolOp o es pos) (tru (eE Φ ie)) := by
  unfold cXB at h
  split at h
  · cases h
  · cases o with
    | And => exact sw_and1 (ih.x _ _ _ _ _ O h)
    | Or => exact sw_or1 (ih.x _ _ _ _ _ O h)
  · rename_i e es hn
    split at h
    · rename_i a b h1 h2
      cases es with
      | nil => exact (hn rfl).elim
      | cons e2 es =>
        cases h
        have q1 := ih.x _ _ _ _ _ O h1
        have q2 := ih.xb _ _ _ _ _ _ pos O h2
        cases o with
        | And => exact sw_and q1 q2
        | Or => exact sw_or q1 q2
    · cases h
end
theorem snd (t : CT) (T : Tab) (Φ : Fx) (lv : Nat) : ∀ n, SndE t T Φ lv n
  | 0 => ⟨fun _ _ _ _ _ _ h => (by simp [cE] at h), fun _ _ _ _ _ _ _ h => (by simp [cEs] at h), fun _ _ _ _ _ _ _ _ h => (by simp [cB] at h), fun _ _ _ _ _ _ h => (by simp [cO] at h), fun _ _ _ _ _ _ h => (by simp [cIfs] at h), fun _ _ _ _ _ _ _ h => (by simp [cI] at h), fun _ _ _ _ _ _ h => (by simp [cX] at h), fun _ _ _ _ _ _ _ _ h => (by simp [cXB] at h)⟩
  | n + 1 =>
    have ih := snd t T Φ lv n
    ⟨fun _ _ _ e ie O h => snd_e ih O e ie h, fun _ _ _ es ies O hs h => snd_es ih O es ies hs h, fun _ _ _ o es ie p O h => snd_b ih O o es ie p h, fun _ _ _ o io O h => snd_o ih O o io h, fun _ _ _ es io O h => snd_ifs ih O es io h, fun _ _ _ tg e it O h => snd_i ih O tg e it h, fun _ _ _ e ie O h => snd_x ih O e ie h, fun _ _ _ o es ie p O h => snd_xb ih O o es ie p h⟩
end G60

set_option maxHeartbeats 1000000
/-! Statements: from the text to the program's own language. -/
namespace G60
open PySem L2

mutual
def cS (t : CT) : Nat → Sc → Stmt → Option IS
  | 0, _, _ => none
  | n + 1, sc, st => match st with
    | .Pass _ => some .pass
    | .Break _ => some .brk
    | .Continue _ => some .cont
    | .Return none _ => some .retN
    | .Return (some e) _ => (cE t n sc e).map .ret
    | .Expr e _ => if noComp e = true then (cE t n sc e).map .ex else none
    | .If c a b _ => match cX t n sc c, cSs t n sc a, cSs t n sc b with
      | some x, some y, some z => some (.ite x y z)
      | _, _, _ => none
    | .While c b [] _ => match cX t n sc c, cSs t n sc b with
      | some x, some y => some (.whl x y)
      | _, _ => none
    | .For tg it b [] _ => if noSet it = true then match cT t sc tg, cI t n sc (isTup tg) it, cSs t n sc b with
        | some g, some x, some y => some (.for_ g x y)
        | _, _, _ => none
      else none
    | .Assign [.Name x p] e _ => match cT t sc (.Name x p), cE t n sc e with
      | some g, some ie => some (.set g ie)
      | _, _ => none
    | .Assign [.Tuple ts k p] e _ => if isTup e = false then match cT t sc (.Tuple ts k p), cE t n sc e with
        | some g, some ie => some (.set g ie)
        | _, _ => none
      else none
    | .Assign [.Attribute o f _] e _ => match cE t n sc e, cE t n sc o, ixOf f t.att with
      | some ie, some io, some k => some (.setAtt io k ie)
      | _, _, _ => none
    | .Assign [.Subscript o i _] e _ => if noSlice i = true then match cE t n sc e, cE t n sc o, cE t n sc i with
        | some ie, some io, some ii => some (.setIdx io ii ie)
        | _, _, _ => none
      else none
    | .AugAssign (.Name x _) o e _ => if isTgt (sc.lookup x) = true then match ixOf x t.N, cE t n sc e with
        | some i, some ie => some (.aug i o ie)
        | _, _ => none
      else none
    | .AugAssign (.Attribute o f _) op e _ => match cE t n sc o, ixOf f t.att, cE t n sc e with
      | some io, some k, some ie => some (.augAtt io k op ie)
      | _, _, _ => none
    | .Raise _ _ _ => some .never
    | _ => none
def cSs (t : CT) : Nat → Sc → List Stmt → Option ISs
  | 0, _, _ => none
  | n + 1, sc, ss => match ss with
    | [] => some .nil
    | s :: ss => match cS t n sc s, cSs t n sc ss with
      | some a, some b => some (.cons a b)
      | _, _ => none
def noComp : Expr → Bool
  | .ListComp .. | .SetComp .. | .DictComp .. => false
  | _ => true
end
structure OkS (t : CT) (T : Tab) (Φ : Fx) (lv : Nat) (sc : Sc) (X : Cx) (W : WX) : Prop extends Ok t T Φ lv sc X W where
  nm : X.env.scope.names = sc
  kd : X.env.scope.kind = .function
  po : PassesOwn (model X.prog X.w) X.A X.env X.xe
theorem noComp_sw {e : Expr} {tg : Option Expr} {l : Nat} {env : Env} (h : noComp e = true) : swapsWith e tg l env = pure false := by
  cases e <;> first | rfl | cases h
theorem isTup_sw {ts : List Expr} {k : Nat} {p : Pos} {e : Expr} {env : Env} (h : isTup e = false) : swappedStores [.Tuple ts k p] e env = pure none := by
  cases e <;> first | rfl | cases h
section
variable {t : CT} {T : Tab} {Φ : Fx} {lv n : Nat} {sc : Sc} {X : Cx} {W : WX}
structure SndS (t : CT) (T : Tab) (Φ : Fx) (lv n : Nat) : Prop where
  s : ∀ sc X W st is, OkS t T Φ lv sc X W → cS t n sc st = some is → SS T W X st (eS Φ is)
  ss : ∀ sc X W ss iss, OkS t T Φ lv sc X W → cSs t n sc ss = some iss → SSs T W X ss (eSs Φ iss)
/-- x = value -/
theorem snd_asg (O : OkS t T Φ lv sc X W) {x : Str} {p pos : Pos} {e : Expr} {g : Tg} {ie : IE} (h1 : cT t sc (.Name x p) = some g) (h2 : cE t n sc e = some ie) : SS T W X (.Assign [.Name x p] e pos) (eS Φ (.set g ie)) := by
  have hg := sT O.toOk _ _ h1
  have he := (snd t T Φ lv n).e _ _ _ _ _ O.toOk h2
  have plain : swapsWith e (some (.Name x p)) pos.line X.env = pure false → SS T W X (.Assign [.Name x p] e pos) (eS Φ (.set g ie)) := fun hs => ss_set hs rfl rfl he hg
  cases e <;> first | exact plain rfl | skip
  · rename_i elt gens scope lp
    by_cases hsw : X.env.scope.names.lookup x = some .local ∧ (p.line == lp.line) = true ∧ (scope.names.any fun (n, k) => n == x && (k == .local || k == .cell)) = false
    · obtain ⟨hl, hline, hany⟩ := hsw
      cases n with
      | zero => simp [cE] at h2
      | succ n =>
        unfold cE at h2
        split at h2 <;> rename_i z <;> first | (cases z; done) | (cases h2; done) | skip
        cases z
        split at h2
        · cases h2
        · rename_i own hown
          split at h2
          · rename_i hc
            obtain ⟨hb, hs⟩ := hc
            split at h2
            · rename_i gg it cd x' e1 e2 e3 e4
              split at h2
              · rename_i hix
                cases h2
                simp only [cT] at h1
                split at h1
                · cases q : ixOf x t.N with
                  | none => rw [q] at h1; cases h1
                  | some i =>
                    rw [q] at h1; cases h1
                    have ih := snd t T Φ lv n
                    have O' := O.toOk
                    exact ss_setLc O'.calm O'.nd (by rw [O'.N]; exact ixOf_get q) hl (sw_true O.kd hl hline hany) (ih.i _ _ _ _ _ _ O' e2) (O'.blkOk hb) (fun i hi => of_decide_eq_true (List.all_eq_true.mp hix i hi)) (fun s H C cl fp => sT (O'.blk _ s H C cl fp) _ gg e1) (fun s H C cl fp => ih.ifs _ _ _ _ _ (O'.blk _ s H C cl fp) e3) (fun s H C cl fp => ih.e _ _ _ _ _ (O'.blk _ s H C cl fp) e4) (fold_of hs)
                · cases h1
              · cases h2
            · cases h2
          · cases h2
    · refine plain ?_
      have e1 : (X.env.blockKind == ScopeKind.function && X.env.kindOf x == some NameKind.local && p.line == lp.line && !(scope.names.any fun (n, k) => n == x && (k == .local || k == .cell))) = false := by
        apply Bool.eq_false_iff.mpr
        intro hh
        apply hsw
        simp only [Bool.and_eq_true, Bool.not_eq_true'] at hh
        obtain ⟨⟨⟨a1, a2⟩, a3⟩, a4⟩ := hh
        exact ⟨by have := a2; simpa [Env.kindOf] using this, a3, a4⟩
      show (pure (X.env.blockKind == ScopeKind.function && X.env.kindOf x == some NameKind.local && p.line == lp.line && !(scope.names.any fun (n, k) => n == x && (k == .local || k == .cell))) : Sem Bool) = pure false
      rw [e1]
  all_goals (cases n <;> simp [cE] at h2)
theorem snd_st (ih : SndS t T Φ lv n) (O : OkS t T Φ lv sc X W) (st : Stmt) (is : IS) (h : cS t (n + 1) sc st = some is) : SS T W X st (eS Φ is) := by
  have E := snd t T Φ lv n
  have O' := O.toOk
  have hu : X.A.units + 64 < cLine := O'.room.units
  unfold cS at h
  split at h
  · cases h; exact ss_pass
  · cases h; exact ss_break
  · cases h; exact ss_cont
  · cases h; exact ss_retN
  · rename_i e p
    cases q : cE t n sc e with
    | none => rw [q] at h; cases h
    | some x => rw [q] at h; cases h; exact ss_ret (E.e _ _ _ _ _ O' q)
  · rename_i e p
    split at h
    · rename_i hn
      cases q : cE t n sc e with
      | none => rw [q] at h; cases h
      | some x => rw [q] at h; cases h; exact ss_ex (noComp_sw hn) (E.e _ _ _ _ _ O' q)
    · cases h
  · rename_i c a b p
    split at h
    · rename_i x y z h1 h2 h3
      cases h
      exact ss_ite (E.x _ _ _ _ _ O' h1) (ih.ss _ _ _ _ _ O h2) (ih.ss _ _ _ _ _ O h3)
    · cases h
  · rename_i c b p
    split at h
    · rename_i x y h1 h2
      cases h
      exact ss_while O.po (E.x _ _ _ _ _ O' h1) (ih.ss _ _ _ _ _ O h2)
    · cases h
  · rename_i tg it b p
    split at h
    · rename_i hn
      split at h
      · rename_i g x y h1 h2 h3
        cases h
        exact ss_for O.po O'.calm (E.i _ _ _ _ _ _ O' h2) (sT O' _ _ h1) (ih.ss _ _ _ _ _ O h3) (fold_of hn)
      · cases h
    · cases h
  · rename_i x p e pos
    split at h
    · rename_i g ie h1 h2
      cases h
      exact snd_asg O h1 h2
    · cases h
  · rename_i ts k p e pos
    split at h
    · rename_i hn
      split at h
      · rename_i g ie h1 h2
        cases h
        exact ss_set (by cases e <;> rfl) (isTup_sw hn) rfl (E.e _ _ _ _ _ O' h2) (sT O' _ _ h1)
      · cases h
    · cases h
  · rename_i o f p e pos
    split at h
    · rename_i ie io k h1 h2 h3
      cases h
      have q := ss_setAtt (pos := pos) (pos' := p) O'.g.cf (by rw [O'.g.att]; exact ixOf_get h3) (by cases e <;> rfl) (E.e _ _ _ _ _ O' h2) (E.e _ _ _ _ _ O' h1)
      rw [← O'.g.has] at q
      exact q
    · cases h
  · rename_i o i p e pos
    split at h
    · rename_i hn
      split at h
      · rename_i ie io ii h1 h2 h3
        cases h
        exact ss_setIdx (fun v => by cases i <;> first | rfl | cases hn) (by cases e <;> rfl) (E.e _ _ _ _ _ O' h2) (E.e _ _ _ _ _ O' h3) (E.e _ _ _ _ _ O' h1)
      · cases h
    · cases h
  · rename_i x p o e pos
    split at h
    · rename_i hx
      split at h
      · rename_i i ie h1 h2
        cases h
        obtain ⟨q1, q2⟩ := O'.tgt x hx
        exact ss_aug O'.nd (by rw [O'.N]; exact ixOf_get h1) q1 q2 (E.e _ _ _ _ _ O' h2)
      · cases h
    · cases h
  · rename_i o f p op e pos
    split at h
    · rename_i io k ie h1 h2 h3
      cases h
      have q := ss_augAtt (pos := pos) (pos' := p) (op := op) O'.g.cf (by rw [O'.g.att]; exact ixOf_get h2) (E.e _ _ _ _ _ O' h1) (E.e _ _ _ _ _ O' h3)
      rw [← O'.g.has] at q
      exact q
    · cases h
  · cases h; exact ss_never
  · cases h
theorem snd_sts (ih : SndS t T Φ lv n) (O : OkS t T Φ lv sc X W) (sts : List Stmt) (is : ISs) (h : cSs t (n + 1) sc sts = some is) : SSs T W X sts (eSs Φ is) := by
  unfold cSs at h
  split at h
  · cases h; exact ss_nil
  · rename_i s ss
    split at h
    · rename_i a b h1 h2
      cases h
      exact ss_cons (ih.s _ _ _ _ _ O h1) (ih.ss _ _ _ _ _ O h2)
    · cases h
end
theorem sndS (t : CT) (T : Tab) (Φ : Fx) (lv : Nat) : ∀ n, SndS t T Φ lv n
  | 0 => ⟨fun _ _ _ _ _ _ h => (by simp [cS] at h), fun _ _ _ _ _ _ h => (by simp [cSs] at h)⟩
  | n + 1 =>
    have ih := sndS t T Φ lv n
    ⟨fun _ _ _ s is O h => snd_st ih O s is h, fun _ _ _ ss is O h => snd_sts ih O ss is h⟩
end G60

set_option maxHeartbeats 1000000
/-! All defs of a program at once; the law's head. -/
namespace G60
open PySem L2

inductive AllL {α : Type} (P : α → Prop) : List α → Prop
  | nil : AllL P []
  | cons {x : α} {xs : List α} : P x → AllL P xs → AllL P (x :: xs)
theorem AllL.mem {α : Type} {P : α → Prop} {xs : List α} (a : AllL P xs) : ∀ x ∈ xs, P x := by
  induction a with
  | nil => intro x h; cases h
  | cons h _ ih =>
    intro x hx
    cases hx with
    | head => exact h
    | tail _ hx => exact ih x hx
theorem look_mem {α : Type} {x : Str} {v : α} : ∀ {l : List (Str × α)}, l.lookup x = some v → (x, v) ∈ l
  | [], h => by cases h
  | (y, w) :: l, h => by
    cases e : x == y with
    | true =>
      simp only [List.lookup_cons, e] at h
      cases h
      have := eq_of_beq e
      subst this
      exact List.mem_cons_self ..
    | false =>
      simp only [List.lookup_cons, e] at h
      exact List.mem_cons_of_mem _ (look_mem h)
theorem Paired.at {α β : Type} {R : α → β → Prop} {xs : List α} {ys : List β} (p : Paired R xs ys) : ∀ {i : Nat} {y : β}, ys[i]? = some y → ∃ x, xs[i]? = some x ∧ R x y := by
  induction p with
  | nil => intro i y h; simp at h
  | cons r _ ih =>
    intro i y h
    cases i with
    | zero => simp at h; subst h; exact ⟨_, rfl, r⟩
    | succ i => simpa using ih (by simpa using h)

/-- a def: its name, its text, its names (parameters first), what is made of its body -/
structure DefI where
  x : Str
  qual : Str
  st : Stmt
  ps : List Str
  N : List Str
  body : ISs
def DefI.ir (d : DefI) : IF := { ps := d.ps.length, ns := d.N.length, body := d.body }
/-- the whole program, calls nested at most so deep -/
def Φs (irs : List IF) (mt : Nat → Nat → Option Nat) (has : Nat → Nat → Bool) : Nat → Fx
  | 0 => ⟨fun _ _ => M.bad, mt, has⟩
  | l + 1 => ⟨fun i => match irs[i]? with
    | some f => runF (Φs irs mt has l) f
    | none => fun _ => M.bad, mt, has⟩
theorem Φs_mt {irs mt has} : ∀ l, (Φs irs mt has l).mt = mt
  | 0 => rfl
  | _ + 1 => rfl
theorem Φs_has {irs mt has} : ∀ l, (Φs irs mt has l).has = has
  | 0 => rfl
  | _ + 1 => rfl
structure DefAt (K : PySem.W.Frag) (d : DefI) (a : Addr) : Prop where
  ex : ∃ fd, Fun K d.x d.qual d.st a fd ∧ Binds K fd d.ps []
structure DefOk (t : CT) (d : DefI) : Prop where
  sc : FnScope d.N d.ps (defScope d.st)
  cp : cSs { t with N := d.N } 100 (defScope d.st).names (defBody d.st) = some d.body
def hasOf (hl : List (Nat × Nat)) (c n : Nat) : Bool := decide ((c, n) ∈ hl)
def mtOf (ml : List ((Nat × Nat) × Nat)) (c k : Nat) : Option Nat := ml.lookup (c, k)
/-- what the top has written -/
structure Facts (t : CT) (ds : List DefI) (mn : List Str) (hl : List (Nat × Nat)) (ml : List ((Nat × Nat) × Nat)) (K : PySem.W.Frag) (mg : Str → Option Value) (ca ad : List Addr) : Prop where
  cl : AllL (Cls K) ca
  nod : t.att.Nodup
  noa : AllL (fun p => ∃ Ca f, ca[p.1]? = some Ca ∧ t.att[p.2]? = some f ∧ NoAttr K Ca f) hl
  ok : AllL (DefOk t) ds
  at_ : Paired (DefAt K) ds ad
  fns : AllL (fun p => ∃ a, ad[p.2]? = some a ∧ mg p.1 = some (.ref a)) t.fns
  cls : AllL (fun p => ∃ Ca a, mg p.1 = some (.ref Ca) ∧ ca[p.2.1]? = some Ca ∧ Mk K Ca a ∧ ad[p.2.2]? = some a) t.cls
  mnm : AllL (fun p => mn[p.2]? = some p.1) t.mts
  mts : AllL (fun e => ∃ m Ca a, mn[e.1.2]? = some m ∧ ca[e.1.1]? = some Ca ∧ Meth K Ca m a ∧ ad[e.2]? = some a) ml
  mno : AllL (fun p => p.1 ∉ t.att) t.mts
  gcs : AllL (fun p => ∃ u v, mg p.1 = some u ∧ RelV v u ∧ ∀ H ρ, Rep K H ρ p.2 v) t.gcs
  blt : AllL (fun x => mg x = none) t.blt
def tabOf (t : CT) (hl : List (Nat × Nat)) (ca : List Addr) : Tab := ⟨ca, t.att, hasOf hl⟩
theorem mem_of_get {α : Type} {l : List α} {i : Nat} {x : α} (h : l[i]? = some x) : x ∈ l := by
  obtain ⟨h1, h2⟩ := List.getElem?_eq_some_iff.mp h
  rw [← h2]; exact List.getElem_mem h1
theorem lookP_mem {α : Type} {x : Nat × Nat} {v : α} : ∀ {l : List ((Nat × Nat) × α)}, l.lookup x = some v → (x, v) ∈ l
  | [], h => by cases h
  | (y, w) :: l, h => by
    cases e : x == y with
    | true =>
      simp only [List.lookup_cons, e] at h
      cases h
      have := eq_of_beq e
      subst this
      exact List.mem_cons_self ..
    | false =>
      simp only [List.lookup_cons, e] at h
      exact List.mem_cons_of_mem _ (lookP_mem h)
section
variable {t : CT} {ds : List DefI} {mn : List Str} {hl : List (Nat × Nat)} {ml : List ((Nat × Nat) × Nat)} {K : PySem.W.Frag} {mg : Str → Option Value} {ca ad : List Addr} {P : Program} {w : World} {base : Heap}
theorem Facts.cf (F : Facts t ds mn hl ml K mg ca ad) : CF (tabOf t hl ca) K where
  cls := fun C Ca h => F.cl.mem _ (mem_of_get h)
  noa := fun C n Ca f h1 h2 h3 => by
    obtain ⟨Ca', f', q1, q2, q3⟩ := F.noa.mem _ (of_decide_eq_true h2)
    have e1 : some Ca = some Ca' := (show ca[C]? = some Ca from h1).symm.trans q1
    have e2 : some f = some f' := (show t.att[n]? = some f from h3).symm.trans q2
    cases e1; cases e2; exact q3
  nd := F.nod
abbrev Φd (ds : List DefI) (hl : List (Nat × Nat)) (ml : List ((Nat × Nat) × Nat)) (l : Nat) : Fx := Φs (ds.map DefI.ir) (mtOf ml) (hasOf hl) l
theorem keeps_bad {d : DefI} {a : Addr} {k : Nat} {T : Tab} {fd : FuncData} (F1 : Fun K d.x d.qual d.st a fd) (S : FnScope d.N d.ps (defScope d.st)) {F : List G60.D → M G60.D} (hF : ∀ ds h, F ds h = .bad) : FnOk P w K mg base (L2.CX P w) (k + 1) a fd d.ps (SpOf T K d.ps.length F) ∧ ∀ ds h, ds.length ≠ d.ps.length → F ds h = .bad := by
  refine ⟨F1.okX S (fun vs H Q E h => h.1) fun cdv A outer s H vs Q E hr h => ?_, fun ds h _ => hF ds h⟩
  obtain ⟨hl, ρ, h, ds, rd, SS, a⟩ := h
  rw [hF] at a
  exact a.elim
/-- every def keeps what is made of its body -/
theorem Facts.keeps (F : Facts t ds mn hl ml K mg ca ad) : ∀ (l : Nat) (i : Nat) (a : Addr) (d : DefI) (fd : FuncData), ds[i]? = some d → Fun K d.x d.qual d.st a fd → FnOk P w K mg base (L2.CX P w) (2 * l + 1) a fd d.ps (SpOf (tabOf t hl ca) K d.ps.length ((Φd ds hl ml l).fn i)) ∧ ∀ xs h, xs.length ≠ d.ps.length → (Φd ds hl ml l).fn i xs h = .bad
  | 0, i, a, d, fd, hd, F1 => keeps_bad F1 (F.ok.mem _ (mem_of_get hd)).sc fun _ _ => rfl
  | l + 1, i, a, d, fd, hd, F1 => by
    have ih : ∀ (i : Nat) (a : Addr), ad[i]? = some a → ∃ (fd : FuncData) (ps : List Str), FnOk P w K mg base (L2.CX P w) (2 * l + 1) a fd ps (SpOf (tabOf t hl ca) K ps.length ((Φd ds hl ml l).fn i)) ∧ Binds K fd ps [] ∧ ∀ xs h, xs.length ≠ ps.length → (Φd ds hl ml l).fn i xs h = .bad := fun i a ha => by
      obtain ⟨d, hd, D⟩ := Paired.at F.at_ ha
      obtain ⟨fd, F1, b⟩ := D.ex
      obtain ⟨q1, q2⟩ := F.keeps l i a d fd hd F1
      exact ⟨fd, d.ps, q1, b, q2⟩
    have dk := F.ok.mem _ (mem_of_get hd)
    have e : (Φd ds hl ml (l + 1)).fn i = runF (Φd ds hl ml l) { ps := d.ps.length, ns := d.N.length, body := d.body } := by
      show (match (ds.map DefI.ir)[i]? with | some f => runF (Φd ds hl ml l) f | none => fun _ => M.bad) = _
      rw [List.getElem?_map, hd]
      rfl
    rw [e]
    have kp : ∀ {x : Str} {f : Nat}, t.fns.lookup x = some f → ∃ a, mg x = some (.ref a) ∧ PySem.W.keepIn K (.ref a) = true ∧ Keeps (tabOf t hl ca) P w K mg base (2 * l + 2) a ((Φd ds hl ml l).fn f) := fun {x f} h => by
      obtain ⟨a, h1, h2⟩ := F.fns.mem _ (look_mem h)
      obtain ⟨d', hd', D'⟩ := Paired.at F.at_ h1
      obtain ⟨fd', F', _⟩ := D'.ex
      obtain ⟨fd2, ps2, q1, q2, q4⟩ := ih f a h1
      exact ⟨a, h2, F'.kp, fd2, ps2, _, q1, q2, by omega, q4⟩
    have G : GF { t with N := d.N } (tabOf t hl ca) (Φd ds hl ml l) P w K mg base (2 * l + 2) := by
      refine ⟨F.cf, rfl, by rw [Φs_has]; rfl, fun x f h => kp h, fun x q h => ?_, fun m k c i Ca h1 h2 h3 => ?_, fun m k h c n h1 h2 => ?_, fun x d h => F.gcs.mem _ (look_mem h), fun x h => F.blt.mem _ h⟩
      · obtain ⟨Ca, a, h1, h2, h3, h4⟩ := F.cls.mem _ (look_mem h)
        obtain ⟨fd2, ps2, q1, q2, q4⟩ := ih _ _ h4
        exact ⟨Ca, a, 2 * l + 1, h1, h2, h3, ⟨fd2, ps2, _, q1, q2, Nat.le_refl _, q4⟩, by omega⟩
      · rw [Φs_mt] at h2
        obtain ⟨m', Ca', a, q1, q2, q3, q4⟩ := F.mts.mem _ (lookP_mem h2)
        have q5 := F.mnm.mem _ (look_mem h1)
        have e1 : some m = some m' := q5.symm.trans q1
        have e2 : some Ca = some Ca' := (show ca[c]? = some Ca from h3).symm.trans q2
        cases e1; cases e2
        obtain ⟨fd2, ps2, z1, z2, z4⟩ := ih _ _ q4
        exact ⟨a, q3, fd2, ps2, _, z1, z2, by omega, z4⟩
      · exact F.mno.mem _ (look_mem h) (mem_of_get h2)
    refine fnok_of F1 dk.sc (k := 2 * l + 2) fun X W e1 e2 e3 e4 e5 e6 e7 e8 e9 e10 e11 po hr tk => ?_
    subst e1 e2 e3 e4 e5
    refine (sndS { t with N := d.N } (tabOf t hl ca) (Φd ds hl ml l) (2 * l + 2) 100).ss (defScope d.st).names X W _ _ ?_ dk.cp
    have ek : ∀ x, X.env.scope.names.lookup x = (defScope d.st).names.lookup x := fun x => by rw [e7]
    exact {
      g := G, N := e6, nd := by rw [e6]; exact dk.sc.nd
      vis := fun x h => by
        show _ ∨ _ ∨ _
        simp only [ek]
        cases q : (defScope d.st).names.lookup x with
        | none => rw [q] at h; cases h
        | some k => rw [q] at h; cases k <;> first | exact .inl rfl | exact .inr (.inl rfl) | exact .inr (.inr rfl) | cases h
      gl := fun x h => (ek x).trans h
      tgt := fun x h => by
        refine ⟨?_, .inl (by rw [e9])⟩
        show _ ∨ _
        simp only [ek]
        cases q : (defScope d.st).names.lookup x with
        | none => rw [q] at h; cases h
        | some k => rw [q] at h; cases k <;> first | exact .inl rfl | exact .inr rfl | cases h
      cf := fun x h => by simp only [ek]; exact h
      calm := e8, room := hr, tk := tk
      nm := by rw [e7]
      kd := by rw [e7]; exact dk.sc.kind
      po := po }
end
/-- the law's promise -/
def spLaw (K : PySem.W.Frag) : Sp := fun vs H Q _ => ∃ (a : Addr) (ns : List Int), vs = [.ref a] ∧ SqF K H a (ns.map V.int) ∧ ns.length ≤ 63 ∧ ∀ H', Q (.bl true) H'
theorem law_ok {t : CT} {ds : List DefI} {mn : List Str} {hl : List (Nat × Nat)} {ml : List ((Nat × Nat) × Nat)} {K : PySem.W.Frag} {mg : Str → Option Value} {ca ad : List Addr} {P : Program} {w : World} {base : Heap} (L i : Nat) {a : Addr} {d : DefI} {x : Str}
    (F : Facts t ds mn hl ml K mg ca ad) (ha : ad[i]? = some a) (hd : ds[i]? = some d) (hx : d.ps = [x]) {fd : FuncData} (F1 : Fun K d.x d.qual d.st a fd)
    (pure : ∀ ns : List Int, ns.length ≤ 63 → ∃ h', (Φd ds hl ml (L + 1)).fn i [.scr ns] [] = .ok (.bl true) h') : FnOk P w K mg base (L2.CX P w) (2 * L + 3) a fd [x] (spLaw K) := by
  obtain ⟨q1, _⟩ := F.keeps (P := P) (w := w) (base := base) (L + 1) i a d fd hd F1
  rw [hx] at q1
  refine q1.imp fun vs H Q E h => ?_
  obtain ⟨p, ns, rfl, hs, hn, k⟩ := h
  obtain ⟨h', e⟩ := pure ns hn
  refine ⟨rfl, [], [], [.scr ns], .cons (.scr hs) .nil, ⟨rfl, List.nodup_nil, fun r c a e => by simp at e⟩, ?_⟩
  show After (tabOf t hl ca) K [] H ((Φd ds hl ml (L + 1)).fn i [.scr ns] []) (PV K Q) E
  rw [e]
  intro ρ' H' e' S' v rv
  cases rv
  exact k H'
theorem only_sq {K : PySem.W.Frag} {H : Hp} {a : Addr} {xs : List V} (O : Only H) (h : SqL K H a xs) : SqF K H a xs := by
  rcases h with (h | h) | h
  · rcases O a with z | ⟨o, ys, z⟩
    · rw [h] at z; cases z
    · rw [h] at z; cases z
  · exact .inl h
  · exact .inr h
/-- THE LAW'S END -/
theorem law_walk {l : PySem.W.OpenLaw} {q : Program} {loose : List Str} {XP : (Str → Option Value) → Heap → Prop} {YP : World → Heap → Prop} {dr : DefRec} {Kp : Params → PySem.W.Frag} {t : CT} {ds : List DefI} {mn : List Str} {hl : List (Nat × Nat)} {ml : List ((Nat × Nat) × Nat)} (L i : Nat) {d : DefI} {x : Str}
    (hn : l.most = some 63) (hdf : dr.params.defaults = []) (hr : Room (2 * L + 3) callerA) (hY : ∀ (w : World) (h : Heap), YP w h → (Kp w.params).In h) (hd : ds[i]? = some d) (hx : d.ps = [x])
    (F : ∀ (w : World) (mg : Str → Option Value) (fa : Addr) (h : Heap), (Kp w.params).In h → h.Ns mainGlobals mg → mg dr.name = some (.ref fa) →
      ∃ ca ad fd, ad[i]? = some fa ∧ Fun (Kp w.params) d.x d.qual d.st fa fd ∧ (∀ (s : Shared) (u : Value), BindsTo s fd ⟨[u], []⟩ [(x, u)]) ∧ Facts t ds mn hl ml (Kp w.params) mg ca ad)
    (pure : ∀ ns : List Int, ns.length ≤ 63 → ∃ h', (Φd ds hl ml (L + 1)).fn i [.scr ns] [] = .ok (.bl true) h') : PySem.W.WalkO q loose XP YP l.row.toRowW dr [] (fun f vs => PySem.call f vs) := by
  refine L2.walk_of (n := 63) (k := 2 * L + 3) (x := x) (CX := fun w => L2.CX l.prog w) (sp := fun w => spLaw (Kp w.params)) hn (by decide) hdf hr hY (fun w mg fa h KX G hmg => ?_) (fun _ H a ns hl O hS => ⟨a, ns, rfl, only_sq O hS, hl, fun _ => rfl⟩) fun w H s e s' z => ?_
  · obtain ⟨ca, ad, fd, h1, h2, h3, h4⟩ := F w mg fa h KX G hmg
    exact ⟨fd, h3, fun base _ _ => law_ok L i h4 h1 hd hx h2 pure⟩
  · obtain ⟨_, _, _, _, _, _, _, _, _, _, _, _, z⟩ := z
    exact z
end G60

/-! What must hold ahead. -/
namespace G60
open PySem L2

abbrev EKK := Nat → List (Nat × D) → Hm → Prop
def Res.wp {α : Type} (r : Res α) (P : α → Hm → Prop) (E : EKK) : Prop := match r with
  | .ok a h => P a h
  | .err c fs h => E c fs h
  | .bad => False
def SRes.wp (r : SRes) (Q : Fl → Ev → Hm → Prop) (E : EKK) : Prop := match r with
  | .fl f env h => Q f env h
  | .err c fs _ h => E c fs h
  | .bad => False
section
variable {α β : Type} {P P' : α → Hm → Prop} {E E' : EKK} {Q Q' : Fl → Ev → Hm → Prop} {h : Hm} {env : Ev} {Φ : Fx}
theorem Res.wp.imp {r : Res α} (a : r.wp P E) (i : ∀ x h, P x h → P' x h) (j : ∀ c fs h, E c fs h → E' c fs h) : r.wp P' E' := by
  cases r with
  | ok a h => exact i _ _ a
  | err c fs h => exact j _ _ _ a
  | bad => exact a
theorem Res.wp.mono {r : Res α} (a : r.wp P E) (i : ∀ x h, P x h → P' x h) : r.wp P' E := a.imp i fun _ _ _ z => z
theorem Res.wp.ok {r : Res α} (a : r.wp P (fun _ _ _ => False)) : ∃ x h, r = .ok x h ∧ P x h := by
  cases r with
  | ok x h => exact ⟨x, h, rfl, a⟩
  | err c fs h => exact a.elim
  | bad => exact a.elim
theorem SRes.wp.imp {r : SRes} (a : r.wp Q E) (i : ∀ f env h, Q f env h → Q' f env h) : r.wp Q' E := by
  cases r with
  | fl f env h => exact i _ _ _ a
  | err c fs env h => exact a
  | bad => exact a
@[simp] theorem wp_ret {x : α} : (M.ret x h).wp P E ↔ P x h := Iff.rfl
@[simp] theorem wp_ok {x : α} : (Res.ok x h).wp P E ↔ P x h := Iff.rfl
@[simp] theorem wp_bad : (Res.bad : Res α).wp P E ↔ False := Iff.rfl
@[simp] theorem wp_mbad : (M.bad h : Res α).wp P E ↔ False := Iff.rfl
@[simp] theorem wp_bind {m : M α} {f : α → M β} {P : β → Hm → Prop} : (M.bind m f h).wp P E ↔ (m h).wp (fun a h' => (f a h').wp P E) E := by
  unfold M.bind
  cases m h <;> exact Iff.rfl
@[simp] theorem wp_alloc {c : Cell} {P : D → Hm → Prop} : (M.alloc c h).wp P E ↔ P (.ref h.length) (h ++ [c]) := Iff.rfl
@[simp] theorem wp_put {r : Nat} {c : Cell} {P : Unit → Hm → Prop} : (M.put r c h).wp P E ↔ P () (h.set r c) := Iff.rfl
@[simp] theorem wp_test {b : Bool} {P : Unit → Hm → Prop} : (M.test b h).wp P E ↔ b = true ∧ P () h := by
  unfold M.test
  cases b <;> simp [Res.wp]
@[simp] theorem wp_opt {o : Option α} : (M.opt o h).wp P E ↔ ∃ x, o = some x ∧ P x h := by
  cases o <;> simp [M.opt, Res.wp]
@[simp] theorem wp_lk {i : Nat} {P : D → Hm → Prop} : (lk env i h).wp P E ↔ ∃ d, env[i]? = some (some d) ∧ P d h := by
  unfold lk
  cases env[i]? with
  | none => simp [Res.wp]
  | some o => cases o <;> simp [Res.wp]
theorem wp_if {c : Prop} [Decidable c] {a b : M α} : ((if c then a else b) h).wp P E ↔ (c → (a h).wp P E) ∧ (¬ c → (b h).wp P E) := by
  by_cases hc : c <;> simp [hc]
theorem wp_ifr {c : Prop} [Decidable c] {a b : Res α} : (if c then a else b).wp P E ↔ (c → a.wp P E) ∧ (¬ c → b.wp P E) := by
  by_cases hc : c <;> simp [hc]
@[simp] theorem swp_if {c : Prop} [Decidable c] {a b : SM} : ((if c then a else b) env h).wp Q E ↔ (c → (a env h).wp Q E) ∧ (¬ c → (b env h).wp Q E) := by
  by_cases hc : c <;> simp [hc]
@[simp] theorem swp_done {f : Fl} : (SM.done f env h).wp Q E ↔ Q f env h := Iff.rfl
@[simp] theorem swp_of {m : Ev → M α} {k : α → SM} : (SM.of m k env h).wp Q E ↔ (m env h).wp (fun x h' => (k x env h').wp Q E) E := by
  unfold SM.of
  cases m env h <;> exact Iff.rfl
/-- what comes next, where nothing has been left -/
def nxt (m : SM) (Q : Fl → Ev → Hm → Prop) (E : EKK) : Fl → Ev → Hm → Prop
  | .nx, env, h => (m env h).wp Q E
  | f, env, h => Q f env h
@[simp] theorem nxt_nx {m : SM} : nxt m Q E .nx env h ↔ (m env h).wp Q E := Iff.rfl
@[simp] theorem nxt_bk {m : SM} : nxt m Q E .bk env h ↔ Q .bk env h := Iff.rfl
@[simp] theorem nxt_ct {m : SM} : nxt m Q E .ct env h ↔ Q .ct env h := Iff.rfl
@[simp] theorem nxt_rt {m : SM} {d : D} : nxt m Q E (.rt d) env h ↔ Q (.rt d) env h := Iff.rfl
theorem swp_seq {a b : SM} : (SM.seq a b env h).wp Q E ↔ (a env h).wp (nxt b Q E) E := by
  unfold SM.seq
  cases a env h with
  | fl f env' h' => cases f <;> exact Iff.rfl
  | err c fs env' h' => exact Iff.rfl
  | bad => exact Iff.rfl
@[simp] theorem swp_nil : (eSs Φ .nil env h).wp Q E ↔ Q .nx env h := by rw [eSs]; exact Iff.rfl
theorem swp_cons {s : IS} {ss : ISs} : (eSs Φ (.cons s ss) env h).wp Q E ↔ (eS Φ s env h).wp (nxt (eSs Φ ss) Q E) E := by rw [eSs]; exact swp_seq
@[simp] theorem swp_setS {as : D → Ev → Option Ev} {x : D} : (setS as x env h).wp Q E ↔ ∃ env', as x env = some env' ∧ Q .nx env' h := by
  unfold setS
  cases as x env <;> simp [SRes.wp]
@[simp] theorem swp_ite {c : IE} {a b : ISs} : (eS Φ (.ite c a b) env h).wp Q E ↔ (eE Φ c env h).wp (fun x h1 => (truth x h1).wp (fun t h2 => (t = true → (eSs Φ a env h2).wp Q E) ∧ (¬ t = true → (eSs Φ b env h2).wp Q E)) E) E := by
  rw [eS]
  simp only [swp_of, wp_bind, swp_if]
/-- the guards hold -/
theorem wp_stays {gs : List (Nat × Cell)} {P : Unit → Hm → Prop} : (stays gs h).wp P E ↔ Gs h gs ∧ P () h := by
  unfold stays Gs
  by_cases hg : gs.all (fun g => decide (h[g.1]? = some g.2)) = true
  · rw [if_pos hg]
    simp only [List.all_eq_true, decide_eq_true_eq] at hg
    exact ⟨fun q => ⟨hg, q⟩, fun q => q.2⟩
  · rw [if_neg hg]
    simp only [List.all_eq_true, decide_eq_true_eq] at hg
    exact ⟨fun q => q.elim, fun q => hg q.1⟩
/-- how a turn may end -/
def turn (N : Ev → Hm → Prop) (Q : Fl → Ev → Hm → Prop) : Fl → Ev → Hm → Prop
  | .nx, env, h => N env h
  | .ct, env, h => N env h
  | .bk, env, h => Q .nx env h
  | .rt d, env, h => Q (.rt d) env h
@[simp] theorem turn_nx {N : Ev → Hm → Prop} : turn N Q .nx env h ↔ N env h := Iff.rfl
@[simp] theorem turn_ct {N : Ev → Hm → Prop} : turn N Q .ct env h ↔ N env h := Iff.rfl
@[simp] theorem turn_bk {N : Ev → Hm → Prop} : turn N Q .bk env h ↔ Q .nx env h := Iff.rfl
@[simp] theorem turn_rt {N : Ev → Hm → Prop} {d : D} : turn N Q (.rt d) env h ↔ Q (.rt d) env h := Iff.rfl
theorem forL_wp {gs : List (Nat × Cell)} {as : D → Ev → Option Ev} {b : SM} {xs : List D} (I : Nat → Ev → Hm → Prop) (I0 : I 0 env h) (hg : ∀ i env h, I i env h → Gs h gs)
    (step : ∀ i x env h, xs[i]? = some x → I i env h → ∃ env1, as x env = some env1 ∧ ∀ N : Ev → Hm → Prop, (∀ env h, I (i + 1) env h → N env h) → (b env1 h).wp (turn N Q) E) (fin : ∀ env h, I xs.length env h → Q .nx env h) : (forL gs as b xs env h).wp Q E := by
  have gen : ∀ (ys : List D) (k : Nat) env h, xs.drop k = ys → k ≤ xs.length → I k env h → (forL gs as b ys env h).wp Q E := by
    intro ys
    induction ys with
    | nil =>
      intro k env h hd hk hi
      have e : k = xs.length := by
        have := List.drop_eq_nil_iff.mp hd
        omega
      subst e
      unfold forL
      rw [swp_of, wp_stays]
      exact ⟨hg _ _ _ hi, fin _ _ hi⟩
    | cons y ys ih =>
      intro k env h hd hk hi
      have hk' : k < xs.length := by
        by_cases z : k < xs.length
        · exact z
        · rw [List.drop_eq_nil_of_le (by omega)] at hd; cases hd
      have ed : xs.drop k = xs[k] :: xs.drop (k + 1) := (List.getElem_cons_drop hk').symm
      rw [ed] at hd
      injection hd with e1 e2
      obtain ⟨env1, ea, hb⟩ := step k y env h (by rw [List.getElem?_eq_getElem hk', e1]) hi
      have hb := hb _ fun _ _ z => z
      unfold forL
      rw [swp_of, wp_bind, wp_stays]
      refine ⟨hg _ _ _ hi, ?_⟩
      rw [wp_opt]
      refine ⟨env1, ea, ?_⟩
      cases eb : b env1 h with
      | fl f env' h' =>
        rw [eb] at hb
        cases f with
        | nx => exact ih (k + 1) env' h' e2 hk' hb
        | ct => exact ih (k + 1) env' h' e2 hk' hb
        | bk => exact hb
        | rt d => exact hb
      | err c fs env' h' => rw [eb] at hb; exact hb
      | bad => rw [eb] at hb; exact hb
  exact gen xs 0 env h rfl (Nat.zero_le _) I0
theorem whL_wp {c : Ev → M Bool} {b : SM} (I : Nat → Ev → Hm → Prop) (step : ∀ k env h, I k env h → ∀ N : Ev → Hm → Prop, (∀ k' env h, k' < k → I k' env h → N env h) → (c env h).wp (fun t h1 => (t = true → (b env h1).wp (turn N Q) E) ∧ (¬ t = true → Q .nx env h1)) E) :
    ∀ (n k : Nat) env h, k < n → I k env h → (whL c b n env h).wp Q E := by
  intro n
  induction n with
  | zero => intro k env h hk; omega
  | succ n ih =>
    intro k env h hk hi
    unfold whL
    rw [swp_of]
    refine (step k env h hi (fun env' h' => ∃ k', k' < k ∧ I k' env' h') fun k' _ _ a b => ⟨k', a, b⟩).mono fun t h1 q => ?_
    rw [swp_if]
    refine ⟨fun ht => ?_, fun ht => q.2 ht⟩
    have hb := q.1 ht
    cases eb : b env h1 with
    | fl f env' h' =>
      rw [eb] at hb
      cases f with
      | nx => obtain ⟨k', h1, h2⟩ := hb; exact ih k' env' h' (by omega) h2
      | ct => obtain ⟨k', h1, h2⟩ := hb; exact ih k' env' h' (by omega) h2
      | bk => exact hb
      | rt d => exact hb
    | err c fs env' h' => rw [eb] at hb; exact hb
    | bad => rw [eb] at hb; exact hb
/-- a comprehension: the new list at r; I i acc h: what is known ahead of turn i, apart from r's own cell -/
theorem compL_wp {gs : List (Nat × Cell)} {as : D → Option Ev} {cond : Ev → M Bool} {elt : Ev → M D} {r : Nat} {P : Unit → Hm → Prop} {xs : List D} (I : Nat → Hm → Prop) (I0 : I 0 h) (hg : ∀ i h, I i h → Gs h gs)
    (step : ∀ i x h, xs[i]? = some x → I i h → ∃ env1, as x = some env1 ∧ ∀ N : Hm → Prop, (∀ h, I (i + 1) h → N h) → (cond env1 h).wp (fun t h1 => (t = true → (elt env1 h1).wp (fun y h2 => ∃ acc, h2[r]? = some (.lst acc) ∧ acc.length < sizeLine ∧ N (h2.set r (.lst (acc ++ [y])))) E) ∧ (¬ t = true → N h1)) E) (fin : ∀ h, I xs.length h → P () h) : (compL gs as cond elt r xs h).wp P E := by
  have gen : ∀ (ys : List D) (k : Nat) h, xs.drop k = ys → k ≤ xs.length → I k h → (compL gs as cond elt r ys h).wp P E := by
    intro ys
    induction ys with
    | nil =>
      intro k h hd hk hi
      have e : k = xs.length := by
        have := List.drop_eq_nil_iff.mp hd
        omega
      subst e
      unfold compL
      rw [wp_bind, wp_stays]
      exact ⟨hg _ _ hi, fin _ hi⟩
    | cons y ys ih =>
      intro k h hd hk hi
      have hk' : k < xs.length := by
        by_cases z : k < xs.length
        · exact z
        · rw [List.drop_eq_nil_of_le (by omega)] at hd; cases hd
      have ed : xs.drop k = xs[k] :: xs.drop (k + 1) := (List.getElem_cons_drop hk').symm
      rw [ed] at hd
      injection hd with e1 e2
      obtain ⟨env1, ea, hb⟩ := step k y h (by rw [List.getElem?_eq_getElem hk', e1]) hi
      have hb := hb _ fun _ z => z
      unfold compL
      rw [wp_bind, wp_stays]
      refine ⟨hg _ _ hi, ?_⟩
      rw [wp_bind, wp_opt]
      refine ⟨env1, ea, ?_⟩
      rw [wp_bind]
      refine hb.mono fun t h1 q => ?_
      rw [wp_bind, wp_if]
      refine ⟨fun ht => ?_, fun ht => ?_⟩
      · rw [wp_bind]
        refine (q.1 ht).mono fun z h2 q2 => ?_
        obtain ⟨acc, e3, e4, e5⟩ := q2
        simp only [bmM, wp_bind, lstM, e3, wp_ok, wp_test, decide_eq_true_eq, wp_put, wp_ret]
        exact ⟨e4, ih (k + 1) _ e2 hk' e5⟩
      · rw [wp_ret]
        exact ih (k + 1) _ e2 hk' (q.2 ht)
  exact gen xs 0 h rfl (Nat.zero_le _) I0
/-! ### defs -/
theorem wp_gc {r : Res D} {h : Hm} {P : D → Hm → Prop} (a : r.wp (fun d h' => ((d.lo h.length && keptB h.length h h') = true → P d (h'.take h.length)) ∧ ((d.lo h.length && keptB h.length h h') = false → P d h')) E) : (gc h r).wp P E := by
  cases r with
  | ok d h' =>
    show (if (d.lo h.length && keptB h.length h h') = true then Res.ok d (h'.take h.length) else Res.ok d h').wp P E
    by_cases z : (d.lo h.length && keptB h.length h h') = true
    · rw [if_pos z]; exact a.1 z
    · rw [if_neg z]; exact a.2 (Bool.eq_false_iff.mpr z)
  | err c fs h' => exact a
  | bad => exact a
theorem keptB_app {n : Nat} : ∀ (h t : Hm), keptB n h (h ++ t) = true
  | [], _ => rfl
  | c :: h, t => by
    show ((decide (c = c) || c.lo n) && keptB n h (h ++ t)) = true
    rw [keptB_app h t]
    simp
/-- of a body's end: what is handed back -/
def fnQ (P : D → Hm → Prop) : Fl → Ev → Hm → Prop
  | .rt d, _, h => P d h
  | .nx, _, h => P .non h
  | _, _, _ => False
@[simp] theorem fnQ_rt {P : D → Hm → Prop} {d : D} : fnQ P (.rt d) env h ↔ P d h := Iff.rfl
@[simp] theorem fnQ_nx {P : D → Hm → Prop} : fnQ P .nx env h ↔ P .non h := Iff.rfl
theorem wp_runF {f : IF} {ds : List D} {P : D → Hm → Prop} (hl : ds.length = f.ps)
    (a : (eSs Φ f.body (ds.map some ++ List.replicate (f.ns - f.ps) none) h).wp (fnQ fun d h' => ((d.lo h.length && keptB h.length h h') = true → P d (h'.take h.length)) ∧ ((d.lo h.length && keptB h.length h h') = false → P d h')) E) : (runF Φ f ds h).wp P E := by
  unfold runF
  rw [if_pos hl]
  refine wp_gc ?_
  cases e : eSs Φ f.body (ds.map some ++ List.replicate (f.ns - f.ps) none) h with
  | fl f env' h' =>
    rw [e] at a
    cases f with
    | rt d => exact a
    | nx => exact a
    | bk => exact a.elim
    | ct => exact a.elim
  | err c fs env' h' => rw [e] at a; exact a
  | bad => rw [e] at a; exact a
/-- nothing but garbage was made, and nothing of it is handed back -/
theorem wp_pure {f : IF} {ds : List D} {P : D → Hm → Prop} (hl : ds.length = f.ps)
    (a : (eSs Φ f.body (ds.map some ++ List.replicate (f.ns - f.ps) none) h).wp (fnQ fun d h' => d.lo h.length = true ∧ h <+: h' ∧ P d h) E) : (runF Φ f ds h).wp P E := by
  refine wp_runF hl (a.imp fun f env' h' q => ?_)
  have go : ∀ d, (d.lo h.length = true ∧ h <+: h' ∧ P d h) → ((d.lo h.length && keptB h.length h h') = true → P d (h'.take h.length)) ∧ ((d.lo h.length && keptB h.length h h') = false → P d h') := by
    rintro d ⟨q1, ⟨t, rfl⟩, q3⟩
    refine ⟨fun _ => by rw [List.take_left']; exact q3; rfl, fun z => ?_⟩
    rw [q1, keptB_app] at z
    cases z
  cases f with
  | rt d => exact go d q
  | nx => exact go .non q
  | bk => exact q
  | ct => exact q
/-- something new is handed back -/
theorem wp_new {f : IF} {ds : List D} {P : D → Hm → Prop} (hl : ds.length = f.ps)
    (a : (eSs Φ f.body (ds.map some ++ List.replicate (f.ns - f.ps) none) h).wp (fnQ fun d h' => d.lo h.length = false ∧ P d h') E) : (runF Φ f ds h).wp P E := by
  refine wp_runF hl (a.imp fun f env' h' q => ?_)
  have go : ∀ d, (d.lo h.length = false ∧ P d h') → ((d.lo h.length && keptB h.length h h') = true → P d (h'.take h.length)) ∧ ((d.lo h.length && keptB h.length h h') = false → P d h') :=
    fun d q => ⟨fun z => (by rw [q.1] at z; cases z), fun _ => q.2⟩
  cases f with
  | rt d => exact go d q
  | nx => exact go .non q
  | bk => exact q
  | ct => exact q
/-- just this comes next; what leaves is as before -/
def onl (R : Ev → Hm → Prop) (Q : Fl → Ev → Hm → Prop) : Fl → Ev → Hm → Prop
  | .nx, env, h => R env h
  | f, env, h => Q f env h
@[simp] theorem onl_nx {R : Ev → Hm → Prop} : onl R Q .nx env h ↔ R env h := Iff.rfl
@[simp] theorem onl_bk {R : Ev → Hm → Prop} : onl R Q .bk env h ↔ Q .bk env h := Iff.rfl
@[simp] theorem onl_ct {R : Ev → Hm → Prop} : onl R Q .ct env h ↔ Q .ct env h := Iff.rfl
@[simp] theorem onl_rt {R : Ev → Hm → Prop} {d : D} : onl R Q (.rt d) env h ↔ Q (.rt d) env h := Iff.rfl
theorem cut {s : IS} {ss : ISs} (R : Ev → Hm → Prop) (a : ∀ N : Ev → Hm → Prop, (∀ env h, R env h → N env h) → (eS Φ s env h).wp (onl N Q) E) (b : ∀ env h, R env h → (eSs Φ ss env h).wp Q E) : (eSs Φ (.cons s ss) env h).wp Q E := by
  rw [swp_cons]
  refine (a R fun _ _ z => z).imp fun f env' h' q => ?_
  cases f with
  | nx => exact b _ _ q
  | bk => exact q
  | ct => exact q
  | rt d => exact q
/-! ### the heap behind h -/
@[simp] theorem at_new {t : Hm} : (h ++ t)[h.length]? = t[0]? := by
  rw [List.getElem?_append_right (Nat.le_refl _)]; simp
@[simp] theorem at_new' {t : Hm} {i : Nat} : (h ++ t)[h.length + i]? = t[i]? := by
  rw [List.getElem?_append_right (by omega)]; congr 1; omega
@[simp] theorem set_new {t : Hm} {c : Cell} : (h ++ t).set h.length c = h ++ t.set 0 c := by
  rw [List.set_append_right _ _ (Nat.le_refl _)]; simp
@[simp] theorem set_new' {t : Hm} {i : Nat} {c : Cell} : (h ++ t).set (h.length + i) c = h ++ t.set i c := by
  rw [List.set_append_right _ _ (by omega)]; congr 2; omega
theorem at_old {t : Hm} {r : Nat} {c : Cell} (e : h[r]? = some c) : (h ++ t)[r]? = some c := by
  rw [List.getElem?_append_left (List.getElem?_eq_some_iff.mp e).1]; exact e
@[simp] theorem lo_int {n : Nat} {i : Int} : D.lo n (.int i) = true := rfl
@[simp] theorem lo_bl {n : Nat} {b : Bool} : D.lo n (.bl b) = true := rfl
@[simp] theorem lo_non {n : Nat} : D.lo n .non = true := rfl
@[simp] theorem lo_str {n : Nat} {x : Str} : D.lo n (.str x) = true := rfl
@[simp] theorem lo_ref {n r : Nat} : D.lo n (.ref r) = decide (r < n) := by rw [D.lo]
@[simp] theorem lo_tup {n : Nat} {xs : List D} : D.lo n (.tup xs) = D.los n xs := by rw [D.lo]
@[simp] theorem los_nil {n : Nat} : D.los n [] = true := rfl
@[simp] theorem los_cons {n : Nat} {x : D} {xs : List D} : D.los n (x :: xs) = (D.lo n x && D.los n xs) := by rw [D.los]
end
end G60

/-! What each operation asks for. -/
namespace G60
open PySem L2
section
variable {P : D → Hm → Prop} {E : EKK} {Q : Fl → Ev → Hm → Prop} {h : Hm} {env : Ev} {Φ : Fx} {i j k : Int} {r : Nat} {xs ys : List D} {x y : D}
@[simp] theorem wp_addI : (opBin .Add (.int i) (.int j) h).wp P E ↔ P (.int (i + j)) h := Iff.rfl
@[simp] theorem wp_subI : (opBin .Sub (.int i) (.int j) h).wp P E ↔ P (.int (i - j)) h := Iff.rfl
theorem wp_ift {c : Prop} [Decidable c] {a : Res D} : (if c then a else Res.bad).wp P E ↔ c ∧ a.wp P E := by
  by_cases hc : c <;> simp [hc]
@[simp] theorem wp_fdivI : (opBin .FloorDiv (.int i) (.int j) h).wp P E ↔ (0 < j ∧ j < 1073741824) ∧ P (.int (i / j)) h := by
  simp only [opBin]; exact wp_ift
@[simp] theorem wp_modI : (opBin .Mod (.int i) (.int j) h).wp P E ↔ 0 < j ∧ P (.int (i % j)) h := by
  simp only [opBin]; exact wp_ift
@[simp] theorem wp_powI : (opBin .Pow (.int i) (.int j) h).wp P E ↔ (0 ≤ j ∧ j ≤ 1000000 ∧ i.natAbs < 2 ^ 64) ∧ P (.int (i ^ j.toNat)) h := by
  simp only [opBin]; exact wp_ift
@[simp] theorem wp_addT : (opBin .Add (.tup xs) (.tup ys) h).wp P E ↔ xs.length + ys.length ≤ sizeLine ∧ P (.tup (xs ++ ys)) h := by
  simp only [opBin]; exact wp_ift
@[simp] theorem wp_addL {s : Nat} : (opBin .Add (.ref r) (.ref s) h).wp P E ↔ ∃ xs ys, h[r]? = some (.lst xs) ∧ h[s]? = some (.lst ys) ∧ xs.length + ys.length ≤ sizeLine ∧ P (.ref h.length) (h ++ [.lst (xs ++ ys)]) := by
  simp only [opBin]
  cases e : h[r]? with
  | none => simp
  | some c =>
    cases c with
    | lst xs =>
      cases e2 : h[s]? with
      | none => simp
      | some c =>
        cases c with
        | lst ys => simp [wp_ift]
        | _ => simp
    | _ => simp
@[simp] theorem wp_mulL : (opBin .Mult (.ref r) (.int k) h).wp P E ↔ ∃ xs, h[r]? = some (.lst xs) ∧ (-(2 ^ 63) ≤ k ∧ k < 2 ^ 63 ∧ xs.length * k.toNat ≤ sizeLine) ∧ P (.ref h.length) (h ++ [.lst (List.replicate k.toNat xs).flatten]) := by
  simp only [opBin]
  cases e : h[r]? with
  | none => simp
  | some c =>
    cases c with
    | lst xs =>
      show Res.wp (ite _ _ _) P E ↔ _
      rw [wp_ift]
      exact ⟨fun ⟨a, b⟩ => ⟨xs, rfl, a, b⟩, fun ⟨ys, e, a, b⟩ => by cases e; exact ⟨a, b⟩⟩
    | _ => simp
@[simp] theorem wp_ltI : (opCmp .Lt (.int i) (.int j) h).wp P E ↔ P (.bl (decide (i < j))) h := Iff.rfl
@[simp] theorem wp_leI : (opCmp .LtE (.int i) (.int j) h).wp P E ↔ P (.bl (decide (i ≤ j))) h := Iff.rfl
@[simp] theorem wp_gtI : (opCmp .Gt (.int i) (.int j) h).wp P E ↔ P (.bl (decide (j < i))) h := Iff.rfl
@[simp] theorem wp_geI : (opCmp .GtE (.int i) (.int j) h).wp P E ↔ P (.bl (decide (j ≤ i))) h := Iff.rfl
@[simp] theorem wp_isN : (opCmp .Is x .non h).wp P E ↔ P (.bl (isNone x)) h := Iff.rfl
@[simp] theorem wp_isnotN : (opCmp .IsNot x .non h).wp P E ↔ P (.bl (!isNone x)) h := Iff.rfl
@[simp] theorem wp_isB {a b : Bool} : (opCmp .Is (.bl a) (.bl b) h).wp P E ↔ P (.bl (decide (a = b))) h := Iff.rfl
@[simp] theorem wp_isnotB {a b : Bool} : (opCmp .IsNot (.bl a) (.bl b) h).wp P E ↔ P (.bl (!decide (a = b))) h := Iff.rfl
theorem wp_eqD {P : Bool → Hm → Prop} : (eqD x y h).wp P E ↔ ∃ a b, toPy DEEP h x = some a ∧ toPy DEEP h y = some b ∧ P (PyData.eqv a b) h := by
  unfold eqD
  cases toPy DEEP h x with
  | none => simp
  | some a => cases toPy DEEP h y <;> simp
theorem wp_eq : (opCmp .Eq x y h).wp P E ↔ ∃ a b, toPy DEEP h x = some a ∧ toPy DEEP h y = some b ∧ P (.bl (PyData.eqv a b)) h := by
  simp only [opCmp, wp_bind, wp_eqD, wp_ret]
theorem wp_ne : (opCmp .NotEq x y h).wp P E ↔ ∃ a b, toPy DEEP h x = some a ∧ toPy DEEP h y = some b ∧ P (.bl (!PyData.eqv a b)) h := by
  simp only [opCmp, wp_bind, wp_eqD, wp_ret]
@[simp] theorem toPy_int : toPy DEEP h (.int i) = some (.int i) := rfl
@[simp] theorem toPy_non : toPy DEEP h .non = some .none := rfl
@[simp] theorem toPy_bl {b : Bool} : toPy DEEP h (.bl b) = some (.bool b) := rfl
@[simp] theorem eqv_int : PyData.eqv (.int i) (.int j) = decide (i = j) := by
  rw [PyData.eqv]
  all_goals first | rfl | exact (beq_eq_decide ..) | simp
@[simp] theorem wp_eqI : (opCmp .Eq (.int i) (.int j) h).wp P E ↔ P (.bl (decide (i = j))) h := by
  rw [wp_eq]
  simp only [toPy_int, Option.some.injEq]
  exact ⟨fun ⟨a, b, e1, e2, q⟩ => by subst e1 e2; rw [eqv_int] at q; exact q, fun q => ⟨_, _, rfl, rfl, by rw [eqv_int]; exact q⟩⟩
@[simp] theorem wp_neI : (opCmp .NotEq (.int i) (.int j) h).wp P E ↔ P (.bl (!decide (i = j))) h := by
  rw [wp_ne]
  simp only [toPy_int, Option.some.injEq]
  exact ⟨fun ⟨a, b, e1, e2, q⟩ => by subst e1 e2; rw [eqv_int] at q; exact q, fun q => ⟨_, _, rfl, rfl, by rw [eqv_int]; exact q⟩⟩
@[simp] theorem wp_eqB {a b : Bool} : (opCmp .Eq (.bl a) (.bl b) h).wp P E ↔ P (.bl (a == b)) h := by
  rw [wp_eq]
  simp only [toPy_bl, Option.some.injEq]
  have q : PyData.eqv (.bool a) (.bool b) = (a == b) := by rw [PyData.eqv]
  exact ⟨fun ⟨x, y, e1, e2, z⟩ => by subst e1 e2; rw [q] at z; exact z, fun z => ⟨_, _, rfl, rfl, by rw [q]; exact z⟩⟩
@[simp] theorem wp_idxT : (opIdx (.tup xs) (.int i) h).wp P E ↔ ∃ v, atI xs i = some v ∧ P v h := by
  simp only [opIdx]; cases atI xs i <;> simp
@[simp] theorem wp_idxS {ns : List Int} : (opIdx (.scr ns) (.int i) h).wp P E ↔ ∃ v, atI ns i = some v ∧ P (.int v) h := by
  simp only [opIdx]; cases atI ns i <;> simp
@[simp] theorem wp_idxL : (opIdx (.ref r) (.int i) h).wp P E ↔ ∃ xs v, h[r]? = some (.lst xs) ∧ atI xs i = some v ∧ P v h := by
  simp only [opIdx]
  cases e : h[r]? with
  | none => simp
  | some c =>
    cases c with
    | lst xs => cases e2 : atI xs i <;> simp [e2]
    | _ => simp
@[simp] theorem wp_itT {P : List D → Hm → Prop} : (itemsD (.tup xs) h).wp P E ↔ P xs h := Iff.rfl
@[simp] theorem wp_itS {ns : List Int} {P : List D → Hm → Prop} : (itemsD (.scr ns) h).wp P E ↔ P (ns.map .int) h := Iff.rfl
@[simp] theorem wp_itL {P : List D → Hm → Prop} : (itemsD (.ref r) h).wp P E ↔ ∃ xs, h[r]? = some (.lst xs) ∧ P xs h := by
  simp only [itemsD]
  cases e : h[r]? with
  | none => simp
  | some c => cases c <;> simp
@[simp] theorem wp_wkT {P : Walk → Hm → Prop} : (walkD (.tup xs) h).wp P E ↔ P (xs, []) h := Iff.rfl
@[simp] theorem wp_wkS {ns : List Int} {P : Walk → Hm → Prop} : (walkD (.scr ns) h).wp P E ↔ P (ns.map .int, []) h := Iff.rfl
@[simp] theorem wp_wkL {P : Walk → Hm → Prop} : (walkD (.ref r) h).wp P E ↔ ∃ xs, h[r]? = some (.lst xs) ∧ P (xs, [(r, .lst xs)]) h := by
  simp only [walkD]
  cases e : h[r]? with
  | none => simp
  | some c => cases c <;> simp
@[simp] theorem wp_wlL {P : Walk → Hm → Prop} : (walkL (.ref r) h).wp P E ↔ ∃ xs, h[r]? = some (.lst xs) ∧ P (xs, [(r, .lst xs)]) h := by
  simp only [walkL]; exact wp_wkL
@[simp] theorem wp_wlS {ns : List Int} {P : Walk → Hm → Prop} : (walkL (.scr ns) h).wp P E ↔ P (ns.map .int, []) h := Iff.rfl
def RngOk (i j : Int) : Prop := -4611686018427387904 ≤ i ∧ i < 4611686018427387904 ∧ -4611686018427387904 ≤ j ∧ j < 4611686018427387904
theorem rngOk (h : -1000000000000 ≤ i ∧ i ≤ 1000000000000 ∧ -1000000000000 ≤ j ∧ j ≤ 1000000000000) : RngOk i j := by unfold RngOk; omega
@[simp] theorem wp_rng {P : Walk → Hm → Prop} : (rngM (.int i) (.int j) h).wp P E ↔ RngOk i j ∧ P (rngD i (j - i).toNat, []) h := by
  simp only [rngM, wp_bind, wp_test, wp_ret, decide_eq_true_eq]
  exact Iff.rfl
def MulOk (i j : Int) : Prop := (-18446744073709551616 < i ∧ i < 18446744073709551616) ∨ (-18446744073709551616 < j ∧ j < 18446744073709551616)
@[simp] theorem wp_mulI : (opBin .Mult (.int i) (.int j) h).wp P E ↔ MulOk i j ∧ P (.int (i * j)) h := by
  simp only [opBin]; exact wp_ift
theorem mulOk1 (h : -10000000000000 ≤ i ∧ i ≤ 10000000000000) : MulOk i j := by unfold MulOk; omega
theorem mulOk2 (h : -10000000000000 ≤ j ∧ j ≤ 10000000000000) : MulOk i j := by unfold MulOk; omega
theorem ltSize {n : Nat} (h : n ≤ 1000000) : n < sizeLine := Nat.lt_of_le_of_lt h (by decide)
theorem leSize {n : Nat} (h : n ≤ 1000000) : n ≤ sizeLine := Nat.le_of_lt (ltSize h)
@[simp] theorem wp_lenS {ns : List Int} : (biM .len [.scr ns] h).wp P E ↔ P (.int ns.length) h := by
  simp only [biM, wp_bind, wp_itS, wp_ret, List.length_map]
@[simp] theorem wp_lenT : (biM .len [.tup xs] h).wp P E ↔ P (.int xs.length) h := by
  simp only [biM, wp_bind, wp_itT, wp_ret]
@[simp] theorem wp_lenL : (biM .len [.ref r] h).wp P E ↔ ∃ xs, h[r]? = some (.lst xs) ∧ P (.int xs.length) h := by
  simp only [biM, wp_bind, wp_itL, wp_ret]
@[simp] theorem wp_list : (biM .list [x] h).wp P E ↔ (itemsD x h).wp (fun xs h' => P (.ref h'.length) (h' ++ [.lst xs])) E := by
  simp only [biM, wp_bind, wp_alloc]
@[simp] theorem wp_tuple : (biM .tuple [x] h).wp P E ↔ (itemsD x h).wp (fun xs h' => P (.tup xs) h') E := by
  simp only [biM, wp_bind, wp_ret]
@[simp] theorem wp_intI : (biM .int [.int i] h).wp P E ↔ P (.int i) h := Iff.rfl
@[simp] theorem wp_intB {b : Bool} : (biM .int [.bl b] h).wp P E ↔ P (.int (if b then 1 else 0)) h := Iff.rfl
@[simp] theorem wp_abs : (biM .abs [.int i] h).wp P E ↔ P (.int (if i < 0 then -i else i)) h := Iff.rfl
@[simp] theorem wp_max : (biM .max2 [.int i, .int j] h).wp P E ↔ P (.int (if j > i then j else i)) h := Iff.rfl
@[simp] theorem wp_min : (biM .min2 [.int i, .int j] h).wp P E ↔ P (.int (if j < i then j else i)) h := Iff.rfl
@[simp] theorem wp_trB {b : Bool} {P : Bool → Hm → Prop} : (truth (.bl b) h).wp P E ↔ P b h := Iff.rfl
@[simp] theorem wp_trI {P : Bool → Hm → Prop} : (truth (.int i) h).wp P E ↔ P (i != 0) h := Iff.rfl
@[simp] theorem wp_trN {P : Bool → Hm → Prop} : (truth .non h).wp P E ↔ P false h := Iff.rfl
@[simp] theorem wp_trT {P : Bool → Hm → Prop} : (truth (.tup xs) h).wp P E ↔ P (!xs.isEmpty) h := Iff.rfl
@[simp] theorem wp_trL {P : Bool → Hm → Prop} : (truth (.ref r) h).wp P E ↔ ∃ xs, h[r]? = some (.lst xs) ∧ P (!xs.isEmpty) h := by
  simp only [truth]
  cases e : h[r]? with
  | none => simp
  | some c => cases c <;> simp
@[simp] theorem wp_negI : (negM (.int i) h).wp P E ↔ P (.int (-i)) h := Iff.rfl
@[simp] theorem wp_partI {P : Option Int → Hm → Prop} : (partM (.int i) h).wp P E ↔ P (some i) h := Iff.rfl
@[simp] theorem wp_cutL {lo hi : Option Int} : (opCut (.ref r) lo hi h).wp P E ↔ ∃ xs, h[r]? = some (.lst xs) ∧ P (.ref h.length) (h ++ [.lst (cutD xs lo hi)]) := by
  simp only [opCut]
  cases e : h[r]? with
  | none => simp
  | some c => cases c <;> simp
@[simp] theorem wp_cutT {lo hi : Option Int} : (opCut (.tup xs) lo hi h).wp P E ↔ P (.tup (cutD xs lo hi)) h := Iff.rfl
@[simp] theorem wp_tyL {P : Ty → Hm → Prop} : (tyM (.ref r) h).wp P E ↔ (∃ xs, h[r]? = some (.lst xs) ∧ P .lst h) ∨ ∃ xs, h[r]? = some (.dct xs) ∧ P .dct h := by
  simp only [tyM]
  cases e : h[r]? with
  | none => simp
  | some c => cases c <;> simp
@[simp] theorem bmOk_append : bmOk .lst .append = true := rfl
@[simp] theorem bmOk_pop : bmOk .lst .pop = true := rfl
@[simp] theorem bmOk_reverse : bmOk .lst .reverse = true := rfl
@[simp] theorem bmOk_extend : bmOk .lst .extend = true := rfl
@[simp] theorem bmOk_clear : bmOk .lst .clear = true := rfl
@[simp] theorem bmOk_insert : bmOk .lst .insert = true := rfl
/-- a list's method, the receiver's cell known -/
@[simp] theorem wp_bmeth {a : IE} {m : Bm} {es : IEs} : (eE Φ (.bmeth a m es) env h).wp P E ↔ (eE Φ a env h).wp (fun x h1 => (tyM x h1).wp (fun t h2 => bmOk t m = true ∧ (eEs Φ es env h2).wp (fun xs h3 => (bmM t m x xs h3).wp P E) E) E) E := by
  rw [eE]
  simp only [wp_bind, wp_test]
theorem wp_lstM {P : Nat × List D → Hm → Prop} : (lstM (.ref r) h).wp P E ↔ ∃ xs, h[r]? = some (.lst xs) ∧ P (r, xs) h := by
  simp only [lstM]
  cases e : h[r]? with
  | none => simp
  | some c => cases c <;> simp
@[simp] theorem wp_append : (bmM .lst .append (.ref r) [y] h).wp P E ↔ ∃ xs, h[r]? = some (.lst xs) ∧ xs.length < sizeLine ∧ P .non (h.set r (.lst (xs ++ [y]))) := by
  simp only [bmM, wp_bind, wp_lstM, wp_test, wp_put, wp_ret, decide_eq_true_eq]
@[simp] theorem wp_pop0 : (bmM .lst .pop (.ref r) [] h).wp P E ↔ ∃ xs, h[r]? = some (.lst xs) ∧ ∃ y, xs.getLast? = some y ∧ P y (h.set r (.lst xs.dropLast)) := by
  simp only [bmM, wp_bind, wp_lstM, wp_opt, wp_put, wp_ret]
@[simp] theorem wp_pop1 : (bmM .lst .pop (.ref r) [.int i] h).wp P E ↔ ∃ xs, h[r]? = some (.lst xs) ∧ ∃ k, ixN xs.length i = some k ∧ ∃ y, xs[k]? = some y ∧ P y (h.set r (.lst (xs.eraseIdx k))) := by
  simp only [bmM, wp_bind, wp_lstM, wp_opt, wp_put, wp_ret]
@[simp] theorem wp_reverse : (bmM .lst .reverse (.ref r) [] h).wp P E ↔ ∃ xs, h[r]? = some (.lst xs) ∧ P .non (h.set r (.lst xs.reverse)) := by
  simp only [bmM, wp_bind, wp_lstM, wp_put, wp_ret]
@[simp] theorem wp_clear : (bmM .lst .clear (.ref r) [] h).wp P E ↔ ∃ xs, h[r]? = some (.lst xs) ∧ P .non (h.set r (.lst [])) := by
  simp only [bmM, wp_bind, wp_lstM, wp_put, wp_ret]
@[simp] theorem wp_extend : (bmM .lst .extend (.ref r) [y] h).wp P E ↔ notScr y = true ∧ (itemsD y h).wp (fun ys h1 => ∃ xs, h1[r]? = some (.lst xs) ∧ xs.length + ys.length ≤ sizeLine ∧ P .non (h1.set r (.lst (xs ++ ys)))) E := by
  simp only [bmM, wp_bind, wp_lstM, wp_test, wp_put, wp_ret, decide_eq_true_eq]
@[simp] theorem wp_insert : (bmM .lst .insert (.ref r) [.int i, y] h).wp P E ↔ ∃ xs, h[r]? = some (.lst xs) ∧ (0 ≤ i ∧ i ≤ xs.length ∧ xs.length < sizeLine) ∧ P .non (h.set r (.lst (xs.take i.toNat ++ y :: xs.drop i.toNat))) := by
  simp only [bmM, wp_bind, wp_lstM, wp_test, wp_put, wp_ret, decide_eq_true_eq]
@[simp] theorem wp_setIdx {v : D} {P : Unit → Hm → Prop} : (setIdxM (.ref r) (.int k) v h).wp P E ↔ ∃ xs j, h[r]? = some (.lst xs) ∧ ixN xs.length k = some j ∧ P () (h.set r (.lst (xs.set j v))) := by
  simp only [setIdxM]
  cases e : h[r]? with
  | none => simp
  | some c =>
    cases c with
    | lst xs => cases e2 : ixN xs.length k <;> simp [e2]
    | _ => simp
@[simp] theorem wp_augA : (augM .Add (.int i) (.int j) h).wp P E ↔ P (.int (i + j)) h := Iff.rfl
@[simp] theorem wp_augS : (augM .Sub (.int i) (.int j) h).wp P E ↔ P (.int (i - j)) h := Iff.rfl
/-! ### indices -/
theorem atI_lit {α : Type} {xs : List α} {n : Nat} {x : α} (e : xs[n]? = some x) : atI xs (n : Int) = some x := by
  have hl := (List.getElem?_eq_some_iff.mp e).1
  unfold atI ixN
  rw [if_pos (by omega), if_pos (by omega)]
  simpa using e
@[simp] theorem atI_0 {α : Type} {x : α} {xs : List α} : atI (x :: xs) 0 = some x := atI_lit (n := 0) rfl
@[simp] theorem atI_1 {α : Type} {x y : α} {xs : List α} : atI (x :: y :: xs) 1 = some y := atI_lit (n := 1) rfl
@[simp] theorem atI_2 {α : Type} {x y z : α} {xs : List α} : atI (x :: y :: z :: xs) 2 = some z := atI_lit (n := 2) rfl
@[simp] theorem atI_3 {α : Type} {x y z u : α} {xs : List α} : atI (x :: y :: z :: u :: xs) 3 = some u := atI_lit (n := 3) rfl
@[simp] theorem atI_4 {α : Type} {x y z u v : α} {xs : List α} : atI (x :: y :: z :: u :: v :: xs) 4 = some v := atI_lit (n := 4) rfl
@[simp] theorem ixN_0 {n : Nat} : ixN (n + 1) 0 = some 0 := by unfold ixN; rw [if_pos (by omega), if_pos (by omega)]; rfl

theorem ixN_in {n : Nat} {i : Int} (h0 : 0 ≤ i) (h1 : i < n) : ixN n i = some i.toNat := by
  unfold ixN
  rw [if_pos h0, if_pos h1]
theorem atI_in {α : Type} {xs : List α} {i : Int} (h0 : 0 ≤ i) (h1 : i < xs.length) : ∃ h : i.toNat < xs.length, atI xs i = some xs[i.toNat] := by
  have h2 : i.toNat < xs.length := by omega
  refine ⟨h2, ?_⟩
  unfold atI
  rw [ixN_in h0 h1]
  simp [h2]
theorem atI_mem {α : Type} {xs : List α} {i : Int} (h0 : 0 ≤ i) (h1 : i < xs.length) : ∃ v, atI xs i = some v ∧ v ∈ xs := by
  obtain ⟨h2, e⟩ := atI_in h0 h1
  exact ⟨_, e, List.getElem_mem h2⟩
theorem atI_ints {zs : List Int} {i : Int} (h0 : 0 ≤ i) (h1 : i < zs.length) : ∃ v, atI (zs.map D.int) i = some (.int v) ∧ v ∈ zs := by
  obtain ⟨v, e, hm⟩ := atI_mem (xs := zs.map D.int) h0 (by rw [List.length_map]; exact h1)
  obtain ⟨z, hz, rfl⟩ := List.mem_map.mp hm
  exact ⟨z, e, hz⟩
theorem ints_snoc {zs : List Int} {v : Int} : zs.map D.int ++ [.int v] = (zs ++ [v]).map D.int := by simp
@[simp] theorem rngD_len {lo : Int} {n : Nat} : (rngD lo n).length = n := rngD_length n lo
theorem rngD_at {lo : Int} {n i : Nat} {x : D} (e : (rngD lo n)[i]? = some x) : i < n ∧ x = .int (lo + i) := by
  have hl := (List.getElem?_eq_some_iff.mp e).1
  rw [rngD_length] at hl
  rw [rngD_get n lo i hl] at e
  cases e
  exact ⟨hl, rfl⟩
theorem ints_at {zs : List Int} {i : Nat} {x : D} (e : (zs.map D.int)[i]? = some x) : ∃ z, x = .int z ∧ z ∈ zs ∧ zs[i]? = some z := by
  rw [List.getElem?_map] at e
  cases q : zs[i]? with
  | none => rw [q] at e; cases e
  | some z => rw [q] at e; cases e; exact ⟨z, rfl, List.mem_of_getElem? q, rfl⟩
theorem gs_nil {h : Hm} : Gs h [] := fun g hg => by cases hg
theorem gs_one {h : Hm} {r : Nat} {c : Cell} (e : h[r]? = some c) : Gs h [(r, c)] := fun g hg => by
  cases hg with
  | head => exact e
  | tail _ hg => cases hg
end
end G60

/-! What each word of the language asks for. -/
namespace G60
open PySem L2
section
variable {P : D → Hm → Prop} {E : EKK} {Q : Fl → Ev → Hm → Prop} {h : Hm} {env : Ev} {Φ : Fx} {i j k n r : Nat} {xs ys : List D} {x y d : D} {a b c e : IE} {es : IEs}
@[simp] theorem wp_noErr {α : Type} {r : Res α} {P : α → Hm → Prop} : (noErr r).wp P E ↔ r.wp P (fun _ _ _ => False) := by
  cases r <;> exact Iff.rfl
@[simp] theorem wp_ins {P : Nat × Nat × List (Nat × D) → Hm → Prop} : (insM (.ref r) h).wp P E ↔ ∃ C fs, h[r]? = some (.ins C fs) ∧ P (r, C, fs) h := by
  simp only [insM]
  cases e : h[r]? with
  | none => simp
  | some c =>
    cases c with
    | ins C fs => exact ⟨fun q => ⟨C, fs, rfl, q⟩, fun ⟨_, _, e, q⟩ => by cases e; exact q⟩
    | _ => simp
@[simp] theorem wp_attM : (attM (.ref r) n h).wp P E ↔ ∃ C fs, h[r]? = some (.ins C fs) ∧ ∃ d, fs.lookup n = some d ∧ P d h := by
  simp only [attM, wp_bind, wp_ins, wp_opt]
@[simp] theorem wp_setAttM {has : Nat → Nat → Bool} {P : Unit → Hm → Prop} : (setAttM has (.ref r) n d h).wp P E ↔ ∃ C fs, h[r]? = some (.ins C fs) ∧ (has C n = true ∧ fs.length < 1000) ∧ P () (h.set r (.ins C (putA n d fs))) := by
  simp only [setAttM, wp_bind, wp_ins, wp_test, wp_put, Bool.and_eq_true, decide_eq_true_eq]
@[simp] theorem wp_newM {C f : Nat} {ds : List D} : (newM Φ C f ds h).wp P E ↔ (Φ.fn f (.ref h.length :: ds) (h ++ [.ins C []])).wp (fun v h' => v = .non ∧ P (.ref h.length) h') E := by
  unfold newM
  cases Φ.fn f (.ref h.length :: ds) (h ++ [.ins C []]) with
  | ok v h' =>
    by_cases z : v = .non
    · simp [z]
    · simp [z]
  | err c fs h' => exact Iff.rfl
  | bad => exact Iff.rfl
@[simp] theorem wE_c : (eE Φ (.c d) env h).wp P E ↔ P d h := by rw [eE]; exact Iff.rfl
@[simp] theorem wE_v : (eE Φ (.v i) env h).wp P E ↔ ∃ d, env[i]? = some (some d) ∧ P d h := by rw [eE]; exact wp_lk
@[simp] theorem wE_bin {o : Operator} : (eE Φ (.bin o a b) env h).wp P E ↔ (eE Φ a env h).wp (fun x h1 => (eE Φ b env h1).wp (fun y h2 => (opBin o x y h2).wp P E) E) E := by rw [eE]; simp only [wp_bind]
@[simp] theorem wE_cmp {o : CmpOp} : (eE Φ (.cmp o a b) env h).wp P E ↔ (eE Φ a env h).wp (fun x h1 => (eE Φ b env h1).wp (fun y h2 => (opCmp o x y h2).wp P E) E) E := by rw [eE]; simp only [wp_bind]
@[simp] theorem wE_chain {o o' : CmpOp} : (eE Φ (.chain o o' a b c) env h).wp P E ↔ (eE Φ a env h).wp (fun x h1 => (eE Φ b env h1).wp (fun y h2 => (opCmp o x y h2).wp (fun t h3 => ∃ k, t = .bl k ∧ (k = true → (eE Φ c env h3).wp (fun z h4 => (opCmp o' y z h4).wp P E) E) ∧ (k = false → P (.bl false) h3)) E) E) E := by
  rw [eE, wp_bind]
  have e : ∀ (x y t : D) (h3 : Hm), ((match t with
    | .bl true => M.bind (eE Φ c env) fun z => opCmp o' y z
    | .bl false => M.ret (.bl false)
    | _ => M.bad) h3 : Res D).wp P E ↔ ∃ k, t = .bl k ∧ (k = true → (eE Φ c env h3).wp (fun z h4 => (opCmp o' y z h4).wp P E) E) ∧ (k = false → P (.bl false) h3) := by
    intro x y t h3
    cases t with
    | bl k => cases k <;> simp
    | _ => simp
  refine iff_of_eq (congrArg (fun f => (eE Φ a env h).wp f E) ?_)
  funext x h1
  rw [wp_bind]
  refine congrArg (fun f => (eE Φ b env h1).wp f E) ?_
  funext y h2
  rw [wp_bind]
  refine congrArg (fun f => (opCmp o x y h2).wp f E) ?_
  funext t h3
  exact propext (e x y t h3)
@[simp] theorem wE_neg : (eE Φ (.neg a) env h).wp P E ↔ (eE Φ a env h).wp (fun x h1 => (negM x h1).wp P E) E := by rw [eE]; simp only [wp_bind]
@[simp] theorem wE_not : (eE Φ (.not a) env h).wp P E ↔ (eE Φ a env h).wp (fun x h1 => (truth x h1).wp (fun b h2 => P (.bl (!b)) h2) E) E := by rw [eE]; simp only [wp_bind, wp_ret]
@[simp] theorem wE_and : (eE Φ (.and a b) env h).wp P E ↔ (eE Φ a env h).wp (fun x h1 => (truth x h1).wp (fun t h2 => (t = true → (eE Φ b env h2).wp P E) ∧ (¬ t = true → P x h2)) E) E := by rw [eE]; simp only [wp_bind, wp_if, wp_ret]
@[simp] theorem wE_or : (eE Φ (.or a b) env h).wp P E ↔ (eE Φ a env h).wp (fun x h1 => (truth x h1).wp (fun t h2 => (t = true → P x h2) ∧ (¬ t = true → (eE Φ b env h2).wp P E)) E) E := by rw [eE]; simp only [wp_bind, wp_if, wp_ret]
@[simp] theorem wE_ite : (eE Φ (.ite c a b) env h).wp P E ↔ (eE Φ c env h).wp (fun x h1 => (truth x h1).wp (fun t h2 => (t = true → (eE Φ a env h2).wp P E) ∧ (¬ t = true → (eE Φ b env h2).wp P E)) E) E := by rw [eE]; simp only [wp_bind, wp_if]
@[simp] theorem wE_tup : (eE Φ (.tup es) env h).wp P E ↔ (eEs Φ es env h).wp (fun xs h1 => xs.length ≤ sizeLine ∧ P (.tup xs) h1) E := by rw [eE]; simp only [wp_bind, wp_test, wp_ret, decide_eq_true_eq]
@[simp] theorem wE_lst : (eE Φ (.lst es) env h).wp P E ↔ (eEs Φ es env h).wp (fun xs h1 => xs.length ≤ sizeLine ∧ P (.ref h1.length) (h1 ++ [.lst xs])) E := by rw [eE]; simp only [wp_bind, wp_test, wp_alloc, decide_eq_true_eq]
@[simp] theorem wE_dct : (eE Φ .dct env h).wp P E ↔ P (.ref h.length) (h ++ [.dct []]) := by rw [eE]; exact wp_alloc
@[simp] theorem wE_idx : (eE Φ (.idx a b) env h).wp P E ↔ (eE Φ a env h).wp (fun x h1 => (eE Φ b env h1).wp (fun y h2 => (opIdx x y h2).wp P E) E) E := by rw [eE]; simp only [wp_bind]
@[simp] theorem wE_cut {lo hi : IO} : (eE Φ (.cut a lo hi) env h).wp P E ↔ (eE Φ a env h).wp (fun x h1 => (eO Φ lo env h1).wp (fun l h2 => (eO Φ hi env h2).wp (fun u h3 => (opCut x l u h3).wp P E) E) E) E := by rw [eE]; simp only [wp_bind]
@[simp] theorem wO_no {P : Option Int → Hm → Prop} : (eO Φ .no env h).wp P E ↔ P none h := by rw [eO]; exact Iff.rfl
@[simp] theorem wO_yes {P : Option Int → Hm → Prop} : (eO Φ (.yes a) env h).wp P E ↔ (eE Φ a env h).wp (fun x h1 => (partM x h1).wp P E) E := by rw [eO]; simp only [wp_bind]
@[simp] theorem wE_att : (eE Φ (.att a n) env h).wp P E ↔ (eE Φ a env h).wp (fun x h1 => (attM x n h1).wp P E) E := by rw [eE]; simp only [wp_bind]
@[simp] theorem wE_call {f : Nat} : (eE Φ (.call f es) env h).wp P E ↔ (eEs Φ es env h).wp (fun xs h1 => (Φ.fn f xs h1).wp P E) E := by rw [eE]; simp only [wp_bind]
@[simp] theorem wE_new {C f : Nat} : (eE Φ (.new C f es) env h).wp P E ↔ (eEs Φ es env h).wp (fun xs h1 => (newM Φ C f xs h1).wp P E) E := by rw [eE]; simp only [wp_bind]
@[simp] theorem wE_ometh {m : Nat} : (eE Φ (.ometh a m es) env h).wp P E ↔ (eE Φ a env h).wp (fun x h1 => (insM x h1).wp (fun q h2 => ∃ f, Φ.mt q.2.1 m = some f ∧ (eEs Φ es env h2).wp (fun xs h3 => (Φ.fn f (x :: xs) h3).wp P E) E) E) E := by rw [eE]; simp only [wp_bind, wp_opt]
@[simp] theorem wE_bi {b : Bi} : (eE Φ (.bi b es) env h).wp P E ↔ (eEs Φ es env h).wp (fun xs h1 => (biM b xs h1).wp P E) E := by rw [eE]; simp only [wp_bind]
@[simp] theorem wE_comp {tg : Tg} {it : It} {cond : IO} {own : List Nat} : (eE Φ (.comp e tg it cond own) env h).wp P E ↔ (eI Φ it env h).wp (fun w h1 => (compL w.2 (fun x => asg tg x (wipeE env own)) (fun e h => noErr (eC Φ cond e h)) (fun e' h => noErr (eE Φ e e' h)) h1.length w.1 (h1 ++ [.lst []])).wp (fun _ h2 => P (.ref h1.length) h2) E) E := by
  rw [eE]
  simp only [wp_bind, wp_alloc, wp_ret]
@[simp] theorem wEs_nil {P : List D → Hm → Prop} : (eEs Φ .nil env h).wp P E ↔ P [] h := by rw [eEs]; exact Iff.rfl
@[simp] theorem wEs_cons {P : List D → Hm → Prop} : (eEs Φ (.cons e es) env h).wp P E ↔ (eE Φ e env h).wp (fun x h1 => (eEs Φ es env h1).wp (fun xs h2 => P (x :: xs) h2) E) E := by rw [eEs]; simp only [wp_bind, wp_ret]
@[simp] theorem wC_no {P : Bool → Hm → Prop} : (eC Φ .no env h).wp P E ↔ P true h := by rw [eC]; exact Iff.rfl
@[simp] theorem wC_yes {P : Bool → Hm → Prop} : (eC Φ (.yes e) env h).wp P E ↔ (eE Φ e env h).wp (fun x h1 => (truth x h1).wp P E) E := by rw [eC]; simp only [wp_bind]
@[simp] theorem wI_seq {P : Walk → Hm → Prop} : (eI Φ (.seq e) env h).wp P E ↔ (eE Φ e env h).wp (fun x h1 => (walkD x h1).wp P E) E := by rw [eI]; simp only [wp_bind]
@[simp] theorem wI_rng1 {P : Walk → Hm → Prop} : (eI Φ (.rng1 e) env h).wp P E ↔ (eE Φ e env h).wp (fun x h1 => (rngM (.int 0) x h1).wp P E) E := by rw [eI]; simp only [wp_bind]
@[simp] theorem wI_rng2 {P : Walk → Hm → Prop} : (eI Φ (.rng2 a b) env h).wp P E ↔ (eE Φ a env h).wp (fun x h1 => (eE Φ b env h1).wp (fun y h2 => (rngM x y h2).wp P E) E) E := by rw [eI]; simp only [wp_bind]
@[simp] theorem wI_enum {P : Walk → Hm → Prop} : (eI Φ (.enum e) env h).wp P E ↔ (eE Φ e env h).wp (fun x h1 => (walkL x h1).wp (fun w h2 => P (enumD 0 w.1, w.2) h2) E) E := by rw [eI]; simp only [wp_bind, wp_ret]
@[simp] theorem wI_zip {P : Walk → Hm → Prop} : (eI Φ (.zip a b) env h).wp P E ↔ (eE Φ a env h).wp (fun x h1 => (eE Φ b env h1).wp (fun y h2 => (walkL x h2).wp (fun w h3 => (walkL y h3).wp (fun u h4 => P (zipD w.1 u.1, w.2 ++ u.2) h4) E) E) E) E := by rw [eI]; simp only [wp_bind, wp_ret]
@[simp] theorem wS_set {t : Tg} : (eS Φ (.set t e) env h).wp Q E ↔ (eE Φ e env h).wp (fun x h1 => ∃ env', asg t x env = some env' ∧ Q .nx env' h1) E := by rw [eS]; simp only [swp_of, swp_setS]
@[simp] theorem wS_setIdx {o i : IE} : (eS Φ (.setIdx o i e) env h).wp Q E ↔ (eE Φ e env h).wp (fun v h1 => (eE Φ o env h1).wp (fun x h2 => (eE Φ i env h2).wp (fun k h3 => (setIdxM x k v h3).wp (fun _ h4 => Q .nx env h4) E) E) E) E := by rw [eS]; simp only [swp_of, wp_bind, swp_done]
@[simp] theorem wS_setAtt {o : IE} : (eS Φ (.setAtt o n e) env h).wp Q E ↔ (eE Φ e env h).wp (fun v h1 => (eE Φ o env h1).wp (fun x h2 => (setAttM Φ.has x n v h2).wp (fun _ h4 => Q .nx env h4) E) E) E := by rw [eS]; simp only [swp_of, wp_bind, swp_done]
@[simp] theorem wS_aug {o : Operator} : (eS Φ (.aug i o e) env h).wp Q E ↔ ∃ d, env[i]? = some (some d) ∧ (eE Φ e env h).wp (fun y h2 => (augM o d y h2).wp (fun z h3 => Q .nx (env.set i (some z)) h3) E) E := by
  rw [eS]; simp only [swp_of, wp_bind, wp_lk]; exact Iff.rfl
@[simp] theorem wS_augAtt {o : Operator} : (eS Φ (.augAtt a n o e) env h).wp Q E ↔ (eE Φ a env h).wp (fun x h1 => (insM x h1).wp (fun q h2 => ∃ v, q.2.2.lookup n = some v ∧ (eE Φ e env h2).wp (fun y h3 => (augM o v y h3).wp (fun z h4 => (insM x h4).wp (fun q' h5 => q'.2.1 = q.2.1 ∧ (setAttM Φ.has x n z h5).wp (fun _ h6 => Q .nx env h6) E) E) E) E) E) E := by
  rw [eS]; simp only [swp_of, wp_bind, wp_opt, wp_test, swp_done, decide_eq_true_eq]
@[simp] theorem wS_ex : (eS Φ (.ex e) env h).wp Q E ↔ (eE Φ e env h).wp (fun _ h1 => Q .nx env h1) E := by rw [eS]; simp only [swp_of, swp_done]
@[simp] theorem wS_ret : (eS Φ (.ret e) env h).wp Q E ↔ (eE Φ e env h).wp (fun x h1 => Q (.rt x) env h1) E := by rw [eS]; simp only [swp_of, swp_done]
@[simp] theorem wS_retN : (eS Φ .retN env h).wp Q E ↔ Q (.rt .non) env h := by rw [eS]; exact Iff.rfl
@[simp] theorem wS_brk : (eS Φ .brk env h).wp Q E ↔ Q .bk env h := by rw [eS]; exact Iff.rfl
@[simp] theorem wS_cont : (eS Φ .cont env h).wp Q E ↔ Q .ct env h := by rw [eS]; exact Iff.rfl
@[simp] theorem wS_pass : (eS Φ .pass env h).wp Q E ↔ Q .nx env h := by rw [eS]; exact Iff.rfl
@[simp] theorem wS_never : (eS Φ .never env h).wp Q E ↔ False := by rw [eS]; exact Iff.rfl
theorem wS_whl {b : ISs} : (eS Φ (.whl c b) env h).wp Q E ↔ (whL (fun env => M.bind (eE Φ c env) truth) (eSs Φ b) FUEL env h).wp Q E := by rw [eS]
@[simp] theorem wS_for {t : Tg} {it : It} {b : ISs} : (eS Φ (.for_ t it b) env h).wp Q E ↔ (eI Φ it env h).wp (fun w h1 => (forL w.2 (asg t) (eSs Φ b) w.1 env h1).wp Q E) E := by rw [eS]; simp only [swp_of]
/-- a while: k turns at most are left -/
theorem whl_wp {b : ISs} (I : Nat → Ev → Hm → Prop) (k : Nat) (hk : k < 1000000000000) (I0 : I k env h)
    (step : ∀ k env h, I k env h → ∀ N : Ev → Hm → Prop, (∀ k' env h, k' < k → I k' env h → N env h) → (eE Φ c env h).wp (fun x h1 => (truth x h1).wp (fun t h2 => (t = true → (eSs Φ b env h2).wp (turn N Q) E) ∧ (¬ t = true → Q .nx env h2)) E) E) : (eS Φ (.whl c b) env h).wp Q E := by
  rw [wS_whl]
  refine whL_wp I (fun k env h hi N hN => ?_) FUEL k env h hk I0
  rw [wp_bind]
  exact step k env h hi N hN
@[simp] theorem asg_nm {i : Nat} {d : D} : asg (.nm i) d env = some (env.set i (some d)) := rfl
@[simp] theorem asg_tp {ts : Tgs} {xs : List D} : asg (.tp ts) (.tup xs) env = asgs ts xs env := rfl
@[simp] theorem asgs_nil : asgs .nil [] env = some env := rfl
@[simp] theorem asgs_nm {i : Nat} {d : D} {ts : Tgs} {ds : List D} : asgs (.cons (.nm i) ts) (d :: ds) env = asgs ts ds (env.set i (some d)) := rfl
theorem asgs_cons {t : Tg} {d : D} {ts : Tgs} {ds : List D} : asgs (.cons t ts) (d :: ds) env = match asg t d env with | some env' => asgs ts ds env' | none => none := rfl
@[simp] theorem wipe_nil : wipeE env [] = env := rfl
@[simp] theorem wipe_cons {v : Nat} {vs : List Nat} : wipeE env (v :: vs) = (wipeE env vs).set v none := rfl
end
end G60

/-! Plain data: no references, no truth values; equal only where they are the same. -/
namespace G60
open PySem L2
def pl : Nat → D → Bool
  | 0, _ => false
  | n + 1, d => match d with
    | .non => true
    | .int _ => true
    | .str x => (PyData.str x).canLay0
    | .tup xs => xs.all (pl n)
    | _ => false
mutual
def pyD : D → PyData
  | .non => .none
  | .bl b => .bool b
  | .int i => .int i
  | .str x => .str x
  | .tup xs => .tuple (pyDs xs)
  | .ref _ => .none
  | .scr ns => .list (ns.map .int)
def pyDs : List D → List PyData
  | [] => []
  | x :: xs => pyD x :: pyDs xs
end
theorem pyDs_map : ∀ xs : List D, pyDs xs = xs.map pyD
  | [] => rfl
  | x :: xs => by rw [pyDs, pyDs_map xs]; rfl
theorem mapO_some {α β : Type} {f : α → Option β} {g : α → β} : ∀ {xs : List α}, (∀ x ∈ xs, f x = some (g x)) → mapO f xs = some (xs.map g)
  | [], _ => rfl
  | x :: xs, h => by
    unfold mapO
    rw [h x (List.mem_cons_self ..), mapO_some fun y hy => h y (List.mem_cons_of_mem _ hy)]
    rfl
theorem toPy_pl {h : Hm} : ∀ {n : Nat} {d : D}, pl n d = true → toPy n h d = some (pyD d)
  | 0, _, e => by cases e
  | n + 1, d, e => by
    cases d with
    | non => rfl
    | int i => rfl
    | str x =>
      have e' : (PyData.str x).canLay0 = true := e
      show (if _ then _ else _) = _
      rw [if_pos e', pyD]
    | tup xs =>
      have e' : xs.all (pl n) = true := e
      show (mapO (toPy n h) xs).map PyData.tuple = _
      rw [mapO_some fun x hx => toPy_pl (List.all_eq_true.mp e' x hx), pyD, pyDs_map]
      rfl
    | bl _ => cases e
    | ref _ => cases e
    | scr _ => cases e
theorem pl_mono : ∀ {n m : Nat} {d : D}, pl n d = true → n ≤ m → pl m d = true
  | 0, _, _, e, _ => by cases e
  | n + 1, 0, _, _, h => by omega
  | n + 1, m + 1, d, e, h => by
    cases d with
    | tup xs =>
      have e' : xs.all (pl n) = true := e
      show xs.all (pl m) = true
      exact List.all_eq_true.mpr fun x hx => pl_mono (List.all_eq_true.mp e' x hx) (by omega)
    | _ => exact e
theorem eqv_pl : ∀ {n : Nat} {a b : D}, pl n a = true → pl n b = true → PyData.eqv (pyD a) (pyD b) = decide (a = b)
  | 0, _, _, e, _ => by cases e
  | n + 1, a, b, ea, eb => by
    have all : ∀ (xs ys : List D), xs.all (pl n) = true → ys.all (pl n) = true → PyData.eqvAll (xs.map pyD) (ys.map pyD) = decide (xs = ys) := by
      intro xs
      induction xs with
      | nil => intro ys _ _; cases ys <;> simp [PyData.eqvAll]
      | cons x xs ih =>
        intro ys hx hy
        cases ys with
        | nil => simp [PyData.eqvAll]
        | cons y ys =>
          rw [List.all_cons, Bool.and_eq_true] at hx hy
          rw [List.map_cons, List.map_cons, PyData.eqvAll, ih ys hx.2 hy.2, eqv_pl hx.1 hy.1]
          by_cases h1 : x = y <;> by_cases h2 : xs = ys <;> simp [h1, h2]
    cases a <;> cases b <;> first | (cases ea; done) | (cases eb; done) | skip
    all_goals simp only [pyD, PyData.eqv]
    all_goals first
      | rfl
      | (simp; done)
      | skip
    all_goals first
      | (rename_i xs ys; rw [pyDs_map, pyDs_map, all xs ys ea eb]; simp)
      | (rename_i i j; by_cases h : i = j <;> simp [h])
theorem eqvAll_pl {n : Nat} : ∀ {xs ys : List D}, xs.all (pl n) = true → ys.all (pl n) = true → PyData.eqvAll (xs.map pyD) (ys.map pyD) = decide (xs = ys)
  | [], ys, _, _ => by cases ys <;> simp [PyData.eqvAll]
  | x :: xs, [], _, _ => by simp [PyData.eqvAll]
  | x :: xs, y :: ys, hx, hy => by
    rw [List.all_cons, Bool.and_eq_true] at hx hy
    rw [List.map_cons, List.map_cons, PyData.eqvAll, eqvAll_pl hx.2 hy.2, eqv_pl hx.1 hy.1]
    by_cases h1 : x = y <;> by_cases h2 : xs = ys <;> simp [h1, h2]
section
variable {P : D → Hm → Prop} {E : EKK} {h : Hm} {x y : D} {r s : Nat} {xs ys : List D}
theorem wp_eqP (hx : pl 60 x = true) (hy : pl 60 y = true) : (opCmp .Eq x y h).wp P E ↔ P (.bl (decide (x = y))) h := by
  rw [wp_eq, toPy_pl hx, toPy_pl hy, ← eqv_pl hx hy]
  exact ⟨fun ⟨a, b, e1, e2, q⟩ => by cases e1; cases e2; exact q, fun q => ⟨_, _, rfl, rfl, q⟩⟩
theorem wp_neP (hx : pl 60 x = true) (hy : pl 60 y = true) : (opCmp .NotEq x y h).wp P E ↔ P (.bl (!decide (x = y))) h := by
  rw [wp_ne, toPy_pl hx, toPy_pl hy, ← eqv_pl hx hy]
  exact ⟨fun ⟨a, b, e1, e2, q⟩ => by cases e1; cases e2; exact q, fun q => ⟨_, _, rfl, rfl, q⟩⟩
theorem toPy_lst {n : Nat} (e : h[r]? = some (.lst xs)) (a : xs.all (pl n) = true) : toPy (n + 1) h (.ref r) = some (.list (xs.map pyD)) := by
  show (match h[r]? with | some (.lst xs) => (mapO (toPy n h) xs).map PyData.list | _ => none) = _
  rw [e]
  simp only
  rw [mapO_some fun x hx => toPy_pl (List.all_eq_true.mp a x hx)]
  rfl
theorem toPy_refs {n : Nat} {ps : List PyData} (e : h[r]? = some (.lst xs)) (a : mapO (toPy n h) xs = some ps) : toPy (n + 1) h (.ref r) = some (.list ps) := by
  show (match h[r]? with | some (.lst xs) => (mapO (toPy n h) xs).map PyData.list | _ => none) = _
  rw [e]
  simp only
  rw [a]
  rfl
theorem mapO_two {α β : Type} {f : α → Option β} {x y : α} {a b : β} (h1 : f x = some a) (h2 : f y = some b) : mapO f [x, y] = some [a, b] := by
  unfold mapO; rw [h1]; unfold mapO; rw [h2]; rfl
/-- two lists of plain data -/
theorem wp_eqL (e1 : h[r]? = some (.lst xs)) (e2 : h[s]? = some (.lst ys)) (a1 : xs.all (pl 59) = true) (a2 : ys.all (pl 59) = true) : (opCmp .Eq (.ref r) (.ref s) h).wp P E ↔ P (.bl (decide (xs = ys))) h := by
  rw [wp_eq, toPy_lst e1 a1, toPy_lst e2 a2]
  have q : PyData.eqv (.list (xs.map pyD)) (.list (ys.map pyD)) = decide (xs = ys) := by rw [PyData.eqv, eqvAll_pl a1 a2]
  exact ⟨fun ⟨a, b, z1, z2, p⟩ => by cases z1; cases z2; rw [q] at p; exact p, fun p => ⟨_, _, rfl, rfl, by rw [q]; exact p⟩⟩
theorem wp_neL (e1 : h[r]? = some (.lst xs)) (e2 : h[s]? = some (.lst ys)) (a1 : xs.all (pl 59) = true) (a2 : ys.all (pl 59) = true) : (opCmp .NotEq (.ref r) (.ref s) h).wp P E ↔ P (.bl (!decide (xs = ys))) h := by
  rw [wp_ne, toPy_lst e1 a1, toPy_lst e2 a2]
  have q : PyData.eqv (.list (xs.map pyD)) (.list (ys.map pyD)) = decide (xs = ys) := by rw [PyData.eqv, eqvAll_pl a1 a2]
  exact ⟨fun ⟨a, b, z1, z2, p⟩ => by cases z1; cases z2; rw [q] at p; exact p, fun p => ⟨_, _, rfl, rfl, by rw [q]; exact p⟩⟩
end
section
variable {P : D → Hm → Prop} {E : EKK} {h : Hm} {Φ : Fx} {env : Ev}
/-- no cell is made -/
theorem wp_same {f : IF} {ds : List D} (hl : ds.length = f.ps)
    (a : (eSs Φ f.body (ds.map some ++ List.replicate (f.ns - f.ps) none) h).wp (fnQ fun d h' => h'.length = h.length ∧ P d h') E) : (runF Φ f ds h).wp P E := by
  refine wp_runF hl (a.imp fun f env' h' q => ?_)
  have go : ∀ d, (h'.length = h.length ∧ P d h') → ((d.lo h.length && keptB h.length h h') = true → P d (h'.take h.length)) ∧ ((d.lo h.length && keptB h.length h h') = false → P d h') :=
    fun d q => ⟨fun _ => (by rw [← q.1, List.take_length]; exact q.2), fun _ => q.2⟩
  cases f with
  | rt d => exact go d q
  | nx => exact go .non q
  | bk => exact q
  | ct => exact q
theorem cell_set {r : Nat} {c : Cell} (e : h[r]? = some c) : ∀ c', (h.set r c')[r]? = some c' := fun c' => List.getElem?_set_self (List.getElem?_eq_some_iff.mp e).1
theorem set_keep {r : Nat} {c : Cell} (e : h[r]? = some c) : h.set r c = h := by
  have hrl := (List.getElem?_eq_some_iff.mp e).1
  apply List.ext_getElem?
  intro i
  by_cases z : i = r
  · subst z; rw [List.getElem?_set_self hrl, e]
  · rw [List.getElem?_set_ne (fun q => z q.symm)]
theorem hsnoc {ys : List Int} {v : Int} : h ++ [Cell.lst (ys.map D.int ++ [.int v])] = h ++ [.lst ((ys ++ [v]).map D.int)] := by simp
theorem nn_snoc {zs : List Int} {v : Int} (h : ∀ z ∈ zs, 0 ≤ z) (hv : 0 ≤ v) : ∀ z ∈ zs ++ [v], 0 ≤ z := by
  intro z hz
  rcases List.mem_append.mp hz with q | q
  · exact h z q
  · simp at q; omega
theorem sIx_of {n d : Nat} {k : Int} (hk : 0 ≤ k) : HT.sIx n d (some k) = min k.toNat n := by
  show (if k < 0 then (k + (n : Int)).toNat else min k.toNat n) = _
  rw [if_neg (by omega)]
theorem cutD_to {xs : List D} {k : Int} (hk : 0 ≤ k) : cutD xs none (some k) = xs.take k.toNat := by
  unfold cutD
  rw [sIx_of hk]
  show (xs.drop 0).take (min k.toNat xs.length - 0) = _
  rw [List.drop_zero, Nat.sub_zero]
  by_cases z : k.toNat ≤ xs.length
  · rw [Nat.min_eq_left z]
  · rw [Nat.min_eq_right (by omega), List.take_of_length_le (Nat.le_refl _), List.take_of_length_le (by omega)]
theorem cutD_from {xs : List D} {k : Int} (hk : 0 ≤ k) : cutD xs (some k) none = xs.drop k.toNat := by
  unfold cutD
  rw [sIx_of hk]
  show (xs.drop (min k.toNat xs.length)).take (xs.length - min k.toNat xs.length) = _
  by_cases z : k.toNat ≤ xs.length
  · rw [Nat.min_eq_left z, List.take_of_length_le (by simp)]
  · rw [Nat.min_eq_right (by omega), List.drop_length, List.drop_of_length_le (by omega), List.take_nil]
theorem enumD_at {xs : List D} {k i : Nat} {d : D} (e : (enumD k xs)[i]? = some d) : ∃ x, xs[i]? = some x ∧ d = .tup [.int (k + i : Nat), x] := enumD_get xs k i d e
@[simp] theorem enumD_len {xs : List D} {k : Nat} : (enumD k xs).length = xs.length := enumD_length xs k
theorem take_succ_at {α : Type} {xs : List α} {i : Nat} {x : α} (e : xs[i]? = some x) : xs.take (i + 1) = xs.take i ++ [x] := by
  rw [List.take_succ, e]; rfl
theorem atI_nat {α : Type} {xs : List α} {i : Nat} {x : α} (e : xs[i]? = some x) : atI xs (i : Int) = some x := by
  have hl := (List.getElem?_eq_some_iff.mp e).1
  obtain ⟨h, q⟩ := atI_in (xs := xs) (i := (i : Int)) (by omega) (by omega)
  rw [q]
  rw [List.getElem?_eq_getElem hl] at e
  simpa using e
/-- a comprehension whose turns touch nothing -/
theorem compL_fm {gs : List (Nat × Cell)} {as : D → Option Ev} {cond : Ev → M Bool} {elt : Ev → M D} {r : Nat} {xs : List D} {P : Unit → Hm → Prop} (f : D → Option D) (hr : h[r]? = some (.lst [])) (hl : xs.length ≤ 1000000) (hg : ∀ c, Gs (h.set r (.lst c)) gs)
    (st : ∀ x ∈ xs, ∀ c, ∃ env1, as x = some env1 ∧ (cond env1 (h.set r (.lst c))).wp (fun t h1 => (t = true → (elt env1 h1).wp (fun y h2 => f x = some y ∧ h2 = h.set r (.lst c)) E) ∧ (¬ t = true → f x = none ∧ h1 = h.set r (.lst c))) E)
    (hP : P () (h.set r (.lst (xs.filterMap f)))) : (compL gs as cond elt r xs h).wp P E := by
  have cell := cell_set hr
  refine compL_wp (fun i h' => h' = h.set r (.lst ((xs.take i).filterMap f))) (by simpa using (set_keep hr).symm) (fun i h' e => by rw [e]; exact hg _) (fun i x h' hx e => ?_) fun h' e => ?_
  · subst e
    obtain ⟨env1, ea, hc⟩ := st x (List.mem_of_getElem? hx) ((xs.take i).filterMap f)
    refine ⟨env1, ea, fun N hN => hc.mono fun t h1 q => ⟨fun ht => (q.1 ht).mono fun y h2 q2 => ?_, fun ht => ?_⟩⟩
    · obtain ⟨q3, rfl⟩ := q2
      refine ⟨_, cell _, ltSize ?_, hN _ ?_⟩
      · have a1 := List.length_filterMap_le f (xs.take i)
        have a2 := List.length_take_le i xs
        have a3 : i < xs.length := (List.getElem?_eq_some_iff.mp hx).1
        rw [List.length_take] at a1
        omega
      · rw [take_succ_at hx, List.filterMap_append, List.set_set]
        simp [q3]
    · obtain ⟨q3, rfl⟩ := q.2 ht
      refine hN _ ?_
      rw [take_succ_at hx, List.filterMap_append]
      simp [q3]
  · rw [e, List.take_length]; exact hP
theorem compL_map {gs : List (Nat × Cell)} {as : D → Option Ev} {cond : Ev → M Bool} {elt : Ev → M D} {r : Nat} {xs : List D} {P : Unit → Hm → Prop} (f : D → D) (hr : h[r]? = some (.lst [])) (hl : xs.length ≤ 1000000) (hg : ∀ c, Gs (h.set r (.lst c)) gs)
    (st : ∀ x ∈ xs, ∀ c, ∃ env1, as x = some env1 ∧ (cond env1 (h.set r (.lst c))).wp (fun t h1 => t = true ∧ (elt env1 h1).wp (fun y h2 => y = f x ∧ h2 = h.set r (.lst c)) E) E)
    (hP : P () (h.set r (.lst (xs.map f)))) : (compL gs as cond elt r xs h).wp P E := by
  refine compL_fm (fun x => some (f x)) hr hl hg (fun x hx c => ?_) (by simpa using hP)
  obtain ⟨env1, ea, hc⟩ := st x hx c
  refine ⟨env1, ea, hc.mono fun t h1 q => ⟨fun _ => q.2.mono fun y h2 q2 => ⟨by rw [q2.1], q2.2⟩, fun z => (z q.1).elim⟩⟩
end
end G60

namespace G60.k32
open PySem L2
/-- the program's statements -/
def top (i : Nat) : Stmt := PySem.Challenge.pw_heldafar_k32_mail_holds.main.body.getD i (.Pass ⟨0, 0, 0, 0⟩)
def tb : CT := { N := [], att := [], fns := [("mail_holds", 0), ("_law_cell", 1), ("_law_draws", 2), ("_law_bend", 3), ("_law_due", 4), ("law", 5)], cls := [], mts := [], gcs := [], blt := ["len", "list", "range", "enumerate"] }
def b0 : ISs := (.cons (.ret (.and (.cmp .LtE (.bi .len (.cons (.v 1) .nil)) (.bi .len (.cons (.v 0) .nil))) (.cmp .Eq (.bi .list (.cons (.v 1) .nil)) (.cut (.bi .list (.cons (.v 0) .nil)) .no (.yes (.bi .len (.cons (.v 1) .nil))))))) .nil)
/-- mail_holds -/
def d0 : DefI := ⟨"mail_holds", "mail_holds", top 1, ["written", "done"], ["written", "done"], b0⟩
theorem ok0 : DefOk tb d0 := ⟨⟨rfl, rfl, rfl, by decide +kernel, rfl, by decide +kernel, by decide +kernel⟩, by kernel_rfl⟩
def b1 : ISs := (.cons (.ite (.cmp .Lt (.v 1) (.bi .len (.cons (.v 0) .nil))) (.cons (.ret (.idx (.v 0) (.v 1))) .nil) .nil) (.cons (.set (.nm 2) (.bin .Add (.c (.int 90017)) (.bin .Mult (.bin .Mult (.c (.int 733)) (.v 1)) (.v 1)))) (.cons (.ite (.cmp .Gt (.bi .len (.cons (.v 0) .nil)) (.c (.int 0))) (.cons (.set (.nm 2) (.bin .Add (.v 2) (.bin .Mult (.bin .Mod (.idx (.v 0) (.c (.int 0))) (.c (.int 99991))) (.bin .Add (.bin .Mult (.c (.int 2)) (.v 1)) (.c (.int 3)))))) .nil) .nil) (.cons (.ret (.v 2)) .nil))))
/-- _law_cell -/
def d1 : DefI := ⟨"_law_cell", "_law_cell", top 3, ["_law_script", "_law_k"], ["_law_script", "_law_k", "_law_spare"], b1⟩
theorem ok1 : DefOk tb d1 := ⟨⟨rfl, rfl, rfl, by decide +kernel, rfl, by decide +kernel, by decide +kernel⟩, by kernel_rfl⟩
def b2 : ISs := (.cons (.set (.nm 3) (.call 1 (.cons (.v 0) (.cons (.v 1) .nil)))) (.cons (.set (.nm 4) (.bin .Mod (.bin .Mult (.v 3) (.c (.int 48271))) (.c (.int 2147483647)))) (.cons (.set (.nm 5) (.lst .nil)) (.cons (.ite (.cmp .Lt (.v 3) (.bin .Pow (.c (.int 10)) (.c (.int 18)))) (.cons (.set (.nm 3) (.c (.int 0))) .nil) .nil) (.cons (.whl (.and (.cmp .Gt (.v 3) (.c (.int 0))) (.cmp .Lt (.bi .len (.cons (.v 5) .nil)) (.v 2))) (.cons (.ex (.bmeth (.v 5) .append (.cons (.bin .Mod (.v 3) (.c (.int 10000))) .nil))) (.cons (.set (.nm 3) (.bin .FloorDiv (.v 3) (.c (.int 10000)))) .nil))) (.cons (.for_ (.nm 6) (.rng2 (.bi .len (.cons (.v 5) .nil)) (.v 2)) (.cons (.set (.nm 7) (.bin .Add (.call 1 (.cons (.v 0) (.cons (.bin .Add (.bin .Add (.v 1) (.c (.int 1))) (.bin .Mod (.v 6) (.c (.int 30)))) .nil))) (.bin .Mult (.v 6) (.v 6)))) (.cons (.set (.nm 4) (.bin .Mod (.bin .Add (.bin .Mult (.v 4) (.c (.int 48271))) (.v 7)) (.c (.int 2147483629)))) (.cons (.ex (.bmeth (.v 5) .append (.cons (.bin .FloorDiv (.bin .Mod (.bin .Add (.bin .Mult (.v 4) (.c (.int 69621))) (.bin .Mult (.c (.int 11)) (.v 6))) (.c (.int 2147483647))) (.c (.int 16))) .nil))) .nil)))) (.cons (.ret (.v 5)) .nil)))))))
/-- _law_draws -/
def d2 : DefI := ⟨"_law_draws", "_law_draws", top 4, ["_law_script", "_law_at", "_law_many"], ["_law_script", "_law_at", "_law_many", "_law_cell_here", "_law_draw", "_law_found", "_law_k", "_law_more"], b2⟩
theorem ok2 : DefOk tb d2 := ⟨⟨rfl, rfl, rfl, by decide +kernel, rfl, by decide +kernel, by decide +kernel⟩, by kernel_rfl⟩
def b3 : ISs := (.cons (.ite (.cmp .Eq (.v 1) (.c (.int 1))) (.cons (.setIdx (.v 0) (.v 2) (.tup (.cons (.c (.str "hand")) (.cons (.neg (.c (.int 1))) (.cons (.c .non) .nil))))) .nil) .nil) (.cons (.ite (.cmp .Eq (.v 1) (.c (.int 2))) (.cons (.ex (.bmeth (.v 0) .pop (.cons (.v 2) .nil))) .nil) .nil) (.cons (.ite (.cmp .Eq (.v 1) (.c (.int 3))) (.cons (.ex (.bmeth (.v 0) .insert (.cons (.v 2) (.cons (.idx (.v 0) (.v 2)) .nil)))) .nil) .nil) (.cons (.ite (.cmp .Eq (.v 1) (.c (.int 4))) (.cons (.set (.nm 3) (.idx (.v 0) (.v 2))) (.cons (.setIdx (.v 0) (.v 2) (.idx (.v 0) (.c (.int 0)))) (.cons (.setIdx (.v 0) (.c (.int 0)) (.v 3)) .nil))) .nil) (.cons (.ite (.cmp .Eq (.v 1) (.c (.int 5))) (.cons (.ex (.bmeth (.v 0) .append (.cons (.tup (.cons (.c (.str "hand")) (.cons (.neg (.c (.int 2))) (.cons (.c .non) .nil)))) .nil))) .nil) .nil) (.cons (.ite (.cmp .Eq (.v 1) (.c (.int 6))) (.cons (.ex (.bmeth (.v 0) .reverse .nil)) .nil) .nil) .nil))))))
/-- _law_bend -/
def d3 : DefI := ⟨"_law_bend", "_law_bend", top 5, ["_law_done", "_law_way", "_law_place"], ["_law_done", "_law_way", "_law_place", "_law_spare"], b3⟩
theorem ok3 : DefOk tb d3 := ⟨⟨rfl, rfl, rfl, by decide +kernel, rfl, by decide +kernel, by decide +kernel⟩, by kernel_rfl⟩
def b4 : ISs := (.cons (.ite (.cmp .Gt (.bi .len (.cons (.v 1) .nil)) (.bi .len (.cons (.v 0) .nil))) (.cons (.ret (.c (.bl false))) .nil) .nil) (.cons (.for_ (.tp (.cons (.nm 2) (.cons (.nm 3) .nil))) (.enum (.v 1)) (.cons (.ite (.cmp .NotEq (.idx (.v 0) (.v 2)) (.v 3)) (.cons (.ret (.c (.bl false))) .nil) .nil) .nil)) (.cons (.ret (.c (.bl true))) .nil)))
/-- _law_due -/
def d4 : DefI := ⟨"_law_due", "_law_due", top 6, ["_law_written", "_law_done"], ["_law_written", "_law_done", "_law_place", "_law_body"], b4⟩
theorem ok4 : DefOk tb d4 := ⟨⟨rfl, rfl, rfl, by decide +kernel, rfl, by decide +kernel, by decide +kernel⟩, by kernel_rfl⟩
def b5 : ISs := (.cons (.set (.nm 1) (.comp (.tup (.cons (.c (.str "hand")) (.cons (.bin .Mod (.v 5) (.c (.int 5))) (.cons (.bin .Mod (.bin .FloorDiv (.v 5) (.c (.int 5))) (.c (.int 3))) .nil)))) (.nm 5) (.seq (.call 2 (.cons (.v 0) (.cons (.c (.int 0)) (.cons (.bin .Mod (.call 1 (.cons (.v 0) (.cons (.c (.int 1)) .nil))) (.c (.int 21))) .nil))))) .no [5])) (.cons (.set (.nm 2) (.cut (.v 1) .no (.yes (.bin .Mod (.call 1 (.cons (.v 0) (.cons (.c (.int 2)) .nil))) (.bin .Add (.bi .len (.cons (.v 1) .nil)) (.c (.int 1))))))) (.cons (.ite (.cmp .Gt (.bi .len (.cons (.v 2) .nil)) (.c (.int 0))) (.cons (.ex (.call 3 (.cons (.v 2) (.cons (.bin .Mod (.call 1 (.cons (.v 0) (.cons (.c (.int 3)) .nil))) (.c (.int 12))) (.cons (.bin .Mod (.call 1 (.cons (.v 0) (.cons (.c (.int 4)) .nil))) (.bi .len (.cons (.v 2) .nil))) .nil))))) .nil) .nil) (.cons (.set (.nm 3) (.lst (.cons (.bi .list (.cons (.v 1) .nil)) (.cons (.bi .list (.cons (.v 2) .nil)) .nil)))) (.cons (.set (.nm 4) (.call 0 (.cons (.v 1) (.cons (.v 2) .nil)))) (.cons (.ite (.and (.cmp .IsNot (.v 4) (.c (.bl true))) (.cmp .IsNot (.v 4) (.c (.bl false)))) (.cons (.ret (.c (.bl false))) .nil) .nil) (.cons (.ret (.and (.cmp .Eq (.v 4) (.call 4 (.cons (.idx (.v 3) (.c (.int 0))) (.cons (.idx (.v 3) (.c (.int 1))) .nil)))) (.cmp .Eq (.lst (.cons (.v 1) (.cons (.v 2) .nil))) (.v 3)))) .nil)))))))
/-- law -/
def d5 : DefI := ⟨"law", "law", top 7, ["_law_script"], ["_law_script", "_law_written", "_law_done", "_law_before", "_law_found", "_law_draw"], b5⟩
theorem ok5 : DefOk tb d5 := ⟨⟨rfl, rfl, rfl, by decide +kernel, rfl, by decide +kernel, by decide +kernel⟩, by kernel_rfl⟩
def ds : List DefI := [d0, d1, d2, d3, d4, d5]
def hl : List (Nat × Nat) := []
def ml : List ((Nat × Nat) × Nat) := []
def mn : List Str := []
set_option maxHeartbeats 0 in
theorem facts {K : PySem.W.Frag} {h : Heap} {mg : Str → Option Value} {fa : Addr} (KX : K.In h) (G : h.Ns mainGlobals mg) (hfa : mg "law" = some (.ref fa))
    {a0 a1 a2 a3 a4 a5 : Addr} {od0 an0 od1 an1 od2 an2 od3 an3 od4 an4 od5 an5 : Option Addr} {sl0 sl1 sl2 sl3 sl4 sl5 : Array (Option Value)} {oc0 kV0 dc0 pm0 cd0 ct0 oc1 kV1 dc1 pm1 cd1 ct1 oc2 kV2 dc2 pm2 cd2 ct2 oc3 kV3 dc3 pm3 cd3 ct3 oc4 kV4 dc4 pm4 cd4 ct4 oc5 kV5 dc5 pm5 cd5 ct5 : Value}
    (n0 : PySem.W.nsIn K mainGlobals "mail_holds" = some (some (.ref a0)))
    (n1 : PySem.W.nsIn K mainGlobals "_law_cell" = some (some (.ref a1)))
    (n2 : PySem.W.nsIn K mainGlobals "_law_draws" = some (some (.ref a2)))
    (n3 : PySem.W.nsIn K mainGlobals "_law_bend" = some (some (.ref a3)))
    (n4 : PySem.W.nsIn K mainGlobals "_law_due" = some (some (.ref a4)))
    (n5 : PySem.W.nsIn K mainGlobals "law" = some (some (.ref a5)))
    (l0 : K.lookup a0 = some ⟨oc0, od0, .func (PySem.W.fnOf "mail_holds" "mail_holds" (defArgs (top 1)) (defBody (top 1)) (defScope (top 1)) .none kV0 dc0 pm0 an0 cd0 ct0), sl0⟩) (c0 : PySem.W.codeIn K cd0 "mail_holds" = true) (k0 : PySem.W.keepIn K (.ref a0) = true)
    (l1 : K.lookup a1 = some ⟨oc1, od1, .func (PySem.W.fnOf "_law_cell" "_law_cell" (defArgs (top 3)) (defBody (top 3)) (defScope (top 3)) .none kV1 dc1 pm1 an1 cd1 ct1), sl1⟩) (c1 : PySem.W.codeIn K cd1 "_law_cell" = true) (k1 : PySem.W.keepIn K (.ref a1) = true)
    (l2 : K.lookup a2 = some ⟨oc2, od2, .func (PySem.W.fnOf "_law_draws" "_law_draws" (defArgs (top 4)) (defBody (top 4)) (defScope (top 4)) .none kV2 dc2 pm2 an2 cd2 ct2), sl2⟩) (c2 : PySem.W.codeIn K cd2 "_law_draws" = true) (k2 : PySem.W.keepIn K (.ref a2) = true)
    (l3 : K.lookup a3 = some ⟨oc3, od3, .func (PySem.W.fnOf "_law_bend" "_law_bend" (defArgs (top 5)) (defBody (top 5)) (defScope (top 5)) .none kV3 dc3 pm3 an3 cd3 ct3), sl3⟩) (c3 : PySem.W.codeIn K cd3 "_law_bend" = true) (k3 : PySem.W.keepIn K (.ref a3) = true)
    (l4 : K.lookup a4 = some ⟨oc4, od4, .func (PySem.W.fnOf "_law_due" "_law_due" (defArgs (top 6)) (defBody (top 6)) (defScope (top 6)) .none kV4 dc4 pm4 an4 cd4 ct4), sl4⟩) (c4 : PySem.W.codeIn K cd4 "_law_due" = true) (k4 : PySem.W.keepIn K (.ref a4) = true)
    (l5 : K.lookup a5 = some ⟨oc5, od5, .func (PySem.W.fnOf "law" "law" (defArgs (top 7)) (defBody (top 7)) (defScope (top 7)) .none kV5 dc5 pm5 an5 cd5 ct5), sl5⟩) (c5 : PySem.W.codeIn K cd5 "law" = true) (k5 : PySem.W.keepIn K (.ref a5) = true)
    (z0 : PySem.W.nsIn K mainGlobals "len" = some none)
    (z1 : PySem.W.nsIn K mainGlobals "list" = some none)
    (z2 : PySem.W.nsIn K mainGlobals "range" = some none)
    (z3 : PySem.W.nsIn K mainGlobals "enumerate" = some none) :
    ∃ ca ad fd, ad[5]? = some fa ∧ Fun K d5.x d5.qual d5.st fa fd ∧ (∀ (s : Shared) (u : Value), BindsTo s fd ⟨[u], []⟩ [("_law_script", u)]) ∧ Facts tb ds mn hl ml K mg ca ad := by
  have e := hfa.symm.trans (PySem.W.mg_of KX G n5)
  cases e
  have F0 := fun_mk (st := top 1) l0 c0 k0
  have B0 := F0.binds (ps := ["written", "done"]) fun _ _ _ _ _ _ us hl => match us, hl with | [_, _], _ => rfl
  have F1 := fun_mk (st := top 3) l1 c1 k1
  have B1 := F1.binds (ps := ["_law_script", "_law_k"]) fun _ _ _ _ _ _ us hl => match us, hl with | [_, _], _ => rfl
  have F2 := fun_mk (st := top 4) l2 c2 k2
  have B2 := F2.binds (ps := ["_law_script", "_law_at", "_law_many"]) fun _ _ _ _ _ _ us hl => match us, hl with | [_, _, _], _ => rfl
  have F3 := fun_mk (st := top 5) l3 c3 k3
  have B3 := F3.binds (ps := ["_law_done", "_law_way", "_law_place"]) fun _ _ _ _ _ _ us hl => match us, hl with | [_, _, _], _ => rfl
  have F4 := fun_mk (st := top 6) l4 c4 k4
  have B4 := F4.binds (ps := ["_law_written", "_law_done"]) fun _ _ _ _ _ _ us hl => match us, hl with | [_, _], _ => rfl
  have F5 := fun_mk (st := top 7) l5 c5 k5
  have B5 := F5.binds (ps := ["_law_script"]) fun _ _ _ _ _ _ us hl => match us, hl with | [_], _ => rfl
  refine ⟨[], [a0, a1, a2, a3, a4, fa], _, rfl, F5, fun s v => .of_eq rfl, {
    cl := .nil
    nod := by decide +kernel
    noa := .nil
    ok := (.cons ok0 (.cons ok1 (.cons ok2 (.cons ok3 (.cons ok4 (.cons ok5 .nil))))))
    at_ := (.cons ⟨_, F0, B0⟩ (.cons ⟨_, F1, B1⟩ (.cons ⟨_, F2, B2⟩ (.cons ⟨_, F3, B3⟩ (.cons ⟨_, F4, B4⟩ (.cons ⟨_, F5, B5⟩ .nil))))))
    fns := (.cons ⟨_, rfl, PySem.W.mg_of KX G n0⟩ (.cons ⟨_, rfl, PySem.W.mg_of KX G n1⟩ (.cons ⟨_, rfl, PySem.W.mg_of KX G n2⟩ (.cons ⟨_, rfl, PySem.W.mg_of KX G n3⟩ (.cons ⟨_, rfl, PySem.W.mg_of KX G n4⟩ (.cons ⟨_, rfl, PySem.W.mg_of KX G n5⟩ .nil))))))
    cls := .nil
    mnm := .nil
    mts := .nil
    mno := .nil
    gcs := .nil
    blt := (.cons (PySem.W.mg_none_of KX G z0) (.cons (PySem.W.mg_none_of KX G z1) (.cons (PySem.W.mg_none_of KX G z2) (.cons (PySem.W.mg_none_of KX G z3) .nil))))
  }⟩
end G60.k32

set_option maxHeartbeats 1000000
namespace G60.k32
open PySem L2
abbrev Φ (l : Nat) : Fx := Φd ds hl ml l
theorem fn1 (l : Nat) : (Φ (l + 1)).fn 1 = runF (Φ l) ⟨2, 3, b1⟩ := rfl
theorem cell_wp {l : Nat} {ns : List Int} {k : Int} {h : Hm} {P : D → Hm → Prop} {E : EKK} (hk : 0 ≤ k) (hk2 : k < 1000000) (hP : ∀ z, P (.int z) h) : ((Φ (l + 1)).fn 1 [.scr ns, .int k] h).wp P E := by
  rw [fn1]
  refine wp_pure rfl ?_
  show (eSs _ b1 [some (.scr ns), some (.int k), none] h).wp _ _
  unfold b1
  simp [swp_cons, hP]
  refine ⟨fun hc => ?_, fun hc => ⟨mulOk1 (by omega), mulOk2 (by omega), fun h0 => ?_⟩⟩
  · obtain ⟨v, e, _⟩ := atI_mem hk hc
    exact ⟨v, e⟩
  · obtain ⟨v, e, _⟩ := atI_mem (xs := ns) (i := 0) (by omega) (by omega)
    exact ⟨v, e, mulOk1 (by omega), mulOk1 (by omega)⟩
theorem fn2 (l : Nat) : (Φ (l + 1)).fn 2 = runF (Φ l) ⟨3, 8, b2⟩ := rfl
theorem draws_wp {l : Nat} {ns : List Int} {k m : Int} {h : Hm} {P : D → Hm → Prop} {E : EKK} (hk : 0 ≤ k) (hk2 : k < 1000) (hm : 0 ≤ m) (hm2 : m < 1000) (hP : ∀ zs : List Int, (zs.length : Int) = m → (∀ z ∈ zs, 0 ≤ z) → P (.ref h.length) (h ++ [.lst (zs.map .int)])) : ((Φ (l + 2)).fn 2 [.scr ns, .int k, .int m] h).wp P E := by
  rw [fn2]
  refine wp_new rfl ?_
  show (eSs _ b2 [some (.scr ns), some (.int k), some (.int m), none, none, none, none, none] h).wp _ _
  unfold b2
  rw [swp_cons]; simp
  refine cell_wp hk (by omega) fun z => ?_
  rw [swp_cons]; simp
  refine ⟨mulOk2 (by omega), ?_⟩
  rw [swp_cons]; simp
  refine cut (fun env h' => ∃ z2, env = [some (.scr ns), some (.int k), some (.int m), some (.int z2), some (.int (z * 48271 % 2147483647)), some (.ref h.length), none, none] ∧ h' = h ++ [.lst []]) (fun N hN => ?_) ?_
  · simp [swp_cons]
    exact ⟨fun _ => hN _ _ ⟨_, rfl, rfl⟩, fun _ => hN _ _ ⟨_, rfl, rfl⟩⟩
  rintro env h' ⟨z2, rfl, rfl⟩
  refine cut (fun env h' => ∃ z2, ∃ zs : List Int, env = [some (.scr ns), some (.int k), some (.int m), some (.int z2), some (.int (z * 48271 % 2147483647)), some (.ref h.length), none, none] ∧ h' = h ++ [.lst (zs.map .int)] ∧ (zs.length : Int) ≤ m ∧ ∀ z ∈ zs, 0 ≤ z) (fun N hN => ?_) ?_
  · refine whl_wp (fun f env h' => ∃ z2, ∃ zs : List Int, env = [some (.scr ns), some (.int k), some (.int m), some (.int z2), some (.int (z * 48271 % 2147483647)), some (.ref h.length), none, none] ∧ h' = h ++ [.lst (zs.map .int)] ∧ (zs.length : Int) + f = m ∧ ∀ z ∈ zs, 0 ≤ z) m.toNat (by omega) ⟨z2, [], rfl, rfl, by simp; omega, by simp⟩ ?_
    rintro f env h' ⟨z3, zs, rfl, rfl, hf, hz⟩ M hM
    simp [swp_cons]
    refine ⟨fun h0 => ⟨fun h1 => ⟨ltSize (by omega), hM (f - 1) _ _ (by omega) ⟨_, zs ++ [z3 % 10000], rfl, by simp, by simp; omega, nn_snoc hz (by omega)⟩⟩, fun _ => hN _ _ ⟨_, zs, rfl, rfl, by omega, hz⟩⟩, fun h0 => ⟨fun h1 => by omega, fun _ => hN _ _ ⟨_, zs, rfl, rfl, by omega, hz⟩⟩⟩
  · rintro env h' ⟨z3, zs, rfl, rfl, hf, hz⟩
    refine cut (fun env h' => ∃ kv dr mv, ∃ zs : List Int, env = [some (.scr ns), some (.int k), some (.int m), some (.int z3), some (.int dr), some (.ref h.length), kv, mv] ∧ h' = h ++ [.lst (zs.map .int)] ∧ (zs.length : Int) = m ∧ ∀ z ∈ zs, 0 ≤ z) (fun N hN => ?_) ?_
    · simp
      refine ⟨rngOk (by omega), ?_⟩
      refine forL_wp (fun i env h' => ∃ kv dr mv, ∃ ys : List Int, env = [some (.scr ns), some (.int k), some (.int m), some (.int z3), some (.int dr), some (.ref h.length), kv, mv] ∧ h' = h ++ [.lst (ys.map .int)] ∧ (ys.length : Int) = zs.length + i ∧ ∀ z ∈ ys, 0 ≤ z) ⟨_, _, _, zs, rfl, rfl, by omega, hz⟩ (fun _ _ _ _ => gs_nil) ?_ ?_
      · rintro i x env h' hx ⟨kv, dr, mv, ys, rfl, rfl, hl, hy⟩
        obtain ⟨hi, rfl⟩ := rngD_at hx
        refine ⟨_, rfl, fun M hM => ?_⟩
        rw [swp_cons]; simp
        refine cell_wp (by omega) (by omega) fun w => ?_
        simp
        refine ⟨mulOk1 (by omega), ?_⟩
        simp [swp_cons]
        refine ⟨mulOk2 (by omega), mulOk2 (by omega), mulOk1 (by omega), ltSize (by omega), hM _ _ ⟨_, _, _, ys ++ [_], rfl, hsnoc, by simp; omega, nn_snoc hy (by omega)⟩⟩
      · rintro env h' ⟨kv, dr, mv, ys, rfl, rfl, hl, hy⟩
        refine hN _ _ ⟨kv, dr, mv, ys, rfl, rfl, ?_, hy⟩
        rw [hl]; simp; omega
    · rintro env h' ⟨kv, dr, mv, ys, rfl, rfl, hl, hy⟩
      simp [swp_cons]
      exact hP ys hl hy
theorem fn0 (l : Nat) : (Φ (l + 1)).fn 0 = runF (Φ l) ⟨2, 2, b0⟩ := rfl
theorem fn3 (l : Nat) : (Φ (l + 1)).fn 3 = runF (Φ l) ⟨3, 4, b3⟩ := rfl
theorem fn4 (l : Nat) : (Φ (l + 1)).fn 4 = runF (Φ l) ⟨2, 4, b4⟩ := rfl
theorem fn5 (l : Nat) : (Φ (l + 1)).fn 5 = runF (Φ l) ⟨1, 6, b5⟩ := rfl
/-- the items that the law makes -/
def It (d : D) : Prop := ∃ a b, d = .tup [.str "hand", .int a, b] ∧ (b = .non ∨ ∃ i, b = .int i)
theorem It.pl {d : D} (i : It d) : pl 59 d = true := by
  obtain ⟨a, b, rfl, rfl | ⟨i, rfl⟩⟩ := i <;> (simp [G60.pl]; decide +kernel)
theorem its_pl {xs : List D} (h : ∀ x ∈ xs, It x) : xs.all (pl 59) = true := List.all_eq_true.mpr fun x hx => (h x hx).pl
theorem its_pl' {xs : List D} (h : ∀ x ∈ xs, It x) : xs.all (pl 58) = true := List.all_eq_true.mpr fun x hx => by
  obtain ⟨a, b, rfl, rfl | ⟨i, rfl⟩⟩ := h x hx <;> (simp [G60.pl]; decide +kernel)
theorem bend_wp {l : Nat} {w p : Int} {h : Hm} {r : Nat} {xs : List D} {P : D → Hm → Prop} {E : EKK} (hr : h[r]? = some (.lst xs)) (hp : 0 ≤ p) (hp2 : p < xs.length) (hx : xs.length < 1000) (hi : ∀ x ∈ xs, It x)
    (hP : ∀ ys : List D, ys.length < 1001 → (∀ y ∈ ys, It y) → P .non (h.set r (.lst ys))) : ((Φ (l + 1)).fn 3 [.ref r, .int w, .int p] h).wp P E := by
  rw [fn3]
  refine wp_same rfl ?_
  show (eSs _ b3 [some (.ref r), some (.int w), some (.int p), none] h).wp _ _
  unfold b3
  have ixp : ixN xs.length p = some p.toNat := ixN_in hp hp2
  have hpn : p.toNat < xs.length := by omega
  have hat : atI xs p = some xs[p.toNat] := (atI_in hp hp2).2
  have cell := cell_set hr
  have hh : ∀ a : Int, It (.tup [.str "hand", .int a, .non]) := fun a => ⟨a, .non, rfl, .inl rfl⟩
  have hat0 : atI xs 0 = some xs[0] := (atI_in (i := 0) (by omega) (by omega)).2
  by_cases w1 : w = 1
  · subst w1; simp [swp_cons, hr, ixp]
    refine ⟨by decide, hP _ (by simp; omega) fun y hy => ?_⟩
    rcases List.mem_or_eq_of_mem_set hy with q | rfl
    · exact hi y q
    · exact hh _
  by_cases w2 : w = 2
  · subst w2; simp [swp_cons, hr, ixp]
    exact ⟨⟨_, List.getElem?_eq_getElem hpn⟩, hP _ (by have := List.length_eraseIdx_le xs p.toNat; omega) fun y hy => hi y (List.mem_of_mem_eraseIdx hy)⟩
  by_cases w3 : w = 3
  · subst w3; simp [swp_cons, hr, hat, hp]
    refine ⟨⟨by omega, ltSize (by omega)⟩, hP _ (by simp; omega) fun y hy => ?_⟩
    rcases List.mem_append.mp hy with q | q
    · exact hi y (List.mem_of_mem_take q)
    · rcases List.mem_cons.mp q with rfl | q
      · exact hi _ (List.getElem_mem hpn)
      · exact hi y (List.mem_of_mem_drop q)
  by_cases w4 : w = 4
  · subst w4
    have ix0 : ixN xs.length 0 = some 0 := ixN_in (by omega) (by omega)
    simp [swp_cons, hr, hat, hat0, cell, ixp, ix0]
    refine hP _ (by simp; omega) fun y hy => ?_
    rcases List.mem_or_eq_of_mem_set hy with q | rfl
    · rcases List.mem_or_eq_of_mem_set q with q | rfl
      · exact hi y q
      · exact hi _ (List.getElem_mem _)
    · exact hi _ (List.getElem_mem _)
  by_cases w5 : w = 5
  · subst w5; simp [swp_cons, hr]
    refine ⟨by decide, ltSize (by omega), hP _ (by simp; omega) fun y hy => ?_⟩
    rcases List.mem_append.mp hy with q | q
    · exact hi y q
    · simp at q; rw [q]; exact hh _
  by_cases w6 : w = 6
  · subst w6; simp [swp_cons, hr]
    exact hP _ (by simp; omega) fun y hy => hi y (List.mem_reverse.mp hy)
  simp [swp_cons, hr, w1, w2, w3, w4, w5, w6]
  have := hP xs (by omega) hi
  rw [set_keep hr] at this
  exact this
theorem due_wp {l : Nat} {h : Hm} {r s : Nat} {xs ys : List D} {P : D → Hm → Prop} {E : EKK} (hr : h[r]? = some (.lst xs)) (hs : h[s]? = some (.lst ys)) (hx : ∀ x ∈ xs, It x) (hy : ∀ x ∈ ys, It x)
    (hP : P (.bl (decide (ys.length ≤ xs.length) && decide (ys = xs.take ys.length))) h) : ((Φ (l + 1)).fn 4 [.ref r, .ref s] h).wp P E := by
  rw [fn4]
  refine wp_pure rfl ?_
  show (eSs _ b4 [some (.ref r), some (.ref s), none, none] h).wp _ _
  unfold b4
  refine cut (fun env h' => env = [some (.ref r), some (.ref s), none, none] ∧ h' = h ∧ ys.length ≤ xs.length) (fun N hN => ?_) ?_
  · simp [swp_cons, hr, hs]
    refine ⟨fun hc => ?_, fun hc => hN _ _ ⟨rfl, rfl, hc⟩⟩
    rw [decide_eq_false (by omega)] at hP
    exact hP
  · rintro env h' ⟨rfl, rfl, hl⟩
    refine cut (fun env h'' => ∃ a b, env = [some (.ref r), some (.ref s), a, b] ∧ h'' = h' ∧ ys = xs.take ys.length) (fun N hN => ?_) ?_
    · simp [hs]
      refine forL_wp (fun i env h'' => ∃ a b, env = [some (.ref r), some (.ref s), a, b] ∧ h'' = h' ∧ ys.take i = xs.take i) ⟨_, _, rfl, rfl, rfl⟩ (fun _ _ _ ⟨_, _, _, e, _⟩ => gs_one (by rw [e]; exact hs)) ?_ ?_
      · rintro i x env h'' hx' ⟨a, b, rfl, rfl, ht⟩
        obtain ⟨y, hy', rfl⟩ := enumD_at hx'
        have hli : i < ys.length := (List.getElem?_eq_some_iff.mp hy').1
        have hxi : xs[i]? = some xs[i] := List.getElem?_eq_getElem (by omega)
        have iy := (hy y (List.mem_of_getElem? hy')).pl
        have ix := (hx _ (List.getElem_mem (h := (by omega : i < xs.length)))).pl
        refine ⟨_, rfl, fun M hM => ?_⟩
        rw [Nat.zero_add]
        simp [swp_cons, hr, atI_nat hxi, wp_neP (pl_mono ix (by omega : 59 ≤ 60)) (pl_mono iy (by omega : 59 ≤ 60))]
        refine ⟨fun hc => ?_, fun hc => hM _ _ ⟨_, _, rfl, rfl, by rw [take_succ_at hy', take_succ_at hxi, ht, hc]⟩⟩
        rw [decide_eq_false (p := ys = xs.take ys.length), Bool.and_false] at hP
        · exact hP
        · intro e
          rw [e, List.getElem?_take_of_lt hli, hxi] at hy'
          exact hc (Option.some.inj hy')
      · rintro env h'' ⟨a, b, rfl, rfl, ht⟩
        rw [enumD_len, List.take_length] at ht
        exact hN _ _ ⟨a, b, rfl, rfl, ht⟩
    · rintro env h'' ⟨a, b, rfl, rfl, ht⟩
      simp [swp_cons]
      rw [decide_eq_true hl, decide_eq_true ht] at hP
      exact hP
theorem mail_wp {l : Nat} {h : Hm} {r s : Nat} {xs ys : List D} {P : D → Hm → Prop} {E : EKK} (hr : h[r]? = some (.lst xs)) (hs : h[s]? = some (.lst ys)) (hx : ∀ x ∈ xs, It x) (hy : ∀ x ∈ ys, It x)
    (hP : P (.bl (decide (ys.length ≤ xs.length) && decide (ys = xs.take ys.length))) h) : ((Φ (l + 1)).fn 0 [.ref r, .ref s] h).wp P E := by
  rw [fn0]
  refine wp_pure rfl ?_
  show (eSs _ b0 [some (.ref r), some (.ref s)] h).wp _ _
  unfold b0
  simp [swp_cons, hr, hs, at_old hr, at_old hs]
  refine ⟨fun hc => ?_, fun hc => ?_⟩
  · rw [wp_eqL (xs := ys) (ys := xs.take ys.length) (by simp) (by simp [Nat.add_assoc, cutD_to]) (its_pl hy) (its_pl fun x h => hx x (List.mem_of_mem_take h))]
    simp
    rw [decide_eq_true hc, Bool.true_and] at hP
    exact hP
  · rw [decide_eq_false (by omega : ¬ ys.length ≤ xs.length)] at hP ⊢
    exact hP
theorem pure (ns : List Int) (hn : ns.length ≤ 63) : ∃ h', (Φ (3 + 1)).fn 5 [.scr ns] [] = .ok (.bl true) h' := by
  suffices z : ((Φ (3 + 1)).fn 5 [.scr ns] []).wp (fun d _ => d = .bl true) (fun _ _ _ => False) by
    obtain ⟨d, h', e, rfl⟩ := z.ok
    exact ⟨h', e⟩
  rw [fn5]
  refine wp_pure rfl ?_
  show (eSs _ b5 [some (.scr ns), none, none, none, none, none] []).wp _ _
  unfold b5
  rw [swp_cons]
  simp
  refine cell_wp (by omega) (by omega) fun z => ?_
  simp
  refine draws_wp (by omega) (by omega) (by omega) (by omega) fun zs hl hz => ?_
  simp
  have hzl : zs.length ≤ 20 := by omega
  refine compL_map (fun d => match d with | .int z => .tup [.str "hand", .int (z % 5), .int (z / 5 % 3)] | d => d) rfl (by simp; omega) (fun c => gs_one rfl) (fun x hx c => ?_) ?_
  · obtain ⟨z, hz, rfl⟩ := List.mem_map.mp hx
    simp
    exact leSize (by decide)
  obtain ⟨W, hW⟩ : ∃ W : List D, W = zs.map (fun z => .tup [.str "hand", .int (z % 5), .int (z / 5 % 3)]) := ⟨_, rfl⟩
  have iW : ∀ x ∈ W, It x := fun x hx => by
    rw [hW] at hx
    obtain ⟨z, hz, rfl⟩ := List.mem_map.mp hx
    exact ⟨_, _, rfl, .inr ⟨_, rfl⟩⟩
  have lW : W.length ≤ 20 := by rw [hW]; simp; omega
  have eW : List.map (fun d => match d with | .int z => .tup [.str "hand", .int (z % 5), .int (z / 5 % 3)] | d => d) (zs.map D.int) = W := by rw [hW, List.map_map]; rfl
  rw [eW]
  clear eW hW
  simp
  rw [swp_cons]
  simp
  refine cell_wp (by omega) (by omega) fun z2 => ?_
  simp
  rw [cutD_to (Int.emod_nonneg _ (by omega))]
  obtain ⟨Y, hY⟩ : ∃ Y : List D, Y = W.take (z2 % (↑W.length + 1)).toNat := ⟨_, rfl⟩
  rw [← hY]
  have iY : ∀ x ∈ Y, It x := fun x hx => iW x (by rw [hY] at hx; exact List.mem_of_mem_take hx)
  have lY : Y.length ≤ 20 := by rw [hY]; rw [List.length_take]; omega
  clear hY
  refine cut (fun env h' => ∃ X, env = [some (.scr ns), some (.ref 1), some (.ref 2), none, none, none] ∧ h' = [.lst (zs.map .int), .lst W, .lst X] ∧ X.length < 1001 ∧ ∀ x ∈ X, It x) (fun N hN => ?_) ?_
  · simp [swp_cons]
    refine ⟨fun hc => ?_, fun hc => hN _ _ ⟨Y, rfl, rfl, by omega, iY⟩⟩
    refine cell_wp (by omega) (by omega) fun z3 => ?_
    simp
    refine cell_wp (by omega) (by omega) fun z4 => ?_
    simp
    refine ⟨hc, bend_wp rfl (Int.emod_nonneg _ (by omega)) (Int.emod_lt_of_pos _ (by omega)) (by omega) iY fun X lX iX => ?_⟩
    exact hN _ _ ⟨X, rfl, rfl, lX, iX⟩
  · rintro env h' ⟨X, rfl, rfl, lX, iX⟩
    rw [swp_cons]
    simp
    refine ⟨leSize (by decide), ?_⟩
    rw [swp_cons]
    simp
    refine mail_wp (xs := W) (ys := X) rfl rfl iW iX ?_
    obtain ⟨B, hB⟩ : ∃ B, B = (decide (X.length ≤ W.length) && decide (X = W.take X.length)) := ⟨_, rfl⟩
    rw [← hB]
    have two : (opCmp .Eq (.ref 6) (.ref 5) [.lst (zs.map .int), .lst W, .lst X, .lst W, .lst X, .lst [.ref 3, .ref 4], .lst [.ref 1, .ref 2]]).wp (fun d _ => d = .bl true) fun _ _ _ => False := by
      rw [wp_eq]
      refine ⟨.list [.list (W.map pyD), .list (X.map pyD)], _, toPy_refs rfl (mapO_two (toPy_lst rfl (its_pl' iW)) (toPy_lst rfl (its_pl' iX))), toPy_refs rfl (mapO_two (toPy_lst rfl (its_pl' iW)) (toPy_lst rfl (its_pl' iX))), ?_⟩
      simp [PyData.eqv, PyData.eqvAll, eqvAll_pl (its_pl' iW) (its_pl' iW), eqvAll_pl (its_pl' iX) (its_pl' iX)]
    simp [swp_cons]
    have go : ∀ (P : D → Hm → Prop), P (.bl B) [.lst (zs.map .int), .lst W, .lst X, .lst W, .lst X, .lst [.ref 3, .ref 4]] → ((Φ 3).fn 4 [.ref 3, .ref 4] [.lst (zs.map .int), .lst W, .lst X, .lst W, .lst X, .lst [.ref 3, .ref 4]]).wp P fun _ _ _ => False := fun P hP => due_wp (xs := W) (ys := X) rfl rfl iW iX (by rw [← hB]; exact hP)
    have last : ∀ b, B = b → ((Φ 3).fn 4 [.ref 3, .ref 4] [.lst (zs.map .int), .lst W, .lst X, .lst W, .lst X, .lst [.ref 3, .ref 4]]).wp (fun y h2 => (opCmp .Eq (.bl B) y h2).wp (fun x h1 => (truth x h1).wp (fun t h2 => (t = true → 2 ≤ sizeLine ∧ (opCmp .Eq (.ref h2.length) (.ref 5) (h2 ++ [.lst [.ref 1, .ref 2]])).wp (fun d h' => D.lo 0 d = true ∧ d = .bl true) fun _ _ _ => False) ∧ (t = false → D.lo 0 x = true ∧ x = .bl true)) fun _ _ _ => False) fun _ _ _ => False) fun _ _ _ => False := fun b hb => by
      refine go _ ?_
      simp
      exact ⟨leSize (by decide), two.mono fun d _ e => by subst e; exact ⟨rfl, rfl⟩⟩
    exact ⟨fun hb => ⟨hb, fun _ => last _ hb⟩, fun hb => ⟨hb, fun _ => last _ hb⟩⟩
end G60.k32

open PySem PySem.W PyProof.Rows
set_option maxRecDepth 100000 in
set_option maxHeartbeats 0 in
theorem PySem.Challenge.cw_heldafar_k32_mail_holds_holds : PySem.Challenge.rw_heldafar_k32_mail_holds.Holds := by
  w_on; o_law; k_head; (case hw => w_witness2)
  k_fill
  refine G60.law_walk (l := PySem.Challenge.rw_heldafar_k32_mail_holds) 3 5 (d := G60.k32.d5) (x := "_law_script") (t := G60.k32.tb) (ds := G60.k32.ds) (mn := G60.k32.mn) (hl := G60.k32.hl) (ml := G60.k32.ml) rfl rfl ⟨rfl, by decide, by decide⟩ (fun w h Y => PySem.W.kIn_of Y) rfl rfl ?F G60.k32.pure
  case F =>
    intro w mg fa h KX G hmg
    refine' G60.k32.facts KX G hmg ?n0 ?n1 ?n2 ?n3 ?n4 ?n5 ?l0 ?c0 ?k0 ?l1 ?c1 ?k1 ?l2 ?c2 ?k2 ?l3 ?c3 ?k3 ?l4 ?c4 ?k4 ?l5 ?c5 ?k5 ?z0 ?z1 ?z2 ?z3
    (case n0 => k_is)
    (case n1 => k_is)
    (case n2 => k_is)
    (case n3 => k_is)
    (case n4 => k_is)
    (case n5 => k_is)
    (case l0 => k_is)
    (case c0 => k_is)
    (case k0 => k_is)
    (case l1 => k_is)
    (case c1 => k_is)
    (case k1 => k_is)
    (case l2 => k_is)
    (case c2 => k_is)
    (case k2 => k_is)
    (case l3 => k_is)
    (case c3 => k_is)
    (case k3 => k_is)
    (case l4 => k_is)
    (case c4 => k_is)
    (case k4 => k_is)
    (case l5 => k_is)
    (case c5 => k_is)
    (case k5 => k_is)
    (case z0 => k_is)
    (case z1 => k_is)
    (case z2 => k_is)
    (case z3 => k_is)
