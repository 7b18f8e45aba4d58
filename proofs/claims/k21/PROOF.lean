import PyProof.Rows.All
import Wide.All
import OpenK.AllK
import Wide.FinOn
import HandS.ForMost
import HandS.ForExc
import HandS.IsInst
import HandS.Wide
import HandS.TryMany
import HandS.Defaults
import HandS.CallLocal
import HandS.Lambda
import HandS.TupAny
import HandS.TupMul
import HandS.Style
import HandS.TupLe
import HandS.Walk
import HandS.Deep
import HandS.Strs
import HandS.StrMore
import HandS.CallSlots
import HandS.SortInts
import HandS.Zip
import KE.KExcSuper
import KE.KSuper
import HandS.RaiseFrom
import KE.GoesMore
import KE.GoesEnum
import HandS.EndOwn
import PySem.Challenge.RW_whateverisput_k21_whole_counters
set_option Elab.async false
set_option linter.all false
set_option maxRecDepth 100000
/-! L3: pure data over the hand layer. -/
namespace L3
open PySem PySem.Spec PyProof.Rows L2

/-! ### data -/
inductive D where
  | non | bl (b : Bool) | int (i : Int) | str (x : Str) | tup (xs : List D) | lst (xs : List D) | dic (ks vs : List D) | fn (x : Str) | deal | scr (ns : List Int)
/-- a source of draws: the great cells, the blend -/
structure DS where
  ns : List Int
  b : Int
/-- an error of the package: the class's name, what it keeps -/
structure Xc where
  cls : Str
  at_ : D
inductive R (α : Type) where
  | ok (a : α) (s : DS) | exc (x : Xc) (s : DS) | bad
/-- what a slot holds: data, or a list that the slot alone holds -/
inductive B where
  | d (x : D) | o (xs : List D)
abbrev Env3 := List (Option B)
abbrev G := Env3 → DS → R D
abbrev GL := Env3 → DS → R (List D)
abbrev GT := Env3 → DS → R Bool
inductive Out where
  | nx (ρ : Env3) | rt (d : D) | bk (ρ : Env3) | ct (ρ : Env3) | ex (x : Xc) (ρ : Env3)
abbrev GS := Env3 → DS → R Out

/-! ### how data lies in the heap -/
/-- what a piece of text is run over: the written part, the module's names, the addresses that may be written -/
structure Sta where
  K : PySem.W.Frag
  mg : Str → Option Value
  dl : Option (Addr × Addr)
  F0 : Addr → Prop
  H0 : Hp
  T : List (Addr × Str)
def Sta.G (Γ : Sta) : Addr → Prop := fun a => match Γ.dl with | some (p, q) => a = p ∨ a = q | none => False

/-- the script at a -/
def NdS (K : PySem.W.Frag) (F : Addr → Prop) (H : Hp) (a : Addr) (ns : List Int) : Prop := (Rd H a (.lst (ns.map V.int)) ∧ ¬ F a) ∨ ∃ (o : Obj) (its : Array Value) (n : Nat), K.lookup a = some o ∧ o.cls = .type "list" ∧ o.dict = none ∧ o.data = .seq its n ∧ its.size ≤ sizeLine ∧ Vals (ns.map V.int) its.toList
/-- a node at a that is not written later -/
def NdL (F : Addr → Prop) (H : Hp) (a : Addr) (xs : List V) : Prop := H a = some (.lst xs) ∧ ¬ F a
def NdT (K : PySem.W.Frag) (F : Addr → Prop) (H : Hp) (a : Addr) (xs : List V) : Prop :=
  SqT K H a xs ∧ (F a → ∃ (o : Obj) (its : Array Value) (n : Nat), K.lookup a = some o ∧ o.cls = .type "tuple" ∧ o.data = .seq its n ∧ its.size ≤ sizeLine ∧ Vals xs its.toList)
/-- a dict's key, as data -/
def kD : Key → D | .inl i => .int i | .inr x => .str x
mutual
inductive Rep (Γ : Sta) (F : Addr → Prop) (H : Hp) : V → D → Prop
  | non : Rep Γ F H .non .non
  | bl (b : Bool) : Rep Γ F H (.bl b) (.bl b)
  | int (i : Int) : Rep Γ F H (.int i) (.int i)
  | str (x : Str) : Rep Γ F H (.str x) (.str x)
  | lst {a : Addr} {xs : List V} {ds : List D} : NdL F H a xs → Reps Γ F H xs ds → Rep Γ F H (.ref a) (.lst ds)
  | tup {a : Addr} {xs : List V} {ds : List D} : NdT Γ.K F H a xs → Reps Γ F H xs ds → Rep Γ F H (.ref a) (.tup ds)
  | fn {a : Addr} {x : Str} : Γ.mg x = some (.ref a) → Rep Γ F H (.ref a) (.fn x)
  | deal {p q : Addr} : Γ.dl = some (p, q) → Rep Γ F H (.ref p) .deal
  | dic {a : Addr} {kvs : List (Key × V)} {vs : List D} : H a = some (.dK kvs) → ¬ F a → Reps Γ F H (kvs.map (·.2)) vs → Rep Γ F H (.ref a) (.dic (kvs.map fun kv => kD kv.1) vs)
  | scr {a : Addr} {ns : List Int} : NdS Γ.K F H a ns → Rep Γ F H (.ref a) (.scr ns)
inductive Reps (Γ : Sta) (F : Addr → Prop) (H : Hp) : List V → List D → Prop
  | nil : Reps Γ F H [] []
  | cons {v : V} {vs : List V} {d : D} {ds : List D} : Rep Γ F H v d → Reps Γ F H vs ds → Reps Γ F H (v :: vs) (d :: ds)
end
/-- from H on H' holds all that stands, but what may be written; tables stay tables -/
def Grow (W : Addr → Prop) (H H' : Hp) : Prop := ∀ a o, H a = some o → ¬ W a → H' a = some o ∨ ∃ ps ps', o = .tbl ps ∧ H' a = some (.tbl ps')
/-- the writable addresses are old ones or new ones -/
def Newer (F : Addr → Prop) (H : Hp) (F' : Addr → Prop) : Prop := ∀ a, F' a → F a ∨ H a = none
theorem Grow.at_ {W : Addr → Prop} {H H' : Hp} (g : Grow W H H') {a : Addr} {o : HO} (h : H a = some o) (n : ¬ W a) (t : ∀ ps, o ≠ .tbl ps) : H' a = some o :=
  (g a o h n).elim id fun ⟨ps, _, e, _⟩ => (t ps e).elim
theorem Grow.there {W : Addr → Prop} {H H' : Hp} (g : Grow W H H') {a : Addr} {o : HO} (h : H a = some o) (n : ¬ W a) : ∃ u, H' a = some u :=
  (g a o h n).elim (fun e => ⟨o, e⟩) fun ⟨_, ps', _, e⟩ => ⟨.tbl ps', e⟩
theorem Grow.refl (W : Addr → Prop) (H : Hp) : Grow W H H := fun _ _ h _ => .inl h
theorem Grow.trans {W : Addr → Prop} {H H1 H2 : Hp} (a : Grow W H H1) (b : Grow W H1 H2) : Grow W H H2 := fun c o h n => by
  rcases a c o h n with e | ⟨ps, ps', rfl, e⟩
  · exact b c o e n
  · rcases b c _ e n with e2 | ⟨qs, qs', e1, e2⟩
    · exact .inr ⟨ps, ps', rfl, e2⟩
    · exact .inr ⟨ps, qs', rfl, e2⟩
theorem Grow.mono {W W' : Addr → Prop} {H H' : Hp} (g : Grow W H H') (h : ∀ a, W a → W' a) : Grow W' H H' := fun c o e n => g c o e (fun z => n (h c z))
theorem Grow.new {W : Addr → Prop} {H : Hp} {p : Addr} {o : HO} (h : H p = none) : Grow W H (upd H p o) := fun a u e _ => by
  rw [upd_ne (ne_of_none e h)]; exact .inl e
theorem Grow.same {W : Addr → Prop} {H H' : Hp} (h : ∀ a o, H a = some o → H' a = some o) : Grow W H H' := fun a o e _ => .inl (h a o e)
theorem Grow.write {W : Addr → Prop} {H : Hp} {p : Addr} {o : HO} (h : W p) : Grow W H (upd H p o) := fun a u e n => by
  rw [upd_ne (fun z => n (by rw [z]; exact h))]; exact .inl e
theorem Grow.step {F F1 : Addr → Prop} {H H1 H2 : Hp} (a : Grow F H H1) (n : Newer F H F1) (b : Grow F1 H1 H2) : Grow F H H2 := fun c o h nf => by
  have nf1 : ¬ F1 c := fun z => (n c z).elim nf fun e => by rw [e] at h; cases h
  rcases a c o h nf with e | ⟨ps, ps', rfl, e⟩
  · exact b c o e nf1
  · rcases b c _ e nf1 with e2 | ⟨qs, qs', e1, e2⟩
    · exact .inr ⟨ps, ps', rfl, e2⟩
    · exact .inr ⟨ps, qs', rfl, e2⟩
theorem Newer.refl (F : Addr → Prop) (H : Hp) : Newer F H F := fun _ h => .inl h
theorem Newer.trans {F F1 F2 : Addr → Prop} {H H1 : Hp} (a : Newer F H F1) (g : Grow F H H1) (b : Newer F1 H1 F2) : Newer F H F2 := fun c h => by
  rcases b c h with z | z
  · exact a c z
  · by_cases f : F c
    · exact .inl f
    · refine .inr ?_
      cases e : H c with
      | none => rfl
      | some o =>
        obtain ⟨u, q⟩ := g.there e f
        rw [q] at z; cases z

theorem rd_mono {F : Addr → Prop} {H H' : Hp} {a : Addr} {u : HO} (g : Grow F H H') (nf : ¬ F a) (hu : ∀ ps, u ≠ .tbl ps) (h : Rd H a u) : Rd H' a u := by
  rcases h with h | ⟨o, h⟩
  · exact .inl (g.at_ h nf hu)
  · exact .inr ⟨o, g.at_ h nf (fun ps z => by cases z)⟩
theorem rd_some {H : Hp} {a : Addr} {u : HO} (h : Rd H a u) : H a ≠ none := by
  rcases h with h | ⟨o, h⟩ <;> (rw [h]; intro z; cases z)
theorem NdL.mono {F F' : Addr → Prop} {H H' : Hp} {a : Addr} {xs : List V} (g : Grow F H H') (n : Newer F H F') (h : NdL F H a xs) : NdL F' H' a xs :=
  ⟨g.at_ h.1 h.2 (fun ps z => by cases z), fun z => (n a z).elim h.2 fun e => by rw [h.1] at e; cases e⟩
theorem NdT.mono {K : PySem.W.Frag} {F F' : Addr → Prop} {H H' : Hp} {a : Addr} {xs : List V} (g : Grow F H H') (n : Newer F H F') (h : NdT K F H a xs) : NdT K F' H' a xs := by
  obtain ⟨h1, h2⟩ := h
  by_cases f : F a
  · exact ⟨.inr (h2 f), fun _ => h2 f⟩
  · rcases h1 with h1 | h1
    · exact ⟨.inl (rd_mono g f (fun ps z => by cases z) h1), fun z => ((n a z).elim f (rd_some h1)).elim⟩
    · exact ⟨.inr h1, fun _ => h1⟩
theorem NdS.mono {K : PySem.W.Frag} {F F' : Addr → Prop} {H H' : Hp} {a : Addr} {ns : List Int} (g : Grow F H H') (n : Newer F H F') (h : NdS K F H a ns) : NdS K F' H' a ns := by
  rcases h with ⟨h, f⟩ | h
  · exact .inl ⟨rd_mono g f (fun ps z => by cases z) h, fun z => ((n a z).elim f (rd_some h)).elim⟩
  · exact .inr h
section
variable {Γ : Sta} {F F' : Addr → Prop} {H H' : Hp}
mutual
theorem Rep.mono (g : Grow F H H') (n : Newer F H F') : ∀ {v : V} {d : D}, Rep Γ F H v d → Rep Γ F' H' v d
  | _, _, .non => .non
  | _, _, .bl b => .bl b
  | _, _, .int i => .int i
  | _, _, .str x => .str x
  | _, _, .lst h r => .lst (h.mono g n) (Reps.mono g n r)
  | _, _, .tup h r => .tup (h.mono g n) (Reps.mono g n r)
  | _, _, .fn h => .fn h
  | _, _, .deal h => .deal h
  | _, _, .dic h nf r => .dic (g.at_ h nf (fun ps z => by cases z)) (fun z => (n _ z).elim nf fun e => by rw [h] at e; cases e) (Reps.mono g n r)
  | _, _, .scr h => .scr (h.mono g n)
theorem Reps.mono (g : Grow F H H') (n : Newer F H F') : ∀ {vs : List V} {ds : List D}, Reps Γ F H vs ds → Reps Γ F' H' vs ds
  | _, _, .nil => .nil
  | _, _, .cons r t => .cons (Rep.mono g n r) (Reps.mono g n t)
end
/-- fewer writable addresses -/
theorem Rep.less (h : ∀ a, F' a → F a) {v : V} {d : D} (r : Rep Γ F H v d) : Rep Γ F' H v d := r.mono (Grow.refl _ _) fun a z => .inl (h a z)
theorem Reps.less (h : ∀ a, F' a → F a) {v : List V} {d : List D} (r : Reps Γ F H v d) : Reps Γ F' H v d := r.mono (Grow.refl _ _) fun a z => .inl (h a z)
theorem Reps.length : ∀ {vs : List V} {ds : List D}, Reps Γ F H vs ds → vs.length = ds.length
  | _, _, .nil => rfl
  | _, _, .cons _ t => congrArg (· + 1) (Reps.length t)
theorem Reps.get : ∀ {vs : List V} {ds : List D} {i : Nat} {d : D}, Reps Γ F H vs ds → ds[i]? = some d → ∃ v, vs[i]? = some v ∧ Rep Γ F H v d
  | _, _, _, _, .nil, e => by simp at e
  | _, _, 0, _, .cons r _, e => by simp at e; subst e; exact ⟨_, rfl, r⟩
  | _, _, i + 1, d, .cons _ t, e => by
    obtain ⟨u, h1, h2⟩ := Reps.get (i := i) (d := d) t (by simpa using e)
    exact ⟨u, by simpa using h1, h2⟩
theorem Reps.getV : ∀ {vs : List V} {ds : List D} {i : Nat} {v : V}, Reps Γ F H vs ds → vs[i]? = some v → ∃ d, ds[i]? = some d ∧ Rep Γ F H v d
  | _, _, _, _, .nil, e => by simp at e
  | _, _, 0, _, .cons r _, e => by simp at e; subst e; exact ⟨_, rfl, r⟩
  | _, _, i + 1, d, .cons _ t, e => by
    obtain ⟨u, h1, h2⟩ := Reps.getV (i := i) (v := d) t (by simpa using e)
    exact ⟨u, by simpa using h1, h2⟩
theorem Reps.append : ∀ {vs ws : List V} {ds es : List D}, Reps Γ F H vs ds → Reps Γ F H ws es → Reps Γ F H (vs ++ ws) (ds ++ es)
  | _, _, _, _, .nil, s => s
  | _, _, _, _, .cons r t, s => .cons r (Reps.append t s)
theorem Reps.take : ∀ {vs : List V} {ds : List D} (n : Nat), Reps Γ F H vs ds → Reps Γ F H (vs.take n) (ds.take n)
  | _, _, 0, _ => .nil
  | _, _, _ + 1, .nil => .nil
  | _, _, n + 1, .cons r t => .cons r (Reps.take n t)
theorem Reps.drop : ∀ {vs : List V} {ds : List D} (n : Nat), Reps Γ F H vs ds → Reps Γ F H (vs.drop n) (ds.drop n)
  | _, _, 0, r => r
  | _, _, _ + 1, .nil => .nil
  | _, _, n + 1, .cons _ t => Reps.drop n t
theorem Reps.reverse : ∀ {vs : List V} {ds : List D}, Reps Γ F H vs ds → Reps Γ F H vs.reverse ds.reverse
  | _, _, .nil => .nil
  | _, _, .cons r t => by
    rw [List.reverse_cons, List.reverse_cons]
    exact Reps.append (Reps.reverse t) (.cons r .nil)
theorem Reps.set {v : V} {d : D} (r : Rep Γ F H v d) : ∀ {vs : List V} {ds : List D} (i : Nat), Reps Γ F H vs ds → Reps Γ F H (vs.set i v) (ds.set i d)
  | _, _, _, .nil => .nil
  | _, _, 0, .cons _ t => .cons r t
  | _, _, i + 1, .cons q t => .cons q (Reps.set r i t)
end

/-! ### the state -/
abbrev Sl := L2.St
def DealAt (Γ : Sta) (H : Hp) (s : DS) : Prop := match Γ.dl with
  | some (p, q) => p ≠ q ∧ H p = some (.lst [V.ref q, V.int s.b]) ∧ H q = some (.lst (s.ns.map V.int))
  | none => True
def SlotR (Γ : Sta) (F : Addr → Prop) (H : Hp) (σ : Sl) (i : Nat) : B → Prop
  | .d d => ∃ v, σ[i]? = some (some v) ∧ Rep Γ F H v d
  | .o ds => ∃ a vs, σ[i]? = some (some (V.ref a)) ∧ F a ∧ ¬ Γ.F0 a ∧ Γ.H0 a = none ∧ H a = some (.lst vs) ∧ Reps Γ F H vs ds
structure SR (Γ : Sta) (F : Addr → Prop) (ρ : Env3) (s : DS) (σ : Sl) (H : Hp) : Prop where
  grow : Grow Γ.G Γ.H0 H
  sub : ∀ a, Γ.F0 a → F a
  gsub : ∀ a, Γ.G a → Γ.F0 a
  fresh : ∀ a, F a → Γ.F0 a ∨ Γ.H0 a = none
  alloc : ∀ a, F a → ∃ o, H a = some o
  deal : DealAt Γ H s
  tabs : LamX.Tabs Γ.T H
  slots : ∀ i b, ρ[i]? = some (some b) → SlotR Γ F H σ i b
  inj : ∀ (i j : Nat) (xs ys : List D) (a : Addr), ρ[i]? = some (some (.o xs)) → ρ[j]? = some (some (.o ys)) → σ[i]? = some (some (V.ref a)) → σ[j]? = some (some (V.ref a)) → i = j
section
variable {Γ : Sta} {F F' : Addr → Prop} {ρ : Env3} {s s' : DS} {σ : Sl} {H H' : Hp}
theorem DealAt.there (h : DealAt Γ H s) {a : Addr} (g : Γ.G a) : ∃ xs, H a = some (.lst xs) := by
  unfold DealAt at h; unfold Sta.G at g
  split at h
  · rename_i p q e
    rw [e] at g
    rcases g with rfl | rfl
    · exact ⟨_, h.2.1⟩
    · exact ⟨_, h.2.2⟩
  · rename_i e
    rw [e] at g
    exact g.elim
theorem DealAt.keep (h : DealAt Γ H s) (k : ∀ a xs, Γ.G a → H a = some (.lst xs) → H' a = some (.lst xs)) : DealAt Γ H' s := by
  unfold DealAt at h ⊢
  split at h
  · rename_i p q e
    have hp : Γ.G p := by unfold Sta.G; rw [e]; exact .inl rfl
    have hq : Γ.G q := by unfold Sta.G; rw [e]; exact .inr rfl
    exact ⟨h.1, k _ _ hp h.2.1, k _ _ hq h.2.2⟩
  · trivial
theorem SlotR.mono {i : Nat} {b : B} (h : SlotR Γ F H σ i b) (g : Grow Γ.G H H') (gs : ∀ a, Γ.G a → Γ.F0 a) (sub : ∀ a, Γ.F0 a → F a) : SlotR Γ F H' σ i b := by
  have gF : Grow F H H' := g.mono fun a z => sub a (gs a z)
  cases b with
  | d d => obtain ⟨v, h1, h2⟩ := h; exact ⟨v, h1, h2.mono gF (Newer.refl _ _)⟩
  | o ds =>
    obtain ⟨a, vs, h1, h2, h3, h4, h5, h6⟩ := h
    exact ⟨a, vs, h1, h2, h3, h4, g.at_ h5 (fun z => h3 (gs a z)) (fun ps z => by cases z), h6.mono gF (Newer.refl _ _)⟩
/-- the heap grew, nothing of the slots changed -/
theorem SR.grown (S : SR Γ F ρ s σ H) (g : Grow Γ.G H H') (dl : DealAt Γ H' s') (tb : LamX.Tabs Γ.T H') : SR Γ F ρ s' σ H' where
  grow := S.grow.trans g
  sub := S.sub
  gsub := S.gsub
  fresh := S.fresh
  alloc := fun a f => by
    by_cases h : Γ.G a
    · obtain ⟨xs, e⟩ := dl.there h
      exact ⟨_, e⟩
    · obtain ⟨o, e⟩ := S.alloc a f
      exact g.there e h
  deal := dl
  tabs := tb
  slots := fun i b e => (S.slots i b e).mono g S.gsub S.sub
  inj := S.inj
/-- a new object was laid -/
theorem SR.laid (S : SR Γ F ρ s σ H) {p : Addr} {o : HO} (h : H p = none) : SR Γ F ρ s σ (upd H p o) :=
  S.grown (Grow.new h) (S.deal.keep fun a xs _ e => by rw [upd_ne (ne_of_none e h)]; exact e) (S.tabs.ext fun a u e => by rw [upd_ne (ne_of_none e h)]; exact e)
theorem SR.notF (S : SR Γ F ρ s σ H) {p : Addr} (h : H p = none) : ¬ F p := fun f => by
  obtain ⟨o, e⟩ := S.alloc p f
  rw [h] at e; cases e
theorem SR.gF (S : SR Γ F ρ s σ H) (g : Grow Γ.G H H') : Grow F H H' := g.mono fun a z => S.sub a (S.gsub a z)
theorem Rep.grown (S : SR Γ F ρ s σ H) (g : Grow Γ.G H H') {v : V} {d : D} (r : Rep Γ F H v d) : Rep Γ F H' v d := r.mono (S.gF g) (Newer.refl _ _)
theorem Reps.grown (S : SR Γ F ρ s σ H) (g : Grow Γ.G H H') {v : List V} {d : List D} (r : Reps Γ F H v d) : Reps Γ F H' v d := r.mono (S.gF g) (Newer.refl _ _)
end
end L3

/-! L3: judgements and expressions. -/
namespace L3
open PySem PySem.Spec PyProof.Rows L2

/-! ### the widest readings -/
section
variable (X : Cx)
def tE (e : Expr) : TE := fun σ H Q => ∀ pins s, Inv X pins σ H s → wpAny (model X.prog X.w) X.A (eval e X.env) (EP X pins σ Q) X.xe s
def tB3 (e : Expr) : TT := fun σ H Q => ∀ pins s, Inv X pins σ H s → wpAny (model X.prog X.w) X.A (isTrue e X.env (eval e X.env)) (TP X pins σ Q) X.xe s
def tW3 (e : Expr) : TT := fun σ H Q => ∀ whole pins s, Inv X pins σ H s → wpAny (model X.prog X.w) X.A (isTrue e X.env whole) (TP X pins σ Q) X.xe s
def tA3 (es : List Expr) : TA := fun σ H Q => ∀ pos pins s, Inv X pins σ H s → wpAny (model X.prog X.w) X.A (spliced (backTo pos (starEach es X.env))) (AP X pins σ Q) X.xe s
def cR2 (f : Value → Value → Sem Value) : R2 := fun x y H Q => ∀ pins s σ v u, Inv X pins σ H s → RelV x v → RelV y u → wpAny (model X.prog X.w) X.A (f v u) (EP X pins σ Q) X.xe s
def cR1 (f : Value → Sem Value) : V → Hp → VK → Prop := fun x H Q => ∀ pins s σ v, Inv X pins σ H s → RelV x v → wpAny (model X.prog X.w) X.A (f v) (EP X pins σ Q) X.xe s
def cCall (f : Value) : List V → Hp → VK → Prop := fun xs H Q => ∀ pins s σ us, Inv X pins σ H s → Vals xs us → wpAny (model X.prog X.w) X.A (call f us) (EP X pins σ Q) X.xe s
end
section
variable {X : Cx} {e : Expr} {es : List Expr} {f : Value → Value → Sem Value}
theorem can_e : PE X e (tE X e) := ⟨fun pins s σ H Q I h => h pins s I⟩
theorem can_b : PT X e (tB3 X e) := ⟨fun pins s σ H Q I h => h pins s I⟩
theorem can_w : PW X e (tW3 X e) := ⟨fun wh pins s σ H Q I h => h wh pins s I⟩
theorem can_a : PA X es (tA3 X es) := ⟨fun pos pins s σ H Q I h => h pos pins s I⟩
theorem can_r2 : OpR X f (cR2 X f) := fun pins s σ H x y v u Q I rx ry h => h pins s σ v u I rx ry
theorem can_r1 {f : Value → Sem Value} : UnR X f (cR1 X f) := fun pins s σ H x v Q I rx h => h pins s σ v I rx
theorem can_call {f : Value} : CallR X f (cCall X f) := fun pins s σ H xs us Q I r h => h pins s σ us I r
theorem toE {t : TE} (h : PE X e t) {σ : Sl} {H : Hp} {Q : VK} (q : t σ H Q) : tE X e σ H Q := fun pins s I => h.run pins s σ H Q I q
theorem toB {t : TT} (h : PT X e t) {σ : Sl} {H : Hp} {Q : Bool → Hp → Prop} (q : t σ H Q) : tB3 X e σ H Q := fun pins s I => h.run pins s σ H Q I q
theorem toW {t : TT} (h : PW X e t) {σ : Sl} {H : Hp} {Q : Bool → Hp → Prop} (q : t σ H Q) : tW3 X e σ H Q := fun wh pins s I => h.run wh pins s σ H Q I q
theorem toA {t : TA} (h : PA X es t) {σ : Sl} {H : Hp} {Q : List V → Hp → Prop} (q : t σ H Q) : tA3 X es σ H Q := fun pos pins s I => h.run pos pins s σ H Q I q
theorem toR2 {r : R2} (h : OpR X f r) {x y : V} {H : Hp} {Q : VK} (q : r x y H Q) : cR2 X f x y H Q := fun pins s σ v u I rx ry => h pins s σ H x y v u Q I rx ry q
theorem toCall {f : Value} {r : List V → Hp → VK → Prop} (h : CallR X f r) {xs : List V} {H : Hp} {Q : VK} (q : r xs H Q) : cCall X f xs H Q := fun pins s σ us I r => h pins s σ H xs us Q I r q
end

/-! ### what a piece of text comes to -/
/-- an error as it lies -/
def ExcIs (Γ : Sta) (F : Addr → Prop) (H : Hp) (cls : Value) (dd : Option Addr) (x : Xc) : Prop :=
  ∃ C d v, Γ.mg x.cls = some (.ref C) ∧ cls = .ref C ∧ dd = some d ∧ H d = some (.xd [(("at" : Str), v)]) ∧ Rep Γ F H v x.at_
def Post {α β : Type} (rel : Sta → (Addr → Prop) → Hp → β → α → Prop) (Γ : Sta) (F : Addr → Prop) (ρ : Env3) (σ : Sl) (H : Hp) (Q : β → Hp → Prop) (Wx : WX) : R α → Prop
  | .ok a s' => ∀ b H', Grow Γ.G H H' → SR Γ F ρ s' σ H' → rel Γ F H' b a → Q b H'
  | .exc x s' => ∀ cls dd H', Grow Γ.G H H' → SR Γ F ρ s' σ H' → ExcIs Γ F H' cls dd x → Wx cls dd σ H'
  | .bad => False
/-- data, or a list that a slot alone holds -/
def RepW (Γ : Sta) (F : Addr → Prop) (H : Hp) (v : V) (d : D) : Prop := Rep Γ F H v d ∨ ∃ a vs ds, v = .ref a ∧ d = .lst ds ∧ ¬ Γ.G a ∧ H a = some (.lst vs) ∧ Reps Γ F H vs ds
def RepB (_ : Sta) (_ : Addr → Prop) (_ : Hp) (b : Bool) (d : Bool) : Prop := b = d
def R.bind {α β : Type} (r : R α) (k : α → DS → R β) : R β := match r with
  | .ok a s => k a s | .exc x s => .exc x s | .bad => .bad
@[simp] theorem R.bind_ok {α β : Type} (a : α) (s : DS) (k : α → DS → R β) : (R.ok a s).bind k = k a s := rfl
@[simp] theorem R.bind_exc {α β : Type} (x : Xc) (s : DS) (k : α → DS → R β) : (R.exc x s : R α).bind k = .exc x s := rfl
@[simp] theorem R.bind_bad {α β : Type} (k : α → DS → R β) : (R.bad : R α).bind k = .bad := rfl
section
variable {α β γ δ : Type} {rel : Sta → (Addr → Prop) → Hp → β → α → Prop} {rel2 : Sta → (Addr → Prop) → Hp → δ → γ → Prop} {Γ : Sta} {F : Addr → Prop} {ρ : Env3} {σ : Sl} {H H1 : Hp} {Wx : WX}
theorem Post.later {Q : β → Hp → Prop} {r : R α} (g : Grow Γ.G H H1) (p : Post rel Γ F ρ σ H Q Wx r) : Post rel Γ F ρ σ H1 Q Wx r := by
  cases r with
  | ok a s => exact fun b H' g' S r => p b H' (g.trans g') S r
  | exc x s => exact fun c d H' g' S r => p c d H' (g.trans g') S r
  | bad => exact p
theorem Post.bind {Q : δ → Hp → Prop} {Q' : β → Hp → Prop} {r : R α} {k : α → DS → R γ} (p : Post rel2 Γ F ρ σ H Q Wx (r.bind k))
    (h : ∀ a s1 b H1, Grow Γ.G H H1 → SR Γ F ρ s1 σ H1 → rel Γ F H1 b a → Post rel2 Γ F ρ σ H1 Q Wx (k a s1) → Q' b H1) : Post rel Γ F ρ σ H Q' Wx r := by
  cases r with
  | ok a s => exact fun b H' g' S r => h a s b H' g' S r (p.later g')
  | exc x s => exact p
  | bad => exact p
theorem Post.val {Q : β → Hp → Prop} {a : α} {b : β} {s : DS} (p : Post rel Γ F ρ σ H Q Wx (.ok a s)) (S : SR Γ F ρ s σ H) (r : rel Γ F H b a) : Q b H := p b H (Grow.refl _ _) S r
end
structure E3 (Γ : Sta) (X : Cx) (e : Expr) (g : G) : Prop where
  run : ∀ (Wx : WX) (F : Addr → Prop) (ρ : Env3) (s : DS) (σ : Sl) (H : Hp) (Q : VK), Takes X Wx → SR Γ F ρ s σ H → Post Rep Γ F ρ σ H Q Wx (g ρ s) → tE X e σ H Q
/-- the value may be a list that a slot alone holds -/
structure L3 (Γ : Sta) (X : Cx) (e : Expr) (g : G) : Prop where
  run : ∀ (Wx : WX) (F : Addr → Prop) (ρ : Env3) (s : DS) (σ : Sl) (H : Hp) (Q : VK), Takes X Wx → SR Γ F ρ s σ H → Post RepW Γ F ρ σ H Q Wx (g ρ s) → tE X e σ H Q
structure T3 (Γ : Sta) (X : Cx) (e : Expr) (g : GT) : Prop where
  run : ∀ (Wx : WX) (F : Addr → Prop) (ρ : Env3) (s : DS) (σ : Sl) (H : Hp) (Q : Bool → Hp → Prop), Takes X Wx → SR Γ F ρ s σ H → Post RepB Γ F ρ σ H Q Wx (g ρ s) → tB3 X e σ H Q
structure TW3 (Γ : Sta) (X : Cx) (e : Expr) (g : GT) : Prop where
  run : ∀ (Wx : WX) (F : Addr → Prop) (ρ : Env3) (s : DS) (σ : Sl) (H : Hp) (Q : Bool → Hp → Prop), Takes X Wx → SR Γ F ρ s σ H → Post RepB Γ F ρ σ H Q Wx (g ρ s) → tW3 X e σ H Q
structure A3 (Γ : Sta) (X : Cx) (es : List Expr) (g : GL) : Prop where
  run : ∀ (Wx : WX) (F : Addr → Prop) (ρ : Env3) (s : DS) (σ : Sl) (H : Hp) (Q : List V → Hp → Prop), Takes X Wx → SR Γ F ρ s σ H → Post Reps Γ F ρ σ H Q Wx (g ρ s) → tA3 X es σ H Q
/-- arguments that may be such lists -/
def RepWs (Γ : Sta) (F : Addr → Prop) (H : Hp) (vs : List V) (ds : List D) : Prop := Paired (RepW Γ F H) vs ds
structure AW3 (Γ : Sta) (X : Cx) (es : List Expr) (g : GL) : Prop where
  run : ∀ (Wx : WX) (F : Addr → Prop) (ρ : Env3) (s : DS) (σ : Sl) (H : Hp) (Q : List V → Hp → Prop), Takes X Wx → SR Γ F ρ s σ H → Post RepWs Γ F ρ σ H Q Wx (g ρ s) → tA3 X es σ H Q
section
variable {Γ : Sta} {F : Addr → Prop} {ρ : Env3} {s : DS} {σ : Sl} {H H' : Hp} {v : V} {d : D} {X : Cx} {e : Expr} {g : G}
theorem RepW.grown (S : SR Γ F ρ s σ H) (gr : Grow Γ.G H H') (r : RepW Γ F H v d) : RepW Γ F H' v d := by
  rcases r with r | ⟨a, vs, ds, h1, h2, h3, h4, h5⟩
  · exact .inl (r.grown S gr)
  · exact .inr ⟨a, vs, ds, h1, h2, h3, gr.at_ h4 h3 (fun ps z => by cases z), h5.grown S gr⟩
theorem E3.weak (h : E3 Γ X e g) : L3 Γ X e g := ⟨fun Wx F ρ s σ H Q tk S p => h.run Wx F ρ s σ H Q tk S (by
  cases q : g ρ s with
  | ok a s => rw [q] at p; exact fun b H' g' S r => p b H' g' S (.inl r)
  | exc x s => rw [q] at p; exact p
  | bad => rw [q] at p; exact p)⟩
theorem L3.cast {g' : G} (h : L3 Γ X e g) (q : g = g') : L3 Γ X e g' := q ▸ h
theorem E3.cast {g' : G} (h : E3 Γ X e g) (q : g = g') : E3 Γ X e g' := q ▸ h
/-- a list: its items as they stand -/
theorem RepW.lst {ds : List D} (r : RepW Γ F H v (.lst ds)) : ∃ a vs, v = .ref a ∧ H a = some (.lst vs) ∧ Reps Γ F H vs ds := by
  rcases r with r | ⟨a, vs, ds', h1, h2, h3, h4, h5⟩
  · cases r with
    | lst h r => exact ⟨_, _, rfl, h.1, r⟩
  · cases h2; exact ⟨a, vs, h1, h4, h5⟩
theorem RepW.rep (r : RepW Γ F H v d) (h : ∀ ds, d ≠ .lst ds) : Rep Γ F H v d := by
  rcases r with r | ⟨a, vs, ds, h1, h2, h3, h4, h5⟩
  · exact r
  · exact (h _ h2).elim
theorem RepW.tup {ds : List D} (r : RepW Γ F H v (.tup ds)) : ∃ a vs, v = .ref a ∧ SqT Γ.K H a vs ∧ Reps Γ F H vs ds := by
  cases r.rep (fun _ h => by cases h) with
  | tup h r => exact ⟨_, _, rfl, h.1, r⟩
theorem RepW.int {i : Int} (r : RepW Γ F H v (.int i)) : v = .int i := by cases r.rep (fun _ h => by cases h); rfl
theorem RepW.str {i : Str} (r : RepW Γ F H v (.str i)) : v = .str i := by cases r.rep (fun _ h => by cases h); rfl
theorem RepW.bl {i : Bool} (r : RepW Γ F H v (.bl i)) : v = .bl i := by cases r.rep (fun _ h => by cases h); rfl
theorem RepW.non (r : RepW Γ F H v .non) : v = .non := by cases r.rep (fun _ h => by cases h); rfl
end

/-! ### names, constants -/
def eVar (i : Nat) : G := fun ρ s => match ρ[i]? with | some (some (.d d)) => .ok d s | _ => .bad
def wVar (i : Nat) : G := fun ρ s => match ρ[i]? with | some (some (.d d)) => .ok d s | some (some (.o ds)) => .ok (.lst ds) s | _ => .bad
def eK (d : D) : G := fun _ s => .ok d s
section
variable {Γ : Sta} {X : Cx} {e a b c : Expr} {es : List Expr} {ga gb gc : G} {pos p : Pos}
theorem e_var {i : Nat} {x : Str} (h : PE X (.Name x pos) (tVar i)) : E3 Γ X (.Name x pos) (eVar i) := ⟨fun Wx F ρ s σ H Q tk S p => toE h (by
  unfold eVar at p
  split at p
  · rename_i d q
    obtain ⟨v, h1, h2⟩ := S.slots i _ q
    exact ⟨v, h1, p.val S h2⟩
  · exact p.elim)⟩
theorem w_var {i : Nat} {x : Str} (h : PE X (.Name x pos) (tVar i)) : L3 Γ X (.Name x pos) (wVar i) := ⟨fun Wx F ρ s σ H Q tk S p => toE h (by
  unfold wVar at p
  split at p
  · rename_i d q
    obtain ⟨v, h1, h2⟩ := S.slots i _ q
    exact ⟨v, h1, p.val S (.inl h2)⟩
  · rename_i ds q
    obtain ⟨a, vs, h1, h2, h3, h4, h5, h6⟩ := S.slots i _ q
    exact ⟨.ref a, h1, p.val S (.inr ⟨a, vs, ds, rfl, rfl, fun z => h3 (S.gsub a z), h5, h6⟩)⟩
  · exact p.elim)⟩
theorem e_c {v : V} {d : D} (h : PE X e (tC v)) (r : ∀ F H, Rep Γ F H v d) : E3 Γ X e (eK d) := ⟨fun Wx F ρ s σ H Q tk S p => toE h (p.val S (r F H))⟩
theorem e_int {i : Int} {j} : E3 Γ X (.Constant (.int i) j pos) (eK (.int i)) := e_c pe_int fun _ _ => .int i
theorem e_bl {i : Bool} {j} : E3 Γ X (.Constant (.bool i) j pos) (eK (.bl i)) := e_c pe_bl fun _ _ => .bl i
theorem e_non {j} : E3 Γ X (.Constant .none j pos) (eK .non) := e_c pe_non fun _ _ => .non
theorem e_str {i : Str} {j} : E3 Γ X (.Constant (.str i) j pos) (eK (.str i)) := e_c pe_str fun _ _ => .str i
/-- a def's name -/
theorem e_fn {x : Str} {f : Addr} (hg : Gl X x) (hm : X.mg x = some (.ref f)) (hG : Γ.mg = X.mg) (hd : (x == ("__debug__" : Str)) = false := by decide) : E3 Γ X (.Name x pos) (eK (.fn x)) :=
  e_c (pe_glob (v := .ref f) hg hm rfl hd) fun _ _ => .fn (by rw [hG]; exact hm)
/-- a module's constant -/
theorem e_gl {x : Str} {u : Value} {v : V} {d : D} (hg : Gl X x) (hm : X.mg x = some u) (r : RelV v u) (q : ∀ F H, Rep Γ F H v d) (hd : (x == ("__debug__" : Str)) = false := by decide) : E3 Γ X (.Name x pos) (eK d) :=
  e_c (pe_glob hg hm r hd) q
end

/-! ### two in a row -/
def eBin (h : D → D → Option D) (ga gb : G) : G := fun ρ s => (ga ρ s).bind fun x s1 => (gb ρ s1).bind fun y s2 => match h x y with | some z => .ok z s2 | none => .bad
/-- an operation on values -/
def Op3 (Γ : Sta) (X : Cx) (f : Value → Value → Sem Value) (h : D → D → Option D) : Prop :=
  ∀ (F : Addr → Prop) (ρ : Env3) (s : DS) (σ : Sl) (H : Hp) (x y : V) (d e z : D) (Q : VK), SR Γ F ρ s σ H → RepW Γ F H x d → RepW Γ F H y e → h d e = some z →
    (∀ v H', Grow Γ.G H H' → SR Γ F ρ s σ H' → Rep Γ F H' v z → Q v H') → ∀ pins sh v u, Inv X pins σ H sh → RelV x v → RelV y u → wpAny (model X.prog X.w) X.A (f v u) (EP X pins σ Q) X.xe sh
theorem bin3 {Γ : Sta} {X : Cx} {a b : Expr} {ga gb : G} {h : D → D → Option D} {f : Value → Value → Sem Value} (ha : L3 Γ X a ga) (hb : L3 Γ X b gb) (ho : Op3 Γ X f h) {Wx : WX} {F : Addr → Prop} {ρ : Env3} {s : DS} {σ : Sl} {H : Hp} {Q : VK}
    (tk : Takes X Wx) (S : SR Γ F ρ s σ H) (p : Post Rep Γ F ρ σ H Q Wx (eBin h ga gb ρ s)) : tE X a σ H fun x H1 => tE X b σ H1 fun y H2 => ∀ pins sh v u, Inv X pins σ H2 sh → RelV x v → RelV y u → wpAny (model X.prog X.w) X.A (f v u) (EP X pins σ Q) X.xe sh := by
  refine ha.run Wx F ρ s σ H _ tk S (p.bind fun x s1 v H1 g1 S1 r1 p1 => ?_)
  refine hb.run Wx F ρ s1 σ H1 _ tk S1 (p1.bind fun y s2 u H2 g2 S2 r2 p2 => ?_)
  cases q : h x y with
  | none => rw [q] at p2; exact p2.elim
  | some z => rw [q] at p2; exact ho F ρ s2 σ H2 v u x y z Q S2 (r1.grown S1 g2) r2 q p2
section
variable {Γ : Sta} {X : Cx} {e a b c : Expr} {es : List Expr} {ga gb gc : G} {pos : Pos} {h h' : D → D → Option D}
theorem e_bin {op : Operator} (ho : Op3 Γ X (binaryOp op) h) (ha : L3 Γ X a ga) (hb : L3 Γ X b gb) : E3 Γ X (.BinOp a op b pos) (eBin h ga gb) := ⟨fun Wx F ρ s σ H Q tk S p pins sh I =>
  wpAny_BinOp (binT can_e can_e I (bin3 ha hb ho tk S p) fun v u s2 x y H2 I2 rx ry q => q pins s2 v u I2 rx ry)⟩
/-- the first rule that says something -/
def orD (h h' : D → D → Option D) : D → D → Option D := fun x y => match h x y with | some z => some z | none => h' x y
theorem Op3.or {f : Value → Value → Sem Value} (o : Op3 Γ X f h) (o' : Op3 Γ X f h') : Op3 Γ X f (orD h h') := fun F ρ s σ H x y d e z Q S rx ry q k => by
  unfold orD at q
  split at q
  · rename_i w hw; cases q; exact o F ρ s σ H x y d e _ Q S rx ry hw k
  · exact o' F ρ s σ H x y d e z Q S rx ry q k
def iD (C : Int → Int → Bool) (g : Int → Int → D) : D → D → Option D := fun x y => match x, y with | .int i, .int j => if C i j then some (g i j) else none | _, _ => none
/-- ints alone -/
theorem op3_int {f : Value → Value → Sem Value} {C : Int → Int → Prop} {g : Int → Int → V} {C' : Int → Int → Bool} {g' : Int → Int → D} (ho : OpR X f (rI C g)) (hC : ∀ i j, C' i j = true → C i j) (hg : ∀ i j F H, Rep Γ F H (g i j) (g' i j)) : Op3 Γ X f (iD C' g') :=
  fun F ρ s σ H x y d e z Q S rx ry q k pins sh v u I r1 r2 => by
    cases d <;> cases e <;> simp only [iD] at q <;> try (cases q)
    rename_i i j
    by_cases c : C' i j = true
    · rw [if_pos c] at q
      cases q
      rw [rx.int] at r1; rw [ry.int] at r2
      exact ho pins sh σ H _ _ v u Q I r1 r2 ⟨i, j, rfl, rfl, hC i j c, k _ H (Grow.refl _ _) S (hg i j F H)⟩
    · rw [if_neg c] at q; cases q
theorem op3_int0 {f : Value → Value → Sem Value} {g : Int → Int → V} {g' : Int → Int → D} (ho : OpR X f (rI0 g)) (hg : ∀ i j F H, Rep Γ F H (g i j) (g' i j)) : Op3 Γ X f (iD (fun _ _ => true) g') :=
  fun F ρ s σ H x y d e z Q S rx ry q k pins sh v u I r1 r2 => by
    cases d <;> cases e <;> simp only [iD] at q <;> try (cases q)
    rename_i i j
    rw [rx.int] at r1; rw [ry.int] at r2
    exact ho pins sh σ H _ _ v u Q I r1 r2 ⟨i, j, rfl, rfl, k _ H (Grow.refl _ _) S (hg i j F H)⟩
end
end L3

/-! L3: operations by values. -/
namespace L3
open PySem PySem.Spec PyProof.Rows L2

theorem sizeLine_is : sizeLine = 16777216 := sizeLine_eq
section
variable {Γ : Sta} {F : Addr → Prop} {ρ : Env3} {s : DS} {σ : Sl} {H H' : Hp} {X : Cx}
theorem Rep.newLst (S : SR Γ F ρ s σ H) {p : Addr} {vs : List V} {ds : List D} (h : H p = none) (r : Reps Γ F H vs ds) : Rep Γ F (upd H p (.lst vs)) (.ref p) (.lst ds) :=
  .lst ⟨upd_same, S.notF h⟩ (r.grown S (Grow.new h))
theorem Rep.newTup (S : SR Γ F ρ s σ H) {p : Addr} {vs : List V} {ds : List D} (h : H p = none) (r : Reps Γ F H vs ds) : Rep Γ F (upd H p (.tup vs)) (.ref p) (.tup ds) :=
  .tup ⟨.inl (.inl upd_same), fun f => (S.notF h f).elim⟩ (r.grown S (Grow.new h))
/-- what is handed on with a new object -/
theorem kLst {Q : VK} {z : List D} (S : SR Γ F ρ s σ H) {vs : List V} (r : Reps Γ F H vs z) (k : ∀ v H', Grow Γ.G H H' → SR Γ F ρ s σ H' → Rep Γ F H' v (.lst z) → Q v H') : ∀ p, H p = none → Q (.ref p) (upd H p (.lst vs)) :=
  fun p h => k _ _ (Grow.new h) (S.laid h) (Rep.newLst S h r)
theorem kTup {Q : VK} {z : List D} (S : SR Γ F ρ s σ H) {vs : List V} (r : Reps Γ F H vs z) (k : ∀ v H', Grow Γ.G H H' → SR Γ F ρ s σ H' → Rep Γ F H' v (.tup z) → Q v H') : ∀ p, H p = none → Q (.ref p) (upd H p (.tup vs)) :=
  fun p h => k _ _ (Grow.new h) (S.laid h) (Rep.newTup S h r)
theorem Reps.nil_iff {vs : List V} {ds : List D} (r : Reps Γ F H vs ds) : vs = [] ↔ ds = [] := by
  cases r <;> simp
theorem Reps.rep {vs : List V} {ds : List D} (r : Reps Γ F H vs ds) : ∀ n : Nat, Reps Γ F H (List.replicate n vs).flatten (List.replicate n ds).flatten
  | 0 => .nil
  | n + 1 => by
    rw [List.replicate_succ, List.replicate_succ, List.flatten_cons, List.flatten_cons]
    exact r.append (r.rep n)
end

/-! ### operators -/
def addS : D → D → Option D := fun x y => match x, y with | .str a, .str b => if a.length + b.length ≤ 16777216 then some (.str (a ++ b)) else none | _, _ => none
def addL : D → D → Option D := fun x y => match x, y with | .lst a, .lst b => if a.length + b.length ≤ 16777216 then some (.lst (a ++ b)) else none | _, _ => none
def addT : D → D → Option D := fun x y => match x, y with | .tup a, .tup b => if a.length + b.length ≤ 16777216 then some (.tup (a ++ b)) else none | _, _ => none
def addD : D → D → Option D := fun x y => match x, y with
  | .int i, .int j => some (.int (i + j))
  | .str a, .str b => if a.length + b.length ≤ 16777216 then some (.str (a ++ b)) else none
  | .lst a, .lst b => if a.length + b.length ≤ 16777216 then some (.lst (a ++ b)) else none
  | .tup a, .tup b => if a.length + b.length ≤ 16777216 then some (.tup (a ++ b)) else none
  | _, _ => none
def subD : D → D → Option D := iD (fun _ _ => true) fun i j => .int (i - j)
/-- the bits of a number, told low -/
def bitsI (i : Int) : Nat := i.natAbs.log2
def mulD : D → D → Option D := fun x y => match x, y with
  | .int i, .int j => if bitsI i + bitsI j < 1000000 then some (.int (i * j)) else none
  | .lst a, .int k => if 0 ≤ k ∧ k < 1000000 ∧ a.length * k.toNat ≤ 16777216 then some (.lst (List.replicate k.toNat a).flatten) else none
  | .tup a, .int k => if a ≠ [] ∧ 2 ≤ k ∧ k ≤ 1000 ∧ a.length ≤ 1000 then some (.tup (List.replicate k.toNat a).flatten) else none
  | _, _ => none
def fdivD : D → D → Option D := iD (fun _ j => decide (0 < j) && decide (bitsI j < 9000)) fun i j => .int (i / j)
def modD : D → D → Option D := iD (fun _ j => decide (0 < j)) fun i j => .int (i % j)
def powD : D → D → Option D := iD (fun i j => decide (0 ≤ j) && decide (j ≤ 1000000) && decide (i.natAbs < 2 ^ 64)) fun i j => .int (i ^ j.toNat)
section
variable {Γ : Sta} {X : Cx} {h h' : D → D → Option D} {f : Value → Value → Sem Value}
theorem Op3.cast (o : Op3 Γ X f h) (q : ∀ x y z, h' x y = some z → h x y = some z) : Op3 Γ X f h' := fun F ρ s σ H x y d e z Q S rx ry e1 k => o F ρ s σ H x y d e z Q S rx ry (q _ _ _ e1) k
theorem o_add (hG : Γ.K = X.K) : Op3 Γ X (binaryOp .Add) addD := fun F ρ s σ H x y d e z Q S rx ry q k pins sh v u I r1 r2 => by
  unfold addD at q
  split at q
  · cases q
    rw [rx.int] at r1; rw [ry.int] at r2
    exact op_add pins sh σ H _ _ v u Q I r1 r2 ⟨_, _, rfl, rfl, k _ H (Grow.refl _ _) S (.int _)⟩
  · split at q <;> cases q
    rename_i a b hl
    rw [rx.str] at r1; rw [ry.str] at r2
    exact op_add_str pins sh σ H _ _ v u Q I r1 r2 ⟨_, _, rfl, rfl, by rw [sizeLine_is]; exact hl, k _ H (Grow.refl _ _) S (.str _)⟩
  · split at q <;> cases q
    rename_i a b hl
    obtain ⟨p, vs, rfl, hp, rp⟩ := rx.lst
    obtain ⟨p', vs', rfl, hp', rp'⟩ := ry.lst
    refine op_cat pins sh σ H _ _ v u Q I r1 r2 ⟨p, p', vs, vs', rfl, rfl, hp, hp', ?_, kLst S (rp.append rp') k⟩
    rw [sizeLine_is, rp.length, rp'.length]; exact hl
  · split at q <;> cases q
    rename_i a b hl
    obtain ⟨p, vs, rfl, hp, rp⟩ := rx.tup
    obtain ⟨p', vs', rfl, hp', rp'⟩ := ry.tup
    rw [hG] at hp hp'
    refine op_catA pins sh σ H _ _ v u Q I r1 r2 ⟨p, p', vs, vs', rfl, rfl, hp, hp', ?_, fun z => ?_, fun _ z => ?_, fun _ _ => kTup S (rp.append rp') k⟩
    · rw [sizeLine_is, rp.length, rp'.length]; exact hl
    · obtain rfl := rp.nil_iff.mp z
      exact k _ H (Grow.refl _ _) S (ry.rep (fun _ h => by cases h))
    · obtain rfl := rp'.nil_iff.mp z
      rw [List.append_nil] at k
      exact k _ H (Grow.refl _ _) S (rx.rep (fun _ h => by cases h))
  · cases q
theorem o_sub : Op3 Γ X (binaryOp .Sub) subD := op3_int0 op_sub fun _ _ _ _ => .int _
theorem o_fdiv : Op3 Γ X (binaryOp .FloorDiv) fdivD := op3_int op_fdivW (fun i j c => by
  simp only [Bool.and_eq_true, decide_eq_true_eq] at c; exact c) fun _ _ _ _ => .int _
theorem o_mod : Op3 Γ X (binaryOp .Mod) modD := op3_int op_mod (fun i j c => by
  simp only [decide_eq_true_eq] at c; exact c) fun _ _ _ _ => .int _
theorem o_pow : Op3 Γ X (binaryOp .Pow) powD := op3_int op_pow (fun i j c => by
  simp only [Bool.and_eq_true, decide_eq_true_eq] at c; exact ⟨c.1.1, c.1.2, c.2⟩) fun _ _ _ _ => .int _
theorem o_mul (hG : Γ.K = X.K) : Op3 Γ X (binaryOp .Mult) mulD := fun F ρ s σ H x y d e z Q S rx ry q k pins sh v u I r1 r2 => by
  unfold mulD at q
  split at q
  · split at q <;> cases q
    rename_i i j hl
    rw [rx.int] at r1; rw [ry.int] at r2
    exact op_mulW pins sh σ H _ _ v u Q I r1 r2 ⟨_, _, rfl, rfl, hl, k _ H (Grow.refl _ _) S (.int _)⟩
  · split at q <;> cases q
    rename_i a i hl
    obtain ⟨p, vs, rfl, hp, rp⟩ := rx.lst
    rw [ry.int] at r2
    refine op_rep pins sh σ H _ _ v u Q I r1 r2 ⟨p, i, vs, rfl, rfl, hp, by omega, by omega, ?_, kLst S (rp.rep _) k⟩
    rw [sizeLine_is, rp.length]; exact hl.2.2
  · split at q <;> cases q
    rename_i a i hl
    obtain ⟨p, vs, rfl, hp, rp⟩ := rx.tup
    rw [hG] at hp
    rw [ry.int] at r2
    refine op_repT pins sh σ H _ _ v u Q I r1 r2 ⟨p, i, vs, rfl, rfl, hp, fun z => hl.1 (rp.nil_iff.mp z), hl.2.1, hl.2.2.1, ?_, kTup S (rp.rep _) k⟩
    rw [rp.length]; exact hl.2.2.2
  · cases q
end

/-! ### equality of data -/
mutual
def D.fits : Nat → D → Bool
  | _, .non => true | _, .bl _ => true | _, .int _ => true
  | _, .str x => x.cps.all (· < 0x110000)
  | n, .lst xs => D.fitsAll n xs
  | n, .tup xs => D.fitsAll n xs
  | _, .dic _ _ => false | _, .fn _ => false | _, .deal => false | _, .scr _ => false
def D.fitsAll : Nat → List D → Bool
  | 0, _ => false
  | _ + 1, [] => true
  | n + 1, x :: xs => D.fits n x && D.fitsAll (n + 1) xs
end
mutual
def D.eqv : D → D → Bool
  | .non, .non => true
  | .bl a, .bl b => a == b
  | .bl a, .int j => (if a then 1 else 0) == j
  | .int i, .bl b => i == (if b then 1 else 0)
  | .int i, .int j => i == j
  | .str x, .str y => x == y
  | .lst xs, .lst ys => D.eqvs xs ys
  | .tup xs, .tup ys => D.eqvs xs ys
  | _, _ => false
def D.eqvs : List D → List D → Bool
  | [], [] => true
  | x :: xs, y :: ys => D.eqv x y && D.eqvs xs ys
  | _, _ => false
end
mutual
def D.py : D → PyData
  | .non => .none | .bl b => .bool b | .int i => .int i | .str x => .str x
  | .lst xs => .list (D.pys xs) | .tup xs => .tuple (D.pys xs)
  | .dic _ _ => .dict [] | .fn _ => .dict [] | .deal => .dict [] | .scr _ => .dict []
def D.pys : List D → List PyData
  | [] => [] | x :: xs => D.py x :: D.pys xs
end
mutual
theorem fits_shape : ∀ (n : Nat) (d : D), D.fits n d = true → (D.py d).canLay0 = true ∧ (D.py d).depth ≤ n
  | n, .non, _ => ⟨rfl, Nat.zero_le _⟩
  | n, .bl _, _ => ⟨rfl, Nat.zero_le _⟩
  | n, .int _, _ => ⟨rfl, Nat.zero_le _⟩
  | n, .str x, h => ⟨by unfold D.fits at h; exact h, Nat.zero_le _⟩
  | n, .lst xs, h => by
    unfold D.fits at h
    cases n with
    | zero => simp [D.fitsAll] at h
    | succ n =>
      obtain ⟨h1, h2⟩ := fits_shapes n xs h
      exact ⟨h1, Nat.succ_le_succ h2⟩
  | n, .tup xs, h => by
    unfold D.fits at h
    cases n with
    | zero => simp [D.fitsAll] at h
    | succ n =>
      obtain ⟨h1, h2⟩ := fits_shapes n xs h
      exact ⟨h1, Nat.succ_le_succ h2⟩
  | n, .dic _ _, h => by simp [D.fits] at h
  | n, .fn _, h => by simp [D.fits] at h
  | n, .deal, h => by simp [D.fits] at h
  | n, .scr _, h => by simp [D.fits] at h
theorem fits_shapes : ∀ (n : Nat) (ds : List D), D.fitsAll (n + 1) ds = true → PyData.canLayAll0 (D.pys ds) = true ∧ PyData.depthAll (D.pys ds) ≤ n
  | n, [], _ => ⟨rfl, Nat.zero_le _⟩
  | n, x :: xs, h => by
    unfold D.fitsAll at h
    rw [Bool.and_eq_true] at h
    obtain ⟨a1, a2⟩ := fits_shape n x h.1
    obtain ⟨b1, b2⟩ := fits_shapes n xs h.2
    refine ⟨?_, ?_⟩
    · show ((D.py x).canLay0 && PyData.canLayAll0 (D.pys xs)) = true
      rw [a1, b1]; rfl
    · show max (D.py x).depth (PyData.depthAll (D.pys xs)) ≤ n
      exact Nat.max_le.mpr ⟨a2, b2⟩
end
mutual
theorem eqv_py : ∀ (n : Nat) (d e : D), D.fits n d = true → D.fits n e = true → PyData.eqv (D.py d) (D.py e) = D.eqv d e
  | n, .non, e, _, h => by cases e <;> first | rfl | (simp [D.fits] at h)
  | n, .bl _, e, _, h => by cases e <;> first | rfl | (simp [D.fits] at h)
  | n, .int _, e, _, h => by cases e <;> first | rfl | (simp [D.fits] at h)
  | n, .str x, e, _, h => by cases e <;> first | rfl | (simp [D.fits] at h)
  | n, .lst xs, e, h1, h => by
    cases e with
    | lst ys =>
      cases n with
      | zero => simp [D.fits, D.fitsAll] at h
      | succ n =>
        unfold D.fits at h1 h
        show PyData.eqvAll (D.pys xs) (D.pys ys) = D.eqvs xs ys
        exact eqv_pys n xs ys h1 h
    | _ => first | rfl | (simp [D.fits] at h)
  | n, .tup xs, e, h1, h => by
    cases e with
    | tup ys =>
      cases n with
      | zero => simp [D.fits, D.fitsAll] at h
      | succ n =>
        unfold D.fits at h1 h
        show PyData.eqvAll (D.pys xs) (D.pys ys) = D.eqvs xs ys
        exact eqv_pys n xs ys h1 h
    | _ => first | rfl | (simp [D.fits] at h)
  | n, .dic _ _, e, h, _ => by simp [D.fits] at h
  | n, .fn _, e, h, _ => by simp [D.fits] at h
  | n, .deal, e, h, _ => by simp [D.fits] at h
  | n, .scr _, e, h, _ => by simp [D.fits] at h
theorem eqv_pys : ∀ (n : Nat) (ds es : List D), D.fitsAll (n + 1) ds = true → D.fitsAll (n + 1) es = true → PyData.eqvAll (D.pys ds) (D.pys es) = D.eqvs ds es
  | n, [], [], _, _ => rfl
  | n, [], y :: ys, _, _ => rfl
  | n, x :: xs, [], _, _ => rfl
  | n, x :: xs, y :: ys, h1, h2 => by
    unfold D.fitsAll at h1 h2
    rw [Bool.and_eq_true] at h1 h2
    show (PyData.eqv (D.py x) (D.py y) && PyData.eqvAll (D.pys xs) (D.pys ys)) = (D.eqv x y && D.eqvs xs ys)
    rw [eqv_py n x y h1.1 h2.1, eqv_pys n xs ys h1.2 h2.2]
end
section
variable {Γ : Sta} {F : Addr → Prop} {H : Hp}
mutual
theorem Rep.dp : ∀ {v : V} {d : D} {n : Nat}, Rep Γ F H v d → D.fits n d = true → Dp Γ.K H v (D.py d)
  | _, _, _, .non, _ => .non
  | _, _, _, .bl b, _ => .bl b
  | _, _, _, .int i, _ => .int i
  | _, _, _, .str x, _ => .str x
  | _, _, n, .lst h r, f => by
    unfold D.fits at f
    exact .lst (.inl (.inl h.1)) (Reps.dp r f)
  | _, _, n, .tup h r, f => by
    unfold D.fits at f
    exact .tup h.1 (Reps.dp r f)
  | _, _, _, .fn _, f => by simp [D.fits] at f
  | _, _, _, .deal _, f => by simp [D.fits] at f
  | _, _, _, .dic _ _ _, f => by simp [D.fits] at f
  | _, _, _, .scr _, f => by simp [D.fits] at f
theorem Reps.dp : ∀ {vs : List V} {ds : List D} {n : Nat}, Reps Γ F H vs ds → D.fitsAll n ds = true → DpAll Γ.K H vs (D.pys ds)
  | _, _, _, .nil, _ => .nil
  | _, _, 0, .cons r t, f => by simp [D.fitsAll] at f
  | _, _, n + 1, .cons r t, f => by
    unfold D.fitsAll at f
    rw [Bool.and_eq_true] at f
    exact .cons (Rep.dp r f.1) (Reps.dp t f.2)
end
theorem RepW.dp {v : V} {d : D} {n : Nat} (r : RepW Γ F H v d) (f : D.fits n d = true) : Dp Γ.K H v (D.py d) := by
  rcases r with r | ⟨a, vs, ds, rfl, rfl, h3, h4, h5⟩
  · exact r.dp f
  · unfold D.fits at f
    exact .lst (.inl (.inl h4)) (h5.dp f)
end
theorem fits_shaped {d : D} (h : D.fits 64 d = true) : SeqAt.shaped (D.py d) = true := by
  obtain ⟨a, b⟩ := fits_shape 64 d h
  unfold SeqAt.shaped
  rw [a, decide_eq_true b]; rfl
def eqD : D → D → Option D := fun x y => if D.fits 64 x && D.fits 64 y then some (.bl (D.eqv x y)) else none
def neD : D → D → Option D := fun x y => if D.fits 64 x && D.fits 64 y then some (.bl (!D.eqv x y)) else none
section
variable {Γ : Sta} {X : Cx} {k : Nat}
theorem o_eq (hG : Γ.K = X.K) (hr : Room k X.A) : Op3 Γ X (compareOp .Eq) eqD := fun F ρ s σ H x y d e z Q S rx ry q kk pins sh v u I r1 r2 => by
  unfold eqD at q
  split at q <;> cases q
  rename_i h
  rw [Bool.and_eq_true] at h
  refine op_eqD hr.units pins sh σ H x y v u Q I r1 r2 ⟨D.py d, D.py e, hG ▸ rx.dp h.1, hG ▸ ry.dp h.2, fits_shaped h.1, fits_shaped h.2, ?_⟩
  rw [eqv_py 64 d e h.1 h.2]
  exact kk _ H (Grow.refl _ _) S (.bl _)
theorem o_ne (hG : Γ.K = X.K) (hr : Room k X.A) : Op3 Γ X (compareOp .NotEq) neD := fun F ρ s σ H x y d e z Q S rx ry q kk pins sh v u I r1 r2 => by
  unfold neD at q
  split at q <;> cases q
  rename_i h
  rw [Bool.and_eq_true] at h
  refine op_neD hr.units pins sh σ H x y v u Q I r1 r2 ⟨D.py d, D.py e, hG ▸ rx.dp h.1, hG ▸ ry.dp h.2, fits_shaped h.1, fits_shaped h.2, ?_⟩
  rw [eqv_py 64 d e h.1 h.2]
  exact kk _ H (Grow.refl _ _) S (.bl _)
end

/-! ### order -/
/-- the ints of a row -/
def intsD : List D → Option (List Int)
  | [] => some []
  | .int i :: r => (intsD r).map (i :: ·)
  | _ :: _ => none
theorem intsD_map : ∀ {ds : List D} {ns : List Int}, intsD ds = some ns → ds = ns.map D.int
  | [], ns, h => by cases h; rfl
  | .int i :: r, ns, h => by
    unfold intsD at h
    cases q : intsD r with
    | none => rw [q] at h; cases h
    | some m => rw [q] at h; cases h; rw [intsD_map q]; rfl
  | .non :: _, _, h => by cases h
  | .bl _ :: _, _, h => by cases h
  | .str _ :: _, _, h => by cases h
  | .lst _ :: _, _, h => by cases h
  | .tup _ :: _, _, h => by cases h
  | .dic _ _ :: _, _, h => by cases h
  | .fn _ :: _, _, h => by cases h
  | .deal :: _, _, h => by cases h
  | .scr _ :: _, _, h => by cases h
@[simp] theorem intsD_ints : ∀ ns : List Int, intsD (ns.map D.int) = some ns
  | [] => rfl
  | i :: r => by rw [List.map_cons]; unfold intsD; rw [intsD_ints r]; rfl
theorem Reps.ints {Γ : Sta} {F : Addr → Prop} {H : Hp} : ∀ {ns : List Int} {vs : List V}, Reps Γ F H vs (ns.map D.int) → vs = ns.map V.int
  | [], _, h => by cases h; rfl
  | i :: r, _, h => by
    cases h with
    | cons a t => cases a; rw [Reps.ints t]; rfl
def ltD : D → D → Option D := fun x y => match x, y with
  | .int i, .int j => some (.bl (decide (i < j)))
  | .str a, .str b => some (.bl (decide (a.cps.toList < b.cps.toList)))
  | .tup a, .tup b => match intsD a, intsD b with | some ns, some ms => some (.bl (HT.lexLt ns ms)) | _, _ => none
  | _, _ => none
def leD : D → D → Option D := iD (fun _ _ => true) fun i j => .bl (decide (i ≤ j))
def gtD : D → D → Option D := iD (fun _ _ => true) fun i j => .bl (decide (j < i))
def geD : D → D → Option D := iD (fun _ _ => true) fun i j => .bl (decide (j ≤ i))
section
variable {Γ : Sta} {X : Cx} {k : Nat}
theorem o_lt (hG : Γ.K = X.K) (hr : Room k X.A) : Op3 Γ X (compareOp .Lt) ltD := fun F ρ s σ H x y d e z Q S rx ry q kk pins sh v u I r1 r2 => by
  unfold ltD at q
  split at q
  · cases q
    rw [rx.int] at r1; rw [ry.int] at r2
    exact op_lt pins sh σ H _ _ v u Q I r1 r2 ⟨_, _, rfl, rfl, kk _ H (Grow.refl _ _) S (.bl _)⟩
  · cases q
    rw [rx.str] at r1; rw [ry.str] at r2
    exact op_lt_str pins sh σ H _ _ v u Q I r1 r2 ⟨_, _, rfl, rfl, kk _ H (Grow.refl _ _) S (.bl _)⟩
  · split at q <;> cases q
    rename_i a b ns ms ha hb
    obtain rfl := intsD_map ha
    obtain rfl := intsD_map hb
    obtain ⟨p, vs, rfl, hp, rp⟩ := rx.tup
    obtain ⟨p', vs', rfl, hp', rp'⟩ := ry.tup
    rw [hG, rp.ints] at hp
    rw [hG, rp'.ints] at hp'
    exact op_ltT hr.units0 pins sh σ H _ _ v u Q I r1 r2 ⟨_, _, _, _, rfl, rfl, hp, hp', kk _ H (Grow.refl _ _) S (.bl _)⟩
  · cases q
theorem o_le : Op3 Γ X (compareOp .LtE) leD := op3_int0 op_le fun _ _ _ _ => .bl _
theorem o_gt : Op3 Γ X (compareOp .Gt) gtD := op3_int0 op_gt fun _ _ _ _ => .bl _
theorem o_ge : Op3 Γ X (compareOp .GtE) geD := op3_int0 op_ge fun _ _ _ _ => .bl _
end

/-! ### is -/
def D.isNon : D → Bool | .non => true | _ => false
def D.isB (b : Bool) : D → Bool | .bl a => decide (a = b) | _ => false
def isD : D → D → Option D := fun x y => match y with
  | .non => some (.bl x.isNon)
  | .bl b => some (.bl (x.isB b))
  | _ => none
def isNotD : D → D → Option D := fun x y => match y with
  | .non => some (.bl (!x.isNon))
  | .bl b => some (.bl (!x.isB b))
  | _ => none
section
variable {Γ : Sta} {F : Addr → Prop} {H : Hp} {v : V} {d : D} {u : Value}
theorem RepW.isNon (r : RepW Γ F H v d) : decide (v = .non) = d.isNon := by
  rcases r with r | ⟨a, vs, ds, rfl, rfl, h3, h4, h5⟩
  · cases r <;> rfl
  · rfl
theorem plainIs_bl {b : Bool} (r : RelV v u) : plainIs u (.bool b) = true := by
  cases v <;> first | (cases r; rfl) | (obtain ⟨t, rfl⟩ := r; rfl)
theorem RepW.isB {b : Bool} (r : RepW Γ F H v d) (q : RelV v u) : (u == Value.bool b) = d.isB b := by
  rcases r with r | ⟨a, vs, ds, rfl, rfl, h3, h4, h5⟩
  · cases r <;> first | (obtain ⟨t, rfl⟩ := q; rfl) | (cases q; first | rfl | (rename_i a; cases a <;> cases b <;> rfl))
  · cases q; rfl
end
section
variable {Γ : Sta} {X : Cx}
theorem o_is : Op3 Γ X (compareOp .Is) isD := fun F ρ s σ H x y d e z Q S rx ry q kk pins sh v u I r1 r2 => by
  unfold isD at q
  split at q
  · cases q
    rw [ry.non] at r2
    refine op_isN pins sh σ H _ _ v u Q I r1 r2 ⟨rfl, ?_⟩
    rw [rx.isNon]
    exact kk _ H (Grow.refl _ _) S (.bl _)
  · cases q
    rename_i b
    rw [ry.bl] at r2
    cases r2
    refine wpAny_is_plain (plainIs_bl r1) ?_
    rw [rx.isB r1]
    exact ⟨.bl _, H, I, rfl, kk _ H (Grow.refl _ _) S (.bl _)⟩
  · cases q
theorem o_isNot : Op3 Γ X (compareOp .IsNot) isNotD := fun F ρ s σ H x y d e z Q S rx ry q kk pins sh v u I r1 r2 => by
  unfold isNotD at q
  split at q
  · cases q
    rw [ry.non] at r2
    refine op_notN pins sh σ H _ _ v u Q I r1 r2 ⟨rfl, ?_⟩
    rw [rx.isNon]
    exact kk _ H (Grow.refl _ _) S (.bl _)
  · cases q
    rename_i b
    rw [ry.bl] at r2
    cases r2
    refine wpAny_isNot_plain (plainIs_bl r1) ?_
    rw [rx.isB r1]
    exact ⟨.bl _, H, I, rfl, kk _ H (Grow.refl _ _) S (.bl _)⟩
  · cases q
end

/-! ### in -/
def D.flat : D → Bool | .non => true | .bl _ => true | .int _ => true | .str _ => true | _ => false
def strIn (a b : Str) : Bool := !(Builtin.Str.occurrences b a 0 b.length 1).isEmpty
def inD : D → D → Option D := fun x y => match y with
  | .lst ds => if x.flat && ds.all D.flat then some (.bl (ds.any fun z => D.eqv z x)) else if D.fits 63 x && D.fits 64 (.lst ds) then some (.bl (ds.any fun z => D.eqv z x)) else none
  | .tup ds => if x.flat && ds.all D.flat then some (.bl (ds.any fun z => D.eqv z x)) else none
  | .str b => match x with | .str a => some (.bl (strIn a b)) | _ => none
  | _ => none
def notInD : D → D → Option D := fun x y => match inD x y with | some (.bl b) => some (.bl (!b)) | _ => none
section
variable {Γ : Sta} {F : Addr → Prop} {H : Hp} {v : V} {d : D}
theorem RepW.flat (r : RepW Γ F H v d) (h : d.flat = true) : flatV v = true := by
  rcases r with r | ⟨a, vs, ds, rfl, rfl, h3, h4, h5⟩
  · cases r <;> first | rfl | cases h
  · cases h
theorem Rep.flatEq {w : V} {e : D} (r : Rep Γ F H v d) (r' : Rep Γ F H w e) (h : d.flat = true) (h' : e.flat = true) : eqV v w = D.eqv d e := by
  cases r <;> first | (cases h; done) | (cases r' <;> first | rfl | (cases h'; done))
theorem Reps.flat : ∀ {vs : List V} {ds : List D}, Reps Γ F H vs ds → ds.all D.flat = true → vs.all flatV = true
  | _, _, .nil, _ => rfl
  | _, _, .cons r t, h => by
    rw [List.all_cons, Bool.and_eq_true] at h
    rw [List.all_cons, Reps.flat t h.2, RepW.flat (.inl r) h.1]; rfl
theorem Reps.inV {x : V} {e : D} (rx : Rep Γ F H x e) (hx : e.flat = true) : ∀ {vs : List V} {ds : List D}, Reps Γ F H vs ds → ds.all D.flat = true → L2.inV x vs = ds.any fun z => D.eqv z e
  | _, _, .nil, _ => rfl
  | _, _, .cons r t, h => by
    rw [List.all_cons, Bool.and_eq_true] at h
    have ih := Reps.inV rx hx t h.2
    unfold L2.inV at ih ⊢
    rw [List.any_cons, List.any_cons, ih, Rep.flatEq r rx h.1 hx]
theorem flat_noLst {d : D} (h : d.flat = true) : ∀ ds, d ≠ .lst ds := fun ds z => by rw [z] at h; cases h
theorem any_py (n : Nat) (x : D) (hx : D.fits n x = true) : ∀ ds : List D, D.fitsAll (n + 1) ds = true → ((D.pys ds).any fun z => PyData.eqv z (D.py x)) = ds.any fun z => D.eqv z x
  | [], _ => rfl
  | d :: ds, h => by
    unfold D.fitsAll at h
    rw [Bool.and_eq_true] at h
    show ((PyData.eqv (D.py d) (D.py x)) || (D.pys ds).any fun z => PyData.eqv z (D.py x)) = _
    rw [any_py n x hx ds h.2, eqv_py n d x h.1 hx, List.any_cons]
end
section
variable {Γ : Sta} {X : Cx} {k : Nat}
theorem fits63 {x : D} (h : D.fits 63 x = true) : SeqAt.shaped (D.py x) = true := by
  obtain ⟨a, b⟩ := fits_shape 63 x h
  unfold SeqAt.shaped
  rw [a, decide_eq_true (Nat.le_trans b (by decide))]; rfl
theorem o_in0 (hG : Γ.K = X.K) (hr : Room k X.A) (neg : Bool) : Op3 Γ X (compareOp (if neg then .NotIn else .In)) (fun x y => if neg then notInD x y else inD x y) := fun F ρ s σ H x y d e z Q S rx ry q kk pins sh v u I r1 r2 => by
  have main : ∃ b, inD d e = some (.bl b) ∧ z = .bl (if neg then !b else b) := by
    cases neg with
    | true =>
      have q' : notInD d e = some z := q
      unfold notInD at q'
      split at q' <;> cases q'
      exact ⟨_, by assumption, rfl⟩
    | false =>
      have q' : inD d e = some z := q
      have q2 := q'
      unfold inD at q2
      repeat' split at q2
      all_goals first | (cases q2; done) | (cases q2; exact ⟨_, q', rfl⟩)
  obtain ⟨b, hb, rfl⟩ := main
  have fin : Q (.bl (if neg then !b else b)) H := kk _ H (Grow.refl _ _) S (.bl _)
  unfold inD at hb
  have seq : ∀ {p vs ds}, e.flat = e.flat → y = .ref p → (SqL X.K H p vs ∨ SqT X.K H p vs) → Reps Γ F H vs ds → d.flat = true → ds.all D.flat = true → b = (ds.any fun z => D.eqv z d) →
      wpAny (model X.prog X.w) X.A (compareOp (if neg then .NotIn else .In) v u) (EP X pins σ Q) X.xe sh := fun {p vs ds} _ hy hs rs hd ha hbb => by
    have h1 := rx.rep (flat_noLst hd)
    have h2 := Reps.inV h1 hd rs ha
    cases neg with
    | true => exact op_notIn_seq pins sh σ H x y v u Q I r1 r2 ⟨p, vs, hy, hs, rx.flat hd, rs.flat ha, by rw [h2, ← hbb]; exact fin⟩
    | false => exact op_in_seq pins sh σ H x y v u Q I r1 r2 ⟨p, vs, hy, hs, rx.flat hd, rs.flat ha, by rw [h2, ← hbb]; exact fin⟩
  split at hb
  · rename_i ds
    obtain ⟨p, vs, rfl, hp, rp⟩ := ry.lst
    split at hb
    · rename_i hc
      rw [Bool.and_eq_true] at hc
      cases hb
      exact seq rfl rfl (.inl (.inl (.inl hp))) rp hc.1 hc.2 rfl
    · split at hb
      · rename_i hc
        rw [Bool.and_eq_true] at hc
        cases hb
        have hl : D.fitsAll 64 ds = true := by have := hc.2; unfold D.fits at this; exact this
        have hu : X.A.units + 65 < cLine := by have := hr.un; omega
        have e1 := any_py 63 d hc.1 ds hl
        cases neg with
        | true => exact op_notInD hu pins sh σ H x _ v u Q I r1 r2 ⟨D.py d, D.pys ds, hG ▸ rx.dp hc.1, hG ▸ ry.dp hc.2, fits63 hc.1, fits_shaped hc.2, by rw [e1]; exact fin⟩
        | false => exact op_inD hu pins sh σ H x _ v u Q I r1 r2 ⟨D.py d, D.pys ds, hG ▸ rx.dp hc.1, hG ▸ ry.dp hc.2, fits63 hc.1, fits_shaped hc.2, by rw [e1]; exact fin⟩
      · cases hb
  · rename_i ds
    obtain ⟨p, vs, rfl, hp, rp⟩ := ry.tup
    split at hb
    · rename_i hc
      rw [Bool.and_eq_true] at hc
      cases hb
      exact seq rfl rfl (.inr (hG ▸ hp)) rp hc.1 hc.2 rfl
    · cases hb
  · split at hb
    · cases hb
      rw [rx.str] at r1
      rw [ry.str] at r2
      cases neg with
      | true => exact op_notin_str pins sh σ H _ _ v u Q I r1 r2 ⟨_, _, rfl, rfl, fin⟩
      | false => exact op_in_str pins sh σ H _ _ v u Q I r1 r2 ⟨_, _, rfl, rfl, fin⟩
    · cases hb
  · cases hb
theorem o_in (hG : Γ.K = X.K) (hr : Room k X.A) : Op3 Γ X (compareOp .In) inD := o_in0 hG hr false
theorem o_notIn (hG : Γ.K = X.K) (hr : Room k X.A) : Op3 Γ X (compareOp .NotIn) notInD := o_in0 hG hr true
end
end L3

/-! L3: expressions. -/
namespace L3
open PySem PySem.Spec PyProof.Rows L2

/-! ### comparisons, tests -/
def toBl (r : R D) : R Bool := r.bind fun d s => match d with | .bl b => .ok b s | _ => .bad
def tCmp3 (h : D → D → Option D) (ga gb : G) : GT := fun ρ s => toBl (eBin h ga gb ρ s)
def eChain (h h' : D → D → Option D) (ga gb gc : G) : G := fun ρ s => (ga ρ s).bind fun x s1 => (gb ρ s1).bind fun y s2 => match h x y with
  | some (.bl true) => (gc ρ s2).bind fun z s3 => (match h' y z with | some w => .ok w s3 | none => .bad)
  | some (.bl false) => .ok (.bl false) s2
  | _ => .bad
def truD : D → Option Bool
  | .non => some false | .bl b => some b | .int i => some (i != 0)
  | .str x => if x.length ≤ 16777216 then some ((x.length : Int) != 0) else none
  | .lst xs => some (!xs.isEmpty) | .tup xs => some (!xs.isEmpty)
  | .dic _ _ => none | .fn _ => none | .deal => none | .scr _ => none
def tTru (ga : G) : GT := fun ρ s => (ga ρ s).bind fun x s1 => match truD x with | some b => .ok b s1 | none => .bad
def tAnd3 (a b : GT) : GT := fun ρ s => (a ρ s).bind fun x s1 => if x = true then b ρ s1 else .ok false s1
def tOr3 (a b : GT) : GT := fun ρ s => (a ρ s).bind fun x s1 => if x = true then .ok true s1 else b ρ s1
def tNot3 (a : GT) : GT := fun ρ s => (a ρ s).bind fun x s1 => .ok (!x) s1
def eAnd (a b : G) : G := fun ρ s => (a ρ s).bind fun x s1 => match x with | .bl true => b ρ s1 | .bl false => .ok (.bl false) s1 | _ => .bad
def eOr (a b : G) : G := fun ρ s => (a ρ s).bind fun x s1 => match x with | .bl true => .ok (.bl true) s1 | .bl false => b ρ s1 | _ => .bad
def eNot (a : G) : G := fun ρ s => (a ρ s).bind fun x s1 => match x with | .bl b => .ok (.bl (!b)) s1 | _ => .bad
def eIf (t : GT) (a b : G) : G := fun ρ s => (t ρ s).bind fun x s1 => if x = true then a ρ s1 else b ρ s1
def eNeg (a : G) : G := fun ρ s => (a ρ s).bind fun x s1 => match x with | .int i => .ok (.int (-i)) s1 | _ => .bad
section
variable {Γ : Sta} {X : Cx} {e a b c : Expr} {es : List Expr} {ga gb gc : G} {ta tb : GT} {pos p : Pos} {h h' : D → D → Option D} {rest : List Expr}
theorem e_cmp {op : CmpOp} (ho : Op3 Γ X (compareOp op) h) (ha : L3 Γ X a ga) (hb : L3 Γ X b gb) (hm : behindInMarks op b = false) : E3 Γ X (.Compare a [op] [b] pos) (eBin h ga gb) :=
  ⟨fun Wx F ρ s σ H Q tk S p pins sh I => wpAny_Compare1 (binT can_e can_e I (bin3 ha hb ho tk S p) fun v u s2 x y H2 I2 rx ry q => q pins s2 v u I2 rx ry) hm⟩
/-- a truth value told as a Bool -/
theorem Post.toBl {F : Addr → Prop} {ρ : Env3} {σ : Sl} {H : Hp} {Wx : WX} {Q : Bool → Hp → Prop} {r : R D} (p : Post RepB Γ F ρ σ H Q Wx (toBl r)) : Post Rep Γ F ρ σ H (fun v H => ∃ k, v = .bl k ∧ Q k H) Wx r :=
  p.bind fun d s1 v H1 g S1 r1 p1 => by
    cases d with
    | bl k => cases r1; exact ⟨k, rfl, p1.val S1 rfl⟩
    | _ => exact p1.elim
theorem t_cmp {op : CmpOp} (ho : Op3 Γ X (compareOp op) h) (ha : L3 Γ X a ga) (hb : L3 Γ X b gb) (hm : behindInMarks op b = false) : T3 Γ X (.Compare a [op] [b] pos) (tCmp3 h ga gb) :=
  ⟨fun Wx F ρ s σ H Q tk S p pins sh I => wpAny_isTrue_Compare1 (binT can_e can_e I (bin3 ha hb ho tk S p.toBl) fun v u s2 x y H2 I2 rx ry q => thn (q pins s2 v u I2 rx ry) fun c s3 ⟨z, H3, I3, r3, k, e, q3⟩ => by
    subst e
    cases r3
    exact wpAny_truthy_bool ⟨H3, I3, q3⟩) hm⟩
theorem chain3 {f f' : Value → Value → Sem Value} (ho : Op3 Γ X f h) (ho' : Op3 Γ X f' h') (ha : L3 Γ X a ga) (hb : L3 Γ X b gb) (hc : L3 Γ X c gc) {Wx : WX} {F : Addr → Prop} {ρ : Env3} {s : DS} {σ : Sl} {H : Hp} {Q : VK}
    (tk : Takes X Wx) (S : SR Γ F ρ s σ H) (p : Post Rep Γ F ρ σ H Q Wx (eChain h h' ga gb gc ρ s)) : tE X a σ H fun x H1 => tE X b σ H1 fun y H2 => ∀ pins sh v u, Inv X pins σ H2 sh → RelV x v → RelV y u →
      wpAny (model X.prog X.w) X.A (f v u) (EP X pins σ fun z H3 => ∃ k, z = .bl k ∧ (if k = true then tE X c σ H3 (fun w H4 => ∀ pins sh u' w', Inv X pins σ H4 sh → RelV y u' → RelV w w' → wpAny (model X.prog X.w) X.A (f' u' w') (EP X pins σ Q) X.xe sh) else Q (.bl false) H3)) X.xe sh := by
  refine ha.run Wx F ρ s σ H _ tk S (p.bind fun x s1 v H1 g1 S1 r1 p1 => ?_)
  refine hb.run Wx F ρ s1 σ H1 _ tk S1 (p1.bind fun y s2 u H2 g2 S2 r2 p2 => ?_)
  split at p2
  · rename_i q
    refine ho F ρ s2 σ H2 v u x y _ _ S2 (r1.grown S1 g2) r2 q fun v3 H3 g3 S3 r3 => ?_
    cases r3
    refine ⟨true, rfl, ?_⟩
    rw [if_pos rfl]
    have p3 := p2.later g3
    refine hc.run Wx F ρ s2 σ H3 _ tk S3 (p3.bind fun z s4 w H4 g4 S4 r4 p4 => ?_)
    split at p4
    · rename_i w' q'
      exact ho' F ρ s4 σ H4 u w y z w' Q S4 (r2.grown S2 (g3.trans g4)) r4 q' p4
    · exact p4.elim
  · rename_i q
    refine ho F ρ s2 σ H2 v u x y _ _ S2 (r1.grown S1 g2) r2 q fun v3 H3 g3 S3 r3 => ?_
    cases r3
    refine ⟨false, rfl, ?_⟩
    rw [if_neg Bool.false_ne_true]
    exact (p2.later g3).val S3 (.bl _)
  · exact p2.elim
theorem e_chain {op op' : CmpOp} (ho : Op3 Γ X (compareOp op) h) (ho' : Op3 Γ X (compareOp op') h') (ha : L3 Γ X a ga) (hb : L3 Γ X b gb) (hc : L3 Γ X c gc) (hm : lastMarks [op, op'] [b, c] = false := by with_unfolding_all rfl) : E3 Γ X (.Compare a [op, op'] [b, c] pos) (eChain h h' ga gb gc) :=
  ⟨fun Wx F ρ s σ H Q tk S p pins sh I => by
    refine Compare_chain (thn (chain3 ho ho' ha hb hc tk S p pins sh I) fun v s1 ⟨x, H1, I1, r1, q1⟩ => chain_link (thn (q1 pins s1 I1) fun u s2 ⟨y, H2, I2, r2, q2⟩ => thn (q2 pins s2 v u I2 r1 r2) fun d s3 ⟨z, H3, I3, r3, k, e, q3⟩ => ?_)) hm
    subst e
    cases r3
    refine wpAny_truthy_bool ?_
    cases k with
    | false => exact ite_ff ⟨.bl false, H3, I3, rfl, q3⟩
    | true => exact ite_tt (chain_last (thn (q3 pins s3 I3) fun w' s4 ⟨z', H4, I4, r4, q4⟩ => q4 pins s4 u w' I4 r2 r4))⟩
theorem t_chain {op op' : CmpOp} (ho : Op3 Γ X (compareOp op) h) (ho' : Op3 Γ X (compareOp op') h') (ha : L3 Γ X a ga) (hb : L3 Γ X b gb) (hc : L3 Γ X c gc) (hm : lastMarks [op, op'] [b, c] = false := by with_unfolding_all rfl) : T3 Γ X (.Compare a [op, op'] [b, c] pos) (fun ρ s => toBl (eChain h h' ga gb gc ρ s)) :=
  ⟨fun Wx F ρ s σ H Q tk S p pins sh I => by
    refine isTrue_chain (thn (chain3 ho ho' ha hb hc tk S p.toBl pins sh I) fun v s1 ⟨x, H1, I1, r1, q1⟩ => test_link (thn (q1 pins s1 I1) fun u s2 ⟨y, H2, I2, r2, q2⟩ => thn (q2 pins s2 v u I2 r1 r2) fun d s3 ⟨z, H3, I3, r3, k, e, q3⟩ => ?_)) hm
    subst e
    cases r3
    refine wpAny_truthy_bool ?_
    cases k with
    | false =>
      obtain ⟨k', e', q'⟩ := q3
      cases e'
      exact ite_ff ⟨H3, I3, q'⟩
    | true =>
      refine ite_tt (test_last (thn (q3 pins s3 I3) fun w' s4 ⟨z', H4, I4, r4, q4⟩ => thn (q4 pins s4 u w' I4 r2 r4) fun d' s5 ⟨z2, H5, I5, r5, k2, e2, q5⟩ => ?_))
      subst e2
      cases r5
      exact wpAny_truthy_bool ⟨H5, I5, q5⟩⟩
theorem RepW.tru {F : Addr → Prop} {H : Hp} {v : V} {d : D} {k : Bool} (r : RepW Γ F H v d) (q : truD d = some k) : TruV Γ.K v H k := by
  cases d with
  | non => cases q; rw [r.non]; exact rfl
  | bl b => cases q; rw [r.bl]; exact rfl
  | int i => cases q; rw [r.int]; exact rfl
  | str x =>
    have q' : (if x.length ≤ 16777216 then some ((x.length : Int) != 0) else none) = some k := q
    by_cases hl : x.length ≤ 16777216
    · rw [if_pos hl] at q'
      cases q'
      rw [r.str]
      exact ⟨by rw [sizeLine_is]; exact hl, rfl⟩
    · rw [if_neg hl] at q'
      cases q'
  | lst xs =>
    cases q
    obtain ⟨a, vs, rfl, h1, h2⟩ := r.lst
    refine .inl ⟨vs, .inl (.inl h1), ?_⟩
    cases h2 <;> rfl
  | tup xs =>
    cases q
    obtain ⟨a, vs, rfl, h1, h2⟩ := r.tup
    refine .inr (.inl ⟨vs, h1, ?_⟩)
    cases h2 <;> rfl
  | dic _ _ => cases q
  | fn _ => cases q
  | deal => cases q
  | scr _ => cases q
/-- a test of any other form: the value's truth -/
theorem t_tru (hG : Γ.K = X.K) (ha : L3 Γ X a ga) (he : ∀ whole, isTrue a X.env whole = (do let v ← whole; standAt a.pos; holding [v] (truthy v)) := by intro _; rfl) : T3 Γ X a (tTru ga) :=
  ⟨fun Wx F ρ s σ H Q tk S p => toB (pt_truth can_e he) (ha.run Wx F ρ s σ H _ tk S (p.bind fun x s1 v H1 g1 S1 r1 p1 => by
    split at p1
    · rename_i b q
      exact ⟨b, hG ▸ r1.tru q, p1.val S1 rfl⟩
    · exact p1.elim))⟩
theorem t_not (ha : T3 Γ X a ta) : T3 Γ X (.UnaryOp .Not a pos) (tNot3 ta) :=
  ⟨fun Wx F ρ s σ H Q tk S p => toB (pt_not can_b) (ha.run Wx F ρ s σ H _ tk S (p.bind fun x s1 v H1 g1 S1 r1 p1 => by
    cases r1; exact p1.val S1 rfl))⟩
theorem tw_and1 (ha : T3 Γ X a ta) : TW3 Γ X (.BoolOp .And [a] pos) ta := ⟨fun Wx F ρ s σ H Q tk S p => toW (pw_and1 can_b) (ha.run Wx F ρ s σ H Q tk S p)⟩
theorem tw_or1 (ha : T3 Γ X a ta) : TW3 Γ X (.BoolOp .Or [a] pos) ta := ⟨fun Wx F ρ s σ H Q tk S p => toW (pw_or1 can_b) (ha.run Wx F ρ s σ H Q tk S p)⟩
theorem tw_and (ha : T3 Γ X a ta) (hb : TW3 Γ X (.BoolOp .And (b :: rest) pos) tb) : TW3 Γ X (.BoolOp .And (a :: b :: rest) pos) (tAnd3 ta tb) :=
  ⟨fun Wx F ρ s σ H Q tk S p => toW (pw_and can_b can_w) (ha.run Wx F ρ s σ H _ tk S (p.bind fun x s1 v H1 g1 S1 r1 p1 => by
    cases r1
    cases x with
    | true => rw [if_pos rfl] at p1 ⊢; exact hb.run Wx F ρ s1 σ H1 Q tk S1 p1
    | false => rw [if_neg Bool.false_ne_true] at p1 ⊢; exact p1.val S1 rfl))⟩
theorem tw_or (ha : T3 Γ X a ta) (hb : TW3 Γ X (.BoolOp .Or (b :: rest) pos) tb) : TW3 Γ X (.BoolOp .Or (a :: b :: rest) pos) (tOr3 ta tb) :=
  ⟨fun Wx F ρ s σ H Q tk S p => toW (pw_or can_b can_w) (ha.run Wx F ρ s σ H _ tk S (p.bind fun x s1 v H1 g1 S1 r1 p1 => by
    cases r1
    cases x with
    | true => rw [if_pos rfl] at p1 ⊢; exact p1.val S1 rfl
    | false => rw [if_neg Bool.false_ne_true] at p1 ⊢; exact hb.run Wx F ρ s1 σ H1 Q tk S1 p1))⟩
theorem TW3.t (h : TW3 Γ X a ta) : T3 Γ X a ta := ⟨fun Wx F ρ s σ H Q tk S p => toB (PW.pt can_w) (h.run Wx F ρ s σ H Q tk S p)⟩
/-! ### truth values as values -/
theorem e_one {op} (h : E3 Γ X a ga) : E3 Γ X (.BoolOp op [a] pos) ga := ⟨fun Wx F ρ s σ H Q tk S p => toE (pe_one can_e) (h.run Wx F ρ s σ H Q tk S p)⟩
theorem e_and (ha : E3 Γ X a ga) (hb : E3 Γ X (.BoolOp .And (b :: rest) pos) gb) : E3 Γ X (.BoolOp .And (a :: b :: rest) pos) (eAnd ga gb) :=
  ⟨fun Wx F ρ s σ H Q tk S p => toE (pe_and can_e can_e) (ha.run Wx F ρ s σ H _ tk S (p.bind fun x s1 v H1 g1 S1 r1 p1 => by
    cases x with
    | bl k =>
      cases r1
      refine ⟨k, rfl, ?_⟩
      cases k with
      | true => rw [if_pos rfl]; exact hb.run Wx F ρ s1 σ H1 Q tk S1 p1
      | false => rw [if_neg Bool.false_ne_true]; exact p1.val S1 (.bl _)
    | _ => exact p1.elim))⟩
theorem e_or (ha : E3 Γ X a ga) (hb : E3 Γ X (.BoolOp .Or (b :: rest) pos) gb) : E3 Γ X (.BoolOp .Or (a :: b :: rest) pos) (eOr ga gb) :=
  ⟨fun Wx F ρ s σ H Q tk S p => toE (pe_or can_e can_e) (ha.run Wx F ρ s σ H _ tk S (p.bind fun x s1 v H1 g1 S1 r1 p1 => by
    cases x with
    | bl k =>
      cases r1
      refine ⟨k, rfl, ?_⟩
      cases k with
      | true => rw [if_pos rfl]; exact p1.val S1 (.bl _)
      | false => rw [if_neg Bool.false_ne_true]; exact hb.run Wx F ρ s1 σ H1 Q tk S1 p1
    | _ => exact p1.elim))⟩
theorem e_not (ha : E3 Γ X a ga) : E3 Γ X (.UnaryOp .Not a pos) (eNot ga) :=
  ⟨fun Wx F ρ s σ H Q tk S p => toE (pe_not can_e) (ha.run Wx F ρ s σ H _ tk S (p.bind fun x s1 v H1 g1 S1 r1 p1 => by
    cases x with
    | bl k => cases r1; exact ⟨k, rfl, p1.val S1 (.bl _)⟩
    | _ => exact p1.elim))⟩
theorem e_neg (ha : E3 Γ X a ga) : E3 Γ X (.UnaryOp .USub a pos) (eNeg ga) :=
  ⟨fun Wx F ρ s σ H Q tk S p => toE (pe_un un_neg can_e) (ha.run Wx F ρ s σ H _ tk S (p.bind fun x s1 v H1 g1 S1 r1 p1 => by
    cases x with
    | int k => cases r1; exact ⟨k, rfl, p1.val S1 (.int _)⟩
    | _ => exact p1.elim))⟩
theorem e_if (hc : T3 Γ X c ta) (ha : E3 Γ X a ga) (hb : E3 Γ X b gb) : E3 Γ X (.IfExp c a b pos) (eIf ta ga gb) :=
  ⟨fun Wx F ρ s σ H Q tk S p => toE (pe_ifExp can_b can_e can_e) (hc.run Wx F ρ s σ H _ tk S (p.bind fun x s1 v H1 g1 S1 r1 p1 => by
    cases r1
    cases x with
    | true => rw [if_pos rfl] at p1 ⊢; exact ha.run Wx F ρ s1 σ H1 Q tk S1 p1
    | false => rw [if_neg Bool.false_ne_true] at p1 ⊢; exact hb.run Wx F ρ s1 σ H1 Q tk S1 p1))⟩
end

/-! ### rows of arguments, displays -/
def aNil : GL := fun _ s => .ok [] s
def aCons (ga : G) (gr : GL) : GL := fun ρ s => (ga ρ s).bind fun x s1 => (gr ρ s1).bind fun xs s2 => .ok (x :: xs) s2
def eTup (ga : GL) : G := fun ρ s => (ga ρ s).bind fun xs s1 => if xs.length ≤ 16777216 then .ok (.tup xs) s1 else .bad
def eLst (ga : GL) : G := fun ρ s => (ga ρ s).bind fun xs s1 => if xs.length ≤ 16777216 then .ok (.lst xs) s1 else .bad
section
variable {Γ : Sta} {X : Cx} {e a b c : Expr} {es : List Expr} {ga gb gc : G} {gr : GL} {pos p : Pos}
theorem a_nil : A3 Γ X [] aNil := ⟨fun Wx F ρ s σ H Q tk S p => toA pa_nil (p.val S .nil)⟩
theorem a_cons (ha : E3 Γ X a ga) (hr : A3 Γ X es gr) (hs : starEach (a :: es) X.env = (false, eval a X.env) :: starEach es X.env := by rfl) : A3 Γ X (a :: es) (aCons ga gr) :=
  ⟨fun Wx F ρ s σ H Q tk S p => toA (pa_cons can_e can_a hs) (ha.run Wx F ρ s σ H _ tk S (p.bind fun x s1 v H1 g1 S1 r1 p1 =>
    hr.run Wx F ρ s1 σ H1 _ tk S1 (p1.bind fun xs s2 vs H2 g2 S2 r2 p2 => p2.val S2 (.cons (r1.grown S1 g2) r2))))⟩
theorem w_nil : AW3 Γ X [] aNil := ⟨fun Wx F ρ s σ H Q tk S p => toA pa_nil (p.val S .nil)⟩
theorem w_cons (ha : L3 Γ X a ga) (hr : AW3 Γ X es gr) (hs : starEach (a :: es) X.env = (false, eval a X.env) :: starEach es X.env := by rfl) : AW3 Γ X (a :: es) (aCons ga gr) :=
  ⟨fun Wx F ρ s σ H Q tk S p => toA (pa_cons can_e can_a hs) (ha.run Wx F ρ s σ H _ tk S (p.bind fun x s1 v H1 g1 S1 r1 p1 =>
    hr.run Wx F ρ s1 σ H1 _ tk S1 (p1.bind fun xs s2 vs H2 g2 S2 r2 p2 => p2.val S2 (.cons (r1.grown S1 g2) r2))))⟩
theorem e_tup {x1} (h : A3 Γ X es gr) : E3 Γ X (.Tuple es x1 pos) (eTup gr) :=
  ⟨fun Wx F ρ s σ H Q tk S p => toE (pe_tup can_a) (h.run Wx F ρ s σ H _ tk S (p.bind fun xs s1 vs H1 g1 S1 r1 p1 => by
    split at p1
    · rename_i hl
      exact ⟨by rw [sizeLine_is, r1.length]; exact hl, kTup S1 r1 p1⟩
    · exact p1.elim))⟩
theorem e_lst (h : A3 Γ X es gr) : E3 Γ X (.List es pos) (eLst gr) :=
  ⟨fun Wx F ρ s σ H Q tk S p => toE (pe_lst can_a) (h.run Wx F ρ s σ H _ tk S (p.bind fun xs s1 vs H1 g1 S1 r1 p1 => by
    split at p1
    · rename_i hl
      exact ⟨by rw [sizeLine_is, r1.length]; exact hl, kLst S1 r1 p1⟩
    · exact p1.elim))⟩
end

/-! ### subscripts, slices -/
def ixD (x : D) (i : Int) : Option D := match x with
  | .lst xs => atI xs i | .tup xs => atI xs i
  | .str z => if z.length ≤ 16777216 then (atI z.cps.toList i).map fun c => .str ⟨#[c]⟩ else none
  | _ => none
def eIx (ga gb : G) : G := fun ρ s => (ga ρ s).bind fun x s1 => (gb ρ s1).bind fun y s2 => match y with
  | .int i => (match ixD x i with | some z => .ok z s2 | none => .bad) | _ => .bad
theorem Reps.atI {Γ : Sta} {F : Addr → Prop} {H : Hp} {vs : List V} {ds : List D} {i : Int} {d : D} (r : Reps Γ F H vs ds) (h : L2.atI ds i = some d) : ∃ v, L2.atI vs i = some v ∧ Rep Γ F H v d := by
  unfold L2.atI at h ⊢
  rw [r.length]
  cases q : ixN ds.length i with
  | none => rw [q] at h; cases h
  | some j => rw [q] at h; exact r.get h
def cutD {α : Type} (xs : List α) (lo hi : Option Int) : List α := (xs.drop (HT.sIx xs.length 0 lo)).take (HT.sIx xs.length xs.length hi - HT.sIx xs.length 0 lo)
theorem Reps.cut {Γ : Sta} {F : Addr → Prop} {H : Hp} {vs : List V} {ds : List D} (r : Reps Γ F H vs ds) (lo hi : Option Int) : Reps Γ F H (cutV vs lo hi) (cutD ds lo hi) := by
  unfold cutV cutD
  rw [r.length]
  exact (r.drop _).take _
def slD (x : D) (lo hi : Option Int) : Option D := match x with
  | .lst xs => some (.lst (cutD xs lo hi)) | .tup xs => some (.tup (cutD xs lo hi))
  | .str z => if z.length ≤ 16777216 then some (.str (cutS z lo hi)) else none
  | _ => none
abbrev GO := Env3 → DS → R (Option Int)
def oNone : GO := fun _ s => .ok none s
def oSome (ga : G) : GO := fun ρ s => (ga ρ s).bind fun x s1 => match x with | .int i => .ok (some i) s1 | _ => .bad
def eSl (ga : G) (gl gh : GO) : G := fun ρ s => (ga ρ s).bind fun x s1 => (gl ρ s1).bind fun lo s2 => (gh ρ s2).bind fun hi s3 => match slD x lo hi with | some z => .ok z s3 | none => .bad
def eRev (ga : G) : G := fun ρ s => (ga ρ s).bind fun x s1 => match x with | .lst xs => .ok (.lst xs.reverse) s1 | _ => .bad
def RepO (_ : Sta) (_ : Addr → Prop) (_ : Hp) (a b : Option Int) : Prop := a = b
def tO3 (X : Cx) (e : Option Expr) : TO := fun σ H Q => ∀ pins s, Inv X pins σ H s → wpAny (model X.prog X.w) X.A (evalPart e X.env) (fun u s' => ∃ o H', Inv X pins σ H' s' ∧ IsPart u o ∧ Q o H') X.xe s
theorem can_o {X : Cx} {e : Option Expr} : PO X e (tO3 X e) := ⟨fun pins s σ H Q I h => h pins s I⟩
structure O3 (Γ : Sta) (X : Cx) (e : Option Expr) (g : GO) : Prop where
  run : ∀ (Wx : WX) (F : Addr → Prop) (ρ : Env3) (s : DS) (σ : Sl) (H : Hp) (Q : Option Int → Hp → Prop), Takes X Wx → SR Γ F ρ s σ H → Post RepO Γ F ρ σ H Q Wx (g ρ s) → tO3 X e σ H Q
section
variable {Γ : Sta} {X : Cx} {e a b c : Expr} {lo hi : Option Expr} {ga gb gc : G} {gl gh : GO} {pos p p2 : Pos}
theorem e_ix (hG : Γ.K = X.K) (ha : L3 Γ X a ga) (hb : E3 Γ X b gb) (hs : PlainIx b := by intro _ _; rfl) : E3 Γ X (.Subscript a b pos) (eIx ga gb) :=
  ⟨fun Wx F ρ s σ H Q tk S p => toE (pe_ix ix_seq can_e can_e hs) (ha.run Wx F ρ s σ H _ tk S (p.bind fun x s1 v H1 g1 S1 r1 p1 =>
    hb.run Wx F ρ s1 σ H1 _ tk S1 (p1.bind fun y s2 u H2 g2 S2 r2 p2 => by
      cases y with
      | int i =>
        cases r2
        have r1' := r1.grown S1 g2
        change Post Rep Γ F ρ σ H2 Q Wx (match ixD x i with | some z => .ok z s2 | none => .bad) at p2
        split at p2
        · rename_i z q
          unfold ixD at q
          split at q
          · obtain ⟨a, vs, rfl, h1, h2⟩ := r1'.lst
            obtain ⟨w, h3, h4⟩ := h2.atI q
            exact .inl ⟨a, vs, i, w, rfl, rfl, .inl (.inl h1), h3, p2.val S2 h4⟩
          · obtain ⟨a, vs, rfl, h1, h2⟩ := r1'.tup
            obtain ⟨w, h3, h4⟩ := h2.atI q
            exact .inr (.inl ⟨a, vs, i, w, rfl, rfl, hG ▸ h1, h3, p2.val S2 h4⟩)
          · split at q
            · rename_i z0 hl
              obtain ⟨c, hc, rfl⟩ := Option.map_eq_some_iff.mp q
              rw [r1'.str]
              exact .inr (.inr ⟨_, i, c, rfl, rfl, by rw [sizeLine_is]; exact hl, hc, p2.val S2 (.str _)⟩)
            · cases q
          · cases q
        · exact p2.elim
      | _ => exact p2.elim)))⟩
theorem o_none : O3 Γ X none oNone := ⟨fun Wx F ρ s σ H Q tk S p pins sh I => po_none.run pins sh σ H Q I (p.val S rfl)⟩
theorem o_some (ha : E3 Γ X a ga) : O3 Γ X (some a) (oSome ga) := ⟨fun Wx F ρ s σ H Q tk S p pins sh I => (po_some can_e).run pins sh σ H Q I (ha.run Wx F ρ s σ H _ tk S (p.bind fun x s1 v H1 g1 S1 r1 p1 => by
  cases x with
  | int i => cases r1; exact ⟨i, rfl, p1.val S1 rfl⟩
  | _ => exact p1.elim))⟩
theorem e_sl (hG : Γ.K = X.K) (ha : L3 Γ X a ga) (hl : O3 Γ X lo gl) (hh : O3 Γ X hi gh) : E3 Γ X (.Subscript a (.Slice lo hi none p2) pos) (eSl ga gl gh) :=
  ⟨fun Wx F ρ s σ H Q tk S p => toE (pe_slice (SlR.or sl_list (SlR.or sl_tupA sl_str)) can_e can_o can_o) (ha.run Wx F ρ s σ H _ tk S (p.bind fun x s1 v H1 g1 S1 r1 p1 =>
    hl.run Wx F ρ s1 σ H1 _ tk S1 (p1.bind fun l s2 l' H2 g2 S2 e2 p2 => hh.run Wx F ρ s2 σ H2 _ tk S2 (p2.bind fun u s3 u' H3 g3 S3 e3 p3 => by
      cases e2; cases e3
      have r3 := r1.grown S1 (g2.trans g3)
      split at p3
      · rename_i z q
        unfold slD at q
        split at q
        · cases q
          obtain ⟨a, vs, rfl, h1, h2⟩ := r3.lst
          exact .inl ⟨a, vs, rfl, .inl (.inl h1), kLst S3 (h2.cut _ _) p3⟩
        · cases q
          rename_i ds
          obtain ⟨a, vs, rfl, h1, h2⟩ := r3.tup
          refine .inr (.inl ⟨a, vs, rfl, hG ▸ h1, fun z => ?_, fun _ => kTup S3 (h2.cut _ _) p3⟩)
          have e1 : cutD ds l u = ds := by
            unfold cutD
            rw [← h2.length, z.1, z.2, List.drop_zero, Nat.sub_zero]
            exact List.take_of_length_le (by rw [h2.length]; exact Nat.le_refl _)
          rw [e1] at p3
          exact p3.val S3 (r3.rep (fun _ h => by cases h))
        · split at q <;> cases q
          rename_i z0 hl
          rw [r3.str]
          exact .inr (.inr ⟨_, rfl, by rw [sizeLine_is]; exact hl, p3.val S3 (.str _)⟩)
        · cases q
      · exact p3.elim))))⟩
theorem e_rev {k : Nat} {p1 p2 p3 : Pos} (ha : L3 Γ X a ga) : E3 Γ X (.Subscript a (.Slice none none (some (.UnaryOp .USub (.Constant (.int 1) k p1) p2)) p3) pos) (eRev ga) :=
  ⟨fun Wx F ρ s σ H Q tk S p => toE (pe_revL can_e) (ha.run Wx F ρ s σ H _ tk S (p.bind fun x s1 v H1 g1 S1 r1 p1 => by
    cases x with
    | lst ds =>
      obtain ⟨a, vs, rfl, h1, h2⟩ := r1.lst
      exact ⟨a, vs, rfl, .inl (.inl h1), kLst S1 h2.reverse p1⟩
    | _ => exact p1.elim))⟩
end
end L3

/-! L3: calls. -/
namespace L3
open PySem PySem.Spec PyProof.Rows L2

section
variable {Γ Γ' : Sta} {F : Addr → Prop} {H : Hp}
mutual
theorem Rep.sta (hK : Γ.K = Γ'.K) (hm : Γ.mg = Γ'.mg) (hd : Γ.dl = Γ'.dl) : ∀ {v : V} {d : D}, Rep Γ F H v d → Rep Γ' F H v d
  | _, _, .non => .non
  | _, _, .bl b => .bl b
  | _, _, .int i => .int i
  | _, _, .str x => .str x
  | _, _, .lst h r => .lst h (Reps.sta hK hm hd r)
  | _, _, .tup h r => .tup (hK ▸ h) (Reps.sta hK hm hd r)
  | _, _, .fn h => .fn (hm ▸ h)
  | _, _, .deal h => .deal (hd ▸ h)
  | _, _, .dic h n r => .dic h n (Reps.sta hK hm hd r)
  | _, _, .scr h => .scr (hK ▸ h)
theorem Reps.sta (hK : Γ.K = Γ'.K) (hm : Γ.mg = Γ'.mg) (hd : Γ.dl = Γ'.dl) : ∀ {vs : List V} {ds : List D}, Reps Γ F H vs ds → Reps Γ' F H vs ds
  | _, _, .nil => .nil
  | _, _, .cons r t => .cons (Rep.sta hK hm hd r) (Reps.sta hK hm hd t)
end
theorem ExcIs.sta {cls : Value} {dd : Option Addr} {x : Xc} (hK : Γ.K = Γ'.K) (hm : Γ.mg = Γ'.mg) (hd : Γ.dl = Γ'.dl) (h : ExcIs Γ F H cls dd x) : ExcIs Γ' F H cls dd x := by
  obtain ⟨C, d, v, h1, h2, h3, h4, h5⟩ := h
  exact ⟨C, d, v, hm ▸ h1, h2, h3, h4, h5.sta hK hm hd⟩
end
/-- the statics of a callee -/
def Sta.call (Γ : Sta) (F : Addr → Prop) (H : Hp) : Sta := { Γ with F0 := F, H0 := H }
theorem Rep.inC {Γ : Sta} {F' F : Addr → Prop} {H H' : Hp} {v : V} {d : D} (r : Rep Γ F H v d) : Rep (Γ.call F' H') F H v d := Rep.sta (Γ := Γ) (Γ' := Γ.call F' H') rfl rfl rfl r
theorem Rep.outC {Γ : Sta} {F' F : Addr → Prop} {H H' : Hp} {v : V} {d : D} (r : Rep (Γ.call F' H') F H v d) : Rep Γ F H v d := Rep.sta (Γ := Γ.call F' H') (Γ' := Γ) rfl rfl rfl r
def PostF (Γ : Sta) (Q : VK) (E : XK) : R D → Prop
  | .ok d s' => ∀ v H', Grow Γ.G Γ.H0 H' → DealAt Γ H' s' → LamX.Tabs Γ.T H' → Rep Γ Γ.F0 H' v d → Q v H'
  | .exc x s' => ∀ cls dd H', Grow Γ.G Γ.H0 H' → DealAt Γ H' s' → LamX.Tabs Γ.T H' → ExcIs Γ Γ.F0 H' cls dd x → E cls dd H'
  | .bad => False
/-- what a def does, by its mirror -/
def spM (K : PySem.W.Frag) (mg : Str → Option Value) (T : List (Addr × Str)) (n : Nat) (f : List D → DS → R D) : Sp := fun vs H Q E => vs.length = n ∧
  ∃ dl F0 ds s, Reps ⟨K, mg, dl, F0, H, T⟩ F0 H vs ds ∧ (∀ a, F0 a → ∃ o, H a = some o) ∧ (∀ a, (⟨K, mg, dl, F0, H, T⟩ : Sta).G a → F0 a) ∧ DealAt ⟨K, mg, dl, F0, H, T⟩ H s ∧ LamX.Tabs T H ∧ PostF ⟨K, mg, dl, F0, H, T⟩ Q E (f ds s)
theorem spM_len {K : PySem.W.Frag} {mg : Str → Option Value} {T : List (Addr × Str)} {n : Nat} {f : List D → DS → R D} {vs : List V} {H : Hp} {Q : VK} {E : XK} (h : spM K mg T n f vs H Q E) : vs.length = n := h.1
section
variable {Γ : Sta} {F : Addr → Prop} {ρ : Env3} {s : DS} {σ : Sl} {H : Hp} {Q : VK} {Wx : WX} {f : List D → DS → R D} {n : Nat} {vs : List V} {ds : List D}
/-- a call's wish, from the caller's -/
theorem spM_call (S : SR Γ F ρ s σ H) (r : Reps Γ F H vs ds) (hn : vs.length = n) (p : Post Rep Γ F ρ σ H Q Wx (f ds s)) : spM Γ.K Γ.mg Γ.T n f vs H Q (fun cls d H' => Wx cls d σ H') := by
  refine ⟨hn, Γ.dl, F, ds, s, Reps.sta (Γ := Γ) (Γ' := ⟨Γ.K, Γ.mg, Γ.dl, F, H, Γ.T⟩) rfl rfl rfl r, S.alloc, fun a z => S.sub a (S.gsub a z), S.deal, S.tabs, ?_⟩
  cases q : f ds s with
  | ok d s' =>
    rw [q] at p
    exact fun v H' g dl tb rr => p v H' g (S.grown g dl tb) (Rep.sta (Γ := ⟨Γ.K, Γ.mg, Γ.dl, F, H, Γ.T⟩) (Γ' := Γ) rfl rfl rfl rr)
  | exc x s' =>
    rw [q] at p
    exact fun cls dd H' g dl tb rr => p cls dd H' g (S.grown g dl tb) (ExcIs.sta (Γ := ⟨Γ.K, Γ.mg, Γ.dl, F, H, Γ.T⟩) (Γ' := Γ) rfl rfl rfl rr)
  | bad => rw [q] at p; exact p
end
def eCall (f : List D → DS → R D) (ga : GL) : G := fun ρ s => (ga ρ s).bind fun ds s1 => f ds s1
/-- what a text's piece knows of the statics -/
structure Here (Γ : Sta) (X : Cx) : Prop where
  K : Γ.K = X.K
  mg : Γ.mg = X.mg
section
variable {Γ : Sta} {X : Cx} {e a b c : Expr} {es : List Expr} {ga gb gc : G} {gr : GL} {pos p : Pos} {k n : Nat} {f : List D → DS → R D} {fa : Addr} {fd : FuncData} {ps : List Str} {x : Str} {dvs : List V} {dus : List Value} {dds : List D} {kws : List Keyword}
theorem run3 {pins : List (Addr × Obj)} {σ : Sl} {H : Hp} {sh : Shared} {Q : VK} {us : List Value} {args : Args} {vs : List V} {ds : List D} {Wx : WX} {F : Addr → Prop} {ρ : Env3} {s : DS} (hH : Here Γ X) (Fn : FnOk X.prog X.w X.K X.mg X.base (L2.CX X.prog X.w) k fa fd ps (spM X.K X.mg Γ.T n f)) (hr : Room k X.A)
    (hb : BindsTo sh fd args (ps.zip us)) (tk : Takes X Wx) (S : SR Γ F ρ s σ H) (I : Inv X pins σ H sh) (r : Vals vs us) (rd : Reps Γ F H vs ds) (hn : vs.length = n) (p : Post Rep Γ F ρ σ H Q Wx (f ds s)) :
    codeAny (model X.prog X.w) X.A (.call (.ref fa) args) (fun r s' => match r with | .ok (.ret u) => EP X pins σ Q u s' | .ok _ => False | .error e => X.xe e s') sh := by
  have h := spM_call S rd hn p
  rw [hH.K, hH.mg] at h
  refine codeAny_mono (Fn.run X.A X.stack sh H args us vs Q _ hr I.env0 hb r h) fun r s' hq => ?_
  cases r with
  | error e => exact passAt tk σ pins H sh e s' I hq
  | ok fl =>
    cases fl with
    | ret u => exact I.after hq
    | next => exact False.elim hq
    | brk => exact False.elim hq
    | cont => exact False.elim hq
theorem call3 {pins : List (Addr × Obj)} {σ : Sl} {sh : Shared} {Q : VK} {us : List Value} {kw : List (Str × Value)}
    (h : codeAny (model X.prog X.w) X.A (.call (.ref fa) ⟨us, kw⟩) (fun r s' => match r with | .ok (.ret u) => EP X pins σ Q u s' | .ok _ => False | .error e => X.xe e s') sh) : wpAny (model X.prog X.w) X.A (call (.ref fa) us kw) (EP X pins σ Q) X.xe sh :=
  wpAny_call (codeAny_mono h fun r s' hq => by
    cases r with
    | error e => exact hq
    | ok fl =>
      cases fl with
      | ret u => exact hq
      | next => exact False.elim hq
      | brk => exact False.elim hq
      | cont => exact False.elim hq)
theorem Reps.of_def {F : Addr → Prop} {H : Hp} (h : ∀ F H, Reps Γ F H dvs dds) : Reps Γ F H dvs dds := h F H
/-- f(e, ..); dds: the defaults that fill up -/
theorem e_call (hH : Here Γ X) (Fn : FnOk X.prog X.w X.K X.mg X.base (L2.CX X.prog X.w) k fa fd ps (spM X.K X.mg Γ.T n f)) (hf : ∀ ds s, ds.length ≠ n → f ds s = .bad) (hr : Room k X.A) (hm : X.mg x = some (.ref fa)) (hk : PySem.W.keepIn X.K (.ref fa) = true) (hb : Binds X.K fd ps dus) (hd : Vals dvs dus) (hdd : ∀ F H, Reps Γ F H dvs dds)
    (hps : ps.length = n) (hg : Gl X x) (ha : A3 Γ X (e :: es) gr) (hdb : (x == ("__debug__" : Str)) = false := by decide) (he : starEach (e :: es) X.env = (false, eval e X.env) :: starEach es X.env := by rfl) (hpl : (backTo pos (starEach es X.env)).any (·.1) = false := by rfl) :
    E3 Γ X (.Call (.Name x p) (e :: es) [] pos) (eCall (fun ds => f (ds ++ dds)) gr) :=
  ⟨fun Wx F ρ s σ H Q tk S pp pins sh I => by
    refine wpAny_Call_Name_kw (ld_glob I hg hm ?_ hdb)
    refine PySem.W.callWith_K (h₀ := X.base) I.ok.mod.kin hk (thn ((can_a (X := X) (es := e :: es)).run pos pins sh σ H _ I (ha.run Wx F ρ s σ H (fun vs H1 => ∃ ds s1, SR Γ F ρ s1 σ H1 ∧ Reps Γ F H1 vs ds ∧ Post Rep Γ F ρ σ H1 Q Wx (f (ds ++ dds) s1)) tk S (pp.bind fun ds s1 vs H1 g1 S1 r1 p1 => ⟨ds, s1, S1, r1, p1⟩)))
      fun us s1 ⟨vs, H1, I1, r, ds, t1, S1, r1, p1⟩ => ⟨I1.kIn, ?_⟩) he hpl
    have r2 : Vals (vs ++ dvs) (us ++ dus) := r.append hd
    have rd : Reps Γ F H1 (vs ++ dvs) (ds ++ dds) := r1.append (hdd F H1)
    have hn : (ds ++ dds).length = n := Classical.byContradiction fun z => by rw [hf _ _ z] at p1; exact p1
    have hn2 : (vs ++ dvs).length = n := rd.length.trans hn
    have hbb := hb s1 us I1.kIn (by rw [← r2.length, hn2, hps])
    exact call3 (run3 hH Fn hr hbb tk S1 I1 r2 rd hn2 p1)⟩
/-- f() -/
theorem e_call0 (hH : Here Γ X) (Fn : FnOk X.prog X.w X.K X.mg X.base (L2.CX X.prog X.w) k fa fd ps (spM X.K X.mg Γ.T n f)) (hf : ∀ ds s, ds.length ≠ n → f ds s = .bad) (hr : Room k X.A) (hm : X.mg x = some (.ref fa)) (hk : PySem.W.keepIn X.K (.ref fa) = true) (hb : Binds X.K fd ps dus) (hd : Vals dvs dus) (hdd : ∀ F H, Reps Γ F H dvs dds)
    (hps : ps.length = n) (hg : Gl X x) (hdb : (x == ("__debug__" : Str)) = false := by decide) : E3 Γ X (.Call (.Name x p) [] [] pos) (eCall (fun ds => f (ds ++ dds)) aNil) :=
  ⟨fun Wx F ρ s σ H Q tk S pp pins sh I => by
    refine wpAny_Call_Name_kw (ld_glob I hg hm ?_ hdb)
    refine PySem.W.callWith_K0 I.kIn hk ?_
    have rd : Reps Γ F H dvs dds := hdd F H
    have p1 : Post Rep Γ F ρ σ H Q Wx (f ([] ++ dds) s) := pp
    rw [List.nil_append] at p1
    have hn : dds.length = n := Classical.byContradiction fun z => by rw [hf _ _ z] at p1; exact p1
    have hn2 : dvs.length = n := rd.length.trans hn
    have hbb := hb sh [] I.kIn (by rw [List.nil_append, ← hd.length, hn2, hps])
    rw [List.nil_append] at hbb
    exact call3 (run3 hH Fn hr hbb tk S I hd rd hn2 p1)⟩
/-- the values of the keywords, in their order -/
def tK3 (X : Cx) (kws : List Keyword) : TA := fun σ H Q => ∀ pos pins s, Inv X pins σ H s → wpAny (model X.prog X.w) X.A (evalAll ((backToKw pos (keywordEach kws X.env)).map (·.2))) (AP X pins σ Q) X.xe s
theorem can_k : PK X kws (tK3 X kws) := ⟨fun pos pins s σ H Q I h => h pos pins s I⟩
structure K3 (Γ : Sta) (X : Cx) (kws : List Keyword) (g : GL) : Prop where
  run : ∀ (Wx : WX) (F : Addr → Prop) (ρ : Env3) (s : DS) (σ : Sl) (H : Hp) (Q : List V → Hp → Prop), Takes X Wx → SR Γ F ρ s σ H → Post Reps Γ F ρ σ H Q Wx (g ρ s) → tK3 X kws σ H Q
theorem k_nil : K3 Γ X [] aNil := ⟨fun Wx F ρ s σ H Q tk S p pos pins sh I => pk_nil.run pos pins sh σ H Q I (p.val S .nil)⟩
theorem k_cons {nm : Option Str} {kpos : Pos} (ha : E3 Γ X a ga) (hr : K3 Γ X kws gr) : K3 Γ X (⟨nm, a, kpos⟩ :: kws) (aCons ga gr) :=
  ⟨fun Wx F ρ s σ H Q tk S p pos pins sh I => (pk_cons can_e can_k).run pos pins sh σ H Q I (ha.run Wx F ρ s σ H _ tk S (p.bind fun x s1 v H1 g1 S1 r1 p1 =>
    hr.run Wx F ρ s1 σ H1 _ tk S1 (p1.bind fun xs s2 vs H2 g2 S2 r2 p2 => p2.val S2 (.cons (r1.grown S1 g2) r2))))⟩
/-- f(k = v, ..), every parameter by its name in the order of the def -/
theorem e_callK (hH : Here Γ X) (Fn : FnOk X.prog X.w X.K X.mg X.base (L2.CX X.prog X.w) k fa fd ps (spM X.K X.mg Γ.T n f)) (hf : ∀ ds s, ds.length ≠ n → f ds s = .bad) (hr : Room k X.A) (hm : X.mg x = some (.ref fa)) (hk : PySem.W.keepIn X.K (.ref fa) = true)
    (hb : ∀ (s : Shared) (ws : List Value), ws.length = ps.length → BindsTo s fd ⟨[], ps.zip ws⟩ (ps.zip ws)) (hps : ps.length = n) (hg : Gl X x) (ha : K3 Γ X kws gr) (hks : (backToKw pos (keywordEach kws X.env)).filterMap (·.1) = ps := by rfl)
    (hall : (backToKw pos (keywordEach kws X.env)).all (·.1.isSome) = true := by rfl) (hdb : (x == ("__debug__" : Str)) = false := by decide)
    (hpl : ((backTo pos (starEach [] X.env)).any (·.1) || (backToKw pos (keywordEach kws X.env)).any (·.1.isNone)) = false := by rfl) :
    E3 Γ X (.Call (.Name x p) [] kws pos) (eCall f gr) :=
  ⟨fun Wx F ρ s σ H Q tk S pp pins sh I => by
    refine wpAny_Call_Name_kw (ld_glob I hg hm ?_ hdb)
    refine PySem.W.callWith_KW0 (h₀ := X.base) I.ok.mod.kin hk hall (thn ((can_k (X := X) (kws := kws)).run pos pins sh σ H _ I (ha.run Wx F ρ s σ H (fun vs H1 => ∃ ds s1, SR Γ F ρ s1 σ H1 ∧ Reps Γ F H1 vs ds ∧ Post Rep Γ F ρ σ H1 Q Wx (f ds s1)) tk S (pp.bind fun ds s1 vs H1 g1 S1 r1 p1 => ⟨ds, s1, S1, r1, p1⟩)))
      fun us s1 ⟨vs, H1, I1, r, ds, t1, S1, r1, p1⟩ => ⟨I1.kIn, ?_⟩) hpl
    rw [hks]
    have hn : ds.length = n := Classical.byContradiction fun z => by rw [hf _ _ z] at p1; exact p1
    have hn2 : vs.length = n := r1.length.trans hn
    have hu : us.length = ps.length := by rw [← r.length, hn2, hps]
    exact call3 (run3 hH Fn hr (hb s1 us hu) tk S1 I1 r r1 hn2 p1)⟩
end
end L3

/-! L3: targets, statements, walks. -/
namespace L3
open PySem PySem.Spec PyProof.Rows L2

/-! ### states behind a store -/
section
variable {Γ : Sta} {F F' : Addr → Prop} {ρ : Env3} {s s' : DS} {σ : Sl} {H H' : Hp}
theorem set_cases {α : Type} {l : List α} {i j : Nat} {a b : α} (h : (l.set i a)[j]? = some b) : (i = j ∧ i < l.length ∧ a = b) ∨ (i ≠ j ∧ l[j]? = some b) := by
  by_cases e : i = j
  · subst e
    rw [List.getElem?_set_self'] at h
    cases q : l[i]? with
    | none => rw [q] at h; cases h
    | some z =>
      rw [q] at h
      have hl := (List.getElem?_eq_some_iff.mp q).1
      exact .inl ⟨rfl, hl, Option.some.inj h⟩
  · exact .inr ⟨e, by rw [List.getElem?_set_ne e] at h; exact h⟩
theorem SlotR.set {i j : Nat} {b : B} {x : Option V} (h : SlotR Γ F H σ j b) (ne : i ≠ j) : SlotR Γ F H (σ.set i x) j b := by
  cases b with
  | d d => obtain ⟨v, h1, h2⟩ := h; exact ⟨v, by rw [List.getElem?_set_ne ne]; exact h1, h2⟩
  | o ds => obtain ⟨a, vs, h1, h2⟩ := h; exact ⟨a, vs, by rw [List.getElem?_set_ne ne]; exact h1, h2⟩
/-- a slot gets data -/
theorem SR.put (S : SR Γ F ρ s σ H) {i : Nat} {v : V} {d : D} (r : Rep Γ F H v d) (hl : i < σ.length) : SR Γ F (ρ.set i (some (.d d))) s (σ.set i (some v)) H :=
  { S with
    slots := fun j b e => by
      rcases set_cases e with ⟨rfl, h1, h2⟩ | ⟨ne, h⟩
      · cases h2
        exact ⟨v, by rw [List.getElem?_set_self hl], r⟩
      · exact (S.slots j b h).set ne
    inj := fun j k xs ys a e1 e2 e3 e4 => by
      rcases set_cases e1 with ⟨rfl, h1, h2⟩ | ⟨ne, h⟩
      · cases h2
      · rcases set_cases e2 with ⟨rfl, h1', h2'⟩ | ⟨ne', h'⟩
        · cases h2'
        · rw [List.getElem?_set_ne ne] at e3
          rw [List.getElem?_set_ne ne'] at e4
          exact S.inj j k xs ys a h h' e3 e4 }
/-- a slot is forgotten -/
theorem SR.drop (S : SR Γ F ρ s σ H) {i : Nat} {x : Option V} : SR Γ F (ρ.set i none) s (σ.set i x) H :=
  { S with
    slots := fun j b e => by
      rcases set_cases e with ⟨rfl, h1, h2⟩ | ⟨ne, h⟩
      · cases h2
      · exact (S.slots j b h).set ne
    inj := fun j k xs ys a e1 e2 e3 e4 => by
      rcases set_cases e1 with ⟨rfl, h1, h2⟩ | ⟨ne, h⟩
      · cases h2
      · rcases set_cases e2 with ⟨rfl, h1', h2'⟩ | ⟨ne', h'⟩
        · cases h2'
        · rw [List.getElem?_set_ne ne] at e3
          rw [List.getElem?_set_ne ne'] at e4
          exact S.inj j k xs ys a h h' e3 e4 }
/-- a slot's own list becomes data like any other -/
theorem SR.freeze (S : SR Γ F ρ s σ H) {i : Nat} {ds : List D} (hi : ρ[i]? = some (some (.o ds))) : ∃ F', (∀ a, F' a → F a) ∧ SR Γ F' (ρ.set i (some (.d (.lst ds)))) s σ H := by
  obtain ⟨a, vs, h1, h2, h3, h4, h5, h6⟩ := S.slots i _ hi
  refine ⟨fun b => F b ∧ b ≠ a, fun b z => z.1, ?_⟩
  have nw : ∀ b, (F b ∧ b ≠ a) → F b ∨ H b = none := fun b z => .inl z.1
  exact { S with
    sub := fun b z => ⟨S.sub b z, fun e => h3 (e ▸ z)⟩
    fresh := fun b z => S.fresh b z.1
    alloc := fun b z => S.alloc b z.1
    slots := fun j b e => by
      rcases set_cases e with ⟨rfl, _, e2⟩ | ⟨ne, e⟩
      · cases e2
        exact ⟨.ref a, h1, .lst ⟨h5, fun z => z.2 rfl⟩ (h6.mono (Grow.refl _ _) nw)⟩
      · have q := S.slots j b e
        cases b with
        | d d => obtain ⟨v, g1, g2⟩ := q; exact ⟨v, g1, g2.mono (Grow.refl _ _) nw⟩
        | o es =>
          obtain ⟨c, ws, g1, g2, g3, g4, g5, g6⟩ := q
          exact ⟨c, ws, g1, ⟨g2, fun z => ne (S.inj i j ds es a hi e h1 (z ▸ g1))⟩, g3, g4, g5, g6.mono (Grow.refl _ _) nw⟩
    inj := fun j k xs ys c e1 e2 e3 e4 => by
      rcases set_cases e1 with ⟨rfl, _, q⟩ | ⟨ne, e1⟩
      · cases q
      · rcases set_cases e2 with ⟨rfl, _, q⟩ | ⟨ne', e2⟩
        · cases q
        · exact S.inj j k xs ys c e1 e2 e3 e4 }
theorem tabs_upd {T : List (Addr × Str)} {l : Addr} {xs ys : List V} (hl : H l = some (.lst xs)) (t : LamX.Tabs T H) : LamX.Tabs T (upd H l (.lst ys)) := fun p hp => by
  obtain ⟨ps, h1, h2, h3⟩ := t p hp
  refine ⟨ps, ?_, h2, fun pos cv hc => ?_⟩
  · rw [upd_ne (fun z => by rw [z, hl] at h1; cases h1)]; exact h1
  · obtain ⟨c, e1, e2⟩ := h3 pos cv hc
    exact ⟨c, e1, by rw [upd_ne (fun z => by rw [z, hl] at e2; unfold LamX.CodeO at e2; cases e2)]; exact e2⟩
/-- a slot's own list is changed -/
theorem SR.write (S : SR Γ F ρ s σ H) {i : Nat} {ds es : List D} {a : Addr} {ws : List V} (hi : ρ[i]? = some (some (.o ds))) (ha : σ[i]? = some (some (V.ref a))) (r : Reps Γ F H ws es) :
    Grow F H (upd H a (.lst ws)) ∧ SR Γ F (ρ.set i (some (.o es))) s σ (upd H a (.lst ws)) := by
  obtain ⟨a', vs, h1, h2, h3, h4, h5, h6⟩ := S.slots i _ hi
  rw [h1] at ha
  cases ha
  have g : Grow F H (upd H a (.lst ws)) := Grow.write h2
  have nG : ¬ Γ.G a := fun z => h3 (S.gsub a z)
  refine ⟨g, { S with
    grow := fun b o e n => by
      have ne : b ≠ a := fun z => by rw [z, h4] at e; cases e
      rw [upd_ne ne]
      exact S.grow b o e n
    alloc := fun b z => by
      by_cases e : b = a
      · subst e; exact ⟨_, upd_same⟩
      · rw [upd_ne e]; exact S.alloc b z
    deal := S.deal.keep fun b xs z e => by rw [upd_ne (fun q : b = a => nG (by rw [← q]; exact z))]; exact e
    tabs := tabs_upd h5 S.tabs
    slots := fun j b e => by
      rcases set_cases e with ⟨rfl, _, e2⟩ | ⟨ne, e⟩
      · cases e2
        exact ⟨a, ws, h1, h2, h3, h4, upd_same, r.mono g (Newer.refl _ _)⟩
      · have q := S.slots j b e
        cases b with
        | d d => obtain ⟨v, g1, g2⟩ := q; exact ⟨v, g1, g2.mono g (Newer.refl _ _)⟩
        | o es' =>
          obtain ⟨c, ws', g1, g2, g3, g4, g5, g6⟩ := q
          exact ⟨c, ws', g1, g2, g3, g4, by rw [upd_ne (fun z : c = a => ne (S.inj i j ds es' a hi e h1 (by rw [← z]; exact g1)))]; exact g5, g6.mono g (Newer.refl _ _)⟩
    inj := fun j k xs ys c e1 e2 e3 e4 => by
      have f : ∀ {j : Nat} {zs : List D}, (ρ.set i (some (.o es)))[j]? = some (some (.o zs)) → ∃ zs', ρ[j]? = some (some (.o zs')) := fun {j zs} e => by
        rcases set_cases e with ⟨rfl, _, _⟩ | ⟨_, e⟩
        · exact ⟨_, hi⟩
        · exact ⟨_, e⟩
      obtain ⟨_, f1⟩ := f e1
      obtain ⟨_, f2⟩ := f e2
      exact S.inj j k _ _ c f1 f2 e3 e4 }⟩
/-- a slot gets a new list of its own: a is new since H -/
theorem SR.own (S : SR Γ F ρ s σ H) {H1 : Hp} {s1 : DS} (g : Grow Γ.G H H1) (S1 : SR Γ F ρ s1 σ H1) {i : Nat} {a : Addr} {vs : List V} {ds : List D} (hl : i < σ.length) (n : H a = none) (e : H1 a = some (.lst vs)) (r : Reps Γ F H1 vs ds) (r2 : Reps Γ (fun b => F b ∨ b = a) H1 vs ds) :
    Newer F H (fun b => F b ∨ b = a) ∧ SR Γ (fun b => F b ∨ b = a) (ρ.set i (some (.o ds))) s1 (σ.set i (some (V.ref a))) H1 := by
  have nw : Newer F H (fun b => F b ∨ b = a) := fun b z => z.elim .inl fun q => .inr (q ▸ n)
  have gF : Grow F H H1 := S.gF g
  have n0 : Γ.H0 a = none := by
    cases q : Γ.H0 a with
    | none => rfl
    | some o =>
      by_cases z : Γ.G a
      · obtain ⟨xs, h⟩ := S.deal.there z
        rw [h] at n; cases n
      · obtain ⟨u, hu⟩ := S.grow.there q z
        rw [hu] at n; cases n
  have nF0 : ¬ Γ.F0 a := fun z => by
    obtain ⟨o, h⟩ := S.alloc a (S.sub a z)
    rw [h] at n; cases n
  refine ⟨nw, { S1 with
    sub := fun b z => .inl (S.sub b z)
    fresh := fun b z => z.elim (S.fresh b) fun q => .inr (q ▸ n0)
    alloc := fun b z => z.elim (S1.alloc b) fun q => ⟨_, q ▸ e⟩
    slots := fun j b h => by
      rcases set_cases h with ⟨rfl, _, h2⟩ | ⟨ne, h⟩
      · cases h2
        exact ⟨a, vs, by rw [List.getElem?_set_self hl], .inr rfl, nF0, n0, e, r2⟩
      · refine SlotR.set ?_ ne
        have q := S.slots j b h
        cases b with
        | d d => obtain ⟨v, g1, g2⟩ := q; exact ⟨v, g1, g2.mono gF nw⟩
        | o es' =>
          obtain ⟨c, ws', g1, g2, g3, g4, g5, g6⟩ := q
          exact ⟨c, ws', g1, .inl g2, g3, g4, g.at_ g5 (fun z => g3 (S.gsub c z)) (fun ps z => by cases z), g6.mono gF nw⟩
    inj := fun j k xs ys c e1 e2 e3 e4 => by
      have isA : ∀ {j : Nat} {zs : List D} {c : Addr}, (ρ.set i (some (.o ds)))[j]? = some (some (.o zs)) → (σ.set i (some (V.ref a)))[j]? = some (some (V.ref c)) → (i = j ∧ c = a) ∨ (i ≠ j ∧ c ≠ a ∧ ρ[j]? = some (some (.o zs)) ∧ σ[j]? = some (some (V.ref c))) := fun {j zs c} e f => by
        rcases set_cases e with ⟨rfl, _, _⟩ | ⟨ne, e⟩
        · rw [List.getElem?_set_self hl] at f
          cases f
          exact .inl ⟨rfl, rfl⟩
        · rw [List.getElem?_set_ne ne] at f
          obtain ⟨c', ws', g1, g2, g3, g4, g5, g6⟩ := S.slots j _ e
          rw [g1] at f
          cases f
          exact .inr ⟨ne, (fun z => by rw [z, n] at g5; cases g5), e, g1⟩
      rcases isA e1 e3 with ⟨rfl, rfl⟩ | ⟨n1, c1, f1, f2⟩
      · rcases isA e2 e4 with ⟨rfl, _⟩ | ⟨_, c2, _⟩
        · rfl
        · exact (c2 rfl).elim
      · rcases isA e2 e4 with ⟨rfl, rfl⟩ | ⟨n2, c2, f3, f4⟩
        · exact (c1 rfl).elim
        · exact S.inj j k xs ys c f1 f3 f2 f4 }⟩
end

/-! ### targets -/
def tG3 (X : Cx) (tg : Expr) : TG := fun v σ H Q => ∀ pins s u, Inv X pins σ H s → RelV v u → wpAny (model X.prog X.w) X.A (assign tg X.env u) (fun _ s' => ∃ σ' H', Inv X pins σ' H' s' ∧ Q σ' H') X.xe s
def tGs3 (X : Cx) (ts : List Expr) : TGs := fun vs σ H Q => ∀ pins s us, Inv X pins σ H s → Vals vs us → wpAny (model X.prog X.w) X.A (assignInOrder ((assignEach ts X.env).map (·.2)) us) (fun _ s' => ∃ σ' H', Inv X pins σ' H' s' ∧ Q σ' H') X.xe s
abbrev H1 := D → Env3 → Option Env3
abbrev Hs1 := List D → Env3 → Option Env3
structure G3 (Γ : Sta) (X : Cx) (tg : Expr) (is : List Nat) (h : H1) : Prop where
  run : ∀ (F : Addr → Prop) (ρ ρ' : Env3) (s : DS) (σ : Sl) (H : Hp) (v : V) (d : D) (Q : Sl → Hp → Prop), SR Γ F ρ s σ H → Rep Γ F H v d → h d ρ = some ρ' →
    (∀ σ', SR Γ F ρ' s σ' H → (∀ j, j ∉ is → σ'[j]? = σ[j]?) → σ'.length = σ.length → Q σ' H) → tG3 X tg v σ H Q
structure Gs3 (Γ : Sta) (X : Cx) (ts : List Expr) (is : List Nat) (h : Hs1) : Prop where
  run : ∀ (F : Addr → Prop) (ρ ρ' : Env3) (s : DS) (σ : Sl) (H : Hp) (vs : List V) (ds : List D) (Q : Sl → Hp → Prop), SR Γ F ρ s σ H → Reps Γ F H vs ds → h ds ρ = some ρ' →
    (∀ σ', SR Γ F ρ' s σ' H → (∀ j, j ∉ is → σ'[j]? = σ[j]?) → σ'.length = σ.length → Q σ' H) → tGs3 X ts vs σ H Q
def hName (i : Nat) : H1 := fun d ρ => some (ρ.set i (some (.d d)))
def hNil : Hs1 := fun ds ρ => match ds with | [] => some ρ | _ => none
def hCons (h : H1) (hs : Hs1) : Hs1 := fun ds ρ => match ds with | d :: r => (h d ρ).bind (hs r) | [] => none
def hTup (n : Nat) (hs : Hs1) : H1 := fun d ρ => match d with | .tup ds => if ds.length = n then hs ds ρ else none | _ => none
section
variable {Γ : Sta} {X : Cx} {tg : Expr} {ts : List Expr} {is js : List Nat} {h : H1} {hs : Hs1} {pos : Pos}
theorem g_name {i : Nat} {x : Str} (hN : X.N.Nodup) (hi : X.N[i]? = some x) (hx : Loc X.env.scope x) (hf : X.fn x = true ∨ X.env.scope.names.lookup x = some .local := by first | exact .inl rfl | exact .inr rfl) : G3 Γ X (.Name x pos) [i] (hName i) :=
  ⟨fun F ρ ρ' s σ H v d Q S r e k pins sh u I rv => by
    cases e
    have hl : i < σ.length := by rw [I.len]; exact (List.getElem?_eq_some_iff.mp hi).1
    refine (pg_name hN hi hx hf).run pins sh σ H v u Q I rv (k _ (S.put r hl) (fun j hj => ?_) (by simp))
    exact List.getElem?_set_ne (fun z => hj (by rw [z]; exact List.mem_singleton.mpr rfl))⟩
theorem gs_nil : Gs3 Γ X [] [] hNil := ⟨fun F ρ ρ' s σ H vs ds Q S r e k pins sh us I rv => by
  unfold hNil at e
  split at e <;> cases e
  cases r
  exact pgs_nil.run pins sh σ H [] us Q I rv ⟨rfl, k σ S (fun _ _ => rfl) rfl⟩⟩
theorem can_g : PG X tg (tG3 X tg) := ⟨fun pins s σ H v u Q I r h => h pins s u I r⟩
theorem can_gs : PGs X ts (tGs3 X ts) := ⟨fun pins s σ H v u Q I r h => h pins s u I r⟩
theorem gs_cons (a : G3 Γ X tg is h) (b : Gs3 Γ X ts js hs) (he : (assignEach (tg :: ts) X.env).map (·.2) = assign tg X.env :: (assignEach ts X.env).map (·.2) := by rfl) : Gs3 Γ X (tg :: ts) (is ++ js) (hCons h hs) :=
  ⟨fun F ρ ρ' s σ H vs ds Q S r e k pins sh us I rv => by
    unfold hCons at e
    cases r with
    | nil => cases e
    | cons r1 r2 =>
      obtain ⟨ρ1, e1, e2⟩ := Option.bind_eq_some_iff.mp e
      refine (pgs_cons can_g can_gs he).run pins sh σ H _ us Q I rv ⟨_, _, rfl, a.run F ρ ρ1 s σ H _ _ _ S r1 e1 fun σ1 S1 k1 l1 => ?_⟩
      exact b.run F ρ1 ρ' s σ1 H _ _ _ S1 r2 e2 fun σ2 S2 k2 l2 => k σ2 S2 (fun j hj => (k2 j (fun z => hj (List.mem_append_right _ z))).trans (k1 j (fun z => hj (List.mem_append_left _ z)))) (l2.trans l1)⟩
theorem g_tup {k n : Nat} (hK : Γ.K = X.K) (hc : X.calm = true) (a : Gs3 Γ X ts is hs) (hn : (assignEach ts X.env).length = n := by rfl) (hst : (assignEach ts X.env).findIdx? (·.1) = none := by rfl) : G3 Γ X (.Tuple ts k pos) is (hTup n hs) :=
  ⟨fun F ρ ρ' s σ H v d Q S r e kk pins sh u I rv => by
    unfold hTup at e
    split at e
    · split at e
      · rename_i hl
        cases r with
        | tup h1 r1 =>
          exact (pg_tup hc can_gs hn hst).run pins sh σ H _ u Q I rv ⟨_, _, rfl, hK ▸ h1.1, by rw [r1.length]; exact hl, a.run F ρ ρ' s σ H _ _ Q S r1 e kk⟩
      · cases e
    · cases e⟩
end

/-! ### statements -/
def PostS (Γ : Sta) (F : Addr → Prop) (H : Hp) (D : Ends) (Wx : WX) : R Out → Prop
  | .ok (.nx ρ') s' => ∀ F' σ' H', Grow F H H' → Newer F H F' → SR Γ F' ρ' s' σ' H' → D.nx σ' H'
  | .ok (.bk ρ') s' => ∀ F' σ' H', Grow F H H' → Newer F H F' → SR Γ F' ρ' s' σ' H' → D.bk σ' H'
  | .ok (.ct ρ') s' => ∀ F' σ' H', Grow F H H' → Newer F H F' → SR Γ F' ρ' s' σ' H' → D.ct σ' H'
  | .ok (.rt d) s' => ∀ v H', Grow Γ.G Γ.H0 H' → DealAt Γ H' s' → LamX.Tabs Γ.T H' → Rep Γ Γ.F0 H' v d → D.rt v H'
  | .ok (.ex x ρ') s' => ∀ F' σ' H' cls dd, Grow F H H' → Newer F H F' → SR Γ F' ρ' s' σ' H' → ExcIs Γ F' H' cls dd x → Wx cls dd σ' H'
  | .exc _ _ => False
  | .bad => False
def bindS {α : Type} (r : R α) (ρ : Env3) (k : α → DS → R Out) : R Out := match r with
  | .ok a s => k a s | .exc x s => .ok (.ex x ρ) s | .bad => .bad
@[simp] theorem bindS_ok {α : Type} (a : α) (s : DS) (ρ : Env3) (k : α → DS → R Out) : bindS (R.ok a s) ρ k = k a s := rfl
@[simp] theorem bindS_exc {α : Type} (x : Xc) (s : DS) (ρ : Env3) (k : α → DS → R Out) : bindS (R.exc x s : R α) ρ k = .ok (.ex x ρ) s := rfl
@[simp] theorem bindS_bad {α : Type} (ρ : Env3) (k : α → DS → R Out) : bindS (R.bad : R α) ρ k = .bad := rfl
def tS3 (X : Cx) (st : Stmt) : TS := fun D σ H => ∀ pins s, Inv X pins σ H s → wpAny (model X.prog X.w) X.A (exec st X.env) (SP X pins D) X.xe s
def tSs3 (X : Cx) (st : List Stmt) : TS := fun D σ H => ∀ pins s, Inv X pins σ H s → wpAny (model X.prog X.w) X.A (execs st X.env) (SP X pins D) X.xe s
structure S3 (Γ : Sta) (X : Cx) (st : Stmt) (g : GS) : Prop where
  run : ∀ (Wx : WX) (F : Addr → Prop) (ρ : Env3) (s : DS) (σ : Sl) (H : Hp) (D : Ends), Takes X Wx → SR Γ F ρ s σ H → PostS Γ F H D Wx (g ρ s) → tS3 X st D σ H
structure SS3 (Γ : Sta) (X : Cx) (st : List Stmt) (g : GS) : Prop where
  run : ∀ (Wx : WX) (F : Addr → Prop) (ρ : Env3) (s : DS) (σ : Sl) (H : Hp) (D : Ends), Takes X Wx → SR Γ F ρ s σ H → PostS Γ F H D Wx (g ρ s) → tSs3 X st D σ H
section
variable {Γ : Sta} {F F1 : Addr → Prop} {ρ : Env3} {s : DS} {σ : Sl} {H H1 : Hp} {D : Ends} {Wx : WX} {α β : Type} {rel : Sta → (Addr → Prop) → Hp → β → α → Prop}
theorem PostS.later {r : R Out} (g : Grow F H H1) (n : Newer F H F1) (p : PostS Γ F H D Wx r) : PostS Γ F1 H1 D Wx r := by
  cases r with
  | ok o s' =>
    cases o with
    | nx ρ' => exact fun F' σ' H' g' n' S => p F' σ' H' (g.step n g') (n.trans g n') S
    | bk ρ' => exact fun F' σ' H' g' n' S => p F' σ' H' (g.step n g') (n.trans g n') S
    | ct ρ' => exact fun F' σ' H' g' n' S => p F' σ' H' (g.step n g') (n.trans g n') S
    | rt d => exact p
    | ex x ρ' => exact fun F' σ' H' c d g' n' S => p F' σ' H' c d (g.step n g') (n.trans g n') S
  | exc x s' => exact p
  | bad => exact p
theorem PostS.bind (S : SR Γ F ρ s σ H) {Q' : β → Hp → Prop} {r : R α} {k : α → DS → R Out} (p : PostS Γ F H D Wx (bindS r ρ k))
    (h : ∀ a s1 b H1, Grow Γ.G H H1 → SR Γ F ρ s1 σ H1 → rel Γ F H1 b a → PostS Γ F H1 D Wx (k a s1) → Q' b H1) : Post rel Γ F ρ σ H Q' Wx r := by
  cases r with
  | ok a s1 => exact fun b H' g S1 r => h a s1 b H' g S1 r (PostS.later (S.gF g) (Newer.refl _ _) p)
  | exc x s1 => exact fun cls dd H' g S1 e => p F σ H' cls dd (S.gF g) (Newer.refl _ _) S1 e
  | bad => exact p
theorem PostS.nx {ρ' : Env3} {s' : DS} {σ' : Sl} (p : PostS Γ F H D Wx (.ok (.nx ρ') s')) (S : SR Γ F ρ' s' σ' H) : D.nx σ' H := p F σ' H (Grow.refl _ _) (Newer.refl _ _) S
end
def sSeq (a b : GS) : GS := fun ρ s => match a ρ s with | .ok (.nx ρ') s' => b ρ' s' | r => r
def sSkip : GS := fun ρ s => .ok (.nx ρ) s
def sBreak : GS := fun ρ s => .ok (.bk ρ) s
def sCont : GS := fun ρ s => .ok (.ct ρ) s
def sExpr (g : G) : GS := fun ρ s => bindS (g ρ s) ρ fun _ s1 => .ok (.nx ρ) s1
def sRet (g : G) : GS := fun ρ s => bindS (g ρ s) ρ fun d s1 => .ok (.rt d) s1
def sAsg (h : H1) (g : G) : GS := fun ρ s => bindS (g ρ s) ρ fun d s1 => match h d ρ with | some ρ' => .ok (.nx ρ') s1 | none => .bad
def sIf (t : GT) (a b : GS) : GS := fun ρ s => bindS (t ρ s) ρ fun x s1 => if x = true then a ρ s1 else b ρ s1
/-- a slot's own list becomes data -/
def frz (i : Nat) (ρ : Env3) : Env3 := match ρ[i]? with | some (some (.o ds)) => ρ.set i (some (.d (.lst ds))) | _ => ρ
def sFrz (i : Nat) (a : GS) : GS := fun ρ s => a (frz i ρ) s
section
variable {Γ : Sta} {X : Cx} {st : Stmt} {rest : List Stmt} {e c : Expr} {g : G} {a b : GS} {ta : GT} {pos : Pos}
theorem can_s : PS X st (tS3 X st) := ⟨fun pins s σ H D I h => h pins s I⟩
theorem can_ss : PSs X rest (tSs3 X rest) := ⟨fun pins s σ H D I h => h pins s I⟩
theorem toS {t : TS} (h : PS X st t) {D : Ends} {σ : Sl} {H : Hp} (q : t D σ H) : tS3 X st D σ H := fun pins s I => h.run pins s σ H D I q
theorem toSs {t : TS} (h : PSs X rest t) {D : Ends} {σ : Sl} {H : Hp} (q : t D σ H) : tSs3 X rest D σ H := fun pins s I => h.run pins s σ H D I q
theorem ss_nil : SS3 Γ X [] sSkip := ⟨fun Wx F ρ s σ H D tk S p => toSs pss_nil (p.nx S)⟩
theorem ss_cons (h1 : S3 Γ X st a) (h2 : SS3 Γ X rest b) : SS3 Γ X (st :: rest) (sSeq a b) := ⟨fun Wx F ρ s σ H D tk S p => toSs (pss_cons can_s can_ss) (h1.run Wx F ρ s σ H _ tk S (by
  unfold sSeq at p
  cases q : a ρ s with
  | ok o s' =>
    rw [q] at p
    cases o with
    | nx ρ' => exact fun F' σ' H' g n S' => h2.run Wx F' ρ' s' σ' H' D tk S' (PostS.later g n p)
    | bk ρ' => exact p
    | ct ρ' => exact p
    | rt d => exact p
    | ex x ρ' => exact p
  | exc x s' => rw [q] at p; exact p
  | bad => rw [q] at p; exact p))⟩
theorem ss_one (h1 : S3 Γ X st a) : SS3 Γ X [st] a := ⟨fun Wx F ρ s σ H D tk S p => toSs (pss_one can_s) (h1.run Wx F ρ s σ H D tk S p)⟩
theorem s_pass : S3 Γ X (.Pass pos) sSkip := ⟨fun Wx F ρ s σ H D tk S p => toS ps_pass (p.nx S)⟩
theorem s_break : S3 Γ X (.Break pos) sBreak := ⟨fun Wx F ρ s σ H D tk S p => toS ps_break (p F σ H (Grow.refl _ _) (Newer.refl _ _) S)⟩
theorem s_continue : S3 Γ X (.Continue pos) sCont := ⟨fun Wx F ρ s σ H D tk S p => toS ps_continue (p F σ H (Grow.refl _ _) (Newer.refl _ _) S)⟩
theorem s_expr (h : E3 Γ X e g) (hs : swapsWith e none pos.line X.env = pure false := by rfl) : S3 Γ X (.Expr e pos) (sExpr g) := ⟨fun Wx F ρ s σ H D tk S p => toS (ps_expr can_e hs) (h.run Wx F ρ s σ H _ tk S (p.bind S fun a s1 b H1 g1 S1 r1 p1 => p1.nx S1))⟩
theorem SR.ends {F : Addr → Prop} {ρ : Env3} {s : DS} {σ : Sl} {H : Hp} {D : Ends} {Wx : WX} {v : V} {d : L3.D} (S : SR Γ F ρ s σ H) (r : Rep Γ F H v d) (p : PostS Γ F H D Wx (.ok (.rt d) s)) : D.rt v H :=
  p v H S.grow S.deal S.tabs (r.less S.sub)
theorem s_ret (h : E3 Γ X e g) : S3 Γ X (.Return (some e) pos) (sRet g) := ⟨fun Wx F ρ s σ H D tk S p => toS (ps_ret can_e) (h.run Wx F ρ s σ H _ tk S (p.bind S fun a s1 b H1 g1 S1 r1 p1 => S1.ends r1 p1))⟩
theorem s_retN : S3 Γ X (.Return none pos) (sRet (eK .non)) := ⟨fun Wx F ρ s σ H D tk S p => toS ps_retN (S.ends .non p)⟩
theorem s_set {i : Nat} {x : Str} {pos' : Pos} (hN : X.N.Nodup) (hi : X.N[i]? = some x) (hx : Loc X.env.scope x) (he : E3 Γ X e g) (hs : swapsWith e (some (.Name x pos')) pos.line X.env = pure false := by rfl) (hf : X.fn x = true ∨ X.env.scope.names.lookup x = some .local := by first | exact .inl rfl | exact .inr rfl) :
    S3 Γ X (.Assign [.Name x pos'] e pos) (sAsg (hName i) g) := ⟨fun Wx F ρ s σ H D tk S p pins sh I => by
  have hl : i < σ.length := by rw [I.len]; exact (List.getElem?_eq_some_iff.mp hi).1
  exact toS (ps_set hN hi hx can_e hs hf) (he.run Wx F ρ s σ H _ tk S (p.bind S fun a s1 b H1 g1 S1 r1 p1 => PostS.nx p1 (S1.put r1 hl))) pins sh I⟩
theorem s_asg {tg : Expr} {is : List Nat} {h : H1} (hg : G3 Γ X tg is h) (he : E3 Γ X e g) (hs : swapsWithSole [tg] e pos.line X.env = pure false := by rfl) (hw : swappedStores [tg] e X.env = pure none := by rfl)
    (h1 : (assignEach [tg] X.env).map (·.2) = [assign tg X.env] := by rfl) : S3 Γ X (.Assign [tg] e pos) (sAsg h g) :=
  ⟨fun Wx F ρ s σ H D tk S p => toS (ps_asg can_e can_g hs hw h1) (he.run Wx F ρ s σ H _ tk S (p.bind S fun a s1 b H1 g1 S1 r1 p1 => by
    split at p1
    · rename_i ρ' q
      exact hg.run F ρ ρ' s1 σ H1 b a _ S1 r1 q fun σ' S' _ _ => PostS.nx p1 S'
    · exact p1.elim))⟩
theorem s_if {x y : List Stmt} (hc : T3 Γ X c ta) (ha : SS3 Γ X x a) (hb : SS3 Γ X y b) : S3 Γ X (.If c x y pos) (sIf ta a b) :=
  ⟨fun Wx F ρ s σ H D tk S p => toS (ps_if can_b can_ss can_ss) (hc.run Wx F ρ s σ H _ tk S (p.bind S fun z s1 v H1 g1 S1 r1 p1 => by
    cases r1
    cases z with
    | true => rw [if_pos rfl] at p1 ⊢; exact ha.run Wx F ρ s1 σ H1 D tk S1 p1
    | false => rw [if_neg Bool.false_ne_true] at p1 ⊢; exact hb.run Wx F ρ s1 σ H1 D tk S1 p1))⟩
theorem PostS.frz {F : Addr → Prop} {i : Nat} {ρ : Env3} {s : DS} {σ : Sl} {H : Hp} (S : SR Γ F ρ s σ H) : ∃ F', Newer F H F' ∧ SR Γ F' (L3.frz i ρ) s σ H := by
  unfold L3.frz
  split
  · rename_i ds q
    obtain ⟨F', h1, h2⟩ := S.freeze q
    exact ⟨F', fun a z => .inl (h1 a z), h2⟩
  · exact ⟨F, Newer.refl _ _, S⟩
theorem s_frz {i : Nat} (h : S3 Γ X st a) : S3 Γ X st (sFrz i a) := ⟨fun Wx F ρ s σ H D tk S p => by
  obtain ⟨F', n, S'⟩ := PostS.frz (i := i) S
  exact h.run Wx F' _ s σ H D tk S' (PostS.later (Grow.refl _ _) n p)⟩
theorem ss_frz {i : Nat} (h : SS3 Γ X rest a) : SS3 Γ X rest (sFrz i a) := ⟨fun Wx F ρ s σ H D tk S p => by
  obtain ⟨F', n, S'⟩ := PostS.frz (i := i) S
  exact h.run Wx F' _ s σ H D tk S' (PostS.later (Grow.refl _ _) n p)⟩
end
end L3

/-! L3: walks, loops, comprehensions. -/
namespace L3
open PySem PySem.Spec PyProof.Rows L2

/-- a walk over data: Wr is what may be written meanwhile -/
structure W3 (Γ : Sta) (Wr F : Addr → Prop) (J : It) (H1 : Hp) (ds : List D) : Prop where
  len : ds.length ≤ 16777216
  goes : ∀ (i : Nat) (F' : Addr → Prop) (H' : Hp), Grow Wr H1 H' → Newer F H1 F' → i < ds.length → J.go i H'
  stops : ∀ (F' : Addr → Prop) (H' : Hp), Grow Wr H1 H' → Newer F H1 F' → J.stop ds.length H'
  yields : ∀ (i : Nat) (F' : Addr → Prop) (H' : Hp) (x : V) (H2 : Hp), Grow Wr H1 H' → Newer F H1 F' → (∀ a, F' a → ∃ o, H' a = some o) → i < ds.length → J.yld i H' x H2 → (H2 = H' ∨ ∃ T o, H' T = none ∧ H2 = upd H' T o) ∧ ∃ d, ds[i]? = some d ∧ Rep Γ F' H2 x d
def wrOf (b : Bool) (Γ : Sta) (F : Addr → Prop) : Addr → Prop := if b then F else Γ.G
def RepI (b : Bool) (Γ : Sta) (F : Addr → Prop) (H : Hp) (J : It) (ds : List D) : Prop := W3 Γ (wrOf b Γ F) F J H ds
def tI3 (X : Cx) (tg iter : Expr) : TI := fun σ H R => ∀ pins s, Inv X pins σ H s → wpAny (model X.prog X.w) X.A (eval iter X.env) (fun v s1 => wpAny (model X.prog X.w) X.A (pyIter v) (PIE X pins σ tg R) X.xe s1) X.xe s
theorem can_i {X : Cx} {tg iter : Expr} : PI X tg iter (tI3 X tg iter) := ⟨fun pins s σ H R I h => h pins s I⟩
theorem toI {X : Cx} {tg iter : Expr} {t : TI} (h : PI X tg iter t) {σ : Sl} {H : Hp} {R : It → Hp → Prop} (q : t σ H R) : tI3 X tg iter σ H R := fun pins s I => h.run pins s σ H R I q
/-- b: a for's walk (all slots' lists may be written), else a comprehension's -/
structure I3 (b : Bool) (Γ : Sta) (X : Cx) (tg iter : Expr) (g : GL) : Prop where
  run : ∀ (Wx : WX) (F : Addr → Prop) (ρ : Env3) (s : DS) (σ : Sl) (H : Hp) (R : It → Hp → Prop), Takes X Wx → SR Γ F ρ s σ H → Post (RepI b) Γ F ρ σ H R Wx (g ρ s) → tI3 X tg iter σ H R
section
variable {Γ : Sta} {Wr F F' : Addr → Prop} {H1 H' : Hp} {ρ : Env3} {s : DS} {σ : Sl}
theorem wr_sub {b : Bool} (S : SR Γ F ρ s σ H1) : ∀ a, wrOf b Γ F a → F a := fun a z => by
  unfold wrOf at z
  cases b with
  | true => exact z
  | false => exact S.sub a (S.gsub a z)
theorem w3_list {K : PySem.W.Frag} {a : Addr} {vs : List V} {ds : List D} (hw : ∀ a, Wr a → F a) (e : H1 a = some (.lst vs)) (n : ¬ Wr a) (r : Reps Γ F H1 vs ds) (hl : vs.length ≤ 16777216) : W3 Γ Wr F (Itl K a) H1 ds where
  len := by rw [← r.length]; exact hl
  goes := fun i F' H' g _ h => walk_list.goes i H' (by rw [r.length]; exact h) (.inl (.inl (g.at_ e n (fun ps z => by cases z))))
  stops := fun F' H' g _ => by
    rw [← r.length]
    exact walk_list.stops H' (.inl (.inl (g.at_ e n (fun ps z => by cases z))))
  yields := fun i F' H' x H2 g nw _ h y => by
    obtain ⟨rfl, hx⟩ := walk_list.yields i H' x H2 (by rw [r.length]; exact h) (.inl (.inl (g.at_ e n (fun ps z => by cases z)))) y
    obtain ⟨d, h1, h2⟩ := r.getV hx
    exact ⟨.inl rfl, d, h1, h2.mono (g.mono hw) nw⟩
theorem w3_tup {a : Addr} {vs : List V} {ds : List D} (hw : ∀ a, Wr a → F a) (e : NdT Γ.K F H1 a vs) (r : Reps Γ F H1 vs ds) (hl : vs.length ≤ 16777216) : W3 Γ Wr F (Itt Γ.K a) H1 ds where
  len := by rw [← r.length]; exact hl
  goes := fun i F' H' g nw h => walk_tup.goes i H' (by rw [r.length]; exact h) (e.mono (g.mono hw) nw).1
  stops := fun F' H' g nw => by
    rw [← r.length]
    exact walk_tup.stops H' (e.mono (g.mono hw) nw).1
  yields := fun i F' H' x H2 g nw _ h y => by
    obtain ⟨rfl, hx⟩ := walk_tup.yields i H' x H2 (by rw [r.length]; exact h) (e.mono (g.mono hw) nw).1 y
    obtain ⟨d, h1, h2⟩ := r.getV hx
    exact ⟨.inl rfl, d, h1, h2.mono (g.mono hw) nw⟩
def rngD (lo : Int) (n : Nat) : List D := (List.range n).map fun (i : Nat) => D.int (lo + (i : Int))
theorem rngD_get {lo : Int} {n i : Nat} (h : i < n) : (rngD lo n)[i]? = some (.int (lo + i)) := by
  unfold rngD
  rw [List.getElem?_map, List.getElem?_range h]; rfl
theorem rngD_len {lo : Int} {n : Nat} : (rngD lo n).length = n := by
  unfold rngD
  rw [List.length_map, List.length_range]
theorem w3_range {lo : Int} {n : Nat} (hl : n ≤ 16777216) : W3 Γ Wr F (Itr lo n) H1 (rngD lo n) where
  len := by rw [rngD_len]; exact hl
  goes := fun i F' H' g _ h => walk_range.goes i H' (by rw [rngD_len] at h; exact h) trivial
  stops := fun F' H' g _ => by
    rw [rngD_len]
    exact walk_range.stops H' trivial
  yields := fun i F' H' x H2 g nw _ h y => by
    rw [rngD_len] at h
    obtain ⟨rfl, rfl⟩ := walk_range.yields i H' x H2 h trivial y
    exact ⟨.inl rfl, _, rngD_get h, .int _⟩
def signs (z : Str) : List D := z.cps.toList.map fun c => .str ⟨#[c]⟩
theorem signs_len {z : Str} : (signs z).length = z.length := by unfold signs Str.length; simp
theorem w3_str {z : Str} (hl : z.length ≤ 16777216) : W3 Γ Wr F (Its z) H1 (signs z) where
  len := by rw [signs_len]; exact hl
  goes := fun i F' H' g _ h => walk_str.goes i H' (by unfold signs at h; simpa using h) trivial
  stops := fun F' H' g _ => by
    have e : (signs z).length = z.cps.size := by unfold signs; simp
    rw [e]
    exact walk_str.stops H' trivial
  yields := fun i F' H' x H2 g nw _ h y => by
    have e : (signs z).length = z.cps.size := by unfold signs; simp
    rw [e] at h
    obtain ⟨rfl, c, hc, rfl⟩ := walk_str.yields i H' x H2 h trivial y
    refine ⟨.inl rfl, .str ⟨#[c]⟩, ?_, .str _⟩
    unfold signs
    rw [List.getElem?_map, Array.getElem?_toList, hc]; rfl
end
def seqD : D → Option (List D)
  | .lst ds => some ds | .tup ds => some ds | .str z => if z.length ≤ 16777216 then some (signs z) else none | _ => none
def iSeq (ga : G) : GL := fun ρ s => (ga ρ s).bind fun d s1 => match seqD d with | some ds => .ok ds s1 | none => .bad
def okR (i : Int) : Bool := decide (-(2 ^ 62) ≤ i) && decide (i < 2 ^ 62)
def iR1 (ga : GL) : GL := fun ρ s => (ga ρ s).bind fun vs s1 => match vs with
  | [.int j] => if okR j && decide (j ≤ 16777216) then .ok (rngD 0 j.toNat) s1 else .bad
  | _ => .bad
def iR2 (ga : GL) : GL := fun ρ s => (ga ρ s).bind fun vs s1 => match vs with
  | [.int i, .int j] => if okR i && okR j && decide (j - i ≤ 16777216) then .ok (rngD i (j - i).toNat) s1 else .bad
  | _ => .bad
def zipD : List D → List D → List D
  | x :: xs, y :: ys => .tup [x, y] :: zipD xs ys
  | _, _ => []
theorem zipD_len : ∀ xs ys : List D, (zipD xs ys).length = min xs.length ys.length
  | [], _ => by simp [zipD]
  | _ :: _, [] => by simp [zipD]
  | x :: xs, y :: ys => by simp only [zipD, List.length_cons, zipD_len xs ys]; omega
theorem zipD_get : ∀ {xs ys : List D} {i : Nat} {x y : D}, xs[i]? = some x → ys[i]? = some y → (zipD xs ys)[i]? = some (.tup [x, y])
  | [], _, _, _, _, h, _ => by simp at h
  | _ :: _, [], _, _, _, _, h => by simp at h
  | a :: xs, b :: ys, 0, x, y, h1, h2 => by simp at h1 h2; subst h1 h2; rfl
  | a :: xs, b :: ys, i + 1, x, y, h1, h2 => by
    simp only [List.getElem?_cons_succ] at h1 h2
    show (zipD xs ys)[i]? = _
    exact zipD_get h1 h2
def iZip (ga : GL) : GL := fun ρ s => (ga ρ s).bind fun vs s2 => match vs with
  | [.lst xs, .lst ys] => .ok (zipD xs ys) s2
  | [.tup xs, .tup ys] => .ok (zipD xs ys) s2
  | _ => .bad
def enumD (ds : List D) : List D := zipD (rngD 0 ds.length) ds
theorem enumD_len (ds : List D) : (enumD ds).length = ds.length := by
  unfold enumD
  rw [zipD_len, rngD_len]; omega
def iEnum3 (ga : GL) : GL := fun ρ s => (ga ρ s).bind fun vs s2 => match vs with
  | [.lst xs] => .ok (enumD xs) s2
  | [.tup xs] => .ok (enumD xs) s2
  | _ => .bad
section
variable {Γ : Sta} {Wr F F' : Addr → Prop} {H1 H' : Hp} {ρ : Env3} {s : DS} {σ : Sl}
theorem pair_new {H' : Hp} {T : Addr} {x y : V} {d e : D} (al : ∀ a, F' a → ∃ o, H' a = some o) (h : H' T = none) (r1 : Rep Γ F' H' x d) (r2 : Rep Γ F' H' y e) : Rep Γ F' (upd H' T (.tup [x, y])) (.ref T) (.tup [d, e]) :=
  .tup ⟨.inl (.inl upd_same), fun f => by obtain ⟨o, q⟩ := al T f; rw [h] at q; cases q⟩ (.cons (r1.mono (Grow.new h) (Newer.refl _ _)) (.cons (r2.mono (Grow.new h) (Newer.refl _ _)) .nil))
theorem w3_zipL {K : PySem.W.Frag} {a b : Addr} {vs ws : List V} {ds es : List D} (hw : ∀ a, Wr a → F a) (e1 : H1 a = some (.lst vs)) (n1 : ¬ Wr a) (r1 : Reps Γ F H1 vs ds) (e2 : H1 b = some (.lst ws)) (n2 : ¬ Wr b) (r2 : Reps Γ F H1 ws es) (hl : vs.length ≤ 16777216) : W3 Γ Wr F (Itz K a b) H1 (zipD ds es) where
  len := by rw [zipD_len, ← r1.length]; omega
  goes := fun i F' H' g _ h => by
    rw [zipD_len, ← r1.length, ← r2.length] at h
    exact (walk_zip rfl).goes i H' h ⟨.inl (.inl (g.at_ e1 n1 (fun ps z => by cases z))), .inl (.inl (g.at_ e2 n2 (fun ps z => by cases z)))⟩
  stops := fun F' H' g _ => by
    rw [zipD_len, ← r1.length, ← r2.length]
    exact (walk_zip rfl).stops H' ⟨.inl (.inl (g.at_ e1 n1 (fun ps z => by cases z))), .inl (.inl (g.at_ e2 n2 (fun ps z => by cases z)))⟩
  yields := fun i F' H' x H2 g nw al h y => by
    rw [zipD_len, ← r1.length, ← r2.length] at h
    obtain ⟨T, u, w, rfl, hT, rfl, hx, hy⟩ := (walk_zip (K := K) (a := a) (b := b) rfl).yields i H' x H2 h ⟨.inl (.inl (g.at_ e1 n1 (fun ps z => by cases z))), .inl (.inl (g.at_ e2 n2 (fun ps z => by cases z)))⟩ y
    obtain ⟨d, h1, h2⟩ := r1.getV hx
    obtain ⟨d', h1', h2'⟩ := r2.getV hy
    exact ⟨.inr ⟨T, _, hT, rfl⟩, _, zipD_get h1 h1', pair_new al hT (h2.mono (g.mono hw) nw) (h2'.mono (g.mono hw) nw)⟩
theorem w3_zipT {a b : Addr} {vs ws : List V} {ds es : List D} (hw : ∀ a, Wr a → F a) (e1 : NdT Γ.K F H1 a vs) (r1 : Reps Γ F H1 vs ds) (e2 : NdT Γ.K F H1 b ws) (r2 : Reps Γ F H1 ws es) (hl : vs.length ≤ 16777216) : W3 Γ Wr F (RZ.ItzT Γ.K a b) H1 (zipD ds es) where
  len := by rw [zipD_len, ← r1.length]; omega
  goes := fun i F' H' g nw h => by
    rw [zipD_len, ← r1.length, ← r2.length] at h
    have h1 : i < vs.length := by omega
    have h2 : i < ws.length := by omega
    exact ⟨vs, ws, vs[i], ws[i], (e1.mono (g.mono hw) nw).1, (e2.mono (g.mono hw) nw).1, List.getElem?_eq_getElem h1, List.getElem?_eq_getElem h2⟩
  stops := fun F' H' g nw => by
    rw [zipD_len, ← r1.length, ← r2.length]
    exact ⟨vs, ws, (e1.mono (g.mono hw) nw).1, (e2.mono (g.mono hw) nw).1, by omega⟩
  yields := fun i F' H' x H2 g nw al h y => by
    rw [zipD_len, ← r1.length, ← r2.length] at h
    obtain ⟨T, u, w, rfl, hT, rfl, hx, hy⟩ := y
    obtain ⟨d, h1, h2⟩ := r1.getV (hx vs (e1.mono (g.mono hw) nw).1)
    obtain ⟨d', h1', h2'⟩ := r2.getV (hy ws (e2.mono (g.mono hw) nw).1)
    exact ⟨.inr ⟨T, _, hT, rfl⟩, _, zipD_get h1 h1', pair_new al hT (h2.mono (g.mono hw) nw) (h2'.mono (g.mono hw) nw)⟩
theorem w3_enumL {K : PySem.W.Frag} {a : Addr} {vs : List V} {ds : List D} (hw : ∀ a, Wr a → F a) (e1 : H1 a = some (.lst vs)) (n1 : ¬ Wr a) (r1 : Reps Γ F H1 vs ds) (hl : vs.length ≤ 16777216) : W3 Γ Wr F (Ite K a) H1 (enumD ds) where
  len := by rw [enumD_len, ← r1.length]; exact hl
  goes := fun i F' H' g _ h => by
    rw [enumD_len, ← r1.length] at h
    exact walk_enum.goes i H' h (.inl (.inl (g.at_ e1 n1 (fun ps z => by cases z))))
  stops := fun F' H' g _ => by
    rw [enumD_len, ← r1.length]
    exact walk_enum.stops H' (.inl (.inl (g.at_ e1 n1 (fun ps z => by cases z))))
  yields := fun i F' H' x H2 g nw al h y => by
    rw [enumD_len, ← r1.length] at h
    obtain ⟨T, u, w, rfl, hT, rfl, hx, hy⟩ := (walk_enum (K := K) (a := a)).yields i H' x H2 h (.inl (.inl (g.at_ e1 n1 (fun ps z => by cases z)))) y
    cases hx
    obtain ⟨d, h1, h2⟩ := r1.getV hy
    have hi := rngD_get (lo := 0) (n := ds.length) (i := i) (by rw [← r1.length]; exact h)
    rw [Int.zero_add] at hi
    exact ⟨.inr ⟨T, _, hT, rfl⟩, _, zipD_get hi h1, pair_new al hT (.int _) (h2.mono (g.mono hw) nw)⟩
end
section
variable {b : Bool} {Γ : Sta} {X : Cx} {e a c tg : Expr} {ga gb : G} {gl : GL} {pos p : Pos}
/-- what the state's invariant tells may be used behind an expression -/
theorem tE_inv {σ : Sl} {H : Hp} {Q : VK} (h : tE X e σ H fun v H' => (∃ pins sh, Inv X pins σ H' sh) → Q v H') : tE X e σ H Q := fun pins s I =>
  thn (h pins s I) fun u s' ⟨v, H', I', r, q⟩ => ⟨v, H', I', r, q ⟨pins, s', I'⟩⟩
theorem tA_inv {es : List Expr} {σ : Sl} {H : Hp} {Q : List V → Hp → Prop} (h : tA3 X es σ H fun v H' => (∃ pins sh, Inv X pins σ H' sh) → Q v H') : tA3 X es σ H Q := fun pos pins s I =>
  thn (h pos pins s I) fun u s' ⟨v, H', I', r, q⟩ => ⟨v, H', I', r, q ⟨pins, s', I'⟩⟩
theorem inv_lst {σ : Sl} {H : Hp} {a : Addr} {vs : List V} (h : ∃ pins sh, Inv X pins σ H sh) (e : H a = some (.lst vs)) : vs.length ≤ 16777216 := by
  obtain ⟨pins, sh, I⟩ := h
  obtain ⟨_, _, _, hl⟩ := I.list (a := a) (xs := vs) (.inl (.inl e))
  rw [sizeLine_is] at hl; exact hl
theorem inv_tup {σ : Sl} {H : Hp} {a : Addr} {vs : List V} (h : ∃ pins sh, Inv X pins σ H sh) (e : SqT X.K H a vs) : vs.length ≤ 16777216 := by
  obtain ⟨pins, sh, I⟩ := h
  obtain ⟨_, _, _, hl⟩ := I.tuple e
  rw [sizeLine_is] at hl; exact hl
def relB : Bool → Sta → (Addr → Prop) → Hp → V → D → Prop
  | true => Rep | false => RepW
/-- a list, a tuple, a text as it stands -/
theorem i_seq0 (hK : Γ.K = X.K) (hr : ∀ (Wx : WX) (F : Addr → Prop) (ρ : Env3) (s : DS) (σ : Sl) (H : Hp) (Q : VK), Takes X Wx → SR Γ F ρ s σ H → Post (relB b) Γ F ρ σ H Q Wx (ga ρ s) → tE X e σ H Q) : I3 b Γ X tg e (iSeq ga) :=
  ⟨fun Wx F ρ s σ H R tk S p => by
    unfold iSeq at p
    have hw : ∀ {v : V} {d : D} {F H}, relB b Γ F H v d → RepW Γ F H v d := fun {v d F H} r => by
      cases b with
      | true => exact .inl r
      | false => exact r
    have hb : ∀ {s1 : DS} {v : V} {ds : List D} {H1 : Hp}, SR Γ F ρ s1 σ H1 → relB b Γ F H1 v (.lst ds) → ∃ a vs, v = .ref a ∧ H1 a = some (.lst vs) ∧ Reps Γ F H1 vs ds ∧ ¬ wrOf b Γ F a := fun {s1 v ds H1} S1 r => by
      cases b with
      | true =>
        have r' : Rep Γ F H1 v (.lst ds) := r
        cases r' with
        | lst h r => exact ⟨_, _, rfl, h.1, r, h.2⟩
      | false =>
        have r' : RepW Γ F H1 v (.lst ds) := r
        rcases r' with r' | ⟨a, vs, ds', h1, h2, h3, h4, h5⟩
        · cases r' with
          | lst h r => exact ⟨_, _, rfl, h.1, r, fun z => h.2 (S1.sub _ (S1.gsub _ z))⟩
        · cases h2
          exact ⟨a, vs, h1, h4, h5, h3⟩
    cases q : ga ρ s with
    | ok d s1 =>
      rw [q] at p
      change Post (RepI b) Γ F ρ σ H R Wx (match seqD d with | some ds => .ok ds s1 | none => .bad) at p
      cases d with
      | lst ds => exact toI (pi_list can_e) (tE_inv (hr Wx F ρ s σ H _ tk S (by
          rw [q]
          intro v H1 g1 S1 r1 hI
          obtain ⟨a, vs, rfl, h1, h2, h3⟩ := hb S1 r1
          exact ⟨a, rfl, ⟨vs, .inl (.inl h1)⟩, (p.later g1).val S1 (w3_list (wr_sub S1) h1 h3 h2 (inv_lst hI h1))⟩)))
      | tup ds => exact toI (pi_tup can_e) (tE_inv (hr Wx F ρ s σ H _ tk S (by
          rw [q]
          intro v H1 g1 S1 r1 hI
          cases (hw r1).rep (fun _ h => by cases h) with
          | tup h r =>
            have hl := inv_tup hI (hK ▸ h.1)
            rw [← hK]
            exact ⟨_, rfl, ⟨_, h.1⟩, (p.later g1).val S1 (w3_tup (wr_sub S1) h r hl)⟩)))
      | str z => exact toI (pi_str can_e) (hr Wx F ρ s σ H _ tk S (by
          rw [q]
          intro v H1 g1 S1 r1
          rw [(hw r1).str]
          have p1 := p.later g1
          change Post (RepI b) Γ F ρ σ H1 R Wx (match (if z.length ≤ 16777216 then some (signs z) else none) with | some ds => .ok ds s1 | none => .bad) at p1
          split at p1
          · rename_i ds hq
            split at hq <;> cases hq
            exact ⟨z, rfl, p1.val S1 (w3_str (by assumption))⟩
          · exact p1.elim))
      | _ => exact p.elim
    | exc x s1 =>
      rw [q] at p
      exact toI (pi_list can_e) (hr Wx F ρ s σ H _ tk S (by rw [q]; exact p))
    | bad => rw [q] at p; exact p.elim⟩
theorem i_seq (hK : Γ.K = X.K) (h : E3 Γ X e ga) : I3 true Γ X tg e (iSeq ga) := i_seq0 (b := true) hK h.run
theorem i_seqW (hK : Γ.K = X.K) (h : L3 Γ X e ga) : I3 false Γ X tg e (iSeq ga) := i_seq0 (b := false) hK h.run
/-- range(n), range(a, n) -/
theorem i_rng1 (hg : Gl X "range") (hm : X.mg "range" = none) (ha : A3 Γ X [a] gl) (hs : starEach [a] X.env = [(false, eval a X.env)] := by rfl) : I3 b Γ X tg (.Call (.Name "range" p) [a] [] pos) (iR1 gl) :=
  ⟨fun Wx F ρ s σ H R tk S pp => toI (pi_range1 hg hm can_a hs) (ha.run Wx F ρ s σ H _ tk S (pp.bind fun vs s1 us H1 g1 S1 r1 p1 => by
    split at p1
    · rename_i j
      split at p1
      · rename_i hj
        unfold okR at hj
        simp only [Bool.and_eq_true, decide_eq_true_eq] at hj
        cases r1 with
        | cons r t =>
          cases r; cases t
          exact ⟨j, rfl, hj.1.1, hj.1.2, p1.val S1 (w3_range (by omega))⟩
      · exact p1.elim
    · exact p1.elim))⟩
theorem i_rng2 (hg : Gl X "range") (hm : X.mg "range" = none) (ha : A3 Γ X [a, c] gl) (hs : starEach [a, c] X.env = [(false, eval a X.env), (false, eval c X.env)] := by rfl) (hs2 : starEach [c] X.env = [(false, eval c X.env)] := by rfl) : I3 b Γ X tg (.Call (.Name "range" p) [a, c] [] pos) (iR2 gl) :=
  ⟨fun Wx F ρ s σ H R tk S pp => toI (pi_range2 hg hm can_a hs hs2) (ha.run Wx F ρ s σ H _ tk S (pp.bind fun vs s1 us H1 g1 S1 r1 p1 => by
    split at p1
    · rename_i i j
      split at p1
      · rename_i hj
        unfold okR at hj
        simp only [Bool.and_eq_true, decide_eq_true_eq] at hj
        cases r1 with
        | cons r t =>
          cases t with
          | cons r2 t =>
            cases r; cases r2; cases t
            exact ⟨i, j, rfl, ⟨hj.1.1.1, hj.1.1.2, hj.1.2.1, hj.1.2.2⟩, p1.val S1 (w3_range (by omega))⟩
      · exact p1.elim
    · exact p1.elim))⟩
end
theorem relW {Γ : Sta} {F : Addr → Prop} {ρ : Env3} {s1 : DS} {σ : Sl} {v : V} {ds : List D} {H1 : Hp} (S1 : SR Γ F ρ s1 σ H1) (r' : RepW Γ F H1 v (.lst ds)) : ∃ a vs, v = .ref a ∧ H1 a = some (.lst vs) ∧ Reps Γ F H1 vs ds ∧ ¬ Γ.G a := by
  rcases r' with r' | ⟨a, vs, ds', h1, h2, h3, h4, h5⟩
  · cases r' with
    | lst h r => exact ⟨_, _, rfl, h.1, r, fun z => h.2 (S1.sub _ (S1.gsub _ z))⟩
  · cases h2
    exact ⟨a, vs, h1, h4, h5, h3⟩
theorem relS {Γ : Sta} {F : Addr → Prop} {v : V} {ds : List D} {H1 : Hp} (r' : Rep Γ F H1 v (.lst ds)) : ∃ a vs, v = .ref a ∧ H1 a = some (.lst vs) ∧ Reps Γ F H1 vs ds ∧ ¬ F a := by
  cases r' with
  | lst h r => exact ⟨_, _, rfl, h.1, r, h.2⟩
theorem RepW.tupN {Γ : Sta} {F : Addr → Prop} {v : V} {ds : List D} {H1 : Hp} (r : RepW Γ F H1 v (.tup ds)) : ∃ a vs, v = .ref a ∧ NdT Γ.K F H1 a vs ∧ Reps Γ F H1 vs ds := by
  cases r.rep (fun _ h => by cases h) with
  | tup h r => exact ⟨_, _, rfl, h, r⟩
section
variable {b : Bool} {Γ : Sta} {X : Cx} {e e2 a c tg : Expr} {elts : List Expr} {kk : Nat} {ga gb : G} {gl : GL} {pos p tpos : Pos}
/-- zip, of a comprehension and of a for -/
theorem i_zipW (hK : Γ.K = X.K) (hg : Gl X "zip") (hm : X.mg "zip" = none) (ha : AW3 Γ X [e, e2] gl) (hs : starEach [e, e2] X.env = (false, eval e X.env) :: starEach [e2] X.env := by rfl) (hpl : (backTo pos (starEach [e2] X.env)).any (·.1) = false := by rfl) :
    I3 false Γ X (.Tuple elts kk tpos) (.Call (.Name "zip" p) [e, e2] [] pos) (iZip gl) :=
  ⟨fun Wx F ρ s σ H R tk S pp => toI (RZ.pi_zipA hg hm can_a hs hpl) (tA_inv (ha.run Wx F ρ s σ H _ tk S (pp.bind fun vs s1 us H1 g1 S1 r1 p1 hI => by
    split at p1
    · cases r1 with
      | cons q1 t =>
        cases t with
        | cons q2 t =>
          cases t
          obtain ⟨a, vs, rfl, h1, h2, h3⟩ := relW S1 q1
          obtain ⟨b, ws, rfl, h4, h5, h6⟩ := relW S1 q2
          exact ⟨a, b, vs, ws, rfl, .inl ⟨.inl (.inl h1), .inl (.inl h4), p1.val S1 (w3_zipL (wr_sub (b := false) S1) h1 h3 h2 h4 h6 h5 (inv_lst hI h1))⟩⟩
    · cases r1 with
      | cons q1 t =>
        cases t with
        | cons q2 t =>
          cases t
          obtain ⟨a, vs, rfl, h1, h2⟩ := q1.tupN
          obtain ⟨b, ws, rfl, h4, h5⟩ := q2.tupN
          have hl := inv_tup hI (hK ▸ h1.1)
          rw [← hK]
          exact ⟨a, b, vs, ws, rfl, .inr ⟨h1.1, h4.1, p1.val S1 (w3_zipT (wr_sub (b := false) S1) h1 h2 h4 h5 hl)⟩⟩
    · exact p1.elim)))⟩
theorem i_zip (hK : Γ.K = X.K) (hg : Gl X "zip") (hm : X.mg "zip" = none) (ha : A3 Γ X [e, e2] gl) (hs : starEach [e, e2] X.env = (false, eval e X.env) :: starEach [e2] X.env := by rfl) (hpl : (backTo pos (starEach [e2] X.env)).any (·.1) = false := by rfl) :
    I3 true Γ X (.Tuple elts kk tpos) (.Call (.Name "zip" p) [e, e2] [] pos) (iZip gl) :=
  ⟨fun Wx F ρ s σ H R tk S pp => toI (RZ.pi_zipA hg hm can_a hs hpl) (tA_inv (ha.run Wx F ρ s σ H _ tk S (pp.bind fun vs s1 us H1 g1 S1 r1 p1 hI => by
    split at p1
    · cases r1 with
      | cons q1 t =>
        cases t with
        | cons q2 t =>
          cases t
          obtain ⟨a, vs, rfl, h1, h2, h3⟩ := relS q1
          obtain ⟨b, ws, rfl, h4, h5, h6⟩ := relS q2
          exact ⟨a, b, vs, ws, rfl, .inl ⟨.inl (.inl h1), .inl (.inl h4), p1.val S1 (w3_zipL (wr_sub (b := true) S1) h1 h3 h2 h4 h6 h5 (inv_lst hI h1))⟩⟩
    · cases r1 with
      | cons q1 t =>
        cases t with
        | cons q2 t =>
          cases t
          obtain ⟨a, vs, rfl, h1, h2⟩ := RepW.tupN (.inl q1)
          obtain ⟨b, ws, rfl, h4, h5⟩ := RepW.tupN (.inl q2)
          have hl := inv_tup hI (hK ▸ h1.1)
          rw [← hK]
          exact ⟨a, b, vs, ws, rfl, .inr ⟨h1.1, h4.1, p1.val S1 (w3_zipT (wr_sub (b := true) S1) h1 h2 h4 h5 hl)⟩⟩
    · exact p1.elim)))⟩
end
end L3

/-! L3: loops, comprehensions, lists of a slot's own. -/
namespace L3
open PySem PySem.Spec PyProof.Rows L2

/-! ### for -/
def forL (tgt : H1) (body : GS) : List D → GS
  | [], ρ, s => .ok (.nx ρ) s
  | d :: ds, ρ, s => match tgt d ρ with
    | none => .bad
    | some ρ1 => match body ρ1 s with
      | .ok (.nx ρ2) s2 => forL tgt body ds ρ2 s2
      | .ok (.ct ρ2) s2 => forL tgt body ds ρ2 s2
      | .ok (.bk ρ2) s2 => .ok (.nx ρ2) s2
      | r => r
def sFor (gi : GL) (tgt : H1) (body : GS) : GS := fun ρ s => bindS (gi ρ s) ρ fun ds s1 => forL tgt body ds ρ s1
def whL (t : GT) (body : GS) : Nat → GS
  | 0, _, _ => .bad
  | n + 1, ρ, s => bindS (t ρ s) ρ fun b s1 => if b = true then (match body ρ s1 with
      | .ok (.nx ρ2) s2 => whL t body n ρ2 s2
      | .ok (.ct ρ2) s2 => whL t body n ρ2 s2
      | .ok (.bk ρ2) s2 => .ok (.nx ρ2) s2
      | r => r) else .ok (.nx ρ) s1
def sWhile (fuel : Env3 → DS → Nat) (t : GT) (body : GS) : GS := fun ρ s => whL t body (fuel ρ s) ρ s
theorem newer_back {F' F4 : Addr → Prop} {H' H2 : Hp} (hH : H2 = H' ∨ ∃ T o, H' T = none ∧ H2 = upd H' T o) (n : Newer F' H2 F4) : Newer F' H' F4 := fun a z => by
  rcases n a z with w | w
  · exact .inl w
  · refine .inr ?_
    rcases hH with rfl | ⟨T, o, hT, rfl⟩
    · exact w
    · by_cases e : a = T
      · subst e; exact hT
      · rw [upd_ne e] at w; exact w
section
variable {Γ : Sta} {X : Cx} {tg iter c : Expr} {body : List Stmt} {gi : GL} {h : H1} {gb : GS} {ta : GT} {is : List Nat} {pos : Pos}
theorem s_for (hp : PassesOwn (model X.prog X.w) X.A X.env X.xe) (hc : X.calm = true) (hi : I3 true Γ X tg iter gi) (hg : G3 Γ X tg is h) (hb : SS3 Γ X body gb) (hs : ∀ x, foldedSetIterable iter X.env x = pure x := by intro _; rfl) : S3 Γ X (.For tg iter body [] pos) (sFor gi h gb) :=
  ⟨fun Wx F ρ s σ H D tk S p => toS (ps_for hp hc can_i can_g can_ss hs) (hi.run Wx F ρ s σ H _ tk S (p.bind S fun ds s1 J H1 g1 S1 w1 p1 => by
    refine ⟨fun i m σ' H' => m = ds.length - i ∧ i ≤ ds.length ∧ ∃ F' ρ' s', SR Γ F' ρ' s' σ' H' ∧ Grow F H1 H' ∧ Newer F H1 F' ∧ PostS Γ F' H' D Wx (forL h gb (ds.drop i) ρ' s'),
      ⟨ds.length, rfl, Nat.zero_le _, F, ρ, s1, S1, Grow.refl _ _, Newer.refl _ _, p1⟩, ?_⟩
    rintro i m σ' H' ⟨rfl, hi, F', ρ', s', S', g', n', p'⟩
    by_cases hlt : i < ds.length
    · refine .inr ⟨w1.goes i F' H' g' n' hlt, fun σ2 H2 => ∃ F' ρ' s', SR Γ F' ρ' s' σ2 H2 ∧ Grow F H1 H2 ∧ Newer F H1 F' ∧ PostS Γ F' H2 D Wx (forL h gb (ds.drop (i + 1)) ρ' s'), fun σ2 H2 q => ⟨ds.length - (i + 1), by omega, rfl, hlt, q⟩, fun x H2 hy => ?_⟩
      obtain ⟨hH, d, hd, rd⟩ := w1.yields i F' H' x H2 g' n' S'.alloc hlt hy
      have hdrop : ds.drop i = d :: ds.drop (i + 1) := by
        have := List.getElem?_eq_some_iff.mp hd
        obtain ⟨h1, h2⟩ := this
        rw [← h2]; exact List.drop_eq_getElem_cons h1
      rw [hdrop] at p'
      have S2 : SR Γ F' ρ' s' σ' H2 := by
        rcases hH with rfl | ⟨T, o, hT, rfl⟩
        · exact S'
        · exact S'.laid hT
      have g2 : Grow F' H' H2 := by
        rcases hH with rfl | ⟨T, o, hT, rfl⟩
        · exact Grow.refl _ _
        · exact Grow.new hT
      have p2 := PostS.later g2 (Newer.refl F' H') p'
      have g3 : Grow F H1 H2 := g'.step n' g2
      unfold forL at p2
      cases q : h d ρ' with
      | none => rw [q] at p2; exact p2.elim
      | some ρ1 =>
        rw [q] at p2
        refine hg.run F' ρ' ρ1 s' σ' H2 x d _ S2 rd q fun σ3 S3 _ _ => ?_
        refine hb.run Wx F' ρ1 s' σ3 H2 _ tk S3 ?_
        change PostS Γ F' H2 D Wx (match gb ρ1 s' with
          | .ok (.nx ρ2) s2 => forL h gb (ds.drop (i + 1)) ρ2 s2
          | .ok (.ct ρ2) s2 => forL h gb (ds.drop (i + 1)) ρ2 s2
          | .ok (.bk ρ2) s2 => .ok (.nx ρ2) s2
          | r => r) at p2
        cases q2 : gb ρ1 s' with
        | ok o s2 =>
          rw [q2] at p2
          cases o with
          | nx ρ2 => exact fun F4 σ4 H4 g4 n4 S4 => ⟨F4, ρ2, s2, S4, g3.step n' g4, n'.trans g' (newer_back hH n4), p2.later g4 n4⟩
          | ct ρ2 => exact fun F4 σ4 H4 g4 n4 S4 => ⟨F4, ρ2, s2, S4, g3.step n' g4, n'.trans g' (newer_back hH n4), p2.later g4 n4⟩
          | bk ρ2 => exact fun F4 σ4 H4 g4 n4 S4 => p2 F4 σ4 H4 g4 n4 S4
          | rt d => exact p2
          | ex x ρ2 => exact p2
        | exc x s2 => rw [q2] at p2; exact p2
        | bad => rw [q2] at p2; exact p2
    · have e : i = ds.length := by omega
      subst e
      rw [List.drop_length] at p'
      exact .inl ⟨w1.stops F' H' g' n', PostS.nx p' S'⟩))⟩
theorem s_while {fuel : Env3 → DS → Nat} (hp : PassesOwn (model X.prog X.w) X.A X.env X.xe) (hc : T3 Γ X c ta) (hb : SS3 Γ X body gb) : S3 Γ X (.While c body [] pos) (sWhile fuel ta gb) :=
  ⟨fun Wx F ρ s σ H D tk S p => toS (ps_while hp can_b can_ss) (by
    refine ⟨fun m σ' H' => ∃ F' ρ' s', SR Γ F' ρ' s' σ' H' ∧ PostS Γ F' H' D Wx (whL ta gb m ρ' s'), ⟨fuel ρ s, F, ρ, s, S, p⟩, ?_⟩
    rintro m σ' H' ⟨F', ρ', s', S', p'⟩
    cases m with
    | zero => exact p'.elim
    | succ m =>
      unfold whL at p'
      refine hc.run Wx F' ρ' s' σ' H' _ tk S' (p'.bind S' fun b s1 b' H1 g1 S1 r1 p1 => ?_)
      cases r1
      cases b with
      | false =>
        rw [if_neg Bool.false_ne_true] at p1 ⊢
        exact PostS.nx p1 S1
      | true =>
        rw [if_pos rfl] at p1 ⊢
        refine ⟨fun σ2 H2 => ∃ F' ρ' s', SR Γ F' ρ' s' σ2 H2 ∧ PostS Γ F' H2 D Wx (whL ta gb m ρ' s'), fun σ2 H2 q => ⟨m, Nat.lt_succ_self m, q⟩, hb.run Wx F' ρ' s1 σ' H1 _ tk S1 ?_⟩
        cases q2 : gb ρ' s1 with
        | ok o s2 =>
          rw [q2] at p1
          cases o with
          | nx ρ2 => exact fun F4 σ4 H4 g4 n4 S4 => ⟨F4, ρ2, s2, S4, PostS.later g4 n4 p1⟩
          | ct ρ2 => exact fun F4 σ4 H4 g4 n4 S4 => ⟨F4, ρ2, s2, S4, PostS.later g4 n4 p1⟩
          | bk ρ2 => exact fun F4 σ4 H4 g4 n4 S4 => p1 F4 σ4 H4 g4 n4 S4
          | rt d => exact p1
          | ex x ρ2 => exact p1
        | exc x s2 => rw [q2] at p1; exact p1
        | bad => rw [q2] at p1; exact p1)⟩
end

/-! ### new lists -/
/-- a list that is new since Hb and that nothing else holds -/
def RepN (Hb : Hp) (Γ : Sta) (F : Addr → Prop) (H : Hp) (v : V) (ds : List D) : Prop := ∃ a vs, v = .ref a ∧ Hb a = none ∧ H a = some (.lst vs) ∧ ¬ F a ∧ Reps Γ (fun b => F b ∨ b = a) H vs ds
structure N3 (Γ : Sta) (X : Cx) (e : Expr) (g : GL) : Prop where
  run : ∀ (Wx : WX) (F : Addr → Prop) (ρ : Env3) (s : DS) (σ : Sl) (H : Hp) (Q : VK), Takes X Wx → SR Γ F ρ s σ H → Post (RepN H) Γ F ρ σ H Q Wx (g ρ s) → tE X e σ H Q
def eOfN (g : GL) : G := fun ρ s => (g ρ s).bind fun ds s1 => .ok (.lst ds) s1
def sOwn (i : Nat) (g : GL) : GS := fun ρ s => bindS (g ρ s) ρ fun ds s1 => .ok (.nx (ρ.set i (some (.o ds)))) s1
def nLst (ga : GL) : GL := fun ρ s => (ga ρ s).bind fun xs s1 => if xs.length ≤ 16777216 then .ok xs s1 else .bad
section
variable {Γ : Sta} {X : Cx} {e : Expr} {es : List Expr} {g : GL} {pos : Pos}
theorem Post.ofN {F : Addr → Prop} {ρ : Env3} {s : DS} {σ : Sl} {H : Hp} {Q : VK} {Wx : WX} (p : Post Rep Γ F ρ σ H Q Wx (eOfN g ρ s)) : Post (RepN H) Γ F ρ σ H Q Wx (g ρ s) := p.bind fun ds s1 v H1 g1 S1 r1 p1 => by
  obtain ⟨a, vs, rfl, h1, h2, h3, h4⟩ := r1
  exact p1.val S1 (.lst ⟨h2, h3⟩ (h4.less fun b z => .inl z))
theorem e_ofN (h : N3 Γ X e g) : E3 Γ X e (eOfN g) := ⟨fun Wx F ρ s σ H Q tk S p => h.run Wx F ρ s σ H Q tk S p.ofN⟩
theorem n_lst (h : A3 Γ X es g) : N3 Γ X (.List es pos) (nLst g) :=
  ⟨fun Wx F ρ s σ H Q tk S p => toE (pe_lst can_a) (h.run Wx F ρ s σ H _ tk S (p.bind fun xs s1 vs H1 g1 S1 r1 p1 => by
    split at p1
    · rename_i hl
      refine ⟨by rw [sizeLine_is, r1.length]; exact hl, fun q hq => ?_⟩
      have n0 : H q = none := by
        cases z : H q with
        | none => rfl
        | some o =>
          by_cases gq : Γ.G q
          · obtain ⟨xs, hx⟩ := S1.deal.there gq
            rw [hx] at hq; cases hq
          · obtain ⟨u, hu⟩ := g1.there z gq
            rw [hu] at hq; cases hq
      refine p1 _ _ (Grow.new hq) (S1.laid hq) ⟨q, vs, rfl, n0, upd_same, S1.notF hq, r1.mono (Grow.new hq) fun b z => z.elim .inl fun e => .inr (by rw [e]; exact hq)⟩
    · exact p1.elim))⟩
theorem SR.ofN {F : Addr → Prop} {ρ : Env3} {s s1 : DS} {σ : Sl} {H H1 : Hp} {i : Nat} {v : V} {ds : List D} (S : SR Γ F ρ s σ H) (g : Grow Γ.G H H1) (S1 : SR Γ F ρ s1 σ H1) (hl : i < σ.length) (r : RepN H Γ F H1 v ds) :
    ∃ F', Newer F H F' ∧ SR Γ F' (ρ.set i (some (.o ds))) s1 (σ.set i (some v)) H1 := by
  obtain ⟨a, vs, rfl, h1, h2, h3, h4⟩ := r
  obtain ⟨nw, S'⟩ := S.own g S1 hl h1 h2 (h4.less fun b z => .inl z) h4
  exact ⟨_, nw, S'⟩
theorem s_own {i : Nat} {x : Str} {pos' : Pos} (hN : X.N.Nodup) (hi : X.N[i]? = some x) (hx : Loc X.env.scope x) (he : N3 Γ X e g) (hs : swapsWith e (some (.Name x pos')) pos.line X.env = pure false := by rfl) (hf : X.fn x = true ∨ X.env.scope.names.lookup x = some .local := by first | exact .inl rfl | exact .inr rfl) :
    S3 Γ X (.Assign [.Name x pos'] e pos) (sOwn i g) := ⟨fun Wx F ρ s σ H D tk S p pins sh I => by
  have hl : i < σ.length := by rw [I.len]; exact (List.getElem?_eq_some_iff.mp hi).1
  refine toS (ps_set hN hi hx can_e hs hf) (he.run Wx F ρ s σ H _ tk S ?_) pins sh I
  unfold sOwn at p
  cases q : g ρ s with
  | ok ds s1 =>
    rw [q] at p
    exact fun v H1 g1 S1 r1 => by
      obtain ⟨F', nw, S'⟩ := S.ofN g1 S1 hl r1
      exact p F' _ H1 (S.gF g1) nw S'
  | exc x s1 => rw [q] at p; exact fun cls dd H' g S1 e => p F σ H' cls dd (S.gF g) (Newer.refl _ _) S1 e
  | bad => rw [q] at p; exact p⟩
end

/-! ### comprehensions -/
def noX {α : Type} : R α → R α | .ok a s => .ok a s | _ => .bad
def wip (ρ : Env3) : List Nat → Env3
  | [] => ρ | v :: vs => (wip ρ vs).set v none
def compL (tgt : H1) (t : GT) (e : G) (ρ : Env3) : List D → DS → R (List D)
  | [], s => .ok [] s
  | d :: ds, s => match tgt d ρ with
    | none => .bad
    | some ρ1 => (noX (t ρ1 s)).bind fun b s1 => if b = true then (noX (e ρ1 s1)).bind fun y s2 => (compL tgt t e ρ ds s2).bind fun ys s3 => .ok (y :: ys) s3 else compL tgt t e ρ ds s1
def nComp (gi : GL) (own : List Nat) (tgt : H1) (t : GT) (e : G) : GL := fun ρ s => (gi ρ s).bind fun ds s1 => compL tgt t e (wip ρ own) ds s1
def tYes3 : GT := fun _ s => .ok true s
/-- a clause's tests -/
def tTs3 (X : Cx) (ifs : List Expr) : TT := fun σ H Q => ∀ pins s, Inv X pins σ H s → wpAny (model X.prog X.w) X.A (forIn ifs true fun c r => if r = true then do let ok ← isTrue c X.env (eval c X.env); pure (ForInStep.yield ok) else pure (ForInStep.yield r)) (TP X pins σ Q) X.xe s
structure Ts3 (Γ : Sta) (X : Cx) (ifs : List Expr) (g : GT) : Prop where
  run : ∀ (Wx : WX) (F : Addr → Prop) (ρ : Env3) (s : DS) (σ : Sl) (H : Hp) (Q : Bool → Hp → Prop), Takes X Wx → SR Γ F ρ s σ H → Post RepB Γ F ρ σ H Q Wx (g ρ s) → tTs3 X ifs σ H Q
section
variable {Γ : Sta} {X : Cx} {F F' : Addr → Prop} {ρ : Env3} {s s' s1 : DS} {σ : Sl} {H H1 H' : Hp}
theorem can_ts {ifs : List Expr} : PTs X ifs (tTs3 X ifs) := ⟨fun pins s σ H Q I h => h pins s I⟩
theorem ts_nil : Ts3 Γ X [] tYes3 := ⟨fun Wx F ρ s σ H Q tk S p pins sh I => pts_nil.run pins sh σ H Q I (p.val S rfl)⟩
theorem ts_one {c : Expr} {g : GT} (h : T3 Γ X c g) : Ts3 Γ X [c] g := ⟨fun Wx F ρ s σ H Q tk S p pins sh I => (pts_one can_b).run pins sh σ H Q I (h.run Wx F ρ s σ H Q tk S p)⟩
theorem Post.noX {α β : Type} {rel : Sta → (Addr → Prop) → Hp → β → α → Prop} {Q : β → Hp → Prop} {Wx : WX} {r : R α} (p : Post rel Γ F ρ σ H Q (fun _ _ _ _ => False) (L3.noX r)) : Post rel Γ F ρ σ H Q Wx r := by
  cases r with
  | ok a s => exact p
  | exc x s => exact p.elim
  | bad => exact p
theorem SR.wipe (S : SR Γ F ρ s σ H) : ∀ vs : List Nat, SR Γ F (wip ρ vs) s (L2.wipe σ vs) H
  | [] => S
  | v :: vs => (SR.wipe S vs).drop
theorem wipe_get {σ τ : Sl} (hl : τ.length = σ.length) : ∀ (vs : List Nat), (∀ j, j ∉ vs → τ[j]? = σ[j]?) → L2.wipe τ vs = L2.wipe σ vs := fun vs h => by
  have key : ∀ (vs : List Nat) (σ : Sl) (j : Nat), (L2.wipe σ vs)[j]? = if j ∈ vs then (if j < σ.length then some none else none) else σ[j]? := fun vs => by
    induction vs with
    | nil => intro σ j; simp [L2.wipe]
    | cons v vs ih =>
      intro σ j
      show ((L2.wipe σ vs).set v none)[j]? = _
      by_cases e : v = j
      · subst e
        rw [if_pos List.mem_cons_self]
        by_cases hlt : v < σ.length
        · rw [if_pos hlt, List.getElem?_set_self (by rw [wipe_length]; exact hlt)]
        · rw [if_neg hlt]
          exact List.getElem?_eq_none (by rw [List.length_set, wipe_length]; omega)
      · rw [List.getElem?_set_ne e, ih]
        have e2 : (j ∈ v :: vs) ↔ j ∈ vs := by
          rw [List.mem_cons]
          exact ⟨fun z => z.elim (fun q => (e q.symm).elim) id, .inr⟩
        by_cases m : j ∈ vs
        · rw [if_pos m, if_pos (e2.mpr m)]
        · rw [if_neg m, if_neg (fun z => m (e2.mp z))]
  apply List.ext_getElem?
  intro j
  rw [key, key, hl]
  by_cases m : j ∈ vs
  · rw [if_pos m, if_pos m]
  · rw [if_neg m, if_neg m]; exact h j m
/-- the state while a new list at D grows -/
theorem SR.blk (S1 : SR Γ F ρ s1 σ H1) {D : Addr} (n : H1 D = none) (g : Grow Γ.G H1 H') (dl : DealAt Γ H' s') (tb : LamX.Tabs Γ.T H') (al : ∃ o, H' D = some o) : SR Γ (fun b => F b ∨ b = D) ρ s' σ H' := by
  have n0 : Γ.H0 D = none := by
    cases q : Γ.H0 D with
    | none => rfl
    | some o =>
      by_cases z : Γ.G D
      · obtain ⟨xs, h⟩ := S1.deal.there z
        rw [h] at n; cases n
      · obtain ⟨u, hu⟩ := S1.grow.there q z
        rw [hu] at n; cases n
  have gF : Grow F H1 H' := S1.gF g
  have nw : Newer F H1 (fun b => F b ∨ b = D) := fun b z => z.elim .inl fun q => .inr (by rw [q]; exact n)
  have S2 := S1.grown g dl tb
  exact { S2 with
    sub := fun b z => .inl (S2.sub b z)
    fresh := fun b z => z.elim (S2.fresh b) fun q => .inr (by rw [q]; exact n0)
    alloc := fun b z => z.elim (S2.alloc b) fun q => by rw [q]; exact al
    slots := fun j b h => by
      have q := S1.slots j b h
      cases b with
      | d d => obtain ⟨v, g1, g2⟩ := q; exact ⟨v, g1, g2.mono gF nw⟩
      | o es' =>
        obtain ⟨c, ws', g1, g2, g3, g4, g5, g6⟩ := q
        exact ⟨c, ws', g1, .inl g2, g3, g4, g.at_ g5 (fun z => g3 (S1.gsub c z)) (fun ps z => by cases z), g6.mono gF nw⟩ }
end
end L3

/-! L3: comprehensions. -/
namespace L3
open PySem PySem.Spec PyProof.Rows L2

section
variable (X : Cx) (scope : Scope)
def tGb (tg : Expr) : TG := fun v σ H Q => ∀ (s0 : Shared) (H0 : Hp) (C : Addr) (cl : List (Str × Addr)) (fp : List Addr), tG3 (X.blk s0 H0 scope (compEnvC scope cl C X.env) fp) tg v σ H Q
def tTb (ifs : List Expr) : TT := fun σ H Q => ∀ (s0 : Shared) (H0 : Hp) (C : Addr) (cl : List (Str × Addr)) (fp : List Addr), tTs3 (X.blk s0 H0 scope (compEnvC scope cl C X.env) fp) ifs σ H Q
def tEb (e : Expr) : TE := fun σ H Q => ∀ (s0 : Shared) (H0 : Hp) (C : Addr) (cl : List (Str × Addr)) (fp : List Addr), tE (X.blk s0 H0 scope (compEnvC scope cl C X.env) fp) e σ H Q
end
/-- a piece of a comprehension's block, wherever the block stands -/
def Blk (X : Cx) (scope : Scope) (P : Cx → Prop) : Prop := ∀ (s0 : Shared) (H0 : Hp) (C : Addr) (cl : List (Str × Addr)) (fp : List Addr), P (X.blk s0 H0 scope (compEnvC scope cl C X.env) fp)
section
variable {Γ : Sta} {X : Cx} {elt tg iter : Expr} {ifs : List Expr} {scope : Scope} {own : List (Str × Nat)} {is : List Nat} {gi : GL} {h : H1} {gt : GT} {ge : G} {pos spos : Pos}
theorem comp_core (hi : I3 false Γ X tg iter gi) (his : ∀ j ∈ is, j ∈ own.map (fun z : Str × Nat => z.2)) (hg : Blk X scope fun Y => G3 Γ Y tg is h) (ht : Blk X scope fun Y => Ts3 Γ Y ifs gt) (he : Blk X scope fun Y => E3 Γ Y elt ge)
    {Wx : WX} {F : Addr → Prop} {ρ : Env3} {s : DS} {σ : Sl} {H : Hp} {Q : VK} (tk : Takes X Wx) (S : SR Γ F ρ s σ H) (p : Post (RepN H) Γ F ρ σ H Q Wx (nComp gi (own.map (fun z : Str × Nat => z.2)) h gt ge ρ s)) :
    tLc (tI3 X tg iter) (tGb X scope tg) (tTb X scope ifs) (tEb X scope elt) (own.map (fun z : Str × Nat => z.2)) σ H Q := by
  refine hi.run Wx F ρ s σ H _ tk S (p.bind fun ds s1 J H1 g1 S1 w1 p1 => fun D hD => ?_)
  have nb : H D = none := by
    cases z : H D with
    | none => rfl
    | some o =>
      by_cases gq : Γ.G D
      · obtain ⟨xs, hx⟩ := S1.deal.there gq
        rw [hx] at hD; cases hD
      · obtain ⟨u, hu⟩ := g1.there z gq
        rw [hu] at hD; cases hD
  have nG : ¬ Γ.G D := fun z => by
    obtain ⟨xs, hx⟩ := S1.deal.there z
    rw [hx] at hD; cases hD
  have nF : ¬ F D := S1.notF hD
  have wsub : ∀ a, wrOf false Γ F a → F a := wr_sub (b := false) S1
  refine ⟨fun i m H' => m = ds.length - i ∧ i ≤ ds.length ∧ ∃ s' us ys, Grow Γ.G H1 H' ∧ DealAt Γ H' s' ∧ LamX.Tabs Γ.T H' ∧ H' D = some (.lst us) ∧ Reps Γ (fun b => F b ∨ b = D) H' us ys ∧ us.length ≤ i ∧
      Post (RepN H) Γ F ρ σ H1 Q Wx ((compL h gt ge (wip ρ (own.map (fun z : Str × Nat => z.2))) (ds.drop i) s').bind fun zs s3 => .ok (ys ++ zs) s3), ⟨ds.length, rfl, Nat.zero_le _, s1, [], [], Grow.new hD, (S1.laid hD).deal, (S1.laid hD).tabs, upd_same, .nil, Nat.le_refl _, ?_⟩, ?_⟩
  · rw [List.drop_zero]
    cases q : compL h gt ge (wip ρ (own.map (fun z : Str × Nat => z.2))) ds s1 with
    | ok zs s3 => rw [q] at p1; exact p1
    | exc x s3 => rw [q] at p1; exact p1
    | bad => rw [q] at p1; exact p1
  · rintro i m H' ⟨rfl, hile, s', us, ys, g', dl', tb', hD', ru, hul, p'⟩
    have SB : SR Γ (fun b => F b ∨ b = D) ρ s' σ H' := S1.blk hD g' dl' tb' ⟨_, hD'⟩
    have nw : Newer F H1 (fun b => F b ∨ b = D) := fun b z => z.elim .inl fun q => .inr (by rw [q]; exact hD)
    by_cases hlt : i < ds.length
    · refine .inr ⟨w1.goes i _ H' g' nw hlt, fun H2 => ∃ s' us ys, Grow Γ.G H1 H2 ∧ DealAt Γ H2 s' ∧ LamX.Tabs Γ.T H2 ∧ H2 D = some (.lst us) ∧ Reps Γ (fun b => F b ∨ b = D) H2 us ys ∧ us.length ≤ i + 1 ∧
        Post (RepN H) Γ F ρ σ H1 Q Wx ((compL h gt ge (wip ρ (own.map (fun z : Str × Nat => z.2))) (ds.drop (i + 1)) s').bind fun zs s3 => .ok (ys ++ zs) s3), fun H2 q => ⟨ds.length - (i + 1), by omega, rfl, hlt, q⟩, fun x H2 hy => ?_⟩
      obtain ⟨hH, d, hd, rd⟩ := w1.yields i _ H' x H2 g' nw SB.alloc hlt hy
      have hdrop : ds.drop i = d :: ds.drop (i + 1) := by
        obtain ⟨h1, h2⟩ := List.getElem?_eq_some_iff.mp hd
        rw [← h2]; exact List.drop_eq_getElem_cons h1
      have S2 : SR Γ (fun b => F b ∨ b = D) ρ s' σ H2 := by
        rcases hH with rfl | ⟨T, o, hT, rfl⟩
        · exact SB
        · exact SB.laid hT
      have g2 : Grow Γ.G H' H2 := by
        rcases hH with rfl | ⟨T, o, hT, rfl⟩
        · exact Grow.refl _ _
        · exact Grow.new hT
      have hD2 : H2 D = some (.lst us) := g2.at_ hD' nG (fun ps z => by cases z)
      have ru2 : Reps Γ (fun b => F b ∨ b = D) H2 us ys := ru.grown SB g2
      rw [hdrop] at p'
      have p2 : Post (RepN H) Γ F ρ σ H1 Q Wx ((match h d (wip ρ (own.map (fun z : Str × Nat => z.2))) with
        | none => R.bad
        | some ρ1 => (noX (gt ρ1 s')).bind fun b s1 => if b = true then (noX (ge ρ1 s1)).bind fun y s2 => (compL h gt ge (wip ρ (own.map (fun z : Str × Nat => z.2))) (ds.drop (i + 1)) s2).bind fun ys s3 => .ok (y :: ys) s3 else compL h gt ge (wip ρ (own.map (fun z : Str × Nat => z.2))) (ds.drop (i + 1)) s1).bind fun zs s3 => .ok (ys ++ zs) s3) := p'
      cases q : h d (wip ρ (own.map (fun z : Str × Nat => z.2))) with
      | none => rw [q] at p2; exact p2.elim
      | some ρ1 =>
        rw [q] at p2
        replace p2 : Post (RepN H) Γ F ρ σ H1 Q Wx (((noX (gt ρ1 s')).bind fun b s1 => if b = true then (noX (ge ρ1 s1)).bind fun y s2 => (compL h gt ge (wip ρ (own.map (fun z : Str × Nat => z.2))) (ds.drop (i + 1)) s2).bind fun ys s3 => .ok (y :: ys) s3 else compL h gt ge (wip ρ (own.map (fun z : Str × Nat => z.2))) (ds.drop (i + 1)) s1).bind fun zs s3 => .ok (ys ++ zs) s3) := p2
        intro s0 H0 C cl fp
        refine (hg s0 H0 C cl fp).run _ (wip ρ (own.map (fun z : Str × Nat => z.2))) ρ1 s' (L2.wipe σ (own.map (fun z : Str × Nat => z.2))) H2 x d _ (S2.wipe _) rd q fun σ3 S3 hsame hlen => ⟨(wipe_get hlen (own.map (fun z : Str × Nat => z.2)) (fun j hj => hsame j fun z => hj (his j z))).trans ?_, ?_⟩
        · -- wiped twice
          exact wipe_get (by rw [wipe_length]) (own.map (fun z : Str × Nat => z.2)) fun j hj => wipe_out hj
        · intro s0 H0 C cl fp
          refine (ht s0 H0 C cl fp).run (fun _ _ _ _ => False) _ ρ1 s' σ3 H2 _ LamX.takes0 S3 (Post.noX ?_)
          cases q2 : noX (gt ρ1 s') with
          | bad => rw [q2] at p2; exact p2.elim
          | exc x s4 => cases hz : gt ρ1 s' <;> rw [hz] at q2 <;> cases q2
          | ok b s4 =>
            rw [q2] at p2
            intro b' H3 g3 S4 e4
            cases e4
            have S4' := SB.grown (g2.trans g3) S4.deal S4.tabs
            have hD3 : H3 D = some (.lst us) := g3.at_ hD2 nG (fun ps z => by cases z)
            have ru3 : Reps Γ (fun b => F b ∨ b = D) H3 us ys := ru2.grown S2 g3
            cases b with
            | false =>
              rw [if_neg Bool.false_ne_true]
              exact ⟨s4, us, ys, (g'.trans g2).trans g3, S4.deal, S4.tabs, hD3, ru3, by omega, p2⟩
            | true =>
              rw [if_pos rfl]
              have p3 : Post (RepN H) Γ F ρ σ H1 Q Wx (((noX (ge ρ1 s4)).bind fun y s2 => (compL h gt ge (wip ρ (own.map (fun z : Str × Nat => z.2))) (ds.drop (i + 1)) s2).bind fun ys s3 => .ok (y :: ys) s3).bind fun zs s3 => .ok (ys ++ zs) s3) := p2
              intro s0 H0 C cl fp
              refine (he s0 H0 C cl fp).run (fun _ _ _ _ => False) _ ρ1 s4 σ3 H3 _ LamX.takes0 S4 (Post.noX ?_)
              cases q3 : noX (ge ρ1 s4) with
              | bad => rw [q3] at p3; exact p3.elim
              | exc x s5 => cases hz : ge ρ1 s4 <;> rw [hz] at q3 <;> cases q3
              | ok y s5 =>
                rw [q3] at p3
                intro v H4 g4 S5 rv
                have hD4 : H4 D = some (.lst us) := g4.at_ hD3 nG (fun ps z => by cases z)
                have ru4 : Reps Γ (fun b => F b ∨ b = D) H4 us ys := ru3.grown S4 g4
                have gw : Grow (fun b => F b ∨ b = D) H4 (upd H4 D (.lst (us ++ [v]))) := Grow.write (.inr rfl)
                refine ⟨us, hD4, ?_, s5, us ++ [v], ys ++ [y], fun c o ec nc => ?_, S5.deal.keep fun a xs z e => ?_, tabs_upd hD4 S5.tabs, upd_same, ?_, ?_, ?_⟩
                · have hl := w1.len
                  rw [sizeLine_is]; omega
                · rw [upd_ne (fun z => by rw [z, hD] at ec; cases ec)]
                  exact ((g'.trans g2).trans (g3.trans g4)) c o ec nc
                · rw [upd_ne (fun w => nG (by rw [← w]; exact z))]; exact e
                · exact (ru4.append (.cons rv .nil)).mono gw (Newer.refl _ _)
                · simp only [List.length_append, List.length_cons, List.length_nil]; omega
                · have p4 : Post (RepN H) Γ F ρ σ H1 Q Wx (((compL h gt ge (wip ρ (own.map (fun z : Str × Nat => z.2))) (ds.drop (i + 1)) s5).bind fun ys s3 => .ok (y :: ys) s3).bind fun zs s3 => .ok (ys ++ zs) s3) := p3
                  cases q4 : compL h gt ge (wip ρ (own.map (fun z : Str × Nat => z.2))) (ds.drop (i + 1)) s5 with
                  | ok zs s6 =>
                    rw [q4] at p4
                    show Post (RepN H) Γ F ρ σ H1 Q Wx (.ok ((ys ++ [y]) ++ zs) s6)
                    rw [List.append_assoc]
                    exact p4
                  | exc x s6 => rw [q4] at p4; exact p4
                  | bad => rw [q4] at p4; exact p4
    · have e : i = ds.length := by omega
      subst e
      rw [List.drop_length] at p'
      refine .inl ⟨w1.stops _ H' g' nw, ?_⟩
      have p2 : Post (RepN H) Γ F ρ σ H1 Q Wx (.ok (ys ++ []) s') := p'
      rw [List.append_nil] at p2
      exact p2 _ H' g' (S1.grown g' dl' tb') ⟨D, us, rfl, nb, hD', nF, ru⟩
theorem n_comp (hc : X.calm = true) (hN : X.N.Nodup) (ok : BlkOk X.N X.env.scope scope own) (hi : I3 false Γ X tg iter gi) (his : ∀ j ∈ is, j ∈ own.map (fun z : Str × Nat => z.2)) (hg : Blk X scope fun Y => G3 Γ Y tg is h) (ht : Blk X scope fun Y => Ts3 Γ Y ifs gt) (he : Blk X scope fun Y => E3 Γ Y elt ge)
    (hs : ∀ x, foldedSetIterable iter X.env x = pure x := by intro _; rfl) : N3 Γ X (.ListComp elt [⟨tg, iter, ifs, 0⟩] scope pos) (nComp gi (own.map (fun z : Str × Nat => z.2)) h gt ge) :=
  ⟨fun Wx F ρ s σ H Q tk S p => toE (pe_lc hc hN can_i ok (fun s0 H0 C cl fp => ⟨fun pins s σ H v u Q I r q => q s0 H0 C cl fp pins s u I r⟩) (fun s0 H0 C cl fp => ⟨fun pins s σ H Q I q => q s0 H0 C cl fp pins s I⟩) (fun s0 H0 C cl fp => ⟨fun pins s σ H Q I q => q s0 H0 C cl fp pins s I⟩) hs)
    (comp_core hi his hg ht he tk S p)⟩
/-- name = [..] -/
theorem s_comp {i : Nat} {y : Str} {py : Pos} (hc : X.calm = true) (hN : X.N.Nodup) (hy : X.N[i]? = some y) (hyl : X.env.scope.names.lookup y = some .local) (hsw : swapsWith (.ListComp elt [⟨tg, iter, ifs, 0⟩] scope pos) (some (.Name y py)) spos.line X.env = pure true)
    (ok : BlkOk X.N X.env.scope scope own) (hi : I3 false Γ X tg iter gi) (his : ∀ j ∈ is, j ∈ own.map (fun z : Str × Nat => z.2)) (hg : Blk X scope fun Y => G3 Γ Y tg is h) (ht : Blk X scope fun Y => Ts3 Γ Y ifs gt) (he : Blk X scope fun Y => E3 Γ Y elt ge)
    (hs : ∀ x, foldedSetIterable iter X.env x = pure x := by intro _; rfl) : S3 Γ X (.Assign [.Name y py] (.ListComp elt [⟨tg, iter, ifs, 0⟩] scope pos) spos) (sOwn i (nComp gi (own.map (fun z : Str × Nat => z.2)) h gt ge)) :=
  ⟨fun Wx F ρ s σ H D tk S p pins sh I => by
    have hl : i < σ.length := by rw [I.len]; exact (List.getElem?_eq_some_iff.mp hy).1
    refine toS (ps_setLc hc hN hy hyl hsw can_i ok (fun s0 H0 C cl fp => ⟨fun pins s σ H v u Q I r q => q s0 H0 C cl fp pins s u I r⟩) (fun s0 H0 C cl fp => ⟨fun pins s σ H Q I q => q s0 H0 C cl fp pins s I⟩) (fun s0 H0 C cl fp => ⟨fun pins s σ H Q I q => q s0 H0 C cl fp pins s I⟩) hs)
      (comp_core hi his hg ht he tk S ?_) pins sh I
    unfold sOwn at p
    cases q : nComp gi (own.map (fun z : Str × Nat => z.2)) h gt ge ρ s with
    | ok ds s1 =>
      rw [q] at p
      exact fun v H1 g1 S1 r1 => by
        obtain ⟨F', nw, S'⟩ := S.ofN g1 S1 hl r1
        exact p F' _ H1 (S.gF g1) nw S'
    | exc x s1 => rw [q] at p; exact fun cls dd H' g S1 e => p F σ H' cls dd (S.gF g) (Newer.refl _ _) S1 e
    | bad => rw [q] at p; exact p⟩
end
end L3

/-! L3: defs; built-in functions. -/
namespace L3
open PySem PySem.Spec PyProof.Rows L2

/-! ### a def -/
def argsE (N : Nat) (ds : List D) : Env3 := ds.map (fun d => some (.d d)) ++ List.replicate (N - ds.length) none
def endF : R Out → R D
  | .ok (.rt d) s => .ok d s | .ok (.nx _) s => .ok .non s | .ok (.ex x _) s => .exc x s | _ => .bad
/-- a def of n parameters and N names, by its body -/
def mkF (n N : Nat) (b : GS) : List D → DS → R D := fun ds s => if ds.length = n then endF (b (argsE N ds) s) else .bad
theorem mkF_len {n N : Nat} {b : GS} : ∀ ds s, ds.length ≠ n → mkF n N b ds s = .bad := fun ds s h => by unfold mkF; rw [if_neg h]
theorem start_args {Γ : Sta} {F : Addr → Prop} {H : Hp} {N : List Str} {vs : List V} {ds : List D} (r : Reps Γ F H vs ds) {i : Nat} {b : B} (e : (argsE N.length ds)[i]? = some (some b)) : ∃ d v, b = .d d ∧ (L2.start N vs)[i]? = some (some v) ∧ Rep Γ F H v d := by
  unfold argsE at e
  by_cases hl : i < (ds.map fun d => some (B.d d)).length
  · rw [List.getElem?_append_left hl, List.getElem?_map] at e
    cases q : ds[i]? with
    | none => rw [q] at e; cases e
    | some d =>
      rw [q] at e
      cases e
      obtain ⟨v, h1, h2⟩ := r.get q
      refine ⟨d, v, rfl, ?_, h2⟩
      unfold L2.start
      rw [List.getElem?_append_left (by rw [List.length_map]; exact (List.getElem?_eq_some_iff.mp h1).1), List.getElem?_map, h1]; rfl
  · rw [List.getElem?_append_right (by omega)] at e
    obtain ⟨h1, h2⟩ := List.getElem?_eq_some_iff.mp e
    rw [List.getElem_replicate] at h2; cases h2
section
variable {P : Program} {w : World} {K : PySem.W.Frag} {mg : Str → Option Value} {base : Heap}
/-- the context of a def's body -/
abbrev bodyCx (P : Program) (w : World) (K : PySem.W.Frag) (mg : Str → Option Value) (base : Heap) (N : List Str) (x : Str) (st : Stmt) (f : Addr) (cdv : Value) (A : Around) (outer : List Env) (s : Shared) (H : Hp) (E : XK) : Cx :=
  cxOf (L2.CX P w) P w K mg base N x (defScope st) f cdv A outer s H E
theorem okC {x qual : Str} {st : Stmt} {f : Addr} {fd : FuncData} {N ps : List Str} {k : Nat} {sp : Sp} (F : Fun K x qual st f fd) (S : FnScope N ps (defScope st)) (len : ∀ vs H Q E, sp vs H Q E → vs.length = ps.length)
    (hbody : ∀ (cdv : Value) (A : Around) (outer : List Env) (s : Shared) (H : Hp) (vs : List V) (Q : VK) (E : XK), fd.code = cdv → Room k (A.deeper (envOfC qual (defScope st) s.heap.objs.size f cdv)) → sp vs H Q E →
      ∃ t, PSs (cxOf (L2.CX P w) P w K mg base N qual (defScope st) f cdv A outer s H E) (defBody st) t ∧ t { nx := fun _ H' => Q .non H', rt := Q } (L2.start N vs) H) : FnOk P w K mg base (L2.CX P w) (k + 1) f fd ps sp := by
  obtain ⟨oc, od, kV, doc, pm, an, cdv, ct, osl, rfl, lk, hcd⟩ := F.ex
  exact fn_of lk hcd S len fun A outer s H vs Q E hr hsp => hbody cdv A outer s H vs Q E rfl hr hsp
theorem fn3 {x qual : Str} {st : Stmt} {f : Addr} {fd : FuncData} {N ps : List Str} {k n : Nat} {T : List (Addr × Str)} {b : GS} (Fn : Fun K x qual st f fd) (S : FnScope N ps (defScope st)) (hn : ps.length = n)
    (hb : ∀ (cdv : Value) (A : Around) (outer : List Env) (s : Shared) (H : Hp) (E : XK) (Γ : Sta), Room k (A.deeper (envOfC qual (defScope st) s.heap.objs.size f cdv)) → Here Γ (bodyCx P w K mg base N qual st f cdv A outer s H E) → Γ.T = T → fd.code = cdv → SS3 Γ (bodyCx P w K mg base N qual st f cdv A outer s H E) (defBody st) b) :
    FnOk P w K mg base (L2.CX P w) (k + 1) f fd ps (spM K mg T n (mkF n N.length b)) := by
  refine okC Fn S (fun vs H Q E h => by rw [hn]; exact h.1) fun cdv A outer s H vs Q E hcd hr h => ?_
  obtain ⟨hl, dl, F0, ds, ds0, rd, al, gs, dla, tb, p⟩ := h
  refine ⟨_, can_ss, ?_⟩
  have hd : ds.length = n := rd.length.symm.trans hl
  refine (hb cdv A outer s H E ⟨K, mg, dl, F0, H, T⟩ hr ⟨rfl, rfl⟩ rfl hcd).run (fun cls d _ H' => E cls d H') F0 (argsE N.length ds) ds0 _ H _ (takes_of rfl rfl rfl rfl)
    { grow := Grow.refl _ _, sub := fun _ h => h, gsub := gs, fresh := fun _ h => .inl h, alloc := al, deal := dla, tabs := tb
      slots := fun i b e => by
        obtain ⟨d, v, rfl, h1, h2⟩ := start_args rd e
        exact ⟨v, h1, h2⟩
      inj := fun i j xs ys a e1 _ _ _ => by
        obtain ⟨d, v, h, _⟩ := start_args rd e1
        cases h } ?_
  unfold mkF at p
  rw [if_pos hd] at p
  cases q : b (argsE N.length ds) ds0 with
  | ok o s' =>
    rw [q] at p
    cases o with
    | nx ρ' => exact fun F' σ' H' _ _ S' => p _ H' S'.grow S'.deal S'.tabs .non
    | rt d => exact p
    | ex x ρ' => exact fun F' σ' H' cls dd _ _ S' e => p cls dd H' S'.grow S'.deal S'.tabs (by
        obtain ⟨C, d, v, h1, h2, h3, h4, h5⟩ := e
        exact ⟨C, d, v, h1, h2, h3, h4, h5.less S'.sub⟩)
    | bk ρ' => exact p.elim
    | ct ρ' => exact p.elim
  | exc x s' => rw [q] at p; exact p.elim
  | bad => rw [q] at p; exact p.elim
end

/-! ### built-in functions, by values -/
/-- what a call's reading r gives on data -/
def ClR (Γ : Sta) (r : List V → Hp → VK → Prop) (h : List D → Option D) : Prop :=
  ∀ (F : Addr → Prop) (ρ : Env3) (s : DS) (σ : Sl) (H : Hp) (vs : List V) (ds : List D) (z : D) (Q : VK), SR Γ F ρ s σ H → RepWs Γ F H vs ds → h ds = some z →
    (∀ v H', Grow Γ.G H H' → SR Γ F ρ s σ H' → Rep Γ F H' v z → Q v H') → r vs H Q
def eB (h : List D → Option D) (ga : GL) : G := fun ρ s => (ga ρ s).bind fun ds s1 => match h ds with | some z => .ok z s1 | none => .bad
def lenD : D → Option Int
  | .lst xs => some xs.length | .tup xs => some xs.length | .str z => if z.length ≤ 16777216 then some z.length else none | _ => none
def hLen : List D → Option D | [x] => (lenD x).map .int | _ => none
def hAbs : List D → Option D | [.int i] => some (.int (if i < 0 then -i else i)) | _ => none
def hMax2 : List D → Option D | [.int i, .int j] => some (.int (if j > i then j else i)) | _ => none
def hMin2 : List D → Option D | [.int i, .int j] => some (.int (if j < i then j else i)) | _ => none
def hInt : List D → Option D | [.int i] => some (.int i) | [.bl k] => some (.int (if k then 1 else 0)) | _ => none
def hTuple : List D → Option D | [.lst xs] => some (.tup xs) | [.tup xs] => some (.tup xs) | _ => none
def blsD : List D → Option (List Bool)
  | [] => some [] | .bl b :: r => (blsD r).map (b :: ·) | _ :: _ => none
def hAll : List D → Option D | [.lst xs] => (blsD xs).map fun bs => .bl (bs.all id) | _ => none
def hAny : List D → Option D | [.lst xs] => (blsD xs).map fun bs => .bl (bs.any id) | _ => none
def hSum : List D → Option D | [.lst xs] => (intsD xs).map fun ns => .int ns.sum | _ => none
def maxI : List Int → Int | [] => 0 | x :: r => r.foldl max x
def minI : List Int → Int | [] => 0 | x :: r => r.foldl min x
def hMax : List D → Option D | [.lst xs] => (match intsD xs with | some (n :: ns) => some (.int (maxI (n :: ns))) | _ => none) | _ => none
def hMin : List D → Option D | [.lst xs] => (match intsD xs with | some (n :: ns) => some (.int (minI (n :: ns))) | _ => none) | _ => none
theorem blsD_map : ∀ {ds : List D} {bs : List Bool}, blsD ds = some bs → ds = bs.map D.bl
  | [], bs, h => by cases h; rfl
  | .bl i :: r, ns, h => by
    unfold blsD at h
    cases q : blsD r with
    | none => rw [q] at h; cases h
    | some m => rw [q] at h; cases h; rw [blsD_map q]; rfl
  | .non :: _, _, h => by cases h
  | .int _ :: _, _, h => by cases h
  | .str _ :: _, _, h => by cases h
  | .lst _ :: _, _, h => by cases h
  | .tup _ :: _, _, h => by cases h
  | .dic _ _ :: _, _, h => by cases h
  | .fn _ :: _, _, h => by cases h
  | .deal :: _, _, h => by cases h
  | .scr _ :: _, _, h => by cases h
@[simp] theorem blsD_bls : ∀ ns : List Bool, blsD (ns.map D.bl) = some ns
  | [] => rfl
  | i :: r => by rw [List.map_cons]; unfold blsD; rw [blsD_bls r]; rfl
theorem Reps.bls {Γ : Sta} {F : Addr → Prop} {H : Hp} : ∀ {ns : List Bool} {vs : List V}, Reps Γ F H vs (ns.map D.bl) → vs = ns.map V.bl
  | [], _, h => by cases h; rfl
  | i :: r, _, h => by
    cases h with
    | cons a t => cases a; rw [Reps.bls t]; rfl
theorem maxI_spec : ∀ (x : Int) (r : List Int), maxI (x :: r) ∈ x :: r ∧ ∀ y ∈ x :: r, y ≤ maxI (x :: r) := fun x r => by
  have key : ∀ (r : List Int) (x : Int), (r.foldl max x = x ∨ r.foldl max x ∈ r) ∧ x ≤ r.foldl max x ∧ ∀ y ∈ r, y ≤ r.foldl max x := fun r => by
    induction r with
    | nil => intro x; exact ⟨.inl rfl, Int.le_refl _, fun y h => by cases h⟩
    | cons a r ih =>
      intro x
      obtain ⟨h1, h2, h3⟩ := ih (max x a)
      rw [List.foldl_cons]
      refine ⟨?_, by omega, fun y hy => ?_⟩
      · rcases h1 with h1 | h1
        · rw [h1]
          by_cases c : x ≤ a
          · exact .inr (by rw [show max x a = a by omega]; exact List.mem_cons_self)
          · exact .inl (by omega)
        · exact .inr (List.mem_cons_of_mem _ h1)
      · rcases List.mem_cons.mp hy with rfl | hy
        · omega
        · exact h3 y hy
  obtain ⟨h1, h2, h3⟩ := key r x
  refine ⟨?_, fun y hy => ?_⟩
  · rcases h1 with h1 | h1
    · show r.foldl max x ∈ _
      rw [h1]; exact List.mem_cons_self
    · exact List.mem_cons_of_mem _ h1
  · rcases List.mem_cons.mp hy with rfl | hy
    · exact h2
    · exact h3 y hy
theorem minI_spec : ∀ (x : Int) (r : List Int), minI (x :: r) ∈ x :: r ∧ ∀ y ∈ x :: r, minI (x :: r) ≤ y := fun x r => by
  have key : ∀ (r : List Int) (x : Int), (r.foldl min x = x ∨ r.foldl min x ∈ r) ∧ r.foldl min x ≤ x ∧ ∀ y ∈ r, r.foldl min x ≤ y := fun r => by
    induction r with
    | nil => intro x; exact ⟨.inl rfl, Int.le_refl _, fun y h => by cases h⟩
    | cons a r ih =>
      intro x
      obtain ⟨h1, h2, h3⟩ := ih (min x a)
      rw [List.foldl_cons]
      refine ⟨?_, by omega, fun y hy => ?_⟩
      · rcases h1 with h1 | h1
        · rw [h1]
          by_cases c : a ≤ x
          · exact .inr (by rw [show min x a = a by omega]; exact List.mem_cons_self)
          · exact .inl (by omega)
        · exact .inr (List.mem_cons_of_mem _ h1)
      · rcases List.mem_cons.mp hy with rfl | hy
        · omega
        · exact h3 y hy
  obtain ⟨h1, h2, h3⟩ := key r x
  refine ⟨?_, fun y hy => ?_⟩
  · rcases h1 with h1 | h1
    · show r.foldl min x ∈ _
      rw [h1]; exact List.mem_cons_self
    · exact List.mem_cons_of_mem _ h1
  · rcases List.mem_cons.mp hy with rfl | hy
    · exact h2
    · exact h3 y hy
section
variable {Γ : Sta} {X : Cx} {x : Str} {p pos : Pos} {e : Expr} {es : List Expr} {id T : String} {h : List D → Option D} {gl : GL} {r : List V → Hp → VK → Prop}
theorem e_callB (hc : CallR X (.builtin id) r) (hh : ClR Γ r h) (hg : Gl X x) (hm : X.mg x = none) (hv : bootBuiltins x = some (.builtin id)) (ha : AW3 Γ X (e :: es) gl) (hn : x ≠ "__name__" := by decide) (hdb : (x == ("__debug__" : Str)) = false := by decide)
    (he : starEach (e :: es) X.env = (false, eval e X.env) :: starEach es X.env := by rfl) (hpl : (backTo pos (starEach es X.env)).any (·.1) = false := by rfl) : E3 Γ X (.Call (.Name x p) (e :: es) [] pos) (eB h gl) :=
  ⟨fun Wx F ρ s σ H Q tk S pp => toE (pe_callB hc hg hm hv can_a hn hdb he hpl) (ha.run Wx F ρ s σ H _ tk S (pp.bind fun ds s1 vs H1 g1 S1 r1 p1 => by
    split at p1
    · rename_i z q
      exact hh F ρ s1 σ H1 vs ds z Q S1 r1 q p1
    · exact p1.elim))⟩
theorem e_callT (hc : CallR X (.type T) r) (hh : ClR Γ r h) (hg : Gl X x) (hm : X.mg x = none) (hv : bootBuiltins x = some (.type T)) (ha : AW3 Γ X (e :: es) gl) (hn : x ≠ "__name__" := by decide) (hdb : (x == ("__debug__" : Str)) = false := by decide)
    (he : starEach (e :: es) X.env = (false, eval e X.env) :: starEach es X.env := by rfl) (hpl : (backTo pos (starEach es X.env)).any (·.1) = false := by rfl) : E3 Γ X (.Call (.Name x p) (e :: es) [] pos) (eB h gl) :=
  ⟨fun Wx F ρ s σ H Q tk S pp => toE (pe_callTy hc hg hm hv can_a hn hdb he hpl) (ha.run Wx F ρ s σ H _ tk S (pp.bind fun ds s1 vs H1 g1 S1 r1 p1 => by
    split at p1
    · rename_i z q
      exact hh F ρ s1 σ H1 vs ds z Q S1 r1 q p1
    · exact p1.elim))⟩
theorem ws1 {F : Addr → Prop} {H : Hp} {vs : List V} {d : D} (r : RepWs Γ F H vs [d]) : ∃ v, vs = [v] ∧ RepW Γ F H v d := by
  cases r with
  | cons a t => cases t; exact ⟨_, rfl, a⟩
theorem ws2 {F : Addr → Prop} {H : Hp} {vs : List V} {d e : D} (r : RepWs Γ F H vs [d, e]) : ∃ v w, vs = [v, w] ∧ RepW Γ F H v d ∧ RepW Γ F H w e := by
  cases r with
  | cons a t =>
    cases t with
    | cons b t => cases t; exact ⟨_, _, rfl, a, b⟩
theorem c_len (hK : Γ.K = X.K) : ClR Γ (fun xs H Q => ∃ x n, xs = [x] ∧ LenV X.K x H n ∧ Q (.int n) H) hLen := fun F ρ s σ H vs ds z Q S r q k => by
  unfold hLen at q
  split at q
  · obtain ⟨v, rfl, r1⟩ := ws1 r
    obtain ⟨n, hn, rfl⟩ := Option.map_eq_some_iff.mp q
    rename_i x
    unfold lenD at hn
    split at hn
    · cases hn
      obtain ⟨a, us, rfl, h1, h2⟩ := r1.lst
      refine ⟨_, us.length, rfl, .inl ⟨us, .inl (.inl h1), rfl⟩, ?_⟩
      rw [h2.length]
      exact k _ H (Grow.refl _ _) S (.int _)
    · cases hn
      obtain ⟨a, us, rfl, h1, h2⟩ := r1.tup
      refine ⟨_, us.length, rfl, .inr ⟨us, hK ▸ h1, rfl⟩, ?_⟩
      rw [h2.length]
      exact k _ H (Grow.refl _ _) S (.int _)
    · split at hn <;> cases hn
      rename_i hl
      rw [r1.str]
      exact ⟨_, _, rfl, ⟨by rw [sizeLine_is]; exact hl, rfl⟩, k _ H (Grow.refl _ _) S (.int _)⟩
    · cases hn
  · cases q
theorem c_abs : ClR Γ (fun xs H Q => ∃ i, xs = [.int i] ∧ Q (.int (if i < 0 then -i else i)) H) hAbs := fun F ρ s σ H vs ds z Q S r q k => by
  unfold hAbs at q
  split at q <;> cases q
  obtain ⟨v, rfl, r1⟩ := ws1 r
  rw [r1.int]
  exact ⟨_, rfl, k _ H (Grow.refl _ _) S (.int _)⟩
theorem c_max2 : ClR Γ (fun xs H Q => ∃ i j, xs = [.int i, .int j] ∧ Q (.int (if j > i then j else i)) H) hMax2 := fun F ρ s σ H vs ds z Q S r q k => by
  unfold hMax2 at q
  split at q <;> cases q
  obtain ⟨v, w, rfl, r1, r2⟩ := ws2 r
  rw [r1.int, r2.int]
  exact ⟨_, _, rfl, k _ H (Grow.refl _ _) S (.int _)⟩
theorem c_min2 : ClR Γ (fun xs H Q => ∃ i j, xs = [.int i, .int j] ∧ Q (.int (if j < i then j else i)) H) hMin2 := fun F ρ s σ H vs ds z Q S r q k => by
  unfold hMin2 at q
  split at q <;> cases q
  obtain ⟨v, w, rfl, r1, r2⟩ := ws2 r
  rw [r1.int, r2.int]
  exact ⟨_, _, rfl, k _ H (Grow.refl _ _) S (.int _)⟩
theorem c_int : ClR Γ (fun xs H Q => (∃ i, xs = [.int i] ∧ Q (.int i) H) ∨ ∃ k, xs = [.bl k] ∧ Q (.int (if k then 1 else 0)) H) hInt := fun F ρ s σ H vs ds z Q S r q k => by
  unfold hInt at q
  split at q <;> cases q
  · obtain ⟨v, rfl, r1⟩ := ws1 r
    rw [r1.int]
    exact .inl ⟨_, rfl, k _ H (Grow.refl _ _) S (.int _)⟩
  · obtain ⟨v, rfl, r1⟩ := ws1 r
    rw [r1.bl]
    exact .inr ⟨_, rfl, k _ H (Grow.refl _ _) S (.int _)⟩
theorem c_tuple (hK : Γ.K = X.K) : ClR Γ (fun xs H Q => ∃ p ys, xs = [.ref p] ∧ ((SqL X.K H p ys ∧ ∀ l, H l = none → Q (.ref l) (upd H l (.tup ys))) ∨ (SqT X.K H p ys ∧ Q (.ref p) H))) hTuple := fun F ρ s σ H vs ds z Q S r q k => by
  unfold hTuple at q
  split at q <;> cases q
  · obtain ⟨v, rfl, r1⟩ := ws1 r
    obtain ⟨a, us, rfl, h1, h2⟩ := r1.lst
    exact ⟨a, us, rfl, .inl ⟨.inl (.inl h1), kTup S h2 k⟩⟩
  · obtain ⟨v, rfl, r1⟩ := ws1 r
    have r' := r1.rep (fun _ h => by cases h)
    obtain ⟨a, us, rfl, h1, h2⟩ := r1.tup
    exact ⟨a, us, rfl, .inr ⟨hK ▸ h1, k _ H (Grow.refl _ _) S r'⟩⟩
theorem c_all {K : PySem.W.Frag} : ClR Γ (rAll K) hAll := fun F ρ s σ H vs ds z Q S r q k => by
  unfold hAll at q
  split at q
  · obtain ⟨v, rfl, r1⟩ := ws1 r
    obtain ⟨bs, hb, rfl⟩ := Option.map_eq_some_iff.mp q
    obtain rfl := blsD_map hb
    obtain ⟨a, us, rfl, h1, h2⟩ := r1.lst
    rw [h2.bls] at h1
    exact ⟨a, bs, rfl, .inl (.inl h1), k _ H (Grow.refl _ _) S (.bl _)⟩
  · cases q
theorem c_any {K : PySem.W.Frag} : ClR Γ (rAny K) hAny := fun F ρ s σ H vs ds z Q S r q k => by
  unfold hAny at q
  split at q
  · obtain ⟨v, rfl, r1⟩ := ws1 r
    obtain ⟨bs, hb, rfl⟩ := Option.map_eq_some_iff.mp q
    obtain rfl := blsD_map hb
    obtain ⟨a, us, rfl, h1, h2⟩ := r1.lst
    rw [h2.bls] at h1
    exact ⟨a, bs, rfl, .inl (.inl h1), k _ H (Grow.refl _ _) S (.bl _)⟩
  · cases q
theorem c_sum {K : PySem.W.Frag} : ClR Γ (L2.rSum K) hSum := fun F ρ s σ H vs ds z Q S r q k => by
  unfold hSum at q
  split at q
  · obtain ⟨v, rfl, r1⟩ := ws1 r
    obtain ⟨bs, hb, rfl⟩ := Option.map_eq_some_iff.mp q
    obtain rfl := intsD_map hb
    obtain ⟨a, us, rfl, h1, h2⟩ := r1.lst
    rw [h2.ints] at h1
    exact ⟨a, bs, rfl, .inl (.inl h1), k _ H (Grow.refl _ _) S (.int _)⟩
  · cases q
theorem c_max {K : PySem.W.Frag} : ClR Γ (L2.rMax K) hMax := fun F ρ s σ H vs ds z Q S r q k => by
  unfold hMax at q
  split at q
  · obtain ⟨v, rfl, r1⟩ := ws1 r
    split at q <;> cases q
    rename_i n ns hb
    obtain rfl := intsD_map hb
    obtain ⟨a, us, rfl, h1, h2⟩ := r1.lst
    rw [h2.ints] at h1
    refine ⟨a, _, rfl, .inl (.inl h1), Nat.succ_pos _, fun m hm hmax => ?_⟩
    obtain ⟨g1, g2⟩ := maxI_spec n ns
    have e : m = maxI (n :: ns) := Int.le_antisymm (g2 m hm) (hmax _ g1)
    rw [e]
    exact k _ H (Grow.refl _ _) S (.int _)
  · cases q
theorem c_min {K : PySem.W.Frag} : ClR Γ (L2.rMin K) hMin := fun F ρ s σ H vs ds z Q S r q k => by
  unfold hMin at q
  split at q
  · obtain ⟨v, rfl, r1⟩ := ws1 r
    split at q <;> cases q
    rename_i n ns hb
    obtain rfl := intsD_map hb
    obtain ⟨a, us, rfl, h1, h2⟩ := r1.lst
    rw [h2.ints] at h1
    refine ⟨a, _, rfl, .inl (.inl h1), Nat.succ_pos _, fun m hm hmax => ?_⟩
    obtain ⟨g1, g2⟩ := minI_spec n ns
    have e : m = minI (n :: ns) := Int.le_antisymm (hmax _ g1) (g2 m hm)
    rw [e]
    exact k _ H (Grow.refl _ _) S (.int _)
  · cases q
end

/-! ### isinstance -/
def D.ty : D → Option String
  | .non => some "NoneType" | .bl _ => some "bool" | .int _ => some "int" | .str _ => some "str" | .lst _ => some "list" | .tup _ => some "tuple" | .dic _ _ => some "dict" | _ => none
def isiB (t : String) (c : String) : Bool := t == c || (t == "bool" && c == "int")
def eIsi (cs : List String) (ga : G) : G := fun ρ s => (ga ρ s).bind fun d s1 => match d.ty with | some t => .ok (.bl (cs.any (isiB t))) s1 | none => .bad
def okTy (c : String) : Bool := c == "int" || c == "bool" || c == "str" || c == "list" || c == "tuple" || c == "dict"
theorem kitB_is {d : D} {t c : String} (ht : d.ty = some t) (hc : okTy c = true) : kitB t c = some (isiB t c) := by
  have hc' : c = "int" ∨ c = "bool" ∨ c = "str" ∨ c = "list" ∨ c = "tuple" ∨ c = "dict" := by
    unfold okTy at hc
    simp only [Bool.or_eq_true, beq_iff_eq] at hc
    rcases hc with ((((h | h) | h) | h) | h) | h
    · exact .inl h
    · exact .inr (.inl h)
    · exact .inr (.inr (.inl h))
    · exact .inr (.inr (.inr (.inl h)))
    · exact .inr (.inr (.inr (.inr (.inl h))))
    · exact .inr (.inr (.inr (.inr (.inr h))))
  have ht' : t = "NoneType" ∨ t = "bool" ∨ t = "int" ∨ t = "str" ∨ t = "list" ∨ t = "tuple" ∨ t = "dict" := by
    cases d <;> simp [D.ty] at ht <;> simp [← ht]
  rcases ht' with rfl | rfl | rfl | rfl | rfl | rfl | rfl <;> rcases hc' with rfl | rfl | rfl | rfl | rfl | rfl <;> decide +kernel
theorem RepW.tyX {Γ : Sta} {F : Addr → Prop} {H : Hp} {v : V} {d : D} {t : String} (r : RepW Γ F H v d) (h : d.ty = some t) : TyX Γ.K H v (.type t) := by
  cases d with
  | non => cases h; rw [r.non]; exact .base .non
  | bl b => cases h; rw [r.bl]; exact .base (.bl _)
  | int b => cases h; rw [r.int]; exact .base (.int _)
  | str b => cases h; rw [r.str]; exact .base (.str _)
  | lst ds =>
    cases h
    obtain ⟨a, vs, rfl, h1, h2⟩ := r.lst
    exact .base (.lst h1)
  | tup ds =>
    cases h
    obtain ⟨a, vs, rfl, h1, h2⟩ := r.tup
    rcases h1 with (h1 | ⟨o, h1⟩) | ⟨o, its, n, h1, h3, _⟩
    · exact .base (.tup h1)
    · exact .fTuple h1
    · exact .kTuple h1 h3
  | dic _ _ =>
    cases h
    rcases r with r | ⟨_, _, _, _, z, _⟩
    · cases r with
      | dic h n r => exact .base (.dK h)
    · cases z
  | fn _ => cases h
  | deal => cases h
  | scr _ => cases h
section
variable {Γ : Sta} {X : Cx} {p pos p2 : Pos} {a : Expr} {ga : G}
/-- isinstance(x, T) -/
theorem e_isi {c : String} {T : Str} (hK : Γ.K = X.K) (hc : okTy c = true) (hg : Gl X "isinstance") (hm : X.mg "isinstance" = none) (hg2 : Gl X T) (hm2 : X.mg T = none) (hv2 : bootBuiltins T = some (.type c)) (ha : L3 Γ X a ga)
    (hs : starEach [a, .Name T p2] X.env = (false, eval a X.env) :: starEach [.Name T p2] X.env := by rfl) (hs2 : starEach [.Name T p2] X.env = (false, eval (.Name T p2) X.env) :: starEach [] X.env := by rfl) (hpl : (backTo pos (starEach [.Name T p2] X.env)).any (·.1) = false := by rfl) (hn : T ≠ "__name__" := by decide) (hdb : (T == ("__debug__" : Str)) = false := by decide) :
    E3 Γ X (.Call (.Name "isinstance" p) [a, .Name T p2] [] pos) (eIsi [c] ga) :=
  ⟨fun Wx F ρ s σ H Q tk S pp => toE (pe_callB call_isi hg hm (by decide +kernel) (pa_cons can_e (pa_cons (pe_bltn (v := .ty c) hg2 hm2 hv2 rfl hn hdb) pa_nil hs2) hs) (by decide) (by decide) hs hpl) (ha.run Wx F ρ s σ H _ tk S (pp.bind fun d s1 v H1 g1 S1 r1 p1 => by
    split at p1
    · rename_i t ht
      refine ⟨v, .ty c, .type t, .type c, isiB t c, rfl, .ty c, hK ▸ r1.tyX ht, kit_ty (kitB_is ht hc), ?_⟩
      have e : ([c].any (isiB t)) = isiB t c := by simp
      rw [e] at p1
      exact p1.val S1 (.bl _)
    · exact p1.elim))⟩
/-- isinstance(x, (T, U)) -/
theorem e_isi2 {c c' : String} {T U : Str} {kk : Nat} {p3 pt : Pos} (hK : Γ.K = X.K) (hc : okTy c = true) (hc' : okTy c' = true) (hg : Gl X "isinstance") (hm : X.mg "isinstance" = none) (hg2 : Gl X T) (hm2 : X.mg T = none) (hv2 : bootBuiltins T = some (.type c)) (hg3 : Gl X U) (hm3 : X.mg U = none) (hv3 : bootBuiltins U = some (.type c')) (ha : L3 Γ X a ga)
    (hs : starEach [a, .Tuple [.Name T p2, .Name U p3] kk pt] X.env = (false, eval a X.env) :: starEach [.Tuple [.Name T p2, .Name U p3] kk pt] X.env := by rfl) (hs2 : starEach [.Tuple [.Name T p2, .Name U p3] kk pt] X.env = (false, eval (.Tuple [.Name T p2, .Name U p3] kk pt) X.env) :: starEach [] X.env := by rfl)
    (hs3 : starEach [.Name T p2, .Name U p3] X.env = (false, eval (.Name T p2) X.env) :: starEach [.Name U p3] X.env := by rfl) (hs4 : starEach [.Name U p3] X.env = (false, eval (.Name U p3) X.env) :: starEach [] X.env := by rfl)
    (hpl : (backTo pos (starEach [.Tuple [.Name T p2, .Name U p3] kk pt] X.env)).any (·.1) = false := by rfl) (hn : T ≠ "__name__" := by decide) (hdb : (T == ("__debug__" : Str)) = false := by decide) (hn' : U ≠ "__name__" := by decide) (hdb' : (U == ("__debug__" : Str)) = false := by decide) :
    E3 Γ X (.Call (.Name "isinstance" p) [a, .Tuple [.Name T p2, .Name U p3] kk pt] [] pos) (eIsi [c, c'] ga) :=
  ⟨fun Wx F ρ s σ H Q tk S pp => toE (pe_callB call_isiT hg hm (by decide +kernel) (pa_cons can_e (pa_cons (pe_tup (pa_cons (pe_bltn (v := .ty c) hg2 hm2 hv2 rfl hn hdb) (pa_cons (pe_bltn (v := .ty c') hg3 hm3 hv3 rfl hn' hdb') pa_nil hs4) hs3)) pa_nil hs2) hs) (by decide) (by decide) hs hpl) (ha.run Wx F ρ s σ H _ tk S (pp.bind fun d s1 v H1 g1 S1 r1 p1 => by
    split at p1
    · rename_i t ht
      refine ⟨by show 2 ≤ sizeLine; decide, fun q hq => ⟨v, q, [.ty c, .ty c'], .type t, [.type c, .type c'], isiB t c || isiB t c', rfl, upd_same, .cons (.ty c) (.cons (.ty c') .nil), hK ▸ (r1.grown S1 (Grow.new hq)).tyX ht, ?_, ?_⟩⟩
      · refine kitAny_cons (kit_ty (kitB_is ht hc)) (fun e => ?_) (fun e => by rw [e]; rfl)
        rw [e, Bool.false_or]
        refine kitAny_cons (kit_ty (kitB_is ht hc')) (fun e => ?_) (fun e => e)
        rw [e]; exact kitAny_nil
      · have e : ([c, c'].any (isiB t)) = (isiB t c || isiB t c') := by simp
        rw [e] at p1
        exact p1 _ _ (Grow.new hq) (S1.laid hq) (.bl _)
    · exact p1.elim))⟩
end
end L3

/-! L3: the package's own errors: made, raised, caught, read. -/
namespace PySem
namespace L3X
open PySem.W PySem.Calls PyProof.Rows PySem.HandSPX

/-- the statics of an error's __init__ -/
def nA (p1 p2 : Pos) : Arguments := { posonlyargs := [], args := [{ arg := "self", annotation := none, pos := p1 }, { arg := "at", annotation := none, pos := p2 }], vararg := none, kwonlyargs := [], kw_defaults := [], kwarg := none, defaults := [] }
def nB (q : List Pos) : List Stmt := [.Expr (.Call (.Attribute (.Call (.Name "super" q[0]!) [] [] q[1]!) "__init__" q[2]!) [.Name "at" q[3]!] [] q[4]!) q[5]!, .Assign [.Attribute (.Name "self" q[6]!) "at" q[7]!] (.Name "at" q[8]!) q[9]!]
def nS : Scope := { kind := .function, names := [(PySem.Str.ofString "self", .local), (PySem.Str.ofString "at", .local), (PySem.Str.ofString "__class__", .free), (PySem.Str.ofString "super", .globalImplicit)], isGenerator := false, isCoroutine := false, more := [] }
theorem eval_sup {env : Env} {p0 p1 p2 p3 p4 : Pos} (h : (p2.endLine == p4.line) = true) : eval (.Call (.Attribute (.Call (.Name "super" p0) [] [] p1) "__init__" p2) [.Name "at" p3] [] p4) env = (do
      let ov ← attributeBase (.Call (.Name "super" p0) [] [] p1) "__init__" env (eval (.Call (.Name "super" p0) [] [] p1) env)
      standAt p2.atName
      let (f, first) ← holding [ov] (getMethod ov "__init__" (do return (← importBound (.Call (.Name "super" p0) [] [] p1) env).getD true))
      callWith p4 f first (backTo p4 (starEach [.Name "at" p3] env)) []) := by
  show (do
      let ov ← attributeBase (.Call (.Name "super" p0) [] [] p1) "__init__" env (eval (.Call (.Name "super" p0) [] [] p1) env)
      standAt p2.atName
      methodCall (.Call (.Name "super" p0) [] [] p1) "__init__" p2 p4 env ov 1 (backTo p4 (starEach [.Name "at" p3] env)) []) = _
  unfold methodCall methodCallPos
  have e : methodCallForm 1 (backTo p4 (starEach [.Name "at" p3] env)) [] = true := by rfl
  simp only [e, h, Bool.not_true, Bool.false_or, if_true, pure_bind]
  rfl
/-- what the written part says of an error class, named x, at C; its __init__ at fI -/
structure ErrTxt (P : Program) (K : Frag) (mg : Str → Option Value) (x : Str) (C fI : Addr) : Prop where
  gC : mg x = some (.ref C)
  cls : ∃ nm q N bs bm sn sub ab col dd k0 k1 k2 k3 k5, K.lookup C = some (excClassObj nm q C N bs bm true sn sub ab col dd k0 k1 k2 k3 k5 "ValueError.__new__") ∧ refsVE bm = true
  fn : ∃ (qual : Str) (oc : Value) (od : Option Addr) (doc pm : Value) (an : Option Addr) (cda cc : Addr) (ct : Value) (osl : Array (Option Value)) (p1 p2 : Pos) (q : List Pos) (ccl cl : Value) (cdd cld : Option Addr) (ccs csl : Array (Option Value)) (vs : Array Value) (file : Str) (tf : Tok),
    K.lookup fI = some ⟨oc, od, .func (ksFn "__init__" qual (nA p1 p2) (nB q) nS .none .none doc pm an (.ref cda) ct cc), osl⟩ ∧ codeIn K (.ref cda) qual = true ∧
    K.lookup cda = some ⟨ccl, cdd, .fields vs, ccs⟩ ∧ vs[2]? = some (.str file tf) ∧ ((P.main.file : Str) == file) = true ∧ K.lookup cc = some ⟨cl, cld, .cell (some (.ref C)), csl⟩ ∧ (q[2]!.endLine == q[4]!.line) = true
  top : (P.main.scope.names.lookup ("super" : Str)).isSome = false
  sup : mg "super" = none
  opq : nsIn K cStatics "thirdparty.any" = some none
  up : ks_superIn K C C "__init__" = some (some (.builtin "ValueError.__init__"))
  exI : excInitIn K C veTail "ValueError.__new__" = true
  iC : findIn K (.ref C) "__init__" = some (some (.ref fI))
  sa : findIn K (.ref C) "__setattr__" = some (some (.builtin "object.__setattr__"))
  ga : findIn K (.ref C) "__getattribute__" = some (some (.builtin "BaseException.__getattribute__"))
  gg : findIn K (.ref C) "__getattr__" = some none
  noN : findIn K (.ref C) "at" = some none
  tC : typeIn K (.ref fI) = some (.type "function")
  kC : keepIn K (.ref C) = true
  exV : subIn K (.ref C) (.type "ValueError") = some true
  exC : subIn K (.ref C) (.type "BaseException") = some true
  self : mroIn K C (.ref C) = some true
  tyC : typeIn K (.ref C) = some (.type "type")
  hdC : hasDictIn K C = true
structure Ended (h h' : Heap) (x C dx t1 : Addr) (v : Value) : Prop where
  keep : ∀ b o, b ≠ x → h.get? b = some o → h'.get? b = some o
  obj : h'.get? x = some { cls := .ref C, dict := some dx, data := .fields #[.ref t1, .none, .none, .none, .bool false, .none] }
  dbig : h.objs.size ≤ dx
  dne : dx ≠ x
  ns : h'.Ns1 dx (fun y => if y = "at" then some v else none)
structure Made (h h' : Heap) (e C d : Addr) (v : Value) : Prop where
  keep : ∀ b o, h.get? b = some o → h'.get? b = some o
  new : h.objs.size ≤ e
  obj : ∃ oe vs, h'.get? e = some oe ∧ oe.cls = .ref C ∧ oe.dict = some d ∧ oe.data = .fields vs ∧ vs[1]? = some .none
  dbig : h.objs.size ≤ d
  dne : d ≠ e
  ns : h'.Ns1 d (fun y => if y = "at" then some v else none)
theorem one_le (v : Value) : [v].length ≤ sizeLine := by rw [sizeLine_eq]; exact (by decide : 1 ≤ 16777216)
section
variable {prog : Program} {w : World} {A : Around} {E : Value → Shared → Prop} {R : Result → Shared → Prop} {s : Shared} {K : Frag} {mg : Str → Option Value} {base h₀ : Heap} {C fI x : Addr} {cn : Str}
/-- super(), in a method of the class at C run at x -/
theorem sup_node {body : List Stmt} {q : Str} {scope : Scope} {p0 p1 : Pos} {attr : Str} {whole : Sem Value} {fd : FuncData} {ar : Arg} {vs : Array Value} {file : Str} {tf : Tok} {oc ccl cl : Value} {od cdd cld : Option Addr} {osl ccs csl : Array (Option Value)} {ox : Obj} {cdD : ClassData} {L f cda cc : Addr} {m : Str → Option Value} {news : List (Addr × Obj)} {Q : Value → Shared → Prop}
    (M : L2.Mod K mg base) (kb : ∀ b o, base.get? b = some o → h₀.get? b = some o) (F : Fr h₀ L s.heap m) (X₀ : K.In h₀) (N : News h₀ L s.heap news)
    (hf : K.lookup f = some ⟨oc, od, .func fd, osl⟩) (hp : (fd.params.posonlyargs ++ fd.params.args).head? = some ar) (hv : m ar.arg = some (.ref x)) (I : InstAt s.heap x ox C none)
    (hcode : K.lookup cda = some ⟨ccl, cdd, .fields vs, ccs⟩) (hvs : vs[2]? = some (.str file tf)) (hfile : ((prog.main.file : Str) == file) = true)
    (hcell : K.lookup cc = some ⟨cl, cld, .cell (some (.ref C)), csl⟩) (hD : clsIn K C = some cdD) (hsub : mroIn K C (.ref C) = some true) (hsuper : mg "super" = none)
    (hat : (attr == ("__class__" : Str)) = false) (hks : scope.names.lookup ("super" : Str) = some .globalImplicit) (hkc : scope.names.lookup ("__class__" : Str) = some .free) (hka : scope.names.lookup ar.arg = some .local) (hk : scope.kind = .function)
    (htop : (prog.main.scope.names.lookup ("super" : Str)).isSome = false)
    (h : ∀ so h', Fr h₀ L h' m → News h₀ L h' ((so, ks_superObj C x C) :: news) → (∀ p ∈ news, p.1 < so) → Q (.ref so) { s with heap := h' }) :
    _root_.PySem.wpAt (model prog w) A (.func body (ksEnv q scope L f (.ref cda) cc)) (attributeBase (.Call (.Name "super" p0) [] [] p1) attr (ksEnv q scope L f (.ref cda) cc) whole) Q E s := by
  have X : K.In s.heap := X₀.keeps F.keep
  obtain ⟨mb, hb1, hb2⟩ := M.blt
  have kk : ∀ b o, base.get? b = some o → s.heap.get? b = some o := fun b o e => F.keep b o (kb b o e)
  obtain ⟨hh, g, d, t, os⟩ := s
  obtain ⟨oD, hD1, hD2⟩ : ∃ oD, hh.get? C = some oD ∧ oD.data = .cls cdD := by
    unfold clsIn at hD
    split at hD
    · rename_i c d cd' sl ho
      cases hD
      exact ⟨_, X _ _ ho, rfl⟩
    · cases hD
  refine ks_wpAt_super_base (env := ksEnv q scope L f (.ref cda) cc) hks hkc hat rfl (X _ _ hf) rfl hp rfl (X _ _ hcode) rfl hvs hfile htop ?_
  refine ks_loadName_global hk hks (loadGlobal_builtin (env := ksEnv q scope L f (.ref cda) cc) (M.glob.keeps kk) hsuper (hb1.keeps kk) ((hb2 _ (by decide +kernel)).trans (by first | rfl | kernel_rfl)) ⟨rfl, ?_⟩)
  refine wpAny_loadName_free hk hkc rfl ⟨_, X _ _ hcell, rfl⟩ ?_
  refine wpAny_loadName_local hk hka F.ns hv ?_
  refine ks_wpAny_isType_cls hD1 hD2 ⟨rfl, ?_⟩
  refine ks_wpAny_call_super hD1 hD2 I.at_ I.cls (fun c e => ?_) (looks_mroIn X hsub) (fun h' e k => ?_)
  · have := I.no
    unfold notCls at this
    rw [e] at this
    exact Bool.noConfusion this
  · obtain ⟨F', N', l'⟩ := ks_newsPush (s := ⟨hh, g, d, t, os⟩) F N rfl e k
    exact h _ _ F' N' l'

theorem err_init (T : ErrTxt prog K mg cn C fI) (M : L2.Mod K mg base) {t0 : Addr} {v : Value} (kb : ∀ b o, base.get? b = some o → s.heap.get? b = some o) (nb : base.get? x = none) (hlim : s.heap.NoLimit)
    (hx : s.heap.get? x = some (excO C t0)) (hroom : A.depth < recursionLimit) (hq : ∀ h' tk dx t1, Ended s.heap h' x C dx t1 v → R (.ok (.ret .none)) { s with heap := h', toks := tk }) :
    codeAny (model prog w) A (.call (.ref fI) ⟨[.ref x, v], []⟩) R s := by
  obtain ⟨qual, oc, od, doc, pm, an, cda, cc, ct, osl, p1, p2, q, ccl, cl, cdd, cld, ccs, csl, vs, file, tf, ho, hcd, hcode, hvs, hfile, hcell, hpos⟩ := T.fn
  obtain ⟨nm, qn, N, bs, bm, sn, sub, ab, col, dd, k0, k1, k2, k3, k5, hC, hbm⟩ := T.cls
  have hcl : clsIn K C = some { name := nm, bases := bs, mro := .ref C :: bm, ns := N, qualname := qn, hasDict := true, slotNames := sn, subclasses := sub, abstract := ab, collection := col, hasDel := false } := by unfold clsIn; rw [hC] <;> rfl
  have nK : K.lookup x = none := by
    cases e : K.lookup x with
    | none => rfl
    | some o => have z := M.kin _ _ e; rw [nb] at z; cases z
  have X : K.In s.heap := M.kin.keeps kb
  refine ks_codeAny_call_defAt (fd := ksFn "__init__" qual (nA p1 p2) (nB q) nS .none .none doc pm an (.ref cda) ct cc) (body := nB q) (binds := [("self", .ref x), ("at", v)]) hroom (X _ _ ho) rfl hlim (codeRec_of X hcd) rfl
    (BindsTo.of_eq (by first | rfl | with_unfolding_all rfl)) (show ∀ y ∈ nS.names, y.2 ≠ .cell by decide) (show ∀ y ∈ [(("self" : Str), Value.ref x), ("at", v)], nS.names.lookup y.1 = some .local from locs (scope := nS) rfl) (fun h₁ hns hk => ?_) rfl rfl rfl
  show _root_.PySem.wpAt (model prog w) (A.deeper (ksEnv qual nS s.heap.objs.size fI (.ref cda) cc)) (.func (nB q) (ksEnv qual nS s.heap.objs.size fI (.ref cda) cc)) (execs (nB q) (ksEnv qual nS s.heap.objs.size fI (.ref cda) cc)) _ _ _
  have lt : x < s.heap.objs.size := Heap.lt_size hx
  have F₀ : Fr (hideAll s.heap [x]) s.heap.objs.size h₁ (fun y => [((("self" : Str), Value.ref x)), ("at", v)].reverse.lookup y) := ⟨hns, fun b o e => hk b o (of_hideAll _ e), Nat.le_of_eq (hideAll_size _ _)⟩
  have kb0 : ∀ b o, base.get? b = some o → (hideAll s.heap [x]).get? b = some o := fun b o e => hideAll_get _ (kb b o e) (fun z => by
    rw [List.mem_singleton] at z
    rw [z, nb] at e; cases e)
  have X₀ : K.In (hideAll s.heap [x]) := M.kin.keeps kb0
  have N₀ : News (hideAll s.heap [x]) s.heap.objs.size h₁ [(x, excObj C t0 none .none)] := fun p hp => by
    rw [List.mem_singleton] at hp
    subst hp
    exact ⟨hk _ _ hx, Nat.ne_of_lt lt, hideAll_none _ (List.mem_singleton.mpr rfl)⟩
  refine ks_wpAt_execs_cons (ks_wpAt_Expr_any (ks_wpAt_MethodCall ?_ (eval_sup hpos)))
  refine sup_node (s := ⟨h₁, _, _, _, _⟩) M kb0 F₀ X₀ N₀ ho rfl rfl (InstAt.of_exc0 N₀ (List.mem_singleton.mpr rfl)) hcode hvs hfile hcell hcl T.self T.sup (by decide) rfl rfl rfl rfl T.top (fun so h₂ F₂ N₂ l₂ => ?_)
  refine kxs_method (s := ⟨h₂, _, _, _, _⟩) kxs_ValueError F₂ X₀ N₂ List.mem_cons_self (InstAt.of_exc0 N₂ (List.mem_cons_of_mem _ (List.mem_singleton.mpr rfl))) T.opq T.up T.exV (by decide) (fun u h₃ F₃ N₃ l₃ => ?_)
  refine kxs_callWith1 N₃ List.mem_cons_self (spliced_more (wpAny_Name (wpAny_loadName_local rfl rfl F₃.ns rfl (spliced_none ⟨kxs_at N₃ List.mem_cons_self, ?_⟩)) (by decide)))
  have so_ne : so ≠ x := fun z => absurd (l₂ _ (List.mem_singleton.mpr rfl)) (by rw [z]; exact Nat.lt_irrefl _)
  have u_ne : u ≠ x := fun z => absurd (l₃ _ (List.mem_cons_of_mem _ (List.mem_singleton.mpr rfl))) (by rw [z]; exact Nat.lt_irrefl _)
  refine kxs_call (s := ⟨h₃, _, _, _, _⟩) F₃ X₀ N₃ PySem.F.excBase_ValueError ?_ List.mem_cons_self (.tail u_ne (.tail so_ne (.head (fun p hp => by cases hp)))) (one_le v) (fun t1 h₄ F₄ N₄ l₄ => ?_)
  · exact T.exI
  show _root_.PySem.wpAt _ _ _ (execs _ _) _ _ _
  have X₄ : K.In h₄ := X₀.keeps F₄.keep
  have hx₄ : h₄.get? x = some (excO C t1) := (N₄ (x, excObj C t1 none .none) (by simp)).1
  refine ks_wpAt_execs_cons (ks_wpAt_Assign_Attr (wpAt_of_wpAny (wpAny_Name (wpAny_loadName_local rfl rfl F₄.ns rfl (wpAny_Name (wpAny_loadName_local rfl rfl F₄.ns rfl ?_) (by decide))) (by decide))))
  refine set_plain (s := ⟨h₄, _, _, _, _⟩) X₄ (ox := excO C t1) (od := none) ⟨hx₄, rfl, rfl, trivial⟩ T.sa ?_
  refine exc_osa X₄ hx₄ hcl (show refsVE (.ref C :: bm) = true from hbm) rfl T.noN (fun h₅ tk₅ dx k₅ dn dne hx₅ hn₅ => ?_)
  show _root_.PySem.wpAt _ _ _ (execs [] _) _ _ _
  refine wpAt_of_wpAny (wpAny_execs_nil (hq h₅ tk₅ dx t1 ⟨fun b o hb e => k₅ b o hb (F₄.keep b o (hideAll_get _ e (fun z => hb (List.mem_singleton.mp z)))), hx₅, ?_, dne, hn₅⟩))
  exact Nat.le_of_lt (Nat.lt_of_lt_of_le F₄.ns.lt dn)
theorem err_made (T : ErrTxt prog K mg cn C fI) (M : L2.Mod K mg base) {v : Value} (kb : ∀ b o, base.get? b = some o → s.heap.get? b = some o) (hlim : s.heap.NoLimit) (hroom : A.depth + 1 < recursionLimit)
    (hq : ∀ h' tk e d, Made s.heap h' e C d v → R (.ok (.ret (.ref e))) { s with heap := h', toks := tk }) :
    codeAny (model prog w) A (.call (.ref C) ⟨[v], []⟩) R s := by
  obtain ⟨nm, q, N, bs, bm, sn, sub, ab, col, dd, k0, k1, k2, k3, k5, hC, hbm⟩ := T.cls
  obtain ⟨hp, g, dr, tk, os⟩ := s
  have X : K.In hp := M.kin.keeps kb
  have k : ∀ b o, hp.get? b = some o → ((hp.push (kdv_tup [v])).push (excO C hp.objs.size)).get? b = some o := fun b o e => Heap.get?_push_of_some _ (Heap.get?_push_of_some _ e)
  have hget : ((hp.push (kdv_tup [v])).push (excO C hp.objs.size)).get? (hp.objs.size + 1) = some (excO C hp.objs.size) := by heap_get
  have nb : base.get? (hp.objs.size + 1) = none := by
    cases e : base.get? (hp.objs.size + 1) with
    | none => rfl
    | some o => exact absurd (Nat.lt_of_succ_lt (Heap.lt_size (kb _ _ e))) (Nat.lt_irrefl _)
  refine call_own F.excBase_ValueError (fun X => refsVE_contains X bm hbm) (X _ _ hC) (looks_findIn X T.iC) (fun self => bind_fn X self T.tC) (one_le v) ?_
  refine err_init (s := ⟨(hp.push (kdv_tup [v])).push (excO C hp.objs.size), g, dr, tk, os⟩) T M (fun b o e => k b o (kb b o e)) nb (hlim.keeps k) hget hroom fun h' tk' dx t1 ⟨k', hx, dn, dne, hns⟩ => ?_
  have old : ∀ b o, hp.get? b = some o → h'.get? b = some o := fun b o e => k' b o (Nat.ne_of_lt (Nat.lt_succ_of_lt (Heap.lt_size e))) (k b o e)
  have z : hp.objs.size + 1 + 1 ≤ dx := by
    have q := dn
    rw [Heap.size_push, Heap.size_push] at q
    exact q
  exact ⟨rfl, hq h' tk' (hp.objs.size + 1) dx ⟨old, Nat.le_succ _, ⟨_, _, hx, rfl, rfl, rfl, rfl⟩, Nat.le_trans (Nat.le_trans (Nat.le_succ _) (Nat.le_succ _)) z, dne, hns⟩⟩
end
end L3X
end PySem

namespace L3
open PySem PySem.Spec PyProof.Rows L2 PySem.L3X

theorem relO_at {v : V} {v' : Value} (r : RelV v v') (f : Str) : RelO (List.lookup f [(("at" : Str), v)]) (if f = "at" then some v' else none) := by
  by_cases hw : f = "at"
  · subst hw
    rw [if_pos rfl, show List.lookup ("at" : Str) [(("at" : Str), v)] = some v by simp [List.lookup]]
    exact r
  · have qw : (f == ("at" : Str)) = false := by simpa using hw
    rw [if_neg hw, show List.lookup f [(("at" : Str), v)] = none by simp [List.lookup, qw]]
    trivial
/-- C(e) -/
def tMkErr (C : Addr) (te : TE) : L2.St → Hp → XK → Prop := fun σ H Q => te σ H fun v H1 => ∃ w, [v] = [w] ∧ ∀ d, H1 d = none → Q (.ref C) (some d) (upd H1 d (.xd [(("at" : Str), w)]))
section
variable {Γ : Sta} {X : Cx} {C fI : Addr} {x : Str} {e : Expr} {ge : G} {te : TE} {p pos pos2 : Pos} {k : Nat}
theorem pmk_err (T : ErrTxt X.prog X.K X.mg x C fI) (hr : Room (k + 1) X.A) (he : PE X e te) (hg : Gl X x) (hdb : (x == ("__debug__" : Str)) = false := by decide)
    (hs : starEach [e] X.env = (false, eval e X.env) :: starEach [] X.env := by rfl) : PMk X (.Call (.Name x p) [e] [] pos) (tMkErr C te) := by
  intro pins s σ H Q I h
  refine wpAny_Call_Name_kw (ld_glob I hg T.gC ?_ hdb)
  refine PySem.W.callWith_K (h₀ := X.base) I.ok.mod.kin T.kC (thn ((pa_cons he pa_nil hs).run pos pins s σ H (fun vs H1 => ∃ v, vs = [v] ∧ ∀ d, H1 d = none → Q (.ref C) (some d) (upd H1 d (.xd [(("at" : Str), v)]))) I h) fun us s1 hh => ?_) hs rfl
  obtain ⟨vs, H1, I1, r1, v, ev, q1⟩ := hh
  subst ev
  refine ⟨I1.kIn, ?_⟩
  cases r1 with
  | cons rv rn =>
    rename_i v' us'
    cases rn
    show wpAny _ _ (call (.ref C) [v']) _ _ _
    have hlim := I1.nolimit
    have kb := I1.bk
    obtain ⟨hp, g, dr, tk, os⟩ := s1
    refine wpAny_call (err_made T I1.ok.mod kb hlim (by have := hr.dp; omega) fun h' tk' e d M => ?_)
    show MkP X pins σ Q (.ref e) ⟨h', g, dr, tk', os⟩
    obtain ⟨oe, fv, hoe, hc, hd, hdat, h1⟩ := M.obj
    have hns := M.ns
    obtain ⟨G', g1, g2⟩ := L2.restrict h' fun b => decide (b ≠ e)
    have gk : ∀ b, b ≠ e → G'.get? b = h'.get? b := fun b hb => g1 b (decide_eq_true hb)
    have ge : G'.get? e = none := g2 e (by simp)
    have old : ∀ b o, hp.get? b = some o → G'.get? b = some o := fun b o q => (gk b (Nat.ne_of_lt (Nat.lt_of_lt_of_le (Heap.lt_size q) M.new))).trans (M.keep b o q)
    have ob : ObjOk X.prog X.w (upd H1 d (.xd [(("at" : Str), v)])) G' d (.xd [(("at" : Str), v)]) :=
      ⟨_, hns.at (fun o q => (gk d M.dne).trans q), fun f => relO_at rv f⟩
    have J : Inv X pins σ (upd H1 d (.xd [(("at" : Str), v)])) ⟨G', g, dr, tk', os⟩ := I1.laid (t' := tk') old M.dbig ob
    refine ⟨e, oe, fv, ⟨G', g, dr, tk', os⟩, _, .ref C, some d, rfl, J, fun b o q => ?_, ge, hoe, ⟨hc, hd⟩, hdat, h1, ?_, rfl, I1.bare, raises_own T.exC T.tyC, q1 d (I1.hok.fresh M.dbig)⟩
    · by_cases hb : b = e
      · have q' : G'.get? b = some o := q
        rw [hb, ge] at q'; cases q'
      · exact (gk b hb).symm.trans q
    · rw [upd_ne (Ne.symm M.dne)]
      exact I1.hok.fresh M.new

def sRaise (x : Str) (ge : G) : GS := fun ρ s => bindS (ge ρ s) ρ fun d s1 => .ok (.ex ⟨x, d⟩ ρ) s1
/-- raise C(e) -/
theorem s_raise (T : ErrTxt X.prog X.K X.mg x C fI) (hH : Here Γ X) (hc : X.calm = true) (hr : Room (k + 1) X.A) (he : E3 Γ X e ge) (hg : Gl X x) (hdb : (x == ("__debug__" : Str)) = false := by decide)
    (hs : starEach [e] X.env = (false, eval e X.env) :: starEach [] X.env := by rfl) : S3 Γ X (.Raise (some (.Call (.Name x p) [e] [] pos)) none pos2) (sRaise x ge) :=
  ⟨fun Wx F ρ s σ H D tk S pp => by
    have h := he.run Wx F ρ s σ H (fun v H1 => ∃ w, [v] = [w] ∧ ∀ d, H1 d = none → Wx (.ref C) (some d) σ (upd H1 d (.xd [(("at" : Str), w)]))) tk S (PostS.bind S pp fun d s1 v H1 g1 S1 r1 p1 => ⟨v, rfl, fun a na => ?_⟩)
    · exact fun pins sh I => (ps_raise hc tk (pmk_err T hr can_e hg hdb hs)).run pins sh σ H D I h
    · refine p1 F σ (upd H1 a (.xd [(("at" : Str), v)])) (.ref C) (some a) (Grow.new na) (Newer.refl _ _) (S1.laid na) ⟨C, a, v, hH.mg ▸ T.gC, rfl, rfl, upd_same, ?_⟩
      exact r1.grown S1 (Grow.new na)⟩
end
end L3

/-! L3: try .. except .. as .., several clauses. -/
namespace L3
open PySem PySem.Spec PyProof.Rows L2 PySem.L3X

/-- a clause: the slot of its name, its class, its suite -/
structure Cl3 where
  i : Option Nat
  c : Value
  ts : Addr → Value → Option Addr → TS
def offI (i : Option Nat) (σ : Sl) : Sl := match i with | some i => σ.set i none | none => σ
def onI (i : Option Nat) (a : Addr) (σ : Sl) : Sl := match i with | some i => σ.set i (some (.ref a)) | none => σ
def offE (i : Option Nat) (D : Ends) : Ends := { nx := fun σ H => D.nx (offI i σ) H, rt := D.rt, bk := fun σ H => D.bk (offI i σ) H, ct := fun σ H => D.ct (offI i σ) H }
def wCl (K : PySem.W.Frag) (Wout : WX) (D : Ends) : List Cl3 → WX
  | [] => Wout
  | c :: r => fun cls d σ H => ∃ b, PySem.W.exmOne K cls c.c = some b ∧ (b = true → ∀ a, H a = none → c.ts a cls d (offE c.i D) (onI c.i a σ) H) ∧ (b = false → wCl K Wout D r cls d σ H)
def SuiteOk (X : Cx) (suite : List Stmt) (ts : Addr → Value → Option Addr → TS) : Prop := ∀ (a : Addr) (oe : Obj) (cls : Value) (d : Option Addr) (pn : List (Addr × Obj)), Zc cls d oe → (∃ vs, oe.data = .fields vs) → PSs (X.suite a ((a, oe) :: pn)) suite (ts a cls d)
inductive Cls3 (X : Cx) : List ExceptHandler → List Cl3 → Prop
  | nil : Cls3 X [] []
  | named {x n : Str} {i : Nat} {c : Value} {ts : Addr → Value → Option Addr → TS} {b₀ : Stmt} {suite : List Stmt} {np pos' : Pos} {hds : List ExceptHandler} {l : List Cl3} (hi : X.N[i]? = some n) (hln : X.env.kindOf n = some .local) (hc : Names X x c)
      (hsu : SuiteOk X (b₀ :: suite) ts) (r : Cls3 X hds l) : Cls3 X (.ExceptHandler (some (.Name x np)) (some n) (b₀ :: suite) pos' :: hds) (⟨some i, c, ts⟩ :: l)
  | plain {x : Str} {c : Value} {ts : Addr → Value → Option Addr → TS} {b₀ : Stmt} {suite : List Stmt} {np pos' : Pos} {hds : List ExceptHandler} {l : List Cl3} (hc : Names X x c)
      (hsu : SuiteOk X (b₀ :: suite) ts) (r : Cls3 X hds l) : Cls3 X (.ExceptHandler (some (.Name x np)) none (b₀ :: suite) pos' :: hds) (⟨none, c, ts⟩ :: l)
section
variable {X : Cx} {body : List Stmt} {h₀ : ExceptHandler} {hds : List ExceptHandler} {l : List Cl3} {pos : Pos} {tb : WX → TS} {Wout : WX}
theorem ps_try3 (hs : X.stack = X.env :: X.outer) (hf : X.env.frame = some X.env.locals) (hN : X.N.Nodup) (tk : Takes X Wout)
    (hb : ∀ (W : WX) (pn : List (Addr × Obj)) (xe : Value → Shared → Prop), Takes (X.tr pn xe) W → PassesOwn (model X.prog X.w) X.A X.env xe → PSs (X.tr pn xe) body (tb W))
    (hh : Cls3 X (h₀ :: hds) l) : PS X (.Try body (h₀ :: hds) [] [] pos) (fun D σ H => tb (wCl X.K Wout D l) D σ H) := by
  refine ⟨fun pins s σ H D I h => ?_⟩
  have ok := I.ok
  have hfr : X.A.frames = some (X.env :: X.outer) := by rw [ok.frames, hs]
  refine wpAny_Try_except ?_
  refine wpAny_mono ((hb (wCl X.K Wout D l) (X.pn ++ pins) (fun e s₁ => wpAny (model X.prog X.w) X.A (noteFrame e X.env) (fun _ s₂ => wpAny (model X.prog X.w) X.A (setFlight e none) (fun _ s₃ =>
    wpAny (model X.prog X.w) X.A (handleBy e X.env (h₀ :: hds)) (SP X pins D) X.xe s₃) X.xe s₂) X.xe s₁) (fun u s' xx => ?_) PassesOwn.looking).run [] s σ H D (I.toTry _) h) (fun f s1 hsp => ?_) (fun e s1 he => he)
  · obtain ⟨a, B, sI, pins', σ', H', cls, d, rfl, J', nb, up, sky, na, os, ag, w⟩ := xx
    have J : Inv X pins σ' H' sI := J'.ofTry ok
    have sky' : Sky B (X.env :: X.outer) a (Zc cls d) X.env.locals s'.heap := by rw [← hs]; exact sky
    show wpAny (model X.prog X.w) X.A (noteFrame (.ref a) X.env) _ _ _
    refine Sky.land Zc.steady hfr hf sky' fun h3 fl3 up3 => ?_
    have J3 : Inv X pins σ' H' { s' with heap := h3 } := J.landed nb fl3.1 (up.trans up3) os ag
    obtain ⟨oe3, vs3, he3, hz3, hd3⟩ := fl3.there
    have nfr : a ∉ frs (X.env :: X.outer) := fun hm => by
      obtain ⟨_, o', e', hnf⟩ := fl3.2.2.1.mem hm
      rw [he3] at e'; cases e'
      exact hnf _ hd3
    have nL : a ≠ X.env.locals := fun z => nfr (List.mem_filterMap.mpr ⟨X.env, List.mem_cons_self, by rw [hf, z]⟩)
    have nF : a ∉ X.fs := fun hm => by
      obtain ⟨e, he, q⟩ := List.mem_filterMap.mp hm
      exact nfr (List.mem_filterMap.mpr ⟨e, List.mem_cons_of_mem _ he, q⟩)
    have S3 := J3.suite he3 hd3 na nL nF
    have LT : PySem.W.Looks (model X.prog X.w) h3 (typeOf (.ref a)) cls := fun A Q E s k q => wpAny_typeOf_ref (k _ _ he3) (by rw [hz3.1]; exact q)
    have test : ∀ {x : Str} {c : Value} {np : Pos} {Q : Value → Shared → Prop} {E : Value → Shared → Prop}, Names X x c → Q c { s' with heap := h3 } → wpAny (model X.prog X.w) (X.A.mark (some (.ref a))) (eval (.Name x np) X.env) Q E { s' with heap := h3 } := fun {x c np Q E} hc q => by
      obtain ⟨hg, hdbg, hm | ⟨hm, hv, hnn⟩⟩ := hc
      · exact ld_glob (X := X.suite a ((a, oe3) :: (X.pn ++ pins))) S3 hg hm q hdbg
      · exact ld_blt (X := X.suite a ((a, oe3) :: (X.pn ++ pins))) S3 hg hm hv q hnn hdbg
    have again : ∀ {h4 : Heap}, HandSPX.FlyingZ B (X.env :: X.outer) a (Zc cls d) h4 → h3.UpToSlots h4 → ∃ oe4, Zc cls d oe4 ∧ (∃ vs, oe4.data = .fields vs) ∧ Inv (X.suite a ((a, oe4) :: (X.pn ++ pins))) [] σ' H' { s' with heap := h4 } := fun {h4} fl4 up4 => by
      have J4 : Inv X pins σ' H' { s' with heap := h4 } := J.landed nb fl4.1 ((up.trans up3).trans up4) os ag
      obtain ⟨oe4, vs4, he4, hz4, hd4⟩ := fl4.there
      exact ⟨oe4, hz4, ⟨_, hd4⟩, J4.suite he4 hd4 na nL nF⟩
    have go : ∀ {hds' : List ExceptHandler} {l' : List Cl3}, Cls3 X hds' l' → wCl X.K Wout D l' cls d σ' H' → wpAny (model X.prog X.w) X.A (handleBy (.ref a) X.env hds') (SP X pins D) X.xe { s' with heap := h3 } := by
      intro hds' l' hk
      induction hk with
      | nil =>
        intro w
        refine wpAny_handleBy_nil ?_
        obtain ⟨k1, k2, k3, oe, vs, T, oT, ts', he, hz, hd, h1, hr⟩ := id fl3
        unfold PySem.passOn
        refine wpAny_bind (wpAny_field he hd h1 ?_)
        rw [if_neg (show ¬ ((Value.ref T == Value.none) = true) from by simp)]
        have fin : wpAny (model X.prog X.w) X.A (setFlight (.ref a) X.env.frame) (fun _ s4 => wpAny (model X.prog X.w) X.A (throw (.ref a) : Sem Flow) (SP X pins D) X.xe s4) X.xe { s' with heap := h3 } := by
          rw [hf]
          refine HandSPX.setFlight_upZ fl3 fun h4 hh4 up4 => wpAny_throw (tk _ _ ?_)
          exact ⟨a, B, sI, pins, σ', H', cls, d, rfl, J, nb, (up.trans up3).trans up4, .inr (.inr (by rw [hs]; exact hh4)), na, os, ag, w⟩
        first
          | exact wpAny_bind (wpAny_pure (wpAny_bind fin))
          | exact wpAny_bind fin
      | @plain x c ts b₀ suite np pos' hds2 l2 hc hsu r ih =>
        intro w
        obtain ⟨b, hb1, hyes, hno⟩ := w
        refine wpAny_handleBy_cons (codeAny_handlers_test ?_) (by intro q; cases q)
        refine test hc ((PySem.W.exm_one (M := model X.prog X.w) (J3.kIn) LT hb1).here ?_)
        cases b with
        | true =>
          refine codeAny_handlers_suite ?_
          refine HandSPX.lands_againZ fl3 fun h4 fl4 up4 => ?_
          obtain ⟨oe4, hz4, hd4, S4⟩ := again fl4 up4
          refine wpAny_mono ((hsu a oe4 cls d (X.pn ++ pins) hz4 hd4).run [] _ _ H' _ S4 (hyes rfl a na)) (fun f s6 hsp => ?_) (fun _ _ z => False.elim z)
          cases f with
          | next => obtain ⟨σ6, H6, S6, q6⟩ := hsp; exact ⟨_, _, S6.unsuite ok, q6⟩
          | brk => obtain ⟨σ6, H6, S6, q6⟩ := hsp; exact ⟨_, _, S6.unsuite ok, q6⟩
          | cont => obtain ⟨σ6, H6, S6, q6⟩ := hsp; exact ⟨_, _, S6.unsuite ok, q6⟩
          | ret u => obtain ⟨v6, σ6, H6, S6, r6, q6⟩ := hsp; exact ⟨_, _, _, S6.unsuite ok, r6, q6⟩
        | false => exact ih (hno rfl)
      | @named x n i c ts b₀ suite np pos' hds2 l2 hi hln hc hsu r ih =>
        intro w
        obtain ⟨b, hb1, hyes, hno⟩ := w
        refine wpAny_handleBy_cons (codeAny_handlers_test ?_) (by intro q; cases q)
        refine test hc ((PySem.W.exm_one (M := model X.prog X.w) (J3.kIn) LT hb1).here ?_)
        cases b with
        | true =>
          refine codeAny_handlers_suite_as ?_
          refine HandSPX.lands_againZ fl3 fun h4 fl4 up4 => ?_
          obtain ⟨oe4, hz4, hd4, S4⟩ := again fl4 up4
          refine store_ok (X := X.suite a ((a, oe4) :: (X.pn ++ pins))) (v := .ref a) S4 hN hi (.inl hln) rfl (fun s5 S5 => ?_) (.inr hln)
          refine wpAny_mono ((hsu a oe4 cls d (X.pn ++ pins) hz4 hd4).run [] s5 _ H' _ S5 (hyes rfl a na)) (fun f s6 hsp => ?_) (fun _ _ z => False.elim z)
          have end_ : ∀ {σ6 : Sl} {H6 : Hp} {Q : Shared → Prop}, Inv (X.suite a ((a, oe4) :: (X.pn ++ pins))) [] σ6 H6 s6 → (∀ s7, Inv X pins (σ6.set i none) H6 s7 → Q s7) →
              wpAny (model X.prog X.w) X.A (do bindName X.env n .none; unbindBehindTheSuite X.env n pos') (fun _ s7 => Q s7) X.xe s6 := fun {σ6 H6 Q} S6 hq => gone_ok (S6.unsuite ok) hN hi hln hq
          cases f with
          | next => obtain ⟨σ6, H6, S6, q6⟩ := hsp; exact end_ S6 fun s7 J7 => ⟨_, _, J7, q6⟩
          | brk => obtain ⟨σ6, H6, S6, q6⟩ := hsp; exact end_ S6 fun s7 J7 => ⟨_, _, J7, q6⟩
          | cont => obtain ⟨σ6, H6, S6, q6⟩ := hsp; exact end_ S6 fun s7 J7 => ⟨_, _, J7, q6⟩
          | ret u => obtain ⟨v6, σ6, H6, S6, r6, q6⟩ := hsp; exact end_ S6 fun s7 J7 => ⟨_, _, _, J7, r6, q6⟩
        | false => exact ih (hno rfl)
    exact go hh w
  · cases f with
    | next => obtain ⟨σ', H', J', q⟩ := hsp; exact wpAny_execs_nil ⟨σ', H', J'.ofTry ok, q⟩
    | brk => obtain ⟨σ', H', J', q⟩ := hsp; exact ⟨σ', H', J'.ofTry ok, q⟩
    | cont => obtain ⟨σ', H', J', q⟩ := hsp; exact ⟨σ', H', J'.ofTry ok, q⟩
    | ret u => obtain ⟨v, σ', H', J', r, q⟩ := hsp; exact ⟨v, σ', H', J'.ofTry ok, r, q⟩
end
end L3

/-! L3: try, as a mirror. -/
namespace L3
open PySem PySem.Spec PyProof.Rows L2 PySem.L3X

def offR (i : Option Nat) (ρ : Env3) : Env3 := match i with | some i => ρ.set i none | none => ρ
def offO (i : Option Nat) : R Out → R Out
  | .ok (.nx ρ) s => .ok (.nx (offR i ρ)) s
  | .ok (.bk ρ) s => .ok (.bk (offR i ρ)) s
  | .ok (.ct ρ) s => .ok (.ct (offR i ρ)) s
  | .ok (.rt d) s => .ok (.rt d) s
  | _ => .bad
/-- a clause's mirror: the slot of its name, its class, the classes that may come, its suite -/
structure ClM where
  i : Option Nat
  c : Str
  kn : List Str
  g : D → GS
def catchM : List ClM → Xc → GS
  | [], x, ρ, s => .ok (.ex x ρ) s
  | c :: r, x, ρ, s => if c.kn.contains x.cls = true then (if (x.cls == c.c) = true then offO c.i (c.g x.at_ (offR c.i ρ) s) else catchM r x ρ s) else .bad
def sTry (b : GS) (l : List ClM) : GS := fun ρ s => match b ρ s with
  | .ok (.ex x ρ') s' => catchM l x ρ' s'
  | r => r
/-- a suite: at the exception at a, which keeps v -/
structure SU3 (Γ : Sta) (X : Cx) (i : Option Nat) (suite : List Stmt) (g : D → GS) : Prop where
  run : ∀ (a : Addr) (oe : Obj) (pn : List (Addr × Obj)) (C dd fI : Addr) (x : Str) (F : Addr → Prop) (ρ : Env3) (s : DS) (σ : Sl) (H : Hp) (D : Ends) (v : V) (d : L3.D), Zc (.ref C) (some dd) oe → (∃ vs, oe.data = .fields vs) →
    ErrTxt X.prog X.K X.mg x C fI → SR Γ F ρ s σ H → H dd = some (.xd [(("at" : Str), v)]) → Rep Γ F H v d → (∀ j, i = some j → j < σ.length → σ[j]? = some (some (.ref a))) → PostS Γ F H D (fun _ _ _ _ => False) (g d ρ s) →
    tSs3 (X.suite a ((a, oe) :: pn)) suite D σ H
section
variable {Γ : Sta} {X : Cx} {F : Addr → Prop} {ρ : Env3} {s : DS} {σ : Sl} {H : Hp}
theorem SR.off (S : SR Γ F ρ s σ H) (i : Option Nat) : SR Γ F (offR i ρ) s (offI i σ) H := by
  cases i with
  | none => exact S
  | some i => exact S.drop
theorem SR.on (S : SR Γ F ρ s σ H) (i : Option Nat) (a : Addr) : SR Γ F (offR i ρ) s (onI i a σ) H := by
  cases i with
  | none => exact S
  | some i => exact S.drop
theorem PostS.off {D : Ends} {Wx : WX} {i : Option Nat} {r : R Out} (p : PostS Γ F H D Wx (offO i r)) : PostS Γ F H (offE i D) (fun _ _ _ _ => False) r := by
  cases r with
  | ok o s' =>
    cases o with
    | nx ρ' => exact fun F' σ' H' g n S => p F' _ H' g n (S.off i)
    | bk ρ' => exact fun F' σ' H' g n S => p F' _ H' g n (S.off i)
    | ct ρ' => exact fun F' σ' H' g n S => p F' _ H' g n (S.off i)
    | rt d => exact p
    | ex x ρ' => exact p.elim
  | exc x s' => exact p
  | bad => exact p
/-- what a clause wants of the text -/
structure ClOk (Γ : Sta) (X : Cx) (h : ExceptHandler) (m : ClM) : Prop where
  ex : ∃ (x : Str) (nm : Option Str) (c : Value) (b₀ : Stmt) (suite : List Stmt) (np pos' : Pos), h = .ExceptHandler (some (.Name x np)) nm (b₀ :: suite) pos' ∧ Names X x c ∧
    (match nm, m.i with | some n, some i => X.N[i]? = some n ∧ X.env.kindOf n = some .local | none, none => True | _, _ => False) ∧
    SU3 Γ X m.i (b₀ :: suite) m.g ∧ (∀ z ∈ m.kn, ∃ C fI, ErrTxt X.prog X.K X.mg z C fI ∧ PySem.W.exmOne X.K (.ref C) c = some (z == m.c))
theorem cl_named {x n : Str} {c : Value} {b₀ : Stmt} {suite : List Stmt} {np pos' : Pos} {i : Nat} {cn : Str} {kn : List Str} {g : D → GS} (hi : X.N[i]? = some n) (hln : X.env.kindOf n = some .local) (hc : Names X x c) (hsu : SU3 Γ X (some i) (b₀ :: suite) g)
    (hk : ∀ z ∈ kn, ∃ C fI, ErrTxt X.prog X.K X.mg z C fI ∧ PySem.W.exmOne X.K (.ref C) c = some (z == cn)) : ClOk Γ X (.ExceptHandler (some (.Name x np)) (some n) (b₀ :: suite) pos') ⟨some i, cn, kn, g⟩ :=
  ⟨x, some n, c, b₀, suite, np, pos', rfl, hc, ⟨hi, hln⟩, hsu, hk⟩
theorem cl_plain {x : Str} {c : Value} {b₀ : Stmt} {suite : List Stmt} {np pos' : Pos} {cn : Str} {kn : List Str} {g : D → GS} (hc : Names X x c) (hsu : SU3 Γ X none (b₀ :: suite) g)
    (hk : ∀ z ∈ kn, ∃ C fI, ErrTxt X.prog X.K X.mg z C fI ∧ PySem.W.exmOne X.K (.ref C) c = some (z == cn)) : ClOk Γ X (.ExceptHandler (some (.Name x np)) none (b₀ :: suite) pos') ⟨none, cn, kn, g⟩ :=
  ⟨x, none, c, b₀, suite, np, pos', rfl, hc, trivial, hsu, hk⟩
inductive ClsOk (Γ : Sta) (X : Cx) : List ExceptHandler → List ClM → Prop
  | nil : ClsOk Γ X [] []
  | cons {h : ExceptHandler} {m : ClM} {hs : List ExceptHandler} {ms : List ClM} : ClOk Γ X h m → ClsOk Γ X hs ms → ClsOk Γ X (h :: hs) (m :: ms)
theorem ClsOk.both (hH : Here Γ X) : ∀ {hs : List ExceptHandler} {ms : List ClM}, ClsOk Γ X hs ms → ∃ l, Cls3 X hs l ∧ ∀ (Wx : WX) (D : Ends) (x : Xc) (F : Addr → Prop) (ρ : Env3) (s : DS) (σ : Sl) (H : Hp) (cls : Value) (dd : Option Addr), SR Γ F ρ s σ H → ExcIs Γ F H cls dd x → PostS Γ F H D Wx (catchM ms x ρ s) → wCl X.K Wx D l cls dd σ H
  | _, _, .nil => ⟨[], .nil, fun Wx D x F ρ s σ H cls dd S e p => p F σ H cls dd (Grow.refl _ _) (Newer.refl _ _) S e⟩
  | _, _, .cons (h := h) (m := m) (ms := ms) hc r => by
    obtain ⟨l, c1, c2⟩ := ClsOk.both hH r
    obtain ⟨x, nm, c, b₀, suite, np, pos', rfl, hn, hi, hsu, hk⟩ := hc
    obtain ⟨i, cn, kn, g⟩ := m
    have sok : SuiteOk X (b₀ :: suite) (fun a cls d D σ H => ∀ oe pn, Zc cls d oe → (∃ vs, oe.data = .fields vs) → tSs3 (X.suite a ((a, oe) :: pn)) (b₀ :: suite) D σ H) :=
      fun a oe cls d pn hz hd => ⟨fun pins sh σ H D I h => h oe pn hz hd pins sh I⟩
    have fin : ∀ (Wx : WX) (D : Ends) (x : Xc) (F : Addr → Prop) (ρ : Env3) (s : DS) (σ : Sl) (H : Hp) (cls : Value) (dd : Option Addr), SR Γ F ρ s σ H → ExcIs Γ F H cls dd x → PostS Γ F H D Wx (catchM (⟨i, cn, kn, g⟩ :: ms) x ρ s) →
        wCl X.K Wx D (⟨i, c, fun a cls d D σ H => ∀ oe pn, Zc cls d oe → (∃ vs, oe.data = .fields vs) → tSs3 (X.suite a ((a, oe) :: pn)) (b₀ :: suite) D σ H⟩ :: l) cls dd σ H := by
      intro Wx D x F ρ s σ H cls dd S e p
      unfold catchM at p
      split at p
      · rename_i hkn
        obtain ⟨C', d', v, e1, e2, e3, e4, e5⟩ := id e
        obtain ⟨C, fI, T, hx⟩ := hk x.cls (by simpa using hkn)
        have eC : C' = C := by
          have z := T.gC
          rw [← hH.mg, e1] at z
          cases z; rfl
        subst eC e2 e3
        refine ⟨_, hx, fun hb a na oe pn hz hd => ?_, fun hb => ?_⟩
        · rw [if_pos hb] at p
          refine hsu.run a oe pn C' d' fI x.cls F _ s _ H _ v x.at_ hz hd T (S.on i a) e4 e5 (fun j hj hl => ?_) p.off
          cases hj
          unfold onI at hl ⊢
          rw [List.length_set] at hl
          rw [List.getElem?_set_self hl]
        · rw [if_neg (by rw [hb]; exact Bool.false_ne_true)] at p
          exact c2 Wx D x F ρ s σ H _ _ S e p
      · exact p.elim
    cases nm with
    | none =>
      cases i with
      | none => exact ⟨_, .plain hn sok c1, fin⟩
      | some i => exact hi.elim
    | some n =>
      cases i with
      | none => exact hi.elim
      | some i => exact ⟨_, .named hi.1 hi.2 hn sok c1, fin⟩
/-- try: body / except C as n: suite / .. -/
theorem s_try {body : List Stmt} {h₀ : ExceptHandler} {hds : List ExceptHandler} {ms : List ClM} {gb : GS} {pos : Pos} (hH : Here Γ X) (hs : X.stack = X.env :: X.outer) (hf : X.env.frame = some X.env.locals) (hN : X.N.Nodup)
    (hb : ∀ (pn : List (Addr × Obj)) (xe : Value → Shared → Prop), PassesOwn (model X.prog X.w) X.A X.env xe → SS3 Γ (X.tr pn xe) body gb) (hc : ClsOk Γ X (h₀ :: hds) ms) : S3 Γ X (.Try body (h₀ :: hds) [] [] pos) (sTry gb ms) :=
  ⟨fun Wx F ρ s σ H D tk S p => by
    obtain ⟨l, c1, c2⟩ := ClsOk.both hH hc
    refine toS (ps_try3 (tb := fun W D σ H => ∀ pn xe, Takes (X.tr pn xe) W → PassesOwn (model X.prog X.w) X.A X.env xe → tSs3 (X.tr pn xe) body D σ H) hs hf hN tk (fun W pn xe tk' hp => ⟨fun pins sh σ H D I h => h pn xe tk' hp pins sh I⟩) c1) fun pn xe tk' hp => ?_
    refine (hb pn xe hp).run _ F ρ s σ H D tk' S ?_
    unfold sTry at p
    cases q : gb ρ s with
    | ok o s' =>
      rw [q] at p
      cases o with
      | nx ρ' => exact p
      | bk ρ' => exact p
      | ct ρ' => exact p
      | rt d => exact p
      | ex x ρ' => exact fun F' σ' H' cls dd g n S' e => c2 Wx D x F' ρ' s' σ' H' cls dd S' e (PostS.later g n p)
    | exc x s' => rw [q] at p; exact p
    | bad => rw [q] at p; exact p⟩
end
end L3

/-! L3: own lists changed; suites; the script's cells. -/
namespace L3
open PySem PySem.Spec PyProof.Rows L2 PySem.L3X

section
variable {Γ : Sta} {X : Cx} {F : Addr → Prop} {H : Hp}
theorem reps_ints : ∀ (ns : List Int), Reps Γ F H (ns.map V.int) (ns.map L3.D.int)
  | [] => .nil
  | n :: r => .cons (.int n) (reps_ints r)
def slS : L3.D → Option Int → Option Int → Option L3.D := fun x l u => match x with | .scr ns => some (.lst (cutD (ns.map L3.D.int) l u)) | _ => none
def eSlS (ga : G) (gl gh : Env3 → DS → R (Option Int)) : G := fun ρ s => (ga ρ s).bind fun x s1 => (gl ρ s1).bind fun l s2 => (gh ρ s2).bind fun u s3 => match slS x l u with | some z => .ok z s3 | none => .bad
/-- script[lo:hi] -/
theorem e_slS (hG : Γ.K = X.K) {a : Expr} {lo hi : Option Expr} {ga : G} {gl gh : Env3 → DS → R (Option Int)} {p2 pos : Pos} (ha : E3 Γ X a ga) (hl : O3 Γ X lo gl) (hh : O3 Γ X hi gh) : E3 Γ X (.Subscript a (.Slice lo hi none p2) pos) (eSlS ga gl gh) :=
  ⟨fun Wx F ρ s σ H Q tk S p => toE (pe_slice sl_list can_e can_o can_o) (ha.run Wx F ρ s σ H _ tk S (p.bind fun x s1 v H1 g1 S1 r1 p1 =>
    hl.run Wx F ρ s1 σ H1 _ tk S1 (p1.bind fun l s2 l' H2 g2 S2 e2 p2 => hh.run Wx F ρ s2 σ H2 _ tk S2 (p2.bind fun u s3 u' H3 g3 S3 e3 p3 => by
      cases e2; cases e3
      have r3 := r1.grown S1 (g2.trans g3)
      split at p3
      · rename_i z q
        unfold slS at q
        split at q
        · cases q
          cases r3 with
          | scr h => exact ⟨_, _, rfl, h.elim (fun h => .inl h.1) (fun h => .inr (hG ▸ h)), kLst S3 ((reps_ints _).cut _ _) p3⟩
        · cases q
      · exact p3.elim))))⟩
/-- x.append(e), x's list its slot's own -/
def sApp (i : Nat) (ge : G) : GS := fun ρ s => match ρ[i]? with
  | some (some (.o ds)) => bindS (ge ρ s) ρ fun d s1 => if ds.length < 16777216 then .ok (.nx (ρ.set i (some (.o (ds ++ [d]))))) s1 else .bad
  | _ => .bad
theorem s_app {i : Nat} {x : Str} {e : Expr} {ge : G} {p ap cp pos : Pos} (hv : PE X (.Name x p) (tVar i)) (he : E3 Γ X e ge) (hl : (ap.endLine == cp.line) = true := by rfl)
    (hs : starEach [e] X.env = (false, eval e X.env) :: starEach [] X.env := by rfl) (hsw : swapsWith (.Call (.Attribute (.Name x p) "append" ap) [e] [] cp) none pos.line X.env = pure false := by rfl)
    (hbase : attributeBase (.Name x p) "append" X.env (eval (.Name x p) X.env) = eval (.Name x p) X.env := by rfl) :
    S3 Γ X (.Expr (.Call (.Attribute (.Name x p) "append" ap) [e] [] cp) pos) (sApp i ge) :=
  ⟨fun Wx F ρ s σ H D tk S pp => toS (ps_expr (pe_bm PySem.F.plainAttrs_list PySem.F.slot_list_append PySem.F.type_list_append mt_append hv (pa_cons can_e pa_nil hs) hbase (by rw [hs]; rfl) hl hs rfl) hsw) (by
    unfold sApp at pp
    split at pp
    · rename_i ds hi
      obtain ⟨a, vs, h1, h2, h3, h4, h5, h6⟩ := S.slots i _ hi
      refine ⟨.ref a, h1, .inl ⟨rfl, vs, .inl (.inl h5)⟩, ?_⟩
      refine he.run Wx F ρ s σ H (fun y H1 => rAppend (.ref a) [y] H1 (fun _ H2 => D.nx σ H2)) tk S (pp.bind S fun d s1 v H1 g1 S1 r1 p1 => ?_)
      obtain ⟨a', vs', h1', h2', h3', h4', h5', h6'⟩ := S1.slots i _ hi
      rw [h1] at h1'
      cases h1'
      split at p1
      · rename_i hlt
        obtain ⟨g, S2⟩ := S1.write (ws := vs' ++ [v]) (es := ds ++ [d]) hi h1 (h6'.append (.cons r1 .nil))
        exact ⟨a, vs', v, rfl, rfl, h5', by rw [sizeLine_is, h6'.length]; exact hlt, p1 F σ _ g (Newer.refl _ _) S2⟩
      · exact p1.elim
    · exact pp.elim)⟩
end

/-! ### suites -/
section
variable {Γ : Sta} {X : Cx} {suite : List Stmt} {n : Str} {p1 p2 : Pos}
/-- wrong.at, in its suite -/
theorem at_read {a dd C fI : Addr} {oe : Obj} {pn : List (Addr × Obj)} {x : Str} {σ : Sl} {H : Hp} {Q : VK} {v : V} {i : Nat} (T : ErrTxt X.prog X.K X.mg x C fI) (hz : Zc (.ref C) (some dd) oe) (hf : ∃ vs, oe.data = .fields vs) (hN : X.N.Nodup) (hi : X.N[i]? = some n)
    (hv : PE (X.suite a ((a, oe) :: pn)) (.Name n p1) (tVar i)) (hd : H dd = some (.xd [(("at" : Str), v)])) (hσ : i < σ.length → σ[i]? = some (some (.ref a))) (q : Q v H)
    (hb : attributeBase (.Name n p1) "at" X.env (eval (.Name n p1) X.env) = eval (.Name n p1) X.env := by rfl) : tE (X.suite a ((a, oe) :: pn)) (.Attribute (.Name n p1) "at" p2) σ H Q := fun pins s I => by
  have hl : i < σ.length := by rw [I.len]; exact (List.getElem?_eq_some_iff.mp hi).1
  refine attr_of hb (thn (hv.run pins s σ H (fun x H1 => x = .ref a ∧ H1 = H) I ⟨_, hσ hl, rfl, rfl⟩) fun u s1 hh => ?_)
  obtain ⟨x', H1, I1, rx, ex, eH⟩ := hh
  subst ex eH
  obtain rfl : u = Value.ref a := rx
  obtain ⟨ha, _⟩ := I1.pin (a, oe) (List.mem_append_left _ List.mem_cons_self)
  obtain ⟨vs, hfd⟩ := hf
  have hx : ObjOk X.prog X.w H1 s1.heap dd (.xd [(("at" : Str), v)]) := I1.hok dd _ hd
  obtain ⟨mA, hns, hr⟩ := hx
  obtain ⟨od, ho, hlk⟩ := lookIn_ns hns
  have l : List.lookup ("at" : Str) [(("at" : Str), v)] = some v := by simp [List.lookup]
  obtain ⟨u, hu, ru⟩ := RelO.some_of (v := v) (o := mA "at") (by rw [← l]; exact hr "at")
  have J : PySem.W.InstAt s1.heap a oe C (some od) := ⟨ha, hz.1, by unfold PySem.W.notCls; rw [hfd] <;> rfl, by rw [hz.2]; exact ho⟩
  exact HandSPX.exc_get I1.kIn J T.ga T.gg T.exC (PySem.W.findObj_own T.hdC T.noN rfl (by rw [hlk, hu])) (handed_of ru) ⟨v, H1, I1.tok _, ru, q⟩
theorem takes_no {X : Cx} : Takes X (fun _ _ _ _ => False) := fun u s' x => by
  obtain ⟨_, _, _, _, _, _, _, _, _, _, _, _, _, _, _, _, w⟩ := x
  exact w.elim
/-- a suite that does not look at the exception -/
theorem u_plain {g : GS} (h : ∀ a pn, SS3 Γ (X.suite a pn) suite g) (i : Option Nat) : SU3 Γ X i suite (fun _ => g) :=
  ⟨fun a oe pn C dd fI x F ρ s σ H D v d hz hf T S hd r hi p => (h a _).run _ F ρ s σ H D takes_no S p⟩
/-- return ('word', wrong.at) -/
def uRet (w : Str) : L3.D → GS := fun d ρ s => .ok (.rt (.tup [.str w, d])) s
theorem u_ret {i : Nat} {w : Str} {k j : Nat} {p3 p4 pos : Pos} (hN : X.N.Nodup) (hi : X.N[i]? = some n) (hv : ∀ a pn, PE (X.suite a pn) (.Name n p1) (tVar i))
    (hb : attributeBase (.Name n p1) "at" X.env (eval (.Name n p1) X.env) = eval (.Name n p1) X.env := by rfl)
    (hs : ∀ env : Env, starEach [.Constant (.str w) j p3, .Attribute (.Name n p1) "at" p2] env = (false, eval (.Constant (.str w) j p3) env) :: starEach [.Attribute (.Name n p1) "at" p2] env := by intro; rfl)
    (hs2 : ∀ env : Env, starEach [.Attribute (.Name n p1) "at" p2] env = (false, eval (.Attribute (.Name n p1) "at" p2) env) :: starEach [] env := by intro; rfl) :
    SU3 Γ X (some i) [.Return (some (.Tuple [.Constant (.str w) j p3, .Attribute (.Name n p1) "at" p2] k p4)) pos] (uRet w) :=
  ⟨fun a oe pn C dd fI x F ρ s σ H D v d hz hf T S hd r hσ p => by
    refine toSs (pss_one (ps_ret (pe_tup (pa_cons pe_str (pa_cons can_e pa_nil (hs2 _)) (hs _))))) ?_
    refine at_read (X := X) T hz hf hN hi (hv a _) hd (hσ i rfl) ?_ hb
    refine ⟨by show 2 ≤ sizeLine; rw [sizeLine_is]; decide, fun q hq => ?_⟩
    refine (S.laid hq).ends (Wx := fun _ _ _ _ => False) (.tup ⟨.inl (.inl upd_same), fun z => (S.notF hq z).elim⟩ (.cons (.str _) (.cons (r.grown S (Grow.new hq)) .nil))) ?_
    exact p⟩
/-- found.append(wrong.at) -/
def uApp (k : Nat) : L3.D → GS := fun d ρ s => match ρ[k]? with
  | some (some (.o ds)) => if ds.length < 16777216 then .ok (.nx (ρ.set k (some (.o (ds ++ [d]))))) s else .bad
  | _ => .bad
theorem u_app {i k : Nat} {y : Str} {p ap cp pos : Pos} (hN : X.N.Nodup) (hi : X.N[i]? = some n) (hv : ∀ a pn, PE (X.suite a pn) (.Name n p1) (tVar i)) (hy : ∀ a pn, PE (X.suite a pn) (.Name y p) (tVar k))
    (hb : attributeBase (.Name n p1) "at" X.env (eval (.Name n p1) X.env) = eval (.Name n p1) X.env := by rfl) (hl : (ap.endLine == cp.line) = true := by rfl)
    (hs2 : ∀ env : Env, starEach [.Attribute (.Name n p1) "at" p2] env = (false, eval (.Attribute (.Name n p1) "at" p2) env) :: starEach [] env := by intro; rfl)
    (hsw : ∀ a pn, swapsWith (.Call (.Attribute (.Name y p) "append" ap) [.Attribute (.Name n p1) "at" p2] [] cp) none pos.line (X.suite a pn).env = pure false := by intros; rfl)
    (hbase : attributeBase (.Name y p) "append" X.env (eval (.Name y p) X.env) = eval (.Name y p) X.env := by rfl) :
    SU3 Γ X (some i) [.Expr (.Call (.Attribute (.Name y p) "append" ap) [.Attribute (.Name n p1) "at" p2] [] cp) pos] (uApp k) :=
  ⟨fun a oe pn C dd fI x F ρ s σ H D v d hz hf T S hd r hσ pp => by
    refine toSs (pss_one (ps_expr (pe_bm PySem.F.plainAttrs_list PySem.F.slot_list_append PySem.F.type_list_append mt_append (hy a _) (pa_cons can_e pa_nil (hs2 _)) hbase (by rw [hs2]; rfl) hl (hs2 _) rfl) (hsw a _))) ?_
    unfold uApp at pp
    split at pp
    · rename_i ds hk
      obtain ⟨b, vs, h1, h2, h3, h4, h5, h6⟩ := S.slots k _ hk
      refine ⟨.ref b, h1, .inl ⟨rfl, vs, .inl (.inl h5)⟩, ?_⟩
      refine at_read (X := X) (Q := fun y H1 => rAppend (.ref b) [y] H1 (fun _ H2 => D.nx σ H2)) T hz hf hN hi (hv a _) hd (hσ i rfl) ?_ hb
      split at pp
      · rename_i hlt
        obtain ⟨g, S2⟩ := S.write (ws := vs ++ [v]) (es := ds ++ [d]) hk h1 (h6.append (.cons r .nil))
        exact ⟨b, vs, v, rfl, rfl, h5, by rw [sizeLine_is, h6.length]; exact hlt, pp F σ _ g (Newer.refl _ _) S2⟩
      · exact pp.elim
    · exact pp.elim⟩
end
end L3

/-! L3: the source of draws. -/
namespace L3
open PySem PySem.Spec PyProof.Rows L2

theorem fits_ints (n : Nat) : ∀ ns : List Int, D.fitsAll (n + 1) (ns.map L3.D.int) = true
  | [] => rfl
  | _ :: r => by
    show (true && D.fitsAll (n + 1) (r.map L3.D.int)) = true
    rw [fits_ints n r]; rfl
def isDeal (i : Nat) (ρ : Env3) : Bool := match ρ[i]? with | some (some (.d .deal)) => true | _ => false
def tDne (i : Nat) : GT := fun ρ s => if isDeal i ρ = true then .ok (!s.ns.isEmpty) s else .bad
def tDz (i : Nat) : GT := fun ρ s => if isDeal i ρ = true then (match s.ns.getLast? with | some n => .ok (n == 0) s | none => .bad) else .bad
def sDpop (i : Nat) : GS := fun ρ s => if isDeal i ρ = true then (match s.ns.getLast? with | some _ => .ok (.nx ρ) { s with ns := s.ns.dropLast } | none => .bad) else .bad
def eDpop (i : Nat) : G := fun ρ s => if isDeal i ρ = true then (match s.ns.getLast? with | some n => .ok (.int n) { s with ns := s.ns.dropLast } | none => .bad) else .bad
def sDapp (i : Nat) (ge : G) : GS := fun ρ s => if isDeal i ρ = true then bindS (ge ρ s) ρ (fun d s1 => match d with | .int n => if s1.ns.length < 16777216 then .ok (.nx ρ) { s1 with ns := s1.ns ++ [n] } else .bad | _ => .bad) else .bad
def eD1 (i : Nat) : G := fun ρ s => if isDeal i ρ = true then .ok (.int s.b) s else .bad
def sD1 (i : Nat) (ge : G) : GS := fun ρ s => bindS (ge ρ s) ρ fun d s1 => if isDeal i ρ = true then (match d with | .int n => .ok (.nx ρ) { s1 with b := n } | _ => .bad) else .bad
section
variable {Γ : Sta} {X : Cx} {F : Addr → Prop} {H : Hp} {ρ : Env3} {s : DS} {σ : Sl} {i : Nat}
theorem SR.dealp (S : SR Γ F ρ s σ H) (hi : isDeal i ρ = true) : ∃ p q, Γ.dl = some (p, q) ∧ σ[i]? = some (some (.ref p)) ∧ p ≠ q ∧ H p = some (.lst [V.ref q, V.int s.b]) ∧ H q = some (.lst (s.ns.map V.int)) := by
  unfold isDeal at hi
  split at hi
  · rename_i h
    obtain ⟨v, h1, h2⟩ := S.slots i _ h
    cases h2 with
    | @deal p q e =>
      have z := S.deal
      unfold DealAt at z
      rw [e] at z
      exact ⟨p, q, e, h1, z.1, z.2.1, z.2.2⟩
  · cases hi
theorem SR.putq {p q : Addr} {ns : List Int} (S : SR Γ F ρ s σ H) (e : Γ.dl = some (p, q)) (hp : p ≠ q) (h1 : H p = some (.lst [V.ref q, V.int s.b])) (h2 : H q = some (.lst (s.ns.map V.int))) :
    Grow Γ.G H (upd H q (.lst (ns.map V.int))) ∧ SR Γ F ρ { s with ns := ns } σ (upd H q (.lst (ns.map V.int))) := by
  have gq : Γ.G q := by unfold Sta.G; rw [e]; exact .inr rfl
  refine ⟨Grow.write gq, S.grown (Grow.write gq) ?_ (tabs_upd h2 S.tabs)⟩
  unfold DealAt
  rw [e]
  exact ⟨hp, by rw [upd_ne hp]; exact h1, upd_same⟩
theorem SR.putp {p q : Addr} {b : Int} (S : SR Γ F ρ s σ H) (e : Γ.dl = some (p, q)) (hp : p ≠ q) (h1 : H p = some (.lst [V.ref q, V.int s.b])) (h2 : H q = some (.lst (s.ns.map V.int))) :
    Grow Γ.G H (upd H p (.lst [V.ref q, V.int b])) ∧ SR Γ F ρ { s with b := b } σ (upd H p (.lst [V.ref q, V.int b])) := by
  have gp : Γ.G p := by unfold Sta.G; rw [e]; exact .inl rfl
  refine ⟨Grow.write gp, S.grown (Grow.write gp) ?_ (tabs_upd h1 S.tabs)⟩
  unfold DealAt
  rw [e]
  exact ⟨hp, upd_same, by rw [upd_ne (Ne.symm hp)]; exact h2⟩
variable {d : Str} {p1 p2 p3 p4 p5 p6 p7 pos : Pos} {j j2 j3 : Nat}
/-- deal[0] -/
theorem d0_run {Q : VK} {p q : Addr} (hv : PE X (.Name d p1) (tVar i)) (h0 : σ[i]? = some (some (.ref p))) (h1 : H p = some (.lst [V.ref q, V.int s.b])) (k : Q (.ref q) H) : tE X (.Subscript (.Name d p1) (.Constant (.int 0) j p2) p3) σ H Q :=
  toE (pe_ix ix_seq hv pe_int (by intro _ _; rfl)) ⟨_, h0, .inl ⟨p, _, 0, .ref q, rfl, rfl, .inl (.inl h1), rfl, k⟩⟩
theorem d1_run {Q : VK} {p q : Addr} (hv : PE X (.Name d p1) (tVar i)) (h0 : σ[i]? = some (some (.ref p))) (h1 : H p = some (.lst [V.ref q, V.int s.b])) (k : Q (.int s.b) H) : tE X (.Subscript (.Name d p1) (.Constant (.int 1) j p2) p3) σ H Q :=
  toE (pe_ix ix_seq hv pe_int (by intro _ _; rfl)) ⟨_, h0, .inl ⟨p, _, 1, .int s.b, rfl, rfl, .inl (.inl h1), rfl, k⟩⟩
/-- deal[0] != [] -/
theorem t_dne {k : Nat} (hr : Room k X.A) (hv : PE X (.Name d p1) (tVar i)) : T3 Γ X (.Compare (.Subscript (.Name d p1) (.Constant (.int 0) j p2) p3) [.NotEq] [.List [] p4] p5) (tDne i) :=
  ⟨fun Wx F ρ s σ H Q tk S pp pins sh I => by
    unfold tDne at pp
    split at pp
    · rename_i hi
      obtain ⟨p, q, e, h0, hp, h1, h2⟩ := S.dealp hi
      have hh : tE X (.Subscript (.Name d p1) (.Constant (.int 0) j p2) p3) σ H fun x H1 => tE X (.List [] p4) σ H1 fun y H2 => ∀ pins sh v u, Inv X pins σ H2 sh → L2.RelV x v → L2.RelV y u → wpAny (model X.prog X.w) X.A (compareOp .NotEq v u) (EP X pins σ fun z H3 => ∃ k, z = .bl k ∧ Q k H3) X.xe sh := by
        refine d0_run (s := s) hv h0 h1 (toE (pe_lst pa_nil) ⟨Nat.zero_le _, fun l hl => ?_⟩)
        intro pins sh v u I rx ry
        have f1 : D.fits 64 (.lst (s.ns.map L3.D.int)) = true := fits_ints 63 _
        have f2 : D.fits 64 (.lst []) = true := rfl
        have hq : upd H l (.lst []) q = some (.lst (s.ns.map V.int)) := by rw [upd_ne (ne_of_none h2 hl)]; exact h2
        refine op_neD hr.units pins sh σ _ (.ref q) (.ref l) v u _ I rx ry ⟨D.py (.lst (s.ns.map L3.D.int)), D.py (.lst []), .lst (.inl (.inl hq)) ((reps_ints (Γ := { Γ with K := X.K }) (F := F) s.ns).dp (fits_ints 0 _)), .lst (.inl (.inl upd_same)) .nil, fits_shaped f1, fits_shaped f2, ?_⟩
        rw [eqv_py 64 _ _ f1 f2]
        have eb : (!D.eqv (.lst (s.ns.map L3.D.int)) (.lst [])) = !s.ns.isEmpty := by
          cases s.ns with
          | nil => rfl
          | cons a r => rfl
        rw [eb]
        exact ⟨_, rfl, pp _ _ (Grow.new hl) (S.laid hl) rfl⟩
      refine wpAny_isTrue_Compare1 (binT can_e can_e I hh fun v u s2 x y H2 I2 rx ry q => thn (q pins s2 v u I2 rx ry) fun c s3 ⟨z, H3, I3, r3, k, e, q3⟩ => ?_) rfl
      subst e
      cases r3
      exact wpAny_truthy_bool ⟨H3, I3, q3⟩
    · exact pp.elim⟩
/-- deal[0][-1] == 0 -/
theorem t_dz {k : Nat} (hr : Room k X.A) (hv : PE X (.Name d p1) (tVar i)) : T3 Γ X (.Compare (.Subscript (.Subscript (.Name d p1) (.Constant (.int 0) j p2) p3) (.UnaryOp .USub (.Constant (.int 1) j2 p4) p5) p6) [.Eq] [.Constant (.int 0) j3 p7] pos) (tDz i) :=
  ⟨fun Wx F ρ s σ H Q tk S pp pins sh I => by
    unfold tDz at pp
    split at pp
    · rename_i hi
      split at pp
      · rename_i n hn
        obtain ⟨p, q, e, h0, hp, h1, h2⟩ := S.dealp hi
        have hh : tE X (.Subscript (.Subscript (.Name d p1) (.Constant (.int 0) j p2) p3) (.UnaryOp .USub (.Constant (.int 1) j2 p4) p5) p6) σ H fun x H1 => tE X (.Constant (.int 0) j3 p7) σ H1 fun y H2 => ∀ pins sh v u, Inv X pins σ H2 sh → L2.RelV x v → L2.RelV y u → wpAny (model X.prog X.w) X.A (compareOp .Eq v u) (EP X pins σ fun z H3 => ∃ k, z = .bl k ∧ Q k H3) X.xe sh := by
          have hat : L2.atI (s.ns.map V.int) (-1) = some (.int n) := by
            have h9 := hn
            rw [List.getLast?_eq_getElem?] at h9
            have hl9 := (List.getElem?_eq_some_iff.mp h9).1
            unfold L2.atI
            have e9 : ixN (s.ns.map V.int).length (-1) = some (s.ns.length - 1) := by
              unfold ixN
              rw [List.length_map, if_neg (by omega), if_pos (by omega)]
              congr 1
              omega
            rw [e9]
            show (s.ns.map V.int)[s.ns.length - 1]? = _
            rw [List.getElem?_map, h9]; rfl
          refine toE (pe_ix ix_seq (can_e (X := X)) (pe_un un_neg pe_int) (by intro _ _; rfl)) (d0_run (s := s) hv h0 h1 ⟨1, rfl, .inl ⟨q, _, -1, .int n, rfl, rfl, .inl (.inl h2), hat, ?_⟩⟩)
          refine toE pe_int ?_
          intro pins sh v u I rx ry
          refine op_eqD hr.units pins sh σ _ (.int n) (.int 0) v u _ I rx ry ⟨.int n, .int 0, .int n, .int 0, rfl, rfl, ?_⟩
          exact ⟨_, rfl, pp _ _ (Grow.refl _ _) S rfl⟩
        refine wpAny_isTrue_Compare1 (binT can_e can_e I hh fun v u s2 x y H2 I2 rx ry q => thn (q pins s2 v u I2 rx ry) fun c s3 ⟨z, H3, I3, r3, k, e, q3⟩ => ?_) rfl
        subst e
        cases r3
        exact wpAny_truthy_bool ⟨H3, I3, q3⟩
      · exact pp.elim
    · exact pp.elim⟩

theorem last_at {n : Int} {ns : List Int} (hn : ns.getLast? = some n) : (ns.map V.int)[(ns.map V.int).length - 1]? = some (.int n) := by
  rw [List.getLast?_eq_getElem?] at hn
  rw [List.length_map, List.getElem?_map, hn]; rfl
/-- deal[0].pop() -/
theorem e_dpop (hv : PE X (.Name d p1) (tVar i)) (hl : (p4.endLine == p5.line) = true := by rfl)
    (hbase : attributeBase (.Subscript (.Name d p1) (.Constant (.int 0) j p2) p3) "pop" X.env (eval (.Subscript (.Name d p1) (.Constant (.int 0) j p2) p3) X.env) = eval (.Subscript (.Name d p1) (.Constant (.int 0) j p2) p3) X.env := by rfl) :
    E3 Γ X (.Call (.Attribute (.Subscript (.Name d p1) (.Constant (.int 0) j p2) p3) "pop" p4) [] [] p5) (eDpop i) :=
  ⟨fun Wx F ρ s σ H Q tk S pp => toE (pe_bm0 PySem.F.plainAttrs_list PySem.F.slot_list_pop PySem.F.type_list_pop mt_pop can_e hbase hl) (by
    unfold eDpop at pp
    split at pp
    · rename_i hi
      split at pp
      · rename_i n hn
        obtain ⟨p, q, e, h0, hp, h1, h2⟩ := S.dealp hi
        refine d0_run (s := s) (Q := fun x H1 => tyV X.K "list" x H1 ∧ rPop x [] H1 Q) hv h0 h1 ⟨.inl ⟨rfl, _, .inl (.inl h2)⟩, q, _, .int n, rfl, rfl, h2, last_at hn, ?_⟩
        obtain ⟨g, S1⟩ := S.putq (ns := s.ns.dropLast) e hp h1 h2
        rw [List.map_dropLast] at g S1
        exact pp _ _ g S1 (.int n)
      · exact pp.elim
    · exact pp.elim)⟩
/-- deal[0].append(e) -/
theorem s_dapp {e : Expr} {ge : G} (hv : PE X (.Name d p1) (tVar i)) (he : E3 Γ X e ge) (hl : (p4.endLine == p5.line) = true := by rfl)
    (hs : starEach [e] X.env = (false, eval e X.env) :: starEach [] X.env := by rfl) (hsw : swapsWith (.Call (.Attribute (.Subscript (.Name d p1) (.Constant (.int 0) j p2) p3) "append" p4) [e] [] p5) none pos.line X.env = pure false := by rfl)
    (hbase : attributeBase (.Subscript (.Name d p1) (.Constant (.int 0) j p2) p3) "append" X.env (eval (.Subscript (.Name d p1) (.Constant (.int 0) j p2) p3) X.env) = eval (.Subscript (.Name d p1) (.Constant (.int 0) j p2) p3) X.env := by rfl) :
    S3 Γ X (.Expr (.Call (.Attribute (.Subscript (.Name d p1) (.Constant (.int 0) j p2) p3) "append" p4) [e] [] p5) pos) (sDapp i ge) :=
  ⟨fun Wx F ρ s σ H D tk S pp => toS (ps_expr (pe_bm PySem.F.plainAttrs_list PySem.F.slot_list_append PySem.F.type_list_append mt_append can_e (pa_cons can_e pa_nil hs) hbase (by rw [hs]; rfl) hl hs rfl) hsw) (by
    unfold sDapp at pp
    split at pp
    · rename_i hi
      obtain ⟨p, q, e, h0, hp, h1, h2⟩ := S.dealp hi
      refine d0_run (s := s) (Q := fun x H1 => tyV X.K "list" x H1 ∧ tCons (tE X _) tNil σ H1 fun xs H2 => rAppend x xs H2 fun _ H3 => D.nx σ H3) hv h0 h1 ⟨.inl ⟨rfl, _, .inl (.inl h2)⟩, ?_⟩
      refine he.run Wx F ρ s σ H (fun y H1 => rAppend (.ref q) [y] H1 (fun _ H2 => D.nx σ H2)) tk S (pp.bind S fun d s1 v H1 g1 S1 r1 p1 => ?_)
      obtain ⟨p', q', e', h0', hp', h1', h2'⟩ := S1.dealp hi
      rw [e] at e'
      cases e'
      split at p1
      · split at p1
        · rename_i n hlt
          cases r1
          obtain ⟨g, S2⟩ := S1.putq (ns := s1.ns ++ [n]) e hp h1' h2'
          rw [List.map_append] at g S2
          exact ⟨q, _, _, rfl, rfl, h2', by rw [sizeLine_is, List.length_map]; exact hlt, p1 F σ _ (S1.gF g) (Newer.refl _ _) S2⟩
        · exact p1.elim
      · exact p1.elim
    · exact pp.elim)⟩
/-- deal[1] -/
theorem e_d1 (hv : PE X (.Name d p1) (tVar i)) : E3 Γ X (.Subscript (.Name d p1) (.Constant (.int 1) j p2) p3) (eD1 i) :=
  ⟨fun Wx F ρ s σ H Q tk S pp => by
    unfold eD1 at pp
    split at pp
    · rename_i hi
      obtain ⟨p, q, e, h0, hp, h1, h2⟩ := S.dealp hi
      exact d1_run (s := s) hv h0 h1 (pp.val S (.int _))
    · exact pp.elim⟩
/-- deal[1] = e -/
theorem s_d1 {e : Expr} {ge : G} (hv : PE X (.Name d p1) (tVar i)) (he : E3 Γ X e ge) (hsw : swapsWithSole [.Subscript (.Name d p1) (.Constant (.int 1) j p2) p3] e pos.line X.env = pure false := by rfl)
    (hw : swappedStores [.Subscript (.Name d p1) (.Constant (.int 1) j p2) p3] e X.env = pure none := by rfl)
    (h9 : (assignEach [.Subscript (.Name d p1) (.Constant (.int 1) j p2) p3] X.env).map (·.2) = [assign (.Subscript (.Name d p1) (.Constant (.int 1) j p2) p3) X.env] := by rfl) :
    S3 Γ X (.Assign [.Subscript (.Name d p1) (.Constant (.int 1) j p2) p3] e pos) (sD1 i ge) :=
  ⟨fun Wx F ρ s σ H D tk S pp => toS (ps_asg can_e (pg_sub hv pe_int set_list) hsw hw h9) (he.run Wx F ρ s σ H _ tk S (pp.bind S fun d s1 v H1 g1 S1 r1 p1 => by
    split at p1
    · rename_i hi
      split at p1
      · rename_i n
        cases r1
        obtain ⟨p, q, e, h0, hp, h1, h2⟩ := S1.dealp hi
        obtain ⟨g, S2⟩ := S1.putp (b := n) e hp h1 h2
        exact ⟨.ref p, h0, p, _, 1, 1, rfl, rfl, h1, rfl, p1 F σ _ (S1.gF g) (Newer.refl _ _) S2⟩
      · exact p1.elim
    · exact p1.elim))⟩
end
end L3

/-! L3: the law's own def. -/
namespace L3
open PySem PySem.Spec PyProof.Rows L2

def lawEnv (N : Nat) : Env3 := (List.replicate N none).set 1 (some (.d .deal))
def spLaw (K : PySem.W.Frag) (T : List (Addr × Str)) (I : Hp → Prop) : Sp := fun vs H Q _ => ∃ (a : Addr) (ns : List Int), vs = [V.ref a] ∧ SqL K H a (ns.map V.int) ∧ ns.length ≤ 63 ∧ LamX.Tabs T H ∧ ∀ H', Q (.bl true) H'
def dealOf (ns : List Int) (b : Int) : D := .lst [.lst (ns.map D.int), .int b]
theorem reps_ints_inv {Γ : Sta} {F : Addr → Prop} {H : Hp} : ∀ {vs : List V} {ns : List Int}, Reps Γ F H vs (ns.map D.int) → vs = ns.map V.int
  | [], [], .nil => rfl
  | _ :: _, n :: r, .cons (.int _) t => congrArg (V.int n :: ·) (reps_ints_inv t)
section
variable {P : Program} {w : World} {K : PySem.W.Frag} {mg : Str → Option Value} {base : Heap}
theorem law3 {x qual : Str} {st st1 : Stmt} {rest : List Stmt} {f : Addr} {fd : FuncData} {N ps : List Str} {k : Nat} {T : List (Addr × Str)} {I : Hp → Prop} {gd : G} {b : GS} {cells : List Int → List Int} {blend : List Int → Int} (Fn : Fun K x qual st f fd) (S : FnScope N ps (defScope st)) (hn : ps.length = 1) (hN : 2 ≤ N.length)
    (hbody : defBody st = st1 :: rest)
    (h1 : ∀ (cdv : Value) (A : Around) (outer : List Env) (s : Shared) (H : Hp) (E : XK) (Γ : Sta), Room k (A.deeper (envOfC qual (defScope st) s.heap.objs.size f cdv)) → Here Γ (bodyCx P w K mg base N qual st f cdv A outer s H E) → Γ.T = T → fd.code = cdv → S3 Γ (bodyCx P w K mg base N qual st f cdv A outer s H E) st1 (sAsg (hName 1) gd))
    (hgd : ∀ ns, gd (argsE N.length [.scr ns]) ⟨[], 0⟩ = .ok (dealOf (cells ns) (blend ns)) ⟨[], 0⟩)
    (h2 : ∀ (cdv : Value) (A : Around) (outer : List Env) (s : Shared) (H : Hp) (E : XK) (Γ : Sta), Room k (A.deeper (envOfC qual (defScope st) s.heap.objs.size f cdv)) → Here Γ (bodyCx P w K mg base N qual st f cdv A outer s H E) → Γ.T = T → fd.code = cdv → SS3 Γ (bodyCx P w K mg base N qual st f cdv A outer s H E) rest b)
    (hlaw : ∀ ns : List Int, ns.length ≤ 63 → ∃ s', b (lawEnv N.length) ⟨cells ns, blend ns⟩ = .ok (.rt (.bl true)) s') :
    FnOk P w K mg base (L2.CX P w) (k + 1) f fd ps (spLaw K T I) := by
  refine okC Fn S (fun vs H Q E h => by obtain ⟨a, ns, rfl, _⟩ := h; rw [hn]; rfl) fun cdv A outer s H vs Q E hcd hr h => ?_
  obtain ⟨a, ns, rfl, hS, hlen, hT, hq⟩ := h
  refine ⟨_, can_ss, ?_⟩
  rw [hbody]
  refine toSs (pss_cons can_s can_ss) ?_
  have nf : ∀ c : Addr, ¬ (fun _ : Addr => False) c := fun c h => h
  have r0 : Reps (⟨K, mg, none, fun _ => False, H, T⟩ : Sta) (fun _ => False) H [V.ref a] [.scr ns] := .cons (.scr (by
    rcases hS with h | h
    · exact .inl ⟨h, fun z => z⟩
    · exact .inr h)) .nil
  have S0 : SR (⟨K, mg, none, fun _ => False, H, T⟩ : Sta) (fun _ => False) (argsE N.length [.scr ns]) ⟨[], 0⟩ (L2.start N [V.ref a]) H :=
    { grow := Grow.refl _ _, sub := fun _ h => h, gsub := fun _ h => h.elim, fresh := fun _ h => h.elim, alloc := fun _ h => h.elim, deal := trivial, tabs := hT
      slots := fun i b e => by
        obtain ⟨d, v, rfl, h1, h2⟩ := start_args r0 e
        exact ⟨v, h1, h2⟩
      inj := fun i j xs ys a e1 _ _ _ => by
        obtain ⟨d, v, h, _⟩ := start_args r0 e1
        cases h }
  refine (h1 cdv A outer s H E ⟨K, mg, none, fun _ => False, H, T⟩ hr ⟨rfl, rfl⟩ rfl hcd).run (fun cls d _ H' => E cls d H') (fun _ => False) (argsE N.length [.scr ns]) ⟨[], 0⟩ _ H _ (takes_of rfl rfl rfl rfl) S0 ?_
  unfold sAsg
  rw [hgd ns]
  intro F' σ' H' g n S'
  have hl1 : 1 < (argsE N.length [.scr ns]).length := by
    unfold argsE
    rw [List.length_append, List.length_map, List.length_replicate]
    simp only [List.length_cons, List.length_nil]
    omega
  obtain ⟨v, hv, rv⟩ := S'.slots 1 (.d (dealOf (cells ns) (blend ns))) (by rw [List.getElem?_set_self hl1])
  unfold dealOf at rv
  cases rv with
  | @lst p vs _ hp rp =>
    cases rp with
    | cons rq rr =>
      cases rr with
      | cons rb rn =>
        cases rn
        cases rb
        cases rq with
        | @lst q us _ hqq ru =>
          have eu := reps_ints_inv ru
          subst eu
          have pq : p ≠ q := fun z => by
            have e := hqq.1
            rw [← z, hp.1] at e
            cases hc : cells ns with
            | nil => rw [hc] at e; cases e
            | cons c r => rw [hc] at e; cases e
          refine (h2 cdv A outer s H E ⟨K, mg, some (p, q), fun c => c = p ∨ c = q, H', T⟩ hr ⟨rfl, rfl⟩ rfl hcd).run (fun cls d _ H' => E cls d H') (fun c => c = p ∨ c = q) (lawEnv N.length) ⟨cells ns, blend ns⟩ _ H' _ (takes_of rfl rfl rfl rfl)
            { grow := Grow.refl _ _, sub := fun _ h => h, gsub := fun _ h => h, fresh := fun _ h => .inl h
              alloc := fun c h => by
                rcases h with rfl | rfl
                · exact ⟨_, hp.1⟩
                · exact ⟨_, hqq.1⟩
              deal := ⟨pq, hp.1, hqq.1⟩, tabs := S'.tabs
              slots := fun i b e => by
                unfold lawEnv at e
                rcases set_cases e with ⟨rfl, _, e2⟩ | ⟨ne, e⟩
                · cases e2
                  exact ⟨.ref p, hv, .deal rfl⟩
                · obtain ⟨h3, h4⟩ := List.getElem?_eq_some_iff.mp e
                  rw [List.getElem_replicate] at h4; cases h4
              inj := fun i j xs ys c e _ _ _ => by
                unfold lawEnv at e
                rcases set_cases e with ⟨rfl, _, e2⟩ | ⟨ne, e⟩
                · cases e2
                · obtain ⟨h3, h4⟩ := List.getElem?_eq_some_iff.mp e
                  rw [List.getElem_replicate] at h4; cases h4 } ?_
          obtain ⟨s', hb⟩ := hlaw ns hlen
          rw [hb]
          intro v H2 _ _ _ rv
          cases rv
          exact hq H2
end
end L3

/-! L3: enumerate over tuples and lists. -/
namespace L3
open PySem PySem.Spec PyProof.Rows L2 PySem.W

set_option maxHeartbeats 1000000 in
theorem meets_enum1 {v : Value} {o : Obj} {Hh : Heap → Prop} (B : Begins v o Hh) :
    Meets (Builtin.«enumerate.__new__» ⟨[.type "enumerate", v], []⟩) (fun _ R s => Hh s.heap ∧
      R (.ok (.ret (.ref (s.heap.push o).objs.size))) { s with heap := (s.heap.push o).push { cls := .type "enumerate", data := .fields #[.none, .bool false, .ref s.heap.objs.size, rawInt 0, .none, .none] } }) :=
  .of_wp fun prog w A R s h => by
    obtain ⟨hp, g, d, tk, os⟩ := s; obtain ⟨h1, h⟩ := h
    have hsub := sub_enumerate
    have q1 : ∀ {A' : Around} {E : Value → Shared → Prop} {Q : Value → Shared → Prop}, Q (.ref hp.objs.size) ⟨hp.push o, g, d, tk, os⟩ → wpAny (model prog w) A' (pyIter v) Q E ⟨hp, g, d, tk, os⟩ :=
      fun q => B.iter prog w _ _ ⟨hp, g, d, tk, os⟩ _ h1 q
    wp_walk using q1
    refine wpAny_stack_any fun st => wpAny_pure ?_
    split
    · rename_i c _ _ _ _ _
      cases (c == Value.type "enumerate")
      · wp_walk using q1
        exact ⟨_, rfl, h⟩
      · wp_walk using q1
        exact ⟨_, rfl, h⟩
    · wp_walk using q1
      exact ⟨_, rfl, h⟩
theorem call_enumB {prog : Program} {w : World} {A : Around} {E : Value → Shared → Prop} {s : Shared} {v : Value} {o : Obj} {Hh : Heap → Prop} {Q : Value → Shared → Prop} (B : Begins v o Hh) (h1 : Hh s.heap)
    (h : ∀ h', IsEnum h' (s.heap.objs.size + 1) s.heap.objs.size 0 .none → h'.get? s.heap.objs.size = some o → h'.objs.size = s.heap.objs.size + 2 →
      (∀ b o, s.heap.get? b = some o → h'.get? b = some o) → Q (.ref (s.heap.objs.size + 1)) { s with heap := h' }) :
    wpAny (model prog w) A (call (.type "enumerate") [v]) Q E s := by
  refine callType_new F.called_enumerate (by decide) (F.typeCall_enumerate_1 _) (F.newCall_enumerate_1 _) (fun obj => F.args_object_init_2 obj _) F.entry_enumerate_new (meets_enum1 B) ⟨h1, ?_⟩
  have hz : (s.heap.push o).objs.size = s.heap.objs.size + 1 := Heap.size_push ..
  show _ ∧ _
  rw [hz]
  have he : IsEnum ((s.heap.push o).push { cls := .type "enumerate", data := .fields #[.none, .bool false, .ref s.heap.objs.size, rawInt 0, .none, .none] }) (s.heap.objs.size + 1) s.heap.objs.size 0 .none := by
    have := Heap.get?_push_size (s.heap.push o) (o := { cls := .type "enumerate", data := .fields #[.none, .bool false, .ref s.heap.objs.size, rawInt 0, .none, .none] }) rfl
    rw [hz] at this; exact this
  refine ⟨⟨_, he, rfl⟩, h _ he (Heap.get?_push_of_some _ (Heap.get?_push_size _ B.free)) (by rw [Heap.size_push, hz]) fun b o x => Heap.get?_push_of_some _ (Heap.get?_push_of_some _ x)⟩
/-- the tuple at a, each item in a new pair with its place -/
def IteT (K : PySem.W.Frag) (a : Addr) : It :=
  ⟨fun i H => ∃ (xs : List V) (x : V), SqT K H a xs ∧ xs[i]? = some x, fun i H v H' => ∃ T x, v = .ref T ∧ H T = none ∧ H' = upd H T (.tup [.int (i : Nat), x]) ∧ ∀ xs, SqT K H a xs → xs[i]? = some x, fun i H => ∃ xs : List V, SqT K H a xs ∧ xs.length = i⟩
theorem turn_enumT {P : Program} {w : World} {K : PySem.W.Frag} {elts : List Expr} {kk : Nat} {tpos : Pos} (a e it : Addr) (nia : a ≠ it) (nea : e ≠ a) :
    Turn P w K (.Tuple elts kk tpos) (IteT K a) [e, it] e (fun i h => (∃ old, IsEnum h e it ((i : Nat) : Int) old) ∧ h.IsTupleIter it a i ∧ e ≠ it) where
  mem := by simp
  obj := fun i h st b hb => by
    obtain ⟨⟨old, he⟩, ⟨o, ho, hc, hd⟩, _⟩ := st
    have e' : b = e ∨ b = it := by simpa using hb
    rcases e' with z | z
    · rw [z]; exact ⟨_, he, fun v q => nomatch q⟩
    · rw [z]; exact ⟨o, ho, fun v q => by rw [hd] at q; cases q⟩
  keep := fun i h h' st k => let ⟨⟨old, he⟩, hi, hne⟩ := st; ⟨⟨old, k e (by simp) _ he⟩, hi.at fun o q => k it (by simp) o q, hne⟩
  item := by
    intro X hP hw hK hc i pins s σ H E I hf st hg
    subst hP hw hK
    obtain ⟨⟨old, he⟩, hit, hne⟩ := st
    obtain ⟨xs, x, hq, hx⟩ := hg
    obtain ⟨its, rv, p, hz⟩ := I.tuple hq
    obtain ⟨u, hu, ru⟩ := rv.get hx
    have hel : e < s.heap.objs.size := Heap.lt_size he
    have hil : it < s.heap.objs.size := by obtain ⟨_, q, _⟩ := hit; exact Heap.lt_size q
    have hu' : its.toArray[i]? = some u := by simpa using hu
    have hlt : i < its.toArray.size := (Array.getElem?_eq_some_iff.mp hu').1
    refine wpAny_pyNext_enum_itemC (Draws.tuple (show X.A.in1.handled = none from I.ok.hd hc) it a nia its.toArray) he ⟨hit, p⟩ hlt hne (by simp [hne, nea]) fun x' h' tk hx' ho hst hT hsz hk => ?_
    have ex : x' = u := by rw [hu'] at hx'; exact (Option.some.inj hx').symm
    subst ex
    refine ⟨_, rfl, wpAny_letOwnedTupleGo_enum (s := { s with heap := h', toks := tk + 1 }) ho fun h'' he' sb => ?_⟩
    have hT2 : h''.get? s.heap.objs.size = some { cls := .type "tuple", data := .seq #[.int i tk, x'] } := (sb.2 _ (Nat.ne_of_gt hel)).trans hT
    have new : ObjOk X.prog X.w (upd H s.heap.objs.size (.tup [.int (i : Nat), x])) h'' s.heap.objs.size (.tup [.int (i : Nat), x]) :=
      ⟨by show 2 ≤ sizeLine; decide, [.int i tk, x'], .cons ⟨_, rfl⟩ (.cons ru .nil), ⟨_, hT2, rfl, _, rfl⟩⟩
    have I1 : Inv X pins σ (upd H s.heap.objs.size (.tup [.int (i : Nat), x])) { s with heap := h'', toks := tk + 1 } :=
      I.turnedNew (ch := [e, it]) (fun b ob hb q => (sb.2 b (fun z => hb (by simp [z]))).trans (hk b ob (fun z => hb (by simp [z])) (fun z => hb (by simp [z])) q)) hf (Nat.le_refl _) new
    refine ⟨.ref s.heap.objs.size, _, I1, rfl, ⟨_, x, rfl, I.hok.fresh (Nat.le_refl _), rfl, fun ys hy => by rw [I.tuple_inj hy hq]; exact hx⟩, ⟨⟨x', ?_⟩, hst.1.at fun o q => (sb.2 it (Ne.symm hne)).trans q, hne⟩, fun b hb => ?_⟩
    · have e1 : ((i + 1 : Nat) : Int) = (i : Int) + 1 := by omega
      rw [e1]; exact he'
    · have hb' : b < s.heap.objs.size := by
        have e' : b = e ∨ b = it := by simpa using hb
        rcases e' with z | z
        · rw [z]; exact hel
        · rw [z]; exact hil
      rw [upd_ne (Nat.ne_of_lt hb')]
      exact (hf b hb).1
  done := by
    intro X hP hw hK hc i pins s σ H E I hf st hg
    subst hP hw hK
    obtain ⟨⟨old, he⟩, hit, hne⟩ := st
    obtain ⟨xs, hq, hx⟩ := hg
    obtain ⟨its, rv, p, hz⟩ := I.tuple hq
    obtain ⟨f0, f1, f2, f3, f4, f5⟩ := hf it (by simp)
    have hl := rv.length
    have hi : i = its.toArray.size := by simp; omega
    subst hi
    exact wpAny_pyNext_enum_endD (Draws.tuple (show X.A.in1.handled = none from I.ok.hd hc) it a nia its.toArray) he ⟨hit, p⟩ fun h' eb => ⟨rfl, I.turned (t' := s.toks) (fun b o hb q => eb b o hb q) f0 f1 f3 f4 f5⟩
  self := fun A i s Q E st h => let ⟨⟨_, he⟩, _⟩ := st; wpAny_pyIter_enum he h

theorem it_at {h : Heap} {it a : Addr} (q : h.get? it = some { cls := .type "tuple_iterator", data := .fields #[.ref a, .int 0 0] }) : h.IsTupleIter it a 0 := ⟨_, q, rfl, rfl⟩
theorem li_at {h : Heap} {it a : Addr} (q : h.get? it = some { cls := .type "list_iterator", data := .fields #[.ref a, .int 0 0] }) : h.IsListIter it a 0 := ⟨_, q, rfl, rfl⟩
def iEnumA (K : PySem.W.Frag) (ta : TA) : TI := fun σ H R => ta σ H fun vs H1 => ∃ a xs, vs = [.ref a] ∧ ((SqL K H1 a xs ∧ R (Ite K a) H1) ∨ (SqT K H1 a xs ∧ R (IteT K a) H1))
theorem pi_enumA {X : Cx} {e : Expr} {ta : TA} {p pos tpos : Pos} {elts : List Expr} {kk : Nat} (hg : Gl X "enumerate") (hm : X.mg "enumerate" = none) (ha : PA X [e] ta) (hs : starEach [e] X.env = [(false, eval e X.env)] := by rfl) :
    PI X (.Tuple elts kk tpos) (.Call (.Name "enumerate" p) [e] [] pos) (iEnumA X.K ta) := by
  refine ⟨fun pins s σ H R I h => ?_⟩
  refine Call_ (ld_blt I hg hm boot_enumerate (PyProof.Rows.callWith_type1 (thn (ha.run pos pins s σ H _ I h) fun us s1 ⟨vs, H1, I1, r1, q1⟩ => ?_) hs rfl))
  obtain ⟨a, xs, ex, q1⟩ := q1
  subst ex
  cases r1 with
  | cons r rr =>
    cases rr
    cases r
    have fr : ∀ b ∈ [s1.heap.objs.size + 1, s1.heap.objs.size], FpOk X pins H1 b := fun b hb => by
      have e' : b = s1.heap.objs.size + 1 ∨ b = s1.heap.objs.size := by simpa using hb
      have hle : s1.heap.objs.size ≤ b := by
        rcases e' with z | z
        · rw [z]; exact Nat.le_add_right _ _
        · rw [z]; exact Nat.le_refl _
      exact I1.fpOk hle (I1.hok.fresh hle)
    rcases q1 with ⟨hq, q⟩ | ⟨hq, q⟩
    · obtain ⟨its, rv, p', hz⟩ := I1.list hq
      refine call_enumB (begins_list a its.toArray) p'.isList fun h' he hit hsz hk => wpAny_pyIter_enum he ?_
      have I2 : Inv X pins σ H1 { s1 with heap := h' } := I1.kept (t' := s1.toks) hk
      exact ⟨s1.heap.objs.size + 1, [s1.heap.objs.size + 1, s1.heap.objs.size], _, _, H1, rfl, I2, turn_enum a (s1.heap.objs.size + 1) s1.heap.objs.size, ⟨⟨.none, he⟩, li_at hit, Nat.succ_ne_self _⟩, fr, q⟩
    · obtain ⟨its, rv, p', hz⟩ := I1.tuple hq
      obtain ⟨o1, ho1, _⟩ := id p'
      have hla : a < s1.heap.objs.size := Heap.lt_size ho1
      refine call_enumB (begins_tuple a its.toArray) (show s1.heap.IsTuple a its.toArray from p') fun h' he hit hsz hk => wpAny_pyIter_enum he ?_
      have I2 : Inv X pins σ H1 { s1 with heap := h' } := I1.kept (t' := s1.toks) hk
      exact ⟨s1.heap.objs.size + 1, [s1.heap.objs.size + 1, s1.heap.objs.size], _, _, H1, rfl, I2, turn_enumT a (s1.heap.objs.size + 1) s1.heap.objs.size (Nat.ne_of_lt hla) (Nat.ne_of_gt (Nat.lt_succ_of_lt hla)), ⟨⟨.none, he⟩, it_at hit, Nat.succ_ne_self _⟩, fr, q⟩
section
variable {Γ : Sta} {Wr F F' : Addr → Prop} {H1 H' : Hp}
theorem w3_enumT {a : Addr} {vs : List V} {ds : List L3.D} (hw : ∀ a, Wr a → F a) (e1 : NdT Γ.K F H1 a vs) (r1 : Reps Γ F H1 vs ds) (hl : vs.length ≤ 16777216) : W3 Γ Wr F (IteT Γ.K a) H1 (enumD ds) where
  len := by rw [enumD_len, ← r1.length]; exact hl
  goes := fun i F' H' g n h => by
    rw [enumD_len, ← r1.length] at h
    exact ⟨vs, vs[i], (e1.mono (g.mono hw) n).1, List.getElem?_eq_getElem h⟩
  stops := fun F' H' g n => by
    rw [enumD_len, ← r1.length]
    exact ⟨vs, (e1.mono (g.mono hw) n).1, rfl⟩
  yields := fun i F' H' x H2 g nw al h y => by
    rw [enumD_len, ← r1.length] at h
    obtain ⟨T, u, rfl, hT, rfl, hx⟩ := y
    have hy := hx vs (e1.mono (g.mono hw) nw).1
    obtain ⟨d, h1, h2⟩ := r1.getV hy
    have hi := rngD_get (lo := 0) (n := ds.length) (i := i) (by rw [← r1.length]; exact h)
    rw [Int.zero_add] at hi
    exact ⟨.inr ⟨T, _, hT, rfl⟩, _, zipD_get hi h1, pair_new al hT (.int _) (h2.mono (g.mono hw) nw)⟩
end
section
variable {b : Bool} {Γ : Sta} {X : Cx} {e : Expr} {elts : List Expr} {kk : Nat} {gl : GL} {pos p tpos : Pos}
theorem i_enumW (hK : Γ.K = X.K) (hg : Gl X "enumerate") (hm : X.mg "enumerate" = none) (ha : AW3 Γ X [e] gl) (hs : starEach [e] X.env = [(false, eval e X.env)] := by rfl) :
    I3 false Γ X (.Tuple elts kk tpos) (.Call (.Name "enumerate" p) [e] [] pos) (iEnum3 gl) :=
  ⟨fun Wx F ρ s σ H R tk S pp => toI (pi_enumA hg hm can_a hs) (tA_inv (ha.run Wx F ρ s σ H _ tk S (pp.bind fun vs s1 us H1 g1 S1 r1 p1 hI => by
    split at p1
    · cases r1 with
      | cons q1 t =>
        cases t
        obtain ⟨a, vs, rfl, h1, h2, h3⟩ := relW S1 q1
        exact ⟨a, vs, rfl, .inl ⟨.inl (.inl h1), p1.val S1 (w3_enumL (wr_sub (b := false) S1) h1 h3 h2 (inv_lst hI h1))⟩⟩
    · cases r1 with
      | cons q1 t =>
        cases t
        obtain ⟨a, vs, rfl, h1, h2⟩ := RepW.tupN q1
        have hl := inv_tup hI (hK ▸ h1.1)
        rw [← hK]
        exact ⟨a, vs, rfl, .inr ⟨h1.1, p1.val S1 (w3_enumT (wr_sub (b := false) S1) h1 h2 hl)⟩⟩
    · exact p1.elim)))⟩
theorem i_enum (hK : Γ.K = X.K) (hg : Gl X "enumerate") (hm : X.mg "enumerate" = none) (ha : A3 Γ X [e] gl) (hs : starEach [e] X.env = [(false, eval e X.env)] := by rfl) :
    I3 true Γ X (.Tuple elts kk tpos) (.Call (.Name "enumerate" p) [e] [] pos) (iEnum3 gl) :=
  ⟨fun Wx F ρ s σ H R tk S pp => toI (pi_enumA hg hm can_a hs) (tA_inv (ha.run Wx F ρ s σ H _ tk S (pp.bind fun vs s1 us H1 g1 S1 r1 p1 hI => by
    split at p1
    · cases r1 with
      | cons q1 t =>
        cases t
        obtain ⟨a, vs, rfl, h1, h2, h3⟩ := relS q1
        exact ⟨a, vs, rfl, .inl ⟨.inl (.inl h1), p1.val S1 (w3_enumL (wr_sub (b := true) S1) h1 h3 h2 (inv_lst hI h1))⟩⟩
    · cases r1 with
      | cons q1 t =>
        cases t
        obtain ⟨a, vs, rfl, h1, h2⟩ := RepW.tupN (.inl q1)
        have hl := inv_tup hI (hK ▸ h1.1)
        rw [← hK]
        exact ⟨a, vs, rfl, .inr ⟨h1.1, p1.val S1 (w3_enumT (wr_sub (b := true) S1) h1 h2 hl)⟩⟩
    · exact p1.elim)))⟩
end
end L3

/-! L3: the rules in short. -/
namespace L3
open PySem PySem.Spec PyProof.Rows L2 PySem.L3X

/-- what a piece of text knows of its place -/
structure Con (Γ : Sta) (X : Cx) (T : List (Addr × Str)) (j : Nat) : Prop where
  hK : Γ.K = X.K
  hm : Γ.mg = X.mg
  hT : Γ.T = T
  hr : Room j X.A
  hc : X.calm = true
  hN : X.N.Nodup
structure ConS (Γ : Sta) (X : Cx) (T : List (Addr × Str)) (j : Nat) : Prop where
  c : Con Γ X T j
  hp : PassesOwn (model X.prog X.w) X.A X.env X.xe
  hs : X.stack = X.env :: X.outer
  hf : X.env.frame = some X.env.locals
def NoneOf (mg : Str → Option Value) (l : List Str) : Prop := ∀ x, l.contains x = true → mg x = none
section
variable {Γ : Sta} {X : Cx} {T : List (Addr × Str)} {j k : Nat}
theorem Con.here (c : Con Γ X T j) : Here Γ X := ⟨c.hK, c.hm⟩
theorem Con.blk (c : Con Γ X T j) {s0 : Shared} {H0 : Hp} {scope : Scope} {env : Env} {fp : List Addr} : Con Γ (X.blk s0 H0 scope env fp) T j := ⟨c.hK, c.hm, c.hT, c.hr, c.hc, c.hN⟩
theorem ConS.tr (c : ConS Γ X T j) {pn : List (Addr × Obj)} {xe : Value → Shared → Prop} (hp : PassesOwn (model X.prog X.w) X.A X.env xe) : ConS Γ (X.tr pn xe) T j := ⟨⟨c.c.hK, c.c.hm, c.c.hT, c.c.hr, c.c.hc, c.c.hN⟩, hp, c.hs, c.hf⟩
theorem conBody {P : Program} {w : World} {K : PySem.W.Frag} {mg : Str → Option Value} {base : Heap} {N ps : List Str} {qual : Str} {st : Stmt} {f : Addr} {cdv : Value} {A : Around} {outer : List Env} {s : Shared} {H : Hp} {E : XK} (S : FnScope N ps (defScope st))
    (hr : Room k (A.deeper (envOfC qual (defScope st) s.heap.objs.size f cdv))) (hH : Here Γ (bodyCx P w K mg base N qual st f cdv A outer s H E)) (hT : Γ.T = T) : ConS Γ (bodyCx P w K mg base N qual st f cdv A outer s H E) T k :=
  ⟨⟨hH.K, hH.mg, hT, hr, rfl, S.nd⟩, passes_of rfl, rfl, rfl⟩
/-! ### a def, as its callers see it -/
structure Def3 (P : Program) (w : World) (K : PySem.W.Frag) (mg : Str → Option Value) (base : Heap) (T : List (Addr × Str)) (x : Str) (k n : Nat) (dds : List L3.D) (f : List L3.D → DS → R L3.D) : Prop where
  ex : ∃ (fa : Addr) (fd : FuncData) (ps : List Str) (dus : List Value) (dvs : List V), FnOk P w K mg base (L2.CX P w) k fa fd ps (spM K mg T n f) ∧ mg x = some (.ref fa) ∧ PySem.W.keepIn K (.ref fa) = true ∧ Binds K fd ps dus ∧ Vals dvs dus ∧
    (∀ (Γ : Sta) F H, Γ.K = K → Γ.mg = mg → Reps Γ F H dvs dds) ∧ ps.length = n
  len : ∀ ds s, ds.length ≠ n → f ds s = .bad
/-- .. with keywords, in the order of its parameters -/
structure Def3K (P : Program) (w : World) (K : PySem.W.Frag) (mg : Str → Option Value) (base : Heap) (T : List (Addr × Str)) (x : Str) (k n : Nat) (ps : List Str) (f : List L3.D → DS → R L3.D) : Prop where
  ex : ∃ (fa : Addr) (fd : FuncData), FnOk P w K mg base (L2.CX P w) k fa fd ps (spM K mg T n f) ∧ mg x = some (.ref fa) ∧ PySem.W.keepIn K (.ref fa) = true ∧ (∀ (s : Shared) (ws : List Value), ws.length = ps.length → BindsTo s fd ⟨[], ps.zip ws⟩ (ps.zip ws)) ∧ ps.length = n
  len : ∀ ds s, ds.length ≠ n → f ds s = .bad
variable {x : Str} {e e2 : Expr} {es : List Expr} {gr : GL} {n : Nat} {dds : List L3.D} {f : List L3.D → DS → R L3.D} {p pos : Pos} {kws : List Keyword}
theorem r_call (c : Con Γ X T j) (d : Def3 X.prog X.w X.K X.mg X.base T x k n dds f) (hk : k ≤ j) (ha : A3 Γ X (e :: es) gr) (hg : Gl X x := by rfl) (hdb : (x == ("__debug__" : Str)) = false := by decide)
    (he : starEach (e :: es) X.env = (false, eval e X.env) :: starEach es X.env := by rfl) (hpl : (backTo pos (starEach es X.env)).any (·.1) = false := by rfl) : E3 Γ X (.Call (.Name x p) (e :: es) [] pos) (eCall (fun ds => f (ds ++ dds)) gr) := by
  obtain ⟨fa, fd, ps, dus, dvs, h1, h2, h3, h4, h5, h6, h7⟩ := d.ex
  exact e_call (dvs := dvs) c.here (c.hT.symm ▸ h1) d.len (c.hr.mono hk) h2 h3 h4 h5 (fun F H => h6 Γ F H c.hK c.hm) h7 hg ha hdb he hpl
theorem r_call1 (c : Con Γ X T j) (d : Def3 X.prog X.w X.K X.mg X.base T x k n [] f) (hk : k ≤ j) (ha : A3 Γ X (e :: es) gr) (hg : Gl X x := by rfl) (hdb : (x == ("__debug__" : Str)) = false := by decide)
    (he : starEach (e :: es) X.env = (false, eval e X.env) :: starEach es X.env := by rfl) (hpl : (backTo pos (starEach es X.env)).any (·.1) = false := by rfl) : E3 Γ X (.Call (.Name x p) (e :: es) [] pos) (eCall f gr) :=
  (r_call c d hk ha hg hdb he hpl).cast (by congr 1; funext ds; rw [List.append_nil])
theorem r_call01 (c : Con Γ X T j) (d : Def3 X.prog X.w X.K X.mg X.base T x k n [] f) (hk : k ≤ j) (hg : Gl X x := by rfl) (hdb : (x == ("__debug__" : Str)) = false := by decide) : E3 Γ X (.Call (.Name x p) [] [] pos) (eCall f aNil) := by
  obtain ⟨fa, fd, ps, dus, dvs, h1, h2, h3, h4, h5, h6, h7⟩ := d.ex
  exact (e_call0 (dvs := dvs) c.here (c.hT.symm ▸ h1) d.len (c.hr.mono hk) h2 h3 h4 h5 (fun F H => h6 Γ F H c.hK c.hm) h7 hg hdb).cast (by congr 1; funext ds; rw [List.append_nil])
theorem r_call0 (c : Con Γ X T j) (d : Def3 X.prog X.w X.K X.mg X.base T x k n dds f) (hk : k ≤ j) (hg : Gl X x := by rfl) (hdb : (x == ("__debug__" : Str)) = false := by decide) : E3 Γ X (.Call (.Name x p) [] [] pos) (eCall (fun ds => f (ds ++ dds)) aNil) := by
  obtain ⟨fa, fd, ps, dus, dvs, h1, h2, h3, h4, h5, h6, h7⟩ := d.ex
  exact e_call0 (dvs := dvs) c.here (c.hT.symm ▸ h1) d.len (c.hr.mono hk) h2 h3 h4 h5 (fun F H => h6 Γ F H c.hK c.hm) h7 hg hdb
theorem r_callK {ps : List Str} (c : Con Γ X T j) (d : Def3K X.prog X.w X.K X.mg X.base T x k n ps f) (hk : k ≤ j) (ha : K3 Γ X kws gr) (hks : (backToKw pos (keywordEach kws X.env)).filterMap (·.1) = ps := by rfl) (hg : Gl X x := by rfl)
    (hall : (backToKw pos (keywordEach kws X.env)).all (·.1.isSome) = true := by rfl) (hdb : (x == ("__debug__" : Str)) = false := by decide)
    (hpl : ((backTo pos (starEach [] X.env)).any (·.1) || (backToKw pos (keywordEach kws X.env)).any (·.1.isNone)) = false := by rfl) : E3 Γ X (.Call (.Name x p) [] kws pos) (eCall f gr) := by
  obtain ⟨fa, fd, h1, h2, h3, h4, h7⟩ := d.ex
  exact e_callK c.here (c.hT.symm ▸ h1) d.len (c.hr.mono hk) h2 h3 h4 h7 hg ha hks hall hdb hpl
/-! ### built-in functions -/
theorem r_len {gl : GL} (c : Con Γ X T j) (z : X.mg "len" = none) (ha : AW3 Γ X [e] gl) (hg : Gl X "len" := by rfl) (he : starEach [e] X.env = (false, eval e X.env) :: starEach [] X.env := by rfl) : E3 Γ X (.Call (.Name "len" p) [e] [] pos) (eB hLen gl) := e_callB call_len (c_len c.hK) hg z (by decide +kernel) ha (by decide) (by decide) he rfl
theorem r_abs {gl : GL} (c : Con Γ X T j) (z : X.mg "abs" = none) (ha : AW3 Γ X [e] gl) (hg : Gl X "abs" := by rfl) (he : starEach [e] X.env = (false, eval e X.env) :: starEach [] X.env := by rfl) : E3 Γ X (.Call (.Name "abs" p) [e] [] pos) (eB hAbs gl) := e_callB call_abs c_abs hg z (by decide +kernel) ha (by decide) (by decide) he rfl
theorem r_all {gl : GL} (c : Con Γ X T j) (z : X.mg "all" = none) (ha : AW3 Γ X [e] gl) (hg : Gl X "all" := by rfl) (he : starEach [e] X.env = (false, eval e X.env) :: starEach [] X.env := by rfl) : E3 Γ X (.Call (.Name "all" p) [e] [] pos) (eB hAll gl) := e_callB (cr_all c.hc) c_all hg z (by decide +kernel) ha (by decide) (by decide) he rfl
theorem r_any {gl : GL} (c : Con Γ X T j) (z : X.mg "any" = none) (ha : AW3 Γ X [e] gl) (hg : Gl X "any" := by rfl) (he : starEach [e] X.env = (false, eval e X.env) :: starEach [] X.env := by rfl) : E3 Γ X (.Call (.Name "any" p) [e] [] pos) (eB hAny gl) := e_callB (cr_any c.hc) c_any hg z (by decide +kernel) ha (by decide) (by decide) he rfl
theorem r_sum {gl : GL} (c : Con Γ X T j) (z : X.mg "sum" = none) (ha : AW3 Γ X [e] gl) (hg : Gl X "sum" := by rfl) (he : starEach [e] X.env = (false, eval e X.env) :: starEach [] X.env := by rfl) : E3 Γ X (.Call (.Name "sum" p) [e] [] pos) (eB hSum gl) := e_callB (cr_sum c.hc) c_sum hg z (by decide +kernel) ha (by decide) (by decide) he rfl
theorem r_max {gl : GL} (c : Con Γ X T j) (z : X.mg "max" = none) (ha : AW3 Γ X [e] gl) (hg : Gl X "max" := by rfl) (he : starEach [e] X.env = (false, eval e X.env) :: starEach [] X.env := by rfl) : E3 Γ X (.Call (.Name "max" p) [e] [] pos) (eB hMax gl) := e_callB (cr_max c.hc) c_max hg z (by decide +kernel) ha (by decide) (by decide) he rfl
theorem r_min {gl : GL} (c : Con Γ X T j) (z : X.mg "min" = none) (ha : AW3 Γ X [e] gl) (hg : Gl X "min" := by rfl) (he : starEach [e] X.env = (false, eval e X.env) :: starEach [] X.env := by rfl) : E3 Γ X (.Call (.Name "min" p) [e] [] pos) (eB hMin gl) := e_callB (cr_min c.hc) c_min hg z (by decide +kernel) ha (by decide) (by decide) he rfl
theorem r_max2 {gl : GL} (c : Con Γ X T j) (z : X.mg "max" = none) (ha : AW3 Γ X [e, e2] gl) (hg : Gl X "max" := by rfl) (he : starEach [e, e2] X.env = (false, eval e X.env) :: starEach [e2] X.env := by rfl) (hpl : (backTo pos (starEach [e2] X.env)).any (·.1) = false := by rfl) : E3 Γ X (.Call (.Name "max" p) [e, e2] [] pos) (eB hMax2 gl) := e_callB (call_max2 c.hc) c_max2 hg z (by decide +kernel) ha (by decide) (by decide) he hpl
theorem r_min2 {gl : GL} (c : Con Γ X T j) (z : X.mg "min" = none) (ha : AW3 Γ X [e, e2] gl) (hg : Gl X "min" := by rfl) (he : starEach [e, e2] X.env = (false, eval e X.env) :: starEach [e2] X.env := by rfl) (hpl : (backTo pos (starEach [e2] X.env)).any (·.1) = false := by rfl) : E3 Γ X (.Call (.Name "min" p) [e, e2] [] pos) (eB hMin2 gl) := e_callB (call_min2 c.hc) c_min2 hg z (by decide +kernel) ha (by decide) (by decide) he hpl
theorem r_int {gl : GL} (c : Con Γ X T j) (z : X.mg "int" = none) (ha : AW3 Γ X [e] gl) (hg : Gl X "int" := by rfl) (he : starEach [e] X.env = (false, eval e X.env) :: starEach [] X.env := by rfl) : E3 Γ X (.Call (.Name "int" p) [e] [] pos) (eB hInt gl) := e_callT call_int1 c_int hg z (by decide +kernel) ha (by decide) (by decide) he rfl
theorem r_tuple {gl : GL} (c : Con Γ X T j) (z : X.mg "tuple" = none) (ha : AW3 Γ X [e] gl) (hg : Gl X "tuple" := by rfl) (he : starEach [e] X.env = (false, eval e X.env) :: starEach [] X.env := by rfl) : E3 Γ X (.Call (.Name "tuple" p) [e] [] pos) (eB hTuple gl) := e_callT call_tuple_of (c_tuple c.hK) hg z (by decide +kernel) ha (by decide) (by decide) he rfl
end
/-! ### a comprehension's block -/
def kindB (k : NameKind) (k' : NameKind) : Bool := decide (k = k')
def blkB (N : List Str) (sc scope : Scope) (own : List (Str × Nat)) : Bool :=
  decide (scope.kind = .function) && scope.names.all (fun y => decide (scope.names.lookup y.1 = some y.2)) && own.all (fun p => decide (N[p.2]? = some p.1)) &&
  scope.names.all (fun y => !decide (y.2 = .free) || (decide (sc.names.lookup y.1 = some .cell) || decide (sc.names.lookup y.1 = some .free))) &&
  scope.names.all (fun y => !(decide (y.2 = .local) || decide (y.2 = .cell)) || ((own.map (·.1)).contains y.1 || !N.contains y.1))
theorem blkOk_of {N : List Str} {sc scope : Scope} {own : List (Str × Nat)} (h : blkB N sc scope own = true) : BlkOk N sc scope own := by
  unfold blkB at h
  simp only [Bool.and_eq_true, decide_eq_true_eq, List.all_eq_true, Bool.or_eq_true, Bool.not_eq_true', decide_eq_false_iff_not] at h
  obtain ⟨⟨⟨⟨h1, h2⟩, h3⟩, h4⟩, h5⟩ := h
  refine ⟨h1, h2, h3, fun y hy e => ?_, fun y hy e => ?_⟩
  · rcases h4 y hy with n | h
    · exact absurd e n
    · exact h
  · rcases h5 y hy with n | h
    · rw [Bool.or_eq_false_iff] at n
      rcases e with e | e
      · exact absurd e (of_decide_eq_false n.1)
      · exact absurd e (of_decide_eq_false n.2)
    · rcases h with h | h
      · exact .inl (by simpa using h)
      · exact .inr (by simpa using h)
end L3

/-! L3: the rules in short, errors. -/
namespace L3
open PySem PySem.Spec PyProof.Rows L2 PySem.L3X

def tChain (h h' : L3.D → L3.D → Option L3.D) (ga gb gc : G) : GT := fun ρ s => toBl (eChain h h' ga gb gc ρ s)
def Err3 (P : Program) (K : PySem.W.Frag) (mg : Str → Option Value) (x : Str) : Prop := ∃ C fI, ErrTxt P K mg x C fI
def KnOk (P : Program) (K : PySem.W.Frag) (mg : Str → Option Value) (x : Str) (kn : List Str) : Prop := ∃ Cx, mg x = some (.ref Cx) ∧ ∀ z ∈ kn, ∃ C fI, ErrTxt P K mg z C fI ∧ PySem.W.exmOne K (.ref C) (.ref Cx) = some (z == x)
section
variable {Γ : Sta} {X : Cx} {T : List (Addr × Str)} {j k : Nat} {x : Str} {e : Expr} {ge : G} {p pos pos2 : Pos}
theorem r_raise (c : Con Γ X T j) (t : Err3 X.prog X.K X.mg x) (hj : 1 ≤ j) (he : E3 Γ X e ge) (hg : Gl X x := by rfl) (hdb : (x == ("__debug__" : Str)) = false := by decide)
    (hs : starEach [e] X.env = (false, eval e X.env) :: starEach [] X.env := by rfl) : S3 Γ X (.Raise (some (.Call (.Name x p) [e] [] pos)) none pos2) (sRaise x ge) := by
  obtain ⟨C, fI, h⟩ := t
  exact s_raise (k := 0) h c.here c.hc (c.hr.mono hj) he hg hdb hs
theorem r_clN {n : Str} {b₀ : Stmt} {suite : List Stmt} {np pos' : Pos} {i : Nat} {kn : List Str} {g : L3.D → GS} (t : Err3 X.prog X.K X.mg x) (kk : KnOk X.prog X.K X.mg x kn) (hsu : SU3 Γ X (some i) (b₀ :: suite) g) (hi : X.N[i]? = some n) (hln : X.env.kindOf n = some .local)
    (hg : Gl X x := by rfl) (hdb : (x == ("__debug__" : Str)) = false := by decide) : ClOk Γ X (.ExceptHandler (some (.Name x np)) (some n) (b₀ :: suite) pos') ⟨some i, x, kn, g⟩ := by
  obtain ⟨Cx, h1, h2⟩ := kk
  exact cl_named hi hln ⟨hg, hdb, .inl h1⟩ hsu h2
theorem r_clP {b₀ : Stmt} {suite : List Stmt} {np pos' : Pos} {kn : List Str} {g : L3.D → GS} (t : Err3 X.prog X.K X.mg x) (kk : KnOk X.prog X.K X.mg x kn) (hsu : SU3 Γ X none (b₀ :: suite) g)
    (hg : Gl X x := by rfl) (hdb : (x == ("__debug__" : Str)) = false := by decide) : ClOk Γ X (.ExceptHandler (some (.Name x np)) none (b₀ :: suite) pos') ⟨none, x, kn, g⟩ := by
  obtain ⟨Cx, h1, h2⟩ := kk
  exact cl_plain ⟨hg, hdb, .inl h1⟩ hsu h2
theorem r_fn {n : Nat} {dds : List L3.D} {f : List L3.D → DS → R L3.D} (c : Con Γ X T j) (d : Def3 X.prog X.w X.K X.mg X.base T x k n dds f) (hg : Gl X x := by rfl) (hd : (x == ("__debug__" : Str)) = false := by decide) : E3 Γ X (.Name x pos) (eK (.fn x)) := by
  obtain ⟨fa, fd, ps, dus, dvs, h1, h2, _⟩ := d.ex
  exact e_fn hg h2 c.hm hd
end
/-! ### a def, from its text -/
section
variable {P : Program} {w : World} {K : PySem.W.Frag} {mg : Str → Option Value} {base : Heap} {T : List (Addr × Str)} {x : Str} {st : Stmt} {fa : Addr} {fd : FuncData} {ps : List Str} {k n : Nat} {f : List L3.D → DS → R L3.D}
theorem def3 (F : Fun K x x st fa fd) (g : mg x = some (.ref fa)) (ok : FnOk P w K mg base (L2.CX P w) k fa fd ps (spM K mg T n f)) (hn : ps.length = n) (hl : ∀ ds s, ds.length ≠ n → f ds s = .bad)
    (hb : ∀ (kV doc pm : Value) (an : Option Addr) (cdv ct : Value) (us : List Value), us.length = ps.length → bindArgs (PySem.W.fnOf x x (defArgs st) (defBody st) (defScope st) .none kV doc pm an cdv ct) ⟨us, []⟩ = pure (ps.zip us)) : Def3 P w K mg base T x k n [] f :=
  ⟨⟨fa, fd, ps, [], [], ok, g, F.kp, F.binds hb, .nil, fun _ _ _ _ _ => .nil, hn⟩, hl⟩
theorem def3K (F : Fun K x x st fa fd) (g : mg x = some (.ref fa)) (ok : FnOk P w K mg base (L2.CX P w) k fa fd ps (spM K mg T n f)) (hn : ps.length = n) (hl : ∀ ds s, ds.length ≠ n → f ds s = .bad)
    (hb : ∀ (kV doc pm : Value) (an : Option Addr) (cdv ct : Value) (s : Shared) (us : List Value), us.length = ps.length → BindsTo s (PySem.W.fnOf x x (defArgs st) (defBody st) (defScope st) .none kV doc pm an cdv ct) ⟨[], ps.zip us⟩ (ps.zip us)) : Def3K P w K mg base T x k n ps f := by
  obtain ⟨oc, od, kV, doc, pm, an, cdv, ct, osl, rfl, lk, hcd⟩ := F.ex
  exact ⟨⟨fa, _, ok, g, F.kp, fun s ws h => hb kV doc pm an cdv ct s ws h, hn⟩, hl⟩
end
theorem fnOk_bad {P : Program} {w : World} {K : PySem.W.Frag} {mg : Str → Option Value} {base : Heap} {T : List (Addr × Str)} {fa : Addr} {fd : FuncData} {ps : List Str} {k n : Nat} (hn : ps.length = n) : FnOk P w K mg base (L2.CX P w) k fa fd ps (spM K mg T n (fun _ _ => .bad)) :=
  ⟨fun vs H Q E h => by rw [hn]; exact h.1, fun A outer s H args us vs Q E _ _ _ _ h => by
    obtain ⟨_, dl, F0, ds, s0, _, _, _, _, _, p⟩ := h
    exact p.elim⟩
theorem none_nil {mg : Str → Option Value} : NoneOf mg [] := fun _ h => by cases h
theorem none_cons {mg : Str → Option Value} {x : Str} {l : List Str} (h : mg x = none) (r : NoneOf mg l) : NoneOf mg (x :: l) := fun y hy => by
  rw [List.contains_cons, Bool.or_eq_true] at hy
  rcases hy with hy | hy
  · rw [eq_of_beq hy]; exact h
  · exact r y hy
theorem err_mk {P : Program} {K : PySem.W.Frag} {mg : Str → Option Value} {h : Heap} {x qual : Str} {C Pu N fI cda cc : Addr} {nm q : Str} {bs : List Value} {sn : List Str} {sub : List Value} {ab : Bool} {col : Option Bool} {dd od an cdd cld : Option Addr} {k0 k1 k2 k3 k5 : Option Value}
    {oc doc pm ct ccl cl : Value} {osl ccs csl : Array (Option Value)} {p1 p2 : Pos} {ql : List Pos} {vs : Array Value} {file : Str} {tf : Tok} (X : K.In h) (G : h.Ns mainGlobals mg)
    (a1 : PySem.W.nsIn K mainGlobals x = some (some (.ref C)))
    (a2 : K.lookup C = some (excClassObj nm q C N bs [.ref Pu, .type "ValueError", .type "Exception", .type "BaseException", .type "object"] true sn sub ab col dd k0 k1 k2 k3 k5 "ValueError.__new__"))
    (a3 : PySem.W.findIn K (.ref C) "__init__" = some (some (.ref fI)))
    (a4 : K.lookup fI = some ⟨oc, od, .func (PySem.W.ksFn "__init__" qual (nA p1 p2) (nB ql) nS .none .none doc pm an (.ref cda) ct cc), osl⟩) (a5 : PySem.W.codeIn K (.ref cda) qual = true)
    (a6 : K.lookup cda = some ⟨ccl, cdd, .fields vs, ccs⟩) (a7 : vs[2]? = some (.str file tf)) (a8 : ((P.main.file : Str) == file) = true) (a9 : K.lookup cc = some ⟨cl, cld, .cell (some (.ref C)), csl⟩) (b1 : (ql[2]!.endLine == ql[4]!.line) = true)
    (b2 : (P.main.scope.names.lookup ("super" : Str)).isSome = false) (b3 : PySem.W.nsIn K mainGlobals "super" = some none) (b4 : PySem.W.nsIn K cStatics "thirdparty.any" = some none) (b5 : PySem.W.ks_superIn K C C "__init__" = some (some (.builtin "ValueError.__init__")))
    (b6 : PySem.W.excInitIn K C PySem.HandSPX.veTail "ValueError.__new__" = true) (b7 : PySem.W.findIn K (.ref C) "__setattr__" = some (some (.builtin "object.__setattr__"))) (b8 : PySem.W.findIn K (.ref C) "__getattribute__" = some (some (.builtin "BaseException.__getattribute__")))
    (b9 : PySem.W.findIn K (.ref C) "__getattr__" = some none) (c1 : PySem.W.findIn K (.ref C) "at" = some none) (c2 : PySem.W.typeIn K (.ref fI) = some (.type "function")) (c3 : PySem.W.keepIn K (.ref C) = true) (c4 : PySem.W.subIn K (.ref C) (.type "ValueError") = some true)
    (c5 : PySem.W.subIn K (.ref C) (.type "BaseException") = some true) (c6 : PySem.W.mroIn K C (.ref C) = some true) (c7 : PySem.W.typeIn K (.ref C) = some (.type "type")) (c8 : PySem.W.hasDictIn K C = true) : ErrTxt P K mg x C fI :=
  { gC := PySem.W.mg_of X G a1, cls := ⟨_, _, _, _, _, _, _, _, _, _, _, _, _, _, _, a2, rfl⟩, fn := ⟨_, _, _, _, _, _, _, _, _, _, _, _, _, _, _, _, _, _, _, _, _, _, a4, a5, a6, a7, a8, a9, b1⟩, top := b2, sup := PySem.W.mg_none_of X G b3, opq := b4, up := b5, exI := b6, iC := a3, sa := b7, ga := b8, gg := b9, noN := c1, tC := c2, kC := c3, exV := c4, exC := c5, self := c6, tyC := c7, hdC := c8 }
theorem kn_nil {P : Program} {K : PySem.W.Frag} {mg : Str → Option Value} {x : Str} {Cx : Addr} (g : mg x = some (.ref Cx)) : KnOk P K mg x [] := ⟨Cx, g, fun _ h => by cases h⟩
theorem kn_cons {P : Program} {K : PySem.W.Frag} {mg : Str → Option Value} {x z : Str} {Cx C fI : Addr} {l : List Str} (g : mg x = some (.ref Cx)) (t : ErrTxt P K mg z C fI) (e : PySem.W.exmOne K (.ref C) (.ref Cx) = some (z == x)) (r : KnOk P K mg x l) : KnOk P K mg x (z :: l) := by
  obtain ⟨C2, g2, r2⟩ := r
  rw [g] at g2
  cases g2
  refine ⟨Cx, g, fun y hy => ?_⟩
  rcases List.mem_cons.mp hy with rfl | hy
  · exact ⟨C, fI, t, e⟩
  · exact r2 y hy
theorem exm_of {K : PySem.W.Frag} {C Cx : Addr} {b : Bool} (h1 : PySem.W.subIn K (.ref Cx) (.type "BaseException") = some true) (h2 : PySem.W.isClsIn K Cx = true) (h3 : PySem.W.typeIn K (.ref Cx) = some (.type "type")) (h4 : PySem.W.subIn K (.ref C) (.ref Cx) = some b) : PySem.W.exmOne K (.ref C) (.ref Cx) = some b := by
  unfold PySem.W.isClsIn at h2
  unfold PySem.W.exmOne PySem.W.kitCls
  rw [h1]
  show (if ((PySem.W.clsIn K Cx).isSome && PySem.W.typeIn K (.ref Cx) == some (.type "type")) = true then PySem.W.subIn K (.ref C) (.ref Cx) else none) = some b
  rw [h3, h2, h4]; rfl
end L3

/-! L3: the defs that every law has, what they answer. -/
namespace L3
open PySem PySem.Spec PyProof.Rows L2

/-! ### mirrors, run -/
section
variable (ρ : Env3) (s : DS) {α β : Type}
@[simp] theorem rb_ok (a : α) (s : DS) (k : α → DS → R β) : R.bind (R.ok a s) k = k a s := rfl
@[simp] theorem rb_exc (x : Xc) (s : DS) (k : α → DS → R β) : R.bind (R.exc x s : R α) k = .exc x s := rfl
@[simp] theorem rb_bad (k : α → DS → R β) : R.bind (R.bad : R α) k = .bad := rfl
@[simp] theorem ev_K (d : L3.D) : eK d ρ s = .ok d s := rfl
@[simp] theorem ev_nil : aNil ρ s = .ok [] s := rfl
@[simp] theorem ev_cons (a : G) (r : GL) : aCons a r ρ s = (a ρ s).bind fun x s1 => (r ρ s1).bind fun xs s2 => .ok (x :: xs) s2 := rfl
@[simp] theorem ev_bin (h : L3.D → L3.D → Option L3.D) (a b : G) : eBin h a b ρ s = (a ρ s).bind fun x s1 => (b ρ s1).bind fun y s2 => match h x y with | some z => .ok z s2 | none => .bad := rfl
@[simp] theorem ev_call (f : List L3.D → DS → R L3.D) (a : GL) : eCall f a ρ s = (a ρ s).bind fun ds s1 => f ds s1 := rfl
@[simp] theorem ev_B (h : List L3.D → Option L3.D) (a : GL) : eB h a ρ s = (a ρ s).bind fun ds s1 => match h ds with | some z => .ok z s1 | none => .bad := rfl
@[simp] theorem ev_ix (a b : G) : eIx a b ρ s = (a ρ s).bind fun x s1 => (b ρ s1).bind fun y s2 => match y with | .int i => (match ixD x i with | some z => .ok z s2 | none => .bad) | _ => .bad := rfl
@[simp] theorem ev_isi (cs : List String) (a : G) : eIsi cs a ρ s = (a ρ s).bind fun d s1 => match d.ty with | some t => .ok (.bl (cs.any (isiB t))) s1 | none => .bad := rfl
@[simp] theorem ev_and (a b : G) : eAnd a b ρ s = (a ρ s).bind fun x s1 => match x with | .bl true => b ρ s1 | .bl false => .ok (.bl false) s1 | _ => .bad := rfl
@[simp] theorem ev_or (a b : G) : eOr a b ρ s = (a ρ s).bind fun x s1 => match x with | .bl true => .ok (.bl true) s1 | .bl false => b ρ s1 | _ => .bad := rfl
@[simp] theorem ev_not (a : G) : eNot a ρ s = (a ρ s).bind fun x s1 => match x with | .bl b => .ok (.bl (!b)) s1 | _ => .bad := rfl
@[simp] theorem ev_neg (a : G) : eNeg a ρ s = (a ρ s).bind fun x s1 => match x with | .int b => .ok (.int (-b)) s1 | _ => .bad := rfl
@[simp] theorem ev_tup (a : GL) : eTup a ρ s = (a ρ s).bind fun xs s1 => if xs.length ≤ 16777216 then .ok (.tup xs) s1 else .bad := rfl
@[simp] theorem ev_lst (a : GL) : eLst a ρ s = (a ρ s).bind fun xs s1 => if xs.length ≤ 16777216 then .ok (.lst xs) s1 else .bad := rfl
@[simp] theorem ev_nlst (a : GL) : nLst a ρ s = (a ρ s).bind fun xs s1 => if xs.length ≤ 16777216 then .ok xs s1 else .bad := rfl
@[simp] theorem ev_ofN (a : GL) : eOfN a ρ s = (a ρ s).bind fun ds s1 => .ok (.lst ds) s1 := rfl
@[simp] theorem ev_if (t : GT) (a b : G) : eIf t a b ρ s = (t ρ s).bind fun x s1 => if x = true then a ρ s1 else b ρ s1 := rfl
@[simp] theorem ev_toBl (b : Bool) (s : DS) : toBl (.ok (.bl b) s) = .ok b s := rfl
@[simp] theorem ev_cmp (h : L3.D → L3.D → Option L3.D) (a b : G) : tCmp3 h a b ρ s = toBl (eBin h a b ρ s) := rfl
@[simp] theorem ev_tchain (h h' : L3.D → L3.D → Option L3.D) (a b c : G) : tChain h h' a b c ρ s = toBl (eChain h h' a b c ρ s) := rfl
@[simp] theorem ev_chain (h h' : L3.D → L3.D → Option L3.D) (a b c : G) : eChain h h' a b c ρ s = (a ρ s).bind fun x s1 => (b ρ s1).bind fun y s2 => match h x y with
  | some (.bl true) => (c ρ s2).bind fun z s3 => (match h' y z with | some w => .ok w s3 | none => .bad)
  | some (.bl false) => .ok (.bl false) s2
  | _ => .bad := rfl
@[simp] theorem ev_tru (a : G) : tTru a ρ s = (a ρ s).bind fun x s1 => match truD x with | some b => .ok b s1 | none => .bad := rfl
@[simp] theorem ev_tand (a b : GT) : tAnd3 a b ρ s = (a ρ s).bind fun x s1 => if x = true then b ρ s1 else .ok false s1 := rfl
@[simp] theorem ev_tor (a b : GT) : tOr3 a b ρ s = (a ρ s).bind fun x s1 => if x = true then .ok true s1 else b ρ s1 := rfl
@[simp] theorem ev_tnot (a : GT) : tNot3 a ρ s = (a ρ s).bind fun x s1 => .ok (!x) s1 := rfl
@[simp] theorem ev_yes : tYes3 ρ s = .ok true s := rfl
@[simp] theorem ev_oNone : oNone ρ s = .ok none s := rfl
@[simp] theorem ev_oSome (a : G) : oSome a ρ s = (a ρ s).bind fun x s1 => match x with | .int i => .ok (some i) s1 | _ => .bad := rfl
@[simp] theorem ev_seq (a b : GS) : sSeq a b ρ s = match a ρ s with | .ok (.nx ρ') s' => b ρ' s' | r => r := rfl
@[simp] theorem ev_skip : sSkip ρ s = .ok (.nx ρ) s := rfl
@[simp] theorem ev_expr (a : G) : sExpr a ρ s = bindS (a ρ s) ρ fun _ s1 => .ok (.nx ρ) s1 := rfl
@[simp] theorem ev_ret (a : G) : sRet a ρ s = bindS (a ρ s) ρ fun d s1 => .ok (.rt d) s1 := rfl
@[simp] theorem ev_asg (h : H1) (a : G) : sAsg h a ρ s = bindS (a ρ s) ρ fun d s1 => match h d ρ with | some ρ' => .ok (.nx ρ') s1 | none => .bad := rfl
@[simp] theorem ev_sif (t : GT) (a b : GS) : sIf t a b ρ s = bindS (t ρ s) ρ fun x s1 => if x = true then a ρ s1 else b ρ s1 := rfl
@[simp] theorem ev_sfor (g : GL) (t : H1) (b : GS) : sFor g t b ρ s = bindS (g ρ s) ρ fun ds s1 => forL t b ds ρ s1 := rfl
@[simp] theorem ev_own (i : Nat) (g : GL) : sOwn i g ρ s = bindS (g ρ s) ρ fun ds s1 => .ok (.nx (ρ.set i (some (.o ds)))) s1 := rfl
@[simp] theorem ev_frz (i : Nat) (a : GS) : sFrz i a ρ s = a (frz i ρ) s := rfl
@[simp] theorem ev_raise (x : Str) (a : G) : sRaise x a ρ s = bindS (a ρ s) ρ fun d s1 => .ok (.ex ⟨x, d⟩ ρ) s1 := rfl
@[simp] theorem ev_hName (i : Nat) (d : L3.D) : hName i d ρ = some (ρ.set i (some (.d d))) := rfl
@[simp] theorem ev_iSeq (a : G) : iSeq a ρ s = (a ρ s).bind fun d s1 => match seqD d with | some ds => .ok ds s1 | none => .bad := rfl
@[simp] theorem ev_comp (g : GL) (own : List Nat) (t : H1) (c : GT) (e : G) : nComp g own t c e ρ s = (g ρ s).bind fun ds s1 => compL t c e (wip ρ own) ds s1 := rfl
end
theorem forL_inv {tgt : H1} {body : GS} (I : Env3 → DS → Prop) : ∀ (ds : List L3.D) (ρ : Env3) (s : DS), I ρ s →
    (∀ d ∈ ds, ∀ ρ s, I ρ s → ∃ ρ1 ρ2 s2, tgt d ρ = some ρ1 ∧ (body ρ1 s = .ok (.nx ρ2) s2 ∨ body ρ1 s = .ok (.ct ρ2) s2) ∧ I ρ2 s2) → ∃ ρ' s', forL tgt body ds ρ s = .ok (.nx ρ') s' ∧ I ρ' s'
  | [], ρ, s, h, _ => ⟨ρ, s, rfl, h⟩
  | d :: ds, ρ, s, h, k => by
    obtain ⟨ρ1, ρ2, s2, h1, h2, h3⟩ := k d List.mem_cons_self ρ s h
    obtain ⟨ρ', s', h4, h5⟩ := forL_inv I ds ρ2 s2 h3 fun e he => k e (List.mem_cons_of_mem _ he)
    refine ⟨ρ', s', ?_, h5⟩
    unfold forL
    rw [h1]
    rcases h2 with h2 | h2 <;> simp only [h2] <;> exact h4
/-- all that a comprehension's list needs -/
theorem compL_all {tgt : H1} {t : GT} {e : G} {ρ : Env3} {s : DS} : ∀ (ds : List L3.D) (f : L3.D → Option L3.D),
    (∀ d ∈ ds, ∃ ρ1, tgt d ρ = some ρ1 ∧ ((f d = none ∧ t ρ1 s = .ok false s) ∨ ∃ y, f d = some y ∧ t ρ1 s = .ok true s ∧ e ρ1 s = .ok y s)) → compL tgt t e ρ ds s = .ok (ds.filterMap f) s
  | [], f, _ => rfl
  | d :: ds, f, h => by
    obtain ⟨ρ1, h1, h2⟩ := h d List.mem_cons_self
    have ih := compL_all (tgt := tgt) (t := t) (e := e) (ρ := ρ) (s := s) ds f fun x hx => h x (List.mem_cons_of_mem _ hx)
    unfold compL
    rw [h1]
    rcases h2 with ⟨h3, h4⟩ | ⟨y, h3, h4, h5⟩
    · simp only [h4, noX, rb_ok, Bool.false_eq_true, if_false]
      rw [ih, List.filterMap_cons_none h3]
    · simp only [h4, h5, noX, rb_ok, if_true]
      rw [ih, List.filterMap_cons_some h3]
      rfl
end L3

/-! L3: the defs that every law has, what they answer. -/
namespace L3
open PySem PySem.Spec PyProof.Rows L2
def mb__law_draw : GS := (sSeq (sOwn 2 (nComp (iSeq (eSlS (eVar 0) oNone (oSome (eK (.int 48))))) [3] (hName 3) tYes3 (eBin modD (eB hAbs (aCons (eB hInt (aCons (eVar 3) aNil)) aNil)) (eBin powD (eK (.int 10)) (eK (.int 60)))))) (sFrz 2 (sSeq (sAsg (hName 4) (eBin addD (eK (.int 7919)) (eBin mulD (eK (.int 104729)) (eVar 1)))) (sSeq (sFor (iSeq (eVar 2)) (hName 3) (sAsg (hName 4) (eBin modD (eB hInt (aCons (eBin addD (eBin addD (eBin mulD (eVar 4) (eK (.int 48271))) (eBin modD (eVar 3) (eK (.int 2147483549)))) (eK (.int 11))) aNil)) (eK (.int 2147483647))))) (sRet (eLst (aCons (eRev (eOfN (nComp (iSeq (eVar 2)) [3] (hName 3) (tCmp3 geD (eVar 3) (eBin powD (eK (.int 10)) (eK (.int 18)))) (eVar 3)))) (aCons (eVar 4) aNil))))))))
def mf__law_draw : List L3.D → DS → R L3.D := mkF 2 5 mb__law_draw
def mb__law_any : GS := (sSeq (sWhile (fun _ s => s.ns.length + 1) (tAnd3 (tDne 0) (tDz 0)) (sExpr (eDpop 0))) (sSeq (sIf (tDne 0) (sSeq (sAsg (hName 2) (eB hInt (aCons (eDpop 0) aNil))) (sSeq (sDapp 0 (eBin fdivD (eVar 2) (eVar 1))) (sRet (eBin modD (eB hInt (aCons (eVar 2) aNil)) (eVar 1))))) sSkip) (sSeq (sD1 0 (eBin modD (eB hInt (aCons (eBin addD (eBin mulD (eD1 0) (eK (.int 40693))) (eK (.int 71))) aNil)) (eK (.int 2147483647)))) (sRet (eBin modD (eB hInt (aCons (eBin fdivD (eD1 0) (eK (.int 64))) aNil)) (eVar 1))))))
def mf__law_any : List L3.D → DS → R L3.D := mkF 2 3 mb__law_any
def mb__law_of : GS := (sRet (eIx (eVar 1) (eCall mf__law_any (aCons (eVar 0) (aCons (eB hLen (aCons (eVar 1) aNil)) aNil)))))
def mf__law_of : List L3.D → DS → R L3.D := mkF 2 2 mb__law_of
def mb__law_same (rec : List L3.D → DS → R L3.D) : GS := (sSeq (sIf (tTru (eIsi ["tuple", "list"] (eVar 1))) (sSeq (sIf (tOr3 (tCmp3 neD (eIsi ["tuple"] (eVar 1)) (eIsi ["tuple"] (eVar 0))) (tOr3 (tNot3 (tTru (eIsi ["tuple", "list"] (eVar 0)))) (tCmp3 neD (eB hLen (aCons (eVar 0) aNil)) (eB hLen (aCons (eVar 1) aNil))))) (sRet (eK (.bl false))) sSkip) (sRet (eBin eqD (eOfN (nComp (iZip (aCons (eVar 0) (aCons (eVar 1) aNil))) [2, 3] (hTup 2 (hCons (hName 2) (hCons (hName 3) hNil))) (tNot3 (tTru (eCall rec (aCons (eVar 2) (aCons (eVar 3) aNil))))) (eK (.int 0)))) (eLst aNil)))) sSkip) (sSeq (sIf (tCmp3 isD (eVar 1) (eK .non)) (sRet (eBin isD (eVar 0) (eK .non))) sSkip) (sSeq (sIf (tCmp3 isD (eVar 1) (eK (.bl true))) (sRet (eBin isD (eVar 0) (eK (.bl true)))) sSkip) (sSeq (sIf (tCmp3 isD (eVar 1) (eK (.bl false))) (sRet (eBin isD (eVar 0) (eK (.bl false)))) sSkip) (sSeq (sIf (tTru (eIsi ["int"] (eVar 1))) (sRet (eAnd (eIsi ["int"] (eVar 0)) (eAnd (eNot (eIsi ["bool"] (eVar 0))) (eBin eqD (eVar 0) (eVar 1))))) sSkip) (sRet (eAnd (eIsi ["str"] (eVar 0)) (eBin eqD (eVar 0) (eVar 1)))))))))
def mfr__law_same : Nat → List L3.D → DS → R L3.D
  | 0 => fun _ _ => .bad
  | m + 1 => mkF 2 4 (mb__law_same (mfr__law_same m))
abbrev mf__law_same : List L3.D → DS → R L3.D := mfr__law_same 8
def mb__law_is_int : GS := (sRet (eAnd (eIsi ["int"] (eVar 0)) (eNot (eIsi ["bool"] (eVar 0)))))
def mf__law_is_int : List L3.D → DS → R L3.D := mkF 1 1 mb__law_is_int
/-! ### draws -/
theorem bits_lt {i : Int} {k : Nat} (hk : 0 < k) (h : i.natAbs < 2 ^ k) : bitsI i < k := by
  unfold bitsI
  by_cases e : i.natAbs = 0
  · rw [e]; exact hk
  · exact (Nat.log2_lt e).mpr h
structure Small (s : DS) : Prop where
  len : s.ns.length ≤ 48
  b0 : 0 ≤ s.b
  b1 : s.b < 2147483647
/-- a bound that is no giant -/
def Fine (b : Int) : Prop := 0 < b ∧ bitsI b < 9000
theorem fine_of {b : Int} (h : 0 < b) (h2 : b < 2 ^ 1000) : Fine b := ⟨h, Nat.lt_trans (bits_lt (k := 1000) (by decide) (by omega)) (by decide)⟩
theorem strip_ok {ρ : Env3} (h : isDeal 0 ρ = true) : ∀ (n : Nat) (s : DS), s.ns.length < n → Small s → ∃ s', whL (tAnd3 (tDne 0) (tDz 0)) (sExpr (eDpop 0)) n ρ s = .ok (.nx ρ) s' ∧ Small s'
  | 0, s, hn, _ => absurd hn (Nat.not_lt_zero _)
  | n + 1, s, hn, hs => by
    unfold whL
    cases hne : s.ns.isEmpty with
    | true =>
      refine ⟨s, ?_, hs⟩
      simp [tDne, h, hne]
    | false =>
      obtain ⟨z, hz⟩ : ∃ z, s.ns.getLast? = some z := by
        cases e : s.ns.getLast? with
        | none => rw [List.getLast?_eq_none_iff] at e; rw [e] at hne; cases hne
        | some z => exact ⟨z, rfl⟩
      by_cases c : z = 0
      · have hl : s.ns.length ≠ 0 := fun e => by rw [List.length_eq_zero_iff] at e; rw [e] at hne; cases hne
        obtain ⟨s', h1, h2⟩ := strip_ok h n { s with ns := s.ns.dropLast } (by show s.ns.dropLast.length < n; rw [List.length_dropLast]; omega) ⟨by show s.ns.dropLast.length ≤ 48; rw [List.length_dropLast]; have := hs.len; omega, hs.b0, hs.b1⟩
        refine ⟨s', ?_, h2⟩
        simp [tDne, tDz, h, hne, hz, c, eDpop]
        exact h1
      · refine ⟨s, ?_, hs⟩
        simp [tDne, tDz, h, hne, hz, c]
theorem any_ok {s : DS} {b : Int} (hs : Small s) (hf : Fine b) : ∃ r s', mf__law_any [.deal, .int b] s = .ok (.int r) s' ∧ 0 ≤ r ∧ r < b ∧ Small s' := by
  have hb := hf.1
  have hb2 := hf.2
  have hd : isDeal 0 [some (.d .deal), some (.d (.int b)), none] = true := rfl
  obtain ⟨s1, h1, h2⟩ := strip_ok hd (s.ns.length + 1) s (Nat.lt_succ_self _) hs
  have hw : sWhile (fun _ s => s.ns.length + 1) (tAnd3 (tDne 0) (tDz 0)) (sExpr (eDpop 0)) [some (.d .deal), some (.d (.int b)), none] s = .ok (.nx [some (.d .deal), some (.d (.int b)), none]) s1 := h1
  show ∃ r s', endF (mb__law_any (argsE 3 [L3.D.deal, .int b]) s) = .ok (.int r) s' ∧ 0 ≤ r ∧ r < b ∧ Small s'
  have ha : argsE 3 [L3.D.deal, .int b] = [some (.d .deal), some (.d (.int b)), none] := rfl
  rw [ha]
  unfold mb__law_any
  rw [ev_seq, hw]
  have e0 : ∀ ρ : Env3, isDeal 0 (some (.d .deal) :: ρ) = true := fun _ => rfl
  have nb : b ≠ 0 := by omega
  cases hne : s1.ns.isEmpty with
  | true =>
    refine ⟨(((s1.b * 40693 + 71) % 2147483647) / 64) % b, { s1 with b := (s1.b * 40693 + 71) % 2147483647 }, ?_, Int.emod_nonneg _ nb, Int.emod_lt_of_pos _ hb, ⟨h2.len, Int.emod_nonneg _ (by decide), Int.emod_lt_of_pos _ (by decide)⟩⟩
    have hm : bitsI s1.b + bitsI 40693 < 1000000 := by
      have := bits_lt (i := s1.b) (k := 64) (by decide) (by have := h2.b0; have := h2.b1; omega)
      have := bits_lt (i := 40693) (k := 64) (by decide) (by decide)
      omega
    have h64 : bitsI 64 < 9000 := by decide
    simp [tDne, e0, hne, sD1, eD1, modD, mulD, addD, fdivD, iD, hInt, hb, eVar, endF, hm, h64]
  | false =>
    obtain ⟨z, hz⟩ : ∃ z, s1.ns.getLast? = some z := by
      cases e : s1.ns.getLast? with
      | none => rw [List.getLast?_eq_none_iff] at e; rw [e] at hne; cases hne
      | some z => exact ⟨z, rfl⟩
    have hl : s1.ns.length ≠ 0 := fun e => by rw [List.length_eq_zero_iff] at e; rw [e] at hne; cases hne
    have h2l := h2.len
    refine ⟨z % b, { s1 with ns := s1.ns.dropLast ++ [z / b] }, ?_, Int.emod_nonneg _ nb, Int.emod_lt_of_pos _ hb, ⟨by simp; omega, h2.b0, h2.b1⟩⟩
    have h48 : s1.ns.length - 1 < 16777216 := by omega
    simp [tDne, e0, hne, hz, eDpop, sDapp, modD, mulD, addD, fdivD, iD, hInt, hb, hb2, eVar, endF, h48]
end L3

/-! L3: the defs that every law has, what they answer: draws from a list, the script. -/
namespace L3
open PySem PySem.Spec PyProof.Rows L2

theorem atI_lt {α : Type} {xs : List α} {i : Int} (h0 : 0 ≤ i) (h1 : i < xs.length) : L2.atI xs i = some (xs[i.toNat]'(by omega)) := by
  unfold L2.atI ixN
  rw [if_pos h0, if_pos h1]
  show xs[i.toNat]? = _
  exact List.getElem?_eq_getElem (by omega)
theorem of_ok {s : DS} {x : L3.D} {ds : List L3.D} (hs : Small s) (hx : x = .lst ds ∨ x = .tup ds) (h0 : 0 < ds.length) (h1 : ds.length ≤ 16777216) : ∃ i y s', i < ds.length ∧ ds[i]? = some y ∧ mf__law_of [.deal, x] s = .ok y s' ∧ Small s' := by
  obtain ⟨r, s', h2, h3, h4, h5⟩ := any_ok (b := (ds.length : Int)) hs (fine_of (by omega) (by omega))
  refine ⟨r.toNat, ds[r.toNat]'(by omega), s', by omega, List.getElem?_eq_getElem (by omega), ?_, h5⟩
  show endF (mb__law_of (argsE 2 [L3.D.deal, x]) s) = _
  have ha : argsE 2 [L3.D.deal, x] = [some (.d .deal), some (.d x)] := rfl
  rw [ha]
  unfold mb__law_of
  have hat := atI_lt (xs := ds) h3 h4
  rcases hx with rfl | rfl
  · simp [eVar, hLen, lenD, h2, ixD, hat, endF]
  · simp [eVar, hLen, lenD, h2, ixD, hat, endF]
def cellOf (z : Int) : Int := (if z < 0 then -z else z) % 10 ^ 60
theorem cutD_map {α β : Type} (f : α → β) (xs : List α) (lo hi : Option Int) : cutD (xs.map f) lo hi = (cutD xs lo hi).map f := by
  unfold cutD
  rw [List.length_map, ← List.map_drop, ← List.map_take]
theorem cut48 {α : Type} (xs : List α) : (cutD xs none (some 48)).length ≤ 48 := by
  unfold cutD
  refine Nat.le_trans (List.length_take_le _ _) ?_
  unfold HT.sIx
  simp
  omega
theorem compL_map {tgt : H1} {e : G} {ρ : Env3} {s : DS} {α : Type} (c : α → L3.D) (f : α → L3.D) : ∀ (xs : List α), (∀ x ∈ xs, ∃ ρ1, tgt (c x) ρ = some ρ1 ∧ e ρ1 s = .ok (f x) s) → compL tgt tYes3 e ρ (xs.map c) s = .ok (xs.map f) s
  | [], _ => rfl
  | x :: xs, h => by
    obtain ⟨ρ1, h1, h2⟩ := h x List.mem_cons_self
    have ih := compL_map (tgt := tgt) (e := e) (ρ := ρ) (s := s) c f xs fun y hy => h y (List.mem_cons_of_mem _ hy)
    rw [List.map_cons]
    unfold compL
    rw [h1]
    simp only [ev_yes, noX, rb_ok, if_true, h2]
    rw [ih]
    rfl
theorem compL_filter {tgt : H1} {t : GT} {e : G} {ρ : Env3} {s : DS} {α : Type} (c : α → L3.D) (p : α → Bool) (f : α → L3.D) : ∀ (xs : List α), (∀ x ∈ xs, ∃ ρ1, tgt (c x) ρ = some ρ1 ∧ t ρ1 s = .ok (p x) s ∧ (p x = true → e ρ1 s = .ok (f x) s)) →
    compL tgt t e ρ (xs.map c) s = .ok ((xs.filter p).map f) s
  | [], _ => rfl
  | x :: xs, h => by
    obtain ⟨ρ1, h1, h2, h3⟩ := h x List.mem_cons_self
    have ih := compL_filter (tgt := tgt) (t := t) (e := e) (ρ := ρ) (s := s) c p f xs fun y hy => h y (List.mem_cons_of_mem _ hy)
    rw [List.map_cons]
    unfold compL
    rw [h1]
    cases hp : p x with
    | true =>
      rw [hp] at h2
      simp only [h2, noX, rb_ok, if_true, h3 hp]
      rw [ih, List.filter_cons_of_pos hp]
      rfl
    | false =>
      rw [hp] at h2
      simp only [h2, noX, rb_ok, Bool.false_eq_true, if_false]
      rw [ih, List.filter_cons_of_neg (by rw [hp]; exact Bool.false_ne_true)]
theorem draw_ok (ns : List Int) {salt : Int} (s : DS) (h0 : 0 ≤ salt) (h1 : salt ≤ 10000) : ∃ c b, mf__law_draw [.scr ns, .int salt] s = .ok (dealOf c b) s ∧ Small ⟨c, b⟩ := by
  let cs := (cutD ns none (some 48)).map cellOf
  have hcs : cs.length ≤ 48 := by show ((cutD ns none (some 48)).map cellOf).length ≤ 48; rw [List.length_map]; exact cut48 ns
  have ha : argsE 5 [L3.D.scr ns, .int salt] = [some (.d (.scr ns)), some (.d (.int salt)), none, none, none] := rfl
  have e1 : nComp (iSeq (eSlS (eVar 0) oNone (oSome (eK (.int 48))))) [3] (hName 3) tYes3 (eBin modD (eB hAbs (aCons (eB hInt (aCons (eVar 3) aNil)) aNil)) (eBin powD (eK (.int 10)) (eK (.int 60)))) [some (.d (.scr ns)), some (.d (.int salt)), none, none, none] s = .ok (cs.map L3.D.int) s := by
    have := compL_map (tgt := hName 3) (e := eBin modD (eB hAbs (aCons (eB hInt (aCons (eVar 3) aNil)) aNil)) (eBin powD (eK (.int 10)) (eK (.int 60)))) (ρ := [some (.d (.scr ns)), some (.d (.int salt)), none, none, none]) (s := s) L3.D.int (fun z => .int (cellOf z)) (cutD ns none (some 48)) (fun z _ => ⟨_, rfl, by
      have hp : decide (0 ≤ (60 : Int)) && decide ((60 : Int) ≤ 1000000) && decide ((10 : Int).natAbs < 2 ^ 64) = true := by decide
      simp [hInt, hAbs, eVar, modD, powD, iD, cellOf]⟩)
    simp [eSlS, slS, eVar, seqD, wip, cutD_map]
    rw [this]
    simp [cs]
  let I : Env3 → DS → Prop := fun ρ s' => ∃ x v, ρ = [some (.d (.scr ns)), some (.d (.int salt)), some (.d (.lst (cs.map L3.D.int))), x, some (.d (.int v))] ∧ 0 ≤ v ∧ v < 2147483647 ∧ s' = s
  obtain ⟨ρ', s', e2, x, v, rfl, hv0, hv1, rfl⟩ := forL_inv (tgt := hName 3) (body := sAsg (hName 4) (eBin modD (eB hInt (aCons (eBin addD (eBin addD (eBin mulD (eVar 4) (eK (.int 48271))) (eBin modD (eVar 3) (eK (.int 2147483549)))) (eK (.int 11))) aNil)) (eK (.int 2147483647)))) I (cs.map L3.D.int)
    [some (.d (.scr ns)), some (.d (.int salt)), some (.d (.lst (cs.map L3.D.int))), none, some (.d (.int (7919 + 104729 * salt)))] s ⟨none, _, rfl, by omega, by omega, rfl⟩ (fun d hd ρ s' h => by
      obtain ⟨z, hz, rfl⟩ := List.mem_map.mp hd
      obtain ⟨x, v, rfl, hv0, hv1, rfl⟩ := h
      have hm : bitsI v + bitsI 48271 < 1000000 := by
        have := bits_lt (i := v) (k := 64) (by decide) (by omega)
        have := bits_lt (i := 48271) (k := 64) (by decide) (by decide)
        omega
      refine ⟨_, [some (.d (.scr ns)), some (.d (.int salt)), some (.d (.lst (cs.map L3.D.int))), some (.d (.int z)), some (.d (.int ((v * 48271 + z % 2147483549 + 11) % 2147483647)))], s', rfl, .inl ?_, ⟨some (.d (.int z)), (v * 48271 + z % 2147483549 + 11) % 2147483647, rfl, ?_, ?_, rfl⟩⟩
      · simp [eVar, hInt, mulD, addD, modD, iD, hm]
      · exact Int.emod_nonneg _ (by decide)
      · exact Int.emod_lt_of_pos _ (by decide))
  have e3 : nComp (iSeq (eVar 2)) [3] (hName 3) (tCmp3 geD (eVar 3) (eBin powD (eK (.int 10)) (eK (.int 18)))) (eVar 3) [some (.d (.scr ns)), some (.d (.int salt)), some (.d (.lst (cs.map L3.D.int))), x, some (.d (.int v))] s' = .ok ((cs.filter fun z => decide (10 ^ 18 ≤ z)).map L3.D.int) s' := by
    have := compL_filter (tgt := hName 3) (t := tCmp3 geD (eVar 3) (eBin powD (eK (.int 10)) (eK (.int 18)))) (e := eVar 3) (ρ := [some (.d (.scr ns)), some (.d (.int salt)), some (.d (.lst (cs.map L3.D.int))), none, some (.d (.int v))]) (s := s') L3.D.int (fun z => decide (10 ^ 18 ≤ z)) L3.D.int cs (fun z _ => ⟨_, rfl, by
      simp [eVar, geD, powD, iD], fun _ => by simp [eVar]⟩)
    simp only [ev_comp, ev_iSeq]
    simp only [eVar, List.getElem?_cons_succ, List.getElem?_cons_zero, rb_ok, seqD, wip, List.set_cons_succ, List.set_cons_zero]
    exact this
  refine ⟨(cs.filter fun z => decide (10 ^ 18 ≤ z)).reverse, v, ?_, ⟨by rw [List.length_reverse]; exact Nat.le_trans (List.length_filter_le _ _) hcs, hv0, hv1⟩⟩
  show endF (mb__law_draw (argsE 5 [L3.D.scr ns, .int salt]) s') = _
  rw [ha]
  unfold mb__law_draw
  have hm : bitsI 104729 + bitsI salt < 1000000 := by
    have := bits_lt (i := salt) (k := 64) (by decide) (by omega)
    have := bits_lt (i := 104729) (k := 64) (by decide) (by decide)
    omega
  rw [ev_seq, ev_own, e1]
  simp only [bindS_ok, ev_frz]
  have e0 : frz 2 ([some (.d (.scr ns)), some (.d (.int salt)), none, none, none].set 2 (some (.o (cs.map L3.D.int)))) = [some (.d (.scr ns)), some (.d (.int salt)), some (.d (.lst (cs.map L3.D.int))), none, none] := rfl
  rw [e0]
  have e4 : sAsg (hName 4) (eBin addD (eK (.int 7919)) (eBin mulD (eK (.int 104729)) (eVar 1))) [some (.d (.scr ns)), some (.d (.int salt)), some (.d (.lst (cs.map L3.D.int))), none, none] s' = .ok (.nx [some (.d (.scr ns)), some (.d (.int salt)), some (.d (.lst (cs.map L3.D.int))), none, some (.d (.int (7919 + 104729 * salt)))]) s' := by
    simp [eVar, mulD, addD, iD, hm]
  have e5 : sFor (iSeq (eVar 2)) (hName 3) (sAsg (hName 4) (eBin modD (eB hInt (aCons (eBin addD (eBin addD (eBin mulD (eVar 4) (eK (.int 48271))) (eBin modD (eVar 3) (eK (.int 2147483549)))) (eK (.int 11))) aNil)) (eK (.int 2147483647)))) [some (.d (.scr ns)), some (.d (.int salt)), some (.d (.lst (cs.map L3.D.int))), none, some (.d (.int (7919 + 104729 * salt)))] s' = .ok (.nx [some (.d (.scr ns)), some (.d (.int salt)), some (.d (.lst (cs.map L3.D.int))), x, some (.d (.int v))]) s' := e2
  rw [ev_seq, e4]
  simp only
  rw [ev_seq, e5]
  simp only [ev_ret, ev_lst, ev_cons, eRev, ev_ofN, e3, rb_ok, ev_nil, bindS_ok]
  simp [eVar, endF, dealOf]
end L3

/-! L3: the defs that every law has, what they answer: sameness. -/
namespace L3
open PySem PySem.Spec PyProof.Rows L2

def nice : Nat → L3.D → Bool
  | 0, _ => false
  | _ + 1, .non => true | _ + 1, .bl _ => true | _ + 1, .int _ => true
  | _ + 1, .str x => x.cps.all (· < 0x110000)
  | m + 1, .lst xs => decide (xs.length ≤ 16777216) && xs.all (nice m)
  | m + 1, .tup xs => decide (xs.length ≤ 16777216) && xs.all (nice m)
  | _ + 1, _ => false
theorem filter_no {α : Type} : ∀ xs : List α, xs.filter (fun _ => false) = []
  | [] => rfl
  | _ :: r => filter_no r
theorem zip_self : ∀ ds : List L3.D, zipD ds ds = ds.map fun d => .tup [d, d]
  | [] => rfl
  | d :: ds => congrArg (L3.D.tup [d, d] :: ·) (zip_self ds)
theorem str_eqv (x : Str) : D.eqv (.str x) (.str x) = true := by simp [D.eqv]
theorem same_ok : ∀ (m : Nat) (d : L3.D) (s : DS), nice m d = true → mfr__law_same m [d, d] s = .ok (.bl true) s
  | 0, _, _, h => by cases h
  | m + 1, d, s, h => by
    show endF (mb__law_same (mfr__law_same m) (argsE 4 [d, d]) s) = _
    have ha : argsE 4 [d, d] = [some (.d d), some (.d d), none, none] := rfl
    rw [ha]
    unfold mb__law_same
    cases d with
    | non => simp [eVar, L3.D.ty, isiB, truD, isD, endF, L3.D.isNon]
    | bl b => cases b <;> simp [eVar, L3.D.ty, isiB, truD, isD, endF, L3.D.isNon, L3.D.isB]
    | int i => simp [eVar, L3.D.ty, isiB, truD, isD, endF, L3.D.isNon, L3.D.isB, eqD, D.fits, D.eqv]
    | str x =>
      have hx : D.fits 64 (.str x) = true := by unfold D.fits; exact h
      simp [eVar, L3.D.ty, isiB, truD, isD, endF, L3.D.isNon, L3.D.isB, eqD, hx, str_eqv]
    | lst xs =>
      unfold nice at h
      rw [Bool.and_eq_true, List.all_eq_true, decide_eq_true_eq] at h
      have hc := compL_filter (tgt := hTup 2 (hCons (hName 2) (hCons (hName 3) hNil))) (t := tNot3 (tTru (eCall (mfr__law_same m) (aCons (eVar 2) (aCons (eVar 3) aNil))))) (e := eK (.int 0)) (ρ := [some (.d (.lst xs)), some (.d (.lst xs)), none, none]) (s := s)
        (fun d => .tup [d, d]) (fun _ => false) (fun _ => .int 0) xs (fun d hd => ⟨[some (.d (.lst xs)), some (.d (.lst xs)), some (.d d), some (.d d)], rfl, by
          simp [eVar, same_ok m d s (h.2 d hd), truD], fun hf => by cases hf⟩)
      rw [← zip_self] at hc
      simp only [List.append_nil, filter_no, List.map_nil] at hc
      simp [eVar, L3.D.ty, isiB, truD, isD, endF, L3.D.isNon, L3.D.isB, eqD, neD, D.fits, D.fitsAll, D.eqv, D.eqvs, hLen, lenD, iZip, wip, hc]
    | tup xs =>
      unfold nice at h
      rw [Bool.and_eq_true, List.all_eq_true, decide_eq_true_eq] at h
      have hc := compL_filter (tgt := hTup 2 (hCons (hName 2) (hCons (hName 3) hNil))) (t := tNot3 (tTru (eCall (mfr__law_same m) (aCons (eVar 2) (aCons (eVar 3) aNil))))) (e := eK (.int 0)) (ρ := [some (.d (.tup xs)), some (.d (.tup xs)), none, none]) (s := s)
        (fun d => .tup [d, d]) (fun _ => false) (fun _ => .int 0) xs (fun d hd => ⟨[some (.d (.tup xs)), some (.d (.tup xs)), some (.d d), some (.d d)], rfl, by
          simp [eVar, same_ok m d s (h.2 d hd), truD], fun hf => by cases hf⟩)
      rw [← zip_self] at hc
      simp only [List.append_nil, filter_no, List.map_nil] at hc
      simp [eVar, L3.D.ty, isiB, truD, isD, endF, L3.D.isNon, L3.D.isB, eqD, neD, D.fits, D.fitsAll, D.eqv, D.eqvs, hLen, lenD, iZip, wip, hc]
    | dic _ _ => cases h
    | fn _ => cases h
    | deal => cases h
    | scr _ => cases h
theorem eqD_int (i j : Int) : eqD (.int i) (.int j) = some (.bl (decide (i = j))) := rfl
theorem neD_int (i j : Int) : neD (.int i) (.int j) = some (.bl (!decide (i = j))) := rfl
theorem eqD_bl (i j : Bool) : eqD (.bl i) (.bl j) = some (.bl (i == j)) := rfl
theorem neD_bl (i j : Bool) : neD (.bl i) (.bl j) = some (.bl (!(i == j))) := rfl
theorem okR_small {n : Nat} (h : n ≤ 1000) : okR (n : Int) = true := by unfold okR; simp; omega
theorem iR1_ok {gl : GL} {ρ : Env3} {s s2 : DS} {n : Nat} (h : gl ρ s = .ok [.int (n : Int)] s2) (hn : n ≤ 1000) : iR1 gl ρ s = .ok (rngD 0 n) s2 := by
  have e4 : ((n : Int)).toNat = n := by omega
  have hb : (okR (n : Int) && decide ((n : Int) ≤ 16777216)) = true := by
    rw [okR_small hn, Bool.true_and]
    exact decide_eq_true (by omega)
  unfold iR1
  rw [h, rb_ok]
  split
  · rename_i j e
    cases e
    rw [if_pos hb, e4]
  · rename_i e
    exact (e _ rfl).elim
end L3

/-! L3: lambdas handed to a def that calls them. -/
namespace L3
open PySem PySem.Spec PyProof.Rows L2 PySem.L3X LamX

/-- tables grow, all else is kept -/
theorem grow_table {H : Hp} {P c : Addr} {q : Str} {ps more : Array Value} {W : Addr → Prop} (hP : H P = some (.tbl ps)) (nC : H c = none) : Grow W H (upd (upd H P (.tbl (ps ++ more))) c (CodeO c q)) := fun a o e _ => by
  by_cases ha : a = P
  · subst ha
    rw [hP] at e
    cases e
    exact .inr ⟨ps, ps ++ more, rfl, by rw [upd_ne (ne_of_none hP nC), upd_same]⟩
  · exact .inl (by rw [upd_ne (ne_of_none e nC), upd_ne ha]; exact e)
section
variable {X : Cx} {pins : List (Addr × Obj)} {σ : L2.St} {H : Hp} {s : Shared}
theorem lam_made {T : List (Addr × Str)} {c P : Addr} {params : Arguments} {body : Expr} {scope : Scope} {pos : Pos} {E : Value → Shared → Prop} {Q : Value → Shared → Prop} {W : Addr → Prop} (I : Inv X pins σ H s) (TB : TabB X.base X.mg c P) (hcode : X.env.code = .ref c)
    (hm : (P, X.env.qual ++ "<lambda>") ∈ T) (hu : ∀ p ∈ T, p.1 = P → p.2 = X.env.qual ++ "<lambda>") (hT : Tabs T H) (hdef : defaultsOf params X.env = ([], [])) (hfree : ∀ y ∈ scope.names, y.2 = .free → ∃ c, X.env.cells.lookup y.1 = some c)
    (h : ∀ (f c' : Addr) (pm ctv : Value) (H1 : Hp) (s' : Shared), Inv X pins σ H1 s' → Grow W H H1 → Tabs T H1 →
      s'.heap.get? f = some (PySem.W.kla_obj "<lambda>" (X.env.qual ++ "<lambda>") params body scope (cloFrom X.env.cells scope.names []) pm c' ctv) → H1 f = none → f ∉ frs X.stack → H1 c' = some (CodeO c' (X.env.qual ++ "<lambda>")) → Q (.ref f) s') :
    wpAny (model X.prog X.w) X.A (eval (.Lambda params body scope pos) X.env) Q E s := by
  obtain ⟨ps, hP, ht, ha⟩ := hT _ hm
  refine PySem.W.kla_eval hdef ?_
  have bP : s.heap.BuiltinsAt X.mg P := TB.bm.keeps I.bk
  have hP' : s.heap.get? P = some { cls := .none, data := .fields ps } := I.hok P _ hP
  have nofr : ∀ f, s.heap.objs.size ≤ f → f ∉ frs X.stack := fun f hf z => by
    rcases List.mem_cons.mp (I.stkSub _ z) with e | e
    · have h1 := I.lt
      rw [← e] at h1
      exact Nat.lt_irrefl _ (Nat.lt_of_lt_of_le h1 hf)
    · exact I.nofs hf e
  cases hc : codeAmong pos ps.toList with
  | none =>
    refine PySem.W.kla_makeFunction (mg := X.mg) (c := c) (P := P) (ps := ps) (closure_ok hfree) I.ok.glob (I.mod.glob.keeps I.bk) hcode (TB.code.keeps I.bk) hP' ht hc TB.gP bP fun c' ctv h' tk hx hge hlt hrec htb => ?_
    obtain ⟨c2, oc, vs, t, e2, hoc, hd, hv⟩ := hrec
    cases e2
    have hsz : s.heap.objs.size ≤ h'.objs.size := Nat.le_trans hge (Nat.le_of_lt hlt)
    have nC : H c' = none := I.hok.fresh hge
    have I1 := inv_table (t' := tk) (more := #[rawInt pos.line, rawInt pos.col, .ref c']) (h' := h'.push (PySem.W.kla_obj "<lambda>" (X.env.qual ++ "<lambda>") params body scope (cloFrom X.env.cells scope.names []) ((X.mg "__name__").getD .none) c' ctv)) I hP
      (fun b o hb e => Heap.get?_push_of_some _ (hx b o hb e)) (Heap.get?_push_of_some _ htb) hge ⟨oc, vs, t, Heap.get?_push_of_some _ hoc, hd, hv⟩
    have hE : ExtN H (upd (upd H P (.tbl (ps ++ #[rawInt pos.line, rawInt pos.col, .ref c']))) c' (CodeO c' (X.env.qual ++ "<lambda>"))) := fun b o e n => by
      rw [upd_ne (ne_of_none e nC), upd_ne (fun z => n ps (Option.some.inj (e.symm.trans (by rw [z]; exact hP))))]
      exact e
    have eL : (ps ++ #[rawInt pos.line, rawInt pos.col, .ref c']).toList = ps.toList ++ [rawInt pos.line, rawInt pos.col, .ref c'] := by simp
    refine h h'.objs.size c' ((X.mg "__name__").getD .none) ctv _ _ I1 (grow_table hP nC) (fun p hp => ?_) (Heap.get?_push_size _ rfl) ?_ (nofr _ hsz) upd_same
    · by_cases hb : p.1 = P
      · rw [hu p hp hb, hb]
        refine ⟨_, by rw [upd_ne (ne_of_none hP nC), upd_same], by rw [eL]; exact PySem.TriplesOk_snoc _ _ _ _ ht, fun p' cv hcv => ?_⟩
        rw [eL] at hcv
        rcases among_app _ ht hcv with z | z
        · obtain ⟨c0, e1, e2⟩ := ha p' cv z
          exact ⟨c0, e1, hE _ _ e2 codeO_ne⟩
        · exact ⟨c', z, upd_same⟩
      · obtain ⟨ps', a1, a2, a3⟩ := hT p hp
        refine ⟨ps', by rw [upd_ne (ne_of_none a1 nC), upd_ne hb]; exact a1, a2, fun p' cv hcv => ?_⟩
        obtain ⟨c0, e1, e2⟩ := a3 p' cv hcv
        exact ⟨c0, e1, hE _ _ e2 codeO_ne⟩
    · have n1 : h'.objs.size ≠ c' := Nat.ne_of_gt hlt
      have n2 : h'.objs.size ≠ P := Nat.ne_of_gt (Nat.lt_of_lt_of_le (Heap.lt_size hP') hsz)
      rw [upd_ne n1, upd_ne n2]
      exact I.hok.fresh hsz
  | some cv =>
    obtain ⟨c', e, hco⟩ := ha pos cv hc
    subst e
    refine PySem.W.kla_makeFunctionHit (mg := X.mg) (c := c) (P := P) (ps := ps) (closure_ok hfree) I.ok.glob (I.mod.glob.keeps I.bk) hcode (TB.code.keeps I.bk) hP' ht hc bP fun ctv h' tk hx hsz => ?_
    have I1 : Inv X pins σ H { s with heap := h'.push (PySem.W.kla_obj "<lambda>" (X.env.qual ++ "<lambda>") params body scope (cloFrom X.env.cells scope.names []) ((X.mg "__name__").getD .none) c' ctv), toks := tk } := I.kept fun b o e => Heap.get?_push_of_some _ (hx b o e)
    exact h h'.objs.size c' ((X.mg "__name__").getD .none) ctv H _ I1 (Grow.refl _ H) hT (Heap.get?_push_size _ rfl) (I.hok.fresh hsz) (nofr _ hsz) hco
end
/-! ### the def that is handed a lambda: try: return ('told', work()) / except C as wrong: return (word, wrong.at) / .. -/
/-- one clause's text -/
structure HClT where
  x : Str
  w : Str
  np : Pos
  j : Nat
  k : Nat
  p1 : Pos
  p2 : Pos
  p3 : Pos
  p4 : Pos
  p5 : Pos
  p6 : Pos
def HClT.hd (n : Str) (c : HClT) : ExceptHandler := .ExceptHandler (some (.Name c.x c.np)) (some n) [.Return (some (.Tuple [.Constant (.str c.w) c.j c.p1, .Attribute (.Name n c.p2) "at" c.p3] c.k c.p4)) c.p5] c.p6
/-- what is wished of an exception: the words in their order -/
def hChain (P : Program) (K : PySem.W.Frag) (mg : Str → Option Value) (Q : VK) : List HClT → XK
  | [] => fun _ _ _ => False
  | c :: r => fun cls dd H => ∃ b Cx, mg c.x = some (.ref Cx) ∧ PySem.W.exmOne K cls (.ref Cx) = some b ∧
      (b = true → ∃ C fI d v z, cls = .ref C ∧ dd = some d ∧ ErrTxt P K mg z C fI ∧ H d = some (.xd [(("at" : Str), v)]) ∧ ∀ q, H q = none → Q (.ref q) (upd H q (.tup [.str c.w, v]))) ∧
      (b = false → hChain P K mg Q r cls dd H)
/-- what a suite does -/
def hTs (P : Program) (K : PySem.W.Frag) (mg : Str → Option Value) (w : Str) : Addr → Value → Option Addr → TS := fun a cls dd D σ H => ∃ C fI d v z, cls = .ref C ∧ dd = some d ∧ ErrTxt P K mg z C fI ∧ H d = some (.xd [(("at" : Str), v)]) ∧ (1 < σ.length → σ[1]? = some (some (.ref a))) ∧ ∀ q, H q = none → D.rt (.ref q) (upd H q (.tup [.str w, v]))
section
variable {X : Cx} {n : Str}
theorem hSuite (c : HClT) (hN : X.N.Nodup) (h1 : X.N[1]? = some n) (hv : Vis X.env.scope n) (hd : (n == ("__debug__" : Str)) = false) (hcd : (n == ("__classdict__" : Str)) = false)
    (hb : attributeBase (.Name n c.p2) "at" X.env (eval (.Name n c.p2) X.env) = eval (.Name n c.p2) X.env := by rfl) :
    SuiteOk X [.Return (some (.Tuple [.Constant (.str c.w) c.j c.p1, .Attribute (.Name n c.p2) "at" c.p3] c.k c.p4)) c.p5] (hTs X.prog X.K X.mg c.w) := fun a oe cls dd pn hz hf => by
  refine ⟨fun pins s σ H D I h => ?_⟩
  obtain ⟨C, fI, d, v, z, rfl, rfl, T, hx, hσ, hq⟩ := h
  refine (pss_one (ps_ret (pe_tup (pa_cons pe_str (pa_cons can_e pa_nil))))).run pins s σ H D I ?_
  refine at_read (X := X) T hz hf hN h1 (pe_var h1 hv hd hcd) hx hσ ?_ hb
  exact ⟨by show 2 ≤ sizeLine; rw [sizeLine_is]; decide, hq⟩
inductive HCls (X : Cx) : List HClT → List Cl3 → Prop
  | nil : HCls X [] []
  | cons {c : HClT} {r : List HClT} {l : List Cl3} {Cx : Addr} (hg : Gl X c.x) (hd : (c.x == ("__debug__" : Str)) = false) (hm : X.mg c.x = some (.ref Cx)) (t : HCls X r l) : HCls X (c :: r) (⟨some 1, .ref Cx, hTs X.prog X.K X.mg c.w⟩ :: l)
theorem HCls.cls3 (hN : X.N.Nodup) (h1 : X.N[1]? = some n) (hk : X.env.kindOf n = some .local) (hv : Vis X.env.scope n) (hd : (n == ("__debug__" : Str)) = false) (hcd : (n == ("__classdict__" : Str)) = false) (hb : ∀ p, attributeBase (.Name n p) "at" X.env (eval (.Name n p) X.env) = eval (.Name n p) X.env) :
    ∀ {cs : List HClT} {l : List Cl3}, HCls X cs l → Cls3 X (cs.map (HClT.hd n)) l
  | _, _, .nil => .nil
  | _, _, .cons (c := c) hg hd2 hm t => .named h1 hk ⟨hg, hd2, .inl hm⟩ (hSuite c hN h1 hv hd hcd (hb _)) (t.cls3 hN h1 hk hv hd hcd hb)
/-- the wish handed to the lambda -/
theorem HCls.wish {D : Ends} : ∀ {cs : List HClT} {l : List Cl3}, HCls X cs l → ∀ (cls : Value) (dd : Option Addr) (σ : Sl) (H : Hp), hChain X.prog X.K X.mg D.rt cs cls dd H → wCl X.K (fun _ _ _ _ => False) D l cls dd σ H
  | _, _, .nil, _, _, _, _, h => h
  | _, _, .cons hg hd hm t, cls, dd, σ, H, h => by
    obtain ⟨b, Cx, e1, e2, e3, e4⟩ := h
    rw [hm] at e1
    cases e1
    refine ⟨b, e2, fun hb a na => ?_, fun hb => t.wish cls dd σ H (e4 hb)⟩
    obtain ⟨C, fI, d, v, z, h1, h2, h3, h4, h5⟩ := e3 hb
    exact ⟨C, fI, d, v, z, h1, h2, h3, h4, fun hl => by
      unfold onI at hl ⊢
      rw [List.length_set] at hl
      rw [List.getElem?_set_self hl], h5⟩
end
end L3

/-! L3: lambdas handed to a def that calls them: the call. -/
namespace L3
open PySem PySem.Spec PyProof.Rows L2 PySem.L3X LamX

def hearD (kn : List Str) (x : Xc) (s : DS) : List HClT → R L3.D
  | [] => .bad
  | c :: r => if kn.contains x.cls = true then (if (x.cls == c.x) = true then .ok (.tup [.str c.w, x.at_]) s else hearD kn x s r) else .bad
def eHeard (cs : List HClT) (kn : List Str) (gl : G) : G := fun ρ s => match gl ρ s with
  | .ok d s' => .ok (.tup [.str "told", d]) s'
  | .exc x s' => hearD kn x s' cs
  | .bad => .bad
/-- the def x of one parameter a that tries it and tells -/
structure Heard (P : Program) (K : PySem.W.Frag) (mg : Str → Option Value) (x a n : Str) (cs : List HClT) (kn : List Str) : Prop where
  fn : ∃ (g : Addr) (oc : Value) (od : Option Addr) (osl : Array (Option Value)) (pg : Arguments) (sg : Scope) (dV kV doc pm cdv ct : Value) (an : Option Addr) (j k : Nat) (p1 p2 p3 p4 p5 p6 : Pos),
    mg x = some (.ref g) ∧ PySem.W.keepIn K (.ref g) = true ∧
    K.lookup g = some ⟨oc, od, .func (PySem.W.fnOf x x pg [.Try [.Return (some (.Tuple [.Constant (.str "told") j p1, .Call (.Name a p2) [] [] p3] k p4)) p5] (cs.map (HClT.hd n)) [] [] p6] sg dV kV doc pm an cdv ct), osl⟩ ∧
    PySem.W.codeIn K cdv x = true ∧ L2.Binds K (PySem.W.fnOf x x pg [.Try [.Return (some (.Tuple [.Constant (.str "told") j p1, .Call (.Name a p2) [] [] p3] k p4)) p5] (cs.map (HClT.hd n)) [] [] p6] sg dV kV doc pm an cdv ct) [a] [] ∧
    FnScope [a, n] [a] sg ∧ sg.names.lookup a = some .local ∧ sg.names.lookup n = some .local ∧ (∀ c ∈ cs, sg.names.lookup c.x = some .globalImplicit) ∧ cs ≠ []
  dba : (a == ("__debug__" : Str)) = false
  dba2 : (a == ("__classdict__" : Str)) = false
  dbn : (n == ("__debug__" : Str)) = false
  dbn2 : (n == ("__classdict__" : Str)) = false
  cls : ∀ c ∈ cs, (c.x == ("__debug__" : Str)) = false ∧ KnOk P K mg c.x kn
theorem hChain_of {P : Program} {K : PySem.W.Frag} {mg : Str → Option Value} {kn : List Str} {Γ : Sta} {F : Addr → Prop} {ρ : Env3} {σ : Sl} {H : Hp} {Q : VK} {Wx : WX} {x : Xc} {s : DS} {cls : Value} {dd : Option Addr} (hmg : Γ.mg = mg) (S : SR Γ F ρ s σ H) (e : ExcIs Γ F H cls dd x) :
    ∀ (cs : List HClT), (∀ c ∈ cs, KnOk P K mg c.x kn) → Post Rep Γ F ρ σ H Q Wx (hearD kn x s cs) → hChain P K mg Q cs cls dd H
  | [], _, p => p
  | c :: r, h, p => by
    unfold hearD at p
    split at p
    · rename_i hkn
      obtain ⟨Cx, h1, h2⟩ := h c List.mem_cons_self
      obtain ⟨C', d', v, e1, e2, e3, e4, e5⟩ := id e
      obtain ⟨C, fI, T, hx⟩ := h2 x.cls (by simpa using hkn)
      have eC : C' = C := by
        have z := T.gC
        rw [← hmg, e1] at z
        cases z; rfl
      subst eC e2 e3
      refine ⟨_, Cx, h1, hx, fun hb => ⟨C', fI, d', v, _, rfl, rfl, T, e4, fun q hq => ?_⟩, fun hb => hChain_of hmg S e r (fun c hc => h c (List.mem_cons_of_mem _ hc)) (by rw [if_neg (by rw [hb]; exact Bool.false_ne_true)] at p; exact p)⟩
      rw [if_pos hb] at p
      exact p _ _ (Grow.new hq) (S.laid hq) (.tup ⟨.inl (.inl upd_same), fun z => (S.notF hq z).elim⟩ (.cons (.str _) (.cons (e5.grown S (Grow.new hq)) .nil)))
    · exact p.elim
theorem hCls_mk {X : Cx} {P : Program} {kn : List Str} : ∀ (cs : List HClT), (∀ c ∈ cs, Gl X c.x) → (∀ c ∈ cs, (c.x == ("__debug__" : Str)) = false ∧ KnOk P X.K X.mg c.x kn) → ∃ l, HCls X cs l
  | [], _, _ => ⟨[], .nil⟩
  | c :: r, h1, h2 => by
    obtain ⟨l, hl⟩ := hCls_mk r (fun c hc => h1 c (List.mem_cons_of_mem _ hc)) fun c hc => h2 c (List.mem_cons_of_mem _ hc)
    obtain ⟨Cx, h3, _⟩ := (h2 c List.mem_cons_self).2
    exact ⟨_, .cons (h1 c List.mem_cons_self) (h2 c List.mem_cons_self).1 h3 hl⟩
theorem conLam {Γ : Sta} {X : Cx} {T : List (Addr × Str)} {j k : Nat} {A : Around} {outer : List Env} {s : Shared} {H : Hp} {E : XK} {scope : Scope} {f c' : Addr} (c : Con Γ X T j) (hr : Room k (A.deeper (lamEnv X scope s.heap.objs.size f c'))) : Con Γ (lamCx X A outer s H E scope f c') T k :=
  ⟨c.hK, c.hm, c.hT, hr, rfl, c.hN⟩
/-- x(lambda: body) -/
theorem e_heard {Γ : Sta} {X : Cx} {T : List (Addr × Str)} {j k : Nat} {x a n : Str} {cs : List HClT} {kn : List Str} {gl : G} {cl Pt : Addr} {params : Arguments} {body : Expr} {scope : Scope} {p lpos pos : Pos} (c : Con Γ X T j) (hh : Heard X.prog X.K X.mg x a n cs kn)
    (TB : TabB X.base X.mg cl Pt) (hcode : X.env.code = .ref cl) (hmT : (Pt, X.env.qual ++ "<lambda>") ∈ T) (hu : ∀ p ∈ T, p.1 = Pt → p.2 = X.env.qual ++ "<lambda>") (hk : k + 2 ≤ j) (hb : ∀ (A : Around) (outer : List Env) (s : Shared) (H : Hp) (E : XK) (f c' : Addr), Con Γ (lamCx X A outer s H E scope f c') T k → E3 Γ (lamCx X A outer s H E scope f c') body gl)
    (L : LamS X.env.scope scope) (hg : Gl X x := by rfl) (hdef : defaultsOf params X.env = ([], []) := by rfl)
    (hbind : ∀ (q : Str) (cl : List (Str × Addr)) (pm cv ctv : Value), bindArgs (PySem.W.kla_fn "<lambda>" q params body scope cl pm cv ctv) ⟨[], []⟩ = pure [] := by intros; rfl) (hdb : (x == ("__debug__" : Str)) = false := by decide) :
    E3 Γ X (.Call (.Name x p) [.Lambda params body scope lpos] [] pos) (eHeard cs kn gl) :=
  ⟨fun Wx F ρ s σ H Q tk S pp pins sh I => by
    obtain ⟨g, oc, od, osl, pg, sg, dV, kV, doc, pm, cdv, ct, an, jj, kk, p1, p2, p3, p4, p5, p6, hm, hkp, lk, hcg, hbd, Sg, hla, hln, hgl, hne⟩ := hh.fn
    refine wpAny_Call_Name_kw (ld_glob I hg hm ?_ hdb)
    refine PySem.W.callWith_K (h₀ := X.base) I.ok.mod.kin hkp ?_ (by rfl) (by rfl)
    show wpAny _ _ (spliced ((false, eval (.Lambda params body scope lpos) X.env) :: backTo pos (starEach [] X.env))) _ _ sh
    refine Calls.spliced_cons (lam_made (W := fun _ => False) (T := T) I TB hcode hmT hu (c.hT ▸ S.tabs) hdef (L.has I.ok) fun f c' pm' ctv H1 s' I1 g0 T1 hf hfn hfr hco => ?_)
    refine Calls.spliced_nil ⟨I1.kIn, ?_⟩
    have g1 : Grow Γ.G H H1 := g0.mono fun _ h => h.elim
    have S1 : SR Γ F ρ s σ H1 := S.grown g1 (S.deal.keep fun a xs _ e => g0.at_ e (fun h => h) (fun ps z => by cases z)) (c.hT.symm ▸ T1)
    have pp1 := pp.later g1
    have rc : codeAny (model X.prog X.w) X.A (.call (.ref g) ⟨[.ref f], []⟩) (CR C8.CX0 X.stack X.prog X.w H1 s' Q C8.E0) s' := by
      refine run_ofS (N := [a, n]) (ps := [a]) (us := [.ref f]) (vs := [.ref f]) lk hcg Sg (c.hr.mono hk) I1.env0 (hbd s' [.ref f] I1.kIn rfl) (.cons rfl .nil) rfl fun hr' => ?_
      obtain ⟨l, hl⟩ := hCls_mk (X := (cxOf C8.CX0 X.prog X.w X.K X.mg X.base [a, n] x sg g cdv X.A X.stack s' H1 C8.E0).nox) cs hgl hh.cls
      cases cs with
      | nil => exact (hne rfl).elim
      | cons c0 cr =>
        have hc3 := hl.cls3 (n := n) (X := (cxOf C8.CX0 X.prog X.w X.K X.mg X.base [a, n] x sg g cdv X.A X.stack s' H1 C8.E0).nox) Sg.nd rfl hln (.inl hln) hh.dbn hh.dbn2 (fun _ => by rfl)
        refine ⟨_, (pss_one (ps_try3 (X := (cxOf C8.CX0 X.prog X.w X.K X.mg X.base [a, n] x sg g cdv X.A X.stack s' H1 C8.E0).nox) (Wout := fun _ _ _ _ => False)
          (tb := fun W D σZ HZ => ∃ Ech : XK, (∀ cls d σ' H', Ech cls d H' → W cls d σ' H') ∧ σZ[0]? = some (some (.ref f)) ∧ HZ c' = some (CodeO c' (X.env.qual ++ "<lambda>")) ∧
            ∀ (A : Around) (outer : List Env) (s0 : Shared) (H0 : Hp), Room k (A.deeper (lamEnv X scope s0.heap.objs.size f c')) → tE (lamCx X A outer s0 H0 Ech scope f c') body σ HZ (fun v H' => 2 ≤ sizeLine ∧ ∀ q, H' q = none → D.rt (.ref q) (upd H' q (.tup [.str "told", v]))))
          rfl rfl Sg.nd LamX.takes0 (fun W pn xe tk hp => ?_) hc3)).nox, ?_⟩
        · refine ⟨fun pins s'' σZ HZ D IZ h' => ?_⟩
          obtain ⟨Ech, hW, h1, h2, h3⟩ := h'
          have hp := pe_act (CXg := C8.CX0) (Eg := C8.E0) (i := 0) (E := Ech) (k := k) (p1 := p2) (p2 := p3) (tb := fun σ HZ Q => ∀ (A : Around) (outer : List Env) (s0 : Shared) (H0 : Hp), Room k (A.deeper (lamEnv X scope s0.heap.objs.size f c')) → tE (lamCx X A outer s0 H0 Ech scope f c') body σ HZ Q)
            I1 L hf hfn hfr (hbind _ _ _ _ _) tk hW hr' (fun A outer s H hr2 => ⟨fun pins s σ H Q I h => h A outer _ _ hr2 pins s I⟩) (Ng := [a, n]) (a := a) rfl (.inl hla) hh.dba hh.dba2
          exact (pss_one (ps_ret (pos := p5) (pe_tup (pa_cons pe_str (pa_cons hp pa_nil))))).run pins s'' σZ HZ D IZ ⟨h1, h2, h3⟩
        · refine ⟨hChain X.prog X.K X.mg Q (c0 :: cr), fun cls d σ' H' h => hl.wish cls d σ' H' h, rfl, hco, fun A outer s0 H0 hr2 => ?_⟩
          refine (hb A outer s0 H0 (hChain X.prog X.K X.mg Q (c0 :: cr)) f c' (conLam c hr2)).run (fun cls d _ H' => hChain X.prog X.K X.mg Q (c0 :: cr) cls d H') F ρ s σ H1 _ (takes_of rfl rfl rfl rfl) S1 ?_
          unfold eHeard at pp1
          cases q : gl ρ s with
          | ok d s2 =>
            rw [q] at pp1
            exact fun v H' g' S' r => ⟨by rw [sizeLine_is]; decide, fun q hq => pp1 _ _ (g'.trans (Grow.new hq)) (S'.laid hq) (.tup ⟨.inl (.inl upd_same), fun z => (S'.notF hq z).elim⟩ (.cons (.str _) (.cons (r.grown S' (Grow.new hq)) .nil)))⟩
          | exc y s2 =>
            rw [q] at pp1
            exact fun cls dd H' g' S' e => hChain_of (Wx := Wx) c.hm S' e (c0 :: cr) (fun c hc => (hh.cls c hc).2) (pp1.later g')
          | bad => rw [q] at pp1; exact pp1.elim
    refine wpAny_call (codeAny_mono rc fun r s2 hq => ?_)
    cases r with
    | error e => exact (show False from hq).elim
    | ok fl =>
      cases fl with
      | ret u => exact I1.after hq
      | next => exact False.elim hq
      | brk => exact False.elim hq
      | cont => exact False.elim hq⟩
end L3

/-! L3: pairs of names, dicts, defs with their code. -/
namespace L3
open PySem PySem.Spec PyProof.Rows L2 PySem.L3X LamX

def sPar2 (i j : Nat) (g : GL) : GS := fun ρ s => bindS (g ρ s) ρ fun ds s1 => match ds with | [d, e] => .ok (.nx ((ρ.set i (some (.d d))).set j (some (.d e)))) s1 | _ => .bad
def eDic0 : G := fun _ s => .ok (.dic [] []) s
@[simp] theorem ev_par2 (i j : Nat) (g : GL) (ρ : Env3) (s : DS) : sPar2 i j g ρ s = bindS (g ρ s) ρ fun ds s1 => match ds with | [d, e] => .ok (.nx ((ρ.set i (some (.d d))).set j (some (.d e)))) s1 | _ => .bad := rfl
@[simp] theorem ev_dic0 (ρ : Env3) (s : DS) : eDic0 ρ s = .ok (.dic [] []) s := rfl
section
variable {Γ : Sta} {X : Cx} {T : List (Addr × Str)} {k : Nat} {a b : Expr} {gl : GL} {px py pt pt2 pos : Pos} {kt k2 : Nat}
theorem s_par2 {i j : Nat} {x y : Str} (c : Con Γ X T k) (hi : X.N[i]? = some x) (hj : X.N[j]? = some y) (hij : i ≠ j) (hx : X.env.scope.names.lookup x = some .local) (hy : X.env.scope.names.lookup y = some .local) (ha : A3 Γ X [a, b] gl)
    (hw : swappedStores [.Tuple [.Name x px, .Name y py] kt pt] (.Tuple [a, b] k2 pt2) X.env = pure (some [x, y]) := by rfl)
    (hs : swapsWithSole [.Tuple [.Name x px, .Name y py] kt pt] (.Tuple [a, b] k2 pt2) pos.line X.env = pure false := by rfl) :
    S3 Γ X (.Assign [.Tuple [.Name x px, .Name y py] kt pt] (.Tuple [a, b] k2 pt2) pos) (sPar2 i j gl) :=
  ⟨fun Wx F ρ s σ H D tk S pp pins sh I => by
    have hl1 : i < σ.length := by rw [I.len]; exact (List.getElem?_eq_some_iff.mp hi).1
    have hl2 : j < σ.length := by rw [I.len]; exact (List.getElem?_eq_some_iff.mp hj).1
    refine toS (ps_par c.hc c.hN hi hj hij hx hy can_a hw hs) (ha.run Wx F ρ s σ H _ tk S (pp.bind S fun ds s1 vs H1 g1 S1 r1 p1 => ?_)) pins sh I
    split at p1
    · cases r1 with
      | cons r t =>
        cases t with
        | cons r2 t =>
          cases t
          exact ⟨_, _, rfl, p1.nx ((S1.put r hl1).put r2 (by rw [List.length_set]; exact hl2))⟩
    · exact p1.elim⟩
/-- {} -/
theorem e_dic0 : E3 Γ X (.Dict [] [] pos) eDic0 :=
  ⟨fun Wx F ρ s σ H Q tk S pp => toE pe_dnewK (fun p hp => by
    have r : Rep Γ F (upd H p (.dK [])) (.ref p) (.dic (([] : List (Key × V)).map fun kv => kD kv.1) []) := .dic upd_same (S.notF hp) .nil
    exact pp _ _ (Grow.new hp) (S.laid hp) r)⟩
end
/-! ### the end of a law whose defs make lambdas -/
theorem heard_mk {P : Program} {K : PySem.W.Frag} {mg : Str → Option Value} {x a n : Str} {st : Stmt} {g : Addr} {fd : FuncData} {cs : List HClT} {kn : List Str} {j k : Nat} {p1 p2 p3 p4 p5 p6 : Pos} (F : Fun K x x st g fd) (hm : mg x = some (.ref g))
    (hb : defBody st = [.Try [.Return (some (.Tuple [.Constant (.str "told") j p1, .Call (.Name a p2) [] [] p3] k p4)) p5] (cs.map (HClT.hd n)) [] [] p6])
    (hbd : ∀ (kV doc pm : Value) (an : Option Addr) (cdv ct : Value) (us : List Value), us.length = ([a] : List Str).length → bindArgs (PySem.W.fnOf x x (defArgs st) (defBody st) (defScope st) .none kV doc pm an cdv ct) ⟨us, []⟩ = pure (([a] : List Str).zip us))
    (S : FnScope [a, n] [a] (defScope st)) (h1 : (defScope st).names.lookup a = some .local) (h2 : (defScope st).names.lookup n = some .local) (h3 : ∀ c ∈ cs, (defScope st).names.lookup c.x = some .globalImplicit) (h4 : cs ≠ [])
    (d1 : (a == ("__debug__" : Str)) = false) (d2 : (a == ("__classdict__" : Str)) = false) (d3 : (n == ("__debug__" : Str)) = false) (d4 : (n == ("__classdict__" : Str)) = false) (d5 : ∀ c ∈ cs, (c.x == ("__debug__" : Str)) = false) (h5 : ∀ c ∈ cs, KnOk P K mg c.x kn) : Heard P K mg x a n cs kn := by
  have hbb := F.binds hbd
  have hkp := F.kp
  obtain ⟨oc, od, kV, doc, pm, an, cdv, ct, osl, rfl, lk, hcd⟩ := F.ex
  rw [hb] at lk hbb
  exact ⟨⟨g, oc, od, osl, _, _, _, _, _, _, _, _, _, j, k, p1, p2, p3, p4, p5, p6, hm, hkp, lk, hcd, hbb, S, h1, h2, h3, h4⟩, d1, d2, d3, d4, fun c hc => ⟨d5 c hc, h5 c hc⟩⟩
theorem walk_ofDefs {l : PySem.W.OpenLaw} {n k : Nat} {q : Program} {loose : List Str} {XP : (Str → Option Value) → Heap → Prop} {YP : World → Heap → Prop} {d : DefRec} {K : Params → PySem.W.Frag} {CX : World → CXT} {x : Str}
    (hn : l.most = some n) (hn2 : n ≤ sizeLine) (hdf : d.params.defaults = []) (hr : Room k callerA) (hY : ∀ (w : World) (h : Heap), YP w h → (K w.params).In h)
    (F : ∀ (w : World) (mg : Str → Option Value) (fa : Addr) (h : Heap), (K w.params).In h → h.Ns mainGlobals mg → mg d.name = some (.ref fa) → (∀ (nm : Str) (a : Addr), ((recsOf q).any fun e => e.name == nm) = true → mg nm = some (.ref a) → OwnTab (K w.params) a h) → LawAtS l w (K w.params) (CX w) k n x mg fa h)
    (hCX : ∀ (w : World) (H : Hp) (s : Shared) (e : Value) (s' : Shared), CX w [] H s (fun _ _ _ => False) e s' → False) :
    PySem.W.WalkO q loose XP YP l.row.toRowW d [] (fun f vs => PySem.call f vs) := by
  refine Att.attach_callB hn hdf fun w s₀ s₁ mg mb fa o pm cd doc a vs ns G Y ho hd hcd hmg hobj hints hlen hbits hg => ?_
  have KX := hY w _ Y
  have own : ∀ (nm : Str) (a : Addr), ((recsOf q).any fun e => e.name == nm) = true → mg nm = some (.ref a) → OwnTab (K w.params) a s₁.heap := fun nm a hrec hnm c P o1 fd1 e dd vs1 sl k1 k2 k3 k4 k5 => by
    obtain ⟨dL, hm, hn1⟩ := List.any_eq_true.mp hrec
    have hn2 : dL.name = nm := beq_iff_eq.mp hn1
    obtain ⟨a', o', fd', c', P', h1, h2, h3, h4, h5, h6⟩ := G.T.tab dL hm
    rw [hn2, hnm] at h1
    cases h1
    have g1 := KX _ _ k1
    rw [g1] at h2
    cases h2
    rw [k2] at h3
    cases h3
    rw [k3] at h4
    cases h4
    obtain ⟨⟨oc, vc, e1, _, e3, e4⟩, hP⟩ := h6
    have g2 := KX _ _ k4
    rw [g2] at e1
    cases e1
    cases e3
    rw [k5] at e4
    cases e4
    exact hP
  obtain ⟨fd, cs, sp, hT, nT, C, hb, hsp, hF⟩ := F w mg fa _ KX G.T.g hmg own
  exact law_callTs KX G.T.g G.T.b G.T.builtins G.T.nolimit hg hT nT C G.T.bmain hobj hints (Nat.le_trans hlen hn2) hr hF hb (fun H hH hS => hsp H a ns hlen hbits hH hS) fun H e s' => hCX w H s₁ e s'
end L3

namespace K21
open PySem PySem.Spec PyProof.Rows L2 L3 PySem.L3X LamX
/-! ### the text -/
def topS (i : Nat) : Stmt := PySem.Challenge.pw_whateverisput_k21_whole_counters.main.body.getD i (.Pass ⟨0, 0, 0, 0⟩)
abbrev st_is_integer : Stmt := topS 5
abbrev st_is_sequence : Stmt := topS 6
abbrev st_is_number : Stmt := topS 11
abbrev st_is_take_give : Stmt := topS 12
abbrev st_checked_deeds : Stmt := topS 13
abbrev st_checked_number : Stmt := topS 14
abbrev st_counter_by : Stmt := topS 15
abbrev st_counter_after : Stmt := topS 16
abbrev st_one_behind : Stmt := topS 17
abbrev st_as_one_by : Stmt := topS 18
abbrev st_deeds_as_one : Stmt := topS 19
abbrev st_loops_by : Stmt := topS 20
abbrev st_repeated : Stmt := topS 21
abbrev st__law_draw : Stmt := topS 23
abbrev st__law_any : Stmt := topS 24
abbrev st__law_of : Stmt := topS 25
abbrev st__law_same : Stmt := topS 26
abbrev st__law_as_one : Stmt := topS 27
abbrev st__law_some_pairs : Stmt := topS 28
abbrev st__law_done : Stmt := topS 29
abbrev st_law : Stmt := topS 31
theorem sc_is_integer : FnScope ["value"] ["value"] (defScope st_is_integer) := ⟨rfl, rfl, rfl, by decide +kernel, rfl, by decide +kernel, by decide +kernel⟩
theorem sc_is_sequence : FnScope ["value"] ["value"] (defScope st_is_sequence) := ⟨rfl, rfl, rfl, by decide +kernel, rfl, by decide +kernel, by decide +kernel⟩
theorem sc_is_number : FnScope ["value"] ["value"] (defScope st_is_number) := ⟨rfl, rfl, rfl, by decide +kernel, rfl, by decide +kernel, by decide +kernel⟩
theorem sc_is_take_give : FnScope ["value"] ["value"] (defScope st_is_take_give) := ⟨rfl, rfl, rfl, by decide +kernel, rfl, by decide +kernel, by decide +kernel⟩
theorem sc_checked_deeds : FnScope ["deeds", "deed"] ["deeds"] (defScope st_checked_deeds) := ⟨rfl, rfl, rfl, by decide +kernel, rfl, by decide +kernel, by decide +kernel⟩
theorem sc_checked_number : FnScope ["value", "at"] ["value", "at"] (defScope st_checked_number) := ⟨rfl, rfl, rfl, by decide +kernel, rfl, by decide +kernel, by decide +kernel⟩
theorem sc_counter_by : FnScope ["deed", "number"] ["deed", "number"] (defScope st_counter_by) := ⟨rfl, rfl, rfl, by decide +kernel, rfl, by decide +kernel, by decide +kernel⟩
theorem sc_counter_after : FnScope ["deeds", "number", "deed"] ["deeds", "number"] (defScope st_counter_after) := ⟨rfl, rfl, rfl, by decide +kernel, rfl, by decide +kernel, by decide +kernel⟩
theorem sc_one_behind : FnScope ["one", "other", "take", "give"] ["one", "other"] (defScope st_one_behind) := ⟨rfl, rfl, rfl, by decide +kernel, rfl, by decide +kernel, by decide +kernel⟩
theorem sc_as_one_by : FnScope ["deeds", "found", "deed"] ["deeds"] (defScope st_as_one_by) := ⟨rfl, rfl, rfl, by decide +kernel, rfl, by decide +kernel, by decide +kernel⟩
theorem sc_deeds_as_one : FnScope ["deeds"] ["deeds"] (defScope st_deeds_as_one) := ⟨rfl, rfl, rfl, by decide +kernel, rfl, by decide +kernel, by decide +kernel⟩
theorem sc_loops_by : FnScope ["deed", "times", "net"] ["deed", "times"] (defScope st_loops_by) := ⟨rfl, rfl, rfl, by decide +kernel, rfl, by decide +kernel, by decide +kernel⟩
theorem sc_repeated : FnScope ["deed", "times"] ["deed", "times"] (defScope st_repeated) := ⟨rfl, rfl, rfl, by decide +kernel, rfl, by decide +kernel, by decide +kernel⟩
theorem sc__law_draw : FnScope ["script", "salt", "cells", "cell", "blend"] ["script", "salt"] (defScope st__law_draw) := ⟨rfl, rfl, rfl, by decide +kernel, rfl, by decide +kernel, by decide +kernel⟩
theorem sc__law_any : FnScope ["deal", "bound", "rest"] ["deal", "bound"] (defScope st__law_any) := ⟨rfl, rfl, rfl, by decide +kernel, rfl, by decide +kernel, by decide +kernel⟩
theorem sc__law_of : FnScope ["deal", "some"] ["deal", "some"] (defScope st__law_of) := ⟨rfl, rfl, rfl, by decide +kernel, rfl, by decide +kernel, by decide +kernel⟩
theorem sc__law_same : FnScope ["value", "due", "one", "other"] ["value", "due"] (defScope st__law_same) := ⟨rfl, rfl, rfl, by decide +kernel, rfl, by decide +kernel, by decide +kernel⟩
theorem sc__law_as_one : FnScope ["deeds", "take", "give", "one", "other", "lack"] ["deeds"] (defScope st__law_as_one) := ⟨rfl, rfl, rfl, by decide +kernel, rfl, by decide +kernel, by decide +kernel⟩
theorem sc__law_some_pairs : FnScope ["deal", "most", "turn"] ["deal"] (defScope st__law_some_pairs) := ⟨rfl, rfl, rfl, by decide +kernel, rfl, by decide +kernel, by decide +kernel⟩
theorem sc__law_done : FnScope ["deeds", "number", "take", "give"] ["deeds", "number"] (defScope st__law_done) := ⟨rfl, rfl, rfl, by decide +kernel, rfl, by decide +kernel, by decide +kernel⟩
theorem sc_law : FnScope ["script", "deal", "turn", "deeds", "some", "one", "number", "due", "pair", "times", "many", "net", "bad", "odd", "told", "values", "value"] ["script"] (defScope st_law) := ⟨rfl, rfl, rfl, by decide +kernel, rfl, by decide +kernel, by decide +kernel⟩
abbrev st__law_refused : Stmt := topS 30
theorem sc__law_refused : FnScope ["work", "wrong"] ["work"] (defScope st__law_refused) := ⟨rfl, rfl, rfl, by decide +kernel, rfl, by decide +kernel, by decide +kernel⟩
def hcs__law_refused : List HClT := [⟨"InvalidDeed", "deed", ⟨110, 11, 110, 22⟩, 0, 0, ⟨111, 16, 111, 22⟩, ⟨111, 24, 111, 29⟩, ⟨111, 24, 111, 32⟩, ⟨111, 15, 111, 33⟩, ⟨111, 8, 111, 33⟩, ⟨110, 4, 111, 33⟩⟩, ⟨"InvalidQuestion", "question", ⟨112, 11, 112, 26⟩, 0, 0, ⟨113, 16, 113, 26⟩, ⟨113, 28, 113, 33⟩, ⟨113, 28, 113, 36⟩, ⟨113, 15, 113, 37⟩, ⟨113, 8, 113, 37⟩, ⟨112, 4, 113, 37⟩⟩]
abbrev kn__law_refused : List Str := ["InvalidDeed", "InvalidQuestion"]
/-! ### the mirrors -/
def mb_is_integer : GS := (sRet (eAnd (eIsi ["int"] (eVar 0)) (eNot (eIsi ["bool"] (eVar 0)))))
def mf_is_integer : List L3.D → DS → R L3.D := mkF 1 1 mb_is_integer
def mb_is_sequence : GS := (sRet (eIsi ["list", "tuple"] (eVar 0)))
def mf_is_sequence : List L3.D → DS → R L3.D := mkF 1 1 mb_is_sequence
def mb_is_number : GS := (sRet (eAnd (eCall mf_is_integer (aCons (eVar 0) aNil)) (eBin geD (eVar 0) (eK (.int 0)))))
def mf_is_number : List L3.D → DS → R L3.D := mkF 1 1 mb_is_number
def mb_is_take_give : GS := (sRet (eAnd (eIsi ["tuple"] (eVar 0)) (eAnd (eBin eqD (eB hLen (aCons (eVar 0) aNil)) (eK (.int 2))) (eAnd (eCall mf_is_number (aCons (eIx (eVar 0) (eK (.int 0))) aNil)) (eCall mf_is_number (aCons (eIx (eVar 0) (eK (.int 1))) aNil))))))
def mf_is_take_give : List L3.D → DS → R L3.D := mkF 1 1 mb_is_take_give
def mb_checked_deeds : GS := (sIf (tOr3 (tNot3 (tTru (eCall mf_is_sequence (aCons (eVar 0) aNil)))) (tOr3 (tCmp3 gtD (eB hLen (aCons (eVar 0) aNil)) (eK (.int 1000))) (tNot3 (tTru (eB hAll (aCons (eOfN (nComp (iSeq (eVar 0)) [1] (hName 1) tYes3 (eCall mf_is_take_give (aCons (eVar 1) aNil)))) aNil)))))) (sRaise "InvalidDeed" (eK (.int 0))) sSkip)
def mf_checked_deeds : List L3.D → DS → R L3.D := mkF 1 2 mb_checked_deeds
def mb_checked_number : GS := (sIf (tNot3 (tTru (eCall mf_is_number (aCons (eVar 0) aNil)))) (sRaise "InvalidQuestion" (eVar 1)) sSkip)
def mf_checked_number : List L3.D → DS → R L3.D := mkF 2 2 mb_checked_number
def mb_counter_by : GS := (sRet (eBin addD (eB hMax2 (aCons (eBin subD (eVar 1) (eIx (eVar 0) (eK (.int 0)))) (aCons (eK (.int 0)) aNil))) (eIx (eVar 0) (eK (.int 1)))))
def mf_counter_by : List L3.D → DS → R L3.D := mkF 2 2 mb_counter_by
def mb_counter_after : GS := (sSeq (sExpr (eCall mf_checked_deeds (aCons (eVar 0) aNil))) (sSeq (sExpr (eCall mf_checked_number (aCons (eVar 1) (aCons (eK (.int 1)) aNil)))) (sSeq (sFor (iSeq (eVar 0)) (hName 2) (sAsg (hName 1) (eCall mf_counter_by (aCons (eVar 2) (aCons (eVar 1) aNil))))) (sRet (eVar 1)))))
def mf_counter_after : List L3.D → DS → R L3.D := mkF 2 3 mb_counter_after
def mb_one_behind : GS := (sSeq (sAsg (hTup 2 (hCons (hName 2) (hCons (hName 3) hNil))) (eVar 0)) (sRet (eTup (aCons (eBin addD (eVar 2) (eB hMax2 (aCons (eK (.int 0)) (aCons (eBin subD (eIx (eVar 1) (eK (.int 0))) (eVar 3)) aNil)))) (aCons (eBin addD (eIx (eVar 1) (eK (.int 1))) (eB hMax2 (aCons (eK (.int 0)) (aCons (eBin subD (eVar 3) (eIx (eVar 1) (eK (.int 0)))) aNil)))) aNil)))))
def mf_one_behind : List L3.D → DS → R L3.D := mkF 2 4 mb_one_behind
def mb_as_one_by : GS := (sSeq (sAsg (hName 1) (eTup (aCons (eK (.int 0)) (aCons (eK (.int 0)) aNil)))) (sSeq (sFor (iSeq (eVar 0)) (hName 2) (sAsg (hName 1) (eCall mf_one_behind (aCons (eVar 1) (aCons (eVar 2) aNil))))) (sRet (eVar 1))))
def mf_as_one_by : List L3.D → DS → R L3.D := mkF 1 3 mb_as_one_by
def mb_deeds_as_one : GS := (sSeq (sExpr (eCall mf_checked_deeds (aCons (eVar 0) aNil))) (sRet (eCall mf_as_one_by (aCons (eVar 0) aNil))))
def mf_deeds_as_one : List L3.D → DS → R L3.D := mkF 1 1 mb_deeds_as_one
def mb_loops_by : GS := (sSeq (sAsg (hName 2) (eBin subD (eIx (eVar 0) (eK (.int 1))) (eIx (eVar 0) (eK (.int 0))))) (sSeq (sIf (tCmp3 eqD (eVar 1) (eK (.int 0))) (sRet (eTup (aCons (eK (.int 0)) (aCons (eK (.int 0)) aNil)))) sSkip) (sRet (eTup (aCons (eBin addD (eIx (eVar 0) (eK (.int 0))) (eBin mulD (eB hMax2 (aCons (eK (.int 0)) (aCons (eNeg (eVar 2)) aNil))) (eBin subD (eVar 1) (eK (.int 1))))) (aCons (eBin addD (eIx (eVar 0) (eK (.int 1))) (eBin mulD (eB hMax2 (aCons (eK (.int 0)) (aCons (eVar 2) aNil))) (eBin subD (eVar 1) (eK (.int 1))))) aNil))))))
def mf_loops_by : List L3.D → DS → R L3.D := mkF 2 3 mb_loops_by
def mb_repeated : GS := (sSeq (sIf (tNot3 (tTru (eCall mf_is_take_give (aCons (eVar 0) aNil)))) (sRaise "InvalidDeed" (eK (.int 0))) sSkip) (sSeq (sExpr (eCall mf_checked_number (aCons (eVar 1) (aCons (eK (.int 1)) aNil)))) (sRet (eCall mf_loops_by (aCons (eVar 0) (aCons (eVar 1) aNil))))))
def mf_repeated : List L3.D → DS → R L3.D := mkF 2 2 mb_repeated
def mb__law_as_one : GS := (sSeq (sAsg (hTup 2 (hCons (hName 1) (hCons (hName 2) hNil))) (eTup (aCons (eK (.int 0)) (aCons (eK (.int 0)) aNil)))) (sSeq (sFor (iSeq (eVar 0)) (hTup 2 (hCons (hName 3) (hCons (hName 4) hNil))) (sSeq (sAsg (hName 5) (eB hMax2 (aCons (eK (.int 0)) (aCons (eBin subD (eVar 3) (eVar 2)) aNil)))) (sPar2 1 2 (aCons (eBin addD (eVar 1) (eVar 5)) (aCons (eBin addD (eBin subD (eBin addD (eVar 2) (eVar 5)) (eVar 3)) (eVar 4)) aNil))))) (sRet (eTup (aCons (eVar 1) (aCons (eVar 2) aNil))))))
def mf__law_as_one : List L3.D → DS → R L3.D := mkF 1 6 mb__law_as_one
def mb__law_some_pairs : GS := (sSeq (sAsg (hName 1) (eCall mf__law_of (aCons (eVar 0) (aCons (eLst (aCons (eK (.int 1)) (aCons (eK (.int 3)) (aCons (eK (.int 3)) (aCons (eK (.int 10)) (aCons (eBin powD (eK (.int 10)) (eK (.int 20))) aNil)))))) aNil)))) (sRet (eOfN (nComp (iR1 (aCons (eCall mf__law_of (aCons (eVar 0) (aCons (eLst (aCons (eK (.int 0)) (aCons (eK (.int 1)) (aCons (eK (.int 2)) (aCons (eK (.int 5)) (aCons (eK (.int 20)) aNil)))))) aNil))) aNil)) [2] (hName 2) tYes3 (eTup (aCons (eCall mf__law_any (aCons (eVar 0) (aCons (eBin addD (eVar 1) (eK (.int 1))) aNil))) (aCons (eCall mf__law_any (aCons (eVar 0) (aCons (eBin addD (eVar 1) (eK (.int 1))) aNil))) aNil)))))))
def mf__law_some_pairs : List L3.D → DS → R L3.D := mkF 1 3 mb__law_some_pairs
def mb__law_done : GS := (sSeq (sFor (iSeq (eVar 0)) (hTup 2 (hCons (hName 2) (hCons (hName 3) hNil))) (sAsg (hName 1) (eBin addD (eIf (tCmp3 gtD (eVar 1) (eVar 2)) (eBin subD (eVar 1) (eVar 2)) (eK (.int 0))) (eVar 3)))) (sRet (eVar 1)))
def mf__law_done : List L3.D → DS → R L3.D := mkF 2 4 mb__law_done
def law_t0 : GS := (sAsg (hName 3) (eCall mf__law_some_pairs (aCons (eVar 1) aNil)))
def law_t1 : GS := (sAsg (hName 4) (eIf (tCmp3 eqD (eCall mf__law_any (aCons (eVar 1) (aCons (eK (.int 2)) aNil))) (eK (.int 0))) (eVar 3) (eB hTuple (aCons (eVar 3) aNil))))
def law_t2 : GS := (sAsg (hName 5) (eCall mf_deeds_as_one (aCons (eVar 4) aNil)))
def law_t3 : GS := (sIf (tOr3 (tNot3 (tTru (eCall mf__law_same (aCons (eVar 5) (aCons (eCall mf__law_as_one (aCons (eVar 3) aNil)) aNil))))) (tNot3 (tTru (eCall mf__law_same (aCons (eCall mf_is_take_give (aCons (eVar 5) aNil)) (aCons (eK (.bl true)) aNil)))))) (sRet (eK (.bl false))) sSkip)
def law_t4 : GS := (sFor (iSeq (eLst (aCons (eK (.int 0)) (aCons (eK (.int 1)) (aCons (eIx (eVar 5) (eK (.int 0))) (aCons (eBin addD (eIx (eVar 5) (eK (.int 0))) (eK (.int 1))) (aCons (eB hMax2 (aCons (eK (.int 0)) (aCons (eBin subD (eIx (eVar 5) (eK (.int 0))) (eK (.int 1))) aNil))) (aCons (eCall mf__law_any (aCons (eVar 1) (aCons (eK (.int 40)) aNil))) (aCons (eBin powD (eK (.int 10)) (eK (.int 30))) aNil))))))))) (hName 6) (sSeq (sAsg (hName 7) (eCall mf__law_done (aCons (eVar 3) (aCons (eVar 6) aNil)))) (sIf (tNot3 (tTru (eCall mf__law_same (aCons (eLst (aCons (eCall mf_counter_after (aCons (eVar 4) (aCons (eVar 6) aNil))) (aCons (eCall mf_counter_after (aCons (eLst (aCons (eVar 5) aNil)) (aCons (eVar 6) aNil))) aNil))) (aCons (eLst (aCons (eVar 7) (aCons (eVar 7) aNil))) aNil))))) (sRet (eK (.bl false))) sSkip)))
def law_t5 : GS := (sAsg (hTup 2 (hCons (hName 8) (hCons (hName 9) hNil))) (eTup (aCons (eTup (aCons (eCall mf__law_any (aCons (eVar 1) (aCons (eK (.int 9)) aNil))) (aCons (eCall mf__law_any (aCons (eVar 1) (aCons (eK (.int 9)) aNil))) aNil))) (aCons (eCall mf__law_of (aCons (eVar 1) (aCons (eLst (aCons (eK (.int 0)) (aCons (eK (.int 1)) (aCons (eK (.int 2)) (aCons (eK (.int 7)) (aCons (eK (.int 30)) aNil)))))) aNil))) aNil))))
def law_t6 : GS := (sIf (tNot3 (tTru (eCall mf__law_same (aCons (eCall mf_repeated (aCons (eVar 8) (aCons (eVar 9) aNil))) (aCons (eCall mf__law_as_one (aCons (eBin mulD (eLst (aCons (eVar 8) aNil)) (eVar 9)) aNil)) aNil))))) (sRet (eK (.bl false))) sSkip)
def law_t7 : GS := (sAsg (hName 10) (eBin addD (eBin powD (eK (.int 10)) (eK (.int 30))) (eCall mf__law_any (aCons (eVar 1) (aCons (eK (.int 1000)) aNil)))))
def law_t8 : GS := (sAsg (hName 11) (eBin subD (eIx (eVar 8) (eK (.int 1))) (eIx (eVar 8) (eK (.int 0)))))
def law_t9 : GS := (sIf (tNot3 (tTru (eCall mf__law_same (aCons (eCall mf_repeated (aCons (eVar 8) (aCons (eVar 10) aNil))) (aCons (eTup (aCons (eBin addD (eIx (eVar 8) (eK (.int 0))) (eBin mulD (eB hMax2 (aCons (eK (.int 0)) (aCons (eNeg (eVar 11)) aNil))) (eBin subD (eVar 10) (eK (.int 1))))) (aCons (eBin addD (eIx (eVar 8) (eK (.int 1))) (eBin mulD (eB hMax2 (aCons (eK (.int 0)) (aCons (eVar 11) aNil))) (eBin subD (eVar 10) (eK (.int 1))))) aNil))) aNil))))) (sRet (eK (.bl false))) sSkip)
def law_t10 : GS := (sAsg (hTup 2 (hCons (hName 12) (hCons (hName 13) hNil))) (eTup (aCons (eCall mf__law_of (aCons (eVar 1) (aCons (eLst (aCons (eK .non) (aCons (eK (.int 3)) (aCons (eTup (aCons (eTup (aCons (eK (.int 1)) aNil)) aNil)) (aCons (eLst (aCons (eTup (aCons (eK (.int 1)) (aCons (eNeg (eK (.int 1))) aNil))) aNil)) (aCons (eLst (aCons (eTup (aCons (eK (.bl true)) (aCons (eK (.int 0)) aNil))) aNil)) (aCons (eLst (aCons (eLst (aCons (eK (.int 1)) (aCons (eK (.int 0)) aNil))) aNil)) (aCons (eTup (aCons (eTup (aCons (eK (.int 1)) (aCons (eK (.int 0)) (aCons (eK (.int 0)) aNil)))) aNil)) (aCons (eK (.str "ab")) (aCons (eBin mulD (eLst (aCons (eTup (aCons (eK (.int 1)) (aCons (eK (.int 0)) aNil))) aNil)) (eK (.int 1001))) (aCons eDic0 aNil))))))))))) aNil))) (aCons (eCall mf__law_of (aCons (eVar 1) (aCons (eLst (aCons (eK .non) (aCons (eNeg (eK (.int 1))) (aCons (eK (.bl true)) (aCons (eK (.str "1")) (aCons (eTup (aCons (eK (.int 1)) aNil)) aNil)))))) aNil))) aNil))))
def law_t11 : GS := (sAsg (hName 14) (eLst (aCons (eHeard hcs__law_refused kn__law_refused (eCall mf_counter_after (aCons (eVar 12) (aCons (eVar 13) aNil)))) (aCons (eHeard hcs__law_refused kn__law_refused (eCall mf_counter_after (aCons (eVar 4) (aCons (eVar 13) aNil)))) (aCons (eHeard hcs__law_refused kn__law_refused (eCall mf_deeds_as_one (aCons (eVar 12) aNil))) aNil)))))
def law_t12 : GS := (sAsg (hName 14) (eBin addD (eVar 14) (eLst (aCons (eHeard hcs__law_refused kn__law_refused (eCall mf_repeated (aCons (eCall mf__law_of (aCons (eVar 1) (aCons (eLst (aCons (eK .non) (aCons (eTup (aCons (eK (.int 1)) aNil)) (aCons (eLst (aCons (eK (.int 1)) (aCons (eK (.int 0)) aNil))) (aCons (eTup (aCons (eK (.int 0)) (aCons (eNeg (eK (.int 1))) aNil))) (aCons (eTup (aCons (eK (.bl true)) (aCons (eK (.int 1)) aNil))) aNil)))))) aNil))) (aCons (eVar 13) aNil)))) (aCons (eHeard hcs__law_refused kn__law_refused (eCall mf_repeated (aCons (eVar 8) (aCons (eVar 13) aNil)))) aNil)))))
def law_t13 : GS := (sIf (tNot3 (tTru (eCall mf__law_same (aCons (eVar 14) (aCons (eLst (aCons (eTup (aCons (eK (.str "deed")) (aCons (eK (.int 0)) aNil))) (aCons (eTup (aCons (eK (.str "question")) (aCons (eK (.int 1)) aNil))) (aCons (eTup (aCons (eK (.str "deed")) (aCons (eK (.int 0)) aNil))) (aCons (eTup (aCons (eK (.str "deed")) (aCons (eK (.int 0)) aNil))) (aCons (eTup (aCons (eK (.str "question")) (aCons (eK (.int 1)) aNil))) aNil)))))) aNil))))) (sRet (eK (.bl false))) sSkip)
def law_b14 : GS := (sSeq law_t0 (sSeq law_t1 (sSeq law_t2 (sSeq law_t3 (sSeq law_t4 (sSeq law_t5 (sSeq law_t6 (sSeq law_t7 (sSeq law_t8 (sSeq law_t9 (sSeq law_t10 (sSeq law_t11 (sSeq law_t12 law_t13)))))))))))))
def law_s15 : GS := (sFor (iR1 (aCons (eK (.int 12)) aNil)) (hName 2) law_b14)
def law_s16 : GS := (sAsg (hName 15) (eLst (aCons (eTup (aCons (eK (.int 0)) (aCons (eK (.int 0)) aNil))) (aCons (eTup (aCons (eBin powD (eK (.int 10)) (eK (.int 40))) (aCons (eK (.int 0)) aNil))) (aCons (eLst (aCons (eK (.int 0)) (aCons (eK (.int 0)) aNil))) (aCons (eTup (aCons (eK (.int 0)) aNil)) (aCons (eTup (aCons (eK (.int 0)) (aCons (eK (.int 0)) (aCons (eK (.int 0)) aNil)))) (aCons (eTup (aCons (eNeg (eK (.int 1))) (aCons (eK (.int 0)) aNil))) (aCons (eTup (aCons (eK (.int 0)) (aCons (eK (.bl true)) aNil))) (aCons (eTup (aCons (eK (.int 0)) (aCons (eK (.str "1")) aNil))) (aCons (eK .non) (aCons (eTup aNil) aNil))))))))))))
def law_t17 : GS := (sRet (eK (.bl false)))
def law_s18 : GS := (sIf (tNot3 (tTru (eCall mf__law_same (aCons (eOfN (nComp (iSeq (eVar 15)) [16] (hName 16) tYes3 (eCall mf_is_take_give (aCons (eVar 16) aNil)))) (aCons (eBin addD (eLst (aCons (eK (.bl true)) (aCons (eK (.bl true)) aNil))) (eBin mulD (eLst (aCons (eK (.bl false)) aNil)) (eK (.int 8)))) aNil))))) law_t17 sSkip)
def law_s19 : GS := (sRet (eCall mf__law_same (aCons (eLst (aCons (eCall mf_deeds_as_one (aCons (eBin mulD (eLst (aCons (eTup (aCons (eK (.int 1)) (aCons (eK (.int 0)) aNil))) aNil)) (eK (.int 1000))) aNil)) (aCons (eCall mf_counter_after (aCons (eBin mulD (eLst (aCons (eTup (aCons (eK (.int 0)) (aCons (eK (.int 2)) aNil))) (aCons (eTup (aCons (eK (.int 3)) (aCons (eK (.int 0)) aNil))) aNil))) (eK (.int 500))) (aCons (eK (.int 7)) aNil))) (aCons (eCall mf_repeated (aCons (eTup (aCons (eK (.int 4)) (aCons (eK (.int 4)) aNil))) (aCons (eBin powD (eK (.int 10)) (eK (.int 9))) aNil))) aNil)))) (aCons (eLst (aCons (eTup (aCons (eK (.int 1000)) (aCons (eK (.int 0)) aNil))) (aCons (eK (.int 0)) (aCons (eTup (aCons (eK (.int 4)) (aCons (eK (.int 4)) aNil))) aNil)))) aNil))))
def mb_law : GS := (sSeq law_s15 (sSeq law_s16 (sSeq law_s18 law_s19)))
/-! ### the derivations -/
section
variable {P : Program} {w : World} {K : PySem.W.Frag} {mg : Str → Option Value} {base : Heap} {T : List (Addr × Str)}
theorem ok_is_integer (z : NoneOf mg ["bool", "int", "isinstance"]) {fa : Addr} {fd : FuncData} (F : Fun K "is_integer" "is_integer" st_is_integer fa fd) : FnOk P w K mg base (L2.CX P w) 2 fa fd ["value"] (spM K mg T 1 mf_is_integer) :=
  fn3 F sc_is_integer rfl fun cdv A outer s H E Γ hr hH hT hcd => by
    have c := conBody sc_is_integer hr hH hT
    exact (ss_one (s_ret (e_and (e_isi (c := "int") c.c.hK (by decide) (by rfl) (z "isinstance" (by decide)) (by rfl) (z "int" (by decide)) (by decide +kernel) (E3.weak (e_var (pv 0)))) (e_one (e_not (e_isi (c := "bool") c.c.hK (by decide) (by rfl) (z "isinstance" (by decide)) (by rfl) (z "bool" (by decide)) (by decide +kernel) (E3.weak (e_var (pv 0)))))))))
theorem ok_is_sequence (z : NoneOf mg ["isinstance", "list", "tuple"]) {fa : Addr} {fd : FuncData} (F : Fun K "is_sequence" "is_sequence" st_is_sequence fa fd) : FnOk P w K mg base (L2.CX P w) 2 fa fd ["value"] (spM K mg T 1 mf_is_sequence) :=
  fn3 F sc_is_sequence rfl fun cdv A outer s H E Γ hr hH hT hcd => by
    have c := conBody sc_is_sequence hr hH hT
    exact (ss_one (s_ret (e_isi2 (c := "list") (c' := "tuple") c.c.hK (by decide) (by decide) (by rfl) (z "isinstance" (by decide)) (by rfl) (z "list" (by decide)) (by decide +kernel) (by rfl) (z "tuple" (by decide)) (by decide +kernel) (E3.weak (e_var (pv 0))))))
theorem ok_is_number (d_is_integer : Def3 P w K mg base T "is_integer" 2 1 [] mf_is_integer) {fa : Addr} {fd : FuncData} (F : Fun K "is_number" "is_number" st_is_number fa fd) : FnOk P w K mg base (L2.CX P w) 3 fa fd ["value"] (spM K mg T 1 mf_is_number) :=
  fn3 F sc_is_number rfl fun cdv A outer s H E Γ hr hH hT hcd => by
    have c := conBody sc_is_number hr hH hT
    exact (ss_one (s_ret (e_and (r_call1 c.c d_is_integer (by decide) (a_cons (e_var (pv 0)) a_nil)) (e_one (e_cmp o_ge (E3.weak (e_var (pv 0))) (E3.weak e_int) (by rfl))))))
theorem ok_is_take_give (d_is_number : Def3 P w K mg base T "is_number" 3 1 [] mf_is_number) (z : NoneOf mg ["isinstance", "len", "tuple"]) {tk_TAKE : Tok} (k_TAKE : mg "TAKE" = some (.int 0 tk_TAKE)) {tk_GIVE : Tok} (k_GIVE : mg "GIVE" = some (.int 1 tk_GIVE)) {fa : Addr} {fd : FuncData} (F : Fun K "is_take_give" "is_take_give" st_is_take_give fa fd) : FnOk P w K mg base (L2.CX P w) 4 fa fd ["value"] (spM K mg T 1 mf_is_take_give) :=
  fn3 F sc_is_take_give rfl fun cdv A outer s H E Γ hr hH hT hcd => by
    have c := conBody sc_is_take_give hr hH hT
    exact (ss_one (s_ret (e_and (e_isi (c := "tuple") c.c.hK (by decide) (by rfl) (z "isinstance" (by decide)) (by rfl) (z "tuple" (by decide)) (by decide +kernel) (E3.weak (e_var (pv 0)))) (e_and (e_cmp (o_eq c.c.hK c.c.hr) (E3.weak (r_len c.c (z "len" (by decide)) (w_cons (E3.weak (e_var (pv 0))) w_nil))) (E3.weak e_int) (by rfl)) (e_and (r_call1 c.c d_is_number (by decide) (a_cons (e_ix c.c.hK (E3.weak (e_var (pv 0))) (e_gl (v := .int 0) (by rfl) k_TAKE ⟨_, rfl⟩ (fun _ _ => .int _))) a_nil)) (e_one (r_call1 c.c d_is_number (by decide) (a_cons (e_ix c.c.hK (E3.weak (e_var (pv 0))) (e_gl (v := .int 1) (by rfl) k_GIVE ⟨_, rfl⟩ (fun _ _ => .int _))) a_nil))))))))
theorem ok_checked_deeds (d_is_sequence : Def3 P w K mg base T "is_sequence" 2 1 [] mf_is_sequence) (d_is_take_give : Def3 P w K mg base T "is_take_give" 4 1 [] mf_is_take_give) (z : NoneOf mg ["all", "len"]) {tk_MOST_DEEDS : Tok} (k_MOST_DEEDS : mg "MOST_DEEDS" = some (.int 1000 tk_MOST_DEEDS)) (t_InvalidDeed : Err3 P K mg "InvalidDeed") {fa : Addr} {fd : FuncData} (F : Fun K "checked_deeds" "checked_deeds" st_checked_deeds fa fd) : FnOk P w K mg base (L2.CX P w) 5 fa fd ["deeds"] (spM K mg T 1 mf_checked_deeds) :=
  fn3 F sc_checked_deeds rfl fun cdv A outer s H E Γ hr hH hT hcd => by
    have c := conBody sc_checked_deeds hr hH hT
    exact (ss_one (s_if (TW3.t (tw_or (t_not (t_tru c.c.hK (E3.weak (r_call1 c.c d_is_sequence (by decide) (a_cons (e_var (pv 0)) a_nil))))) (tw_or (t_cmp o_gt (E3.weak (r_len c.c (z "len" (by decide)) (w_cons (E3.weak (e_var (pv 0))) w_nil))) (E3.weak (e_gl (v := .int 1000) (by rfl) k_MOST_DEEDS ⟨_, rfl⟩ (fun _ _ => .int _))) (by rfl)) (tw_or1 (t_not (t_tru c.c.hK (E3.weak (r_all c.c (z "all" (by decide)) (w_cons (E3.weak (e_ofN (n_comp c.c.hc c.c.hN (blkOk_of (own := [("deed", 1)]) (by kernel_rfl)) (i_seqW c.c.hK (E3.weak (e_var (pv 0)))) (by decide) (fun _ _ _ _ _ => (g_name c.c.blk.hN (i := 1) (by rfl) (by first | exact .inl rfl | exact .inr rfl))) (fun _ _ _ _ _ => ts_nil) (fun _ _ _ _ _ => (r_call1 c.c.blk d_is_take_give (by decide) (a_cons (e_var (pv 1)) a_nil)))))) w_nil))))))))) (ss_one (r_raise c.c (t_InvalidDeed) (by omega) e_int)) ss_nil))
theorem ok_checked_number (d_is_number : Def3 P w K mg base T "is_number" 3 1 [] mf_is_number) (t_InvalidQuestion : Err3 P K mg "InvalidQuestion") {fa : Addr} {fd : FuncData} (F : Fun K "checked_number" "checked_number" st_checked_number fa fd) : FnOk P w K mg base (L2.CX P w) 4 fa fd ["value", "at"] (spM K mg T 2 mf_checked_number) :=
  fn3 F sc_checked_number rfl fun cdv A outer s H E Γ hr hH hT hcd => by
    have c := conBody sc_checked_number hr hH hT
    exact (ss_one (s_if (t_not (t_tru c.c.hK (E3.weak (r_call1 c.c d_is_number (by decide) (a_cons (e_var (pv 0)) a_nil))))) (ss_one (r_raise c.c (t_InvalidQuestion) (by omega) (e_var (pv 1)))) ss_nil))
theorem ok_counter_by (z : NoneOf mg ["max"]) {tk_TAKE : Tok} (k_TAKE : mg "TAKE" = some (.int 0 tk_TAKE)) {tk_GIVE : Tok} (k_GIVE : mg "GIVE" = some (.int 1 tk_GIVE)) {fa : Addr} {fd : FuncData} (F : Fun K "counter_by" "counter_by" st_counter_by fa fd) : FnOk P w K mg base (L2.CX P w) 2 fa fd ["deed", "number"] (spM K mg T 2 mf_counter_by) :=
  fn3 F sc_counter_by rfl fun cdv A outer s H E Γ hr hH hT hcd => by
    have c := conBody sc_counter_by hr hH hT
    exact (ss_one (s_ret (e_bin (o_add c.c.hK) (E3.weak (r_max2 c.c (z "max" (by decide)) (w_cons (E3.weak (e_bin o_sub (E3.weak (e_var (pv 1))) (E3.weak (e_ix c.c.hK (E3.weak (e_var (pv 0))) (e_gl (v := .int 0) (by rfl) k_TAKE ⟨_, rfl⟩ (fun _ _ => .int _)))))) (w_cons (E3.weak e_int) w_nil)))) (E3.weak (e_ix c.c.hK (E3.weak (e_var (pv 0))) (e_gl (v := .int 1) (by rfl) k_GIVE ⟨_, rfl⟩ (fun _ _ => .int _)))))))
theorem ok_counter_after (d_checked_deeds : Def3 P w K mg base T "checked_deeds" 5 1 [] mf_checked_deeds) (d_checked_number : Def3 P w K mg base T "checked_number" 4 2 [] mf_checked_number) (d_counter_by : Def3 P w K mg base T "counter_by" 2 2 [] mf_counter_by) {fa : Addr} {fd : FuncData} (F : Fun K "counter_after" "counter_after" st_counter_after fa fd) : FnOk P w K mg base (L2.CX P w) 6 fa fd ["deeds", "number"] (spM K mg T 2 mf_counter_after) :=
  fn3 F sc_counter_after rfl fun cdv A outer s H E Γ hr hH hT hcd => by
    have c := conBody sc_counter_after hr hH hT
    exact (ss_cons (s_expr (r_call1 c.c d_checked_deeds (by decide) (a_cons (e_var (pv 0)) a_nil))) (ss_cons (s_expr (r_call1 c.c d_checked_number (by decide) (a_cons (e_var (pv 1)) (a_cons e_int a_nil)))) (ss_cons (s_for c.hp c.c.hc (i_seq c.c.hK (e_var (pv 0))) (g_name c.c.hN (i := 2) (by rfl) (by first | exact .inl rfl | exact .inr rfl)) (ss_one (s_set (i := 1) c.c.hN (by rfl) (by first | exact .inl rfl | exact .inr rfl) (r_call1 c.c d_counter_by (by decide) (a_cons (e_var (pv 2)) (a_cons (e_var (pv 1)) a_nil)))))) (ss_one (s_ret (e_var (pv 1)))))))
theorem ok_one_behind (z : NoneOf mg ["max"]) {tk_GIVE : Tok} (k_GIVE : mg "GIVE" = some (.int 1 tk_GIVE)) {tk_TAKE : Tok} (k_TAKE : mg "TAKE" = some (.int 0 tk_TAKE)) {fa : Addr} {fd : FuncData} (F : Fun K "one_behind" "one_behind" st_one_behind fa fd) : FnOk P w K mg base (L2.CX P w) 2 fa fd ["one", "other"] (spM K mg T 2 mf_one_behind) :=
  fn3 F sc_one_behind rfl fun cdv A outer s H E Γ hr hH hT hcd => by
    have c := conBody sc_one_behind hr hH hT
    exact (ss_cons (s_asg (g_tup c.c.hK c.c.hc (gs_cons (g_name c.c.hN (i := 2) (by rfl) (by first | exact .inl rfl | exact .inr rfl)) (gs_cons (g_name c.c.hN (i := 3) (by rfl) (by first | exact .inl rfl | exact .inr rfl)) gs_nil))) (e_var (pv 0))) (ss_one (s_ret (e_tup (a_cons (e_bin (o_add c.c.hK) (E3.weak (e_var (pv 2))) (E3.weak (r_max2 c.c (z "max" (by decide)) (w_cons (E3.weak e_int) (w_cons (E3.weak (e_bin o_sub (E3.weak (e_ix c.c.hK (E3.weak (e_var (pv 1))) (e_gl (v := .int 0) (by rfl) k_TAKE ⟨_, rfl⟩ (fun _ _ => .int _)))) (E3.weak (e_var (pv 3))))) w_nil))))) (a_cons (e_bin (o_add c.c.hK) (E3.weak (e_ix c.c.hK (E3.weak (e_var (pv 1))) (e_gl (v := .int 1) (by rfl) k_GIVE ⟨_, rfl⟩ (fun _ _ => .int _)))) (E3.weak (r_max2 c.c (z "max" (by decide)) (w_cons (E3.weak e_int) (w_cons (E3.weak (e_bin o_sub (E3.weak (e_var (pv 3))) (E3.weak (e_ix c.c.hK (E3.weak (e_var (pv 1))) (e_gl (v := .int 0) (by rfl) k_TAKE ⟨_, rfl⟩ (fun _ _ => .int _)))))) w_nil))))) a_nil))))))
theorem ok_as_one_by (d_one_behind : Def3 P w K mg base T "one_behind" 2 2 [] mf_one_behind) {fa : Addr} {fd : FuncData} (F : Fun K "as_one_by" "as_one_by" st_as_one_by fa fd) : FnOk P w K mg base (L2.CX P w) 3 fa fd ["deeds"] (spM K mg T 1 mf_as_one_by) :=
  fn3 F sc_as_one_by rfl fun cdv A outer s H E Γ hr hH hT hcd => by
    have c := conBody sc_as_one_by hr hH hT
    exact (ss_cons (s_set (i := 1) c.c.hN (by rfl) (by first | exact .inl rfl | exact .inr rfl) (e_tup (a_cons e_int (a_cons e_int a_nil)))) (ss_cons (s_for c.hp c.c.hc (i_seq c.c.hK (e_var (pv 0))) (g_name c.c.hN (i := 2) (by rfl) (by first | exact .inl rfl | exact .inr rfl)) (ss_one (s_set (i := 1) c.c.hN (by rfl) (by first | exact .inl rfl | exact .inr rfl) (r_call1 c.c d_one_behind (by decide) (a_cons (e_var (pv 1)) (a_cons (e_var (pv 2)) a_nil)))))) (ss_one (s_ret (e_var (pv 1))))))
theorem ok_deeds_as_one (d_checked_deeds : Def3 P w K mg base T "checked_deeds" 5 1 [] mf_checked_deeds) (d_as_one_by : Def3 P w K mg base T "as_one_by" 3 1 [] mf_as_one_by) {fa : Addr} {fd : FuncData} (F : Fun K "deeds_as_one" "deeds_as_one" st_deeds_as_one fa fd) : FnOk P w K mg base (L2.CX P w) 6 fa fd ["deeds"] (spM K mg T 1 mf_deeds_as_one) :=
  fn3 F sc_deeds_as_one rfl fun cdv A outer s H E Γ hr hH hT hcd => by
    have c := conBody sc_deeds_as_one hr hH hT
    exact (ss_cons (s_expr (r_call1 c.c d_checked_deeds (by decide) (a_cons (e_var (pv 0)) a_nil))) (ss_one (s_ret (r_call1 c.c d_as_one_by (by decide) (a_cons (e_var (pv 0)) a_nil)))))
theorem ok_loops_by (z : NoneOf mg ["max"]) {tk_GIVE : Tok} (k_GIVE : mg "GIVE" = some (.int 1 tk_GIVE)) {tk_TAKE : Tok} (k_TAKE : mg "TAKE" = some (.int 0 tk_TAKE)) {fa : Addr} {fd : FuncData} (F : Fun K "loops_by" "loops_by" st_loops_by fa fd) : FnOk P w K mg base (L2.CX P w) 2 fa fd ["deed", "times"] (spM K mg T 2 mf_loops_by) :=
  fn3 F sc_loops_by rfl fun cdv A outer s H E Γ hr hH hT hcd => by
    have c := conBody sc_loops_by hr hH hT
    exact (ss_cons (s_set (i := 2) c.c.hN (by rfl) (by first | exact .inl rfl | exact .inr rfl) (e_bin o_sub (E3.weak (e_ix c.c.hK (E3.weak (e_var (pv 0))) (e_gl (v := .int 1) (by rfl) k_GIVE ⟨_, rfl⟩ (fun _ _ => .int _)))) (E3.weak (e_ix c.c.hK (E3.weak (e_var (pv 0))) (e_gl (v := .int 0) (by rfl) k_TAKE ⟨_, rfl⟩ (fun _ _ => .int _)))))) (ss_cons (s_if (t_cmp (o_eq c.c.hK c.c.hr) (E3.weak (e_var (pv 1))) (E3.weak e_int) (by rfl)) (ss_one (s_ret (e_tup (a_cons e_int (a_cons e_int a_nil))))) ss_nil) (ss_one (s_ret (e_tup (a_cons (e_bin (o_add c.c.hK) (E3.weak (e_ix c.c.hK (E3.weak (e_var (pv 0))) (e_gl (v := .int 0) (by rfl) k_TAKE ⟨_, rfl⟩ (fun _ _ => .int _)))) (E3.weak (e_bin (o_mul c.c.hK) (E3.weak (r_max2 c.c (z "max" (by decide)) (w_cons (E3.weak e_int) (w_cons (E3.weak (e_neg (e_var (pv 2)))) w_nil)))) (E3.weak (e_bin o_sub (E3.weak (e_var (pv 1))) (E3.weak e_int)))))) (a_cons (e_bin (o_add c.c.hK) (E3.weak (e_ix c.c.hK (E3.weak (e_var (pv 0))) (e_gl (v := .int 1) (by rfl) k_GIVE ⟨_, rfl⟩ (fun _ _ => .int _)))) (E3.weak (e_bin (o_mul c.c.hK) (E3.weak (r_max2 c.c (z "max" (by decide)) (w_cons (E3.weak e_int) (w_cons (E3.weak (e_var (pv 2))) w_nil)))) (E3.weak (e_bin o_sub (E3.weak (e_var (pv 1))) (E3.weak e_int)))))) a_nil)))))))
theorem ok_repeated (d_is_take_give : Def3 P w K mg base T "is_take_give" 4 1 [] mf_is_take_give) (d_checked_number : Def3 P w K mg base T "checked_number" 4 2 [] mf_checked_number) (d_loops_by : Def3 P w K mg base T "loops_by" 2 2 [] mf_loops_by) (t_InvalidDeed : Err3 P K mg "InvalidDeed") {fa : Addr} {fd : FuncData} (F : Fun K "repeated" "repeated" st_repeated fa fd) : FnOk P w K mg base (L2.CX P w) 5 fa fd ["deed", "times"] (spM K mg T 2 mf_repeated) :=
  fn3 F sc_repeated rfl fun cdv A outer s H E Γ hr hH hT hcd => by
    have c := conBody sc_repeated hr hH hT
    exact (ss_cons (s_if (t_not (t_tru c.c.hK (E3.weak (r_call1 c.c d_is_take_give (by decide) (a_cons (e_var (pv 0)) a_nil))))) (ss_one (r_raise c.c (t_InvalidDeed) (by omega) e_int)) ss_nil) (ss_cons (s_expr (r_call1 c.c d_checked_number (by decide) (a_cons (e_var (pv 1)) (a_cons e_int a_nil)))) (ss_one (s_ret (r_call1 c.c d_loops_by (by decide) (a_cons (e_var (pv 0)) (a_cons (e_var (pv 1)) a_nil)))))))
theorem ok__law_draw (z : NoneOf mg ["abs", "int"]) {fa : Addr} {fd : FuncData} (F : Fun K "_law_draw" "_law_draw" st__law_draw fa fd) : FnOk P w K mg base (L2.CX P w) 2 fa fd ["script", "salt"] (spM K mg T 2 mf__law_draw) :=
  fn3 F sc__law_draw rfl fun cdv A outer s H E Γ hr hH hT hcd => by
    have c := conBody sc__law_draw hr hH hT
    exact (ss_cons (s_comp (i := 2) c.c.hc c.c.hN (by rfl) (by rfl) (by rfl) (blkOk_of (own := [("cell", 3)]) (by kernel_rfl)) (i_seqW c.c.hK (E3.weak (e_slS c.c.hK (e_var (pv 0)) o_none (o_some e_int)))) (by decide) (fun _ _ _ _ _ => (g_name c.c.blk.hN (i := 3) (by rfl) (by first | exact .inl rfl | exact .inr rfl))) (fun _ _ _ _ _ => ts_nil) (fun _ _ _ _ _ => (e_bin o_mod (E3.weak (r_abs c.c.blk (z "abs" (by decide)) (w_cons (E3.weak (r_int c.c.blk (z "int" (by decide)) (w_cons (E3.weak (e_var (pv 3))) w_nil))) w_nil))) (E3.weak (e_bin o_pow (E3.weak e_int) (E3.weak e_int)))))) (ss_frz (ss_cons (s_set (i := 4) c.c.hN (by rfl) (by first | exact .inl rfl | exact .inr rfl) (e_bin (o_add c.c.hK) (E3.weak e_int) (E3.weak (e_bin (o_mul c.c.hK) (E3.weak e_int) (E3.weak (e_var (pv 1))))))) (ss_cons (s_for c.hp c.c.hc (i_seq c.c.hK (e_var (pv 2))) (g_name c.c.hN (i := 3) (by rfl) (by first | exact .inl rfl | exact .inr rfl)) (ss_one (s_set (i := 4) c.c.hN (by rfl) (by first | exact .inl rfl | exact .inr rfl) (e_bin o_mod (E3.weak (r_int c.c (z "int" (by decide)) (w_cons (E3.weak (e_bin (o_add c.c.hK) (E3.weak (e_bin (o_add c.c.hK) (E3.weak (e_bin (o_mul c.c.hK) (E3.weak (e_var (pv 4))) (E3.weak e_int))) (E3.weak (e_bin o_mod (E3.weak (e_var (pv 3))) (E3.weak e_int))))) (E3.weak e_int))) w_nil))) (E3.weak e_int))))) (ss_one (s_ret (e_lst (a_cons (e_rev (E3.weak (e_ofN (n_comp c.c.hc c.c.hN (blkOk_of (own := [("cell", 3)]) (by kernel_rfl)) (i_seqW c.c.hK (E3.weak (e_var (pv 2)))) (by decide) (fun _ _ _ _ _ => (g_name c.c.blk.hN (i := 3) (by rfl) (by first | exact .inl rfl | exact .inr rfl))) (fun _ _ _ _ _ => (ts_one (t_cmp o_ge (E3.weak (e_var (pv 3))) (E3.weak (e_bin o_pow (E3.weak e_int) (E3.weak e_int))) (by rfl)))) (fun _ _ _ _ _ => (e_var (pv 3))))))) (a_cons (e_var (pv 4)) a_nil)))))))))
theorem ok__law_any (z : NoneOf mg ["int"]) {fa : Addr} {fd : FuncData} (F : Fun K "_law_any" "_law_any" st__law_any fa fd) : FnOk P w K mg base (L2.CX P w) 2 fa fd ["deal", "bound"] (spM K mg T 2 mf__law_any) :=
  fn3 F sc__law_any rfl fun cdv A outer s H E Γ hr hH hT hcd => by
    have c := conBody sc__law_any hr hH hT
    exact (ss_cons (s_while c.hp (TW3.t (tw_and (t_dne c.c.hr (pv 0)) (tw_and1 (t_dz c.c.hr (pv 0))))) (ss_one (s_expr (e_dpop (pv 0))))) (ss_cons (s_if (t_dne c.c.hr (pv 0)) (ss_cons (s_set (i := 2) c.c.hN (by rfl) (by first | exact .inl rfl | exact .inr rfl) (r_int c.c (z "int" (by decide)) (w_cons (E3.weak (e_dpop (pv 0))) w_nil))) (ss_cons (s_dapp (pv 0) (e_bin o_fdiv (E3.weak (e_var (pv 2))) (E3.weak (e_var (pv 1))))) (ss_one (s_ret (e_bin o_mod (E3.weak (r_int c.c (z "int" (by decide)) (w_cons (E3.weak (e_var (pv 2))) w_nil))) (E3.weak (e_var (pv 1)))))))) ss_nil) (ss_cons (s_d1 (pv 0) (e_bin o_mod (E3.weak (r_int c.c (z "int" (by decide)) (w_cons (E3.weak (e_bin (o_add c.c.hK) (E3.weak (e_bin (o_mul c.c.hK) (E3.weak (e_d1 (pv 0))) (E3.weak e_int))) (E3.weak e_int))) w_nil))) (E3.weak e_int))) (ss_one (s_ret (e_bin o_mod (E3.weak (r_int c.c (z "int" (by decide)) (w_cons (E3.weak (e_bin o_fdiv (E3.weak (e_d1 (pv 0))) (E3.weak e_int))) w_nil))) (E3.weak (e_var (pv 1)))))))))
theorem ok__law_of (d__law_any : Def3 P w K mg base T "_law_any" 2 2 [] mf__law_any) (z : NoneOf mg ["len"]) {fa : Addr} {fd : FuncData} (F : Fun K "_law_of" "_law_of" st__law_of fa fd) : FnOk P w K mg base (L2.CX P w) 3 fa fd ["deal", "some"] (spM K mg T 2 mf__law_of) :=
  fn3 F sc__law_of rfl fun cdv A outer s H E Γ hr hH hT hcd => by
    have c := conBody sc__law_of hr hH hT
    exact (ss_one (s_ret (e_ix c.c.hK (E3.weak (e_var (pv 1))) (r_call1 c.c d__law_any (by decide) (a_cons (e_var (pv 0)) (a_cons (r_len c.c (z "len" (by decide)) (w_cons (E3.weak (e_var (pv 1))) w_nil)) a_nil))))))
theorem mfr_len__law_same : ∀ (m : Nat) (ds : List L3.D) (s : DS), ds.length ≠ 2 → mfr__law_same m ds s = .bad
  | 0, _, _, _ => rfl
  | _ + 1, ds, s, h => mkF_len ds s h
theorem ok__law_same (z : NoneOf mg ["bool", "int", "isinstance", "len", "list", "str", "tuple", "zip"]) {fa : Addr} {fd : FuncData} (F : Fun K "_law_same" "_law_same" st__law_same fa fd) (g : mg "_law_same" = some (.ref fa)) (hb : ∀ (kV doc pm : Value) (an : Option Addr) (cdv ct : Value) (us : List Value), us.length = (["value", "due"] : List Str).length → bindArgs (PySem.W.fnOf "_law_same" "_law_same" (defArgs st__law_same) (defBody st__law_same) (defScope st__law_same) .none kV doc pm an cdv ct) ⟨us, []⟩ = pure ((["value", "due"] : List Str).zip us)) : ∀ m : Nat, FnOk P w K mg base (L2.CX P w) (1 + m) fa fd ["value", "due"] (spM K mg T 2 (mfr__law_same m))
  | 0 => fnOk_bad rfl
  | m + 1 => by
    have d_rec := def3 F g (ok__law_same z F g hb m) rfl (mfr_len__law_same m) hb
    exact fn3 F sc__law_same rfl fun cdv A outer s H E Γ hr hH hT hcd => by
      have c := conBody sc__law_same hr hH hT
      exact (ss_cons (s_if (t_tru c.c.hK (E3.weak (e_isi2 (c := "tuple") (c' := "list") c.c.hK (by decide) (by decide) (by rfl) (z "isinstance" (by decide)) (by rfl) (z "tuple" (by decide)) (by decide +kernel) (by rfl) (z "list" (by decide)) (by decide +kernel) (E3.weak (e_var (pv 1)))))) (ss_cons (s_if (TW3.t (tw_or (t_cmp (o_ne c.c.hK c.c.hr) (E3.weak (e_isi (c := "tuple") c.c.hK (by decide) (by rfl) (z "isinstance" (by decide)) (by rfl) (z "tuple" (by decide)) (by decide +kernel) (E3.weak (e_var (pv 1))))) (E3.weak (e_isi (c := "tuple") c.c.hK (by decide) (by rfl) (z "isinstance" (by decide)) (by rfl) (z "tuple" (by decide)) (by decide +kernel) (E3.weak (e_var (pv 0))))) (by rfl)) (tw_or (t_not (t_tru c.c.hK (E3.weak (e_isi2 (c := "tuple") (c' := "list") c.c.hK (by decide) (by decide) (by rfl) (z "isinstance" (by decide)) (by rfl) (z "tuple" (by decide)) (by decide +kernel) (by rfl) (z "list" (by decide)) (by decide +kernel) (E3.weak (e_var (pv 0))))))) (tw_or1 (t_cmp (o_ne c.c.hK c.c.hr) (E3.weak (r_len c.c (z "len" (by decide)) (w_cons (E3.weak (e_var (pv 0))) w_nil))) (E3.weak (r_len c.c (z "len" (by decide)) (w_cons (E3.weak (e_var (pv 1))) w_nil))) (by rfl)))))) (ss_one (s_ret e_bl)) ss_nil) (ss_one (s_ret (e_cmp (o_eq c.c.hK c.c.hr) (E3.weak (e_ofN (n_comp c.c.hc c.c.hN (blkOk_of (own := [("one", 2), ("other", 3)]) (by kernel_rfl)) (i_zipW c.c.hK (by rfl) (z "zip" (by decide)) (w_cons (E3.weak (e_var (pv 0))) (w_cons (E3.weak (e_var (pv 1))) w_nil))) (by decide) (fun _ _ _ _ _ => (g_tup c.c.blk.hK c.c.blk.hc (gs_cons (g_name c.c.blk.hN (i := 2) (by rfl) (by first | exact .inl rfl | exact .inr rfl)) (gs_cons (g_name c.c.blk.hN (i := 3) (by rfl) (by first | exact .inl rfl | exact .inr rfl)) gs_nil)))) (fun _ _ _ _ _ => (ts_one (t_not (t_tru c.c.blk.hK (E3.weak (r_call1 c.c.blk d_rec (Nat.le_refl _) (a_cons (e_var (pv 2)) (a_cons (e_var (pv 3)) a_nil)))))))) (fun _ _ _ _ _ => e_int)))) (E3.weak (e_lst a_nil)) (by rfl))))) ss_nil) (ss_cons (s_if (t_cmp o_is (E3.weak (e_var (pv 1))) (E3.weak e_non) (by rfl)) (ss_one (s_ret (e_cmp o_is (E3.weak (e_var (pv 0))) (E3.weak e_non) (by rfl)))) ss_nil) (ss_cons (s_if (t_cmp o_is (E3.weak (e_var (pv 1))) (E3.weak e_bl) (by rfl)) (ss_one (s_ret (e_cmp o_is (E3.weak (e_var (pv 0))) (E3.weak e_bl) (by rfl)))) ss_nil) (ss_cons (s_if (t_cmp o_is (E3.weak (e_var (pv 1))) (E3.weak e_bl) (by rfl)) (ss_one (s_ret (e_cmp o_is (E3.weak (e_var (pv 0))) (E3.weak e_bl) (by rfl)))) ss_nil) (ss_cons (s_if (t_tru c.c.hK (E3.weak (e_isi (c := "int") c.c.hK (by decide) (by rfl) (z "isinstance" (by decide)) (by rfl) (z "int" (by decide)) (by decide +kernel) (E3.weak (e_var (pv 1)))))) (ss_one (s_ret (e_and (e_isi (c := "int") c.c.hK (by decide) (by rfl) (z "isinstance" (by decide)) (by rfl) (z "int" (by decide)) (by decide +kernel) (E3.weak (e_var (pv 0)))) (e_and (e_not (e_isi (c := "bool") c.c.hK (by decide) (by rfl) (z "isinstance" (by decide)) (by rfl) (z "bool" (by decide)) (by decide +kernel) (E3.weak (e_var (pv 0))))) (e_one (e_cmp (o_eq c.c.hK c.c.hr) (E3.weak (e_var (pv 0))) (E3.weak (e_var (pv 1))) (by rfl))))))) ss_nil) (ss_one (s_ret (e_and (e_isi (c := "str") c.c.hK (by decide) (by rfl) (z "isinstance" (by decide)) (by rfl) (z "str" (by decide)) (by decide +kernel) (E3.weak (e_var (pv 0)))) (e_one (e_cmp (o_eq c.c.hK c.c.hr) (E3.weak (e_var (pv 0))) (E3.weak (e_var (pv 1))) (by rfl)))))))))))
theorem ok__law_as_one (z : NoneOf mg ["max"]) {fa : Addr} {fd : FuncData} (F : Fun K "_law_as_one" "_law_as_one" st__law_as_one fa fd) : FnOk P w K mg base (L2.CX P w) 2 fa fd ["deeds"] (spM K mg T 1 mf__law_as_one) :=
  fn3 F sc__law_as_one rfl fun cdv A outer s H E Γ hr hH hT hcd => by
    have c := conBody sc__law_as_one hr hH hT
    exact (ss_cons (s_asg (g_tup c.c.hK c.c.hc (gs_cons (g_name c.c.hN (i := 1) (by rfl) (by first | exact .inl rfl | exact .inr rfl)) (gs_cons (g_name c.c.hN (i := 2) (by rfl) (by first | exact .inl rfl | exact .inr rfl)) gs_nil))) (e_tup (a_cons e_int (a_cons e_int a_nil)))) (ss_cons (s_for c.hp c.c.hc (i_seq c.c.hK (e_var (pv 0))) (g_tup c.c.hK c.c.hc (gs_cons (g_name c.c.hN (i := 3) (by rfl) (by first | exact .inl rfl | exact .inr rfl)) (gs_cons (g_name c.c.hN (i := 4) (by rfl) (by first | exact .inl rfl | exact .inr rfl)) gs_nil))) (ss_cons (s_set (i := 5) c.c.hN (by rfl) (by first | exact .inl rfl | exact .inr rfl) (r_max2 c.c (z "max" (by decide)) (w_cons (E3.weak e_int) (w_cons (E3.weak (e_bin o_sub (E3.weak (e_var (pv 3))) (E3.weak (e_var (pv 2))))) w_nil)))) (ss_one (s_par2 (i := 1) (j := 2) c.c (by rfl) (by rfl) (by decide) (by rfl) (by rfl) (a_cons (e_bin (o_add c.c.hK) (E3.weak (e_var (pv 1))) (E3.weak (e_var (pv 5)))) (a_cons (e_bin (o_add c.c.hK) (E3.weak (e_bin o_sub (E3.weak (e_bin (o_add c.c.hK) (E3.weak (e_var (pv 2))) (E3.weak (e_var (pv 5))))) (E3.weak (e_var (pv 3))))) (E3.weak (e_var (pv 4)))) a_nil)))))) (ss_one (s_ret (e_tup (a_cons (e_var (pv 1)) (a_cons (e_var (pv 2)) a_nil)))))))
theorem ok__law_some_pairs (d__law_any : Def3 P w K mg base T "_law_any" 2 2 [] mf__law_any) (d__law_of : Def3 P w K mg base T "_law_of" 3 2 [] mf__law_of) (z : NoneOf mg ["range"]) {fa : Addr} {fd : FuncData} (F : Fun K "_law_some_pairs" "_law_some_pairs" st__law_some_pairs fa fd) : FnOk P w K mg base (L2.CX P w) 4 fa fd ["deal"] (spM K mg T 1 mf__law_some_pairs) :=
  fn3 F sc__law_some_pairs rfl fun cdv A outer s H E Γ hr hH hT hcd => by
    have c := conBody sc__law_some_pairs hr hH hT
    exact (ss_cons (s_set (i := 1) c.c.hN (by rfl) (by first | exact .inl rfl | exact .inr rfl) (r_call1 c.c d__law_of (by decide) (a_cons (e_var (pv 0)) (a_cons (e_lst (a_cons e_int (a_cons e_int (a_cons e_int (a_cons e_int (a_cons (e_bin o_pow (E3.weak e_int) (E3.weak e_int)) a_nil)))))) a_nil)))) (ss_one (s_ret (e_ofN (n_comp c.c.hc c.c.hN (blkOk_of (own := [("turn", 2)]) (by kernel_rfl)) (i_rng1 (by rfl) (z "range" (by decide)) (a_cons (r_call1 c.c d__law_of (by decide) (a_cons (e_var (pv 0)) (a_cons (e_lst (a_cons e_int (a_cons e_int (a_cons e_int (a_cons e_int (a_cons e_int a_nil)))))) a_nil))) a_nil)) (by decide) (fun _ _ _ _ _ => (g_name c.c.blk.hN (i := 2) (by rfl) (by first | exact .inl rfl | exact .inr rfl))) (fun _ _ _ _ _ => ts_nil) (fun _ _ _ _ _ => (e_tup (a_cons (r_call1 c.c.blk d__law_any (by decide) (a_cons (e_var (pv 0)) (a_cons (e_bin (o_add c.c.blk.hK) (E3.weak (e_var (pv 1))) (E3.weak e_int)) a_nil))) (a_cons (r_call1 c.c.blk d__law_any (by decide) (a_cons (e_var (pv 0)) (a_cons (e_bin (o_add c.c.blk.hK) (E3.weak (e_var (pv 1))) (E3.weak e_int)) a_nil))) a_nil)))))))))
theorem ok__law_done  {fa : Addr} {fd : FuncData} (F : Fun K "_law_done" "_law_done" st__law_done fa fd) : FnOk P w K mg base (L2.CX P w) 2 fa fd ["deeds", "number"] (spM K mg T 2 mf__law_done) :=
  fn3 F sc__law_done rfl fun cdv A outer s H E Γ hr hH hT hcd => by
    have c := conBody sc__law_done hr hH hT
    exact (ss_cons (s_for c.hp c.c.hc (i_seq c.c.hK (e_var (pv 0))) (g_tup c.c.hK c.c.hc (gs_cons (g_name c.c.hN (i := 2) (by rfl) (by first | exact .inl rfl | exact .inr rfl)) (gs_cons (g_name c.c.hN (i := 3) (by rfl) (by first | exact .inl rfl | exact .inr rfl)) gs_nil))) (ss_one (s_set (i := 1) c.c.hN (by rfl) (by first | exact .inl rfl | exact .inr rfl) (e_bin (o_add c.c.hK) (E3.weak (e_if (t_cmp o_gt (E3.weak (e_var (pv 1))) (E3.weak (e_var (pv 2))) (by rfl)) (e_bin o_sub (E3.weak (e_var (pv 1))) (E3.weak (e_var (pv 2)))) e_int)) (E3.weak (e_var (pv 3))))))) (ss_one (s_ret (e_var (pv 1)))))
theorem ok_law (d_is_take_give : Def3 P w K mg base T "is_take_give" 4 1 [] mf_is_take_give) (dk_is_take_give : Def3K P w K mg base T "is_take_give" 4 1 ["value"] mf_is_take_give) (d_counter_after : Def3 P w K mg base T "counter_after" 6 2 [] mf_counter_after) (dk_counter_after : Def3K P w K mg base T "counter_after" 6 2 ["deeds", "number"] mf_counter_after) (d_deeds_as_one : Def3 P w K mg base T "deeds_as_one" 6 1 [] mf_deeds_as_one) (dk_deeds_as_one : Def3K P w K mg base T "deeds_as_one" 6 1 ["deeds"] mf_deeds_as_one) (d_repeated : Def3 P w K mg base T "repeated" 5 2 [] mf_repeated) (dk_repeated : Def3K P w K mg base T "repeated" 5 2 ["deed", "times"] mf_repeated) (d__law_draw : Def3 P w K mg base T "_law_draw" 2 2 [] mf__law_draw) (d__law_any : Def3 P w K mg base T "_law_any" 2 2 [] mf__law_any) (d__law_of : Def3 P w K mg base T "_law_of" 3 2 [] mf__law_of) (d__law_same : Def3 P w K mg base T "_law_same" 9 2 [] mf__law_same) (d__law_as_one : Def3 P w K mg base T "_law_as_one" 2 1 [] mf__law_as_one) (d__law_some_pairs : Def3 P w K mg base T "_law_some_pairs" 4 1 [] mf__law_some_pairs) (d__law_done : Def3 P w K mg base T "_law_done" 2 2 [] mf__law_done) (z : NoneOf mg ["max", "range", "tuple"]) (t_InvalidDeed : Err3 P K mg "InvalidDeed") (t_InvalidQuestion : Err3 P K mg "InvalidQuestion") (hh__law_refused : Heard P K mg "_law_refused" "work" "wrong" hcs__law_refused kn__law_refused) {fa : Addr} {fd : FuncData} (F : Fun K "law" "law" st_law fa fd) {cl Pt : Addr} (hcl : fd.code = .ref cl) (TB : TabB base mg cl Pt) (hmT : (Pt, ("law" : Str) ++ ".<locals>." ++ "<lambda>") ∈ T) (hu : ∀ p ∈ T, p.1 = Pt → p.2 = ("law" : Str) ++ ".<locals>." ++ "<lambda>") {cells : List Int → List Int} {blend : List Int → Int} (hgd : ∀ ns, ((eCall mf__law_draw (aCons (eVar 0) (aCons (eK (.int 21)) aNil)))) (argsE 17 [.scr ns]) ⟨[], 0⟩ = .ok (dealOf (cells ns) (blend ns)) ⟨[], 0⟩)
    (hlaw : ∀ ns : List Int, ns.length ≤ 63 → ∃ s1, mb_law (lawEnv 17) ⟨cells ns, blend ns⟩ = .ok (.rt (.bl true)) s1) : FnOk P w K mg base (L2.CX P w) 12 fa fd ["script"] (spLaw K T (fun _ => True)) :=
  law3 F sc_law rfl (by decide) rfl (fun cdv A outer s H E Γ hr hH hT hcd => by
    have c := conBody sc_law hr hH hT
    exact (s_set (i := 1) c.c.hN (by rfl) (by first | exact .inl rfl | exact .inr rfl) (r_call1 c.c d__law_draw (by decide) (a_cons (e_var (pv 0)) (a_cons e_int a_nil))))) hgd (fun cdv A outer s H E Γ hr hH hT hcd => by
    have c := conBody sc_law hr hH hT
    exact (ss_cons (s_for c.hp c.c.hc (i_rng1 (by rfl) (z "range" (by decide)) (a_cons e_int a_nil)) (g_name c.c.hN (i := 2) (by rfl) (by first | exact .inl rfl | exact .inr rfl)) (ss_cons (s_set (i := 3) c.c.hN (by rfl) (by first | exact .inl rfl | exact .inr rfl) (r_call1 c.c d__law_some_pairs (by decide) (a_cons (e_var (pv 1)) a_nil))) (ss_cons (s_set (i := 4) c.c.hN (by rfl) (by first | exact .inl rfl | exact .inr rfl) (e_if (t_cmp (o_eq c.c.hK c.c.hr) (E3.weak (r_call1 c.c d__law_any (by decide) (a_cons (e_var (pv 1)) (a_cons e_int a_nil)))) (E3.weak e_int) (by rfl)) (e_var (pv 3)) (r_tuple c.c (z "tuple" (by decide)) (w_cons (E3.weak (e_var (pv 3))) w_nil)))) (ss_cons (s_set (i := 5) c.c.hN (by rfl) (by first | exact .inl rfl | exact .inr rfl) (r_callK c.c dk_deeds_as_one (by decide) (k_cons (e_var (pv 4)) k_nil))) (ss_cons (s_if (TW3.t (tw_or (t_not (t_tru c.c.hK (E3.weak (r_call1 c.c d__law_same (by decide) (a_cons (e_var (pv 5)) (a_cons (r_call1 c.c d__law_as_one (by decide) (a_cons (e_var (pv 3)) a_nil)) a_nil)))))) (tw_or1 (t_not (t_tru c.c.hK (E3.weak (r_call1 c.c d__law_same (by decide) (a_cons (r_callK c.c dk_is_take_give (by decide) (k_cons (e_var (pv 5)) k_nil)) (a_cons e_bl a_nil))))))))) (ss_one (s_ret e_bl)) ss_nil) (ss_cons (s_for c.hp c.c.hc (i_seq c.c.hK (e_lst (a_cons e_int (a_cons e_int (a_cons (e_ix c.c.hK (E3.weak (e_var (pv 5))) e_int) (a_cons (e_bin (o_add c.c.hK) (E3.weak (e_ix c.c.hK (E3.weak (e_var (pv 5))) e_int)) (E3.weak e_int)) (a_cons (r_max2 c.c (z "max" (by decide)) (w_cons (E3.weak e_int) (w_cons (E3.weak (e_bin o_sub (E3.weak (e_ix c.c.hK (E3.weak (e_var (pv 5))) e_int)) (E3.weak e_int))) w_nil))) (a_cons (r_call1 c.c d__law_any (by decide) (a_cons (e_var (pv 1)) (a_cons e_int a_nil))) (a_cons (e_bin o_pow (E3.weak e_int) (E3.weak e_int)) a_nil))))))))) (g_name c.c.hN (i := 6) (by rfl) (by first | exact .inl rfl | exact .inr rfl)) (ss_cons (s_set (i := 7) c.c.hN (by rfl) (by first | exact .inl rfl | exact .inr rfl) (r_call1 c.c d__law_done (by decide) (a_cons (e_var (pv 3)) (a_cons (e_var (pv 6)) a_nil)))) (ss_one (s_if (t_not (t_tru c.c.hK (E3.weak (r_call1 c.c d__law_same (by decide) (a_cons (e_lst (a_cons (r_callK c.c dk_counter_after (by decide) (k_cons (e_var (pv 4)) (k_cons (e_var (pv 6)) k_nil))) (a_cons (r_call1 c.c d_counter_after (by decide) (a_cons (e_lst (a_cons (e_var (pv 5)) a_nil)) (a_cons (e_var (pv 6)) a_nil))) a_nil))) (a_cons (e_lst (a_cons (e_var (pv 7)) (a_cons (e_var (pv 7)) a_nil))) a_nil)))))) (ss_one (s_ret e_bl)) ss_nil)))) (ss_cons (s_asg (g_tup c.c.hK c.c.hc (gs_cons (g_name c.c.hN (i := 8) (by rfl) (by first | exact .inl rfl | exact .inr rfl)) (gs_cons (g_name c.c.hN (i := 9) (by rfl) (by first | exact .inl rfl | exact .inr rfl)) gs_nil))) (e_tup (a_cons (e_tup (a_cons (r_call1 c.c d__law_any (by decide) (a_cons (e_var (pv 1)) (a_cons e_int a_nil))) (a_cons (r_call1 c.c d__law_any (by decide) (a_cons (e_var (pv 1)) (a_cons e_int a_nil))) a_nil))) (a_cons (r_call1 c.c d__law_of (by decide) (a_cons (e_var (pv 1)) (a_cons (e_lst (a_cons e_int (a_cons e_int (a_cons e_int (a_cons e_int (a_cons e_int a_nil)))))) a_nil))) a_nil)))) (ss_cons (s_if (t_not (t_tru c.c.hK (E3.weak (r_call1 c.c d__law_same (by decide) (a_cons (r_callK c.c dk_repeated (by decide) (k_cons (e_var (pv 8)) (k_cons (e_var (pv 9)) k_nil))) (a_cons (r_call1 c.c d__law_as_one (by decide) (a_cons (e_bin (o_mul c.c.hK) (E3.weak (e_lst (a_cons (e_var (pv 8)) a_nil))) (E3.weak (e_var (pv 9)))) a_nil)) a_nil)))))) (ss_one (s_ret e_bl)) ss_nil) (ss_cons (s_set (i := 10) c.c.hN (by rfl) (by first | exact .inl rfl | exact .inr rfl) (e_bin (o_add c.c.hK) (E3.weak (e_bin o_pow (E3.weak e_int) (E3.weak e_int))) (E3.weak (r_call1 c.c d__law_any (by decide) (a_cons (e_var (pv 1)) (a_cons e_int a_nil)))))) (ss_cons (s_set (i := 11) c.c.hN (by rfl) (by first | exact .inl rfl | exact .inr rfl) (e_bin o_sub (E3.weak (e_ix c.c.hK (E3.weak (e_var (pv 8))) e_int)) (E3.weak (e_ix c.c.hK (E3.weak (e_var (pv 8))) e_int)))) (ss_cons (s_if (t_not (t_tru c.c.hK (E3.weak (r_call1 c.c d__law_same (by decide) (a_cons (r_call1 c.c d_repeated (by decide) (a_cons (e_var (pv 8)) (a_cons (e_var (pv 10)) a_nil))) (a_cons (e_tup (a_cons (e_bin (o_add c.c.hK) (E3.weak (e_ix c.c.hK (E3.weak (e_var (pv 8))) e_int)) (E3.weak (e_bin (o_mul c.c.hK) (E3.weak (r_max2 c.c (z "max" (by decide)) (w_cons (E3.weak e_int) (w_cons (E3.weak (e_neg (e_var (pv 11)))) w_nil)))) (E3.weak (e_bin o_sub (E3.weak (e_var (pv 10))) (E3.weak e_int)))))) (a_cons (e_bin (o_add c.c.hK) (E3.weak (e_ix c.c.hK (E3.weak (e_var (pv 8))) e_int)) (E3.weak (e_bin (o_mul c.c.hK) (E3.weak (r_max2 c.c (z "max" (by decide)) (w_cons (E3.weak e_int) (w_cons (E3.weak (e_var (pv 11))) w_nil)))) (E3.weak (e_bin o_sub (E3.weak (e_var (pv 10))) (E3.weak e_int)))))) a_nil))) a_nil)))))) (ss_one (s_ret e_bl)) ss_nil) (ss_cons (s_asg (g_tup c.c.hK c.c.hc (gs_cons (g_name c.c.hN (i := 12) (by rfl) (by first | exact .inl rfl | exact .inr rfl)) (gs_cons (g_name c.c.hN (i := 13) (by rfl) (by first | exact .inl rfl | exact .inr rfl)) gs_nil))) (e_tup (a_cons (r_call1 c.c d__law_of (by decide) (a_cons (e_var (pv 1)) (a_cons (e_lst (a_cons e_non (a_cons e_int (a_cons (e_tup (a_cons (e_tup (a_cons e_int a_nil)) a_nil)) (a_cons (e_lst (a_cons (e_tup (a_cons e_int (a_cons (e_neg e_int) a_nil))) a_nil)) (a_cons (e_lst (a_cons (e_tup (a_cons e_bl (a_cons e_int a_nil))) a_nil)) (a_cons (e_lst (a_cons (e_lst (a_cons e_int (a_cons e_int a_nil))) a_nil)) (a_cons (e_tup (a_cons (e_tup (a_cons e_int (a_cons e_int (a_cons e_int a_nil)))) a_nil)) (a_cons e_str (a_cons (e_bin (o_mul c.c.hK) (E3.weak (e_lst (a_cons (e_tup (a_cons e_int (a_cons e_int a_nil))) a_nil))) (E3.weak e_int)) (a_cons e_dic0 a_nil))))))))))) a_nil))) (a_cons (r_call1 c.c d__law_of (by decide) (a_cons (e_var (pv 1)) (a_cons (e_lst (a_cons e_non (a_cons (e_neg e_int) (a_cons e_bl (a_cons e_str (a_cons (e_tup (a_cons e_int a_nil)) a_nil)))))) a_nil))) a_nil)))) (ss_cons (s_set (i := 14) c.c.hN (by rfl) (by first | exact .inl rfl | exact .inr rfl) (e_lst (a_cons (e_heard c.c hh__law_refused TB (hcd.symm.trans hcl) hmT hu (by decide) (k := 9) (fun A1 o1 s1 H1 E1 f1 c1 cL => (r_call1 cL d_counter_after (by decide) (a_cons (e_var (pv 12)) (a_cons (e_var (pv 13)) a_nil)))) (lamS_by (by kernel_rfl))) (a_cons (e_heard c.c hh__law_refused TB (hcd.symm.trans hcl) hmT hu (by decide) (k := 9) (fun A1 o1 s1 H1 E1 f1 c1 cL => (r_call1 cL d_counter_after (by decide) (a_cons (e_var (pv 4)) (a_cons (e_var (pv 13)) a_nil)))) (lamS_by (by kernel_rfl))) (a_cons (e_heard c.c hh__law_refused TB (hcd.symm.trans hcl) hmT hu (by decide) (k := 9) (fun A1 o1 s1 H1 E1 f1 c1 cL => (r_call1 cL d_deeds_as_one (by decide) (a_cons (e_var (pv 12)) a_nil))) (lamS_by (by kernel_rfl))) a_nil))))) (ss_cons (s_set (i := 14) c.c.hN (by rfl) (by first | exact .inl rfl | exact .inr rfl) (e_bin (o_add c.c.hK) (E3.weak (e_var (pv 14))) (E3.weak (e_lst (a_cons (e_heard c.c hh__law_refused TB (hcd.symm.trans hcl) hmT hu (by decide) (k := 9) (fun A1 o1 s1 H1 E1 f1 c1 cL => (r_call1 cL d_repeated (by decide) (a_cons (r_call1 cL d__law_of (by decide) (a_cons (e_var (pv 1)) (a_cons (e_lst (a_cons e_non (a_cons (e_tup (a_cons e_int a_nil)) (a_cons (e_lst (a_cons e_int (a_cons e_int a_nil))) (a_cons (e_tup (a_cons e_int (a_cons (e_neg e_int) a_nil))) (a_cons (e_tup (a_cons e_bl (a_cons e_int a_nil))) a_nil)))))) a_nil))) (a_cons (e_var (pv 13)) a_nil)))) (lamS_by (by kernel_rfl))) (a_cons (e_heard c.c hh__law_refused TB (hcd.symm.trans hcl) hmT hu (by decide) (k := 9) (fun A1 o1 s1 H1 E1 f1 c1 cL => (r_call1 cL d_repeated (by decide) (a_cons (e_var (pv 8)) (a_cons (e_var (pv 13)) a_nil)))) (lamS_by (by kernel_rfl))) a_nil)))))) (ss_one (s_if (t_not (t_tru c.c.hK (E3.weak (r_call1 c.c d__law_same (by decide) (a_cons (e_var (pv 14)) (a_cons (e_lst (a_cons (e_tup (a_cons e_str (a_cons e_int a_nil))) (a_cons (e_tup (a_cons e_str (a_cons e_int a_nil))) (a_cons (e_tup (a_cons e_str (a_cons e_int a_nil))) (a_cons (e_tup (a_cons e_str (a_cons e_int a_nil))) (a_cons (e_tup (a_cons e_str (a_cons e_int a_nil))) a_nil)))))) a_nil)))))) (ss_one (s_ret e_bl)) ss_nil)))))))))))))))) (ss_cons (s_set (i := 15) c.c.hN (by rfl) (by first | exact .inl rfl | exact .inr rfl) (e_lst (a_cons (e_tup (a_cons e_int (a_cons e_int a_nil))) (a_cons (e_tup (a_cons (e_bin o_pow (E3.weak e_int) (E3.weak e_int)) (a_cons e_int a_nil))) (a_cons (e_lst (a_cons e_int (a_cons e_int a_nil))) (a_cons (e_tup (a_cons e_int a_nil)) (a_cons (e_tup (a_cons e_int (a_cons e_int (a_cons e_int a_nil)))) (a_cons (e_tup (a_cons (e_neg e_int) (a_cons e_int a_nil))) (a_cons (e_tup (a_cons e_int (a_cons e_bl a_nil))) (a_cons (e_tup (a_cons e_int (a_cons e_str a_nil))) (a_cons e_non (a_cons (e_tup a_nil) a_nil)))))))))))) (ss_cons (s_if (t_not (t_tru c.c.hK (E3.weak (r_call1 c.c d__law_same (by decide) (a_cons (e_ofN (n_comp c.c.hc c.c.hN (blkOk_of (own := [("value", 16)]) (by kernel_rfl)) (i_seqW c.c.hK (E3.weak (e_var (pv 15)))) (by decide) (fun _ _ _ _ _ => (g_name c.c.blk.hN (i := 16) (by rfl) (by first | exact .inl rfl | exact .inr rfl))) (fun _ _ _ _ _ => ts_nil) (fun _ _ _ _ _ => (r_call1 c.c.blk d_is_take_give (by decide) (a_cons (e_var (pv 16)) a_nil))))) (a_cons (e_bin (o_add c.c.hK) (E3.weak (e_lst (a_cons e_bl (a_cons e_bl a_nil)))) (E3.weak (e_bin (o_mul c.c.hK) (E3.weak (e_lst (a_cons e_bl a_nil))) (E3.weak e_int)))) a_nil)))))) (ss_one (s_ret e_bl)) ss_nil) (ss_one (s_ret (r_call1 c.c d__law_same (by decide) (a_cons (e_lst (a_cons (r_call1 c.c d_deeds_as_one (by decide) (a_cons (e_bin (o_mul c.c.hK) (E3.weak (e_lst (a_cons (e_tup (a_cons e_int (a_cons e_int a_nil))) a_nil))) (E3.weak e_int)) a_nil)) (a_cons (r_call1 c.c d_counter_after (by decide) (a_cons (e_bin (o_mul c.c.hK) (E3.weak (e_lst (a_cons (e_tup (a_cons e_int (a_cons e_int a_nil))) (a_cons (e_tup (a_cons e_int (a_cons e_int a_nil))) a_nil)))) (E3.weak e_int)) (a_cons e_int a_nil))) (a_cons (r_call1 c.c d_repeated (by decide) (a_cons (e_tup (a_cons e_int (a_cons e_int a_nil))) (a_cons (e_bin o_pow (E3.weak e_int) (E3.weak e_int)) a_nil))) a_nil)))) (a_cons (e_lst (a_cons (e_tup (a_cons e_int (a_cons e_int a_nil))) (a_cons e_int (a_cons (e_tup (a_cons e_int (a_cons e_int a_nil))) a_nil)))) a_nil))))))))) hlaw
end
/-! ### the mathematics -/
theorem bd (a b : Int) : (a == b) = decide (a = b) := rfl
def mx (i j : Int) : Int := if j > i then j else i
def pr (t g : Int) : L3.D := .tup [.int t, .int g]
def pp (p : Int × Int) : L3.D := pr p.1 p.2
def prs (ps : List (Int × Int)) : List L3.D := ps.map pp
def Pos2 (p : Int × Int) : Prop := 0 ≤ p.1 ∧ 0 ≤ p.2
def IsSeq (x : L3.D) (ps : List (Int × Int)) : Prop := x = .lst (prs ps) ∨ x = .tup (prs ps)
theorem forL_foldl {tgt : H1} {body : GS} {s : DS} {α β : Type} (c : α → L3.D) (st : β → Env3 → Prop) (f : β → α → β) : ∀ (xs : List α) (b : β) (ρ : Env3), st b ρ →
    (∀ (b : β) (x : α) (ρ : Env3), x ∈ xs → st b ρ → ∃ ρ1 ρ2, tgt (c x) ρ = some ρ1 ∧ body ρ1 s = .ok (.nx ρ2) s ∧ st (f b x) ρ2) → ∃ ρ', forL tgt body (xs.map c) ρ s = .ok (.nx ρ') s ∧ st (xs.foldl f b) ρ'
  | [], b, ρ, h, _ => ⟨ρ, rfl, h⟩
  | x :: xs, b, ρ, h, k => by
    obtain ⟨ρ1, ρ2, h1, h2, h3⟩ := k b x ρ List.mem_cons_self h
    obtain ⟨ρ', h4, h5⟩ := forL_foldl c st f xs (f b x) ρ2 h3 fun b y ρ hy => k b y ρ (List.mem_cons_of_mem _ hy)
    refine ⟨ρ', ?_, h5⟩
    rw [List.map_cons]
    unfold forL
    rw [h1]
    simp only [h2]
    exact h4
theorem isnum_ok (s : DS) {n : Int} (h : 0 ≤ n) : mf_is_number [.int n] s = .ok (.bl true) s := by
  show endF (mb_is_number [some (.d (.int n))] s) = _
  simp [mb_is_number, mf_is_integer, mkF, argsE, mb_is_integer, eVar, L3.D.ty, isiB, endF, geD, iD, h]
theorem istg_ok (s : DS) {t g : Int} (h1 : 0 ≤ t) (h2 : 0 ≤ g) : mf_is_take_give [pr t g] s = .ok (.bl true) s := by
  show endF (mb_is_take_give [some (.d (pr t g))] s) = _
  have e1 : ixD (pr t g) 0 = some (.int t) := rfl
  have e2 : ixD (pr t g) 1 = some (.int g) := rfl
  have e3 : L3.D.ty (pr t g) = some "tuple" := rfl
  have e4 : hLen [pr t g] = some (.int 2) := rfl
  have e5 : eqD (.int 2) (.int 2) = some (.bl true) := rfl
  simp [mb_is_take_give, eVar, e1, e2, e3, e4, e5, isiB, endF, isnum_ok s h1, isnum_ok s h2]
theorem bls_true {α : Type} : ∀ xs : List α, blsD (xs.map fun _ => L3.D.bl true) = some (xs.map fun _ => true)
  | [] => rfl
  | _ :: r => by
    show (blsD (r.map fun _ => L3.D.bl true)).map (true :: ·) = _
    rw [bls_true r]; rfl
theorem all_true {α : Type} : ∀ xs : List α, (xs.map fun _ => true).all id = true
  | [] => rfl
  | _ :: r => all_true r
theorem deeds_ok (s : DS) {x : L3.D} {ps : List (Int × Int)} (hx : IsSeq x ps) (hp : ∀ p ∈ ps, Pos2 p) (hl : ps.length ≤ 1000) : mf_checked_deeds [x] s = .ok .non s := by
  show endF (mb_checked_deeds [some (.d x), none] s) = _
  have hc := compL_map (tgt := hName 1) (e := eCall mf_is_take_give (aCons (eVar 1) aNil)) (ρ := [some (.d x), none]) (s := s) pp (fun _ => .bl true) ps (fun p h => ⟨[some (.d x), some (.d (pp p))], rfl, by
    have := istg_ok s (hp p h).1 (hp p h).2
    simp [eVar, pp, this]⟩)
  have es : mf_is_sequence [x] s = .ok (.bl true) s := by rcases hx with rfl | rfl <;> rfl
  have e1 : seqD x = some (ps.map pp) := by rcases hx with rfl | rfl <;> rfl
  have e2 : hLen [x] = some (.int ps.length) := by
    rcases hx with rfl | rfl
    · simp [hLen, lenD, prs]
    · simp [hLen, lenD, prs]
  have e3 : gtD (.int (ps.length : Int)) (.int 1000) = some (.bl false) := by
    simp [gtD, iD]; omega
  have e4 : hAll [.lst (ps.map fun _ => L3.D.bl true)] = some (.bl true) := by
    show (blsD (ps.map fun _ => L3.D.bl true)).map (fun bs => L3.D.bl (bs.all id)) = _
    rw [bls_true]
    show some (L3.D.bl ((ps.map fun _ => true).all id)) = _
    rw [all_true]
  have e5 : nComp (iSeq (eVar 0)) [1] (hName 1) tYes3 (eCall mf_is_take_give (aCons (eVar 1) aNil)) [some (.d x), none] s = .ok (ps.map fun _ => .bl true) s := by
    simp only [ev_comp, ev_iSeq]
    simp only [eVar, List.getElem?_cons_zero, rb_ok, e1, wip, List.set_cons_succ, List.set_cons_zero]
    exact hc
  simp [-ev_comp, mb_checked_deeds, eVar, es, truD, e2, e3, e4, e5, endF]
theorem num_ok (s : DS) {n : Int} (h : 0 ≤ n) (d : L3.D) : mf_checked_number [.int n, d] s = .ok .non s := by
  show endF (mb_checked_number [some (.d (.int n)), some (.d d)] s) = _
  simp [mb_checked_number, eVar, isnum_ok s h, truD, endF]
theorem by_ok (s : DS) (t g n : Int) : mf_counter_by [pr t g, .int n] s = .ok (.int (mx (n - t) 0 + g)) s := by
  show endF (mb_counter_by [some (.d (pr t g)), some (.d (.int n))] s) = _
  have e1 : ixD (pr t g) 0 = some (.int t) := rfl
  have e2 : ixD (pr t g) 1 = some (.int g) := rfl
  simp [mb_counter_by, eVar, e1, e2, subD, addD, iD, hMax2, mx, endF]
def step (n : Int) (p : Int × Int) : Int := mx (n - p.1) 0 + p.2
def cnt (ps : List (Int × Int)) (n : Int) : Int := ps.foldl step n
theorem after_ok (s : DS) {x : L3.D} {ps : List (Int × Int)} {n : Int} (hx : IsSeq x ps) (hp : ∀ p ∈ ps, Pos2 p) (hl : ps.length ≤ 1000) (hn : 0 ≤ n) : mf_counter_after [x, .int n] s = .ok (.int (cnt ps n)) s := by
  show endF (mb_counter_after [some (.d x), some (.d (.int n)), none] s) = _
  have e1 : seqD x = some (ps.map pp) := by rcases hx with rfl | rfl <;> rfl
  obtain ⟨ρ', h1, b, rfl⟩ := forL_foldl (tgt := hName 2) (body := sAsg (hName 1) (eCall mf_counter_by (aCons (eVar 2) (aCons (eVar 1) aNil)))) (s := s) pp (fun (v : Int) ρ => ∃ b, ρ = [some (.d x), some (.d (.int v)), b]) step ps n [some (.d x), some (.d (.int n)), none] ⟨none, rfl⟩
    (fun v p ρ _ h => by
      obtain ⟨b, rfl⟩ := h
      refine ⟨_, [some (.d x), some (.d (.int (step v p))), some (.d (pp p))], rfl, ?_, ⟨_, rfl⟩⟩
      simp [eVar, pp, by_ok, step])
  have e2 : sFor (iSeq (eVar 0)) (hName 2) (sAsg (hName 1) (eCall mf_counter_by (aCons (eVar 2) (aCons (eVar 1) aNil)))) [some (.d x), some (.d (.int n)), none] s = .ok (.nx [some (.d x), some (.d (.int (ps.foldl step n))), b]) s := by
    rw [ev_sfor, ev_iSeq]
    simp only [eVar, List.getElem?_cons_zero, rb_ok, e1, bindS_ok]
    exact h1
  unfold mb_counter_after
  simp only [ev_seq, ev_expr, ev_call, ev_cons, ev_nil, ev_K]
  simp only [eVar, List.getElem?_cons_zero, List.getElem?_cons_succ, rb_ok, deeds_ok s hx hp hl, num_ok s hn, bindS_ok]
  rw [e2]
  simp [endF, eVar, cnt]
def one1 (a : Int × Int) (c : Int × Int) : Int × Int := (a.1 + mx 0 (c.1 - a.2), c.2 + mx 0 (a.2 - c.1))
def ones (ps : List (Int × Int)) : Int × Int := ps.foldl one1 (0, 0)
theorem behind_ok (s : DS) (a c : Int × Int) : mf_one_behind [pp a, pp c] s = .ok (pp (one1 a c)) s := by
  show endF (mb_one_behind [some (.d (pp a)), some (.d (pp c)), none, none] s) = _
  have e1 : ixD (pp c) 0 = some (.int c.1) := rfl
  have e2 : ixD (pp c) 1 = some (.int c.2) := rfl
  have e3 : hTup 2 (hCons (hName 2) (hCons (hName 3) hNil)) (pp a) [some (.d (pp a)), some (.d (pp c)), none, none] = some [some (.d (pp a)), some (.d (pp c)), some (.d (.int a.1)), some (.d (.int a.2))] := rfl
  simp [mb_one_behind, eVar, e1, e2, e3, subD, addD, iD, hMax2, endF]
  simp [pp, pr, one1, mx]
theorem as_one_ok (s : DS) {x : L3.D} {ps : List (Int × Int)} (hx : IsSeq x ps) (hp : ∀ p ∈ ps, Pos2 p) (hl : ps.length ≤ 1000) : mf_deeds_as_one [x] s = .ok (pp (ones ps)) s := by
  show endF (mb_deeds_as_one [some (.d x)] s) = _
  have e1 : seqD x = some (ps.map pp) := by rcases hx with rfl | rfl <;> rfl
  obtain ⟨ρ', h1, b, rfl⟩ := forL_foldl (tgt := hName 2) (body := sAsg (hName 1) (eCall mf_one_behind (aCons (eVar 1) (aCons (eVar 2) aNil)))) (s := s) pp (fun (v : Int × Int) ρ => ∃ b, ρ = [some (.d x), some (.d (pp v)), b]) one1 ps (0, 0) [some (.d x), some (.d (pp (0, 0))), none] ⟨none, rfl⟩
    (fun v p ρ _ h => by
      obtain ⟨b, rfl⟩ := h
      refine ⟨_, [some (.d x), some (.d (pp (one1 v p))), some (.d (pp p))], rfl, ?_, ⟨_, rfl⟩⟩
      simp [eVar, behind_ok])
  have e2 : mf_as_one_by [x] s = .ok (pp (ones ps)) s := by
    show endF (mb_as_one_by [some (.d x), none, none] s) = _
    have e2 : sFor (iSeq (eVar 0)) (hName 2) (sAsg (hName 1) (eCall mf_one_behind (aCons (eVar 1) (aCons (eVar 2) aNil)))) [some (.d x), some (.d (pp (0, 0))), none] s = .ok (.nx [some (.d x), some (.d (pp (ps.foldl one1 (0, 0)))), b]) s := by
      rw [ev_sfor, ev_iSeq]
      simp only [eVar, List.getElem?_cons_zero, rb_ok, e1, bindS_ok]
      exact h1
    have e3 : sAsg (hName 1) (eTup (aCons (eK (.int 0)) (aCons (eK (.int 0)) aNil))) [some (.d x), none, none] s = .ok (.nx [some (.d x), some (.d (pp (0, 0))), none]) s := rfl
    unfold mb_as_one_by
    rw [ev_seq, e3]; simp only
    rw [ev_seq, e2]; simp only
    simp [eVar, endF, ones]
  simp [mb_deeds_as_one, eVar, deeds_ok s hx hp hl, e2, endF]

theorem law_one_ok (s : DS) (ps : List (Int × Int)) : mf__law_as_one [.lst (prs ps)] s = .ok (pp (ones ps)) s := by
  show endF (mb__law_as_one [some (.d (.lst (prs ps))), none, none, none, none, none] s) = _
  obtain ⟨ρ', h1, b3, b4, b5, rfl⟩ := forL_foldl (tgt := hTup 2 (hCons (hName 3) (hCons (hName 4) hNil))) (body := sSeq (sAsg (hName 5) (eB hMax2 (aCons (eK (.int 0)) (aCons (eBin subD (eVar 3) (eVar 2)) aNil)))) (sPar2 1 2 (aCons (eBin addD (eVar 1) (eVar 5)) (aCons (eBin addD (eBin subD (eBin addD (eVar 2) (eVar 5)) (eVar 3)) (eVar 4)) aNil)))) (s := s) pp
    (fun (v : Int × Int) ρ => ∃ b3 b4 b5, ρ = [some (.d (.lst (prs ps))), some (.d (.int v.1)), some (.d (.int v.2)), b3, b4, b5]) one1 ps (0, 0) [some (.d (.lst (prs ps))), some (.d (.int 0)), some (.d (.int 0)), none, none, none] ⟨none, none, none, rfl⟩
    (fun v p ρ _ h => by
      obtain ⟨b3, b4, b5, rfl⟩ := h
      refine ⟨[some (.d (.lst (prs ps))), some (.d (.int v.1)), some (.d (.int v.2)), some (.d (.int p.1)), some (.d (.int p.2)), b5], [some (.d (.lst (prs ps))), some (.d (.int (one1 v p).1)), some (.d (.int (one1 v p).2)), some (.d (.int p.1)), some (.d (.int p.2)), some (.d (.int (mx 0 (p.1 - v.2))))], rfl, ?_, ⟨_, _, _, rfl⟩⟩
      have e : v.2 + mx 0 (p.1 - v.2) - p.1 + p.2 = (one1 v p).2 := by
        unfold one1 mx
        simp only
        split <;> split <;> omega
      simp [eVar, hMax2, subD, addD, iD]
      refine ⟨by simp [one1, mx], ?_, by simp [mx]⟩
      rw [← e]; simp [mx])
  have e2 : sFor (iSeq (eVar 0)) (hTup 2 (hCons (hName 3) (hCons (hName 4) hNil))) (sSeq (sAsg (hName 5) (eB hMax2 (aCons (eK (.int 0)) (aCons (eBin subD (eVar 3) (eVar 2)) aNil)))) (sPar2 1 2 (aCons (eBin addD (eVar 1) (eVar 5)) (aCons (eBin addD (eBin subD (eBin addD (eVar 2) (eVar 5)) (eVar 3)) (eVar 4)) aNil)))) [some (.d (.lst (prs ps))), some (.d (.int 0)), some (.d (.int 0)), none, none, none] s
      = .ok (.nx [some (.d (.lst (prs ps))), some (.d (.int (ones ps).1)), some (.d (.int (ones ps).2)), b3, b4, b5]) s := h1
  have e3 : sAsg (hTup 2 (hCons (hName 1) (hCons (hName 2) hNil))) (eTup (aCons (eK (.int 0)) (aCons (eK (.int 0)) aNil))) [some (.d (.lst (prs ps))), none, none, none, none, none] s = .ok (.nx [some (.d (.lst (prs ps))), some (.d (.int 0)), some (.d (.int 0)), none, none, none]) s := rfl
  unfold mb__law_as_one
  rw [ev_seq, e3]; simp only
  rw [ev_seq, e2]; simp only
  simp [eVar, endF]
  rfl
theorem done_ok (s : DS) (ps : List (Int × Int)) (n : Int) : mf__law_done [.lst (prs ps), .int n] s = .ok (.int (cnt ps n)) s := by
  show endF (mb__law_done [some (.d (.lst (prs ps))), some (.d (.int n)), none, none] s) = _
  obtain ⟨ρ', h1, b2, b3, rfl⟩ := forL_foldl (tgt := hTup 2 (hCons (hName 2) (hCons (hName 3) hNil))) (body := sAsg (hName 1) (eBin addD (eIf (tCmp3 gtD (eVar 1) (eVar 2)) (eBin subD (eVar 1) (eVar 2)) (eK (.int 0))) (eVar 3))) (s := s) pp
    (fun (v : Int) ρ => ∃ b2 b3, ρ = [some (.d (.lst (prs ps))), some (.d (.int v)), b2, b3]) step ps n [some (.d (.lst (prs ps))), some (.d (.int n)), none, none] ⟨none, none, rfl⟩
    (fun v p ρ _ h => by
      obtain ⟨b2, b3, rfl⟩ := h
      refine ⟨[some (.d (.lst (prs ps))), some (.d (.int v)), some (.d (.int p.1)), some (.d (.int p.2))], [some (.d (.lst (prs ps))), some (.d (.int (step v p))), some (.d (.int p.1)), some (.d (.int p.2))], rfl, ?_, ⟨_, _, rfl⟩⟩
      by_cases c : v > p.1
      · have e : step v p = v - p.1 + p.2 := by unfold step mx; split <;> omega
        have c' : p.1 < v := c
        simp [eVar, gtD, subD, addD, iD, c', e]
      · have e : step v p = 0 + p.2 := by unfold step mx; split <;> omega
        have c' : ¬ p.1 < v := c
        simp [eVar, gtD, subD, addD, iD, c', e])
  have e2 : sFor (iSeq (eVar 0)) (hTup 2 (hCons (hName 2) (hCons (hName 3) hNil))) (sAsg (hName 1) (eBin addD (eIf (tCmp3 gtD (eVar 1) (eVar 2)) (eBin subD (eVar 1) (eVar 2)) (eK (.int 0))) (eVar 3))) [some (.d (.lst (prs ps))), some (.d (.int n)), none, none] s = .ok (.nx [some (.d (.lst (prs ps))), some (.d (.int (cnt ps n))), b2, b3]) s := h1
  unfold mb__law_done
  rw [ev_seq, e2]; simp only
  simp [eVar, endF]
theorem ones_from (ps : List (Int × Int)) : ∀ (a : Int × Int) (n : Int), ps.foldl step (mx (n - a.1) 0 + a.2) = mx (n - (ps.foldl one1 a).1) 0 + (ps.foldl one1 a).2 := by
  induction ps with
  | nil => intro a n; rfl
  | cons p r ih =>
    intro a n
    rw [List.foldl_cons, List.foldl_cons]
    have e : step (mx (n - a.1) 0 + a.2) p = mx (n - (one1 a p).1) 0 + (one1 a p).2 := by
      unfold step one1 mx
      simp only
      split <;> split <;> split <;> split <;> split <;> omega
    rw [e]
    exact ih _ n
theorem cnt_ones (ps : List (Int × Int)) {n : Int} (hn : 0 ≤ n) : cnt [ones ps] n = cnt ps n := by
  have h := ones_from ps (0, 0) n
  have e : mx (n - ((0, 0) : Int × Int).1) 0 + ((0, 0) : Int × Int).2 = n := by unfold mx; simp only; split <;> omega
  rw [e] at h
  exact h.symm
theorem ones_pos (ps : List (Int × Int)) : ∀ (a : Int × Int), Pos2 a → (∀ p ∈ ps, Pos2 p) → Pos2 (ps.foldl one1 a) := by
  induction ps with
  | nil => intro a h _; exact h
  | cons p r ih =>
    intro a h hp
    refine ih _ ?_ fun q hq => hp q (List.mem_cons_of_mem _ hq)
    have h1 := hp p List.mem_cons_self
    unfold Pos2 at *
    unfold one1 mx
    simp only
    constructor
    · split <;> omega
    · split <;> omega

def loops (p : Int × Int) (k : Int) : Int × Int := if k = 0 then (0, 0) else (p.1 + mx 0 (-(p.2 - p.1)) * (k - 1), p.2 + mx 0 (p.2 - p.1) * (k - 1))
theorem bit100 {i : Int} (h : i.natAbs < 2 ^ 400) : bitsI i < 400 := bits_lt (by decide) h
theorem rep_ok (s : DS) {p : Int × Int} {k : Int} (hp : Pos2 p) (h1 : p.1 < 1000) (h2 : p.2 < 1000) (hk : 0 ≤ k) (hk2 : k < 10 ^ 40) : mf_repeated [pp p, .int k] s = .ok (pp (loops p k)) s := by
  show endF (mb_repeated [some (.d (pp p)), some (.d (.int k))] s) = _
  have e1 : ixD (pp p) 0 = some (.int p.1) := rfl
  have e2 : ixD (pp p) 1 = some (.int p.2) := rfl
  have ht : mf_is_take_give [pp p] s = .ok (.bl true) s := istg_ok s hp.1 hp.2
  unfold Pos2 at hp
  have b1 : bitsI (mx 0 (-(p.2 - p.1))) + bitsI (k - 1) < 1000000 := by
    have := bit100 (i := mx 0 (-(p.2 - p.1))) (Nat.lt_of_lt_of_le (m := 2000) (by unfold mx; split <;> omega) (by decide))
    have := bit100 (i := k - 1) (Nat.lt_of_lt_of_le (m := 10 ^ 41) (by omega) (by decide))
    omega
  have b2 : bitsI (mx 0 (p.2 - p.1)) + bitsI (k - 1) < 1000000 := by
    have := bit100 (i := mx 0 (p.2 - p.1)) (Nat.lt_of_lt_of_le (m := 2000) (by unfold mx; split <;> omega) (by decide))
    have := bit100 (i := k - 1) (Nat.lt_of_lt_of_le (m := 10 ^ 41) (by omega) (by decide))
    omega
  have m1 : hMax2 [.int 0, .int (-(p.2 - p.1))] = some (.int (mx 0 (-(p.2 - p.1)))) := rfl
  have m2 : hMax2 [.int 0, .int (p.2 - p.1)] = some (.int (mx 0 (p.2 - p.1))) := rfl
  have m3 : mulD (.int (mx 0 (-(p.2 - p.1)))) (.int (k - 1)) = some (.int (mx 0 (-(p.2 - p.1)) * (k - 1))) := by
    show (if _ then _ else _) = _
    rw [if_pos b1]
  have m4 : mulD (.int (mx 0 (p.2 - p.1))) (.int (k - 1)) = some (.int (mx 0 (p.2 - p.1) * (k - 1))) := by
    show (if _ then _ else _) = _
    rw [if_pos b2]
  have hl : mf_loops_by [pp p, .int k] s = .ok (pp (loops p k)) s := by
    show endF (mb_loops_by [some (.d (pp p)), some (.d (.int k)), none] s) = _
    have s1 : subD (.int p.2) (.int p.1) = some (.int (p.2 - p.1)) := rfl
    have s2 : subD (.int k) (.int 1) = some (.int (k - 1)) := rfl
    have s3 : ∀ i j : Int, addD (.int i) (.int j) = some (.int (i + j)) := fun _ _ => rfl
    unfold loops
    by_cases c : k = 0
    · subst c
      simp [mb_loops_by, eVar, e1, e2, s1, eqD_int, endF]
      rfl
    · simp only [mb_loops_by, ev_seq, ev_asg, ev_bin, ev_ix, ev_K, eVar, List.getElem?_cons_zero, List.getElem?_cons_succ, rb_ok, e1, e2, s1, bindS_ok, ev_hName, List.set_cons_succ, List.set_cons_zero, ev_sif, ev_cmp, eqD_int, ev_toBl, c, decide_false, Bool.false_eq_true, if_false, ev_skip, ev_ret, ev_tup, ev_cons, ev_nil, ev_B, ev_neg, m1, m2, s2, m3, m4, s3]
      simp [endF, pp, pr]
  simp [mb_repeated, eVar, ht, truD, num_ok s hk, hl, endF]
theorem ones_rep {p : Int × Int} (hp : Pos2 p) : ∀ k : Nat, ones (List.replicate k p) = loops p k
  | 0 => rfl
  | k + 1 => by
    have ih := ones_rep hp k
    have e : ones (List.replicate (k + 1) p) = one1 (ones (List.replicate k p)) p := by
      unfold ones
      rw [List.replicate_succ', List.foldl_append]
      rfl
    rw [e, ih]
    unfold Pos2 at hp
    obtain ⟨t, g⟩ := p
    simp only at hp
    unfold loops
    rw [if_neg (by omega : ¬ ((k + 1 : Nat) : Int) = 0)]
    by_cases c : k = 0
    · subst c
      unfold one1 mx
      simp
      constructor
      · omega
      · omega
    · rw [if_neg (by omega : ¬ ((k : Nat) : Int) = 0)]
      unfold one1
      simp only
      have hk1 : ((k + 1 : Nat) : Int) - 1 = ((k : Int) - 1) + 1 := by omega
      rw [hk1, Int.mul_add, Int.mul_add]
      by_cases c2 : g ≤ t
      · have z : mx 0 (g - t) = 0 := by unfold mx; split <;> omega
        have z2 : mx 0 (-(g - t)) = t - g := by unfold mx; split <;> omega
        rw [z, z2]
        have z3 : mx 0 (t - (g + 0 * ((k : Int) - 1))) = t - g := by unfold mx; split <;> omega
        have z4 : mx 0 (g + 0 * ((k : Int) - 1) - t) = 0 := by unfold mx; split <;> omega
        rw [z3, z4]
        simp
        omega
      · have z : mx 0 (g - t) = g - t := by unfold mx; split <;> omega
        have z2 : mx 0 (-(g - t)) = 0 := by unfold mx; split <;> omega
        have hm : 0 ≤ (g - t) * ((k : Int) - 1) := Int.mul_nonneg (by omega) (by omega)
        rw [z, z2]
        have z3 : mx 0 (t - (g + (g - t) * ((k : Int) - 1))) = 0 := by unfold mx; split <;> omega
        have z4 : mx 0 (g + (g - t) * ((k : Int) - 1) - t) = (g - t) * ((k : Int) - 1) + (g - t) := by unfold mx; split <;> omega
        rw [z3, z4]
        simp
theorem compL_some {tgt : H1} {e : G} {ρ : Env3} {α : Type} (c : α → L3.D) (Pq : L3.D → Prop) : ∀ (xs : List α) (s : DS), Small s →
    (∀ x ∈ xs, ∀ s, Small s → ∃ ρ1 y s', tgt (c x) ρ = some ρ1 ∧ e ρ1 s = .ok y s' ∧ Pq y ∧ Small s') → ∃ ys s', compL tgt tYes3 e ρ (xs.map c) s = .ok ys s' ∧ ys.length = xs.length ∧ (∀ y ∈ ys, Pq y) ∧ Small s'
  | [], s, hs, _ => ⟨[], s, rfl, rfl, (fun _ h => by cases h), hs⟩
  | x :: xs, s, hs, k => by
    obtain ⟨ρ1, y, s1, h1, h2, h3, h4⟩ := k x List.mem_cons_self s hs
    obtain ⟨ys, s2, g1, g2, g3, g4⟩ := compL_some c Pq xs s1 h4 fun x hx => k x (List.mem_cons_of_mem _ hx)
    refine ⟨y :: ys, s2, ?_, by simp [g2], fun z hz => ?_, g4⟩
    · rw [List.map_cons]
      unfold compL
      rw [h1]
      simp only [ev_yes, noX, rb_ok, if_true, h2]
      rw [g1]
      rfl
    · rcases List.mem_cons.mp hz with rfl | hz
      · exact h3
      · exact g3 z hz
theorem prs_of : ∀ ys : List L3.D, (∀ y ∈ ys, ∃ p, Pos2 p ∧ y = pp p) → ∃ ps, ys = prs ps ∧ ps.length = ys.length ∧ ∀ p ∈ ps, Pos2 p
  | [], _ => ⟨[], rfl, rfl, fun _ h => by cases h⟩
  | y :: ys, h => by
    obtain ⟨p, h1, rfl⟩ := h y List.mem_cons_self
    obtain ⟨ps, rfl, h2, h3⟩ := prs_of ys fun z hz => h z (List.mem_cons_of_mem _ hz)
    exact ⟨p :: ps, rfl, by simp [h2], fun q hq => by rcases List.mem_cons.mp hq with rfl | hq; exact h1; exact h3 q hq⟩
theorem pow20 : powD (.int 10) (.int 20) = some (.int 100000000000000000000) := rfl
theorem fine20 : Fine 100000000000000000001 := fine_of (by decide) (by decide)
theorem pairs_ok {s : DS} (hs : Small s) : ∃ ps s', (∀ p ∈ ps, Pos2 p) ∧ ps.length ≤ 20 ∧ mf__law_some_pairs [.deal] s = .ok (.lst (prs ps)) s' ∧ Small s' := by
  obtain ⟨i, z, s1, k1, k2, k3, k4⟩ := of_ok (x := .lst [.int 1, .int 3, .int 3, .int 10, .int 100000000000000000000]) (ds := [.int 1, .int 3, .int 3, .int 10, .int 100000000000000000000]) hs (.inl rfl) (by simp) (by simp)
  have hz : ∃ m : Int, z = .int m ∧ 0 < m ∧ m ≤ 100000000000000000000 := by
    match i, k1, k2 with
    | 0, _, k2 => cases k2; exact ⟨_, rfl, by decide, by decide⟩
    | 1, _, k2 => cases k2; exact ⟨_, rfl, by decide, by decide⟩
    | 2, _, k2 => cases k2; exact ⟨_, rfl, by decide, by decide⟩
    | 3, _, k2 => cases k2; exact ⟨_, rfl, by decide, by decide⟩
    | 4, _, k2 => cases k2; exact ⟨_, rfl, by decide, by decide⟩
    | i + 5, h, _ => simp at h; omega
  obtain ⟨m, rfl, m1, m2⟩ := hz
  obtain ⟨i, z, s2, g1, g2, g3, g4⟩ := of_ok (x := .lst [.int 0, .int 1, .int 2, .int 5, .int 20]) (ds := [.int 0, .int 1, .int 2, .int 5, .int 20]) k4 (.inl rfl) (by simp) (by simp)
  have hz : ∃ n : Nat, z = .int (n : Int) ∧ n ≤ 20 := by
    match i, g1, g2 with
    | 0, _, k2 => cases k2; exact ⟨0, rfl, by decide⟩
    | 1, _, k2 => cases k2; exact ⟨1, rfl, by decide⟩
    | 2, _, k2 => cases k2; exact ⟨2, rfl, by decide⟩
    | 3, _, k2 => cases k2; exact ⟨5, rfl, by decide⟩
    | 4, _, k2 => cases k2; exact ⟨20, rfl, by decide⟩
    | i + 5, h, _ => simp at h; omega
  obtain ⟨n, rfl, n1⟩ := hz
  have hf : Fine (m + 1) := fine_of (by omega) (by omega)
  obtain ⟨ys, s3, c1, c2, c3, c4⟩ := compL_some (tgt := hName 2) (e := eTup (aCons (eCall mf__law_any (aCons (eVar 0) (aCons (eBin addD (eVar 1) (eK (.int 1))) aNil))) (aCons (eCall mf__law_any (aCons (eVar 0) (aCons (eBin addD (eVar 1) (eK (.int 1))) aNil))) aNil)))
    (ρ := [some (.d .deal), some (.d (.int m)), none]) (fun i : Nat => L3.D.int (0 + (i : Int))) (fun y => ∃ p, Pos2 p ∧ y = pp p) (List.range n) s2 g4 (fun x _ s hs => by
      obtain ⟨x1, s1, a1, a2, a3, a4⟩ := any_ok hs hf
      obtain ⟨x2, s2, b1, b2, b3, b4⟩ := any_ok a4 hf
      refine ⟨[some (.d .deal), some (.d (.int m)), some (.d (.int (0 + (x : Int))))], pp (x1, x2), s2, rfl, ?_, ⟨(x1, x2), ⟨a2, b2⟩, rfl⟩, b4⟩
      have s3 : addD (.int m) (.int 1) = some (.int (m + 1)) := rfl
      simp [eVar, s3, a1, b1]
      rfl)
  obtain ⟨ps, rfl, p1, p2⟩ := prs_of ys c3
  refine ⟨ps, s3, p2, by rw [p1, c2, List.length_range]; exact n1, ?_, c4⟩
  show endF (mb__law_some_pairs [some (.d .deal), none, none] s) = _
  have e1 : okR (n : Int) = true := by
    unfold okR; simp; omega
  have e2 : compL (hName 2) tYes3 (eTup (aCons (eCall mf__law_any (aCons (eVar 0) (aCons (eBin addD (eVar 1) (eK (.int 1))) aNil))) (aCons (eCall mf__law_any (aCons (eVar 0) (aCons (eBin addD (eVar 1) (eK (.int 1))) aNil))) aNil))) [some (.d .deal), some (.d (.int m)), none] (rngD 0 n) s2 = .ok (prs ps) s3 := c1
  have e3 : ((n : Int) ≤ 16777216) := by omega
  have e4 : ((n : Int)).toNat = n := by omega
  have q1 : sAsg (hName 1) (eCall mf__law_of (aCons (eVar 0) (aCons (eLst (aCons (eK (.int 1)) (aCons (eK (.int 3)) (aCons (eK (.int 3)) (aCons (eK (.int 10)) (aCons (eBin powD (eK (.int 10)) (eK (.int 20))) aNil)))))) aNil))) [some (.d .deal), none, none] s = .ok (.nx [some (.d .deal), some (.d (.int m)), none]) s1 := by
    simp [eVar, pow20, k3]
  have q0 : aCons (eCall mf__law_of (aCons (eVar 0) (aCons (eLst (aCons (eK (.int 0)) (aCons (eK (.int 1)) (aCons (eK (.int 2)) (aCons (eK (.int 5)) (aCons (eK (.int 20)) aNil)))))) aNil))) aNil [some (.d .deal), some (.d (.int m)), none] s1 = .ok [.int (n : Int)] s2 := by
    simp [eVar, g3]
  have q2 : iR1 (aCons (eCall mf__law_of (aCons (eVar 0) (aCons (eLst (aCons (eK (.int 0)) (aCons (eK (.int 1)) (aCons (eK (.int 2)) (aCons (eK (.int 5)) (aCons (eK (.int 20)) aNil)))))) aNil))) aNil) [some (.d .deal), some (.d (.int m)), none] s1 = .ok (rngD 0 n) s2 := iR1_ok q0 (by omega)
  unfold mb__law_some_pairs
  rw [ev_seq, q1]; simp only
  rw [ev_ret, ev_ofN, ev_comp, q2]
  simp only [rb_ok, wip, List.set_cons_succ, List.set_cons_zero]
  rw [e2]
  rfl
abbrev E (l : List (Option B)) : Env3 := none :: some (.d .deal) :: l
theorem t0_ok {s : DS} (hs : Small s) (a2 a3 : Option B) (l : List (Option B)) : ∃ ps s', (∀ p ∈ ps, Pos2 p) ∧ ps.length ≤ 20 ∧ law_t0 (E (a2 :: a3 :: l)) s = .ok (.nx (E (a2 :: some (.d (.lst (prs ps))) :: l))) s' ∧ Small s' := by
  obtain ⟨ps, s', h1, h2, h3, h4⟩ := pairs_ok hs
  exact ⟨ps, s', h1, h2, by simp [law_t0, eVar, h3], h4⟩
theorem t1_ok {s : DS} (hs : Small s) (ps : List (Int × Int)) (a2 a4 : Option B) (l : List (Option B)) : ∃ x s', IsSeq x ps ∧ law_t1 (E (a2 :: some (.d (.lst (prs ps))) :: a4 :: l)) s = .ok (.nx (E (a2 :: some (.d (.lst (prs ps))) :: some (.d x) :: l))) s' ∧ Small s' := by
  obtain ⟨x1, s1, a1, b1, b2, b3⟩ := any_ok (b := 2) hs (fine_of (by decide) (by decide))
  by_cases c : x1 = 0
  · exact ⟨.lst (prs ps), s1, .inl rfl, by simp [law_t1, eVar, a1, eqD_int, c], b3⟩
  · exact ⟨.tup (prs ps), s1, .inr rfl, by simp [law_t1, eVar, a1, eqD_int, c, hTuple], b3⟩
theorem t2_ok (s : DS) {x : L3.D} {ps : List (Int × Int)} (hx : IsSeq x ps) (hp : ∀ p ∈ ps, Pos2 p) (hl : ps.length ≤ 20) (a2 a3 a5 : Option B) (l : List (Option B)) : law_t2 (E (a2 :: a3 :: some (.d x) :: a5 :: l)) s = .ok (.nx (E (a2 :: a3 :: some (.d x) :: some (.d (pp (ones ps))) :: l))) s := by
  simp [law_t2, eVar, as_one_ok s hx hp (by omega)]
theorem nice_pp (p : Int × Int) : nice 8 (pp p) = true := rfl
theorem t3_ok (s : DS) {ps : List (Int × Int)} (hp : ∀ p ∈ ps, Pos2 p) (a2 a4 : Option B) (l : List (Option B)) : law_t3 (E (a2 :: some (.d (.lst (prs ps))) :: a4 :: some (.d (pp (ones ps))) :: l)) s = .ok (.nx (E (a2 :: some (.d (.lst (prs ps))) :: a4 :: some (.d (pp (ones ps))) :: l))) s := by
  have h := ones_pos ps (0, 0) ⟨by decide, by decide⟩ hp
  have e1 : mf_is_take_give [pp (ones ps)] s = .ok (.bl true) s := istg_ok s h.1 h.2
  have e2 : mfr__law_same 8 [pp (ones ps), pp (ones ps)] s = .ok (.bl true) s := same_ok 8 _ s (nice_pp _)
  have e3 : mfr__law_same 8 [.bl true, .bl true] s = .ok (.bl true) s := same_ok 8 _ s rfl
  simp [law_t3, eVar, law_one_ok, e1, e2, e3, truD]
theorem t4_ok {s : DS} (hs : Small s) {x : L3.D} {ps : List (Int × Int)} (hx : IsSeq x ps) (hp : ∀ p ∈ ps, Pos2 p) (hl : ps.length ≤ 20) (a2 a6 a7 : Option B) (l : List (Option B)) :
    ∃ b6 b7 s', law_t4 (E (a2 :: some (.d (.lst (prs ps))) :: some (.d x) :: some (.d (pp (ones ps))) :: a6 :: a7 :: l)) s = .ok (.nx (E (a2 :: some (.d (.lst (prs ps))) :: some (.d x) :: some (.d (pp (ones ps))) :: b6 :: b7 :: l))) s' ∧ Small s' := by
  have h := ones_pos ps (0, 0) ⟨by decide, by decide⟩ hp
  obtain ⟨r, s1, r1, r2, r3, r4⟩ := any_ok (b := 40) hs (fine_of (by decide) (by decide))
  have h1 : 0 ≤ (ones ps).1 := h.1
  obtain ⟨ρ', s', e2, b6, b7, rfl, rfl⟩ := forL_inv (tgt := hName 6) (body := sSeq (sAsg (hName 7) (eCall mf__law_done (aCons (eVar 3) (aCons (eVar 6) aNil)))) (sIf (tNot3 (tTru (eCall mf__law_same (aCons (eLst (aCons (eCall mf_counter_after (aCons (eVar 4) (aCons (eVar 6) aNil))) (aCons (eCall mf_counter_after (aCons (eLst (aCons (eVar 5) aNil)) (aCons (eVar 6) aNil))) aNil))) (aCons (eLst (aCons (eVar 7) (aCons (eVar 7) aNil))) aNil))))) (sRet (eK (.bl false))) sSkip))
    (fun ρ s' => ∃ b6 b7, ρ = E (a2 :: some (.d (.lst (prs ps))) :: some (.d x) :: some (.d (pp (ones ps))) :: b6 :: b7 :: l) ∧ s' = s1) ([0, 1, (ones ps).1, (ones ps).1 + 1, mx 0 ((ones ps).1 - 1), r, 1000000000000000000000000000000].map L3.D.int)
    (E (a2 :: some (.d (.lst (prs ps))) :: some (.d x) :: some (.d (pp (ones ps))) :: a6 :: a7 :: l)) s1 ⟨a6, a7, rfl, rfl⟩
    (fun d hd ρ s' hh => by
      obtain ⟨n, hn, rfl⟩ := List.mem_map.mp hd
      obtain ⟨b6, b7, rfl, rfl⟩ := hh
      have hn0 : 0 ≤ n := by
        simp only [List.mem_cons, List.mem_nil_iff, or_false] at hn
        rcases hn with rfl | rfl | rfl | rfl | rfl | rfl | rfl
        · decide
        · decide
        · exact h1
        · omega
        · unfold mx; split <;> omega
        · exact r2
        · decide
      refine ⟨_, E (a2 :: some (.d (.lst (prs ps))) :: some (.d x) :: some (.d (pp (ones ps))) :: some (.d (.int n)) :: some (.d (.int (cnt ps n))) :: l), s', rfl, .inl ?_, ⟨_, _, rfl, rfl⟩⟩
      have e1 := after_ok s' hx hp (by omega) hn0
      have e2 : mf_counter_after [.lst [pp (ones ps)], .int n] s' = .ok (.int (cnt ps n)) s' := by
        have := after_ok s' (x := .lst [pp (ones ps)]) (ps := [ones ps]) (.inl rfl) (fun p hp => by rw [List.mem_singleton.mp hp]; exact h) (by simp) hn0
        rw [cnt_ones ps hn0] at this
        exact this
      have e3 : mfr__law_same 8 [.lst [.int (cnt ps n), .int (cnt ps n)], .lst [.int (cnt ps n), .int (cnt ps n)]] s' = .ok (.bl true) s' := same_ok 8 _ s' rfl
      simp [eVar, done_ok, e1, e2, e3, truD])
  refine ⟨b6, b7, s', ?_, r4⟩
  have i1 : ixD (pp (ones ps)) 0 = some (.int (ones ps).1) := rfl
  have i2 : powD (.int 10) (.int 30) = some (.int 1000000000000000000000000000000) := rfl
  have i3 : addD (.int (ones ps).1) (.int 1) = some (.int ((ones ps).1 + 1)) := rfl
  have i4 : subD (.int (ones ps).1) (.int 1) = some (.int ((ones ps).1 - 1)) := rfl
  have i5 : hMax2 [.int 0, .int ((ones ps).1 - 1)] = some (.int (mx 0 ((ones ps).1 - 1))) := rfl
  simp [law_t4, eVar, i1, i2, i3, i4, i5, r1, seqD]
  exact e2
theorem t5_ok {s : DS} (hs : Small s) (a2 a3 a4 a5 a6 a7 a8 a9 : Option B) (l : List (Option B)) : ∃ (p : Int × Int) (k : Nat) (s' : DS), Pos2 p ∧ p.1 < 1000 ∧ p.2 < 1000 ∧ k ≤ 30 ∧
    law_t5 (E (a2 :: a3 :: a4 :: a5 :: a6 :: a7 :: a8 :: a9 :: l)) s = .ok (.nx (E (a2 :: a3 :: a4 :: a5 :: a6 :: a7 :: some (.d (pp p)) :: some (.d (.int (k : Int))) :: l))) s' ∧ Small s' := by
  obtain ⟨x, s1, a1, b1, b2, b3⟩ := any_ok (b := 9) hs (fine_of (by decide) (by decide))
  obtain ⟨y, s2, c1, d1, d2, d3⟩ := any_ok (b := 9) b3 (fine_of (by decide) (by decide))
  obtain ⟨i, z, s3, g1, g2, g3, g4⟩ := of_ok (x := .lst [.int 0, .int 1, .int 2, .int 7, .int 30]) (ds := [.int 0, .int 1, .int 2, .int 7, .int 30]) d3 (.inl rfl) (by simp) (by simp)
  have hz : ∃ n : Nat, z = .int (n : Int) ∧ n ≤ 30 := by
    match i, g1, g2 with
    | 0, _, k2 => cases k2; exact ⟨0, rfl, by decide⟩
    | 1, _, k2 => cases k2; exact ⟨1, rfl, by decide⟩
    | 2, _, k2 => cases k2; exact ⟨2, rfl, by decide⟩
    | 3, _, k2 => cases k2; exact ⟨7, rfl, by decide⟩
    | 4, _, k2 => cases k2; exact ⟨30, rfl, by decide⟩
    | i + 5, h, _ => simp at h; omega
  obtain ⟨n, rfl, n1⟩ := hz
  refine ⟨(x, y), n, s3, ⟨b1, d1⟩, by simp; omega, by simp; omega, n1, ?_, g4⟩
  simp [law_t5, eVar, a1, c1, g3, hTup, hCons, hNil, pp, pr]
theorem mulD_lst (a : List L3.D) (k : Int) : mulD (.lst a) (.int k) = if 0 ≤ k ∧ k < 1000000 ∧ a.length * k.toNat ≤ 16777216 then some (.lst (List.replicate k.toNat a).flatten) else none := rfl
theorem t6_ok (s : DS) {p : Int × Int} {k : Nat} (hp : Pos2 p) (h1 : p.1 < 1000) (h2 : p.2 < 1000) (hk : k ≤ 30) (a2 a3 a4 a5 a6 a7 : Option B) (l : List (Option B)) :
    law_t6 (E (a2 :: a3 :: a4 :: a5 :: a6 :: a7 :: some (.d (pp p)) :: some (.d (.int (k : Int))) :: l)) s = .ok (.nx (E (a2 :: a3 :: a4 :: a5 :: a6 :: a7 :: some (.d (pp p)) :: some (.d (.int (k : Int))) :: l))) s := by
  have e1 := rep_ok s hp h1 h2 (k := (k : Int)) (by omega) (by omega)
  have e0 : (List.replicate k [pp p]).flatten = prs (List.replicate k p) := by
    unfold prs
    rw [List.map_replicate]
    induction k with
    | zero => rfl
    | succ k ih => rw [List.replicate_succ, List.flatten_cons, ih (by omega) (rep_ok s hp h1 h2 (k := (k : Int)) (by omega) (by omega))]; rfl
  have e2 : mulD (.lst [pp p]) (.int (k : Int)) = some (.lst (prs (List.replicate k p))) := by
    have ek : (k : Int).toNat = k := by omega
    have hc : 0 ≤ (k : Int) ∧ (k : Int) < 1000000 ∧ [pp p].length * (k : Int).toNat ≤ 16777216 := ⟨by omega, by omega, by rw [ek, List.length_singleton]; omega⟩
    rw [mulD_lst, if_pos hc, ek, e0]
  have e3 : mf__law_as_one [.lst (prs (List.replicate k p))] s = .ok (pp (loops p k)) s := by
    rw [law_one_ok, ones_rep hp]
  have e4 : mfr__law_same 8 [pp (loops p k), pp (loops p k)] s = .ok (.bl true) s := same_ok 8 _ s (nice_pp _)
  have B1 : eLst (aCons (eVar 8) aNil) (E (a2 :: a3 :: a4 :: a5 :: a6 :: a7 :: some (.d (pp p)) :: some (.d (.int (k : Int))) :: l)) s = .ok (.lst [pp p]) s := by simp [eVar]
  have B2 : eVar 9 (E (a2 :: a3 :: a4 :: a5 :: a6 :: a7 :: some (.d (pp p)) :: some (.d (.int (k : Int))) :: l)) s = .ok (.int (k : Int)) s := by simp [eVar]
  have B3 : eVar 8 (E (a2 :: a3 :: a4 :: a5 :: a6 :: a7 :: some (.d (pp p)) :: some (.d (.int (k : Int))) :: l)) s = .ok (pp p) s := by simp [eVar]
  revert B1 B2 B3
  generalize E (a2 :: a3 :: a4 :: a5 :: a6 :: a7 :: some (.d (pp p)) :: some (.d (.int (k : Int))) :: l) = ρ
  intro B1 B2 B3
  have A1 : eCall mf_repeated (aCons (eVar 8) (aCons (eVar 9) aNil)) ρ s = .ok (pp (loops p k)) s := by
    rw [ev_call, ev_cons, B3, rb_ok, ev_cons, B2, rb_ok, ev_nil, rb_ok, rb_ok, rb_ok]
    exact e1
  have B4 : eBin mulD (eLst (aCons (eVar 8) aNil)) (eVar 9) ρ s = .ok (.lst (prs (List.replicate k p))) s := by
    rw [ev_bin, B1, rb_ok, B2, rb_ok, e2]
  have A2 : eCall mf__law_as_one (aCons (eBin mulD (eLst (aCons (eVar 8) aNil)) (eVar 9)) aNil) ρ s = .ok (pp (loops p k)) s := by
    rw [ev_call, ev_cons, B4, rb_ok, ev_nil, rb_ok, rb_ok]
    exact e3
  have A3 : eCall mf__law_same (aCons (eCall mf_repeated (aCons (eVar 8) (aCons (eVar 9) aNil))) (aCons (eCall mf__law_as_one (aCons (eBin mulD (eLst (aCons (eVar 8) aNil)) (eVar 9)) aNil)) aNil)) ρ s = .ok (.bl true) s := by
    rw [ev_call, ev_cons, A1, rb_ok, ev_cons, A2, rb_ok, ev_nil, rb_ok, rb_ok, rb_ok]
    exact e4
  unfold law_t6
  rw [ev_sif, ev_tnot, ev_tru, A3]
  rfl
theorem t7_ok {s : DS} (hs : Small s) (a2 a3 a4 a5 a6 a7 a8 a9 a10 : Option B) (l : List (Option B)) : ∃ (m : Int) (s' : DS), 0 < m ∧ m < 10 ^ 40 ∧
    law_t7 (E (a2 :: a3 :: a4 :: a5 :: a6 :: a7 :: a8 :: a9 :: a10 :: l)) s = .ok (.nx (E (a2 :: a3 :: a4 :: a5 :: a6 :: a7 :: a8 :: a9 :: some (.d (.int m)) :: l))) s' ∧ Small s' := by
  obtain ⟨x, s1, a1, b1, b2, b3⟩ := any_ok (b := 1000) hs (fine_of (by decide) (by decide))
  have i2 : powD (.int 10) (.int 30) = some (.int 1000000000000000000000000000000) := rfl
  have i3 : addD (.int 1000000000000000000000000000000) (.int x) = some (.int (1000000000000000000000000000000 + x)) := rfl
  refine ⟨1000000000000000000000000000000 + x, s1, by omega, by omega, ?_, b3⟩
  simp [law_t7, eVar, i2, i3, a1]
theorem t8_ok (s : DS) (p : Int × Int) (a2 a3 a4 a5 a6 a7 a9 a10 a11 : Option B) (l : List (Option B)) :
    law_t8 (E (a2 :: a3 :: a4 :: a5 :: a6 :: a7 :: some (.d (pp p)) :: a9 :: a10 :: a11 :: l)) s = .ok (.nx (E (a2 :: a3 :: a4 :: a5 :: a6 :: a7 :: some (.d (pp p)) :: a9 :: a10 :: some (.d (.int (p.2 - p.1))) :: l))) s := by
  have e1 : ixD (pp p) 0 = some (.int p.1) := rfl
  have e2 : ixD (pp p) 1 = some (.int p.2) := rfl
  have e3 : subD (.int p.2) (.int p.1) = some (.int (p.2 - p.1)) := rfl
  simp [law_t8, eVar, e1, e2, e3]
theorem t9_ok (s : DS) {p : Int × Int} {k : Int} (hp : Pos2 p) (h1 : p.1 < 1000) (h2 : p.2 < 1000) (hk : 0 < k) (hk2 : k < 10 ^ 40) (a2 a3 a4 a5 a6 a7 a9 : Option B) (l : List (Option B)) :
    law_t9 (E (a2 :: a3 :: a4 :: a5 :: a6 :: a7 :: some (.d (pp p)) :: a9 :: some (.d (.int k)) :: some (.d (.int (p.2 - p.1))) :: l)) s = .ok (.nx (E (a2 :: a3 :: a4 :: a5 :: a6 :: a7 :: some (.d (pp p)) :: a9 :: some (.d (.int k)) :: some (.d (.int (p.2 - p.1))) :: l))) s := by
  have e0 := rep_ok s hp h1 h2 (k := k) (by omega) hk2
  have e1 : ixD (pp p) 0 = some (.int p.1) := rfl
  have e2 : ixD (pp p) 1 = some (.int p.2) := rfl
  unfold Pos2 at hp
  have b1 : bitsI (mx 0 (-(p.2 - p.1))) + bitsI (k - 1) < 1000000 := by
    have := bit100 (i := mx 0 (-(p.2 - p.1))) (Nat.lt_of_lt_of_le (m := 2000) (by unfold mx; split <;> omega) (by decide))
    have := bit100 (i := k - 1) (Nat.lt_of_lt_of_le (m := 10 ^ 41) (by omega) (by decide))
    omega
  have b2 : bitsI (mx 0 (p.2 - p.1)) + bitsI (k - 1) < 1000000 := by
    have := bit100 (i := mx 0 (p.2 - p.1)) (Nat.lt_of_lt_of_le (m := 2000) (by unfold mx; split <;> omega) (by decide))
    have := bit100 (i := k - 1) (Nat.lt_of_lt_of_le (m := 10 ^ 41) (by omega) (by decide))
    omega
  have m1 : hMax2 [.int 0, .int (-(p.2 - p.1))] = some (.int (mx 0 (-(p.2 - p.1)))) := rfl
  have m2 : hMax2 [.int 0, .int (p.2 - p.1)] = some (.int (mx 0 (p.2 - p.1))) := rfl
  have m3 : mulD (.int (mx 0 (-(p.2 - p.1)))) (.int (k - 1)) = some (.int (mx 0 (-(p.2 - p.1)) * (k - 1))) := by
    show (if _ then _ else _) = _
    rw [if_pos b1]
  have m4 : mulD (.int (mx 0 (p.2 - p.1))) (.int (k - 1)) = some (.int (mx 0 (p.2 - p.1) * (k - 1))) := by
    show (if _ then _ else _) = _
    rw [if_pos b2]
  have s2 : subD (.int k) (.int 1) = some (.int (k - 1)) := rfl
  have s3 : ∀ i j : Int, addD (.int i) (.int j) = some (.int (i + j)) := fun _ _ => rfl
  have el : pp (loops p k) = .tup [.int (p.1 + mx 0 (-(p.2 - p.1)) * (k - 1)), .int (p.2 + mx 0 (p.2 - p.1) * (k - 1))] := by
    unfold loops
    rw [if_neg (by omega)]
    rfl
  have e4 : mfr__law_same 8 [pp (loops p k), pp (loops p k)] s = .ok (.bl true) s := same_ok 8 _ s (nice_pp _)
  rw [el] at e0 e4
  simp only [law_t9, ev_sif, ev_tnot, ev_tru, ev_call, ev_cons, ev_nil, eVar, List.getElem?_cons_zero, List.getElem?_cons_succ, rb_ok, e0, ev_tup, ev_bin, ev_ix, ev_K, e1, e2, ev_B, ev_neg, m1, m2, s2, m3, m4, s3]
  simp [e4, truD]

def bads : List L3.D := [.non, .int 3, .tup [.tup [.int 1]], .lst [.tup [.int 1, .int (-1)]], .lst [.tup [.bl true, .int 0]], .lst [.lst [.int 1, .int 0]], .tup [.tup [.int 1, .int 0, .int 0]], .str "ab", .lst (List.replicate 1001 (pr 1 0)), .dic [] []]
def odds : List L3.D := [.non, .int (-1), .bl true, .str "1", .tup [.int 1]]
def offs : List L3.D := [.non, .tup [.int 1], .lst [.int 1, .int 0], .tup [.int 0, .int (-1)], .tup [.bl true, .int 1]]
theorem bads_len : bads.length = 10 := rfl
theorem bad_exc (s : DS) : ∀ (i : Nat) (b : L3.D), bads[i]? = some b → mf_checked_deeds [b] s = .exc ⟨"InvalidDeed", .int 0⟩ s := by
  intro i b h
  match i, h with
  | 0, h => cases h; kernel_rfl
  | 1, h => cases h; kernel_rfl
  | 2, h => cases h; kernel_rfl
  | 3, h => cases h; kernel_rfl
  | 4, h => cases h; kernel_rfl
  | 5, h => cases h; kernel_rfl
  | 6, h => cases h; kernel_rfl
  | 7, h => cases h; kernel_rfl
  | 8, h => cases h; kernel_rfl
  | 9, h => cases h; kernel_rfl
  | i + 10, h => cases h
theorem odd_exc (s : DS) : ∀ (i : Nat) (b : L3.D), odds[i]? = some b → mf_checked_number [b, .int 1] s = .exc ⟨"InvalidQuestion", .int 1⟩ s := by
  intro i b h
  match i, h with
  | 0, h => cases h; kernel_rfl
  | 1, h => cases h; kernel_rfl
  | 2, h => cases h; kernel_rfl
  | 3, h => cases h; kernel_rfl
  | 4, h => cases h; kernel_rfl
  | i + 5, h => cases h
theorem off_no (s : DS) : ∀ (i : Nat) (b : L3.D), offs[i]? = some b → mf_is_take_give [b] s = .ok (.bl false) s := by
  intro i b h
  match i, h with
  | 0, h => cases h; kernel_rfl
  | 1, h => cases h; kernel_rfl
  | 2, h => cases h; kernel_rfl
  | 3, h => cases h; kernel_rfl
  | 4, h => cases h; kernel_rfl
  | i + 5, h => cases h
theorem bads_ev (ρ : Env3) (s : DS) : (eLst (aCons (eK .non) (aCons (eK (.int 3)) (aCons (eTup (aCons (eTup (aCons (eK (.int 1)) aNil)) aNil)) (aCons (eLst (aCons (eTup (aCons (eK (.int 1)) (aCons (eNeg (eK (.int 1))) aNil))) aNil)) (aCons (eLst (aCons (eTup (aCons (eK (.bl true)) (aCons (eK (.int 0)) aNil))) aNil)) (aCons (eLst (aCons (eLst (aCons (eK (.int 1)) (aCons (eK (.int 0)) aNil))) aNil)) (aCons (eTup (aCons (eTup (aCons (eK (.int 1)) (aCons (eK (.int 0)) (aCons (eK (.int 0)) aNil)))) aNil)) (aCons (eK (.str "ab")) (aCons (eBin mulD (eLst (aCons (eTup (aCons (eK (.int 1)) (aCons (eK (.int 0)) aNil))) aNil)) (eK (.int 1001))) (aCons eDic0 aNil))))))))))) ρ s = .ok (.lst bads) s := by kernel_rfl
theorem odds_ev (ρ : Env3) (s : DS) : (eLst (aCons (eK .non) (aCons (eNeg (eK (.int 1))) (aCons (eK (.bl true)) (aCons (eK (.str "1")) (aCons (eTup (aCons (eK (.int 1)) aNil)) aNil)))))) ρ s = .ok (.lst odds) s := by kernel_rfl
theorem offs_ev (ρ : Env3) (s : DS) : (eLst (aCons (eK .non) (aCons (eTup (aCons (eK (.int 1)) aNil)) (aCons (eLst (aCons (eK (.int 1)) (aCons (eK (.int 0)) aNil))) (aCons (eTup (aCons (eK (.int 0)) (aCons (eNeg (eK (.int 1))) aNil))) (aCons (eTup (aCons (eK (.bl true)) (aCons (eK (.int 1)) aNil))) aNil)))))) ρ s = .ok (.lst offs) s := by kernel_rfl
theorem t10_ok {s : DS} (hs : Small s) (a2 a3 a4 a5 a6 a7 a8 a9 a10 a11 a12 a13 : Option B) (l : List (Option B)) : ∃ (i j : Nat) (b o : L3.D) (s' : DS), bads[i]? = some b ∧ odds[j]? = some o ∧
    law_t10 (E (a2 :: a3 :: a4 :: a5 :: a6 :: a7 :: a8 :: a9 :: a10 :: a11 :: a12 :: a13 :: l)) s = .ok (.nx (E (a2 :: a3 :: a4 :: a5 :: a6 :: a7 :: a8 :: a9 :: a10 :: a11 :: some (.d b) :: some (.d o) :: l))) s' ∧ Small s' := by
  obtain ⟨i, b, s1, g1, g2, g3, g4⟩ := of_ok (x := .lst bads) (ds := bads) hs (.inl rfl) (by decide) (by decide)
  obtain ⟨j, o, s2, k1, k2, k3, k4⟩ := of_ok (x := .lst odds) (ds := odds) g4 (.inl rfl) (by decide) (by decide)
  refine ⟨i, j, b, o, s2, g2, k2, ?_, k4⟩
  have B1 : ∀ s, eVar 1 (E (a2 :: a3 :: a4 :: a5 :: a6 :: a7 :: a8 :: a9 :: a10 :: a11 :: a12 :: a13 :: l)) s = .ok .deal s := fun s => rfl
  have B2 : hTup 2 (hCons (hName 12) (hCons (hName 13) hNil)) (.tup [b, o]) (E (a2 :: a3 :: a4 :: a5 :: a6 :: a7 :: a8 :: a9 :: a10 :: a11 :: a12 :: a13 :: l)) = some (E (a2 :: a3 :: a4 :: a5 :: a6 :: a7 :: a8 :: a9 :: a10 :: a11 :: some (.d b) :: some (.d o) :: l)) := rfl
  revert B1 B2
  generalize E (a2 :: a3 :: a4 :: a5 :: a6 :: a7 :: a8 :: a9 :: a10 :: a11 :: a12 :: a13 :: l) = ρ
  intro B1 B2
  have A1 : (eCall mf__law_of (aCons (eVar 1) (aCons (eLst (aCons (eK .non) (aCons (eK (.int 3)) (aCons (eTup (aCons (eTup (aCons (eK (.int 1)) aNil)) aNil)) (aCons (eLst (aCons (eTup (aCons (eK (.int 1)) (aCons (eNeg (eK (.int 1))) aNil))) aNil)) (aCons (eLst (aCons (eTup (aCons (eK (.bl true)) (aCons (eK (.int 0)) aNil))) aNil)) (aCons (eLst (aCons (eLst (aCons (eK (.int 1)) (aCons (eK (.int 0)) aNil))) aNil)) (aCons (eTup (aCons (eTup (aCons (eK (.int 1)) (aCons (eK (.int 0)) (aCons (eK (.int 0)) aNil)))) aNil)) (aCons (eK (.str "ab")) (aCons (eBin mulD (eLst (aCons (eTup (aCons (eK (.int 1)) (aCons (eK (.int 0)) aNil))) aNil)) (eK (.int 1001))) (aCons eDic0 aNil))))))))))) aNil))) ρ s = .ok b s1 := by
    rw [ev_call, ev_cons, B1, rb_ok, ev_cons, bads_ev, rb_ok, ev_nil, rb_ok, rb_ok, rb_ok]; exact g3
  have A2 : (eCall mf__law_of (aCons (eVar 1) (aCons (eLst (aCons (eK .non) (aCons (eNeg (eK (.int 1))) (aCons (eK (.bl true)) (aCons (eK (.str "1")) (aCons (eTup (aCons (eK (.int 1)) aNil)) aNil)))))) aNil))) ρ s1 = .ok o s2 := by
    rw [ev_call, ev_cons, B1, rb_ok, ev_cons, odds_ev, rb_ok, ev_nil, rb_ok, rb_ok, rb_ok]; exact k3
  unfold law_t10
  rw [ev_asg, ev_tup, ev_cons, A1, rb_ok, ev_cons, A2, rb_ok, ev_nil, rb_ok, rb_ok, rb_ok]
  simp [B2]

def deed0 : L3.D := .tup [.str "deed", .int 0]
def ques1 : L3.D := .tup [.str "question", .int 1]
theorem after_bad (s : DS) {b o : L3.D} (hb : mf_checked_deeds [b] s = .exc ⟨"InvalidDeed", .int 0⟩ s) : mf_counter_after [b, o] s = .exc ⟨"InvalidDeed", .int 0⟩ s := by
  show endF (mb_counter_after [some (.d b), some (.d o), none] s) = _
  simp [mb_counter_after, eVar, hb, endF]
theorem after_odd (s : DS) {x o : L3.D} {ps : List (Int × Int)} (hx : IsSeq x ps) (hp : ∀ p ∈ ps, Pos2 p) (hl : ps.length ≤ 1000) (ho : mf_checked_number [o, .int 1] s = .exc ⟨"InvalidQuestion", .int 1⟩ s) : mf_counter_after [x, o] s = .exc ⟨"InvalidQuestion", .int 1⟩ s := by
  show endF (mb_counter_after [some (.d x), some (.d o), none] s) = _
  simp [mb_counter_after, eVar, deeds_ok s hx hp hl, ho, endF]
theorem one_bad (s : DS) {b : L3.D} (hb : mf_checked_deeds [b] s = .exc ⟨"InvalidDeed", .int 0⟩ s) : mf_deeds_as_one [b] s = .exc ⟨"InvalidDeed", .int 0⟩ s := by
  show endF (mb_deeds_as_one [some (.d b)] s) = _
  simp [mb_deeds_as_one, eVar, hb, endF]
theorem rep_off (s : DS) {b o : L3.D} (hb : mf_is_take_give [b] s = .ok (.bl false) s) : mf_repeated [b, o] s = .exc ⟨"InvalidDeed", .int 0⟩ s := by
  show endF (mb_repeated [some (.d b), some (.d o)] s) = _
  simp [mb_repeated, eVar, hb, truD, endF]
theorem rep_odd (s : DS) {p : Int × Int} {o : L3.D} (hp : Pos2 p) (ho : mf_checked_number [o, .int 1] s = .exc ⟨"InvalidQuestion", .int 1⟩ s) : mf_repeated [pp p, o] s = .exc ⟨"InvalidQuestion", .int 1⟩ s := by
  show endF (mb_repeated [some (.d (pp p)), some (.d o)] s) = _
  have ht : mf_is_take_give [pp p] s = .ok (.bl true) s := istg_ok s hp.1 hp.2
  simp [mb_repeated, eVar, ht, ho, truD, endF]
theorem heard_deed {g : G} {ρ : Env3} {s s' : DS} (h : g ρ s = .exc ⟨"InvalidDeed", .int 0⟩ s') : eHeard hcs__law_refused kn__law_refused g ρ s = .ok deed0 s' := by
  unfold eHeard
  rw [h]
  rfl
theorem heard_ques {g : G} {ρ : Env3} {s s' : DS} (h : g ρ s = .exc ⟨"InvalidQuestion", .int 1⟩ s') : eHeard hcs__law_refused kn__law_refused g ρ s = .ok ques1 s' := by
  unfold eHeard
  rw [h]
  rfl
theorem call2 {f : List L3.D → DS → R L3.D} {a c : G} {ρ : Env3} {s s1 : DS} {d e : L3.D} {r : R L3.D} (ha : a ρ s = .ok d s1) (hc : c ρ s1 = .ok e s1) (h : f [d, e] s1 = r) : eCall f (aCons a (aCons c aNil)) ρ s = r := by
  rw [ev_call, ev_cons, ha, rb_ok, ev_cons, hc, rb_ok, ev_nil, rb_ok, rb_ok, rb_ok]; exact h
theorem call1 {f : List L3.D → DS → R L3.D} {a : G} {ρ : Env3} {s s1 : DS} {d : L3.D} {r : R L3.D} (ha : a ρ s = .ok d s1) (h : f [d] s1 = r) : eCall f (aCons a aNil) ρ s = r := by
  rw [ev_call, ev_cons, ha, rb_ok, ev_nil, rb_ok, rb_ok]; exact h
theorem t11_ok (s : DS) {x b o : L3.D} {ps : List (Int × Int)} {p : Int × Int} {i j : Nat} (hx : IsSeq x ps) (hp : ∀ p ∈ ps, Pos2 p) (hl : ps.length ≤ 20) (hb : bads[i]? = some b) (ho : odds[j]? = some o) (a2 a3 a5 a6 a7 a9 a10 a11 a14 : Option B) (l : List (Option B)) :
    law_t11 (E (a2 :: a3 :: some (.d x) :: a5 :: a6 :: a7 :: some (.d (pp p)) :: a9 :: a10 :: a11 :: some (.d b) :: some (.d o) :: a14 :: l)) s = .ok (.nx (E (a2 :: a3 :: some (.d x) :: a5 :: a6 :: a7 :: some (.d (pp p)) :: a9 :: a10 :: a11 :: some (.d b) :: some (.d o) :: some (.d (.lst [deed0, ques1, deed0])) :: l))) s := by
  have V4 : eVar 4 (E (a2 :: a3 :: some (.d x) :: a5 :: a6 :: a7 :: some (.d (pp p)) :: a9 :: a10 :: a11 :: some (.d b) :: some (.d o) :: a14 :: l)) s = .ok x s := rfl
  have V12 : eVar 12 (E (a2 :: a3 :: some (.d x) :: a5 :: a6 :: a7 :: some (.d (pp p)) :: a9 :: a10 :: a11 :: some (.d b) :: some (.d o) :: a14 :: l)) s = .ok b s := rfl
  have V13 : eVar 13 (E (a2 :: a3 :: some (.d x) :: a5 :: a6 :: a7 :: some (.d (pp p)) :: a9 :: a10 :: a11 :: some (.d b) :: some (.d o) :: a14 :: l)) s = .ok o s := rfl
  have VS : hName 14 (.lst [deed0, ques1, deed0]) (E (a2 :: a3 :: some (.d x) :: a5 :: a6 :: a7 :: some (.d (pp p)) :: a9 :: a10 :: a11 :: some (.d b) :: some (.d o) :: a14 :: l)) = some (E (a2 :: a3 :: some (.d x) :: a5 :: a6 :: a7 :: some (.d (pp p)) :: a9 :: a10 :: a11 :: some (.d b) :: some (.d o) :: some (.d (.lst [deed0, ques1, deed0])) :: l)) := rfl
  revert V4 V12 V13 VS
  generalize E (a2 :: a3 :: some (.d x) :: a5 :: a6 :: a7 :: some (.d (pp p)) :: a9 :: a10 :: a11 :: some (.d b) :: some (.d o) :: a14 :: l) = ρ
  intro V4 V12 V13 VS
  have A1 : (eHeard hcs__law_refused kn__law_refused (eCall mf_counter_after (aCons (eVar 12) (aCons (eVar 13) aNil)))) ρ s = .ok deed0 s := heard_deed (call2 V12 V13 (after_bad s (bad_exc s i b hb)))
  have A2 : (eHeard hcs__law_refused kn__law_refused (eCall mf_counter_after (aCons (eVar 4) (aCons (eVar 13) aNil)))) ρ s = .ok ques1 s := heard_ques (call2 V4 V13 (after_odd s hx hp (by omega) (odd_exc s j o ho)))
  have A3 : (eHeard hcs__law_refused kn__law_refused (eCall mf_deeds_as_one (aCons (eVar 12) aNil))) ρ s = .ok deed0 s := heard_deed (call1 V12 (one_bad s (bad_exc s i b hb)))
  unfold law_t11
  rw [ev_asg, ev_lst, ev_cons, A1, rb_ok, ev_cons, A2, rb_ok, ev_cons, A3, rb_ok, ev_nil, rb_ok, rb_ok, rb_ok, rb_ok]
  show (match hName 14 (.lst [deed0, ques1, deed0]) ρ with | some ρ' => R.ok (Out.nx ρ') s | none => R.bad) = _
  rw [VS]
theorem t12_ok {s : DS} (hs : Small s) {x b o : L3.D} {p : Int × Int} {j : Nat} (hpp : Pos2 p) (ho : odds[j]? = some o) (a2 a3 a5 a6 a7 a9 a10 a11 : Option B) (l : List (Option B)) : ∃ s', 
    law_t12 (E (a2 :: a3 :: some (.d x) :: a5 :: a6 :: a7 :: some (.d (pp p)) :: a9 :: a10 :: a11 :: some (.d b) :: some (.d o) :: some (.d (.lst [deed0, ques1, deed0])) :: l)) s = .ok (.nx (E (a2 :: a3 :: some (.d x) :: a5 :: a6 :: a7 :: some (.d (pp p)) :: a9 :: a10 :: a11 :: some (.d b) :: some (.d o) :: some (.d (.lst [deed0, ques1, deed0, deed0, ques1])) :: l))) s' ∧ Small s' := by
  obtain ⟨i, q, s1, g1, g2, g3, g4⟩ := of_ok (x := .lst offs) (ds := offs) hs (.inl rfl) (by decide) (by decide)
  refine ⟨s1, ?_, g4⟩
  have V1 : ∀ s, eVar 1 (E (a2 :: a3 :: some (.d x) :: a5 :: a6 :: a7 :: some (.d (pp p)) :: a9 :: a10 :: a11 :: some (.d b) :: some (.d o) :: some (.d (.lst [deed0, ques1, deed0])) :: l)) s = .ok .deal s := fun s => rfl
  have V8 : ∀ s, eVar 8 (E (a2 :: a3 :: some (.d x) :: a5 :: a6 :: a7 :: some (.d (pp p)) :: a9 :: a10 :: a11 :: some (.d b) :: some (.d o) :: some (.d (.lst [deed0, ques1, deed0])) :: l)) s = .ok (pp p) s := fun s => rfl
  have V13 : ∀ s, eVar 13 (E (a2 :: a3 :: some (.d x) :: a5 :: a6 :: a7 :: some (.d (pp p)) :: a9 :: a10 :: a11 :: some (.d b) :: some (.d o) :: some (.d (.lst [deed0, ques1, deed0])) :: l)) s = .ok o s := fun s => rfl
  have V14 : ∀ s, wVar 14 (E (a2 :: a3 :: some (.d x) :: a5 :: a6 :: a7 :: some (.d (pp p)) :: a9 :: a10 :: a11 :: some (.d b) :: some (.d o) :: some (.d (.lst [deed0, ques1, deed0])) :: l)) s = .ok (.lst [deed0, ques1, deed0]) s := fun s => rfl
  have V14' : ∀ s, eVar 14 (E (a2 :: a3 :: some (.d x) :: a5 :: a6 :: a7 :: some (.d (pp p)) :: a9 :: a10 :: a11 :: some (.d b) :: some (.d o) :: some (.d (.lst [deed0, ques1, deed0])) :: l)) s = .ok (.lst [deed0, ques1, deed0]) s := fun s => rfl
  have VS : hName 14 (.lst [deed0, ques1, deed0, deed0, ques1]) (E (a2 :: a3 :: some (.d x) :: a5 :: a6 :: a7 :: some (.d (pp p)) :: a9 :: a10 :: a11 :: some (.d b) :: some (.d o) :: some (.d (.lst [deed0, ques1, deed0])) :: l)) = some (E (a2 :: a3 :: some (.d x) :: a5 :: a6 :: a7 :: some (.d (pp p)) :: a9 :: a10 :: a11 :: some (.d b) :: some (.d o) :: some (.d (.lst [deed0, ques1, deed0, deed0, ques1])) :: l)) := rfl
  revert V1 V8 V13 V14 V14' VS
  generalize E (a2 :: a3 :: some (.d x) :: a5 :: a6 :: a7 :: some (.d (pp p)) :: a9 :: a10 :: a11 :: some (.d b) :: some (.d o) :: some (.d (.lst [deed0, ques1, deed0])) :: l) = ρ
  intro V1 V8 V13 V14 V14' VS
  have A0 : (eCall mf__law_of (aCons (eVar 1) (aCons (eLst (aCons (eK .non) (aCons (eTup (aCons (eK (.int 1)) aNil)) (aCons (eLst (aCons (eK (.int 1)) (aCons (eK (.int 0)) aNil))) (aCons (eTup (aCons (eK (.int 0)) (aCons (eNeg (eK (.int 1))) aNil))) (aCons (eTup (aCons (eK (.bl true)) (aCons (eK (.int 1)) aNil))) aNil)))))) aNil))) ρ s = .ok q s1 := call2 (V1 s) (offs_ev ρ s) g3
  have A1 : (eHeard hcs__law_refused kn__law_refused (eCall mf_repeated (aCons (eCall mf__law_of (aCons (eVar 1) (aCons (eLst (aCons (eK .non) (aCons (eTup (aCons (eK (.int 1)) aNil)) (aCons (eLst (aCons (eK (.int 1)) (aCons (eK (.int 0)) aNil))) (aCons (eTup (aCons (eK (.int 0)) (aCons (eNeg (eK (.int 1))) aNil))) (aCons (eTup (aCons (eK (.bl true)) (aCons (eK (.int 1)) aNil))) aNil)))))) aNil))) (aCons (eVar 13) aNil)))) ρ s = .ok deed0 s1 := heard_deed (call2 A0 (V13 s1) (rep_off s1 (off_no s1 i q g2)))
  have A2 : (eHeard hcs__law_refused kn__law_refused (eCall mf_repeated (aCons (eVar 8) (aCons (eVar 13) aNil)))) ρ s1 = .ok ques1 s1 := heard_ques (call2 (V8 s1) (V13 s1) (rep_odd s1 hpp (odd_exc s1 j o ho)))
  have S : addD (.lst [deed0, ques1, deed0]) (.lst [deed0, ques1]) = some (.lst [deed0, ques1, deed0, deed0, ques1]) := rfl
  have B : (eLst (aCons (eHeard hcs__law_refused kn__law_refused (eCall mf_repeated (aCons (eCall mf__law_of (aCons (eVar 1) (aCons (eLst (aCons (eK .non) (aCons (eTup (aCons (eK (.int 1)) aNil)) (aCons (eLst (aCons (eK (.int 1)) (aCons (eK (.int 0)) aNil))) (aCons (eTup (aCons (eK (.int 0)) (aCons (eNeg (eK (.int 1))) aNil))) (aCons (eTup (aCons (eK (.bl true)) (aCons (eK (.int 1)) aNil))) aNil)))))) aNil))) (aCons (eVar 13) aNil)))) (aCons (eHeard hcs__law_refused kn__law_refused (eCall mf_repeated (aCons (eVar 8) (aCons (eVar 13) aNil)))) aNil))) ρ s = .ok (.lst [deed0, ques1]) s1 := by
    rw [ev_lst, ev_cons, A1, rb_ok, ev_cons, A2, rb_ok, ev_nil, rb_ok, rb_ok, rb_ok]
    rfl
  unfold law_t12
  rw [ev_asg, ev_bin, V14', rb_ok, B, rb_ok, S]
  show (match hName 14 (.lst [deed0, ques1, deed0, deed0, ques1]) ρ with | some ρ' => R.ok (Out.nx ρ') s1 | none => R.bad) = _
  rw [VS]
theorem t13_ok (s : DS) {x b o : L3.D} {p : Int × Int} (a2 a3 a5 a6 a7 a9 a10 a11 : Option B) (l : List (Option B)) : law_t13 (E (a2 :: a3 :: some (.d x) :: a5 :: a6 :: a7 :: some (.d (pp p)) :: a9 :: a10 :: a11 :: some (.d b) :: some (.d o) :: some (.d (.lst [deed0, ques1, deed0, deed0, ques1])) :: l)) s = .ok (.nx (E (a2 :: a3 :: some (.d x) :: a5 :: a6 :: a7 :: some (.d (pp p)) :: a9 :: a10 :: a11 :: some (.d b) :: some (.d o) :: some (.d (.lst [deed0, ques1, deed0, deed0, ques1])) :: l))) s := by kernel_rfl

theorem body_ok {s : DS} (hs : Small s) (a2 a3 a4 a5 a6 a7 a8 a9 a10 a11 a12 a13 a14 : Option B) (l : List (Option B)) : ∃ b3 b4 b5 b6 b7 b8 b9 b10 b11 b12 b13 b14 s',
    law_b14 (E (a2 :: a3 :: a4 :: a5 :: a6 :: a7 :: a8 :: a9 :: a10 :: a11 :: a12 :: a13 :: a14 :: l)) s = .ok (.nx (E (a2 :: b3 :: b4 :: b5 :: b6 :: b7 :: b8 :: b9 :: b10 :: b11 :: b12 :: b13 :: b14 :: l))) s' ∧ Small s' := by
  obtain ⟨ps, s1, hp, hl, e0, h1⟩ := t0_ok hs a2 a3 (a4 :: a5 :: a6 :: a7 :: a8 :: a9 :: a10 :: a11 :: a12 :: a13 :: a14 :: l)
  obtain ⟨x, s2, hx, e1, h2⟩ := t1_ok h1 ps a2 a4 (a5 :: a6 :: a7 :: a8 :: a9 :: a10 :: a11 :: a12 :: a13 :: a14 :: l)
  have e2 := t2_ok s2 hx hp hl a2 (some (.d (.lst (prs ps)))) a5 (a6 :: a7 :: a8 :: a9 :: a10 :: a11 :: a12 :: a13 :: a14 :: l)
  have e3 := t3_ok s2 hp a2 (some (.d x)) (a6 :: a7 :: a8 :: a9 :: a10 :: a11 :: a12 :: a13 :: a14 :: l)
  obtain ⟨b6, b7, s3, e4, h3⟩ := t4_ok h2 hx hp hl a2 a6 a7 (a8 :: a9 :: a10 :: a11 :: a12 :: a13 :: a14 :: l)
  obtain ⟨p, k, s4, hpp, p1, p2, hk, e5, h4⟩ := t5_ok h3 a2 (some (.d (.lst (prs ps)))) (some (.d x)) (some (.d (pp (ones ps)))) b6 b7 a8 a9 (a10 :: a11 :: a12 :: a13 :: a14 :: l)
  have e6 := t6_ok s4 hpp p1 p2 hk a2 (some (.d (.lst (prs ps)))) (some (.d x)) (some (.d (pp (ones ps)))) b6 b7 (a10 :: a11 :: a12 :: a13 :: a14 :: l)
  obtain ⟨m, s5, m0, m1, e7, h5⟩ := t7_ok h4 a2 (some (.d (.lst (prs ps)))) (some (.d x)) (some (.d (pp (ones ps)))) b6 b7 (some (.d (pp p))) (some (.d (.int (k : Int)))) a10 (a11 :: a12 :: a13 :: a14 :: l)
  have e8 := t8_ok s5 p a2 (some (.d (.lst (prs ps)))) (some (.d x)) (some (.d (pp (ones ps)))) b6 b7 (some (.d (.int (k : Int)))) (some (.d (.int m))) a11 (a12 :: a13 :: a14 :: l)
  have e9 := t9_ok s5 hpp p1 p2 m0 m1 a2 (some (.d (.lst (prs ps)))) (some (.d x)) (some (.d (pp (ones ps)))) b6 b7 (some (.d (.int (k : Int)))) (a12 :: a13 :: a14 :: l)
  obtain ⟨i, j, b, o, s6, hb, ho, e10, h6⟩ := t10_ok h5 a2 (some (.d (.lst (prs ps)))) (some (.d x)) (some (.d (pp (ones ps)))) b6 b7 (some (.d (pp p))) (some (.d (.int (k : Int)))) (some (.d (.int m))) (some (.d (.int (p.2 - p.1)))) a12 a13 (a14 :: l)
  have e11 := t11_ok s6 (p := p) hx hp hl hb ho a2 (some (.d (.lst (prs ps)))) (some (.d (pp (ones ps)))) b6 b7 (some (.d (.int (k : Int)))) (some (.d (.int m))) (some (.d (.int (p.2 - p.1)))) a14 l
  obtain ⟨s7, e12, h7⟩ := t12_ok h6 (x := x) (b := b) hpp ho a2 (some (.d (.lst (prs ps)))) (some (.d (pp (ones ps)))) b6 b7 (some (.d (.int (k : Int)))) (some (.d (.int m))) (some (.d (.int (p.2 - p.1)))) l
  have e13 := t13_ok s7 (x := x) (b := b) (o := o) (p := p) a2 (some (.d (.lst (prs ps)))) (some (.d (pp (ones ps)))) b6 b7 (some (.d (.int (k : Int)))) (some (.d (.int m))) (some (.d (.int (p.2 - p.1)))) l
  refine ⟨some (.d (.lst (prs ps))), some (.d x), some (.d (pp (ones ps))), b6, b7, some (.d (pp p)), some (.d (.int (k : Int))), some (.d (.int m)), some (.d (.int (p.2 - p.1))), some (.d b), some (.d o), some (.d (.lst [deed0, ques1, deed0, deed0, ques1])), s7, ?_, h7⟩
  unfold law_b14
  rw [ev_seq, e0]; simp only
  rw [ev_seq, e1]; simp only
  rw [ev_seq, e2]; simp only
  rw [ev_seq, e3]; simp only
  rw [ev_seq, e4]; simp only
  rw [ev_seq, e5]; simp only
  rw [ev_seq, e6]; simp only
  rw [ev_seq, e7]; simp only
  rw [ev_seq, e8]; simp only
  rw [ev_seq, e9]; simp only
  rw [ev_seq, e10]; simp only
  rw [ev_seq, e11]; simp only
  rw [ev_seq, e12]; simp only
  rw [e13]
theorem s15_ok {s : DS} (hs : Small s) : ∃ a2 b3 b4 b5 b6 b7 b8 b9 b10 b11 b12 b13 b14 s', law_s15 (lawEnv 17) s = .ok (.nx (E (a2 :: b3 :: b4 :: b5 :: b6 :: b7 :: b8 :: b9 :: b10 :: b11 :: b12 :: b13 :: b14 :: [none, none]))) s' ∧ Small s' := by
  obtain ⟨ρ', s', e, ⟨a2, b3, b4, b5, b6, b7, b8, b9, b10, b11, b12, b13, b14, rfl⟩, h⟩ := forL_inv (tgt := hName 2) (body := law_b14) (fun ρ s' => (∃ a2 b3 b4 b5 b6 b7 b8 b9 b10 b11 b12 b13 b14, ρ = E (a2 :: b3 :: b4 :: b5 :: b6 :: b7 :: b8 :: b9 :: b10 :: b11 :: b12 :: b13 :: b14 :: [none, none])) ∧ Small s') (rngD 0 12) (lawEnv 17) s
    ⟨⟨none, none, none, none, none, none, none, none, none, none, none, none, none, rfl⟩, hs⟩
    (fun d _ ρ s' h => by
      obtain ⟨⟨a2, b3, b4, b5, b6, b7, b8, b9, b10, b11, b12, b13, b14, rfl⟩, h⟩ := h
      obtain ⟨c3, c4, c5, c6, c7, c8, c9, c10, c11, c12, c13, c14, s2, e, h2⟩ := body_ok h (some (.d d)) b3 b4 b5 b6 b7 b8 b9 b10 b11 b12 b13 b14 [none, none]
      exact ⟨_, _, s2, rfl, .inl e, ⟨_, _, _, _, _, _, _, _, _, _, _, _, _, rfl⟩, h2⟩)
  refine ⟨a2, b3, b4, b5, b6, b7, b8, b9, b10, b11, b12, b13, b14, s', ?_, h⟩
  have ei : iR1 (aCons (eK (.int 12)) aNil) (lawEnv 17) s = .ok (rngD 0 12) s := by rfl
  unfold law_s15
  rw [ev_sfor, ei]
  exact e
theorem tail_ok (s : DS) (a2 b3 b4 b5 b6 b7 b8 b9 b10 b11 b12 b13 b14 : Option B) : sSeq law_s16 (sSeq law_s18 law_s19) (E (a2 :: b3 :: b4 :: b5 :: b6 :: b7 :: b8 :: b9 :: b10 :: b11 :: b12 :: b13 :: b14 :: [none, none])) s = .ok (.rt (.bl true)) s := by kernel_rfl
theorem law_ok {s : DS} (hs : Small s) : ∃ s1, mb_law (lawEnv 17) s = .ok (.rt (.bl true)) s1 := by
  obtain ⟨a2, b3, b4, b5, b6, b7, b8, b9, b10, b11, b12, b13, b14, s', e, h⟩ := s15_ok hs
  refine ⟨s', ?_⟩
  unfold mb_law
  rw [ev_seq, e]; simp only
  exact tail_ok s' _ _ _ _ _ _ _ _ _ _ _ _ _

theorem draw_law (ns : List Int) : ∃ c b, mf__law_draw [.scr ns, .int 21] ⟨[], 0⟩ = .ok (dealOf c b) ⟨[], 0⟩ ∧ Small ⟨c, b⟩ := draw_ok ns ⟨[], 0⟩ (by decide) (by decide)
theorem hgd : ∀ ns, ((eCall mf__law_draw (aCons (eVar 0) (aCons (eK (.int 21)) aNil)))) (argsE 17 [.scr ns]) ⟨[], 0⟩ = .ok (dealOf ((fun ns => (draw_law ns).choose) ns) ((fun ns => (draw_law ns).choose_spec.choose) ns)) ⟨[], 0⟩ :=
  fun ns => (draw_law ns).choose_spec.choose_spec.1
theorem hlaw : ∀ ns : List Int, ns.length ≤ 63 → ∃ s1, mb_law (lawEnv 17) ⟨(fun ns => (draw_law ns).choose) ns, (fun ns => (draw_law ns).choose_spec.choose) ns⟩ = .ok (.rt (.bl true)) s1 :=
  fun ns _ => law_ok (draw_law ns).choose_spec.choose_spec.2
/-! ### what the top has written -/
set_option maxHeartbeats 0 in
theorem all_mk {l : PySem.W.OpenLaw} {w : World} {K : PySem.W.Frag} {h : Heap} {mg : Str → Option Value} {fa : Addr} (X : K.In h) (G : h.Ns mainGlobals mg) (hfa : mg "law" = some (.ref fa))
  {C_InvalidDeed Pu_InvalidDeed N_InvalidDeed fI_InvalidDeed cda_InvalidDeed cc_InvalidDeed : Addr} {nm_InvalidDeed q_InvalidDeed : Str} {bs_InvalidDeed : List Value} {sn_InvalidDeed : List Str} {sub_InvalidDeed : List Value} {ab_InvalidDeed : Bool} {col_InvalidDeed : Option Bool} {dd_InvalidDeed eod_InvalidDeed ean_InvalidDeed cdd_InvalidDeed cld_InvalidDeed : Option Addr} {m0_InvalidDeed m1_InvalidDeed m2_InvalidDeed m3_InvalidDeed m5_InvalidDeed : Option Value} {eoc_InvalidDeed edoc_InvalidDeed epm_InvalidDeed ect_InvalidDeed ccl_InvalidDeed cl_InvalidDeed : Value} {eosl_InvalidDeed ccs_InvalidDeed csl_InvalidDeed : Array (Option Value)} {vs_InvalidDeed : Array Value} {file_InvalidDeed : Str} {tf_InvalidDeed : Tok}
  {C_InvalidQuestion Pu_InvalidQuestion N_InvalidQuestion fI_InvalidQuestion cda_InvalidQuestion cc_InvalidQuestion : Addr} {nm_InvalidQuestion q_InvalidQuestion : Str} {bs_InvalidQuestion : List Value} {sn_InvalidQuestion : List Str} {sub_InvalidQuestion : List Value} {ab_InvalidQuestion : Bool} {col_InvalidQuestion : Option Bool} {dd_InvalidQuestion eod_InvalidQuestion ean_InvalidQuestion cdd_InvalidQuestion cld_InvalidQuestion : Option Addr} {m0_InvalidQuestion m1_InvalidQuestion m2_InvalidQuestion m3_InvalidQuestion m5_InvalidQuestion : Option Value} {eoc_InvalidQuestion edoc_InvalidQuestion epm_InvalidQuestion ect_InvalidQuestion ccl_InvalidQuestion cl_InvalidQuestion : Value} {eosl_InvalidQuestion ccs_InvalidQuestion csl_InvalidQuestion : Array (Option Value)} {vs_InvalidQuestion : Array Value} {file_InvalidQuestion : Str} {tf_InvalidQuestion : Tok}
  {f__law_refused : Addr} {od__law_refused an__law_refused : Option Addr} {sl__law_refused : Array (Option Value)} {oc__law_refused kV__law_refused dc__law_refused pm__law_refused cd__law_refused ct__law_refused : Value}
  {f_is_integer : Addr} {od_is_integer an_is_integer : Option Addr} {sl_is_integer : Array (Option Value)} {oc_is_integer kV_is_integer dc_is_integer pm_is_integer cd_is_integer ct_is_integer : Value}
  {f_is_sequence : Addr} {od_is_sequence an_is_sequence : Option Addr} {sl_is_sequence : Array (Option Value)} {oc_is_sequence kV_is_sequence dc_is_sequence pm_is_sequence cd_is_sequence ct_is_sequence : Value}
  {f_is_number : Addr} {od_is_number an_is_number : Option Addr} {sl_is_number : Array (Option Value)} {oc_is_number kV_is_number dc_is_number pm_is_number cd_is_number ct_is_number : Value}
  {f_is_take_give : Addr} {od_is_take_give an_is_take_give : Option Addr} {sl_is_take_give : Array (Option Value)} {oc_is_take_give kV_is_take_give dc_is_take_give pm_is_take_give cd_is_take_give ct_is_take_give : Value}
  {f_checked_deeds : Addr} {od_checked_deeds an_checked_deeds : Option Addr} {sl_checked_deeds : Array (Option Value)} {oc_checked_deeds kV_checked_deeds dc_checked_deeds pm_checked_deeds cd_checked_deeds ct_checked_deeds : Value}
  {f_checked_number : Addr} {od_checked_number an_checked_number : Option Addr} {sl_checked_number : Array (Option Value)} {oc_checked_number kV_checked_number dc_checked_number pm_checked_number cd_checked_number ct_checked_number : Value}
  {f_counter_by : Addr} {od_counter_by an_counter_by : Option Addr} {sl_counter_by : Array (Option Value)} {oc_counter_by kV_counter_by dc_counter_by pm_counter_by cd_counter_by ct_counter_by : Value}
  {f_counter_after : Addr} {od_counter_after an_counter_after : Option Addr} {sl_counter_after : Array (Option Value)} {oc_counter_after kV_counter_after dc_counter_after pm_counter_after cd_counter_after ct_counter_after : Value}
  {f_one_behind : Addr} {od_one_behind an_one_behind : Option Addr} {sl_one_behind : Array (Option Value)} {oc_one_behind kV_one_behind dc_one_behind pm_one_behind cd_one_behind ct_one_behind : Value}
  {f_as_one_by : Addr} {od_as_one_by an_as_one_by : Option Addr} {sl_as_one_by : Array (Option Value)} {oc_as_one_by kV_as_one_by dc_as_one_by pm_as_one_by cd_as_one_by ct_as_one_by : Value}
  {f_deeds_as_one : Addr} {od_deeds_as_one an_deeds_as_one : Option Addr} {sl_deeds_as_one : Array (Option Value)} {oc_deeds_as_one kV_deeds_as_one dc_deeds_as_one pm_deeds_as_one cd_deeds_as_one ct_deeds_as_one : Value}
  {f_loops_by : Addr} {od_loops_by an_loops_by : Option Addr} {sl_loops_by : Array (Option Value)} {oc_loops_by kV_loops_by dc_loops_by pm_loops_by cd_loops_by ct_loops_by : Value}
  {f_repeated : Addr} {od_repeated an_repeated : Option Addr} {sl_repeated : Array (Option Value)} {oc_repeated kV_repeated dc_repeated pm_repeated cd_repeated ct_repeated : Value}
  {f__law_draw : Addr} {od__law_draw an__law_draw : Option Addr} {sl__law_draw : Array (Option Value)} {oc__law_draw kV__law_draw dc__law_draw pm__law_draw cd__law_draw ct__law_draw : Value}
  {f__law_any : Addr} {od__law_any an__law_any : Option Addr} {sl__law_any : Array (Option Value)} {oc__law_any kV__law_any dc__law_any pm__law_any cd__law_any ct__law_any : Value}
  {f__law_of : Addr} {od__law_of an__law_of : Option Addr} {sl__law_of : Array (Option Value)} {oc__law_of kV__law_of dc__law_of pm__law_of cd__law_of ct__law_of : Value}
  {f__law_same : Addr} {od__law_same an__law_same : Option Addr} {sl__law_same : Array (Option Value)} {oc__law_same kV__law_same dc__law_same pm__law_same cd__law_same ct__law_same : Value}
  {f__law_as_one : Addr} {od__law_as_one an__law_as_one : Option Addr} {sl__law_as_one : Array (Option Value)} {oc__law_as_one kV__law_as_one dc__law_as_one pm__law_as_one cd__law_as_one ct__law_as_one : Value}
  {f__law_some_pairs : Addr} {od__law_some_pairs an__law_some_pairs : Option Addr} {sl__law_some_pairs : Array (Option Value)} {oc__law_some_pairs kV__law_some_pairs dc__law_some_pairs pm__law_some_pairs cd__law_some_pairs ct__law_some_pairs : Value}
  {f__law_done : Addr} {od__law_done an__law_done : Option Addr} {sl__law_done : Array (Option Value)} {oc__law_done kV__law_done dc__law_done pm__law_done cd__law_done ct__law_done : Value}
  {f_law : Addr} {od_law an_law : Option Addr} {sl_law : Array (Option Value)} {oc_law kV_law dc_law pm_law cd_law ct_law : Value}
  {cl Pt : Addr} {ke : Value} {kdd : Option Addr} {kvs : Array Value} {ksl : Array (Option Value)}
  {tk_TAKE : Tok}
  {tk_GIVE : Tok}
  {tk_MOST_DEEDS : Tok}
  (ea1_InvalidDeed : PySem.W.nsIn K mainGlobals "InvalidDeed" = some (some (.ref C_InvalidDeed)))
  (ea2_InvalidDeed : K.lookup C_InvalidDeed = some (excClassObj nm_InvalidDeed q_InvalidDeed C_InvalidDeed N_InvalidDeed bs_InvalidDeed [.ref Pu_InvalidDeed, .type "ValueError", .type "Exception", .type "BaseException", .type "object"] true sn_InvalidDeed sub_InvalidDeed ab_InvalidDeed col_InvalidDeed dd_InvalidDeed m0_InvalidDeed m1_InvalidDeed m2_InvalidDeed m3_InvalidDeed m5_InvalidDeed "ValueError.__new__"))
  (ea3_InvalidDeed : PySem.W.findIn K (.ref C_InvalidDeed) "__init__" = some (some (.ref fI_InvalidDeed)))
  (ea4_InvalidDeed : K.lookup fI_InvalidDeed = some ⟨eoc_InvalidDeed, eod_InvalidDeed, .func (PySem.W.ksFn "__init__" "InvalidDeed.__init__" (nA ⟨6, 17, 6, 21⟩ ⟨6, 23, 6, 25⟩) (nB [⟨7, 8, 7, 13⟩, ⟨7, 8, 7, 15⟩, ⟨7, 8, 7, 24⟩, ⟨7, 25, 7, 27⟩, ⟨7, 8, 7, 28⟩, ⟨7, 8, 7, 28⟩, ⟨8, 8, 8, 12⟩, ⟨8, 8, 8, 15⟩, ⟨8, 18, 8, 20⟩, ⟨8, 8, 8, 20⟩]) nS .none .none edoc_InvalidDeed epm_InvalidDeed ean_InvalidDeed (.ref cda_InvalidDeed) ect_InvalidDeed cc_InvalidDeed), eosl_InvalidDeed⟩)
  (ea5_InvalidDeed : PySem.W.codeIn K (.ref cda_InvalidDeed) "InvalidDeed.__init__" = true)
  (ea6_InvalidDeed : K.lookup cda_InvalidDeed = some ⟨ccl_InvalidDeed, cdd_InvalidDeed, .fields vs_InvalidDeed, ccs_InvalidDeed⟩)
  (ea7_InvalidDeed : vs_InvalidDeed[2]? = some (.str file_InvalidDeed tf_InvalidDeed))
  (ea8_InvalidDeed : ((l.prog.main.file : Str) == file_InvalidDeed) = true)
  (ea9_InvalidDeed : K.lookup cc_InvalidDeed = some ⟨cl_InvalidDeed, cld_InvalidDeed, .cell (some (.ref C_InvalidDeed)), csl_InvalidDeed⟩)
  (eb5_InvalidDeed : PySem.W.ks_superIn K C_InvalidDeed C_InvalidDeed "__init__" = some (some (.builtin "ValueError.__init__")))
  (eb6_InvalidDeed : PySem.W.excInitIn K C_InvalidDeed PySem.HandSPX.veTail "ValueError.__new__" = true)
  (eb7_InvalidDeed : PySem.W.findIn K (.ref C_InvalidDeed) "__setattr__" = some (some (.builtin "object.__setattr__")))
  (eb8_InvalidDeed : PySem.W.findIn K (.ref C_InvalidDeed) "__getattribute__" = some (some (.builtin "BaseException.__getattribute__")))
  (eb9_InvalidDeed : PySem.W.findIn K (.ref C_InvalidDeed) "__getattr__" = some none)
  (ec1_InvalidDeed : PySem.W.findIn K (.ref C_InvalidDeed) "at" = some none)
  (ec2_InvalidDeed : PySem.W.typeIn K (.ref fI_InvalidDeed) = some (.type "function"))
  (ec3_InvalidDeed : PySem.W.keepIn K (.ref C_InvalidDeed) = true)
  (ec4_InvalidDeed : PySem.W.subIn K (.ref C_InvalidDeed) (.type "ValueError") = some true)
  (ec5_InvalidDeed : PySem.W.subIn K (.ref C_InvalidDeed) (.type "BaseException") = some true)
  (ec6_InvalidDeed : PySem.W.mroIn K C_InvalidDeed (.ref C_InvalidDeed) = some true)
  (ec7_InvalidDeed : PySem.W.typeIn K (.ref C_InvalidDeed) = some (.type "type"))
  (ec8_InvalidDeed : PySem.W.hasDictIn K C_InvalidDeed = true)
  (ec9_InvalidDeed : PySem.W.isClsIn K C_InvalidDeed = true)
  (ea1_InvalidQuestion : PySem.W.nsIn K mainGlobals "InvalidQuestion" = some (some (.ref C_InvalidQuestion)))
  (ea2_InvalidQuestion : K.lookup C_InvalidQuestion = some (excClassObj nm_InvalidQuestion q_InvalidQuestion C_InvalidQuestion N_InvalidQuestion bs_InvalidQuestion [.ref Pu_InvalidQuestion, .type "ValueError", .type "Exception", .type "BaseException", .type "object"] true sn_InvalidQuestion sub_InvalidQuestion ab_InvalidQuestion col_InvalidQuestion dd_InvalidQuestion m0_InvalidQuestion m1_InvalidQuestion m2_InvalidQuestion m3_InvalidQuestion m5_InvalidQuestion "ValueError.__new__"))
  (ea3_InvalidQuestion : PySem.W.findIn K (.ref C_InvalidQuestion) "__init__" = some (some (.ref fI_InvalidQuestion)))
  (ea4_InvalidQuestion : K.lookup fI_InvalidQuestion = some ⟨eoc_InvalidQuestion, eod_InvalidQuestion, .func (PySem.W.ksFn "__init__" "InvalidQuestion.__init__" (nA ⟨11, 17, 11, 21⟩ ⟨11, 23, 11, 25⟩) (nB [⟨12, 8, 12, 13⟩, ⟨12, 8, 12, 15⟩, ⟨12, 8, 12, 24⟩, ⟨12, 25, 12, 27⟩, ⟨12, 8, 12, 28⟩, ⟨12, 8, 12, 28⟩, ⟨13, 8, 13, 12⟩, ⟨13, 8, 13, 15⟩, ⟨13, 18, 13, 20⟩, ⟨13, 8, 13, 20⟩]) nS .none .none edoc_InvalidQuestion epm_InvalidQuestion ean_InvalidQuestion (.ref cda_InvalidQuestion) ect_InvalidQuestion cc_InvalidQuestion), eosl_InvalidQuestion⟩)
  (ea5_InvalidQuestion : PySem.W.codeIn K (.ref cda_InvalidQuestion) "InvalidQuestion.__init__" = true)
  (ea6_InvalidQuestion : K.lookup cda_InvalidQuestion = some ⟨ccl_InvalidQuestion, cdd_InvalidQuestion, .fields vs_InvalidQuestion, ccs_InvalidQuestion⟩)
  (ea7_InvalidQuestion : vs_InvalidQuestion[2]? = some (.str file_InvalidQuestion tf_InvalidQuestion))
  (ea8_InvalidQuestion : ((l.prog.main.file : Str) == file_InvalidQuestion) = true)
  (ea9_InvalidQuestion : K.lookup cc_InvalidQuestion = some ⟨cl_InvalidQuestion, cld_InvalidQuestion, .cell (some (.ref C_InvalidQuestion)), csl_InvalidQuestion⟩)
  (eb5_InvalidQuestion : PySem.W.ks_superIn K C_InvalidQuestion C_InvalidQuestion "__init__" = some (some (.builtin "ValueError.__init__")))
  (eb6_InvalidQuestion : PySem.W.excInitIn K C_InvalidQuestion PySem.HandSPX.veTail "ValueError.__new__" = true)
  (eb7_InvalidQuestion : PySem.W.findIn K (.ref C_InvalidQuestion) "__setattr__" = some (some (.builtin "object.__setattr__")))
  (eb8_InvalidQuestion : PySem.W.findIn K (.ref C_InvalidQuestion) "__getattribute__" = some (some (.builtin "BaseException.__getattribute__")))
  (eb9_InvalidQuestion : PySem.W.findIn K (.ref C_InvalidQuestion) "__getattr__" = some none)
  (ec1_InvalidQuestion : PySem.W.findIn K (.ref C_InvalidQuestion) "at" = some none)
  (ec2_InvalidQuestion : PySem.W.typeIn K (.ref fI_InvalidQuestion) = some (.type "function"))
  (ec3_InvalidQuestion : PySem.W.keepIn K (.ref C_InvalidQuestion) = true)
  (ec4_InvalidQuestion : PySem.W.subIn K (.ref C_InvalidQuestion) (.type "ValueError") = some true)
  (ec5_InvalidQuestion : PySem.W.subIn K (.ref C_InvalidQuestion) (.type "BaseException") = some true)
  (ec6_InvalidQuestion : PySem.W.mroIn K C_InvalidQuestion (.ref C_InvalidQuestion) = some true)
  (ec7_InvalidQuestion : PySem.W.typeIn K (.ref C_InvalidQuestion) = some (.type "type"))
  (ec8_InvalidQuestion : PySem.W.hasDictIn K C_InvalidQuestion = true)
  (ec9_InvalidQuestion : PySem.W.isClsIn K C_InvalidQuestion = true)
  (eb2 : (l.prog.main.scope.names.lookup ("super" : Str)).isSome = false)
  (eb3 : PySem.W.nsIn K mainGlobals "super" = some none)
  (eb4 : PySem.W.nsIn K cStatics "thirdparty.any" = some none)
  (sb_InvalidDeed_InvalidDeed : PySem.W.subIn K (.ref C_InvalidDeed) (.ref C_InvalidDeed) = some true)
  (sb_InvalidDeed_InvalidQuestion : PySem.W.subIn K (.ref C_InvalidDeed) (.ref C_InvalidQuestion) = some false)
  (sb_InvalidQuestion_InvalidDeed : PySem.W.subIn K (.ref C_InvalidQuestion) (.ref C_InvalidDeed) = some false)
  (sb_InvalidQuestion_InvalidQuestion : PySem.W.subIn K (.ref C_InvalidQuestion) (.ref C_InvalidQuestion) = some true)
  (a__law_refused : PySem.W.nsIn K mainGlobals "_law_refused" = some (some (.ref f__law_refused)))
  (l__law_refused : K.lookup f__law_refused = some ⟨oc__law_refused, od__law_refused, .func (PySem.W.fnOf "_law_refused" "_law_refused" (defArgs st__law_refused) (defBody st__law_refused) (defScope st__law_refused) .none kV__law_refused dc__law_refused pm__law_refused an__law_refused cd__law_refused ct__law_refused), sl__law_refused⟩)
  (c__law_refused : PySem.W.codeIn K cd__law_refused "_law_refused" = true)
  (k__law_refused : PySem.W.keepIn K (.ref f__law_refused) = true)
  (a_is_integer : PySem.W.nsIn K mainGlobals "is_integer" = some (some (.ref f_is_integer)))
  (l_is_integer : K.lookup f_is_integer = some ⟨oc_is_integer, od_is_integer, .func (PySem.W.fnOf "is_integer" "is_integer" (defArgs st_is_integer) (defBody st_is_integer) (defScope st_is_integer) .none kV_is_integer dc_is_integer pm_is_integer an_is_integer cd_is_integer ct_is_integer), sl_is_integer⟩)
  (c_is_integer : PySem.W.codeIn K cd_is_integer "is_integer" = true)
  (k_is_integer : PySem.W.keepIn K (.ref f_is_integer) = true)
  (a_is_sequence : PySem.W.nsIn K mainGlobals "is_sequence" = some (some (.ref f_is_sequence)))
  (l_is_sequence : K.lookup f_is_sequence = some ⟨oc_is_sequence, od_is_sequence, .func (PySem.W.fnOf "is_sequence" "is_sequence" (defArgs st_is_sequence) (defBody st_is_sequence) (defScope st_is_sequence) .none kV_is_sequence dc_is_sequence pm_is_sequence an_is_sequence cd_is_sequence ct_is_sequence), sl_is_sequence⟩)
  (c_is_sequence : PySem.W.codeIn K cd_is_sequence "is_sequence" = true)
  (k_is_sequence : PySem.W.keepIn K (.ref f_is_sequence) = true)
  (a_is_number : PySem.W.nsIn K mainGlobals "is_number" = some (some (.ref f_is_number)))
  (l_is_number : K.lookup f_is_number = some ⟨oc_is_number, od_is_number, .func (PySem.W.fnOf "is_number" "is_number" (defArgs st_is_number) (defBody st_is_number) (defScope st_is_number) .none kV_is_number dc_is_number pm_is_number an_is_number cd_is_number ct_is_number), sl_is_number⟩)
  (c_is_number : PySem.W.codeIn K cd_is_number "is_number" = true)
  (k_is_number : PySem.W.keepIn K (.ref f_is_number) = true)
  (a_is_take_give : PySem.W.nsIn K mainGlobals "is_take_give" = some (some (.ref f_is_take_give)))
  (l_is_take_give : K.lookup f_is_take_give = some ⟨oc_is_take_give, od_is_take_give, .func (PySem.W.fnOf "is_take_give" "is_take_give" (defArgs st_is_take_give) (defBody st_is_take_give) (defScope st_is_take_give) .none kV_is_take_give dc_is_take_give pm_is_take_give an_is_take_give cd_is_take_give ct_is_take_give), sl_is_take_give⟩)
  (c_is_take_give : PySem.W.codeIn K cd_is_take_give "is_take_give" = true)
  (k_is_take_give : PySem.W.keepIn K (.ref f_is_take_give) = true)
  (a_checked_deeds : PySem.W.nsIn K mainGlobals "checked_deeds" = some (some (.ref f_checked_deeds)))
  (l_checked_deeds : K.lookup f_checked_deeds = some ⟨oc_checked_deeds, od_checked_deeds, .func (PySem.W.fnOf "checked_deeds" "checked_deeds" (defArgs st_checked_deeds) (defBody st_checked_deeds) (defScope st_checked_deeds) .none kV_checked_deeds dc_checked_deeds pm_checked_deeds an_checked_deeds cd_checked_deeds ct_checked_deeds), sl_checked_deeds⟩)
  (c_checked_deeds : PySem.W.codeIn K cd_checked_deeds "checked_deeds" = true)
  (k_checked_deeds : PySem.W.keepIn K (.ref f_checked_deeds) = true)
  (a_checked_number : PySem.W.nsIn K mainGlobals "checked_number" = some (some (.ref f_checked_number)))
  (l_checked_number : K.lookup f_checked_number = some ⟨oc_checked_number, od_checked_number, .func (PySem.W.fnOf "checked_number" "checked_number" (defArgs st_checked_number) (defBody st_checked_number) (defScope st_checked_number) .none kV_checked_number dc_checked_number pm_checked_number an_checked_number cd_checked_number ct_checked_number), sl_checked_number⟩)
  (c_checked_number : PySem.W.codeIn K cd_checked_number "checked_number" = true)
  (k_checked_number : PySem.W.keepIn K (.ref f_checked_number) = true)
  (a_counter_by : PySem.W.nsIn K mainGlobals "counter_by" = some (some (.ref f_counter_by)))
  (l_counter_by : K.lookup f_counter_by = some ⟨oc_counter_by, od_counter_by, .func (PySem.W.fnOf "counter_by" "counter_by" (defArgs st_counter_by) (defBody st_counter_by) (defScope st_counter_by) .none kV_counter_by dc_counter_by pm_counter_by an_counter_by cd_counter_by ct_counter_by), sl_counter_by⟩)
  (c_counter_by : PySem.W.codeIn K cd_counter_by "counter_by" = true)
  (k_counter_by : PySem.W.keepIn K (.ref f_counter_by) = true)
  (a_counter_after : PySem.W.nsIn K mainGlobals "counter_after" = some (some (.ref f_counter_after)))
  (l_counter_after : K.lookup f_counter_after = some ⟨oc_counter_after, od_counter_after, .func (PySem.W.fnOf "counter_after" "counter_after" (defArgs st_counter_after) (defBody st_counter_after) (defScope st_counter_after) .none kV_counter_after dc_counter_after pm_counter_after an_counter_after cd_counter_after ct_counter_after), sl_counter_after⟩)
  (c_counter_after : PySem.W.codeIn K cd_counter_after "counter_after" = true)
  (k_counter_after : PySem.W.keepIn K (.ref f_counter_after) = true)
  (a_one_behind : PySem.W.nsIn K mainGlobals "one_behind" = some (some (.ref f_one_behind)))
  (l_one_behind : K.lookup f_one_behind = some ⟨oc_one_behind, od_one_behind, .func (PySem.W.fnOf "one_behind" "one_behind" (defArgs st_one_behind) (defBody st_one_behind) (defScope st_one_behind) .none kV_one_behind dc_one_behind pm_one_behind an_one_behind cd_one_behind ct_one_behind), sl_one_behind⟩)
  (c_one_behind : PySem.W.codeIn K cd_one_behind "one_behind" = true)
  (k_one_behind : PySem.W.keepIn K (.ref f_one_behind) = true)
  (a_as_one_by : PySem.W.nsIn K mainGlobals "as_one_by" = some (some (.ref f_as_one_by)))
  (l_as_one_by : K.lookup f_as_one_by = some ⟨oc_as_one_by, od_as_one_by, .func (PySem.W.fnOf "as_one_by" "as_one_by" (defArgs st_as_one_by) (defBody st_as_one_by) (defScope st_as_one_by) .none kV_as_one_by dc_as_one_by pm_as_one_by an_as_one_by cd_as_one_by ct_as_one_by), sl_as_one_by⟩)
  (c_as_one_by : PySem.W.codeIn K cd_as_one_by "as_one_by" = true)
  (k_as_one_by : PySem.W.keepIn K (.ref f_as_one_by) = true)
  (a_deeds_as_one : PySem.W.nsIn K mainGlobals "deeds_as_one" = some (some (.ref f_deeds_as_one)))
  (l_deeds_as_one : K.lookup f_deeds_as_one = some ⟨oc_deeds_as_one, od_deeds_as_one, .func (PySem.W.fnOf "deeds_as_one" "deeds_as_one" (defArgs st_deeds_as_one) (defBody st_deeds_as_one) (defScope st_deeds_as_one) .none kV_deeds_as_one dc_deeds_as_one pm_deeds_as_one an_deeds_as_one cd_deeds_as_one ct_deeds_as_one), sl_deeds_as_one⟩)
  (c_deeds_as_one : PySem.W.codeIn K cd_deeds_as_one "deeds_as_one" = true)
  (k_deeds_as_one : PySem.W.keepIn K (.ref f_deeds_as_one) = true)
  (a_loops_by : PySem.W.nsIn K mainGlobals "loops_by" = some (some (.ref f_loops_by)))
  (l_loops_by : K.lookup f_loops_by = some ⟨oc_loops_by, od_loops_by, .func (PySem.W.fnOf "loops_by" "loops_by" (defArgs st_loops_by) (defBody st_loops_by) (defScope st_loops_by) .none kV_loops_by dc_loops_by pm_loops_by an_loops_by cd_loops_by ct_loops_by), sl_loops_by⟩)
  (c_loops_by : PySem.W.codeIn K cd_loops_by "loops_by" = true)
  (k_loops_by : PySem.W.keepIn K (.ref f_loops_by) = true)
  (a_repeated : PySem.W.nsIn K mainGlobals "repeated" = some (some (.ref f_repeated)))
  (l_repeated : K.lookup f_repeated = some ⟨oc_repeated, od_repeated, .func (PySem.W.fnOf "repeated" "repeated" (defArgs st_repeated) (defBody st_repeated) (defScope st_repeated) .none kV_repeated dc_repeated pm_repeated an_repeated cd_repeated ct_repeated), sl_repeated⟩)
  (c_repeated : PySem.W.codeIn K cd_repeated "repeated" = true)
  (k_repeated : PySem.W.keepIn K (.ref f_repeated) = true)
  (a__law_draw : PySem.W.nsIn K mainGlobals "_law_draw" = some (some (.ref f__law_draw)))
  (l__law_draw : K.lookup f__law_draw = some ⟨oc__law_draw, od__law_draw, .func (PySem.W.fnOf "_law_draw" "_law_draw" (defArgs st__law_draw) (defBody st__law_draw) (defScope st__law_draw) .none kV__law_draw dc__law_draw pm__law_draw an__law_draw cd__law_draw ct__law_draw), sl__law_draw⟩)
  (c__law_draw : PySem.W.codeIn K cd__law_draw "_law_draw" = true)
  (k__law_draw : PySem.W.keepIn K (.ref f__law_draw) = true)
  (a__law_any : PySem.W.nsIn K mainGlobals "_law_any" = some (some (.ref f__law_any)))
  (l__law_any : K.lookup f__law_any = some ⟨oc__law_any, od__law_any, .func (PySem.W.fnOf "_law_any" "_law_any" (defArgs st__law_any) (defBody st__law_any) (defScope st__law_any) .none kV__law_any dc__law_any pm__law_any an__law_any cd__law_any ct__law_any), sl__law_any⟩)
  (c__law_any : PySem.W.codeIn K cd__law_any "_law_any" = true)
  (k__law_any : PySem.W.keepIn K (.ref f__law_any) = true)
  (a__law_of : PySem.W.nsIn K mainGlobals "_law_of" = some (some (.ref f__law_of)))
  (l__law_of : K.lookup f__law_of = some ⟨oc__law_of, od__law_of, .func (PySem.W.fnOf "_law_of" "_law_of" (defArgs st__law_of) (defBody st__law_of) (defScope st__law_of) .none kV__law_of dc__law_of pm__law_of an__law_of cd__law_of ct__law_of), sl__law_of⟩)
  (c__law_of : PySem.W.codeIn K cd__law_of "_law_of" = true)
  (k__law_of : PySem.W.keepIn K (.ref f__law_of) = true)
  (a__law_same : PySem.W.nsIn K mainGlobals "_law_same" = some (some (.ref f__law_same)))
  (l__law_same : K.lookup f__law_same = some ⟨oc__law_same, od__law_same, .func (PySem.W.fnOf "_law_same" "_law_same" (defArgs st__law_same) (defBody st__law_same) (defScope st__law_same) .none kV__law_same dc__law_same pm__law_same an__law_same cd__law_same ct__law_same), sl__law_same⟩)
  (c__law_same : PySem.W.codeIn K cd__law_same "_law_same" = true)
  (k__law_same : PySem.W.keepIn K (.ref f__law_same) = true)
  (a__law_as_one : PySem.W.nsIn K mainGlobals "_law_as_one" = some (some (.ref f__law_as_one)))
  (l__law_as_one : K.lookup f__law_as_one = some ⟨oc__law_as_one, od__law_as_one, .func (PySem.W.fnOf "_law_as_one" "_law_as_one" (defArgs st__law_as_one) (defBody st__law_as_one) (defScope st__law_as_one) .none kV__law_as_one dc__law_as_one pm__law_as_one an__law_as_one cd__law_as_one ct__law_as_one), sl__law_as_one⟩)
  (c__law_as_one : PySem.W.codeIn K cd__law_as_one "_law_as_one" = true)
  (k__law_as_one : PySem.W.keepIn K (.ref f__law_as_one) = true)
  (a__law_some_pairs : PySem.W.nsIn K mainGlobals "_law_some_pairs" = some (some (.ref f__law_some_pairs)))
  (l__law_some_pairs : K.lookup f__law_some_pairs = some ⟨oc__law_some_pairs, od__law_some_pairs, .func (PySem.W.fnOf "_law_some_pairs" "_law_some_pairs" (defArgs st__law_some_pairs) (defBody st__law_some_pairs) (defScope st__law_some_pairs) .none kV__law_some_pairs dc__law_some_pairs pm__law_some_pairs an__law_some_pairs cd__law_some_pairs ct__law_some_pairs), sl__law_some_pairs⟩)
  (c__law_some_pairs : PySem.W.codeIn K cd__law_some_pairs "_law_some_pairs" = true)
  (k__law_some_pairs : PySem.W.keepIn K (.ref f__law_some_pairs) = true)
  (a__law_done : PySem.W.nsIn K mainGlobals "_law_done" = some (some (.ref f__law_done)))
  (l__law_done : K.lookup f__law_done = some ⟨oc__law_done, od__law_done, .func (PySem.W.fnOf "_law_done" "_law_done" (defArgs st__law_done) (defBody st__law_done) (defScope st__law_done) .none kV__law_done dc__law_done pm__law_done an__law_done cd__law_done ct__law_done), sl__law_done⟩)
  (c__law_done : PySem.W.codeIn K cd__law_done "_law_done" = true)
  (k__law_done : PySem.W.keepIn K (.ref f__law_done) = true)
  (a_law : PySem.W.nsIn K mainGlobals "law" = some (some (.ref f_law)))
  (l_law : K.lookup f_law = some ⟨oc_law, od_law, .func (PySem.W.fnOf "law" "law" (defArgs st_law) (defBody st_law) (defScope st_law) .none kV_law dc_law pm_law an_law cd_law ct_law), sl_law⟩)
  (c_law : PySem.W.codeIn K cd_law "law" = true)
  (k_law : PySem.W.keepIn K (.ref f_law) = true)
  (x1 : cd_law = .ref cl)
  (x2 : K.lookup cl = some ⟨ke, kdd, .fields kvs, ksl⟩)
  (x3 : kvs[11]? = some (.ref Pt))
  (x4 : K.lookup Pt = none)
  (x5 : PySem.W.codeHdIn K cl Pt = true)
  (z_abs : PySem.W.nsIn K mainGlobals "abs" = some none)
  (z_all : PySem.W.nsIn K mainGlobals "all" = some none)
  (z_bool : PySem.W.nsIn K mainGlobals "bool" = some none)
  (z_int : PySem.W.nsIn K mainGlobals "int" = some none)
  (z_isinstance : PySem.W.nsIn K mainGlobals "isinstance" = some none)
  (z_len : PySem.W.nsIn K mainGlobals "len" = some none)
  (z_list : PySem.W.nsIn K mainGlobals "list" = some none)
  (z_max : PySem.W.nsIn K mainGlobals "max" = some none)
  (z_range : PySem.W.nsIn K mainGlobals "range" = some none)
  (z_str : PySem.W.nsIn K mainGlobals "str" = some none)
  (z_tuple : PySem.W.nsIn K mainGlobals "tuple" = some none)
  (z_zip : PySem.W.nsIn K mainGlobals "zip" = some none)
  (g_TAKE : PySem.W.nsIn K mainGlobals "TAKE" = some (some (.int 0 tk_TAKE)))
  (g_GIVE : PySem.W.nsIn K mainGlobals "GIVE" = some (some (.int 1 tk_GIVE)))
  (g_MOST_DEEDS : PySem.W.nsIn K mainGlobals "MOST_DEEDS" = some (some (.int 1000 tk_MOST_DEEDS)))
  (own : OwnTab K fa h) :
  LawAtS l w K (L2.CX l.prog w) 12 63 "script" mg fa h := by
  have e := hfa.symm.trans (PySem.W.mg_of X G a_law)
  cases e
  have e_InvalidDeed : ErrTxt l.prog K mg "InvalidDeed" C_InvalidDeed fI_InvalidDeed := err_mk X G ea1_InvalidDeed ea2_InvalidDeed ea3_InvalidDeed ea4_InvalidDeed ea5_InvalidDeed ea6_InvalidDeed ea7_InvalidDeed ea8_InvalidDeed ea9_InvalidDeed (by rfl) eb2 eb3 eb4 eb5_InvalidDeed eb6_InvalidDeed eb7_InvalidDeed eb8_InvalidDeed eb9_InvalidDeed ec1_InvalidDeed ec2_InvalidDeed ec3_InvalidDeed ec4_InvalidDeed ec5_InvalidDeed ec6_InvalidDeed ec7_InvalidDeed ec8_InvalidDeed
  have t_InvalidDeed : Err3 l.prog K mg "InvalidDeed" := ⟨_, _, e_InvalidDeed⟩
  have e_InvalidQuestion : ErrTxt l.prog K mg "InvalidQuestion" C_InvalidQuestion fI_InvalidQuestion := err_mk X G ea1_InvalidQuestion ea2_InvalidQuestion ea3_InvalidQuestion ea4_InvalidQuestion ea5_InvalidQuestion ea6_InvalidQuestion ea7_InvalidQuestion ea8_InvalidQuestion ea9_InvalidQuestion (by rfl) eb2 eb3 eb4 eb5_InvalidQuestion eb6_InvalidQuestion eb7_InvalidQuestion eb8_InvalidQuestion eb9_InvalidQuestion ec1_InvalidQuestion ec2_InvalidQuestion ec3_InvalidQuestion ec4_InvalidQuestion ec5_InvalidQuestion ec6_InvalidQuestion ec7_InvalidQuestion ec8_InvalidQuestion
  have t_InvalidQuestion : Err3 l.prog K mg "InvalidQuestion" := ⟨_, _, e_InvalidQuestion⟩
  have kn_InvalidDeed_InvalidDeed_InvalidQuestion : KnOk l.prog K mg "InvalidDeed" ["InvalidDeed", "InvalidQuestion"] := (kn_cons e_InvalidDeed.gC e_InvalidDeed (exm_of e_InvalidDeed.exC ec9_InvalidDeed e_InvalidDeed.tyC sb_InvalidDeed_InvalidDeed) (kn_cons e_InvalidDeed.gC e_InvalidQuestion (exm_of e_InvalidDeed.exC ec9_InvalidDeed e_InvalidDeed.tyC sb_InvalidQuestion_InvalidDeed) (kn_nil e_InvalidDeed.gC)))
  have kn_InvalidQuestion_InvalidDeed_InvalidQuestion : KnOk l.prog K mg "InvalidQuestion" ["InvalidDeed", "InvalidQuestion"] := (kn_cons e_InvalidQuestion.gC e_InvalidDeed (exm_of e_InvalidQuestion.exC ec9_InvalidQuestion e_InvalidQuestion.tyC sb_InvalidDeed_InvalidQuestion) (kn_cons e_InvalidQuestion.gC e_InvalidQuestion (exm_of e_InvalidQuestion.exC ec9_InvalidQuestion e_InvalidQuestion.tyC sb_InvalidQuestion_InvalidQuestion) (kn_nil e_InvalidQuestion.gC)))
  have zz_abs := PySem.W.mg_none_of X G z_abs
  have zz_all := PySem.W.mg_none_of X G z_all
  have zz_bool := PySem.W.mg_none_of X G z_bool
  have zz_int := PySem.W.mg_none_of X G z_int
  have zz_isinstance := PySem.W.mg_none_of X G z_isinstance
  have zz_len := PySem.W.mg_none_of X G z_len
  have zz_list := PySem.W.mg_none_of X G z_list
  have zz_max := PySem.W.mg_none_of X G z_max
  have zz_range := PySem.W.mg_none_of X G z_range
  have zz_str := PySem.W.mg_none_of X G z_str
  have zz_tuple := PySem.W.mg_none_of X G z_tuple
  have zz_zip := PySem.W.mg_none_of X G z_zip
  have gg_TAKE := PySem.W.mg_of X G g_TAKE
  have gg_GIVE := PySem.W.mg_of X G g_GIVE
  have gg_MOST_DEEDS := PySem.W.mg_of X G g_MOST_DEEDS
  have F__law_refused := fun_mk (st := st__law_refused) l__law_refused c__law_refused k__law_refused
  have F_is_integer := fun_mk (st := st_is_integer) l_is_integer c_is_integer k_is_integer
  have F_is_sequence := fun_mk (st := st_is_sequence) l_is_sequence c_is_sequence k_is_sequence
  have F_is_number := fun_mk (st := st_is_number) l_is_number c_is_number k_is_number
  have F_is_take_give := fun_mk (st := st_is_take_give) l_is_take_give c_is_take_give k_is_take_give
  have F_checked_deeds := fun_mk (st := st_checked_deeds) l_checked_deeds c_checked_deeds k_checked_deeds
  have F_checked_number := fun_mk (st := st_checked_number) l_checked_number c_checked_number k_checked_number
  have F_counter_by := fun_mk (st := st_counter_by) l_counter_by c_counter_by k_counter_by
  have F_counter_after := fun_mk (st := st_counter_after) l_counter_after c_counter_after k_counter_after
  have F_one_behind := fun_mk (st := st_one_behind) l_one_behind c_one_behind k_one_behind
  have F_as_one_by := fun_mk (st := st_as_one_by) l_as_one_by c_as_one_by k_as_one_by
  have F_deeds_as_one := fun_mk (st := st_deeds_as_one) l_deeds_as_one c_deeds_as_one k_deeds_as_one
  have F_loops_by := fun_mk (st := st_loops_by) l_loops_by c_loops_by k_loops_by
  have F_repeated := fun_mk (st := st_repeated) l_repeated c_repeated k_repeated
  have F__law_draw := fun_mk (st := st__law_draw) l__law_draw c__law_draw k__law_draw
  have F__law_any := fun_mk (st := st__law_any) l__law_any c__law_any k__law_any
  have F__law_of := fun_mk (st := st__law_of) l__law_of c__law_of k__law_of
  have F__law_same := fun_mk (st := st__law_same) l__law_same c__law_same k__law_same
  have F__law_as_one := fun_mk (st := st__law_as_one) l__law_as_one c__law_as_one k__law_as_one
  have F__law_some_pairs := fun_mk (st := st__law_some_pairs) l__law_some_pairs c__law_some_pairs k__law_some_pairs
  have F__law_done := fun_mk (st := st__law_done) l__law_done c__law_done k__law_done
  have F_law := fun_mk (st := st_law) l_law c_law k_law
  have hh__law_refused : Heard l.prog K mg "_law_refused" "work" "wrong" hcs__law_refused kn__law_refused := heard_mk (j := 0) (k := 0) (p1 := ⟨109, 16, 109, 22⟩) (p2 := ⟨109, 24, 109, 28⟩) (p3 := ⟨109, 24, 109, 30⟩) (p4 := ⟨109, 15, 109, 31⟩) (p5 := ⟨109, 8, 109, 31⟩) (p6 := ⟨108, 4, 113, 37⟩) F__law_refused (PySem.W.mg_of X G a__law_refused) (by kernel_rfl) (fun _ _ _ _ _ _ us hl => match us, hl with | [_], _ => rfl) sc__law_refused (by rfl) (by rfl) (by decide +kernel) (by decide) (by decide) (by decide) (by decide) (by decide) (by decide +kernel) (fun c hc => by
    unfold hcs__law_refused at hc
    rcases List.mem_cons.mp hc with rfl | hc
    · exact kn_InvalidDeed_InvalidDeed_InvalidQuestion
    rcases List.mem_cons.mp hc with rfl | hc
    · exact kn_InvalidQuestion_InvalidDeed_InvalidQuestion
    cases hc)
  subst x1
  refine ⟨PySem.W.fnOf "law" "law" (defArgs st_law) (defBody st_law) (defScope st_law) .none kV_law dc_law pm_law an_law (.ref cl) ct_law, [(cl, Pt)], spLaw K [(Pt, ("law" : Str) ++ ".<locals>." ++ "<lambda>")] (fun _ => True), fun p hp => by rw [List.mem_singleton.mp hp]; exact own cl Pt _ _ ke kdd kvs ksl l_law rfl rfl x2 x3, fun p hp => by rw [List.mem_singleton.mp hp]; exact x4, fun p hp => by rw [List.mem_singleton.mp hp]; exact PySem.W.codeHd_of_K X x5, fun s v => .of_eq rfl, fun H a ns hl _ hT hS => ⟨a, ns, rfl, hS, hl, fun p hp => by rw [List.mem_singleton.mp hp]; exact TabS.nil (hT _ (List.mem_singleton.mpr rfl)), fun _ => rfl⟩, fun base _ _ hTB => ?_⟩
  have TB := hTB (cl, Pt) (List.mem_singleton.mpr rfl)
  have o_is_integer := ok_is_integer (P := l.prog) (w := w) (K := K) (mg := mg) (base := base) (T := [(Pt, ("law" : Str) ++ ".<locals>." ++ "<lambda>")]) ((none_cons zz_bool (none_cons zz_int (none_cons zz_isinstance none_nil)))) F_is_integer
  have d_is_integer := def3 F_is_integer (PySem.W.mg_of X G a_is_integer) o_is_integer rfl mkF_len (fun _ _ _ _ _ _ us hl => match us, hl with | [_], _ => rfl)
  have o_is_sequence := ok_is_sequence (P := l.prog) (w := w) (K := K) (mg := mg) (base := base) (T := [(Pt, ("law" : Str) ++ ".<locals>." ++ "<lambda>")]) ((none_cons zz_isinstance (none_cons zz_list (none_cons zz_tuple none_nil)))) F_is_sequence
  have d_is_sequence := def3 F_is_sequence (PySem.W.mg_of X G a_is_sequence) o_is_sequence rfl mkF_len (fun _ _ _ _ _ _ us hl => match us, hl with | [_], _ => rfl)
  have o_is_number := ok_is_number (P := l.prog) (w := w) (K := K) (mg := mg) (base := base) (T := [(Pt, ("law" : Str) ++ ".<locals>." ++ "<lambda>")]) d_is_integer F_is_number
  have d_is_number := def3 F_is_number (PySem.W.mg_of X G a_is_number) o_is_number rfl mkF_len (fun _ _ _ _ _ _ us hl => match us, hl with | [_], _ => rfl)
  have o_is_take_give := ok_is_take_give (P := l.prog) (w := w) (K := K) (mg := mg) (base := base) (T := [(Pt, ("law" : Str) ++ ".<locals>." ++ "<lambda>")]) d_is_number ((none_cons zz_isinstance (none_cons zz_len (none_cons zz_tuple none_nil)))) gg_TAKE gg_GIVE F_is_take_give
  have d_is_take_give := def3 F_is_take_give (PySem.W.mg_of X G a_is_take_give) o_is_take_give rfl mkF_len (fun _ _ _ _ _ _ us hl => match us, hl with | [_], _ => rfl)
  have dk_is_take_give := def3K F_is_take_give (PySem.W.mg_of X G a_is_take_give) o_is_take_give rfl mkF_len (fun _ _ _ _ _ _ _ us hl => match us, hl with | [_], _ => .of_eq rfl)
  have o_checked_deeds := ok_checked_deeds (P := l.prog) (w := w) (K := K) (mg := mg) (base := base) (T := [(Pt, ("law" : Str) ++ ".<locals>." ++ "<lambda>")]) d_is_sequence d_is_take_give ((none_cons zz_all (none_cons zz_len none_nil))) gg_MOST_DEEDS t_InvalidDeed F_checked_deeds
  have d_checked_deeds := def3 F_checked_deeds (PySem.W.mg_of X G a_checked_deeds) o_checked_deeds rfl mkF_len (fun _ _ _ _ _ _ us hl => match us, hl with | [_], _ => rfl)
  have o_checked_number := ok_checked_number (P := l.prog) (w := w) (K := K) (mg := mg) (base := base) (T := [(Pt, ("law" : Str) ++ ".<locals>." ++ "<lambda>")]) d_is_number t_InvalidQuestion F_checked_number
  have d_checked_number := def3 F_checked_number (PySem.W.mg_of X G a_checked_number) o_checked_number rfl mkF_len (fun _ _ _ _ _ _ us hl => match us, hl with | [_, _], _ => rfl)
  have o_counter_by := ok_counter_by (P := l.prog) (w := w) (K := K) (mg := mg) (base := base) (T := [(Pt, ("law" : Str) ++ ".<locals>." ++ "<lambda>")]) ((none_cons zz_max none_nil)) gg_TAKE gg_GIVE F_counter_by
  have d_counter_by := def3 F_counter_by (PySem.W.mg_of X G a_counter_by) o_counter_by rfl mkF_len (fun _ _ _ _ _ _ us hl => match us, hl with | [_, _], _ => rfl)
  have o_counter_after := ok_counter_after (P := l.prog) (w := w) (K := K) (mg := mg) (base := base) (T := [(Pt, ("law" : Str) ++ ".<locals>." ++ "<lambda>")]) d_checked_deeds d_checked_number d_counter_by F_counter_after
  have d_counter_after := def3 F_counter_after (PySem.W.mg_of X G a_counter_after) o_counter_after rfl mkF_len (fun _ _ _ _ _ _ us hl => match us, hl with | [_, _], _ => rfl)
  have dk_counter_after := def3K F_counter_after (PySem.W.mg_of X G a_counter_after) o_counter_after rfl mkF_len (fun _ _ _ _ _ _ _ us hl => match us, hl with | [_, _], _ => .of_eq rfl)
  have o_one_behind := ok_one_behind (P := l.prog) (w := w) (K := K) (mg := mg) (base := base) (T := [(Pt, ("law" : Str) ++ ".<locals>." ++ "<lambda>")]) ((none_cons zz_max none_nil)) gg_GIVE gg_TAKE F_one_behind
  have d_one_behind := def3 F_one_behind (PySem.W.mg_of X G a_one_behind) o_one_behind rfl mkF_len (fun _ _ _ _ _ _ us hl => match us, hl with | [_, _], _ => rfl)
  have o_as_one_by := ok_as_one_by (P := l.prog) (w := w) (K := K) (mg := mg) (base := base) (T := [(Pt, ("law" : Str) ++ ".<locals>." ++ "<lambda>")]) d_one_behind F_as_one_by
  have d_as_one_by := def3 F_as_one_by (PySem.W.mg_of X G a_as_one_by) o_as_one_by rfl mkF_len (fun _ _ _ _ _ _ us hl => match us, hl with | [_], _ => rfl)
  have o_deeds_as_one := ok_deeds_as_one (P := l.prog) (w := w) (K := K) (mg := mg) (base := base) (T := [(Pt, ("law" : Str) ++ ".<locals>." ++ "<lambda>")]) d_checked_deeds d_as_one_by F_deeds_as_one
  have d_deeds_as_one := def3 F_deeds_as_one (PySem.W.mg_of X G a_deeds_as_one) o_deeds_as_one rfl mkF_len (fun _ _ _ _ _ _ us hl => match us, hl with | [_], _ => rfl)
  have dk_deeds_as_one := def3K F_deeds_as_one (PySem.W.mg_of X G a_deeds_as_one) o_deeds_as_one rfl mkF_len (fun _ _ _ _ _ _ _ us hl => match us, hl with | [_], _ => .of_eq rfl)
  have o_loops_by := ok_loops_by (P := l.prog) (w := w) (K := K) (mg := mg) (base := base) (T := [(Pt, ("law" : Str) ++ ".<locals>." ++ "<lambda>")]) ((none_cons zz_max none_nil)) gg_GIVE gg_TAKE F_loops_by
  have d_loops_by := def3 F_loops_by (PySem.W.mg_of X G a_loops_by) o_loops_by rfl mkF_len (fun _ _ _ _ _ _ us hl => match us, hl with | [_, _], _ => rfl)
  have o_repeated := ok_repeated (P := l.prog) (w := w) (K := K) (mg := mg) (base := base) (T := [(Pt, ("law" : Str) ++ ".<locals>." ++ "<lambda>")]) d_is_take_give d_checked_number d_loops_by t_InvalidDeed F_repeated
  have d_repeated := def3 F_repeated (PySem.W.mg_of X G a_repeated) o_repeated rfl mkF_len (fun _ _ _ _ _ _ us hl => match us, hl with | [_, _], _ => rfl)
  have dk_repeated := def3K F_repeated (PySem.W.mg_of X G a_repeated) o_repeated rfl mkF_len (fun _ _ _ _ _ _ _ us hl => match us, hl with | [_, _], _ => .of_eq rfl)
  have o__law_draw := ok__law_draw (P := l.prog) (w := w) (K := K) (mg := mg) (base := base) (T := [(Pt, ("law" : Str) ++ ".<locals>." ++ "<lambda>")]) ((none_cons zz_abs (none_cons zz_int none_nil))) F__law_draw
  have d__law_draw := def3 F__law_draw (PySem.W.mg_of X G a__law_draw) o__law_draw rfl mkF_len (fun _ _ _ _ _ _ us hl => match us, hl with | [_, _], _ => rfl)
  have o__law_any := ok__law_any (P := l.prog) (w := w) (K := K) (mg := mg) (base := base) (T := [(Pt, ("law" : Str) ++ ".<locals>." ++ "<lambda>")]) ((none_cons zz_int none_nil)) F__law_any
  have d__law_any := def3 F__law_any (PySem.W.mg_of X G a__law_any) o__law_any rfl mkF_len (fun _ _ _ _ _ _ us hl => match us, hl with | [_, _], _ => rfl)
  have o__law_of := ok__law_of (P := l.prog) (w := w) (K := K) (mg := mg) (base := base) (T := [(Pt, ("law" : Str) ++ ".<locals>." ++ "<lambda>")]) d__law_any ((none_cons zz_len none_nil)) F__law_of
  have d__law_of := def3 F__law_of (PySem.W.mg_of X G a__law_of) o__law_of rfl mkF_len (fun _ _ _ _ _ _ us hl => match us, hl with | [_, _], _ => rfl)
  have o__law_same := ok__law_same (P := l.prog) (w := w) (K := K) (mg := mg) (base := base) (T := [(Pt, ("law" : Str) ++ ".<locals>." ++ "<lambda>")]) ((none_cons zz_bool (none_cons zz_int (none_cons zz_isinstance (none_cons zz_len (none_cons zz_list (none_cons zz_str (none_cons zz_tuple (none_cons zz_zip none_nil))))))))) F__law_same (PySem.W.mg_of X G a__law_same) (fun _ _ _ _ _ _ us hl => match us, hl with | [_, _], _ => rfl) 8
  have d__law_same := def3 F__law_same (PySem.W.mg_of X G a__law_same) o__law_same rfl (mfr_len__law_same 8) (fun _ _ _ _ _ _ us hl => match us, hl with | [_, _], _ => rfl)
  have o__law_as_one := ok__law_as_one (P := l.prog) (w := w) (K := K) (mg := mg) (base := base) (T := [(Pt, ("law" : Str) ++ ".<locals>." ++ "<lambda>")]) ((none_cons zz_max none_nil)) F__law_as_one
  have d__law_as_one := def3 F__law_as_one (PySem.W.mg_of X G a__law_as_one) o__law_as_one rfl mkF_len (fun _ _ _ _ _ _ us hl => match us, hl with | [_], _ => rfl)
  have o__law_some_pairs := ok__law_some_pairs (P := l.prog) (w := w) (K := K) (mg := mg) (base := base) (T := [(Pt, ("law" : Str) ++ ".<locals>." ++ "<lambda>")]) d__law_any d__law_of ((none_cons zz_range none_nil)) F__law_some_pairs
  have d__law_some_pairs := def3 F__law_some_pairs (PySem.W.mg_of X G a__law_some_pairs) o__law_some_pairs rfl mkF_len (fun _ _ _ _ _ _ us hl => match us, hl with | [_], _ => rfl)
  have o__law_done := ok__law_done (P := l.prog) (w := w) (K := K) (mg := mg) (base := base) (T := [(Pt, ("law" : Str) ++ ".<locals>." ++ "<lambda>")])  F__law_done
  have d__law_done := def3 F__law_done (PySem.W.mg_of X G a__law_done) o__law_done rfl mkF_len (fun _ _ _ _ _ _ us hl => match us, hl with | [_, _], _ => rfl)
  exact ok_law d_is_take_give dk_is_take_give d_counter_after dk_counter_after d_deeds_as_one dk_deeds_as_one d_repeated dk_repeated d__law_draw d__law_any d__law_of d__law_same d__law_as_one d__law_some_pairs d__law_done ((none_cons zz_max (none_cons zz_range (none_cons zz_tuple none_nil)))) t_InvalidDeed t_InvalidQuestion hh__law_refused F_law rfl TB (List.mem_singleton.mpr rfl) (fun p hp _ => by rw [List.mem_singleton.mp hp]) hgd hlaw
end K21
open PySem PySem.W PyProof.Rows
set_option maxHeartbeats 0 in
theorem PySem.Challenge.cw_whateverisput_k21_whole_counters_holds : PySem.Challenge.rw_whateverisput_k21_whole_counters.Holds := by
  w_on; o_law; k_head; (case hw => w_witness2)
  k_fill
  refine L3.walk_ofDefs (l := PySem.Challenge.rw_whateverisput_k21_whole_counters) (n := 63) (k := 12) (x := "script") (CX := fun w => L2.CX PySem.Challenge.rw_whateverisput_k21_whole_counters.prog w) rfl (by decide) rfl ⟨rfl, by decide, by decide⟩ (fun w h Y => PySem.W.km_in_of Y) ?F (fun w H s e s1 h => by obtain ⟨_, _, _, _, _, _, _, _, _, _, _, _, h⟩ := h; exact h)
  case F =>
    intro w mg fa h KX G hmg tabs
    refine' K21.all_mk KX G hmg ?ea1_InvalidDeed ?ea2_InvalidDeed ?ea3_InvalidDeed ?ea4_InvalidDeed ?ea5_InvalidDeed ?ea6_InvalidDeed ?ea7_InvalidDeed ?ea8_InvalidDeed ?ea9_InvalidDeed ?eb5_InvalidDeed ?eb6_InvalidDeed ?eb7_InvalidDeed ?eb8_InvalidDeed ?eb9_InvalidDeed ?ec1_InvalidDeed ?ec2_InvalidDeed ?ec3_InvalidDeed ?ec4_InvalidDeed ?ec5_InvalidDeed ?ec6_InvalidDeed ?ec7_InvalidDeed ?ec8_InvalidDeed ?ec9_InvalidDeed ?ea1_InvalidQuestion ?ea2_InvalidQuestion ?ea3_InvalidQuestion ?ea4_InvalidQuestion ?ea5_InvalidQuestion ?ea6_InvalidQuestion ?ea7_InvalidQuestion ?ea8_InvalidQuestion ?ea9_InvalidQuestion ?eb5_InvalidQuestion ?eb6_InvalidQuestion ?eb7_InvalidQuestion ?eb8_InvalidQuestion ?eb9_InvalidQuestion ?ec1_InvalidQuestion ?ec2_InvalidQuestion ?ec3_InvalidQuestion ?ec4_InvalidQuestion ?ec5_InvalidQuestion ?ec6_InvalidQuestion ?ec7_InvalidQuestion ?ec8_InvalidQuestion ?ec9_InvalidQuestion ?eb2 ?eb3 ?eb4 ?sb_InvalidDeed_InvalidDeed ?sb_InvalidDeed_InvalidQuestion ?sb_InvalidQuestion_InvalidDeed ?sb_InvalidQuestion_InvalidQuestion ?a__law_refused ?l__law_refused ?c__law_refused ?k__law_refused ?a_is_integer ?l_is_integer ?c_is_integer ?k_is_integer ?a_is_sequence ?l_is_sequence ?c_is_sequence ?k_is_sequence ?a_is_number ?l_is_number ?c_is_number ?k_is_number ?a_is_take_give ?l_is_take_give ?c_is_take_give ?k_is_take_give ?a_checked_deeds ?l_checked_deeds ?c_checked_deeds ?k_checked_deeds ?a_checked_number ?l_checked_number ?c_checked_number ?k_checked_number ?a_counter_by ?l_counter_by ?c_counter_by ?k_counter_by ?a_counter_after ?l_counter_after ?c_counter_after ?k_counter_after ?a_one_behind ?l_one_behind ?c_one_behind ?k_one_behind ?a_as_one_by ?l_as_one_by ?c_as_one_by ?k_as_one_by ?a_deeds_as_one ?l_deeds_as_one ?c_deeds_as_one ?k_deeds_as_one ?a_loops_by ?l_loops_by ?c_loops_by ?k_loops_by ?a_repeated ?l_repeated ?c_repeated ?k_repeated ?a__law_draw ?l__law_draw ?c__law_draw ?k__law_draw ?a__law_any ?l__law_any ?c__law_any ?k__law_any ?a__law_of ?l__law_of ?c__law_of ?k__law_of ?a__law_same ?l__law_same ?c__law_same ?k__law_same ?a__law_as_one ?l__law_as_one ?c__law_as_one ?k__law_as_one ?a__law_some_pairs ?l__law_some_pairs ?c__law_some_pairs ?k__law_some_pairs ?a__law_done ?l__law_done ?c__law_done ?k__law_done ?a_law ?l_law ?c_law ?k_law ?x1 ?x2 ?x3 ?x4 ?x5 ?z_abs ?z_all ?z_bool ?z_int ?z_isinstance ?z_len ?z_list ?z_max ?z_range ?z_str ?z_tuple ?z_zip ?g_TAKE ?g_GIVE ?g_MOST_DEEDS (tabs "law" fa (by kernel_rfl) hmg)
    (case ea1_InvalidDeed => k_is)
    (case ea2_InvalidDeed => k_is)
    (case ea3_InvalidDeed => k_is)
    (case ea4_InvalidDeed => k_is)
    (case ea5_InvalidDeed => k_is)
    (case ea6_InvalidDeed => k_is)
    (case ea7_InvalidDeed => rfl)
    (case ea8_InvalidDeed => first | rfl | decide +kernel)
    (case ea9_InvalidDeed => k_is)
    (case eb5_InvalidDeed => ks_is)
    (case eb6_InvalidDeed => kernel_rfl)
    (case eb7_InvalidDeed => k_is)
    (case eb8_InvalidDeed => k_is)
    (case eb9_InvalidDeed => k_is)
    (case ec1_InvalidDeed => k_is)
    (case ec2_InvalidDeed => k_is)
    (case ec3_InvalidDeed => k_is)
    (case ec4_InvalidDeed => k_is)
    (case ec5_InvalidDeed => k_is)
    (case ec6_InvalidDeed => k_is)
    (case ec7_InvalidDeed => k_is)
    (case ec8_InvalidDeed => k_is)
    (case ec9_InvalidDeed => k_is)
    (case ea1_InvalidQuestion => k_is)
    (case ea2_InvalidQuestion => k_is)
    (case ea3_InvalidQuestion => k_is)
    (case ea4_InvalidQuestion => k_is)
    (case ea5_InvalidQuestion => k_is)
    (case ea6_InvalidQuestion => k_is)
    (case ea7_InvalidQuestion => rfl)
    (case ea8_InvalidQuestion => first | rfl | decide +kernel)
    (case ea9_InvalidQuestion => k_is)
    (case eb5_InvalidQuestion => ks_is)
    (case eb6_InvalidQuestion => kernel_rfl)
    (case eb7_InvalidQuestion => k_is)
    (case eb8_InvalidQuestion => k_is)
    (case eb9_InvalidQuestion => k_is)
    (case ec1_InvalidQuestion => k_is)
    (case ec2_InvalidQuestion => k_is)
    (case ec3_InvalidQuestion => k_is)
    (case ec4_InvalidQuestion => k_is)
    (case ec5_InvalidQuestion => k_is)
    (case ec6_InvalidQuestion => k_is)
    (case ec7_InvalidQuestion => k_is)
    (case ec8_InvalidQuestion => k_is)
    (case ec9_InvalidQuestion => k_is)
    (case eb2 => first | rfl | decide +kernel)
    (case eb3 => k_is)
    (case eb4 => k_is)
    (case sb_InvalidDeed_InvalidDeed => first | k_is | rfl)
    (case sb_InvalidDeed_InvalidQuestion => first | k_is | rfl)
    (case sb_InvalidQuestion_InvalidDeed => first | k_is | rfl)
    (case sb_InvalidQuestion_InvalidQuestion => first | k_is | rfl)
    (case a__law_refused => k_is)
    (case l__law_refused => k_is)
    (case c__law_refused => k_is)
    (case k__law_refused => k_is)
    (case a_is_integer => k_is)
    (case l_is_integer => k_is)
    (case c_is_integer => k_is)
    (case k_is_integer => k_is)
    (case a_is_sequence => k_is)
    (case l_is_sequence => k_is)
    (case c_is_sequence => k_is)
    (case k_is_sequence => k_is)
    (case a_is_number => k_is)
    (case l_is_number => k_is)
    (case c_is_number => k_is)
    (case k_is_number => k_is)
    (case a_is_take_give => k_is)
    (case l_is_take_give => k_is)
    (case c_is_take_give => k_is)
    (case k_is_take_give => k_is)
    (case a_checked_deeds => k_is)
    (case l_checked_deeds => k_is)
    (case c_checked_deeds => k_is)
    (case k_checked_deeds => k_is)
    (case a_checked_number => k_is)
    (case l_checked_number => k_is)
    (case c_checked_number => k_is)
    (case k_checked_number => k_is)
    (case a_counter_by => k_is)
    (case l_counter_by => k_is)
    (case c_counter_by => k_is)
    (case k_counter_by => k_is)
    (case a_counter_after => k_is)
    (case l_counter_after => k_is)
    (case c_counter_after => k_is)
    (case k_counter_after => k_is)
    (case a_one_behind => k_is)
    (case l_one_behind => k_is)
    (case c_one_behind => k_is)
    (case k_one_behind => k_is)
    (case a_as_one_by => k_is)
    (case l_as_one_by => k_is)
    (case c_as_one_by => k_is)
    (case k_as_one_by => k_is)
    (case a_deeds_as_one => k_is)
    (case l_deeds_as_one => k_is)
    (case c_deeds_as_one => k_is)
    (case k_deeds_as_one => k_is)
    (case a_loops_by => k_is)
    (case l_loops_by => k_is)
    (case c_loops_by => k_is)
    (case k_loops_by => k_is)
    (case a_repeated => k_is)
    (case l_repeated => k_is)
    (case c_repeated => k_is)
    (case k_repeated => k_is)
    (case a__law_draw => k_is)
    (case l__law_draw => k_is)
    (case c__law_draw => k_is)
    (case k__law_draw => k_is)
    (case a__law_any => k_is)
    (case l__law_any => k_is)
    (case c__law_any => k_is)
    (case k__law_any => k_is)
    (case a__law_of => k_is)
    (case l__law_of => k_is)
    (case c__law_of => k_is)
    (case k__law_of => k_is)
    (case a__law_same => k_is)
    (case l__law_same => k_is)
    (case c__law_same => k_is)
    (case k__law_same => k_is)
    (case a__law_as_one => k_is)
    (case l__law_as_one => k_is)
    (case c__law_as_one => k_is)
    (case k__law_as_one => k_is)
    (case a__law_some_pairs => k_is)
    (case l__law_some_pairs => k_is)
    (case c__law_some_pairs => k_is)
    (case k__law_some_pairs => k_is)
    (case a__law_done => k_is)
    (case l__law_done => k_is)
    (case c__law_done => k_is)
    (case k__law_done => k_is)
    (case a_law => k_is)
    (case l_law => k_is)
    (case c_law => k_is)
    (case k_law => k_is)
    (case x1 => rfl)
    (case x2 => k_is)
    (case x3 => rfl)
    (case x4 => kernel_rfl)
    (case x5 => kernel_rfl)
    (case z_abs => k_is)
    (case z_all => k_is)
    (case z_bool => k_is)
    (case z_int => k_is)
    (case z_isinstance => k_is)
    (case z_len => k_is)
    (case z_list => k_is)
    (case z_max => k_is)
    (case z_range => k_is)
    (case z_str => k_is)
    (case z_tuple => k_is)
    (case z_zip => k_is)
    (case g_TAKE => k_is)
    (case g_GIVE => k_is)
    (case g_MOST_DEEDS => k_is)

