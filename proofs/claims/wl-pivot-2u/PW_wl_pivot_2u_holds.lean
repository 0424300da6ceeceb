import PyProof.Rows.All
import OpenK.KCall
import Wide.All
import Open.Line
import PySem.Challenge.RW_wl_pivot_2u
set_option Elab.async false
set_option linter.unusedVariables false
set_option linter.unusedSimpArgs false
set_option maxRecDepth 100000
set_option exponentiation.threshold 5000
namespace Mine
open PySem

noncomputable abbrev D := PyData

noncomputable def isList : D → Bool | .list _ => true | _ => false
noncomputable def isAtom : D → Bool | .none => true | .bool _ => true | .int _ => true | .str _ => true | _ => false

/-- every object stays as it is -/
noncomputable def Ext (h h' : Heap) : Prop := ∀ a o, h.get? a = some o → h'.get? a = some o
theorem Ext.refl (h : Heap) : Ext h h := fun _ _ e => e
theorem Ext.trans {h1 h2 h3 : Heap} (x : Ext h1 h2) (y : Ext h2 h3) : Ext h1 h3 := fun a o e => y a o (x a o e)
theorem Ext.push {h1 h2 : Heap} (x : Ext h1 h2) (o : Obj) : Ext h1 (h2.push o) := fun _ _ e => Heap.get?_push_of_some o (x _ _ e)
theorem dead_size {h h' : Heap} (x : Ext h h') : h.get? h'.objs.size = none := by
  cases e : h.get? h'.objs.size with
  | none => rfl
  | some o => exact absurd (Heap.lt_size (x _ _ e)) (Nat.lt_irrefl _)
theorem live_dead {h : Heap} {a : Addr} {o : Obj} (e : h.get? a = none) (q : h.get? a = some o) : False := by rw [e] at q; cases q
theorem ne_dead {h : Heap} {a b : Addr} {o : Obj} (e : h.get? b = none) (q : h.get? a = some o) : a ≠ b := fun x => live_dead (x ▸ e) q
theorem ne_fields {h : Heap} {a I : Addr} {o : Obj} {items : Array Value} {n : Nat} (hI : ∃ o vs, h.get? I = some o ∧ o.data = .fields vs) (e : h.get? a = some o) (hd : o.data = .seq items n) : a ≠ I := by
  rintro rfl
  obtain ⟨o', vs', e', hd'⟩ := hI
  rw [e] at e'; cases e'; rw [hd] at hd'; cases hd'
theorem live_of {h h' : Heap} {a : Addr} (k : ∀ o, h.get? a = some o → h'.get? a = some o) (e : h'.get? a = none) : h.get? a = none := by
  cases e' : h.get? a with
  | none => rfl
  | some o => exact (live_dead e (k o e')).elim
theorem Ext.dead {h h' : Heap} (x : Ext h h') {a : Addr} (e : h'.get? a = none) : h.get? a = none := by
  cases e' : h.get? a with
  | none => rfl
  | some o => rw [x _ _ e'] at e; cases e

mutual
inductive Rep (X : Addr → Prop) (h : Heap) : Value → D → Prop
  | none : Rep X h .none .none
  | bool (b) : Rep X h (.bool b) (.bool b)
  | int (i t) : Rep X h (.int i t) (.int i)
  | str (s t) : Rep X h (.str s t) (.str s)
  | list {a : Addr} {vs : List Value} {n : Nat} {ds : List D} : ¬ X a → IsL h a vs.toArray n → Reps X h vs ds → Rep X h (.ref a) (.list ds)
  | tuple {a : Addr} {vs : List Value} {n : Nat} {ds : List D} : ¬ X a → IsT h a vs.toArray n → Reps X h vs ds → Rep X h (.ref a) (.tuple ds)
inductive Reps (X : Addr → Prop) (h : Heap) : List Value → List D → Prop
  | nil : Reps X h [] []
  | cons {v : Value} {vs : List Value} {d : D} {ds : List D} : Rep X h v d → Reps X h vs ds → Reps X h (v :: vs) (d :: ds)
end

/-- the lists and tuples outside X stay -/
noncomputable def Stab (X : Addr → Prop) (h h' : Heap) : Prop := ∀ a o items n, ¬ X a → h.get? a = some o → o.data = .seq items n → h'.get? a = some o
theorem Ext.stab {h h' : Heap} (x : Ext h h') (X : Addr → Prop) : Stab X h h' := fun _ _ _ _ _ e _ => x _ _ e

theorem Rep.both {X : Addr → Prop} {h : Heap} {P : Value → D → Prop} {Ps : List Value → List D → Prop} (h1 : P .none .none) (h2 : ∀ b, P (.bool b) (.bool b)) (h3 : ∀ i t, P (.int i t) (.int i)) (h4 : ∀ s t, P (.str s t) (.str s))
    (h5 : ∀ {a : Addr} {vs : List Value} {n : Nat} {ds : List D}, ¬ X a → IsL h a vs.toArray n → Ps vs ds → P (.ref a) (.list ds)) (h6 : ∀ {a : Addr} {vs : List Value} {n : Nat} {ds : List D}, ¬ X a → IsT h a vs.toArray n → Ps vs ds → P (.ref a) (.tuple ds))
    (h7 : Ps [] []) (h8 : ∀ {v : Value} {vs : List Value} {d : D} {ds : List D}, P v d → Ps vs ds → Ps (v :: vs) (d :: ds)) : (∀ {v : Value} {d : D}, Rep X h v d → P v d) ∧ ∀ {vs : List Value} {ds : List D}, Reps X h vs ds → Ps vs ds :=
  ⟨fun r => Rep.rec (motive_1 := fun v d _ => P v d) (motive_2 := fun vs ds _ => Ps vs ds) h1 h2 h3 h4 (fun x l _ ih => h5 x l ih) (fun x l _ ih => h6 x l ih) h7 (fun _ _ a b => h8 a b) r,
   fun r => Reps.rec (motive_1 := fun v d _ => P v d) (motive_2 := fun vs ds _ => Ps vs ds) h1 h2 h3 h4 (fun x l _ ih => h5 x l ih) (fun x l _ ih => h6 x l ih) h7 (fun _ _ a b => h8 a b) r⟩
theorem Rep.stab2 {X : Addr → Prop} {h h' : Heap} (st : Stab X h h') : (∀ {v : Value} {d : D}, Rep X h v d → Rep X h' v d) ∧ ∀ {vs : List Value} {ds : List D}, Reps X h vs ds → Reps X h' vs ds :=
  Rep.both .none .bool .int .str (fun hx hl r => .list hx (st _ _ _ _ hx hl rfl) r) (fun hx hl r => .tuple hx (st _ _ _ _ hx hl rfl) r) .nil .cons
theorem Rep.stab {X : Addr → Prop} {h h' : Heap} (st : Stab X h h') {v : Value} {d : D} (r : Rep X h v d) : Rep X h' v d := (Rep.stab2 st).1 r
theorem Reps.stab {X : Addr → Prop} {h h' : Heap} (st : Stab X h h') {vs : List Value} {ds : List D} (r : Reps X h vs ds) : Reps X h' vs ds := (Rep.stab2 st).2 r
theorem Rep.ext {X : Addr → Prop} {h h' : Heap} (x : Ext h h') {v : Value} {d : D} (r : Rep X h v d) : Rep X h' v d := r.stab (x.stab X)
theorem Reps.ext {X : Addr → Prop} {h h' : Heap} (x : Ext h h') {v : List Value} {d : List D} (r : Reps X h v d) : Reps X h' v d := r.stab (x.stab X)

theorem Rep.more2 {X Y : Addr → Prop} {h : Heap} (st : ∀ a, Y a → X a ∨ h.get? a = Option.none) : (∀ {v : Value} {d : D}, Rep X h v d → Rep Y h v d) ∧ ∀ {vs : List Value} {ds : List D}, Reps X h vs ds → Reps Y h vs ds :=
  Rep.both .none .bool .int .str (fun hx hl r => .list (fun hy => (st _ hy).elim hx fun e => live_dead e hl) hl r) (fun hx hl r => .tuple (fun hy => (st _ hy).elim hx fun e => live_dead e hl) hl r) .nil .cons
theorem Rep.more {X Y : Addr → Prop} {h : Heap} (st : ∀ a, Y a → X a ∨ h.get? a = Option.none) {v : Value} {d : D} (r : Rep X h v d) : Rep Y h v d := (Rep.more2 st).1 r
theorem Reps.more {X Y : Addr → Prop} {h : Heap} (st : ∀ a, Y a → X a ∨ h.get? a = Option.none) {vs : List Value} {ds : List D} (r : Reps X h vs ds) : Reps Y h vs ds := (Rep.more2 st).2 r
theorem Rep.sub {X Y : Addr → Prop} {h : Heap} (st : ∀ a, Y a → X a) {v : Value} {d : D} (r : Rep X h v d) : Rep Y h v d := r.more fun a e => .inl (st a e)
theorem Reps.sub {X Y : Addr → Prop} {h : Heap} (st : ∀ a, Y a → X a) {v : List Value} {d : List D} (r : Reps X h v d) : Reps Y h v d := r.more fun a e => .inl (st a e)

theorem Rep.atom {X Y : Addr → Prop} {h h' : Heap} {v : Value} {d : D} (r : Rep X h v d) (ha : isAtom d = true) : Rep Y h' v d := by
  cases r with
  | none => exact .none
  | bool b => exact .bool b
  | int i t => exact .int i t
  | str i t => exact .str i t
  | list => cases ha
  | tuple => cases ha

theorem Rep.reads2 {X : Addr → Prop} {h : Heap} : (∀ {v : Value} {d : D}, Rep X h v d → ∃ as, Reads h v d as) ∧ ∀ {vs : List Value} {ds : List D}, Reps X h vs ds → ∃ as, ReadsAll h vs ds as :=
  Rep.both (P := fun v d => ∃ as, Reads h v d as) (Ps := fun vs ds => ∃ as, ReadsAll h vs ds as) ⟨_, .none⟩ (fun b => ⟨_, .bool b⟩) (fun i t => ⟨_, .int i t⟩) (fun i t => ⟨_, .str i t⟩) (fun _ hl r => let ⟨_, ra⟩ := r; ⟨_, .list hl rfl rfl ra⟩) (fun _ hl r => let ⟨_, ra⟩ := r; ⟨_, .tuple hl rfl rfl ra⟩) ⟨_, .nil⟩ (fun a b => let ⟨_, ra⟩ := a; let ⟨_, rb⟩ := b; ⟨_, .cons ra rb⟩)
theorem Rep.reads {X : Addr → Prop} {h : Heap} {v : Value} {d : D} (r : Rep X h v d) : ∃ as, Reads h v d as := Rep.reads2.1 r
theorem Reps.reads {X : Addr → Prop} {h : Heap} {vs : List Value} {ds : List D} (r : Reps X h vs ds) : ∃ as, ReadsAll h vs ds as := Rep.reads2.2 r

theorem Reps.length {X : Addr → Prop} {h : Heap} {vs : List Value} {ds : List D} (r : Reps X h vs ds) : vs.length = ds.length := by
  induction vs generalizing ds with
  | nil => cases r; rfl
  | cons v vs ih => cases r with | cons a b => simp [ih b]
theorem Reps.get {X : Addr → Prop} {h : Heap} {vs : List Value} {ds : List D} (r : Reps X h vs ds) {i : Nat} {d : D} (e : ds[i]? = some d) : ∃ v, vs[i]? = some v ∧ Rep X h v d := by
  induction vs generalizing ds i with
  | nil => cases r; simp at e
  | cons v vs ih =>
    cases r with
    | cons a b =>
      cases i with
      | zero => simp at e; subst e; exact ⟨v, by simp, a⟩
      | succ i => simp at e; obtain ⟨v', h1, h2⟩ := ih b e; exact ⟨v', by simpa using h1, h2⟩
theorem Reps.get' {X : Addr → Prop} {h : Heap} {vs : List Value} {ds : List D} (r : Reps X h vs ds) {i : Nat} {v : Value} (e : vs[i]? = some v) : ∃ d, ds[i]? = some d ∧ Rep X h v d := by
  have hl := r.length
  have hi : i < ds.length := by
    have := List.getElem?_eq_some_iff.mp e
    obtain ⟨h1, _⟩ := this; omega
  obtain ⟨v', h1, h2⟩ := r.get (i := i) (d := ds[i]) (by simp [hi])
  rw [e] at h1; cases h1
  exact ⟨_, by simp [hi], h2⟩
theorem Reps.append {X : Addr → Prop} {h : Heap} {vs ws : List Value} {ds es : List D} (r : Reps X h vs ds) (q : Reps X h ws es) : Reps X h (vs ++ ws) (ds ++ es) := by
  induction vs generalizing ds with
  | nil => cases r; exact q
  | cons v vs ih => cases r with | cons a b => exact .cons a (ih b)
theorem Reps.drop {X : Addr → Prop} {h : Heap} {vs : List Value} {ds : List D} (r : Reps X h vs ds) (k : Nat) : Reps X h (vs.drop k) (ds.drop k) := by
  induction k generalizing vs ds with
  | zero => exact r
  | succ k ih => cases r with
    | nil => exact .nil
    | cons a b => exact ih b
theorem Reps.take {X : Addr → Prop} {h : Heap} {vs : List Value} {ds : List D} (r : Reps X h vs ds) (k : Nat) : Reps X h (vs.take k) (ds.take k) := by
  induction k generalizing vs ds with
  | zero => exact .nil
  | succ k ih => cases r with
    | nil => exact .nil
    | cons a b => exact .cons a (ih b)
theorem Reps.replicate {X : Addr → Prop} {h : Heap} {v : Value} {d : D} (r : Rep X h v d) (k : Nat) : Reps X h (List.replicate k v) (List.replicate k d) := by
  induction k with
  | zero => exact .nil
  | succ k ih => exact .cons r ih

-- lists that the frame may still write: fp are their addresses
mutual
inductive OwnT (Y : Addr → Prop) (h : Heap) : Value → D → List Addr → Prop
  | leaf {v : Value} {d : D} : isList d = false → Rep Y h v d → OwnT Y h v d []
  | list {a : Addr} {vs : List Value} {n : Nat} {ds : List D} {f : List Addr} : IsL h a vs.toArray n → OwnTs Y h vs ds f → OwnT Y h (.ref a) (.list ds) (a :: f)
inductive OwnTs (Y : Addr → Prop) (h : Heap) : List Value → List D → List Addr → Prop
  | nil : OwnTs Y h [] [] []
  | cons {v : Value} {vs : List Value} {d : D} {ds : List D} {f g : List Addr} : OwnT Y h v d f → OwnTs Y h vs ds g → OwnTs Y h (v :: vs) (d :: ds) (f ++ g)
end

theorem OwnT.both {Y : Addr → Prop} {h : Heap} {P : Value → D → List Addr → Prop} {Ps : List Value → List D → List Addr → Prop} (h1 : ∀ {v : Value} {d : D}, isList d = false → Rep Y h v d → P v d [])
    (h2 : ∀ {a : Addr} {vs : List Value} {n : Nat} {ds : List D} {f : List Addr}, IsL h a vs.toArray n → Ps vs ds f → P (.ref a) (.list ds) (a :: f)) (h3 : Ps [] [] []) (h4 : ∀ {v : Value} {vs : List Value} {d : D} {ds : List D} {f g : List Addr}, P v d f → Ps vs ds g → Ps (v :: vs) (d :: ds) (f ++ g)) :
    (∀ {v : Value} {d : D} {f : List Addr}, OwnT Y h v d f → P v d f) ∧ ∀ {vs : List Value} {ds : List D} {f : List Addr}, OwnTs Y h vs ds f → Ps vs ds f :=
  ⟨fun r => OwnT.rec (motive_1 := fun v d f _ => P v d f) (motive_2 := fun vs ds f _ => Ps vs ds f) (fun a b => h1 a b) (fun l _ ih => h2 l ih) h3 (fun _ _ a b => h4 a b) r,
   fun r => OwnTs.rec (motive_1 := fun v d f _ => P v d f) (motive_2 := fun vs ds f _ => Ps vs ds f) (fun a b => h1 a b) (fun l _ ih => h2 l ih) h3 (fun _ _ a b => h4 a b) r⟩
theorem OwnT.stab2 {Y : Addr → Prop} {h h' : Heap} (st : Stab Y h h') : (∀ {v : Value} {d : D} {f : List Addr}, OwnT Y h v d f → (∀ a o, a ∈ f → h.get? a = some o → h'.get? a = some o) → OwnT Y h' v d f) ∧ ∀ {vs : List Value} {ds : List D} {f : List Addr}, OwnTs Y h vs ds f → (∀ a o, a ∈ f → h.get? a = some o → h'.get? a = some o) → OwnTs Y h' vs ds f :=
  OwnT.both (P := fun v d f => (∀ a o, a ∈ f → h.get? a = some o → h'.get? a = some o) → OwnT Y h' v d f) (Ps := fun vs ds f => (∀ a o, a ∈ f → h.get? a = some o → h'.get? a = some o) → OwnTs Y h' vs ds f) (fun hl r _ => .leaf hl (r.stab st)) (fun hl r hk => .list (hk _ _ List.mem_cons_self hl) (r fun a o ha e => hk a o (List.mem_cons_of_mem _ ha) e)) (fun _ => .nil)
    (fun a b hk => .cons (a fun x o hx e => hk x o (List.mem_append_left _ hx) e) (b fun x o hx e => hk x o (List.mem_append_right _ hx) e))
theorem OwnT.stab {Y : Addr → Prop} {h h' : Heap} (st : Stab Y h h') {v : Value} {d : D} {f : List Addr} (r : OwnT Y h v d f) (hk : ∀ a o, a ∈ f → h.get? a = some o → h'.get? a = some o) : OwnT Y h' v d f := (OwnT.stab2 st).1 r hk
theorem OwnTs.stab {Y : Addr → Prop} {h h' : Heap} (st : Stab Y h h') {vs : List Value} {ds : List D} {f : List Addr} (r : OwnTs Y h vs ds f) (hk : ∀ a o, a ∈ f → h.get? a = some o → h'.get? a = some o) : OwnTs Y h' vs ds f := (OwnT.stab2 st).2 r hk
theorem OwnT.ext {Y : Addr → Prop} {h h' : Heap} (x : Ext h h') {v : Value} {d : D} {f : List Addr} (r : OwnT Y h v d f) : OwnT Y h' v d f := r.stab (x.stab Y) fun a o _ e => x a o e
theorem OwnTs.ext {Y : Addr → Prop} {h h' : Heap} (x : Ext h h') {v : List Value} {d : List D} {f : List Addr} (r : OwnTs Y h v d f) : OwnTs Y h' v d f := r.stab (x.stab Y) fun a o _ e => x a o e
theorem OwnT.more2 {X Y : Addr → Prop} {h : Heap} (st : ∀ a, Y a → X a ∨ h.get? a = none) : (∀ {v : Value} {d : D} {f : List Addr}, OwnT X h v d f → OwnT Y h v d f) ∧ ∀ {vs : List Value} {ds : List D} {f : List Addr}, OwnTs X h vs ds f → OwnTs Y h vs ds f :=
  OwnT.both (fun hl r => .leaf hl (r.more st)) .list .nil .cons
theorem OwnT.more {X Y : Addr → Prop} {h : Heap} (st : ∀ a, Y a → X a ∨ h.get? a = none) {v : Value} {d : D} {f : List Addr} (r : OwnT X h v d f) : OwnT Y h v d f := (OwnT.more2 st).1 r
theorem OwnTs.more {X Y : Addr → Prop} {h : Heap} (st : ∀ a, Y a → X a ∨ h.get? a = none) {vs : List Value} {ds : List D} {f : List Addr} (r : OwnTs X h vs ds f) : OwnTs Y h vs ds f := (OwnT.more2 st).2 r
theorem OwnT.aliveL2 {Y : Addr → Prop} {h : Heap} : (∀ {v : Value} {d : D} {f : List Addr}, OwnT Y h v d f → ∀ a ∈ f, ∃ vs n, IsL h a vs n) ∧ ∀ {vs : List Value} {ds : List D} {f : List Addr}, OwnTs Y h vs ds f → ∀ a ∈ f, ∃ vs n, IsL h a vs n :=
  OwnT.both (P := fun _ _ f => ∀ a ∈ f, ∃ vs n, IsL h a vs n) (Ps := fun _ _ f => ∀ a ∈ f, ∃ vs n, IsL h a vs n) (fun _ _ _ h => by cases h) (fun hl r => List.forall_mem_cons.mpr ⟨⟨_, _, hl⟩, r⟩) (fun _ h => by cases h) (fun x y a ha => (List.mem_append.mp ha).elim (x a) (y a))
theorem OwnT.aliveL {Y : Addr → Prop} {h : Heap} {v : Value} {d : D} {f : List Addr} (r : OwnT Y h v d f) : ∀ a ∈ f, ∃ vs n, IsL h a vs n := OwnT.aliveL2.1 r
theorem OwnTs.aliveL {Y : Addr → Prop} {h : Heap} {vs : List Value} {ds : List D} {f : List Addr} (r : OwnTs Y h vs ds f) : ∀ a ∈ f, ∃ vs n, IsL h a vs n := OwnT.aliveL2.2 r
theorem OwnT.alive {Y : Addr → Prop} {h : Heap} {v : Value} {d : D} {f : List Addr} (r : OwnT Y h v d f) : ∀ a ∈ f, ∃ o, h.get? a = some o := fun a ha => let ⟨_, _, q⟩ := r.aliveL a ha; ⟨_, q⟩
theorem OwnTs.alive {Y : Addr → Prop} {h : Heap} {vs : List Value} {ds : List D} {f : List Addr} (r : OwnTs Y h vs ds f) : ∀ a ∈ f, ∃ o, h.get? a = some o := fun a ha => let ⟨_, _, q⟩ := r.aliveL a ha; ⟨_, q⟩
-- what is owned may be read
theorem OwnT.rep2 {X Y : Addr → Prop} {h : Heap} (hs : ∀ a, X a → Y a) : (∀ {v : Value} {d : D} {f : List Addr}, OwnT Y h v d f → (∀ a ∈ f, ¬ X a) → Rep X h v d) ∧ ∀ {vs : List Value} {ds : List D} {f : List Addr}, OwnTs Y h vs ds f → (∀ a ∈ f, ¬ X a) → Reps X h vs ds :=
  OwnT.both (P := fun v d f => (∀ a ∈ f, ¬ X a) → Rep X h v d) (Ps := fun vs ds f => (∀ a ∈ f, ¬ X a) → Reps X h vs ds) (fun _ r _ => r.sub hs) (fun hl r hx => .list (hx _ List.mem_cons_self) hl (r fun a ha => hx a (List.mem_cons_of_mem _ ha))) (fun _ => .nil)
    (fun a b hx => .cons (a fun x h' => hx x (List.mem_append_left _ h')) (b fun x h' => hx x (List.mem_append_right _ h')))
theorem OwnT.rep {X Y : Addr → Prop} {h : Heap} (hs : ∀ a, X a → Y a) {v : Value} {d : D} {f : List Addr} (r : OwnT Y h v d f) (hx : ∀ a ∈ f, ¬ X a) : Rep X h v d := (OwnT.rep2 hs).1 r hx
theorem OwnTs.reps {X Y : Addr → Prop} {h : Heap} (hs : ∀ a, X a → Y a) {vs : List Value} {ds : List D} {f : List Addr} (r : OwnTs Y h vs ds f) (hx : ∀ a ∈ f, ¬ X a) : Reps X h vs ds := (OwnT.rep2 hs).2 r hx
/-- a list without lists in it is owned as soon as its own address is -/
theorem ownTs_of_reps {Y : Addr → Prop} {h : Heap} {vs : List Value} {ds : List D} (r : Reps Y h vs ds) (hn : ∀ d ∈ ds, isList d = false) : OwnTs Y h vs ds [] := by
  induction vs generalizing ds with
  | nil => cases r; exact .nil
  | cons v vs ih => cases r with
    | cons a b =>
      have := OwnTs.cons (OwnT.leaf (hn _ (by simp)) a) (ih b fun d hd => hn d (by simp [hd]))
      simpa using this
theorem OwnTs.length {X : Addr → Prop} {h : Heap} {vs : List Value} {ds : List D} {f : List Addr} (r : OwnTs X h vs ds f) : vs.length = ds.length := by
  induction vs generalizing ds f with
  | nil => cases r; rfl
  | cons v vs ih => cases r with | cons a b => simp [ih b]
theorem OwnTs.append {X : Addr → Prop} {h : Heap} {vs ws : List Value} {ds es : List D} {f g : List Addr} (r : OwnTs X h vs ds f) (q : OwnTs X h ws es g) : OwnTs X h (vs ++ ws) (ds ++ es) (f ++ g) := by
  induction vs generalizing ds f with
  | nil => cases r; exact q
  | cons v vs ih => cases r with | cons a b => simpa using OwnTs.cons a (ih b)



inductive Mode | borrow | shared | fresh deriving DecidableEq

structure Slot where
  own : Bool
  d : D

noncomputable abbrev Rho := List (Option Slot)

inductive BOp | add | sub | mul | fdiv | mod

mutual
inductive ME
  | int (i : Int) | str (s : Str) | bool (b : Bool)
  | var (i : Nat)
  | bin (op : BOp) (l r : ME)
  | neg (e : ME)
  | idx (e i : ME)
  | slc (e : ME) (lo hi : MO)
  | tup (es : MEs) | lst (es : MEs)
  | call (f : Str) (es : MEs)
  | len (e : ME) | abs (e : ME) | text (e : ME) | sum (e : ME) | sorted (e : ME) | lrange (e : ME)
  | comp (it : MI) (b : ME)
  | ife (t : MT) (a b : ME)
inductive MEs | nil | cons (e : ME) (es : MEs)
inductive MO | none | some (e : ME)
inductive MI | range1 (e : ME) | range2 (a b : ME) | lst (e : ME)
inductive MT | cmp (op : CmpOp) (l r : ME) | not (t : MT) | and (a b : MT) | or (a b : MT) | isInt (e : ME) | val (e : ME)
end

inductive MS
  | assign (o : Bool) (x : Nat) (e : ME)
  | move (x y : Nat)
  | unpack2 (x y : Nat) (e : ME)
  | unpack3 (x y z : Nat) (e : ME)
  | setItem (x : Nat) (i e : ME)
  | setItem2 (x : Nat) (i j e : ME)
  | swap (x : Nat) (i j e1 e2 : ME)
  | append (x : Nat) (e : ME)
  | ite (t : MT) (a b : List MS)
  | forS (x : Nat) (it : MI) (b : List MS)
  | whileT (b : List MS)
  | ret (e : ME)
  | retVar (x : Nat)
  | brk | cont | fail

inductive Out | next (ρ : Rho) | brk (ρ : Rho) | cont (ρ : Rho) | ret (d : D) (fr : Bool)

noncomputable def varMode (s : Slot) : Mode := if isAtom s.d then .fresh else if s.own then .borrow else if isList s.d then .shared else .fresh
/-- a value that holds no list is as good as new -/
noncomputable def norm (d : D) (m : Mode) : Mode := if isAtom d then .fresh else if m = .shared ∧ isList d = false then .fresh else m

noncomputable def Big : Nat := 2 ^ 4096
noncomputable def lim : Nat := 4096

noncomputable def flatMode (xs : List D) : Mode := if xs.all (fun d => !isList d) then .fresh else .shared

noncomputable def binI : BOp → Int → Int → Option (D × Mode)
  | .add, x, y => some (.int (x + y), .fresh)
  | .sub, x, y => some (.int (x - y), .fresh)
  | .mul, x, y => if x.natAbs < Big ∧ y.natAbs < Big then some (.int (x * y), .fresh) else none
  | .fdiv, x, y => if y = 0 ∨ Big ≤ y.natAbs then none else some (.int (x.fdiv y), .fresh)
  | .mod, x, y => if y = 0 then none else some (.int (x.fmod y), .fresh)
noncomputable def asInt : D → Option Int
  | .int i => some i
  | _ => none
noncomputable def asList : D → Option (List D)
  | .list i => some i
  | _ => none
noncomputable def asOne : List D → Option D
  | [d] => some d
  | _ => none
noncomputable def binL (op : BOp) (xs : List D) (m : Mode) (b : D × Mode) : Option (D × Mode) := match op with
  | .add => (asList b.1).bind fun ys => if m = .borrow ∨ b.2 = .borrow ∨ lim < xs.length + ys.length then none else some (.list (xs ++ ys), flatMode (xs ++ ys))
  | .mul => (asOne xs).bind fun d => (asInt b.1).bind fun k => if m = .borrow ∨ k < 0 ∨ (lim : Int) < k then none else some (.list (List.replicate k.toNat d), flatMode [d])
  | _ => none
noncomputable def binD (op : BOp) (a b : D × Mode) : Option (D × Mode) := match a.1 with
  | .int x => (asInt b.1).bind fun y => binI op x y
  | .list xs => binL op xs a.2 b
  | _ => none
theorem none_ne {α : Type} {P : Prop} {x : α} (h : (none : Option α) = some x) : P := by cases h
theorem tf_ne {P : Prop} (h : false = true) : P := by cases h
theorem asInt_inv {d : D} {i : Int} (h : asInt d = some i) : d = .int i := by
  cases d
  case int => cases h; rfl
  all_goals exact none_ne h
theorem asList_inv {d : D} {i : List D} (h : asList d = some i) : d = .list i := by
  cases d
  case list => cases h; rfl
  all_goals exact none_ne h
theorem asOne_inv {l : List D} {d : D} (h : asOne l = some d) : l = [d] := by
  rcases l with _ | ⟨x, _ | ⟨y, l⟩⟩
  · cases h
  · cases h; rfl
  · cases h
theorem binD_inv {op : BOp} {a b c : D × Mode} (h : binD op a b = some c) : (∃ x y, a.1 = .int x ∧ b.1 = .int y ∧ binI op x y = some c) ∨ ∃ xs, a.1 = .list xs ∧ binL op xs a.2 b = some c := by
  obtain ⟨d, m⟩ := a
  cases d
  case int x => obtain ⟨y, h1, h2⟩ := Option.bind_eq_some_iff.mp h; exact .inl ⟨x, y, rfl, asInt_inv h1, h2⟩
  case list xs => exact .inr ⟨xs, rfl, h⟩
  all_goals exact none_ne h

noncomputable def negD : D × Mode → Option (D × Mode)
  | (.int x, _) => some (.int (-x), .fresh)
  | _ => none

noncomputable def itemsOf : D → Option (List D)
  | .list ds => some ds
  | .tuple ds => some ds
  | _ => none

noncomputable def idxD : D × Mode → D × Mode → Option (D × Mode)
  | (c, m), (.int i, _) => match itemsOf c with
    | some ds => if i < 0 ∨ (lim : Int) < i then none else match ds[i.toNat]? with
      | some d => some (d, norm d (if m = .borrow then .borrow else .shared))
      | none => none
    | none => none
  | _, _ => none

noncomputable def boundD : Option (D × Mode) → Option Int
  | some (.int i, _) => if i < 0 ∨ (lim : Int) < i then none else some i
  | _ => none

noncomputable def cutL (ds : List D) (lo hi : Option Int) : List D :=
  let t := match hi with | some j => ds.take j.toNat | none => ds
  match lo with | some i => t.drop i.toNat | none => t

noncomputable def slcD (c : D × Mode) (lo hi : Option Int) : Option (D × Mode) :=
  match c with
  | (.list ds, m) => if m = .borrow ∨ lim < ds.length then none else some (.list (cutL ds lo hi), flatMode ds)
  | _ => none

noncomputable def allOk (rs : List (D × Mode)) : Bool := rs.all fun r => r.2 != .borrow
noncomputable def tupD (rs : List (D × Mode)) : Option (D × Mode) := if allOk rs = true ∧ rs.length ≤ lim then some (.tuple (rs.map (·.1)), .fresh) else none
noncomputable def lstD (rs : List (D × Mode)) : Option (D × Mode) :=
  if allOk rs = true ∧ rs.length ≤ lim then some (.list (rs.map (·.1)), if rs.all (fun r => r.2 == .fresh) then .fresh else .shared) else none

noncomputable def callD (Φ : Str → List D → Option (D × Bool)) (f : Str) (rs : List (D × Mode)) : Option (D × Mode) :=
  match Φ f (rs.map (·.1)) with
  | some (d, fr) =>
    if allOk rs = true then some (d, if fr then .fresh else norm d .shared) else if isAtom d = true then some (d, .fresh) else none
  | none => none

noncomputable def lenD : D × Mode → Option (D × Mode)
  | (.list ds, _) => if ds.length ≤ lim then some (.int ds.length, .fresh) else none
  | (.tuple ds, _) => if ds.length ≤ lim then some (.int ds.length, .fresh) else none
  | (.str s, _) => if s.length ≤ lim then some (.int s.length, .fresh) else none
  | _ => none
noncomputable def absD : D × Mode → Option (D × Mode)
  | (.int i, _) => some (.int (if i < 0 then -i else i), .fresh)
  | _ => none
noncomputable def textD : D × Mode → Option (D × Mode)
  | (.int i, _) => if i.natAbs.log2 < 1920 then some (.str (Str.ofString (toString i)), .fresh) else none
  | _ => none
noncomputable def intsOf : List D → Option (List Int)
  | [] => some []
  | .int i :: r => (intsOf r).map (i :: ·)
  | _ => none
noncomputable def sumD : D × Mode → Option (D × Mode)
  | (.list ds, m) => if m = .borrow ∨ lim < ds.length then none else match intsOf ds with
    | some ns => if ns.all (fun i => decide (i.natAbs < 2 ^ 40)) then some (.int ns.sum, .fresh) else none
    | none => none
  | _ => none
noncomputable def sortedD : D × Mode → Option (D × Mode)
  | (.list ds, m) => if m = .borrow ∨ 60 < ds.length then none else match intsOf ds with
    | some ns => some (.list ((ns.mergeSort (fun a b => decide (a ≤ b))).map .int), .fresh)
    | none => none
  | _ => none
noncomputable def upto (a b : Int) : List D := (List.range (b - a).toNat).map fun (i : Nat) => .int (a + i)
noncomputable def rangeD (a b : Int) : Option (List D) := if a < 0 ∨ (lim : Int) < a ∨ b < 0 ∨ (lim : Int) < b then none else some (upto a b)
noncomputable def lrangeD : D × Mode → Option (D × Mode)
  | (.int n, _) => match rangeD 0 n with
    | some ds => some (.list ds, .fresh)
    | none => none
  | _ => none
noncomputable def listD : D × Mode → Option (List D)
  | (.list ds, m) => if m = .borrow ∨ lim < ds.length then none else some ds
  | _ => none

noncomputable def mapO (f : D → Option (D × Mode)) : List D → Option (List (D × Mode))
  | [] => some []
  | d :: ds => match f d with
    | some r => match mapO f ds with
      | some rs => some (r :: rs)
      | none => none
    | none => none

noncomputable def innerR (ρ : Rho) : Rho := ρ.map fun s => match s with | some ⟨false, d⟩ => some ⟨false, d⟩ | _ => none

noncomputable def cmpD : CmpOp → D → D → Option Bool
  | .Eq, a, b => if SeqAtOk a && SeqAtOk b then some (PyData.eqv a b) else none
  | .NotEq, a, b => if SeqAtOk a && SeqAtOk b then some (!PyData.eqv a b) else none
  | .Lt, .int x, .int y => some (decide (x < y))
  | .Gt, .int x, .int y => some (decide (x > y))
  | _, _, _ => none
where SeqAtOk (d : D) : Bool := d.canLay0 && decide (d.depth ≤ 64)

mutual
noncomputable def evE (Φ : Str → List D → Option (D × Bool)) : ME → Rho → Option (D × Mode)
  | .int i, _ => some (.int i, .fresh)
  | .str s, _ => some (.str s, .fresh)
  | .bool b, _ => some (.bool b, .fresh)
  | .var i, ρ => match ρ[i]? with
    | some (some s) => some (s.d, varMode s)
    | _ => none
  | .bin op l r, ρ => match evE Φ l ρ with
    | some a => match evE Φ r ρ with
      | some b => binD op a b
      | none => none
    | none => none
  | .neg e, ρ => match evE Φ e ρ with | some a => negD a | none => none
  | .idx e i, ρ => match evE Φ e ρ with
    | some a => match evE Φ i ρ with
      | some b => idxD a b
      | none => none
    | none => none
  | .slc e lo hi, ρ => match evE Φ e ρ with
    | some a => match evO Φ lo ρ with
      | some l => match evO Φ hi ρ with
        | some u => slcD a l u
        | none => none
      | none => none
    | none => none
  | .tup es, ρ => match evEs Φ es ρ with | some rs => tupD rs | none => none
  | .lst es, ρ => match evEs Φ es ρ with | some rs => lstD rs | none => none
  | .call f es, ρ => match evEs Φ es ρ with | some rs => callD Φ f rs | none => none
  | .len e, ρ => match evE Φ e ρ with | some a => lenD a | none => none
  | .abs e, ρ => match evE Φ e ρ with | some a => absD a | none => none
  | .text e, ρ => match evE Φ e ρ with | some a => textD a | none => none
  | .sum e, ρ => match evE Φ e ρ with | some a => sumD a | none => none
  | .sorted e, ρ => match evE Φ e ρ with | some a => sortedD a | none => none
  | .lrange e, ρ => match evE Φ e ρ with | some a => lrangeD a | none => none
  | .comp it b, ρ => match evI Φ it ρ with
    | some ds => match mapO (fun d => evE Φ b (innerR ρ ++ [some ⟨false, d⟩])) ds with
      | some rs => lstD rs
      | none => none
    | none => none
  | .ife t a b, ρ => match evT Φ t ρ with
    | some true => evE Φ a ρ
    | some false => evE Φ b ρ
    | none => none
noncomputable def evEs (Φ : Str → List D → Option (D × Bool)) : MEs → Rho → Option (List (D × Mode))
  | .nil, _ => some []
  | .cons e es, ρ => match evE Φ e ρ with
    | some a => match evEs Φ es ρ with
      | some rs => some (a :: rs)
      | none => none
    | none => none
noncomputable def evO (Φ : Str → List D → Option (D × Bool)) : MO → Rho → Option (Option Int)
  | .none, _ => some none
  | .some e, ρ => match boundD (evE Φ e ρ) with | some i => some (some i) | none => none
noncomputable def evI (Φ : Str → List D → Option (D × Bool)) : MI → Rho → Option (List D)
  | .range1 e, ρ => match evE Φ e ρ with
    | some (.int n, _) => rangeD 0 n
    | _ => none
  | .range2 a b, ρ => match evE Φ a ρ with
    | some (.int x, _) => match evE Φ b ρ with
      | some (.int y, _) => rangeD x y
      | _ => none
    | _ => none
  | .lst e, ρ => match evE Φ e ρ with | some a => listD a | none => none
noncomputable def evT (Φ : Str → List D → Option (D × Bool)) : MT → Rho → Option Bool
  | .cmp op l r, ρ => match evE Φ l ρ with
    | some a => match evE Φ r ρ with
      | some b => cmpD op a.1 b.1
      | none => none
    | none => none
  | .not t, ρ => match evT Φ t ρ with | some b => some (!b) | none => none
  | .and a b, ρ => match evT Φ a ρ with
    | some true => evT Φ b ρ
    | some false => some false
    | none => none
  | .or a b, ρ => match evT Φ a ρ with
    | some true => some true
    | some false => evT Φ b ρ
    | none => none
  | .isInt e, ρ => match evE Φ e ρ with
    | some (.int _, _) => some true
    | _ => none
  | .val e, ρ => match evE Φ e ρ with
    | some (.bool b, _) => some b
    | _ => none
end

noncomputable def dm : Option Slot → Option Slot
  | some ⟨_, d⟩ => some ⟨false, d⟩
  | none => none
noncomputable def demote : Nat → Rho → Rho
  | _, [] => []
  | 0, o :: r => dm o :: r
  | x + 1, o :: r => o :: demote x r
noncomputable def demoteAll (ρ : Rho) : Rho := ρ.map dm
theorem demote_nil (x : Nat) : demote x [] = [] := by cases x <;> rfl
theorem demote_zero (o : Option Slot) (r : Rho) : demote 0 (o :: r) = dm o :: r := rfl
theorem demote_succ (x : Nat) (o : Option Slot) (r : Rho) : demote (x + 1) (o :: r) = o :: demote x r := rfl
theorem dm_some (s : Slot) : dm (some s) = some ⟨false, s.d⟩ := rfl
theorem demoteAll_eq (ρ : Rho) : demoteAll ρ = ρ.map dm := rfl
theorem demote_at : ∀ (x : Nat) (ρ : Rho) (s : Slot), ρ[x]? = some (some s) → demote x ρ = ρ.set x (some ⟨false, s.d⟩)
  | _, [], _, h => by cases h
  | 0, o :: r, s, h => by cases h; rfl
  | x + 1, o :: r, s, h => congrArg (o :: ·) (demote_at x r s h)
theorem demote_off : ∀ (x : Nat) (ρ : Rho), (∀ s, ρ[x]? ≠ some (some s)) → demote x ρ = ρ
  | x, [], _ => by cases x <;> rfl
  | 0, none :: r, h => rfl
  | 0, some s :: r, h => absurd rfl (h s)
  | x + 1, o :: r, h => congrArg (o :: ·) (demote_off x r h)
theorem demote_own : ∀ (x : Nat) (ρ : Rho) (s : Slot), (demote x ρ)[x]? = some (some s) → s.own = false
  | x, [], _, h => by rw [demote_nil] at h; cases h
  | 0, none :: r, s, h => by cases h
  | 0, some t :: r, s, h => by cases h; rfl
  | x + 1, o :: r, s, h => demote_own x r s h

noncomputable def loopM (f : D → Rho → Option Out) : List D → Rho → Option Out
  | [], ρ => some (.next ρ)
  | d :: ds, ρ => match f d ρ with
    | some (.next ρ') => loopM f ds ρ'
    | some (.cont ρ') => loopM f ds ρ'
    | some (.brk ρ') => some (.next ρ')
    | some (.ret d m) => some (.ret d m)
    | none => none
noncomputable def whileM (f : Rho → Option Out) : Nat → Rho → Option Out
  | 0, _ => none
  | n + 1, ρ => match f ρ with
    | some (.next ρ') => whileM f n ρ'
    | some (.cont ρ') => whileM f n ρ'
    | some (.brk ρ') => some (.next ρ')
    | some (.ret d m) => some (.ret d m)
    | none => none

noncomputable def bindSlot (o : Bool) (x : Nat) (r : D × Mode) (ρ : Rho) : Option Out := match r.2 with
  | .borrow => none
  | .shared => some (.next (ρ.set x (some ⟨false, r.1⟩)))
  | .fresh => some (.next (ρ.set x (some ⟨o && isList r.1, r.1⟩)))

noncomputable def putAt (i : Int) (r : D × Mode) : List D → Option (List D) := fun ds =>
  if r.2 = .fresh ∧ 0 ≤ i ∧ i < ds.length ∧ ds.length ≤ lim then some (ds.set i.toNat r.1) else none

mutual
noncomputable def exS (Φ : Str → List D → Option (D × Bool)) (N : Nat) : MS → Rho → Option Out
  | .assign o x e, ρ => match evE Φ e (demote x ρ) with
    | some r => bindSlot o x r (demote x ρ)
    | none => none
  | .move x y, ρ => match (demote y ρ)[y]? with
    | some (some s) => some (.next ((demote y ρ).set x (some s)))
    | _ => none
  | .unpack2 x y e, ρ => match evE Φ e ρ with
    | some (.tuple [a, b], .fresh) => if x = y then none else some (.next ((ρ.set x (some ⟨false, a⟩)).set y (some ⟨false, b⟩)))
    | _ => none
  | .unpack3 x y z e, ρ => match evE Φ e ρ with
    | some (.tuple [a, b, c], .fresh) => if x = y ∨ y = z ∨ x = z then none else some (.next (((ρ.set x (some ⟨false, a⟩)).set y (some ⟨false, b⟩)).set z (some ⟨false, c⟩)))
    | _ => none
  | .setItem x i e, ρ => match evE Φ e ρ with
    | some r => match evE Φ i ρ with
      | some (.int k, _) => match ρ[x]? with
        | some (some ⟨true, .list ds⟩) => match putAt k r ds with
          | some ds' => some (.next (ρ.set x (some ⟨true, .list ds'⟩)))
          | none => none
        | _ => none
      | _ => none
    | none => none
  | .setItem2 x i j e, ρ => match evE Φ e ρ with
    | some r => match evE Φ i ρ with
      | some (.int k, _) => match evE Φ j ρ with
        | some (.int l, _) => match ρ[x]? with
          | some (some ⟨true, .list ds⟩) => if k < 0 ∨ (lim : Int) < k then none else match ds[k.toNat]? with
            | some (.list es) => if isList r.1 = true then none else match putAt l r es with
              | some es' => some (.next (ρ.set x (some ⟨true, .list (ds.set k.toNat (.list es'))⟩)))
              | none => none
            | _ => none
          | _ => none
        | _ => none
      | _ => none
    | none => none
  | .swap x i j e1 e2, ρ => match evE Φ e1 ρ with
    | some (.int a, _) => match evE Φ e2 ρ with
      | some (.int b, _) => match evE Φ i ρ with
        | some (.int k, _) => match ρ[x]? with
          | some (some ⟨true, .list ds⟩) => match putAt k (.int a, .fresh) ds with
            | some ds' => match evE Φ j (ρ.set x (some ⟨true, .list ds'⟩)) with
              | some (.int l, _) => match putAt l (.int b, .fresh) ds' with
                | some ds'' => some (.next ((ρ.set x (some ⟨true, .list ds'⟩)).set x (some ⟨true, .list ds''⟩)))
                | none => none
              | _ => none
            | none => none
          | _ => none
        | _ => none
      | _ => none
    | _ => none
  | .append x e, ρ => match evE Φ e ρ with
    | some (d, .fresh) => match ρ[x]? with
      | some (some ⟨true, .list ds⟩) => if ds.length < lim then some (.next (ρ.set x (some ⟨true, .list (ds ++ [d])⟩))) else none
      | _ => none
    | _ => none
  | .ite t a b, ρ => match evT Φ t ρ with
    | some true => exSs Φ N a ρ
    | some false => exSs Φ N b ρ
    | none => none
  | .forS x it b, ρ => match evI Φ it ρ with
    | some ds => loopM (fun d ρ => exSs Φ N b (ρ.set x (some ⟨false, d⟩))) ds (demote x ρ)
    | none => none
  | .whileT b, ρ => whileM (fun ρ => exSs Φ N b ρ) N ρ
  | .ret e, ρ => match evE Φ e (demoteAll ρ) with
    | some (d, m) => if m = .borrow then none else some (.ret d (m == .fresh))
    | none => none
  | .retVar x, ρ => match ρ[x]? with
    | some (some s) => some (.ret s.d s.own)
    | _ => none
  | .brk, ρ => some (.brk ρ)
  | .cont, ρ => some (.cont ρ)
  | .fail, _ => none
noncomputable def exSs (Φ : Str → List D → Option (D × Bool)) (N : Nat) : List MS → Rho → Option Out
  | [], ρ => some (.next ρ)
  | s :: r, ρ => match exS Φ N s ρ with
    | some (.next ρ') => exSs Φ N r ρ'
    | o => o
end



noncomputable def NoE : Value → Shared → Prop := fun _ _ => False
theorem wpAny_noE {α : Type} {M : Model} {A : Around} {t : Sem α} {Q : α → Shared → Prop} {E : Value → Shared → Prop} {s : Shared} (h : wpAny M A t Q NoE s) : wpAny M A t Q E s :=
  wpAny_mono h (fun _ _ x => x) fun _ _ x => x.elim

structure Room (A : Around) (k : Nat) : Prop where
  hd : A.handled = none
  dp : A.depth + k + 4 < recursionLimit
  un : A.units + 8 * k + 200 < cLine

noncomputable def biTable : List (Str × Value) := [("len", .builtin "len"), ("range", .type "range"), ("abs", .builtin "abs"), ("str", .type "str"), ("sum", .builtin "sum"), ("sorted", .builtin "sorted"), ("list", .type "list"), ("type", .type "type"), ("int", .type "int")]

structure Wd (h₀ : Heap) (mg mb : Str → Option Value) : Prop where
  g : h₀.Ns mainGlobals mg
  b : h₀.Ns builtinsNs mb
  nl : h₀.NoLimit
  bi : ∀ p ∈ biTable, mg p.1 = none ∧ mb p.1 = some p.2

/-- what a call hands back -/
noncomputable def RetRep (X : Addr → Prop) (hb h' : Heap) (v : Value) (d : D) (fr : Bool) : Prop :=
  match fr with
  | true => ∃ g : List Addr, g.Nodup ∧ (∀ a ∈ g, hb.get? a = none) ∧ OwnT (fun a => X a ∨ a ∈ g) h' v d g
  | false => Rep X h' v d

noncomputable def CallOK (prog : Program) (w : World) (h₀ : Heap) (mg : Str → Option Value) (k : Nat) (f : Str) (ds : List D) (d : D) (fr : Bool) : Prop :=
  ∃ fa o fd, mg f = some (.ref fa) ∧ h₀.get? fa = some o ∧ o.data = .func fd ∧
    ∀ (A : Around) (s : Shared) (X : Addr → Prop) (vs : List Value) (Q : Value → Shared → Prop), Room A k → Ext h₀ s.heap → (∀ a, X a → ∃ o, s.heap.get? a = some o) → Reps X s.heap vs ds →
      (∀ v h' tk, Ext s.heap h' → RetRep X s.heap h' v d fr → Q v { s with heap := h', toks := tk }) → wpAny (model prog w) A (call (.ref fa) vs) Q NoE s

noncomputable abbrev Tab := Str → List D → Option (D × Bool)
noncomputable def TabOK (prog : Program) (w : World) (h₀ : Heap) (mg : Str → Option Value) (k : Nat) (Φ : Tab) : Prop :=
  ∀ f ds d fr, Φ f ds = some (d, fr) → CallOK prog w h₀ mg k f ds d fr

structure EnvOK (env : Env) (sc : Scope) : Prop where
  kind : env.scope.kind = .function
  glo : env.globals = mainGlobals
  bui : env.builtins = builtinsNs
  glob : ∀ x, sc.names.lookup x = some .globalImplicit → env.kindOf x = some .globalImplicit
  celly : ∀ x, sc.names.lookup x = some .cell ∨ sc.names.lookup x = some .free → env.kindOf x = some .cell ∨ env.kindOf x = some .free

/-- the names of a frame and what they hold -/
structure Fm (env : Env) (h : Heap) (m : Str → Option Value) : Prop where
  loc : ∃ ml, h.Ns env.locals ml ∧ ∀ x, env.kindOf x = some .local → ml x = m x
  cel : ∀ x, env.kindOf x = some .cell ∨ env.kindOf x = some .free → ∃ c, env.cells.lookup x = some c ∧ h.IsCell c (m x)
  inj : ∀ x y c, env.cells.lookup x = some c → env.cells.lookup y = some c → x = y

theorem Fm.ext {env : Env} {h h' : Heap} {m : Str → Option Value} (F : Fm env h m) (x : Ext h h') : Fm env h' m where
  loc := let ⟨ml, h1, h2⟩ := F.loc; ⟨ml, h1.keeps x, h2⟩
  cel := fun y hy => let ⟨c, h1, h2⟩ := F.cel y hy; ⟨c, h1, h2.keeps x⟩
  inj := F.inj

noncomputable def Ys (Xc : Addr → Prop) (fp : Nat → List Addr) : Addr → Prop := fun a => Xc a ∨ ∃ i, a ∈ fp i

structure Frame (names : List (Option Str)) (env : Env) (hb h : Heap) (Xc : Addr → Prop) (fp : Nat → List Addr) (ρ : Rho) : Prop where
  len : names.length = ρ.length
  fm : ∃ m, Fm env h m ∧ ∀ (i : Nat) (x : Str) (s : Slot), names[i]? = some (some x) → ρ[i]? = some (some s) → ∃ v, m x = some v ∧ (s.own = true → OwnT (Ys Xc fp) h v s.d (fp i)) ∧ (s.own = false → Rep (Ys Xc fp) h v s.d)
  kinds : ∀ (i : Nat) (x : Str), names[i]? = some (some x) → env.kindOf x = some .local ∨ env.kindOf x = some .cell ∨ env.kindOf x = some .free
  uniq : ∀ (i j : Nat) (x : Str), names[i]? = some (some x) → names[j]? = some (some x) → i = j
  good : ∀ (i : Nat) (x : Str), names[i]? = some (some x) → (x == ("__debug__" : Str)) = false ∧ (x == ("__classdict__" : Str)) = false
  nod : ∀ i, (fp i).Nodup
  dis : ∀ i j a, a ∈ fp i → a ∈ fp j → i = j
  offX : ∀ i a, a ∈ fp i → ¬ Xc a
  aliveX : ∀ a, Xc a → ∃ o, h.get? a = some o
  aliveF : ∀ i a, a ∈ fp i → ∃ vs n, IsL h a vs n
  base : Ext hb h
  Ld : hb.get? env.locals = none
  Cd : ∀ x c, env.cells.lookup x = some c → hb.get? c = none
  Fd : ∀ i a, a ∈ fp i → hb.get? a = none

theorem Frame.ext {names : List (Option Str)} {env : Env} {hb h h' : Heap} {Xc : Addr → Prop} {fp : Nat → List Addr} {ρ : Rho} (F : Frame names env hb h Xc fp ρ) (x : Ext h h') : Frame names env hb h' Xc fp ρ :=
  { F with
    fm := let ⟨m, h1, h2⟩ := F.fm; ⟨m, h1.ext x, fun i n s e1 e2 => let ⟨v, a, b, c⟩ := h2 i n s e1 e2; ⟨v, a, fun e => (b e).ext x, fun e => (c e).ext x⟩⟩
    aliveX := fun a e => let ⟨o, h1⟩ := F.aliveX a e; ⟨o, x _ _ h1⟩
    aliveF := fun i a e => let ⟨o, n, h1⟩ := F.aliveF i a e; ⟨o, n, x _ _ h1⟩
    base := F.base.trans x }

/-- more addresses may be shut out as long as they are new -/
theorem Frame.shut {names : List (Option Str)} {env : Env} {hb h h' : Heap} {Xc Xc' : Addr → Prop} {fp : Nat → List Addr} {ρ : Rho} (F : Frame names env hb h Xc fp ρ) (x : Ext h h')
    (hX : ∀ a, Xc' a → Xc a ∨ h.get? a = none) (hal : ∀ a, Xc' a → ∃ o, h'.get? a = some o) : Frame names env hb h' Xc' fp ρ := by
  have hY : ∀ a, Ys Xc' fp a → Ys Xc fp a ∨ h.get? a = none := fun a e => e.elim (fun e => (hX a e).imp .inl id) fun e => .inl (.inr e)
  exact { F with
    fm := let ⟨m, h1, h2⟩ := F.fm; ⟨m, h1.ext x, fun i n s e1 e2 => let ⟨v, a, b, c⟩ := h2 i n s e1 e2; ⟨v, a, fun e => ((b e).more hY).ext x, fun e => ((c e).more hY).ext x⟩⟩
    offX := fun i a ha hx => (hX a hx).elim (F.offX i a ha) fun e => by obtain ⟨_, _, h1⟩ := F.aliveF i a ha; rw [IsL, e] at h1; cases h1
    aliveX := hal
    aliveF := fun i a e => let ⟨o, n, h1⟩ := F.aliveF i a e; ⟨o, n, x _ _ h1⟩
    base := F.base.trans x }

noncomputable def Res (m : Mode) (Xc : Addr → Prop) (fp : Nat → List Addr) (hs h' : Heap) (v : Value) (d : D) : Prop :=
  match m with
  | .borrow => Rep Xc h' v d
  | .shared => Rep (Ys Xc fp) h' v d
  | .fresh => ∃ g : List Addr, g.Nodup ∧ (∀ a ∈ g, hs.get? a = none) ∧ OwnT (fun a => Ys Xc fp a ∨ a ∈ g) h' v d g

section
variable {Xc : Addr → Prop} {fp : Nat → List Addr} {hs h' : Heap} {v : Value} {d : D} {m : Mode}
theorem Res.atom (r : Rep (fun _ => False) h' v d) (ha : isAtom d = true) : Res .fresh Xc fp hs h' v d :=
  ⟨[], .nil, by simp, .leaf (by cases d <;> first | rfl | cases ha) (r.atom ha)⟩
theorem Res.int (i : Int) (t : Tok) : Res .fresh Xc fp hs h' (.int i t) (.int i) := .atom (.int i t) rfl
theorem Res.shared_of_fresh (hX : ∀ a, Ys Xc fp a → ∃ o, hs.get? a = some o) (r : Res .fresh Xc fp hs h' v d) : Rep (Ys Xc fp) h' v d := by
  obtain ⟨g, _, hd, ho⟩ := r
  refine ho.rep (fun a e => .inl e) fun a ha hy => ?_
  obtain ⟨o, e⟩ := hX a hy
  rw [hd a ha] at e; cases e
theorem Res.shared (hX : ∀ a, Ys Xc fp a → ∃ o, hs.get? a = some o) (r : Res m Xc fp hs h' v d) (hm : m ≠ .borrow) : Rep (Ys Xc fp) h' v d := by
  cases m with
  | borrow => exact absurd rfl hm
  | shared => exact r
  | fresh => exact Res.shared_of_fresh hX r
theorem Res.borrow (hX : ∀ a, Ys Xc fp a → ∃ o, hs.get? a = some o) (r : Res m Xc fp hs h' v d) : Rep Xc h' v d := by
  cases m with
  | borrow => exact r
  | shared => exact Rep.sub (fun a e => .inl e) r
  | fresh => exact Rep.sub (fun a e => .inl e) (Res.shared_of_fresh hX r)
/-- a new list of things without lists -/
theorem Res.newFlat {a : Addr} {vs : List Value} {n : Nat} {ds : List D} (hl : IsL h' a vs.toArray n) (hr : Reps (Ys Xc fp) hs vs ds) (hx : Ext hs h') (hd : hs.get? a = none) (hX : ∀ a, Ys Xc fp a → ∃ o, hs.get? a = some o) (hf : ds.all (fun d => !isList d) = true) :
    Res .fresh Xc fp hs h' (.ref a) (.list ds) := by
  refine ⟨[a], by simp, by simpa using hd, ?_⟩
  have h1 : Reps (fun b => Ys Xc fp b ∨ b ∈ [a]) h' vs ds := (hr.more (fun b e => e.elim .inl fun e => .inr (by simp at e; subst e; exact hd))).ext hx
  exact .list hl (ownTs_of_reps h1 fun d hd => by simpa using List.all_eq_true.mp hf d hd)
theorem Res.newList {a : Addr} {vs : List Value} {n : Nat} {ds : List D} (hl : IsL h' a vs.toArray n) (hr : Reps (Ys Xc fp) hs vs ds) (hx : Ext hs h') (hd : hs.get? a = none) (hX : ∀ a, Ys Xc fp a → ∃ o, hs.get? a = some o) :
    Rep (Ys Xc fp) h' (.ref a) (.list ds) :=
  .list (fun e => by obtain ⟨o, e'⟩ := hX a e; rw [hd] at e'; cases e') hl (hr.ext hx)
theorem Res.newTuple {a : Addr} {vs : List Value} {n : Nat} {ds : List D} (hl : IsT h' a vs.toArray n) (hr : Reps (Ys Xc fp) hs vs ds) (hx : Ext hs h') (hd : hs.get? a = none) (hX : ∀ a, Ys Xc fp a → ∃ o, hs.get? a = some o) :
    Rep (Ys Xc fp) h' (.ref a) (.tuple ds) :=
  .tuple (fun e => by obtain ⟨o, e'⟩ := hX a e; rw [hd] at e'; cases e') hl (hr.ext hx)
theorem Res.of_shared (r : Rep (Ys Xc fp) h' v d) (hn : isList d = false) : Res .fresh Xc fp hs h' v d :=
  ⟨[], .nil, by simp, .leaf hn (r.sub fun a e => by simpa using e)⟩
theorem Res.norm (r : Res m Xc fp hs h' v d) : Res (norm d m) Xc fp hs h' v d := by
  unfold Mine.norm
  by_cases ha : isAtom d = true
  · rw [if_pos ha]
    cases m with
    | borrow => exact .atom (Rep.atom r ha) ha
    | shared => exact .atom (Rep.atom r ha) ha
    | fresh => exact r
  · rw [if_neg ha]
    split
    · rename_i hc; obtain ⟨rfl, hc⟩ := hc
      exact Res.of_shared r hc
    · exact r
/-- later heaps -/
theorem Res.ext {h'' : Heap} (x : Ext h' h'') (r : Res m Xc fp hs h' v d) : Res m Xc fp hs h'' v d := by
  cases m with
  | borrow => exact Rep.ext x r
  | shared => exact Rep.ext x r
  | fresh => obtain ⟨g, a, b, c⟩ := r; exact ⟨g, a, b, c.ext x⟩
/-- an earlier start -/
theorem Res.start {hs' : Heap} (x : Ext hs' hs) (r : Res m Xc fp hs h' v d) : Res m Xc fp hs' h' v d := by
  cases m with
  | borrow => exact r
  | shared => exact r
  | fresh => obtain ⟨g, a, b, c⟩ := r; exact ⟨g, a, fun y hy => x.dead (b y hy), c⟩
end

theorem Frame.aliveY {names : List (Option Str)} {env : Env} {hb h : Heap} {Xc : Addr → Prop} {fp : Nat → List Addr} {ρ : Rho} (F : Frame names env hb h Xc fp ρ) : ∀ a, Ys Xc fp a → ∃ o, h.get? a = some o :=
  fun a e => e.elim (F.aliveX a) fun ⟨i, hi⟩ => let ⟨_, _, e⟩ := F.aliveF i a hi; ⟨_, e⟩



noncomputable def EvOK (prog : Program) (w : World) (h₀ : Heap) (k : Nat) (Φ : Tab) (names : List (Option Str)) (sc : Scope) (e : Expr) (me : ME) : Prop :=
  ∀ (A : Around) (env : Env) (s : Shared) (hb : Heap) (Xc : Addr → Prop) (fp : Nat → List Addr) (ρ : Rho) (d : D) (m : Mode),
    Room A k → EnvOK env sc → Ext h₀ s.heap → Frame names env hb s.heap Xc fp ρ → evE Φ me ρ = some (d, m) →
    ∀ Q : Value → Shared → Prop, (∀ v h' tk, Ext s.heap h' → Res m Xc fp s.heap h' v d → Q v { s with heap := h', toks := tk }) → wpAny (model prog w) A (eval e env) Q NoE s

noncomputable def EtOK (prog : Program) (w : World) (h₀ : Heap) (k : Nat) (Φ : Tab) (names : List (Option Str)) (sc : Scope) (e : Expr) (mt : MT) : Prop :=
  ∀ (A : Around) (env : Env) (s : Shared) (hb : Heap) (Xc : Addr → Prop) (fp : Nat → List Addr) (ρ : Rho) (b : Bool),
    Room A k → EnvOK env sc → Ext h₀ s.heap → Frame names env hb s.heap Xc fp ρ → evT Φ mt ρ = some b →
    ∀ Q : Bool → Shared → Prop, (∀ h' tk, Ext s.heap h' → Q b { s with heap := h', toks := tk }) → wpAny (model prog w) A (isTrue e env (eval e env)) Q NoE s

-- values and what they hold
mutual
inductive Items (Xc Y : Addr → Prop) (h : Heap) : List Value → List (D × Mode) → List Addr → Prop
  | nil : Items Xc Y h [] [] []
  | fresh {v : Value} {d : D} {f : List Addr} {vs : List Value} {rs : List (D × Mode)} {g : List Addr} : OwnT Y h v d f → Items Xc Y h vs rs g → Items Xc Y h (v :: vs) ((d, .fresh) :: rs) (f ++ g)
  | shared {v : Value} {d : D} {vs : List Value} {rs : List (D × Mode)} {g : List Addr} : Rep Y h v d → Items Xc Y h vs rs g → Items Xc Y h (v :: vs) ((d, .shared) :: rs) g
  | borrow {v : Value} {d : D} {vs : List Value} {rs : List (D × Mode)} {g : List Addr} : Rep Xc h v d → Items Xc Y h vs rs g → Items Xc Y h (v :: vs) ((d, .borrow) :: rs) g
end

noncomputable def EsOK (prog : Program) (w : World) (h₀ : Heap) (k : Nat) (Φ : Tab) (names : List (Option Str)) (sc : Scope) (es : List Expr) (mes : MEs) : Prop :=
  ∀ (A : Around) (env : Env) (s : Shared) (hb : Heap) (Xc : Addr → Prop) (fp : Nat → List Addr) (ρ : Rho) (rs : List (D × Mode)) (pos : Pos),
    Room A k → EnvOK env sc → Ext h₀ s.heap → Frame names env hb s.heap Xc fp ρ → evEs Φ mes ρ = some rs →
    ∀ Q : List Value → Shared → Prop, (∀ vs h' tk g, Ext s.heap h' → g.Nodup → (∀ a ∈ g, s.heap.get? a = none) → Items Xc (fun a => Ys Xc fp a ∨ a ∈ g) h' vs rs g → Q vs { s with heap := h', toks := tk }) →
      wpAny (model prog w) A (spliced (backTo pos (starEach es env))) Q NoE s

noncomputable def EiOK (prog : Program) (w : World) (h₀ : Heap) (k : Nat) (Φ : Tab) (names : List (Option Str)) (sc : Scope) (e : Expr) (mi : MI) : Prop :=
  ∀ (A : Around) (env : Env) (s : Shared) (hb : Heap) (Xc : Addr → Prop) (fp : Nat → List Addr) (ρ : Rho) (ds : List D),
    Room A k → EnvOK env sc → Ext h₀ s.heap → Frame names env hb s.heap Xc fp ρ → evI Φ mi ρ = some ds →
    ∀ Q : Value → Shared → Prop,
      (∀ (I : Addr) (h' : Heap) (tk : Nat) (fpI : List Addr) (P : Nat → Value → Prop) (St : Nat → Heap → Prop), Ext s.heap h' → s.heap.get? I = none → (∀ i h, St i h → ∃ o vs, h.get? I = some o ∧ o.data = .fields vs) →
        Walks prog w A I fpI [I] ds.length P St → St 0 h' → (∀ b ∈ fpI, b = I ∨ ((∃ vs n, IsL h' b vs n) ∧ ¬ Ys Xc fp b)) → ds.length ≤ lim →
        (∀ (i : Nat) (v : Value) (d : D), ds[i]? = some d → P i v → Rep (Ys Xc fp) h' v d) → Q (.ref I) { s with heap := h', toks := tk }) →
      wpAny (model prog w) A (eval e env) (fun x s₁ => wpAny (model prog w) A (pyIter x) Q NoE s₁) NoE s

theorem OwnT.rep0 {Y : Addr → Prop} {h : Heap} {v : Value} {d : D} {f : List Addr} (o : OwnT Y h v d f) : Rep (fun _ => False) h v d := o.rep (fun _ e => e.elim) fun _ _ e => e
theorem Res.rep0 {m : Mode} {Xc : Addr → Prop} {fp : Nat → List Addr} {hs h' : Heap} {v : Value} {d : D} (r : Res m Xc fp hs h' v d) : Rep (fun _ => False) h' v d := by
  cases m with
  | borrow => exact Rep.sub (fun _ e => e.elim) r
  | shared => exact Rep.sub (fun _ e => e.elim) r
  | fresh => obtain ⟨g, _, _, o⟩ := r; exact o.rep0
theorem Rep.int_inv {X : Addr → Prop} {h : Heap} {v : Value} {i : Int} (r : Rep X h v (.int i)) : ∃ t, v = .int i t := by cases r; exact ⟨_, rfl⟩
theorem Rep.bool_inv {X : Addr → Prop} {h : Heap} {v : Value} {i : Bool} (r : Rep X h v (.bool i)) : v = .bool i := by cases r; rfl
theorem Rep.str_inv {X : Addr → Prop} {h : Heap} {v : Value} {i : Str} (r : Rep X h v (.str i)) : ∃ t, v = .str i t := by cases r; exact ⟨_, rfl⟩
theorem Rep.list_inv {X : Addr → Prop} {h : Heap} {v : Value} {ds : List D} (r : Rep X h v (.list ds)) : ∃ a vs n, v = .ref a ∧ ¬ X a ∧ IsL h a vs.toArray n ∧ Reps X h vs ds := by cases r; exact ⟨_, _, _, rfl, by assumption, by assumption, by assumption⟩
theorem Rep.tuple_inv {X : Addr → Prop} {h : Heap} {v : Value} {ds : List D} (r : Rep X h v (.tuple ds)) : ∃ a vs n, v = .ref a ∧ ¬ X a ∧ IsT h a vs.toArray n ∧ Reps X h vs ds := by cases r; exact ⟨_, _, _, rfl, by assumption, by assumption, by assumption⟩
theorem isList_of_isL {h : Heap} {a : Addr} {vs : Array Value} {n : Nat} (e : IsL h a vs n) : h.IsList a vs := ⟨_, e, rfl, _, rfl⟩

section
variable {prog : Program} {w : World} {h₀ : Heap} {mg mb : Str → Option Value} {k : Nat} {Φ : Tab} {names : List (Option Str)} {sc : Scope}

theorem ev_int (i : Int) (j : Nat) (p : Pos) : EvOK prog w h₀ k Φ names sc (.Constant (.int i) j p) (.int i) := by
  intro A env s hb Xc fp ρ d m R EO X F he Q hQ
  simp only [evE, Option.some.injEq, Prod.mk.injEq] at he
  obtain ⟨rfl, rfl⟩ := he
  exact wpAny_Constant_int (hQ _ s.heap _ (Ext.refl _) (Res.int _ _))
theorem ev_str (x : Str) (j : Nat) (p : Pos) : EvOK prog w h₀ k Φ names sc (.Constant (.str x) j p) (.str x) := by
  intro A env s hb Xc fp ρ d m R EO X F he Q hQ
  simp only [evE, Option.some.injEq, Prod.mk.injEq] at he
  obtain ⟨rfl, rfl⟩ := he
  exact wpAny_Constant_str (hQ _ s.heap _ (Ext.refl _) (.atom (.str _ _) rfl))
theorem ev_bool (b : Bool) (j : Nat) (p : Pos) : EvOK prog w h₀ k Φ names sc (.Constant (.bool b) j p) (.bool b) := by
  intro A env s hb Xc fp ρ d m R EO X F he Q hQ
  simp only [evE, Option.some.injEq, Prod.mk.injEq] at he
  obtain ⟨rfl, rfl⟩ := he
  exact wpAny_Constant_bool (hQ _ s.heap s.toks (Ext.refl _) (.atom (.bool _) rfl))

theorem load_var {A : Around} {env : Env} {s : Shared} {m : Str → Option Value} {x : Str} {v : Value} {Q : Value → Shared → Prop} {M : Model} {E : Value → Shared → Prop} (F : Fm env s.heap m) (hk : env.scope.kind = .function)
    (hx : env.kindOf x = some .local ∨ env.kindOf x = some .cell ∨ env.kindOf x = some .free) (hn : (x == ("__classdict__" : Str)) = false) (hm : m x = some v) (hQ : Q v s) : wpAny M A (loadName env x) Q E s := by
  rcases hx with hx | hx | hx
  · obtain ⟨ml, h1, h2⟩ := F.loc
    exact wpAny_loadName_local hk hx h1 ((h2 x hx).trans hm) hQ
  · obtain ⟨c, h1, h2⟩ := F.cel x (.inl hx)
    exact wpAny_loadName_cell hk hx h1 (hm ▸ h2) hQ
  · obtain ⟨c, h1, h2⟩ := F.cel x (.inr hx)
    exact wpAny_loadName_free hk hx h1 (hm ▸ h2) hQ hn

theorem varRes {Xc : Addr → Prop} {fp : Nat → List Addr} {h : Heap} {v : Value} {s : Slot} {i : Nat} (hO : s.own = true → OwnT (Ys Xc fp) h v s.d (fp i)) (hS : s.own = false → Rep (Ys Xc fp) h v s.d) (hoff : ∀ a ∈ fp i, ¬ Xc a) :
    Res (varMode s) Xc fp h h v s.d := by
  unfold varMode
  by_cases ha : isAtom s.d = true
  · rw [if_pos ha]
    cases ho : s.own
    · exact .atom ((hS ho).sub fun _ e => e.elim) ha
    · exact .atom (hO ho).rep0 ha
  · rw [if_neg ha]
    cases ho : s.own
    · simp only [Bool.false_eq_true, if_false]
      split
      · exact hS ho
      · rename_i hl; exact .of_shared (hS ho) (by simpa using hl)
    · simp only [if_true]
      exact (hO ho).rep (fun a e => .inl e) hoff

theorem ev_var (x : Str) (p : Pos) (i : Nat) (hi : names[i]? = some (some x)) : EvOK prog w h₀ k Φ names sc (.Name x p) (.var i) := by
  intro A env s hb Xc fp ρ d m R EO X F he Q hQ
  simp only [evE] at he
  split at he <;> try contradiction
  rename_i sl hsl
  simp only [Option.some.injEq, Prod.mk.injEq] at he
  obtain ⟨rfl, rfl⟩ := he
  obtain ⟨mm, hm, hv⟩ := F.fm
  obtain ⟨v, h1, h2, h3⟩ := hv i x sl hi hsl
  refine wpAny_Name (load_var hm EO.kind (F.kinds i x hi) (F.good i x hi).2 h1 ?_) (F.good i x hi).1
  exact hQ v s.heap s.toks (Ext.refl _) (varRes h2 h3 (F.offX i))

theorem ev_neg {e : Expr} {me : ME} (p : Pos) (H : EvOK prog w h₀ k Φ names sc e me) : EvOK prog w h₀ k Φ names sc (.UnaryOp .USub e p) (.neg me) := by
  intro A env s hb Xc fp ρ d m R EO X F he Q hQ
  simp only [evE] at he
  split at he <;> try contradiction
  rename_i a ha
  obtain ⟨da, ma⟩ := a
  cases da <;> simp only [negD, Option.some.injEq, Prod.mk.injEq, reduceCtorEq] at he
  obtain ⟨rfl, rfl⟩ := he
  refine wpAny_UnaryOp (H A env s hb Xc fp ρ _ _ R EO X F ha _ fun v h1 t1 x1 r1 => ?_)
  obtain ⟨t, rfl⟩ := r1.rep0.int_inv
  exact PyProof.Rows.neg_int (hQ _ h1 _ x1 (Res.int _ _))
end


theorem mulOk {a b : Int} (ha : a.natAbs < Big) (hb : b.natAbs < Big) : IntMulOk a b := by
  have key : ∀ c : Int, c.natAbs < Big → Builtin.Int.intBits c ≤ 4097 := by
    intro c hc
    unfold Builtin.Int.intBits
    split
    · exact Nat.zero_le _
    · rename_i h0
      have h0' : c.natAbs ≠ 0 := by
        intro e; apply h0; simp; omega
      have : c.natAbs.log2 < 4096 := (Nat.log2_lt h0').mpr hc
      exact Nat.le_trans (by assumption) (by decide)
  have h1 := key a ha
  have h2 := key b hb
  unfold IntMulOk Builtin.Int.intTooBig
  have : ¬ (((Builtin.Int.intBits a + Builtin.Int.intBits b : Nat) : Int) > ((bitsLine : Nat) : Int)) := by
    have e : bitsLine = 134217728 := rfl
    rw [e]; omega
  simp only [Bool.and_eq_true, decide_eq_true_eq, not_and]
  intro _ h; apply this; simpa using h

theorem noPyl {a b : Int} (hb : b.natAbs < Big) : Builtin.divisionGoesByPylong a b = false := by
  refine PyProof.noPylong_of_log2 ?_
  by_cases h0 : b.natAbs = 0
  · rw [h0]; decide +kernel
  · have : b.natAbs.log2 < 4096 := (Nat.log2_lt h0).mpr hb
    exact Nat.le_trans (by assumption) (by decide)

theorem mul_one {prog : Program} {w : World} {A : Around} {E : Value → Shared → Prop} {s : Shared} {l : Addr} {v : Value} {n : Nat} {x : Int} {u : Tok} {Q : Value → Shared → Prop}
    (hl : IsL s.heap l [v].toArray n) (h0 : 0 ≤ x) (h1 : x ≤ 4096)
    (h : Q (.ref s.heap.objs.size) { s with heap := s.heap.push { cls := .type "list", data := .seq (List.replicate x.toNat v).toArray } }) :
    wpAny (model prog w) A (binaryOp .Mult (.ref l) (.int x u)) Q E s := by
  refine wpAny_binaryOp_repeat_ref (T := "list") (U := "int") (by decide) ⟨_, hl, rfl⟩ (fun s' => typeIs_int s' x u) noFill_list_mul F.fills_int_mul F.slot_int_rmul repeat_list F.slot_int_index.lookup ?_
  refine call_meets F.slot_int_rmul (typeIs_int s x u) F.entry_int_rmul (F.args_int_rmul_2 _ _) (int___rmul___int_list x u l [v].toArray n) ⟨hl, rfl, ⟨_, hl, rfl⟩, ?_⟩
  refine call_meets F.slot_list_mul ⟨_, hl, rfl⟩ F.entry_list_mul (F.args_list_mul_2 _ _)
    (AutoListH.list___mul___list_int_3 l [v].toArray n x u (by simp [Builtin.List.listFitsIndex]; omega) (by simp; omega) (by simp [Builtin.List.listTooLong, sizeLine]; omega)) ⟨hl, ?_⟩
  have e : ∀ (k : Nat) (acc : List Value), List.foldl (fun x1 x2 => x1 ++ x2) acc.toArray (List.replicate k [v].toArray) = (acc ++ List.replicate k v).toArray := by
    intro k
    induction k with
    | zero => intro acc; simp
    | succ k ih =>
      intro acc
      rw [List.replicate_succ, List.foldl_cons]
      have := ih (acc ++ [v])
      simp only [List.append_assoc, List.singleton_append] at this
      rw [List.replicate_succ]
      simpa using this
  have e2 := e x.toNat []
  simp only [List.nil_append] at e2
  have e3 : (if ([v].toArray).isEmpty = true then 0 else x.toNat) = x.toNat := by simp
  rw [e3, show (#[] : Array Value) = ([] : List Value).toArray from rfl, e2]
  exact h

section
variable {prog : Program} {w : World} {h₀ : Heap} {mg mb : Str → Option Value} {k : Nat} {Φ : Tab} {names : List (Option Str)} {sc : Scope}

noncomputable def opOf : BOp → Operator
  | .add => .Add | .sub => .Sub | .mul => .Mult | .fdiv => .FloorDiv | .mod => .Mod

theorem flat_res {Xc : Addr → Prop} {fp : Nat → List Addr} {hs h' : Heap} {a : Addr} {vs : List Value} {n : Nat} {ds : List D} (hl : IsL h' a vs.toArray n) (hr : Reps (Ys Xc fp) hs vs ds) (hx : Ext hs h') (hd : hs.get? a = none) (hX : ∀ a, Ys Xc fp a → ∃ o, hs.get? a = some o) (q : List D) (hq : q.all (fun d => !isList d) = true → ds.all (fun d => !isList d) = true) :
    Res (flatMode q) Xc fp hs h' (.ref a) (.list ds) := by
  unfold flatMode
  split
  · rename_i hf; exact .newFlat hl hr hx hd hX (hq hf)
  · exact Res.newList hl hr hx hd hX

theorem ite_some {α : Type} {c : Prop} [Decidable c] {x : Option α} {y : α} (h : (if c then x else none) = some y) : c ∧ x = some y := by
  by_cases e : c
  · rw [if_pos e] at h; exact ⟨e, h⟩
  · rw [if_neg e] at h; cases h
theorem ite_none {α : Type} {c : Prop} [Decidable c] {x : Option α} {y : α} (h : (if c then none else x) = some y) : ¬ c ∧ x = some y := by
  by_cases e : c
  · rw [if_pos e] at h; cases h
  · rw [if_neg e] at h; exact ⟨e, h⟩
theorem Res.of_eq {Xc : Addr → Prop} {fp : Nat → List Addr} {hs h' : Heap} {v : Value} {d0 d : D} {m0 m : Mode} (e : some (d0, m0) = some (d, m)) (r : Res m0 Xc fp hs h' v d0) : Res m Xc fp hs h' v d := by cases e; exact r
theorem bin_ints {A : Around} {s : Shared} {op : BOp} {x y : Int} {t u : Tok} {d : D} {m : Mode} {Q : Value → Shared → Prop} (he : binI op x y = some (d, m)) (hQ : ∀ (z : Int) (t : Tok), some (PyData.int z, Mode.fresh) = some (d, m) → Q (.int z t) { s with toks := s.toks + 1 }) : wpAny (model prog w) A (binaryOp (opOf op) (.int x t) (.int y u)) Q NoE s := by
  cases op with
  | add => exact PyProof.Rows.add_int (hQ _ _ he)
  | sub => exact PyProof.Rows.sub_int (hQ _ _ he)
  | mul => obtain ⟨hc, he⟩ := ite_some he; exact PyProof.Rows.mul_int (hQ _ _ he) (mulOk hc.1 hc.2)
  | fdiv => obtain ⟨hc, he⟩ := ite_none he; exact PyProof.Rows.floordiv_int (fun e => hc (.inl e)) (hQ _ _ he) (.inl (noPyl (Nat.lt_of_not_le fun e => hc (.inr e))))
  | mod => obtain ⟨hc, he⟩ := ite_none he; exact PyProof.Rows.mod_int' hc (hQ _ _ he)
theorem ev_bin {l r : Expr} {ml mr : ME} (op : BOp) (p : Pos) (H1 : EvOK prog w h₀ k Φ names sc l ml) (H2 : EvOK prog w h₀ k Φ names sc r mr) : EvOK prog w h₀ k Φ names sc (.BinOp l (opOf op) r p) (.bin op ml mr) := by
  intro A env s hb Xc fp ρ d m R EO X F he Q hQ
  simp only [evE] at he
  split at he <;> try contradiction
  rename_i a ha
  split at he <;> try contradiction
  rename_i b hb'
  refine wpAny_BinOp (H1 A env s hb Xc fp ρ _ _ R EO X F ha _ fun v1 h1 t1 x1 r1 => ?_)
  refine H2 A env { s with heap := h1, toks := t1 } hb Xc fp ρ _ _ R EO (X.trans x1) (F.ext x1) hb' _ fun v2 h2 t2 x2 r2 => ?_
  have x12 : Ext s.heap h2 := x1.trans x2
  have F2 := F.ext x12
  obtain ⟨da, ma⟩ := a
  obtain ⟨db, mb⟩ := b
  rcases binD_inv he with ⟨x, y, e1, e2, he⟩ | ⟨xs, e1, he⟩
  · cases e1; cases e2
    obtain ⟨t, rfl⟩ := r1.rep0.int_inv; obtain ⟨u, rfl⟩ := r2.rep0.int_inv
    exact bin_ints he fun z t' e => hQ _ h2 _ x12 (Res.of_eq e (Res.int _ _))
  · cases e1
    cases op with
    | add =>
      obtain ⟨ys, e2, he⟩ := Option.bind_eq_some_iff.mp he
      cases asList_inv e2
      obtain ⟨hc, he⟩ := ite_none he
      have q1 := (r1.shared F.aliveY fun e => hc (.inl e)).ext x2
      have q2 := r2.shared (F.ext x1).aliveY fun e => hc (.inr (.inl e))
      obtain ⟨a1, vs1, n1, rfl, _, l1, e1⟩ := q1.list_inv
      obtain ⟨a2, vs2, n2, rfl, _, l2, e2⟩ := q2.list_inv
      have hl : xs.length + ys.length ≤ 4096 := Nat.le_of_not_lt fun e => hc (.inr (.inr e))
      rw [← e1.length, ← e2.length] at hl
      refine PySem.P.add_list l1 l2 ?_ (Nat.le_trans hl (by decide))
      refine hQ _ _ t2 (x12.push _) ?_
      exact Res.of_eq he <| Res.start x12 (flat_res (vs := vs1 ++ vs2) (n := 0) (by rw [List.append_toArray]; exact Heap.get?_push_size _ rfl) (e1.append e2) ((Ext.refl _).push _) (dead_size (Ext.refl _)) F2.aliveY _ id)
    | mul =>
      obtain ⟨d0, e2, he⟩ := Option.bind_eq_some_iff.mp he
      cases asOne_inv e2
      obtain ⟨x, e2, he⟩ := Option.bind_eq_some_iff.mp he
      cases asInt_inv e2
      obtain ⟨hc, he⟩ := ite_none he
      have q1 := (r1.shared F.aliveY fun e => hc (.inl e)).ext x2
      obtain ⟨u, rfl⟩ := r2.rep0.int_inv
      obtain ⟨a1, vs1, n1, rfl, _, l1, e1⟩ := q1.list_inv
      cases e1 with
      | cons q e1 =>
        cases e1
        refine mul_one l1 (Int.not_lt.mp fun e => hc (.inr (.inl e))) (Int.le_trans (Int.not_lt.mp fun e => hc (.inr (.inr e))) (by decide)) ?_
        refine hQ _ _ t2 (x12.push _) ?_
        refine Res.of_eq he <| Res.start x12 (flat_res (vs := List.replicate x.toNat _) (n := 0) ?_ (Reps.replicate q _) ((Ext.refl _).push _) (dead_size (Ext.refl _)) F2.aliveY _ ?_)
        · exact Heap.get?_push_size _ rfl
        · intro h; simp at h ⊢; exact .inr h
    | sub => cases he
    | fdiv => cases he
    | mod => cases he

theorem tail_ok {A : Around} {s : Shared} {E : Value → Shared → Prop} {value slice : Expr} {o i : Value} {T id : String} {Q : Value → Shared → Prop} (hT : s.TypeIs o T)
    (hl : typeLookup (.type T) "__getitem__" = pure (some (.builtin id))) (h : wpAny (model prog w) A (getItem o i) Q E s) : wpAny (model prog w) A (PyProof.Rows.subscriptTail value slice o i) Q E s := by
  unfold PyProof.Rows.subscriptTail
  refine wpAny_bind ?_
  rw [getitemInPython_of_ne hT.not_modules]
  refine wpAny_bind (wpAny_specialOf hT hl ?_)
  have fin : wpAny (model prog w) A (subscripted slice false o i) (fun r s₃ => wpAny (model prog w) A (letTemporaryGo value o r >>= fun _ => pure r) Q E s₃) E s := by
    have h' : wpAny (model prog w) A (getItem o i) (fun r s₃ => wpAny (model prog w) A (letTemporaryGo value o r >>= fun _ => pure r) Q E s₃) E s :=
      wpAny_mono h (fun r s₃ h₃ => wpAny_bind (wpAny_letTemporaryGo (wpAny_pure h₃))) fun _ _ x => x
    cases slice
    case Slice lo hi st q => cases st <;> exact wpAny_operating h'
    all_goals exact wpAny_operating h'
  first
    | exact wpAny_pure (wpAny_bind fin)
    | exact wpAny_bind (wpAny_pure (wpAny_bind fin))
    | exact wpAny_bind fin

theorem ev_idx {l r : Expr} {ml mr : ME} (p : Pos) (H1 : EvOK prog w h₀ k Φ names sc l ml) (H2 : EvOK prog w h₀ k Φ names sc r mr) : EvOK prog w h₀ k Φ names sc (.Subscript l r p) (.idx ml mr) := by
  intro A env s hb Xc fp ρ d m R EO X F he Q hQ
  simp only [evE] at he
  split at he <;> try contradiction
  rename_i a ha
  split at he <;> try contradiction
  rename_i b hb'
  refine PyProof.Rows.Subscript_ (H1 A env s hb Xc fp ρ _ _ R EO X F ha _ fun v1 h1 t1 x1 r1 => ?_)
  refine H2 A env { s with heap := h1, toks := t1 } hb Xc fp ρ _ _ R EO (X.trans x1) (F.ext x1) hb' _ fun v2 h2 t2 x2 r2 => ?_
  have x12 : Ext s.heap h2 := x1.trans x2
  obtain ⟨c, mc⟩ := a
  obtain ⟨di, mi⟩ := b
  unfold idxD at he
  split at he <;> try contradiction
  rename_i c' m' i m'' heq1 heq2
  cases heq1; cases heq2
  split at he <;> try contradiction
  rename_i ds hds
  split at he <;> try contradiction
  rename_i hi
  simp only [not_or, Int.not_lt] at hi
  split at he <;> try contradiction
  rename_i d' hd'
  cases he
  obtain ⟨t, rfl⟩ := r2.rep0.int_inv
  have hi2 : i < 2 ^ 63 := by have := hi.2; simp only [lim] at this; omega
  -- the container as the mode says it
  have key : ∀ Z : Addr → Prop, Rep Z h2 v1 c → ∃ v, Rep Z h2 v d ∧ ∀ (P : Value → Shared → Prop), P v { s with heap := h2, toks := t2 } → wpAny (model prog w) A (PyProof.Rows.subscriptTail l r v1 (.int i t)) P NoE { s with heap := h2, toks := t2 } := by
    intro Z rz
    cases c with
    | list es =>
      cases hds
      obtain ⟨a1, vs1, n1, rfl, _, l1, e1⟩ := rz.list_inv
      obtain ⟨v, hv, rv⟩ := e1.get hd'
      refine ⟨v, rv, fun P hP => tail_ok ⟨_, l1, rfl⟩ slot_list_getitem.lookup (wpAny_getItem_list (isList_of_isL l1) hi.1 hi2 (by simpa using hv) hP)⟩
    | tuple es =>
      cases hds
      obtain ⟨a1, vs1, n1, rfl, _, l1, e1⟩ := rz.tuple_inv
      obtain ⟨v, hv, rv⟩ := e1.get hd'
      have hlt : i.toNat < vs1.length := (List.getElem?_eq_some_iff.mp hv).1
      refine ⟨v, rv, fun P hP => tail_ok ⟨_, l1, rfl⟩ PySem.F.slot_tuple_getitem.lookup (PySem.P.getItem_tuple l1 (by omega) hi2 (k := i.toNat) ?_ (by simpa using hv) hP)⟩
      unfold seqIndex?
      have h1 : ¬ i < 0 := by omega
      simp only [h1, if_false, List.size_toArray]
      rw [if_pos (by simp; omega)]
    | _ => cases hds
  cases mc with
  | borrow =>
    obtain ⟨v, rv, hP⟩ := key Xc (Rep.ext x2 r1)
    refine hP _ (hQ v h2 t2 x12 (Res.norm (m := .borrow) rv))
  | shared =>
    obtain ⟨v, rv, hP⟩ := key (Ys Xc fp) (Rep.ext x2 r1)
    refine hP _ (hQ v h2 t2 x12 (Res.norm (m := .shared) rv))
  | fresh =>
    obtain ⟨v, rv, hP⟩ := key (Ys Xc fp) ((r1.shared F.aliveY (by simp)).ext x2)
    refine hP _ (hQ v h2 t2 x12 (Res.norm (m := .shared) rv))
end


section
variable {prog : Program} {w : World} {h₀ : Heap} {mg mb : Str → Option Value} {k : Nat} {Φ : Tab} {names : List (Option Str)} {sc : Scope}

-- slices
theorem min_nn {i : Int} (n : Nat) (h : 0 ≤ i) : max 0 (min i (n : Int)) = ((min i.toNat n : Nat) : Int) := by
  obtain ⟨k, rfl⟩ := Int.eq_ofNat_of_zero_le h
  rw [Int.toNat_natCast]
  rcases Nat.le_total k n with e | e
  · rw [Nat.min_eq_left e, Int.min_eq_left (Int.ofNat_le.mpr e), Int.max_eq_right (Int.natCast_nonneg k)]
  · rw [Nat.min_eq_right e, Int.min_eq_right (Int.ofNat_le.mpr e), Int.max_eq_right (Int.natCast_nonneg n)]
theorem bounds_nn (lo hi : Option Int) (n : Nat) (hl : ∀ i ∈ lo, 0 ≤ i) (hh : ∀ i ∈ hi, 0 ≤ i) :
    sliceBounds lo hi none n = (((match lo with | some i => min i.toNat n | none => 0 : Nat) : Int), ((match hi with | some i => min i.toNat n | none => n : Nat) : Int), 1) := by
  unfold sliceBounds
  simp only [Option.getD_none, show (1 : Int) > 0 by decide, if_true]
  cases lo with
  | none => cases hi with
    | none => rfl
    | some j => have h2 := hh j rfl; simp only [Prod.mk.injEq, and_true]; refine ⟨rfl, ?_⟩; rw [if_neg (Int.not_lt.mpr h2)]; exact min_nn n h2
  | some i => have h1 := hl i rfl; cases hi with
    | none => simp only [Prod.mk.injEq, and_true]; rw [if_neg (Int.not_lt.mpr h1)]; exact min_nn n h1
    | some j => have h2 := hh j rfl; simp only [Prod.mk.injEq, and_true]; rw [if_neg (Int.not_lt.mpr h1), if_neg (Int.not_lt.mpr h2)]; exact ⟨min_nn n h1, min_nn n h2⟩

noncomputable def cutV {α : Type} (ds : List α) (lo hi : Option Int) : List α :=
  let t := match hi with | some j => ds.take j.toNat | none => ds
  match lo with | some i => t.drop i.toNat | none => t

theorem pick_nn (vs : List Value) (lo hi : Option Int) (hl : ∀ i ∈ lo, 0 ≤ i) (hh : ∀ i ∈ hi, 0 ≤ i) : slicePick vs.toArray lo hi none = (cutV vs lo hi).toArray := by
  unfold slicePick
  rw [bounds_nn lo hi _ hl hh]
  simp only [sliceRange_one, pick_run]
  congr 1
  apply List.ext_getElem?
  intro i
  unfold cutV
  cases lo with
  | none => cases hi with
    | none => simp
    | some j =>
      simp only [List.drop_zero, Nat.sub_zero, List.size_toArray, List.getElem?_take]
      by_cases h2 : i < vs.length
      · by_cases h1 : i < j.toNat
        · rw [if_pos (by omega), if_pos h1]
        · rw [if_neg (by omega), if_neg h1]
      · rw [List.getElem?_eq_none (by omega : vs.length ≤ i)]
        split <;> split <;> rfl
  | some a => cases hi with
    | none => simp only [List.size_toArray]; simp only [List.getElem?_take, List.getElem?_drop]; by_cases h2 : a.toNat + i < vs.length
              · rw [if_pos (by omega)]; congr 1; omega
              · rw [List.getElem?_eq_none (by omega : vs.length ≤ a.toNat + i)]; split <;> first | rfl | (apply List.getElem?_eq_none; omega)
    | some j =>
      simp only [List.size_toArray, List.getElem?_take, List.getElem?_drop]
      by_cases h2 : a.toNat + i < vs.length
      · by_cases h1 : a.toNat + i < j.toNat
        · rw [if_pos (by omega), if_pos h1]; congr 1; omega
        · rw [if_neg (by omega), if_neg h1]
      · rw [List.getElem?_eq_none (by omega : vs.length ≤ a.toNat + i)]
        split <;> split <;> first | rfl | (apply List.getElem?_eq_none; omega)

theorem Reps.cut {X : Addr → Prop} {h : Heap} {vs : List Value} {ds : List D} (r : Reps X h vs ds) (lo hi : Option Int) : Reps X h (cutV vs lo hi) (cutL ds lo hi) := by
  unfold cutV cutL
  cases lo <;> cases hi <;> simp only
  · exact r
  · exact r.take _
  · exact r.drop _
  · exact (r.take _).drop _

theorem cut_mem {ds : List D} {lo hi : Option Int} {d : D} (h : d ∈ cutL ds lo hi) : d ∈ ds := by
  unfold cutL at h
  cases lo <;> cases hi <;> simp only at h
  · exact h
  · exact List.mem_of_mem_take h
  · exact List.mem_of_mem_drop h
  · exact List.mem_of_mem_take (List.mem_of_mem_drop h)

noncomputable def EoOK (prog : Program) (w : World) (h₀ : Heap) (k : Nat) (Φ : Tab) (names : List (Option Str)) (sc : Scope) (e : Option Expr) (mo : MO) : Prop :=
  ∀ (A : Around) (env : Env) (s : Shared) (hb : Heap) (Xc : Addr → Prop) (fp : Nat → List Addr) (ρ : Rho) (i : Option Int),
    Room A k → EnvOK env sc → Ext h₀ s.heap → Frame names env hb s.heap Xc fp ρ → evO Φ mo ρ = some i →
    ∀ Q : Value → Shared → Prop, (∀ v h' tk, Ext s.heap h' → IsPart v i → (∀ j ∈ i, 0 ≤ j) → Q v { s with heap := h', toks := tk }) → wpAny (model prog w) A (evalPart e env) Q NoE s

theorem eo_none : EoOK prog w h₀ k Φ names sc none .none := by
  intro A env s hb Xc fp ρ i R EO X F he Q hQ
  simp only [evO, Option.some.injEq] at he; subst he
  rw [evalPart_none]
  exact wpAny_pure (hQ _ s.heap s.toks (Ext.refl _) .none (by simp))
theorem eo_some {e : Expr} {me : ME} (H : EvOK prog w h₀ k Φ names sc e me) : EoOK prog w h₀ k Φ names sc (some e) (.some me) := by
  intro A env s hb Xc fp ρ i R EO X F he Q hQ
  simp only [evO] at he
  split at he <;> try contradiction
  rename_i j hj
  cases he
  unfold boundD at hj
  split at hj <;> try contradiction
  rename_i i' m' hi'
  split at hj <;> try contradiction
  rename_i hb'
  cases hj
  show wpAny (model prog w) A (eval e env) Q NoE s
  refine H A env s hb Xc fp ρ _ _ R EO X F hi' _ fun v h1 t1 x1 r1 => ?_
  obtain ⟨t, rfl⟩ := r1.rep0.int_inv
  exact hQ _ h1 t1 x1 (.int _ _) (by intro j hj; simp at hj; omega)

theorem ev_slc {l : Expr} {ml : ME} {lo hi : Option Expr} {mlo mhi : MO} (p q : Pos) (H1 : EvOK prog w h₀ k Φ names sc l ml) (H2 : EoOK prog w h₀ k Φ names sc lo mlo) (H3 : EoOK prog w h₀ k Φ names sc hi mhi) :
    EvOK prog w h₀ k Φ names sc (.Subscript l (.Slice lo hi none q) p) (.slc ml mlo mhi) := by
  intro A env s hb Xc fp ρ d m R EO X F he Q hQ
  simp only [evE] at he
  split at he <;> try contradiction
  rename_i a ha
  split at he <;> try contradiction
  rename_i lo' hlo
  split at he <;> try contradiction
  rename_i hi' hhi
  refine PyProof.Rows.Subscript_ (H1 A env s hb Xc fp ρ _ _ R EO X F ha _ fun v1 h1 t1 x1 r1 => wpAny_Slice ?_)
  refine H2 A env { s with heap := h1, toks := t1 } hb Xc fp ρ _ R EO (X.trans x1) (F.ext x1) hlo _ fun v2 h2 t2 x2 p2 n2 => ?_
  refine H3 A env { s with heap := h2, toks := t2 } hb Xc fp ρ _ R EO ((X.trans x1).trans x2) ((F.ext x1).ext x2) hhi _ fun v3 h3 t3 x3 p3 n3 => ?_
  rw [evalPart_none]
  refine wpAny_pure ?_
  obtain ⟨c, mc⟩ := a
  unfold slcD at he
  split at he <;> try contradiction
  rename_i ds m' heq
  cases heq
  split at he <;> try contradiction
  rename_i hc
  simp only [not_or, Nat.not_lt] at hc
  cases he
  have x23 : Ext h1 h3 := x2.trans x3
  have x13 : Ext s.heap h3 := x1.trans x23
  obtain ⟨a1, vs1, n1, rfl, _, l1, e1⟩ := ((r1.shared F.aliveY hc.1).ext x23).list_inv
  have len1 := e1.length
  have y1 : Ext h3 (h3.push { cls := .type "slice", data := .fields #[v2, v3, .none] }) := (Ext.refl _).push _
  refine tail_ok ⟨_, y1 _ _ l1, rfl⟩ slot_list_getitem.lookup (wpAny_getItem_list_slice (isList_of_isL (y1 _ _ l1)) (Heap.IsSliceOf.new ..) p2 p3 .none (by simp) ?_ (by have := hc.2; simp only [List.size_toArray, sizeLine, lim] at *; omega))
  refine hQ _ _ t3 ((x13.trans y1).push _) ?_
  rw [pick_nn vs1 _ _ n2 n3]
  refine Res.start (x13.trans y1) (flat_res (vs := cutV vs1 lo' hi') (n := 0) ?_ ((e1.cut _ _).ext y1) ((Ext.refl _).push _) (dead_size (Ext.refl _)) (F.ext (x13.trans y1)).aliveY _ ?_)
  · exact Heap.get?_push_size _ rfl
  · intro h
    rw [List.all_eq_true] at h ⊢
    exact fun d hd => h d (cut_mem hd)

-- several expressions
theorem Items.mono {Xc Xc' Y Y' : Addr → Prop} {h : Heap} (h1 : ∀ a, Xc a → Xc' a) (h2 : ∀ a, Y a → Y' a) {vs : List Value} {rs : List (D × Mode)} {g : List Addr} (i : Items Xc' Y' h vs rs g) : Items Xc Y h vs rs g := by
  induction vs generalizing rs g with
  | nil => cases i; exact .nil
  | cons v vs ih =>
    cases i with
    | fresh a b => exact .fresh (a.more fun x e => .inl (h2 x e)) (ih b)
    | shared a b => exact .shared (a.sub h2) (ih b)
    | borrow a b => exact .borrow (a.sub h1) (ih b)
theorem Items.alive {Xc Y : Addr → Prop} {h : Heap} {vs : List Value} {rs : List (D × Mode)} {g : List Addr} (i : Items Xc Y h vs rs g) : ∀ a ∈ g, ∃ o, h.get? a = some o := by
  induction vs generalizing rs g with
  | nil => cases i; simp
  | cons v vs ih =>
    cases i with
    | fresh a b => intro x hx; rcases List.mem_append.mp hx with hx | hx; exact a.alive x hx; exact ih b x hx
    | shared a b => exact ih b
    | borrow a b => exact ih b

theorem es_nil : EsOK prog w h₀ k Φ names sc [] .nil := by
  intro A env s hb Xc fp ρ rs pos R EO X F he Q hQ
  simp only [evEs, Option.some.injEq] at he; subst he
  exact wpAny_items_nil (hQ [] s.heap s.toks [] (Ext.refl _) .nil (by simp) .nil)

noncomputable def notStar : Expr → Bool | .Starred .. => false | _ => true
theorem star_eq {e : Expr} (h : notStar e = true) (rest : List Expr) (env : Env) : starEach (e :: rest) env = (false, eval e env) :: starEach rest env := by
  cases e <;> first | rfl | cases h

theorem es_cons {e : Expr} {es : List Expr} {me : ME} {mes : MEs} (hn : notStar e = true) (H1 : EvOK prog w h₀ k Φ names sc e me) (H2 : EsOK prog w h₀ k Φ names sc es mes) : EsOK prog w h₀ k Φ names sc (e :: es) (.cons me mes) := by
  intro A env s hb Xc fp ρ rs pos R EO X F he Q hQ
  simp only [evEs] at he
  split at he <;> try contradiction
  rename_i a ha
  split at he <;> try contradiction
  rename_i rs' hrs
  cases he
  obtain ⟨d, m⟩ := a
  refine PyProof.Rows.args_cons (H1 A env s hb Xc fp ρ _ _ R EO X F ha _ fun v1 h1 t1 x1 r1 => ?_) (star_eq hn es env)
  cases m with
  | borrow =>
    refine H2 A env { s with heap := h1, toks := t1 } hb Xc fp ρ _ pos R EO (X.trans x1) (F.ext x1) hrs _ fun vs h2 t2 g x2 gn gd it => ?_
    exact hQ _ h2 t2 g (x1.trans x2) gn (fun a ha => x1.dead (gd a ha)) (.borrow (Rep.ext x2 r1) it)
  | shared =>
    refine H2 A env { s with heap := h1, toks := t1 } hb Xc fp ρ _ pos R EO (X.trans x1) (F.ext x1) hrs _ fun vs h2 t2 g x2 gn gd it => ?_
    refine hQ _ h2 t2 g (x1.trans x2) gn (fun a ha => x1.dead (gd a ha)) (.shared ?_ it)
    exact Rep.ext x2 (Rep.more (fun a e => e.elim .inl fun e => .inr (gd a e)) r1)
  | fresh =>
    obtain ⟨g1, gn1, gd1, o1⟩ := r1
    have F' : Frame names env hb h1 (fun a => Xc a ∨ a ∈ g1) fp ρ := F.shut x1 (fun a e => e.imp id (gd1 a)) (fun a e => e.elim (fun e => let ⟨o, q⟩ := F.aliveX a e; ⟨o, x1 _ _ q⟩) (o1.alive a))
    refine H2 A env { s with heap := h1, toks := t1 } hb _ fp ρ _ pos R EO (X.trans x1) F' hrs _ fun vs h2 t2 g x2 gn gd it => ?_
    refine hQ _ h2 t2 (g1 ++ g) (x1.trans x2) ?_ ?_ (.fresh ?_ (it.mono ?_ ?_))
    · refine List.nodup_append.mpr ⟨gn1, gn, fun a ha b hb e => ?_⟩
      subst e
      obtain ⟨o, q⟩ := o1.alive a ha
      have := gd a hb
      rw [this] at q; cases q
    · intro a ha
      rcases List.mem_append.mp ha with ha | ha
      · exact gd1 a ha
      · exact x1.dead (gd a ha)
    · exact (o1.more fun a e => e.elim (fun e => .inl (.inl e)) fun e => (List.mem_append.mp e).elim (fun e => .inl (.inr e)) fun e => .inr (gd a e)).ext x2
    · exact fun a e => .inl e
    · intro a e
      rcases e with (e | e) | e
      · exact .inl (.inl (.inl e))
      · exact .inl (.inr e)
      · rcases List.mem_append.mp e with e | e
        · exact .inl (.inl (.inr e))
        · exact .inr e

theorem Items.reps {Xc Y Z : Addr → Prop} {h : Heap} (hz : ∀ a, Z a → Y a) {vs : List Value} {rs : List (D × Mode)} {g : List Addr} (i : Items Xc Y h vs rs g) (ho : allOk rs = true) (hg : ∀ a ∈ g, ¬ Z a) : Reps Z h vs (rs.map (·.1)) := by
  induction vs generalizing rs g with
  | nil => cases i; exact .nil
  | cons v vs ih =>
    cases i with
    | fresh a b =>
      exact .cons (a.rep hz fun x hx => hg x (by simp [hx])) (ih b (by simpa [allOk] using ho) fun x hx => hg x (by simp [hx]))
    | shared a b => exact .cons (a.sub hz) (ih b (by simpa [allOk] using ho) hg)
    | borrow a b => simp [allOk] at ho
theorem Items.repsX {Xc Y : Addr → Prop} {h : Heap} (hz : ∀ a, Xc a → Y a) {vs : List Value} {rs : List (D × Mode)} {g : List Addr} (i : Items Xc Y h vs rs g) (hg : ∀ a ∈ g, ¬ Xc a) : Reps Xc h vs (rs.map (·.1)) := by
  induction vs generalizing rs g with
  | nil => cases i; exact .nil
  | cons v vs ih =>
    cases i with
    | fresh a b =>
      exact .cons (a.rep hz fun x hx => hg x (by simp [hx])) (ih b fun x hx => hg x (by simp [hx]))
    | shared a b => exact .cons (a.sub hz) (ih b hg)
    | borrow a b => exact .cons a (ih b hg)
theorem Items.owns {Xc Y : Addr → Prop} {h : Heap} {vs : List Value} {rs : List (D × Mode)} {g : List Addr} (i : Items Xc Y h vs rs g) (ho : rs.all (fun r => r.2 == .fresh) = true) : OwnTs Y h vs (rs.map (·.1)) g := by
  induction vs generalizing rs g with
  | nil => cases i; exact .nil
  | cons v vs ih =>
    cases i with
    | fresh a b => exact .cons a (ih b (by simpa using ho))
    | shared a b => simp at ho
    | borrow a b => simp at ho
theorem Items.length {Xc Y : Addr → Prop} {h : Heap} {vs : List Value} {rs : List (D × Mode)} {g : List Addr} (i : Items Xc Y h vs rs g) : vs.length = rs.length := by
  induction vs generalizing rs g with
  | nil => cases i; rfl
  | cons v vs ih => cases i with
    | fresh a b => simp [ih b]
    | shared a b => simp [ih b]
    | borrow a b => simp [ih b]

theorem off_of_dead {Z : Addr → Prop} {hs : Heap} {g : List Addr} (gd : ∀ a ∈ g, hs.get? a = none) (hX : ∀ a, Z a → ∃ o, hs.get? a = some o) : ∀ a ∈ g, ¬ Z a := fun a ha e => by
  obtain ⟨o, q⟩ := hX a e
  rw [gd a ha] at q; cases q

theorem ev_tup {es : List Expr} {mes : MEs} (j : Nat) (p : Pos) (H : EsOK prog w h₀ k Φ names sc es mes) : EvOK prog w h₀ k Φ names sc (.Tuple es j p) (.tup mes) := by
  intro A env s hb Xc fp ρ d m R EO X F he Q hQ
  simp only [evE] at he
  split at he <;> try contradiction
  rename_i rs hrs
  unfold tupD at he
  split at he <;> try contradiction
  rename_i hc
  cases he
  refine PyProof.Rows.Tuple_ (H A env s hb Xc fp ρ _ p R EO X F hrs _ fun vs h1 t1 g x1 gn gd it => ?_)
  have hl := it.length
  have hr := it.reps (Z := Ys Xc fp) (fun a e => .inl e) hc.1 (off_of_dead gd F.aliveY)
  refine wpAny_newObj_type (hQ _ _ t1 (x1.push _) ?_) (by show vs.toArray.size ≤ sizeLine; have := hc.2; simp only [List.size_toArray, sizeLine, lim] at *; omega)
  refine Res.of_shared (Res.newTuple (n := 0) ?_ hr ((Ext.refl _).push _) (dead_size (Ext.refl _)) (F.ext x1).aliveY) rfl
  exact Heap.get?_push_size _ rfl

theorem list_res {Xc : Addr → Prop} {fp : Nat → List Addr} {hs h1 h' : Heap} {a : Addr} {vs : List Value} {n : Nat} {rs : List (D × Mode)} {g : List Addr} (hl : IsL h' a vs.toArray n) (x1 : Ext hs h1) (x2 : Ext h1 h') (hd : h1.get? a = none)
    (hX : ∀ a, Ys Xc fp a → ∃ o, hs.get? a = some o) (gn : g.Nodup) (gd : ∀ a ∈ g, hs.get? a = none) (it : Items Xc (fun a => Ys Xc fp a ∨ a ∈ g) h1 vs rs g) (ho : allOk rs = true) :
    Res (if rs.all (fun r => r.2 == .fresh) then .fresh else .shared) Xc fp hs h' (.ref a) (.list (rs.map (·.1))) := by
  split
  · rename_i hf
    refine ⟨a :: g, List.nodup_cons.mpr ⟨fun hm => ?_, gn⟩, fun b hb => ?_, .list hl (((it.owns hf).more fun b e => ?_).ext x2)⟩
    · obtain ⟨o, q⟩ := it.alive a hm
      rw [hd] at q; cases q
    · rcases List.mem_cons.mp hb with rfl | hb
      · exact x1.dead hd
      · exact gd b hb
    · rcases e with e | e
      · exact .inl (.inl e)
      · rcases List.mem_cons.mp e with rfl | e
        · exact .inr hd
        · exact .inl (.inr e)
  · have hr := it.reps (Z := Ys Xc fp) (fun a e => .inl e) ho (off_of_dead gd hX)
    exact Res.newList hl hr x2 hd fun b e => let ⟨o, q⟩ := hX b e; ⟨o, x1 _ _ q⟩

theorem ev_lst {es : List Expr} {mes : MEs} (p : Pos) (H : EsOK prog w h₀ k Φ names sc es mes) : EvOK prog w h₀ k Φ names sc (.List es p) (.lst mes) := by
  intro A env s hb Xc fp ρ d m R EO X F he Q hQ
  simp only [evE] at he
  split at he <;> try contradiction
  rename_i rs hrs
  unfold lstD at he
  split at he <;> try contradiction
  rename_i hc
  cases he
  refine PyProof.Rows.List_ (H A env s hb Xc fp ρ _ p R EO X F hrs _ fun vs h1 t1 g x1 gn gd it => ?_)
  have hl := it.length
  refine wpAny_newObj_type (hQ _ _ t1 (x1.push _) ?_) (by show vs.toArray.size ≤ sizeLine; have := hc.2; simp only [List.size_toArray, sizeLine, lim] at *; omega)
  exact list_res (n := 0) (Heap.get?_push_size _ rfl) x1 ((Ext.refl _).push _) (dead_size (Ext.refl _)) F.aliveY gn gd it hc.1
end


section
variable {prog : Program} {w : World} {h₀ : Heap} {mg mb : Str → Option Value} {k : Nat} {Φ : Tab} {names : List (Option Str)} {sc : Scope}

noncomputable def goodName (x : Str) : Bool := !(x == ("__debug__" : Str)) && !(x == ("__classdict__" : Str))

theorem name_bi (W : Wd h₀ mg mb) {A : Around} {env : Env} {s : Shared} {x : Str} {v : Value} {p : Pos} {Q : Value → Shared → Prop} {E : Value → Shared → Prop} (hx : (x, v) ∈ biTable) (EO : EnvOK env sc) (hg : sc.names.lookup x = some .globalImplicit) (X : Ext h₀ s.heap) (hn : goodName x = true)
    (h : Q v s) : wpAny (model prog w) A (eval (.Name x p) env) Q E s := by
  have hb := W.bi _ hx
  refine Calls.Name_function_global EO.kind (EO.glob x hg) (Calls.loadGlobal_builtin (by rw [EO.glo]; exact W.g.keeps X) hb.1 (by rw [EO.bui]; exact W.b.keeps X) hb.2 h) ?_
  simp only [goodName, Bool.and_eq_true, Bool.not_eq_true'] at hn
  exact hn.1

theorem any_star {es : List Expr} {env : Env} {pos : Pos} (h : es.all notStar = true) : (backTo pos (starEach es env)).any (·.1) = false := by
  induction es with
  | nil => rfl
  | cons e es ih =>
    simp only [List.all_cons, Bool.and_eq_true] at h
    rw [star_eq h.1]
    show (false || (backTo pos (starEach es env)).any (·.1)) = false
    rw [ih h.2]; rfl

theorem retRes {Xc : Addr → Prop} {fp : Nat → List Addr} {hs h' : Heap} {v : Value} {d : D} {fr : Bool} (r : RetRep (Ys Xc fp) hs h' v d fr) : Res (if fr then .fresh else norm d .shared) Xc fp hs h' v d := by
  cases fr with
  | true => exact r
  | false => exact Res.norm (m := .shared) r
theorem RetRep.rep0 {X : Addr → Prop} {hs h' : Heap} {v : Value} {d : D} {fr : Bool} (r : RetRep X hs h' v d fr) : Rep (fun _ => False) h' v d := by
  cases fr with
  | true => obtain ⟨g, _, _, o⟩ := r; exact o.rep0
  | false => exact Rep.sub (fun _ e => e.elim) r

theorem ev_call (W : Wd h₀ mg mb) (T : TabOK prog w h₀ mg k Φ) {f : Str} {e : Expr} {es : List Expr} {mes : MEs} (p q : Pos) (hf : sc.names.lookup f = some .globalImplicit) (hn : goodName f = true) (hst : notStar e = true) (H : EsOK prog w h₀ k Φ names sc (e :: es) mes) :
    EvOK prog w h₀ k Φ names sc (.Call (.Name f p) (e :: es) [] q) (.call f mes) := by
  intro A env s hb Xc fp ρ d m R EO X F he Q hQ
  simp only [evE] at he
  split at he <;> try contradiction
  rename_i rs hrs
  unfold callD at he
  split at he <;> try contradiction
  rename_i d' fr hΦ
  obtain ⟨fa, o, fd, h1, h2, h3, call⟩ := T _ _ _ _ hΦ
  simp only [goodName, Bool.and_eq_true, Bool.not_eq_true'] at hn
  refine wpAny_Call_NameR (Calls.Name_function_global EO.kind (EO.glob f hf) (Calls.loadGlobal_global (by rw [EO.glo]; exact W.g.keeps X) h1 ?_) hn.1)
  refine PyProof.Rows.callWith_def (o := o) (fd := fd) h3 (H A env s hb Xc fp ρ _ q R EO X F hrs _ fun vs h1 t1 g x1 gn gd it => ⟨(X.trans x1) _ _ h2, ?_⟩) (star_eq hst es env)
  have F1 := F.ext x1
  split at he
  · rename_i ho
    cases he
    refine call A _ (Ys Xc fp) vs Q R (X.trans x1) F1.aliveY (it.reps (fun a e => .inl e) ho (off_of_dead gd F.aliveY)) fun v h' tk x2 r => ?_
    exact hQ v h' tk (x1.trans x2) (Res.start x1 (retRes r))
  · split at he <;> try contradiction
    rename_i _ ha
    cases he
    refine call A _ Xc vs Q R (X.trans x1) F1.aliveX (it.repsX (fun a e => .inl (.inl e)) (off_of_dead gd F.aliveX)) fun v h' tk x2 r => ?_
    exact hQ v h' tk (x1.trans x2) (.atom r.rep0 ha)

/-- a built-in function of one argument -/
theorem ev_bi1 (W : Wd h₀ mg mb) {x : Str} {id : String} {e : Expr} {me : ME} {A : Around} {env : Env} {s : Shared} {hb : Heap} {Xc : Addr → Prop} {fp : Nat → List Addr} {ρ : Rho} {a : D × Mode} {Q : Value → Shared → Prop} (p q : Pos)
    (hx : (x, Value.builtin id) ∈ biTable) (hg : sc.names.lookup x = some .globalImplicit) (hn : goodName x = true) (hst : notStar e = true) (H : EvOK prog w h₀ k Φ names sc e me)
    (R : Room A k) (EO : EnvOK env sc) (X : Ext h₀ s.heap) (F : Frame names env hb s.heap Xc fp ρ) (he : evE Φ me ρ = some a)
    (hc : ∀ v h' tk, Ext s.heap h' → Res a.2 Xc fp s.heap h' v a.1 → wpAny (model prog w) A (call (.builtin id) [v]) Q NoE { s with heap := h', toks := tk }) :
    wpAny (model prog w) A (eval (.Call (.Name x p) [e] [] q) env) Q NoE s := by
  refine wpAny_Call_NameR (name_bi W hx EO hg X hn ?_)
  refine PyProof.Rows.callWith_builtin1 (PyProof.Rows.args_cons (H A env s hb Xc fp ρ a.1 a.2 R EO X F he _ fun v h1 t1 x1 r1 => ?_) (star_eq hst [] env)) (star_eq hst [] env) rfl
  exact wpAny_items_nil (hc v h1 t1 x1 r1)
theorem ev_ty1 (W : Wd h₀ mg mb) {x : Str} {id : String} {e : Expr} {me : ME} {A : Around} {env : Env} {s : Shared} {hb : Heap} {Xc : Addr → Prop} {fp : Nat → List Addr} {ρ : Rho} {a : D × Mode} {Q : Value → Shared → Prop} (p q : Pos)
    (hx : (x, Value.type id) ∈ biTable) (hg : sc.names.lookup x = some .globalImplicit) (hn : goodName x = true) (hst : notStar e = true) (H : EvOK prog w h₀ k Φ names sc e me)
    (R : Room A k) (EO : EnvOK env sc) (X : Ext h₀ s.heap) (F : Frame names env hb s.heap Xc fp ρ) (he : evE Φ me ρ = some a)
    (hc : ∀ v h' tk, Ext s.heap h' → Res a.2 Xc fp s.heap h' v a.1 → wpAny (model prog w) A (call (.type id) [v]) Q NoE { s with heap := h', toks := tk }) :
    wpAny (model prog w) A (eval (.Call (.Name x p) [e] [] q) env) Q NoE s := by
  refine wpAny_Call_NameR (name_bi W hx EO hg X hn ?_)
  refine PyProof.Rows.callWith_type1 (PyProof.Rows.args_cons (H A env s hb Xc fp ρ a.1 a.2 R EO X F he _ fun v h1 t1 x1 r1 => ?_) (star_eq hst [] env)) (star_eq hst [] env) rfl
  exact wpAny_items_nil (hc v h1 t1 x1 r1)

theorem ev_len (W : Wd h₀ mg mb) {e : Expr} {me : ME} (p q : Pos) (hg : sc.names.lookup ("len" : Str) = some .globalImplicit) (hst : notStar e = true) (H : EvOK prog w h₀ k Φ names sc e me) : EvOK prog w h₀ k Φ names sc (.Call (.Name "len" p) [e] [] q) (.len me) := by
  intro A env s hb Xc fp ρ d m R EO X F he Q hQ
  simp only [evE] at he
  split at he <;> try contradiction
  rename_i a ha
  refine ev_bi1 W p q (id := "len") (by simp [biTable]) hg (by decide) hst H R EO X F ha fun v h1 t1 x1 r1 => ?_
  unfold lenD at he
  split at he <;> try contradiction
  · split at he <;> try contradiction
    rename_i hl
    cases he
    obtain ⟨a1, vs1, n1, rfl, _, l1, e1⟩ := r1.rep0.list_inv
    have hlen := e1.length
    refine PyProof.Rows.len_list (isList_of_isL l1) (by simp only [List.size_toArray, lim] at *; omega) ?_
    rw [show (vs1.toArray.size : Int) = _ from congrArg _ (by simpa using hlen)]
    exact hQ _ h1 _ x1 (Res.int _ _)
  · split at he <;> try contradiction
    rename_i hl
    cases he
    obtain ⟨a1, vs1, n1, rfl, _, l1, e1⟩ := r1.rep0.tuple_inv
    have hlen := e1.length
    refine PySem.P.len_tuple l1 (by simp only [List.size_toArray, lim] at *; omega) ?_
    rw [show (vs1.toArray.size : Int) = _ from congrArg _ (by simpa using hlen)]
    exact hQ _ h1 _ x1 (Res.int _ _)
  · split at he <;> try contradiction
    rename_i hl
    cases he
    obtain ⟨t, rfl⟩ := r1.rep0.str_inv
    refine PySem.P.len_str (by simp only [lim] at *; omega) ?_
    exact hQ _ h1 _ x1 (Res.int _ _)

theorem ev_abs (W : Wd h₀ mg mb) {e : Expr} {me : ME} (p q : Pos) (hg : sc.names.lookup ("abs" : Str) = some .globalImplicit) (hst : notStar e = true) (H : EvOK prog w h₀ k Φ names sc e me) : EvOK prog w h₀ k Φ names sc (.Call (.Name "abs" p) [e] [] q) (.abs me) := by
  intro A env s hb Xc fp ρ d m R EO X F he Q hQ
  simp only [evE] at he
  split at he <;> try contradiction
  rename_i a ha
  refine ev_bi1 W p q (id := "abs") (by simp [biTable]) hg (by decide) hst H R EO X F ha fun v h1 t1 x1 r1 => ?_
  unfold absD at he
  split at he <;> try contradiction
  cases he
  obtain ⟨t, rfl⟩ := r1.rep0.int_inv
  exact PyProof.Rows.call_abs_int fun u tk => hQ _ h1 _ x1 (Res.int _ _)

theorem ev_text (W : Wd h₀ mg mb) {e : Expr} {me : ME} (p q : Pos) (hg : sc.names.lookup ("str" : Str) = some .globalImplicit) (hst : notStar e = true) (H : EvOK prog w h₀ k Φ names sc e me) : EvOK prog w h₀ k Φ names sc (.Call (.Name "str" p) [e] [] q) (.text me) := by
  intro A env s hb Xc fp ρ d m R EO X F he Q hQ
  simp only [evE] at he
  split at he <;> try contradiction
  rename_i a ha
  refine ev_ty1 W p q (id := "str") (by simp [biTable]) hg (by decide) hst H R EO X F ha fun v h1 t1 x1 r1 => ?_
  unfold textD at he
  split at he <;> try contradiction
  split at he <;> try contradiction
  rename_i hl
  cases he
  obtain ⟨t, rfl⟩ := r1.rep0.int_inv
  exact PySem.P.str_of_int hl (hQ _ h1 _ x1 (.atom (.str _ _) rfl))

theorem ints_of {X : Addr → Prop} {h : Heap} {vs : List Value} {ds : List D} (r : Reps X h vs ds) {ns : List Int} (hn : intsOf ds = some ns) : PyProof.Rows.IntsAre vs ns ∧ ds = ns.map .int := by
  induction vs generalizing ds ns with
  | nil => cases r; simp [intsOf] at hn; subst hn; exact ⟨.nil, rfl⟩
  | cons v vs ih =>
    cases r with
    | cons a b =>
      cases a <;> simp only [intsOf, Option.map_eq_some_iff, reduceCtorEq] at hn
      obtain ⟨ns', h1, rfl⟩ := hn
      obtain ⟨h2, h3⟩ := ih b h1
      exact ⟨.cons _ _ h2, by simp [h3]⟩

theorem ev_sorted (W : Wd h₀ mg mb) {e : Expr} {me : ME} (p q : Pos) (hg : sc.names.lookup ("sorted" : Str) = some .globalImplicit) (hst : notStar e = true) (H : EvOK prog w h₀ k Φ names sc e me) : EvOK prog w h₀ k Φ names sc (.Call (.Name "sorted" p) [e] [] q) (.sorted me) := by
  intro A env s hb Xc fp ρ d m R EO X F he Q hQ
  simp only [evE] at he
  split at he <;> try contradiction
  rename_i a ha
  refine ev_bi1 W p q (id := "sorted") (by simp [biTable]) hg (by decide) hst H R EO X F ha fun v h1 t1 x1 r1 => ?_
  unfold sortedD at he
  split at he <;> try contradiction
  rename_i ds mm
  split at he <;> try contradiction
  rename_i hc
  simp only [not_or, Nat.not_lt] at hc
  split at he <;> try contradiction
  rename_i ns hns
  cases he
  obtain ⟨a1, vs1, n1, rfl, _, l1, e1⟩ := r1.rep0.list_inv
  have hlen := e1.length
  obtain ⟨hI, rfl⟩ := ints_of e1 hns
  refine PyProof.Rows.sorted_ints (isList_of_isL l1) hI (by omega) fun out ns' hI' hp hs => ?_
  have x2 : Ext h1 (PyProof.Rows.sortedAll h1 vs1 out) := fun _ _ => PyProof.Rows.sortedAll_old
  have e : ns' = ns.mergeSort (fun a b => decide (a ≤ b)) := by
    refine List.Perm.eq_of_pairwise (le := fun a b : Int => a ≤ b) (fun a b _ _ h1 h2 => by omega) hs ?_ (hp.trans (List.mergeSort_perm _ _).symm)
    have := List.pairwise_mergeSort (le := fun a b : Int => decide (a ≤ b)) (fun a b c h1 h2 => by simp at *; omega) (fun a b => by simp; omega) ns
    exact this.imp fun h => by simpa using h
  subst e
  obtain ⟨ep, hat⟩ := PyProof.Rows.sortedAll_at h1 vs1 out
  have hd : h1.get? (h1.objs.size + 1) = none := by
    cases q : h1.get? (h1.objs.size + 1) with
    | none => rfl
    | some o => exact absurd (Heap.lt_size q) (Nat.not_lt.mpr (Nat.le_succ _))
  refine hQ _ _ t1 (x1.trans x2) (Res.start x1 (Res.newFlat (vs := out.toList) (n := ep) ?_ ?_ x2 hd (F.ext x1).aliveY ?_))
  · simpa using hat
  · have : ∀ {vs : List Value} {ns : List Int}, PyProof.Rows.IntsAre vs ns → Reps (Ys Xc fp) h1 vs (ns.map .int) := by
      intro vs ns hh
      induction hh with
      | nil => exact .nil
      | cons n t _ ih => exact .cons (.int _ _) ih
    exact this hI'
  · simp [isList]

theorem call_rangeOK {A : Around} {s : Shared} {a b : Int} {v : Value} {E : Value → Shared → Prop} {Q : Value → Shared → Prop} {t u : Tok} (hc : v = .ref s.heap.objs.size) (tk : Nat)
    (h : ∀ t' u' w', Q (.ref s.heap.objs.size) { s with heap := s.heap.push { cls := .type "range", data := .fields #[.int a t', .int b u', .int 1 w'] }, toks := s.toks + 1 }) : wpAny (model prog w) A (call (.type "range") [.int a t, .int b u]) Q E s :=
  call_range_2 (h _ _ _)

theorem ev_lrange (W : Wd h₀ mg mb) {e : Expr} {me : ME} (p q p' q' : Pos) (hg : sc.names.lookup ("list" : Str) = some .globalImplicit) (hg' : sc.names.lookup ("range" : Str) = some .globalImplicit) (hst : notStar e = true) (H : EvOK prog w h₀ k Φ names sc e me) :
    EvOK prog w h₀ k Φ names sc (.Call (.Name "list" p) [.Call (.Name "range" p') [e] [] q'] [] q) (.lrange me) := by
  intro A env s hb Xc fp ρ d m R EO X F he Q hQ
  simp only [evE] at he
  split at he <;> try contradiction
  rename_i a ha
  unfold lrangeD at he
  split at he <;> try contradiction
  rename_i n mm
  split at he <;> try contradiction
  rename_i ds hds
  cases he
  unfold rangeD at hds
  split at hds <;> try contradiction
  rename_i hc
  simp only [not_or, Int.not_lt] at hc
  cases hds
  refine wpAny_Call_NameR (name_bi W (x := "list") (v := .type "list") (by simp [biTable]) EO hg X (by decide) ?_)
  refine PyProof.Rows.callWith_type1 (PyProof.Rows.args_cons ?_ rfl) rfl rfl
  refine ev_ty1 W p' q' (x := "range") (id := "range") (by simp [biTable]) hg' (by decide) hst H R EO X F ha fun v h1 t1 x1 r1 => ?_
  obtain ⟨t, rfl⟩ := r1.rep0.int_inv
  refine call_range_1 (wpAny_items_nil ?_)
  have hlim : n ≤ 4096 := by have := hc.2.2.2; simp only [lim] at this; assumption
  have hrs : Builtin.Range.rangeSize 0 n 1 = (n.toNat : Int) := by rw [rangeSize_one]; split <;> omega
  refine call_list_range R.hd (IsRange.new ..) (small_one (by decide) (by decide) (by omega) (by omega)) hrs (by omega) fun h' tk acc c' hk hat hit => ?_
  have y1 : Ext h1 h' := fun b o e => hk b o (Heap.get?_push_of_some _ e)
  refine hQ _ h' tk (x1.trans y1) (Res.start x1 (Res.newFlat (vs := acc.toList) (n := c') ?_ ?_ y1 ?_ (F.ext x1).aliveY ?_))
  · simpa using hat
  · have hsz := hit.1
    have hle : acc.toList.length = (upto 0 n).length := by simp [upto, hsz]
    have key : ∀ (vs : List Value) (ds : List D), vs.length = ds.length → (∀ (j : Nat) (v : Value), vs[j]? = some v → ∃ d, ds[j]? = some d ∧ Rep (Ys Xc fp) h1 v d) → Reps (Ys Xc fp) h1 vs ds := by
      intro vs
      induction vs with
      | nil => intro ds h _; cases ds with | nil => exact .nil | cons => simp at h
      | cons v vs ih =>
        intro ds h hh
        cases ds with
        | nil => simp at h
        | cons d ds =>
          obtain ⟨d', e1, e2⟩ := hh 0 v (by simp)
          simp at e1; subst e1
          exact .cons e2 (ih ds (by simpa using h) fun j v hv => by simpa using hh (j + 1) v (by simpa using hv))
    refine key _ _ hle fun j v hv => ?_
    have hv' : acc[j]? = some v := by simpa using hv
    obtain ⟨t', rfl⟩ := hit.2 j v hv'
    have hj : j < n.toNat := by have := (Array.getElem?_eq_some_iff.mp hv').1; omega
    refine ⟨.int (0 + j), by simp [upto, hj], ?_⟩
    have : (0 + (j : Int) * 1) = 0 + (j : Int) := by omega
    rw [this]; exact .int _ _
  · cases q : h1.get? (h1.objs.size + 1) with
    | none => simpa [Heap.size_push] using q
    | some o => exact absurd (Heap.lt_size q) (Nat.not_lt.mpr (Nat.le_succ _))
  · simp [upto, isList]
end


section
variable {prog : Program} {w : World} {h₀ : Heap} {mg mb : Str → Option Value} {k : Nat} {Φ : Tab} {names : List (Option Str)} {sc : Scope}

theorem preSum_take (ns : List Int) : ∀ n, n ≤ ns.length → preSum (fun i => ns.getD i 0) n = (ns.take n).sum := by
  intro n
  induction n with
  | zero => intro _; simp [preSum]
  | succ n ih =>
    intro h
    rw [preSum, ih (by exact Nat.le_of_lt (by assumption)), List.take_add_one, List.sum_append]
    simp [List.getD, List.getElem?_eq_getElem (show n < ns.length by assumption)]
theorem sum_bound {B : Nat} : ∀ (ns : List Int), (∀ i ∈ ns, i.natAbs < B) → ns.sum.natAbs ≤ ns.length * B := by
  intro ns
  induction ns with
  | nil => intro _; simp
  | cons a r ih =>
    intro h
    have h1 := h a (by simp)
    have h2 := ih fun i hi => h i (by simp [hi])
    rw [List.sum_cons, List.length_cons, Nat.add_mul, Nat.one_mul, Nat.add_comm]
    exact Nat.le_trans (Int.natAbs_add_le _ _) (Nat.add_le_add (Nat.le_of_lt h1) h2)

theorem ev_sum (W : Wd h₀ mg mb) {e : Expr} {me : ME} (p q : Pos) (hg : sc.names.lookup ("sum" : Str) = some .globalImplicit) (hst : notStar e = true) (H : EvOK prog w h₀ k Φ names sc e me) : EvOK prog w h₀ k Φ names sc (.Call (.Name "sum" p) [e] [] q) (.sum me) := by
  intro A env s hb Xc fp ρ d m R EO X F he Q hQ
  simp only [evE] at he
  split at he <;> try contradiction
  rename_i a ha
  refine ev_bi1 W p q (id := "sum") (by simp [biTable]) hg (by decide) hst H R EO X F ha fun v h1 t1 x1 r1 => ?_
  unfold sumD at he
  split at he <;> try contradiction
  rename_i ds mm
  split at he <;> try contradiction
  rename_i hc
  simp only [not_or, Nat.not_lt] at hc
  split at he <;> try contradiction
  rename_i ns hns
  split at he <;> try contradiction
  rename_i hsmall
  cases he
  obtain ⟨a1, vs1, n1, rfl, _, l1, e1⟩ := r1.rep0.list_inv
  have hlen := e1.length
  obtain ⟨hI, rfl⟩ := ints_of e1 hns
  have hlen' : vs1.length = ns.length := by simpa using hlen
  have hs : ∀ i ∈ ns, i.natAbs < 2 ^ 40 := fun i hi => by simpa using List.all_eq_true.mp hsmall i hi
  refine call_sum_walk (wpAny_pyIter_list (isList_of_isL l1) ?_)
  have hlt : a1 < h1.objs.size := Heap.lt_size l1
  have y1 : Ext h1 (h1.push { cls := .type "list_iterator", data := .fields #[.ref a1, .int 0 0] }) := (Ext.refl _).push _
  have WW := Walks.list (prog := prog) (w := w) (A := A.in1) R.hd h1.objs.size a1 (Nat.ne_of_lt hlt) vs1.toArray
  refine ⟨_, _, _, _, _, _, (fun i => ns.getD i 0), rfl, WW, ⟨⟨_, Heap.get?_push_size _ rfl, rfl, rfl⟩, (isList_of_isL (y1 _ _ l1))⟩, ?_, ?_, ?_, ?_⟩
  · intro b hb
    have hsz : (h1.push { cls := .type "list_iterator", data := .fields #[.ref a1, .int 0 0] }).objs.size = h1.objs.size + 1 := Heap.size_push ..
    simp only [List.mem_cons, List.not_mem_nil, or_false] at hb
    show b < (h1.push _).objs.size
    rw [hsz]
    rcases hb with rfl | rfl
    · exact Nat.lt_succ_self _
    · exact Nat.lt_succ_of_lt hlt
  · intro i v hv
    have hv' : vs1[i]? = some v := by simpa using hv
    have hi : i < ns.length := by have := (List.getElem?_eq_some_iff.mp hv').1; omega
    obtain ⟨t, ht⟩ := hI.get i ns[i] (by simp [hi])
    rw [ht] at hv'; cases hv'
    exact ⟨t, by simp [List.getD, List.getElem?_eq_getElem hi]⟩
  · intro j hj
    have hj' : j < ns.length := by simpa [hlen'] using hj
    have hm : ns.getD j 0 ∈ ns := by simp [List.getD, List.getElem?_eq_getElem hj']
    have b1 := hs _ hm
    have b2 := sum_bound (B := 2 ^ 40) (ns.take (j + 1)) fun i hi => hs i (List.mem_of_mem_take hi)
    have hl4 : ns.length ≤ 4096 := by have := hc.2; simpa [lim] using this
    rw [preSum_take ns (j + 1) (by assumption)]
    have hl5 : (ns.take (j + 1)).length ≤ 4096 := by simp; omega
    have b3 : (ns.take (j + 1)).length * 2 ^ 40 ≤ 4096 * 2 ^ 40 := Nat.mul_le_mul_right _ hl5
    constructor
    · show -2 ^ 63 ≤ ns.getD j 0 ∧ ns.getD j 0 < 2 ^ 63
      omega
    · show -2 ^ 63 ≤ (ns.take (j + 1)).sum ∧ (ns.take (j + 1)).sum < 2 ^ 63
      omega
  · intro h' tk t' hk
    have e0 : preSum (fun i => ns.getD i 0) vs1.toArray.size = ns.sum := by
      rw [preSum_take ns _ (by simp [hlen'])]
      simp [hlen']
    rw [e0]
    refine hQ _ h' tk (x1.trans fun b o e => hk b o ?_ (y1 _ _ e)) (Res.int _ _)
    intro hb
    simp only [List.mem_cons, List.not_mem_nil, or_false] at hb
    subst hb
    exact absurd (Heap.lt_size e) (Nat.lt_irrefl _)

-- tests
theorem et_cmp {l r : Expr} {ml mr : ME} (op : CmpOp) (p : Pos) (hm : behindInMarks op r = false) (H1 : EvOK prog w h₀ k Φ names sc l ml) (H2 : EvOK prog w h₀ k Φ names sc r mr) : EtOK prog w h₀ k Φ names sc (.Compare l [op] [r] p) (.cmp op ml mr) := by
  intro A env s hb Xc fp ρ b R EO X F he Q hQ
  simp only [evT] at he
  split at he <;> try contradiction
  rename_i a ha
  split at he <;> try contradiction
  rename_i c hc
  refine wpAny_isTrue_Compare1 (H1 A env s hb Xc fp ρ a.1 a.2 R EO X F ha _ fun v1 h1 t1 x1 r1 => ?_) hm
  refine H2 A env { s with heap := h1, toks := t1 } hb Xc fp ρ c.1 c.2 R EO (X.trans x1) (F.ext x1) hc _ fun v2 h2 t2 x2 r2 => ?_
  have x12 := x1.trans x2
  have hu : A.units + 64 < cLine := by have := R.un; omega
  unfold cmpD at he
  split at he <;> try contradiction
  · split at he <;> try contradiction
    rename_i hok
    cases he
    rw [Bool.and_eq_true] at hok
    obtain ⟨as, ra⟩ := (r1.rep0.ext x2).reads
    obtain ⟨bs, rb⟩ := r2.rep0.reads
    exact SeqAt.compareEq_shaped ra rb hok.1 hok.2 hu (wpAny_truthy_bool (hQ h2 t2 x12))
  · split at he <;> try contradiction
    rename_i hok
    cases he
    rw [Bool.and_eq_true] at hok
    obtain ⟨as, ra⟩ := (r1.rep0.ext x2).reads
    obtain ⟨bs, rb⟩ := r2.rep0.reads
    exact SeqAt.compareNe_shaped ra rb hok.1 hok.2 hu (wpAny_truthy_bool (hQ h2 t2 x12))
  · rename_i x y e1 e2
    cases he
    rw [e1] at r1; rw [e2] at r2
    obtain ⟨t, rfl⟩ := r1.rep0.int_inv; obtain ⟨u, rfl⟩ := r2.rep0.int_inv
    exact PyProof.Rows.lt_int (wpAny_truthy_bool (hQ h2 t2 x12))
  · rename_i x y e1 e2
    cases he
    rw [e1] at r1; rw [e2] at r2
    obtain ⟨t, rfl⟩ := r1.rep0.int_inv; obtain ⟨u, rfl⟩ := r2.rep0.int_inv
    exact PyProof.Rows.gt_int (wpAny_truthy_bool (hQ h2 t2 x12))

theorem et_not {e : Expr} {mt : MT} (p : Pos) (H : EtOK prog w h₀ k Φ names sc e mt) : EtOK prog w h₀ k Φ names sc (.UnaryOp .Not e p) (.not mt) := by
  intro A env s hb Xc fp ρ b R EO X F he Q hQ
  simp only [evT] at he
  split at he <;> try contradiction
  rename_i a ha
  cases he
  exact wpAny_isTrue_Not (H A env s hb Xc fp ρ a R EO X F ha _ fun h1 t1 x1 => hQ h1 t1 x1)

theorem et_and {a b : Expr} {ma mb' : MT} (p : Pos) (H1 : EtOK prog w h₀ k Φ names sc a ma) (H2 : EtOK prog w h₀ k Φ names sc b mb') : EtOK prog w h₀ k Φ names sc (.BoolOp .And [a, b] p) (.and ma mb') := by
  intro A env s hb Xc fp ρ c R EO X F he Q hQ
  simp only [evT] at he
  refine wpAny_isTrue_BoolOp (wpAny_allTrue_And_cons ?_)
  split at he <;> try contradiction
  · rename_i ha
    refine H1 A env s hb Xc fp ρ _ R EO X F ha _ fun h1 t1 x1 => ?_
    simp only [if_true]
    refine wpAny_allTrue_And_cons (H2 A env { s with heap := h1, toks := t1 } hb Xc fp ρ _ R EO (X.trans x1) (F.ext x1) he _ fun h2 t2 x2 => ?_)
    cases c
    · exact hQ h2 t2 (x1.trans x2)
    · exact wpAny_allTrue_And_nil (hQ h2 t2 (x1.trans x2))
  · rename_i ha
    cases he
    refine H1 A env s hb Xc fp ρ _ R EO X F ha _ fun h1 t1 x1 => ?_
    exact hQ h1 t1 x1
theorem et_or {a b : Expr} {ma mb' : MT} (p : Pos) (H1 : EtOK prog w h₀ k Φ names sc a ma) (H2 : EtOK prog w h₀ k Φ names sc b mb') : EtOK prog w h₀ k Φ names sc (.BoolOp .Or [a, b] p) (.or ma mb') := by
  intro A env s hb Xc fp ρ c R EO X F he Q hQ
  simp only [evT] at he
  refine wpAny_isTrue_BoolOp (wpAny_allTrue_Or_cons ?_)
  split at he <;> try contradiction
  · rename_i ha
    cases he
    refine H1 A env s hb Xc fp ρ _ R EO X F ha _ fun h1 t1 x1 => ?_
    exact hQ h1 t1 x1
  · rename_i ha
    refine H1 A env s hb Xc fp ρ _ R EO X F ha _ fun h1 t1 x1 => ?_
    refine wpAny_allTrue_Or_cons (H2 A env { s with heap := h1, toks := t1 } hb Xc fp ρ _ R EO (X.trans x1) (F.ext x1) he _ fun h2 t2 x2 => ?_)
    cases c
    · exact wpAny_allTrue_Or_nil (hQ h2 t2 (x1.trans x2))
    · exact hQ h2 t2 (x1.trans x2)

theorem et_isInt (W : Wd h₀ mg mb) {e : Expr} {me : ME} (p q p' r : Pos) (hg : sc.names.lookup ("type" : Str) = some .globalImplicit) (hg' : sc.names.lookup ("int" : Str) = some .globalImplicit) (hst : notStar e = true) (H : EvOK prog w h₀ k Φ names sc e me) :
    EtOK prog w h₀ k Φ names sc (.Compare (.Call (.Name "type" p) [e] [] q) [.Is] [.Name "int" p'] r) (.isInt me) := by
  intro A env s hb Xc fp ρ c R EO X F he Q hQ
  simp only [evT] at he
  split at he <;> try contradiction
  rename_i i m ha
  cases he
  refine wpAny_isTrue_Compare1 (ev_ty1 W p q (id := "type") (by simp [biTable]) hg (by decide) hst H R EO X F ha fun v h1 t1 x1 r1 => ?_)
  obtain ⟨t, rfl⟩ := r1.rep0.int_inv
  refine call_type_of (typeIs_int _ _ _) (by decide) (name_bi W (x := "int") (v := .type "int") (by simp [biTable]) EO hg' (X.trans x1) (by decide) ?_)
  exact wpAny_is_self rfl (wpAny_truthy_bool (hQ h1 t1 x1))

theorem et_val {e : Expr} {me : ME} (hp : ∀ env whole, isTrue e env whole = (do let v ← whole; standAt e.pos; holding [v] (truthy v))) (H : EvOK prog w h₀ k Φ names sc e me) : EtOK prog w h₀ k Φ names sc e (.val me) := by
  intro A env s hb Xc fp ρ c R EO X F he Q hQ
  simp only [evT] at he
  split at he <;> try contradiction
  rename_i i m ha
  cases he
  refine wpAny_isTrue_value (H A env s hb Xc fp ρ _ _ R EO X F ha _ fun v h1 t1 x1 r1 => ?_) (hp _ _)
  have := r1.rep0.bool_inv
  subst this
  exact wpAny_truthy_bool (hQ h1 t1 x1)

theorem ev_ife {t a b : Expr} {mt : MT} {ma mb' : ME} (p : Pos) (H : EtOK prog w h₀ k Φ names sc t mt) (H1 : EvOK prog w h₀ k Φ names sc a ma) (H2 : EvOK prog w h₀ k Φ names sc b mb') : EvOK prog w h₀ k Φ names sc (.IfExp t a b p) (.ife mt ma mb') := by
  intro A env s hb Xc fp ρ d m R EO X F he Q hQ
  simp only [evE] at he
  split at he <;> try contradiction
  · rename_i ha
    refine wpAny_IfExp (H A env s hb Xc fp ρ _ R EO X F ha _ fun h1 t1 x1 => ?_)
    simp only [if_true]
    exact H1 A env { s with heap := h1, toks := t1 } hb Xc fp ρ _ _ R EO (X.trans x1) (F.ext x1) he _ fun v h2 t2 x2 r2 => hQ v h2 t2 (x1.trans x2) (Res.start x1 r2)
  · rename_i ha
    refine wpAny_IfExp (H A env s hb Xc fp ρ _ R EO X F ha _ fun h1 t1 x1 => ?_)
    simp only [Bool.false_eq_true, if_false]
    exact H2 A env { s with heap := h1, toks := t1 } hb Xc fp ρ _ _ R EO (X.trans x1) (F.ext x1) he _ fun v h2 t2 x2 r2 => hQ v h2 t2 (x1.trans x2) (Res.start x1 r2)

-- what is walked over
theorem ei_range {A : Around} {s : Shared} {Xc : Addr → Prop} {fp : Nat → List Addr} {r : Addr} {a b : Int} {t u v : Tok} {ds : List D} (hh : A.handled = none) (hr : IsRange s.heap r a b 1 t u v) (hd : rangeD a b = some ds) {Q : Value → Shared → Prop}
    (hQ : ∀ (I : Addr) (h' : Heap) (tk : Nat) (fpI : List Addr) (P : Nat → Value → Prop) (St : Nat → Heap → Prop), Ext s.heap h' → s.heap.get? I = none → (∀ i h, St i h → ∃ o vs, h.get? I = some o ∧ o.data = .fields vs) →
        Walks prog w A I fpI [I] ds.length P St → St 0 h' → (∀ b ∈ fpI, b = I ∨ ((∃ vs n, IsL h' b vs n) ∧ ¬ Ys Xc fp b)) → ds.length ≤ lim →
        (∀ (i : Nat) (v : Value) (d : D), ds[i]? = some d → P i v → Rep (Ys Xc fp) h' v d) → Q (.ref I) { s with heap := h', toks := tk }) : wpAny (model prog w) A (pyIter (.ref r)) Q NoE s := by
  unfold rangeD at hd
  split at hd <;> try contradiction
  rename_i hc
  simp only [not_or, Int.not_lt, lim] at hc
  cases hd
  refine wpAny_pyIter_range hr (small_one (by omega) (by omega) (by omega) (by omega)) ?_
  have hsz : Builtin.Range.rangeSize a b 1 = ((b - a).toNat : Int) := by rw [rangeSize_one]; split <;> omega
  have hlen : (upto a b).length = (b - a).toNat := by simp [upto]
  refine hQ _ _ s.toks [s.heap.objs.size] (fun i v => ∃ t, v = .int (a + i * 1) t) (fun i h => IsRangeIter h s.heap.objs.size (a + (i : Nat) * 1) (((b - a).toNat : Int) - (i : Nat)) 1) ((Ext.refl _).push _) (dead_size (Ext.refl _)) (fun i h e => ⟨_, _, e, rfl⟩) ?_ ?_ ?_ ?_ ?_
  · rw [hlen]; exact Walks.range hh _ a 1 _
  · have e1 : (a + ((0 : Nat) : Int) * 1) = a := by simp
    have e2 : (((b - a).toNat : Int) - ((0 : Nat) : Int)) = Builtin.Range.rangeSize a b 1 := by rw [hsz]; simp
    rw [e1, e2]
    exact Heap.get?_push_size _ rfl
  · intro b hb; exact .inl (by simpa using hb)
  · rw [hlen]; simp only [lim]; omega
  · intro i v d hd hP
    obtain ⟨t, rfl⟩ := hP
    have hi : i < (b - a).toNat := by have := (List.getElem?_eq_some_iff.mp hd).1; omega
    have : d = .int (a + i) := by simpa [upto, hi, eq_comm] using hd
    subst this
    have : (a + (i : Int) * 1) = a + (i : Int) := by omega
    rw [this]; exact .int _ _

theorem ei_range1 (W : Wd h₀ mg mb) {e : Expr} {me : ME} (p q : Pos) (hg : sc.names.lookup ("range" : Str) = some .globalImplicit) (hst : notStar e = true) (H : EvOK prog w h₀ k Φ names sc e me) : EiOK prog w h₀ k Φ names sc (.Call (.Name "range" p) [e] [] q) (.range1 me) := by
  intro A env s hb Xc fp ρ ds R EO X F he Q hQ
  simp only [evI] at he
  split at he <;> try contradiction
  rename_i n m ha
  refine ev_ty1 W p q (id := "range") (by simp [biTable]) hg (by decide) hst H R EO X F ha fun v h1 t1 x1 r1 => ?_
  obtain ⟨t, rfl⟩ := r1.rep0.int_inv
  refine call_range_1 (ei_range (Xc := Xc) (fp := fp) R.hd (IsRange.new ..) he fun I h' tk fpI P St x2 hI hO Wk hst hfp hlen hP => ?_)
  have y1 : Ext h1 (h1.push { cls := .type "range", data := .fields #[.int 0 t1, .int n t, .int 1 (t1 + 1)] }) := (Ext.refl _).push _
  exact hQ I h' tk fpI P St ((x1.trans y1).trans x2) ((x1.trans y1).dead hI) hO Wk hst hfp hlen hP

theorem ei_range2 (W : Wd h₀ mg mb) {e e' : Expr} {me me' : ME} (p q : Pos) (hg : sc.names.lookup ("range" : Str) = some .globalImplicit) (hst : notStar e = true) (hst' : notStar e' = true) (H : EvOK prog w h₀ k Φ names sc e me) (H' : EvOK prog w h₀ k Φ names sc e' me') :
    EiOK prog w h₀ k Φ names sc (.Call (.Name "range" p) [e, e'] [] q) (.range2 me me') := by
  intro A env s hb Xc fp ρ ds R EO X F he Q hQ
  simp only [evI] at he
  split at he <;> try contradiction
  rename_i x m ha
  split at he <;> try contradiction
  rename_i y m' ha'
  refine wpAny_Call_NameR (name_bi W (x := "range") (v := .type "range") (by simp [biTable]) EO hg X (by decide) ?_)
  refine PyProof.Rows.callWith_type1 (PyProof.Rows.args_cons (H A env s hb Xc fp ρ _ _ R EO X F ha _ fun v1 h1 t1 x1 r1 => ?_) (star_eq hst [e'] env)) (star_eq hst [e'] env) (any_star (by simp [hst']))
  refine PyProof.Rows.args_cons (H' A env { s with heap := h1, toks := t1 } hb Xc fp ρ _ _ R EO (X.trans x1) (F.ext x1) ha' _ fun v2 h2 t2 x2 r2 => ?_) (star_eq hst' [] env)
  refine wpAny_items_nil ?_
  obtain ⟨t, rfl⟩ := r1.rep0.int_inv
  obtain ⟨u, rfl⟩ := r2.rep0.int_inv
  refine call_range_2 (ei_range (Xc := Xc) (fp := fp) R.hd (IsRange.new ..) he fun I h' tk fpI P St x3 hI hO Wk hst hfp hlen hP => ?_)
  have y1 : Ext h2 (h2.push { cls := .type "range", data := .fields #[.int x t, .int y u, .int 1 t2] }) := (Ext.refl _).push _
  exact hQ I h' tk fpI P St (((x1.trans x2).trans y1).trans x3) (((x1.trans x2).trans y1).dead hI) hO Wk hst hfp hlen hP

theorem ei_lst {e : Expr} {me : ME} (H : EvOK prog w h₀ k Φ names sc e me) : EiOK prog w h₀ k Φ names sc e (.lst me) := by
  intro A env s hb Xc fp ρ ds R EO X F he Q hQ
  simp only [evI] at he
  split at he <;> try contradiction
  rename_i a ha
  unfold listD at he
  split at he <;> try contradiction
  rename_i ds' m
  split at he <;> try contradiction
  rename_i hc
  simp only [not_or, Nat.not_lt] at hc
  cases he
  refine H A env s hb Xc fp ρ _ _ R EO X F ha _ fun v h1 t1 x1 r1 => ?_
  obtain ⟨a1, vs1, n1, rfl, hnx, l1, e1⟩ := (r1.shared F.aliveY hc.1).list_inv
  have hlen := e1.length
  refine wpAny_pyIter_list (isList_of_isL l1) ?_
  have hlt : a1 < h1.objs.size := Heap.lt_size l1
  have y1 : Ext h1 (h1.push { cls := .type "list_iterator", data := .fields #[.ref a1, .int 0 0] }) := (Ext.refl _).push _
  have WW := Walks.list (prog := prog) (w := w) (A := A) R.hd h1.objs.size a1 (Nat.ne_of_lt hlt) vs1.toArray
  have e0 : vs1.toArray.size = ds.length := by simpa using hlen
  rw [e0] at WW
  refine hQ _ _ t1 _ _ _ (x1.push _) (dead_size x1) (fun i h e => let ⟨o, q1, _, q2⟩ := e.1; ⟨o, _, q1, q2⟩) WW ⟨⟨_, Heap.get?_push_size _ rfl, rfl, rfl⟩, isList_of_isL (y1 _ _ l1)⟩ ?_ hc.2 ?_
  · intro b hb
    simp only [List.mem_cons, List.not_mem_nil, or_false] at hb
    rcases hb with rfl | rfl
    · exact .inl rfl
    · exact .inr ⟨⟨_, _, y1 _ _ l1⟩, hnx⟩
  · intro i v d hd hP
    have hv : vs1[i]? = some v := by simpa using hP
    obtain ⟨d', h1', h2'⟩ := e1.get' hv
    rw [hd] at h1'; cases h1'
    exact h2'.ext y1
end


-- cells of a block
theorem cells_not {x : Str} : ∀ (names : List (Str × NameKind)) (n : Nat) (acc : List (Str × Addr)), (x, NameKind.cell) ∉ names → (cellsFrom n names acc).lookup x = acc.lookup x
  | [], _, _, _ => rfl
  | (y, kd) :: r, n, acc, h => by
    simp only [List.mem_cons, not_or] at h
    unfold cellsFrom
    split
    · rename_i hk
      rw [cells_not r (n + 1) _ h.2, List.lookup_cons]
      have : (x == y) = false := by
        cases e : x == y with
        | false => rfl
        | true => exact absurd (by rw [beq_iff_eq.mp e, beq_iff_eq.mp hk]) h.1
      rw [this]
    · exact cells_not r n acc h.2

theorem cells_own {x : Str} : ∀ (names : List (Str × NameKind)) (h : Heap) (acc : List (Str × Addr)), (names.map (·.1)).Nodup → (x, NameKind.cell) ∈ names →
    ∃ c, (cellsFrom h.objs.size names acc).lookup x = some c ∧ (pushCells h names).IsCell c none ∧ h.objs.size ≤ c
  | [], _, _, _, h => by simp at h
  | (y, kd) :: r, h, acc, hn, hm => by
    simp only [List.map_cons, List.nodup_cons] at hn
    unfold cellsFrom pushCells
    have hsz : (h.push { cls := .type "cell", data := .cell none }).objs.size = h.objs.size + 1 := Heap.size_push ..
    split
    · rename_i hk
      rcases List.mem_cons.mp hm with e | hm'
      · cases e
        rw [cells_not r _ _ (fun hm => hn.1 (List.mem_map.mpr ⟨_, hm, rfl⟩)), List.lookup_cons]
        simp only [beq_self_eq_true]
        exact ⟨_, rfl, ⟨_, pushCells_keeps _ _ _ _ (Heap.get?_push_size _ rfl), rfl⟩, Nat.le_refl _⟩
      · have := cells_own r (h.push { cls := .type "cell", data := .cell none }) ((y, h.objs.size) :: acc) hn.2 hm'
        rw [hsz] at this
        obtain ⟨c, h1, h2, h3⟩ := this
        exact ⟨c, h1, h2, by omega⟩
    · rename_i hk
      rcases List.mem_cons.mp hm with e | hm'
      · cases e; simp at hk
      · exact cells_own r h acc hn.2 hm'

theorem cells_inj : ∀ (names : List (Str × NameKind)) (n : Nat) (acc : List (Str × Addr)), (∀ x y c, acc.lookup x = some c → acc.lookup y = some c → x = y) → (∀ x c, acc.lookup x = some c → c < n) →
    ∀ x y c, (cellsFrom n names acc).lookup x = some c → (cellsFrom n names acc).lookup y = some c → x = y
  | [], _, _, h, _ => h
  | (z, kd) :: r, n, acc, h, hlt => by
    unfold cellsFrom
    split
    · refine cells_inj r (n + 1) _ ?_ ?_
      · intro x y c hx hy
        rw [List.lookup_cons] at hx hy
        cases ex : x == z <;> cases ey : y == z <;> rw [ex] at hx <;> rw [ey] at hy <;> simp only [Option.some.injEq] at hx hy
        · exact h x y c hx hy
        · subst hy; exact absurd (hlt _ _ hx) (Nat.lt_irrefl _)
        · subst hx; exact absurd (hlt _ _ hy) (Nat.lt_irrefl _)
        · rw [beq_iff_eq.mp ex, beq_iff_eq.mp ey]
      · intro x c hx
        rw [List.lookup_cons] at hx
        cases ex : x == z <;> rw [ex] at hx <;> simp only [Option.some.injEq] at hx
        · exact Nat.lt_succ_of_lt (hlt _ _ hx)
        · subst hx; exact Nat.lt_succ_self _
    · exact cells_inj r n acc h hlt

noncomputable def closL (env : Env) : List (Str × NameKind) → List (Str × Addr) → List (Str × Addr)
  | [], acc => acc
  | (n, kd) :: r, acc => if kd == .free then closL env r ((n, (env.cells.lookup n).getD 0) :: acc) else closL env r acc
theorem closL_free {env : Env} {x : Str} {c : Addr} (hc : env.cells.lookup x = some c) : ∀ (names : List (Str × NameKind)) (acc : List (Str × Addr)), ((x, NameKind.free) ∈ names ∨ acc.lookup x = some c) → (closL env names acc).lookup x = some c
  | [], acc, h => h.elim (fun h => by simp at h) id
  | (n, kd) :: r, acc, h => by
    unfold closL
    split
    · rename_i hk
      refine closL_free hc r _ ?_
      by_cases e : x = n
      · subst e; right; rw [List.lookup_cons]; simp [hc]
      · rcases h with h | h
        · rcases List.mem_cons.mp h with h | h
          · cases h; exact absurd rfl e
          · exact .inl h
        · right; rw [List.lookup_cons]; have : (x == n) = false := by simpa using e
          rw [this]; exact h
    · rename_i hk
      refine closL_free hc r _ ?_
      rcases h with h | h
      · rcases List.mem_cons.mp h with h | h
        · cases h; simp at hk
        · exact .inl h
      · exact .inr h
theorem closL_from {env : Env} {x : Str} {c : Addr} (hs : ∀ n, (n, NameKind.free) ∈ ([] : List (Str × NameKind)) → True) : ∀ (names : List (Str × NameKind)) (acc : List (Str × Addr)), (∀ n, (n, NameKind.free) ∈ names → ∃ c, env.cells.lookup n = some c) → (∀ x c, acc.lookup x = some c → env.cells.lookup x = some c) → (closL env names acc).lookup x = some c → env.cells.lookup x = some c
  | [], acc, _, h, e => h x c e
  | (n, kd) :: r, acc, hf, h, e => by
    unfold closL at e
    split at e
    · rename_i hk
      refine closL_from hs r _ (fun m hm => hf m (List.mem_cons_of_mem _ hm)) ?_ e
      intro y c' hy
      rw [List.lookup_cons] at hy
      cases ey : y == n <;> rw [ey] at hy <;> simp only [Option.some.injEq] at hy
      · exact h y c' hy
      · have : kd = .free := beq_iff_eq.mp hk
        subst this
        obtain ⟨c'', h''⟩ := hf n (by simp)
        rw [beq_iff_eq.mp ey, h'']
        rw [h''] at hy; simpa using hy
    · exact closL_from hs r _ (fun m hm => hf m (List.mem_cons_of_mem _ hm)) h e

theorem closL_mem {env : Env} {x : Str} {c : Addr} : ∀ (names : List (Str × NameKind)) (acc : List (Str × Addr)), (closL env names acc).lookup x = some c → (x, NameKind.free) ∈ names ∨ acc.lookup x = some c
  | [], acc, e => .inr e
  | (n, kd) :: r, acc, e => by
    unfold closL at e
    split at e
    · rename_i hk
      have : kd = .free := beq_iff_eq.mp hk
      subst this
      rcases closL_mem r _ e with h | h
      · exact .inl (List.mem_cons_of_mem _ h)
      · rw [List.lookup_cons] at h
        cases ey : x == n <;> rw [ey] at h <;> simp only [Option.some.injEq] at h
        · exact .inr h
        · left; rw [beq_iff_eq.mp ey]; exact List.mem_cons_self
    · rcases closL_mem r _ e with h | h
      · exact .inl (List.mem_cons_of_mem _ h)
      · exact .inr h
theorem closureFor_eq {env : Env} {scope : Scope} (hf : ∀ n, (n, NameKind.free) ∈ scope.names → ∃ c, env.cells.lookup n = some c) : closureFor scope env = pure (closL env scope.names []) := by
  have key : ∀ (names : List (Str × NameKind)) (acc : List (Str × Addr)), (∀ n, (n, NameKind.free) ∈ names → ∃ c, env.cells.lookup n = some c) →
      (forIn names acc fun (x : Str × NameKind) (r : List (Str × Addr)) => (if (x.2 == NameKind.free) = true then do let c ← cellOf env x.1; pure (ForInStep.yield ((x.1, c) :: r)) else pure (ForInStep.yield r) : Sem (ForInStep (List (Str × Addr))))) = pure (closL env names acc) := by
    intro names
    induction names with
    | nil => intro acc _; rfl
    | cons x r ih =>
      obtain ⟨n, kd⟩ := x
      intro acc hf
      rw [List.forIn_cons]
      unfold closL
      by_cases hk : (kd == NameKind.free) = true
      · have : kd = .free := beq_iff_eq.mp hk
        subst this
        obtain ⟨c, hc⟩ := hf n (by simp)
        have e : cellOf env n = pure c := by unfold cellOf; rw [hc]
        simp only [hk, if_true, e, hc, Option.getD_some]
        exact ih _ fun m hm => hf m (List.mem_cons_of_mem _ hm)
      · simp only [hk, if_false, Bool.false_eq_true]
        exact ih _ fun m hm => hf m (List.mem_cons_of_mem _ hm)
  have := key scope.names [] hf
  simp only [closureFor]
  rw [show (forIn scope.names ([] : List (Str × Addr)) _ : Sem (List (Str × Addr))) = pure (closL env scope.names []) from this]
  rfl

noncomputable def cenvOf (scope : Scope) (cl : List (Str × Addr)) (L : Addr) (env : Env) : Env :=
  { scope := relabel scope env, locals := L, globals := env.globals, cells := cellsFrom (L + 1) scope.names cl, qual := env.qual, func := none, code := env.code, frame := env.frame, builtins := env.builtins }

theorem newCompEnv {M : Model} {A : Around} {E : Value → Shared → Prop} {s : Shared} {scope : Scope} {cl : List (Str × Addr)} {env : Env} {Q : Env → Shared → Prop}
    (h : ∀ cenv : Env, { cenv with scope := relabel scope env } = cenvOf scope cl s.heap.objs.size env → cenv.locals = s.heap.objs.size → Q cenv { s with heap := pushCells (s.heap.push { cls := .type "dict", data := .dict #[] }) scope.names }) :
    wpAny M A (newFunctionEnv scope env.globals cl [] env.qual none .none (some env)) Q E s := by
  simp only [newFunctionEnv, Option.isSome_some, if_true]
  refine wpAny_bind (wpAny_alloc ?_)
  refine wpAny_bind (wpAny_layCells _ (fun name kind cells => by cases hkc : kind == NameKind.cell <;> simp [hkc]) _ _ _ _ ?_)
  rw [show ({ s with heap := s.heap.push { cls := .type "dict", data := .dict #[] } } : Shared).heap.objs.size = s.heap.objs.size + 1 from Heap.size_push ..]
  rw [List.forIn_nil]
  refine wpAny_bind (wpAny_pure (wpAny_pure (h _ rfl rfl)))

theorem Items.snoc {Xc Y : Addr → Prop} {h : Heap} {vs : List Value} {rs : List (D × Mode)} {g : List Addr} (i : Items Xc Y h vs rs g) {v : Value} {d : D} {m : Mode} {f : List Addr} (q : Items Xc Y h [v] [(d, m)] f) : Items Xc Y h (vs ++ [v]) (rs ++ [(d, m)]) (g ++ f) := by
  induction vs generalizing rs g with
  | nil => cases i; exact q
  | cons u vs ih =>
    cases i with
    | fresh a b => have := ih b; simpa using Items.fresh a this
    | shared a b => exact .shared a (ih b)
    | borrow a b => exact .borrow a (ih b)
theorem Items.stab {Xc Y : Addr → Prop} {h h' : Heap} (hXY : ∀ a, Xc a → Y a) (st : Stab Xc h h') {vs : List Value} {rs : List (D × Mode)} {g : List Addr} (i : Items Xc Y h vs rs g) (hk : ∀ a o, a ∈ g → h.get? a = some o → h'.get? a = some o) : Items Xc Y h' vs rs g := by
  have st' : Stab Y h h' := fun a o items n hy => st a o items n fun e => hy (hXY a e)
  induction vs generalizing rs g with
  | nil => cases i; exact .nil
  | cons u vs ih =>
    cases i with
    | fresh a b => exact .fresh (a.stab st' fun x o hx e => hk x o (by simp [hx]) e) (ih b fun x o hx e => hk x o (by simp [hx]) e)
    | shared a b => exact .shared (a.stab st') (ih b hk)
    | borrow a b => exact .borrow (a.stab st) (ih b hk)
theorem Items.more {Xc Y Y' : Addr → Prop} {h : Heap} (h2 : ∀ a, Y' a → Y a ∨ h.get? a = none) {vs : List Value} {rs : List (D × Mode)} {g : List Addr} (i : Items Xc Y h vs rs g) : Items Xc Y' h vs rs g := by
  induction vs generalizing rs g with
  | nil => cases i; exact .nil
  | cons v vs ih =>
    cases i with
    | fresh a b => exact .fresh (a.more h2) (ih b)
    | shared a b => exact .shared (a.more h2) (ih b)
    | borrow a b => exact .borrow a (ih b)

/-- the store of a name -/
theorem store_var {A : Around} {env : Env} {s : Shared} {m : Str → Option Value} {x : Str} {v : Value} {Q : Unit → Shared → Prop} {M : Model} {E : Value → Shared → Prop} (F : Fm env s.heap m) (hk : env.scope.kind = .function)
    (hx : env.kindOf x = some .local ∨ env.kindOf x = some .cell)
    (hQ : ∀ h' tk, Fm env h' (fun y => if y = x then some v else m y) → (∀ a o, s.heap.get? a = some o → a ≠ env.locals → (∀ c, env.kindOf x = some .cell → env.cells.lookup x = some c → a ≠ c) → h'.get? a = some o) →
      (∀ X, Stab X s.heap h') → (∀ a o vs, s.heap.get? a = some o → o.data = .fields vs → h'.get? a = some o) → (∀ a, h'.get? a = none → s.heap.get? a = none) → Q () { s with heap := h', toks := tk }) : wpAny M A (storeName env x v) Q E s := by
  obtain ⟨ml, hml, hloc⟩ := F.loc
  obtain ⟨oL, es, ep, hoL, hdL, hsk⟩ := id hml
  rcases hx with hx | hx
  · refine wpAny_storeName_local hx hml (fun h' hn hs => hQ h' _ ⟨⟨_, hn, fun y hy => ?_⟩, fun y hy => ?_, F.inj⟩ (fun a o e hne _ => hs.extBut a o hne e) (fun X a o items n _ e hd => hs.extBut a o ?_ e) (fun a o vs e hd => hs.extBut a o ?_ e) (fun a e => ?_)) (by rw [hk]; rfl)
    · by_cases e : y = x
      · simp [e]
      · simp only [if_neg e]; exact hloc y hy
    · obtain ⟨c, h1, h2⟩ := F.cel y hy
      have hyx : y ≠ x := by rintro rfl; rw [hx] at hy; simp at hy
      refine ⟨c, h1, ?_⟩
      rw [if_neg hyx]
      refine h2.sameBut hs ?_
      rintro rfl
      obtain ⟨o', e1, e2⟩ := h2
      rw [hoL] at e1; cases e1; rw [hdL] at e2; cases e2
    · rintro rfl; rw [hoL] at e; cases e; rw [hdL] at hd; cases hd
    · rintro rfl; rw [hoL] at e; cases e; rw [hdL] at hd; cases hd
    · by_cases h1 : a = env.locals
      · subst h1; obtain ⟨o', _, _, q, _⟩ := hn; rw [e] at q; cases q
      · rw [hs.2 a h1] at e; exact e
  · obtain ⟨c, hc, hcell⟩ := F.cel x (.inl hx)
    obtain ⟨oc, hoc, hdc⟩ := id hcell
    refine wpAny_storeName_cell hk hx hc hcell fun h' hcell' hs => hQ h' s.toks ⟨⟨ml, ?_, fun y hy => ?_⟩, fun y hy => ?_, F.inj⟩ (fun a o e _ hne => hs.extBut a o (hne c hx hc) e) (fun X a o items n _ e hd => hs.extBut a o ?_ e) (fun a o vs e hd => hs.extBut a o ?_ e) (fun a e => ?_)
    · refine hml.sameBut hs ?_
      rintro e; rw [e] at hoL; rw [hoL] at hoc; cases hoc; rw [hdL] at hdc; cases hdc
    · have hyx : y ≠ x := by rintro rfl; rw [hx] at hy; cases hy
      simp only [if_neg hyx]; exact hloc y hy
    · obtain ⟨c', h1, h2⟩ := F.cel y hy
      by_cases hyx : y = x
      · subst hyx; rw [hc] at h1; cases h1
        exact ⟨c, hc, by simpa using hcell'⟩
      · refine ⟨c', h1, ?_⟩
        rw [if_neg hyx]
        refine h2.sameBut hs fun e => hyx (F.inj y x c' h1 (e ▸ hc))
    · rintro rfl; rw [hoc] at e; cases e; rw [hdc] at hd; cases hd
    · rintro rfl; rw [hoc] at e; cases e; rw [hdc] at hd; cases hd
    · by_cases h1 : a = c
      · subst h1; obtain ⟨o', q, _⟩ := hcell'; rw [e] at q; cases q
      · rw [hs.2 a h1] at e; exact e


theorem mapO_length {f : D → Option (D × Mode)} : ∀ {ds : List D} {rs : List (D × Mode)}, mapO f ds = some rs → rs.length = ds.length
  | [], rs, h => by simp [mapO] at h; subst h; rfl
  | d :: ds, rs, h => by
    simp only [mapO] at h
    split at h <;> try contradiction
    split at h <;> try contradiction
    rename_i r _ rs' hrs
    simp only [Option.some.injEq] at h; subst h
    simp [mapO_length hrs]
theorem mapO_get {f : D → Option (D × Mode)} : ∀ {ds : List D} {rs : List (D × Mode)}, mapO f ds = some rs → ∀ (i : Nat) (d : D), ds[i]? = some d → ∃ r, rs[i]? = some r ∧ f d = some r
  | [], rs, h, i, d, e => by simp at e
  | d0 :: ds, rs, h, i, d, e => by
    simp only [mapO] at h
    split at h <;> try contradiction
    split at h <;> try contradiction
    rename_i r hr _ rs' hrs
    simp only [Option.some.injEq] at h; subst h
    cases i with
    | zero => simp at e; subst e; exact ⟨r, by simp, hr⟩
    | succ i => simp at e; obtain ⟨r', h1, h2⟩ := mapO_get hrs i d e; exact ⟨r', by simpa using h1, h2⟩

theorem relabel_lookup {scope : Scope} {env : Env} (y : Str) : (relabel scope env).names.lookup y = (scope.names.lookup y).map fun kd => if (kd == .free && env.scope.kind == .function && env.kindOf y == some .cell) then .cell else kd := by
  unfold relabel
  show List.lookup y (scope.names.map _) = _
  induction scope.names with
  | nil => rfl
  | cons p r ih =>
    obtain ⟨n, kd⟩ := p
    simp only [List.map_cons]
    by_cases e : (y == n) = true
    · have : y = n := beq_iff_eq.mp e
      subst this
      split <;> rename_i hc
      · rw [List.lookup_cons, List.lookup_cons]; simp only [beq_self_eq_true, Option.map_some]; rw [if_pos hc]
      · rw [List.lookup_cons, List.lookup_cons]; simp only [beq_self_eq_true, Option.map_some]; rw [if_neg hc]
    · have e' : (y == n) = false := by simpa using e
      split <;> simp only [List.lookup_cons, e'] <;> exact ih

noncomputable def inNames (names : List (Option Str)) (scope : Scope) (x : Str) : List (Option Str) :=
  names.map (fun o => match o with | some y => if scope.names.lookup y = some .free then some y else none | none => none) ++ [some x]

theorem Fm.keep {env : Env} {h h' : Heap} {m : Str → Option Value} (F : Fm env h m) (hL : ∀ o, h.get? env.locals = some o → h'.get? env.locals = some o) (hC : ∀ y c o, (env.kindOf y = some .cell ∨ env.kindOf y = some .free) → env.cells.lookup y = some c → h.get? c = some o → h'.get? c = some o) : Fm env h' m where
  loc := let ⟨ml, ⟨o, es, ep, h1, r⟩, h2⟩ := F.loc; ⟨ml, ⟨o, es, ep, hL o h1, r⟩, h2⟩
  cel := fun y hy => let ⟨c, h1, o, h2, h3⟩ := F.cel y hy; ⟨c, h1, o, hC y c o hy h1 h2, h3⟩
  inj := F.inj

theorem Items.reX {Xc Xc' Y : Addr → Prop} {h : Heap} {vs : List Value} {rs : List (D × Mode)} {g : List Addr} (i : Items Xc Y h vs rs g) (ho : allOk rs = true) : Items Xc' Y h vs rs g := by
  induction vs generalizing rs g with
  | nil => cases i; exact .nil
  | cons v vs ih =>
    cases i with
    | fresh a b => exact .fresh a (ih b (by simpa [allOk] using ho))
    | shared a b => exact .shared a (ih b (by simpa [allOk] using ho))
    | borrow a b => simp [allOk] at ho
theorem Items.aliveL {Xc Y : Addr → Prop} {h : Heap} {vs : List Value} {rs : List (D × Mode)} {g : List Addr} (i : Items Xc Y h vs rs g) : ∀ a ∈ g, ∃ vs n, IsL h a vs n := by
  induction vs generalizing rs g with
  | nil => cases i; simp
  | cons v vs ih =>
    cases i with
    | fresh a b => intro x hx; rcases List.mem_append.mp hx with hx | hx; exact a.aliveL x hx; exact ih b x hx
    | shared a b => exact ih b
    | borrow a b => exact ih b

structure CompSc (names : List (Option Str)) (sc scope : Scope) (x : Str) : Prop where
  ck : scope.kind = .function
  cn : (scope.names.map (·.1)).Nodup
  cx : scope.names.lookup x = some .local ∨ scope.names.lookup x = some .cell
  cf : ∀ y, scope.names.lookup y = some .free → sc.names.lookup y = some .cell ∨ sc.names.lookup y = some .free
  cg : goodName x = true

theorem lookup_mem {names : List (Str × NameKind)} {y : Str} {kd : NameKind} (h : names.lookup y = some kd) : (y, kd) ∈ names := mem_of_lookup h
theorem lookup_of_mem {names : List (Str × NameKind)} {y : Str} {kd : NameKind} (hn : (names.map (·.1)).Nodup) (h : (y, kd) ∈ names) : names.lookup y = some kd := by
  induction names with
  | nil => simp at h
  | cons p r ih =>
    obtain ⟨n, k'⟩ := p
    simp only [List.map_cons, List.nodup_cons] at hn
    rw [List.lookup_cons]
    rcases List.mem_cons.mp h with e | h'
    · cases e; simp
    · have hne : y ≠ n := by rintro rfl; exact hn.1 (List.mem_map.mpr ⟨_, h', rfl⟩)
      have : (y == n) = false := by simpa using hne
      rw [this]; exact ih hn.2 h'

section
variable {prog : Program} {w : World} {h₀ : Heap} {mg mb : Str → Option Value} {k : Nat} {Φ : Tab} {names : List (Option Str)} {sc : Scope}

theorem inner_env {env : Env} {scope : Scope} {cl : List (Str × Addr)} {L : Addr} {x : Str} (EO : EnvOK env sc) (C : CompSc names sc scope x) : EnvOK (cenvOf scope cl L env) scope where
  kind := C.ck
  glo := EO.glo
  bui := EO.bui
  glob := fun y hy => by
    show (relabel scope env).names.lookup y = _
    rw [relabel_lookup, hy]; rfl
  celly := fun y hy => by
    show (relabel scope env).names.lookup y = _ ∨ (relabel scope env).names.lookup y = _
    rw [relabel_lookup]
    rcases hy with hy | hy <;> rw [hy]
    · exact .inl rfl
    · simp only [Option.map_some, Option.some.injEq]
      split
      · exact .inl rfl
      · exact .inr rfl

/-- the cells that a block sees -/
theorem inner_cells {env : Env} {scope : Scope} {L : Addr} {x : Str} {h : Heap} {m : Str → Option Value} (EO : EnvOK env sc) (C : CompSc names sc scope x) (F : Fm env h m) :
    (∀ y, (y, NameKind.free) ∈ scope.names → ∃ c, env.cells.lookup y = some c) ∧
    (∀ y c, (cellsFrom (L + 1) scope.names (closL env scope.names [])).lookup y = some c → (scope.names.lookup y = some .free ∧ env.cells.lookup y = some c) ∨ (scope.names.lookup y = some .cell)) ∧
    (∀ y c, scope.names.lookup y = some .free → env.cells.lookup y = some c → (cellsFrom (L + 1) scope.names (closL env scope.names [])).lookup y = some c) := by
  have h1 : ∀ y, (y, NameKind.free) ∈ scope.names → ∃ c, env.cells.lookup y = some c := fun y hy => by
    obtain ⟨c, e, _⟩ := F.cel y (EO.celly y (C.cf y (lookup_of_mem C.cn hy)))
    exact ⟨c, e⟩
  refine ⟨h1, fun y c hy => ?_, fun y c hf hc => ?_⟩
  · by_cases hm : (y, NameKind.cell) ∈ scope.names
    · exact .inr (lookup_of_mem C.cn hm)
    · rw [cells_not _ _ _ hm] at hy
      left
      rcases closL_mem _ _ hy with h | h
      · exact ⟨lookup_of_mem C.cn h, closL_from (fun _ _ => trivial) _ _ h1 (by simp) hy⟩
      · simp at h
  · rw [cells_not _ _ _ (fun hm => by rw [lookup_of_mem C.cn hm] at hf; cases hf)]
    exact closL_free hc _ _ (.inl (lookup_mem hf))

theorem inNames_get {scope : Scope} {x : Str} {j : Nat} {y : Str} (hj : (inNames names scope x)[j]? = some (some y)) : (names[j]? = some (some y) ∧ scope.names.lookup y = some .free ∧ j < names.length) ∨ (j = names.length ∧ y = x) := by
  unfold inNames at hj
  by_cases hjn : j < names.length
  · rw [List.getElem?_append_left (by simpa using hjn), List.getElem?_map] at hj
    obtain ⟨o, ho1, ho2⟩ := Option.map_eq_some_iff.mp hj
    cases o with
    | none => cases ho2
    | some z =>
      obtain ⟨h1, h2⟩ := ite_some ho2
      cases h2
      exact .inl ⟨ho1, h1, hjn⟩
  · have hl := (List.getElem?_eq_some_iff.mp hj).1
    rw [List.length_append, List.length_map, List.length_singleton] at hl
    have hjl : j = names.length := Nat.le_antisymm (Nat.le_of_lt_succ hl) (Nat.le_of_not_lt hjn)
    subst hjl
    rw [List.getElem?_append_right (by rw [List.length_map]; exact Nat.le_refl _), List.length_map, Nat.sub_self] at hj
    cases hj
    exact .inr ⟨rfl, rfl⟩
theorem innerR_get {ρ : Rho} {d : D} {j : Nat} {sl : Slot} (h : (innerR ρ ++ [some ⟨false, d⟩])[j]? = some (some sl)) : (j < ρ.length → ∃ d', ρ[j]? = some (some ⟨false, d'⟩) ∧ sl = ⟨false, d'⟩) ∧ (j = ρ.length → sl = ⟨false, d⟩) := by
  have hl : (innerR ρ).length = ρ.length := List.length_map _
  refine ⟨fun hj => ?_, fun hj => ?_⟩
  · rw [List.getElem?_append_left (by rw [hl]; exact hj)] at h
    unfold innerR at h
    rw [List.getElem?_map] at h
    obtain ⟨o, h1, h2⟩ := Option.map_eq_some_iff.mp h
    cases o with
    | none => cases h2
    | some t =>
      obtain ⟨b, d'⟩ := t
      cases b with
      | true => cases h2
      | false => cases h2; exact ⟨d', h1, rfl⟩
  · rw [List.getElem?_append_right (by rw [hl, hj]; exact Nat.le_refl _), hl, hj, Nat.sub_self] at h
    cases h; rfl
/-- the frame of the block -/
theorem inner_frame {env CE : Env} {hb h h' : Heap} {Xc Yc : Addr → Prop} {fp : Nat → List Addr} {ρ : Rho} {scope : Scope} {x : Str} {m m' : Str → Option Value} {v : Value} {d : D}
    (C : CompSc names sc scope x) (EO' : EnvOK CE scope) (F : Frame names env hb h Xc fp ρ) (hvars : ∀ (i : Nat) (x : Str) (s : Slot), names[i]? = some (some x) → ρ[i]? = some (some s) → ∃ v, m x = some v ∧ (s.own = true → OwnT (Ys Xc fp) h v s.d (fp i)) ∧ (s.own = false → Rep (Ys Xc fp) h v s.d))
    (hF : Fm CE h' (fun y => if y = x then some v else m' y)) (hJ : ∀ y, scope.names.lookup y = some .free → m' y = m y) (hxk : CE.kindOf x = some .local ∨ CE.kindOf x = some .cell) (hxf : scope.names.lookup x ≠ some .free)
    (hold : ∀ v d, Rep (Ys Xc fp) h v d → Rep (Ys Yc fun _ => []) h' v d) (hv : Rep (Ys Yc fun _ => []) h' v d) (hal : ∀ a, Yc a → ∃ o, h'.get? a = some o) (hbase : Ext hb h') (hL : hb.get? CE.locals = none) (hC : ∀ y c, CE.cells.lookup y = some c → hb.get? c = none) :
    Frame (inNames names scope x) CE hb h' Yc (fun _ => []) (innerR ρ ++ [some ⟨false, d⟩]) where
  len := by simp [inNames, innerR, F.len]
  fm := ⟨_, hF, fun j y sl hj hsl => by
    obtain ⟨k1, k2⟩ := innerR_get hsl
    rcases inNames_get hj with ⟨a1, a2, a3⟩ | ⟨a1, a2⟩
    · obtain ⟨d', e1, e2⟩ := k1 (F.len ▸ a3)
      obtain ⟨vv, e3, _, e4⟩ := hvars j y _ a1 e1
      subst e2
      have hyx : y ≠ x := fun e => hxf (e ▸ a2)
      exact ⟨vv, (if_neg hyx).trans ((hJ y a2).trans e3), fun h => (by cases h), fun _ => hold _ _ (e4 rfl)⟩
    · cases k2 (a1.trans F.len)
      exact ⟨v, if_pos a2, fun h => (by cases h), fun _ => hv⟩⟩
  kinds := fun j y hj => by
    rcases inNames_get hj with ⟨_, a2, _⟩ | ⟨_, a2⟩
    · exact .inr (EO'.celly _ (.inr a2))
    · subst a2; exact hxk.imp id .inl
  uniq := fun j j' y hj hj' => by
    rcases inNames_get hj with ⟨a1, a2, a3⟩ | ⟨a1, a2⟩ <;> rcases inNames_get hj' with ⟨b1, b2, b3⟩ | ⟨b1, b2⟩
    · exact F.uniq j j' y a1 b1
    · exact absurd a2 (b2 ▸ hxf)
    · exact absurd b2 (a2 ▸ hxf)
    · exact a1.trans b1.symm
  good := fun j y hj => by
    rcases inNames_get hj with ⟨a1, _, _⟩ | ⟨_, a2⟩
    · exact F.good _ _ a1
    · subst a2; simpa [goodName] using C.cg
  nod := fun _ => .nil
  dis := fun _ _ _ h => (by cases h)
  offX := fun _ _ h => (by cases h)
  aliveX := hal
  aliveF := fun _ _ h => (by cases h)
  base := hbase
  Ld := hL
  Cd := hC
  Fd := fun _ _ h => (by cases h)
/-- what stands between the turns -/
structure CInv (s : Shared) (ds : List D) (rs : List (D × Mode)) (Xc : Addr → Prop) (fp : Nat → List Addr) (scope : Scope) (CE : Env) (I a0 : Addr) (h2 : Heap) (St : Nat → Heap → Prop) (m : Str → Option Value) (kk : Nat) (s' : Shared) (i : Nat) (h : Heap) (tk : Nat) (vs : List Value) (nn : Nat) (G : List Addr) (m' : Str → Option Value) : Prop where
  sh : s' = { s with heap := h, toks := tk }
  le : i ≤ ds.length
  kk : kk = ds.length + 1 - i
  st : St i h
  acc : IsL h a0 vs.toArray nn
  fm : Fm CE h m'
  fr : ∀ y, scope.names.lookup y = some .free → m' y = m y
  kp : ∀ a o, h2.get? a = some o → a ≠ I → h.get? a = some o
  gn : G.Nodup
  gd : ∀ a ∈ G, h2.get? a = none
  ga : a0 ∉ G
  it : Items (fun a => Ys Xc fp a ∨ a = a0 ∨ a ∈ G) (fun a => Ys Xc fp a ∨ a = a0 ∨ a ∈ G) h vs (rs.take i) G

theorem comp_core {A : Around} {env : Env} {s : Shared} {hb : Heap} {Xc : Addr → Prop} {fp : Nat → List Addr} {ρ : Rho} {scope : Scope} {x : Str} {px pos : Pos} {elt iter : Expr} {me : ME} {ds : List D} {rs : List (D × Mode)}
    {I : Addr} {h2 : Heap} {t2 : Nat} {fpI : List Addr} {P : Nat → Value → Prop} {St : Nat → Heap → Prop} {RR : Value → Addr → Result → Shared → Prop}
    (C : CompSc names sc scope x) (He : EvOK prog w h₀ k Φ (inNames names scope x) scope elt me)
    (R : Room A k) (EO : EnvOK env sc) (X : Ext h₀ s.heap) (F : Frame names env hb s.heap Xc fp ρ)
    (x2 : Ext s.heap h2) (hI : s.heap.get? I = none) (hSt : ∀ i h, St i h → ∃ o vs, h.get? I = some o ∧ o.data = .fields vs) (Wk : Walks prog w A I fpI [I] ds.length P St) (st0 : St 0 h2)
    (hfp : ∀ b ∈ fpI, b = I ∨ ((∃ vs n, IsL h2 b vs n) ∧ ¬ Ys Xc fp b)) (hlen : ds.length ≤ lim) (hP : ∀ (i : Nat) (v : Value) (d : D), ds[i]? = some d → P i v → Rep (Ys Xc fp) h2 v d)
    (hm : mapO (fun d => evE Φ me (innerR ρ ++ [some ⟨false, d⟩])) ds = some rs) (hok : allOk rs = true)
    (hRR : ∀ acc L h' tk, s.heap.get? L = none → (∃ m, h'.Ns L m) → (∀ a o, s.heap.get? a = some o → h'.get? a = some o) → 
      (∀ h'', (∀ a o, h'.get? a = some o → a ≠ L → h''.get? a = some o) → Ext s.heap h'' ∧ Res (if rs.all (fun r => r.2 == .fresh) then .fresh else .shared) Xc fp s.heap h'' (.ref acc) (.list (rs.map (·.1)))) → RR (.ref acc) L (.ok .next) { s with heap := h', toks := tk }) :
    wpAny (model prog w) A (newList []) (fun acc s₃ => wpAny (model prog w) A (newFunctionEnv scope env.globals (closL env scope.names []) [] env.qual none .none (some env)) (fun cenv s₄ =>
      codeAny (model prog w) A (.compStart (.ListComp elt [⟨.Name x px, iter, [], 0⟩] scope pos) 0 (.ref I) acc { cenv with scope := relabel scope env }) (RR acc cenv.locals) s₄) NoE s₃) NoE { s with heap := h2, toks := t2 } := by
  refine wpAny_newObj_type (newCompEnv fun cenv hcenv hcl => ?_)
  rw [hcenv, hcl]
  dsimp only
  generalize ha0 : h2.objs.size = a0
  generalize hH3 : h2.push { cls := .type "list", dict := none, data := .seq ([] : List Value).toArray } = h3
  have hs3 : h3.objs.size = a0 + 1 := by rw [← hH3, Heap.size_push, ha0]
  generalize hL : h3.objs.size = L
  have hLa : L = a0 + 1 := by rw [← hL, hs3]
  generalize hH4 : h3.push { cls := .type "dict", data := .dict #[] } = h4'
  have hs4 : h4'.objs.size = L + 1 := by rw [← hH4, Heap.size_push, hL]
  generalize hH5 : pushCells h4' scope.names = h4
  have x23 : Ext h2 h3 := by rw [← hH3]; exact (Ext.refl _).push _
  have x34 : Ext h3 h4' := by rw [← hH4]; exact (Ext.refl _).push _
  have x45 : Ext h4' h4 := by rw [← hH5]; exact fun b o e => pushCells_keeps _ _ b o e
  have x24 : Ext h2 h4 := (x23.trans x34).trans x45
  have x04 : Ext s.heap h4 := x2.trans x24
  obtain ⟨m, hFm, hvars⟩ := F.fm
  obtain ⟨cl1, cl2, cl3⟩ := inner_cells (L := L) EO C hFm
  generalize hCE : cenvOf scope (closL env scope.names []) L env = CE
  have CEl : CE.locals = L := by rw [← hCE]; rfl
  have CEc : CE.cells = cellsFrom (L + 1) scope.names (closL env scope.names []) := by rw [← hCE]; rfl
  have CEk : ∀ y, CE.kindOf y = (scope.names.lookup y).map fun kd => if (kd == .free && env.scope.kind == .function && env.kindOf y == some .cell) then .cell else kd := by
    intro y; rw [← hCE]; exact relabel_lookup y
  have EO' : EnvOK CE scope := by rw [← hCE]; exact inner_env EO C
  have dead2 : ∀ a, h2.objs.size ≤ a → h2.get? a = none := fun a ha => by
    cases e : h2.get? a with
    | none => rfl
    | some o => exact absurd (Heap.lt_size e) (Nat.not_lt.mpr ha)
  have da0 : h2.get? a0 = none := dead2 _ (Nat.le_of_eq ha0)
  have dL : h2.get? L = none := dead2 _ (by rw [hLa, ha0]; exact Nat.le_succ _)
  have hILt : @LT.lt Nat _ I h2.objs.size := by obtain ⟨o, _, e, _⟩ := hSt 0 h2 st0; exact Heap.lt_size e
  have hIa0 : I ≠ a0 := by rw [← ha0]; exact Nat.ne_of_lt hILt
  have hIL : I ≠ L := by rw [hLa, ← ha0]; exact Nat.ne_of_lt (Nat.lt_succ_of_lt hILt)
  have hIa2 : ∃ o vs, h2.get? I = some o ∧ o.data = .fields vs := hSt 0 h2 st0
  -- the block's own cells are new, the others are the frame's
  have cellNew : ∀ y c, CE.cells.lookup y = some c → (scope.names.lookup y = some .free ∧ env.cells.lookup y = some c ∧ s.heap.IsCell c (m y)) ∨ (scope.names.lookup y = some .cell ∧ L + 1 ≤ c ∧ h4.IsCell c none) := by
    intro y c hc
    rw [CEc] at hc
    rcases cl2 y c hc with ⟨h1, h1'⟩ | h1
    · obtain ⟨c', e1, e2⟩ := hFm.cel y (EO.celly y (C.cf y h1))
      rw [h1'] at e1; cases e1
      exact .inl ⟨h1, h1', e2⟩
    · have := cells_own (x := y) scope.names h4' (closL env scope.names []) C.cn (lookup_mem h1)
      rw [hs4, hc, hH5] at this
      obtain ⟨c', e1, e2, e3⟩ := this
      cases e1
      exact .inr ⟨h1, e3, e2⟩
  have cellI : ∀ y c, CE.cells.lookup y = some c → c ≠ I ∧ c ≠ a0 := by
    intro y c hc
    rcases cellNew y c hc with ⟨_, _, o, e, _⟩ | ⟨_, h1, _⟩
    · refine ⟨?_, ?_⟩
      · exact ne_dead hI e
      · rintro rfl; rw [x2 _ _ e] at da0; cases da0
    · refine ⟨?_, ?_⟩
      · rintro rfl; rw [hLa, ← ha0] at h1; omega
      · rintro rfl; omega
  have Fm0 : Fm CE h4 (fun y => if scope.names.lookup y = some .free then m y else none) := by
    refine ⟨⟨fun _ => none, ?_, fun y hy => ?_⟩, fun y hy => ?_, ?_⟩
    · rw [CEl]
      have := (Heap.Ns.new h3 (.type "dict"))
      rw [hL, hH4] at this
      exact this.keeps x45
    · rw [CEk] at hy
      rw [if_neg]
      intro hf; rw [hf] at hy
      simp only [Option.map_some, Option.some.injEq] at hy
      split at hy <;> cases hy
    · have : scope.names.lookup y = some .free ∨ scope.names.lookup y = some .cell := by
        rw [CEk] at hy
        cases hk : scope.names.lookup y with
        | none => rw [hk] at hy; simp at hy
        | some kd =>
          rw [hk] at hy
          simp only [Option.map_some, Option.some.injEq] at hy
          cases kd <;> simp_all
      rcases this with hf | hc
      · obtain ⟨c, e1, e2⟩ := hFm.cel y (EO.celly y (C.cf y hf))
        refine ⟨c, by rw [CEc]; exact cl3 y c hf e1, ?_⟩
        rw [if_pos hf]; exact e2.keeps x04
      · have := cells_own (x := y) scope.names h4' (closL env scope.names []) C.cn (lookup_mem hc)
        rw [hs4, hH5] at this
        obtain ⟨c, e1, e2, e3⟩ := this
        refine ⟨c, by rw [CEc]; exact e1, ?_⟩
        rw [if_neg (by rw [hc]; simp)]; exact e2
    · rw [CEc]
      refine cells_inj _ _ _ (fun y z c hy hz => ?_) (fun y c hy => ?_)
      · exact hFm.inj y z c (closL_from (fun _ _ => trivial) _ _ cl1 (by simp) hy) (closL_from (fun _ _ => trivial) _ _ cl1 (by simp) hz)
      · rcases closL_mem _ _ hy with h | h
        · have e := closL_from (fun _ _ => trivial) _ _ cl1 (by simp) hy
          obtain ⟨c', e1, o, e2, _⟩ := hFm.cel y (EO.celly y (C.cf y (lookup_of_mem C.cn h)))
          rw [e] at e1; cases e1
          have : @LT.lt Nat _ c h2.objs.size := Heap.lt_size (x2 _ _ e2)
          show @LT.lt Nat _ c (L + 1)
          rw [hLa, ← ha0]; omega
        · simp at h
  have acc0 : IsL h4 a0 ([] : List Value).toArray 0 := by
    refine (x34.trans x45) _ _ ?_
    rw [← hH3, ← ha0]; exact Heap.get?_push_size _ rfl
  have hxk : CE.kindOf x = some .local ∨ CE.kindOf x = some .cell := by
    rw [CEk]
    rcases C.cx with e | e <;> rw [e]
    · exact .inl rfl
    · exact .inr rfl
  have hxf : scope.names.lookup x ≠ some .free := by rcases C.cx with e | e <;> rw [e] <;> simp
  -- what stands between the turns
  let Yt : List Addr → Addr → Prop := fun G a => Ys Xc fp a ∨ a = a0 ∨ a ∈ G
  let Inv : Nat → Shared → Prop := fun kk s' => ∃ (i : Nat) (h : Heap) (tk : Nat) (vs : List Value) (nn : Nat) (G : List Addr) (m' : Str → Option Value), CInv s ds rs Xc fp scope CE I a0 h2 St m kk s' i h tk vs nn G m'
  have hrl := mapO_length hm
  have aliveY2 : ∀ a, Ys Xc fp a → ∃ o, s.heap.get? a = some o := F.aliveY
  -- the end
  have fin : ∀ (h : Heap) (vs : List Value) (nn : Nat) (G : List Addr), IsL h a0 vs.toArray nn → (∀ a ∈ G, h2.get? a = none) → G.Nodup → a0 ∉ G → Items (Yt G) (Yt G) h vs rs G →
      Res (if rs.all (fun r => r.2 == .fresh) then .fresh else .shared) Xc fp s.heap h (.ref a0) (.list (rs.map (·.1))) := by
    intro h vs nn G hl gd gn ga it
    split
    · rename_i hf
      refine ⟨a0 :: G, List.nodup_cons.mpr ⟨ga, gn⟩, fun b hb => ?_, .list hl ((it.owns hf).more fun b e => .inl ?_)⟩
      · rcases List.mem_cons.mp hb with rfl | hb
        · exact x2.dead da0
        · exact x2.dead (gd b hb)
      · rcases e with e | e
        · exact .inl e
        · rcases List.mem_cons.mp e with e | e
          · exact .inr (.inl e)
          · exact .inr (.inr e)
    · refine .list (fun e => ?_) hl (it.reps (fun a e => .inl e) hok fun a ha e => ?_)
      · obtain ⟨o, q⟩ := aliveY2 _ e
        rw [x2 _ _ q] at da0; cases da0
      · obtain ⟨o, q⟩ := aliveY2 _ e
        have := gd a ha; rw [x2 _ _ q] at this; cases this
  have loop : ∀ tk, codeAny (model prog w) A (.compLoop (.ListComp elt [⟨.Name x px, iter, [], 0⟩] scope pos) 0 (.ref I) (.ref a0) CE) (RR (.ref a0) L) { s with heap := h4, toks := tk } := by
    intro tk₀
    refine codeAny_compLoop_list Inv ?_ (ds.length + 1) ⟨0, h4, tk₀, [], 0, [], _, rfl, Nat.zero_le _, rfl, Wk.frame _ _ _ st0 fun b hb o e => x24 _ _ e, acc0, Fm0, fun y hy => if_pos hy, fun a o e _ => x24 _ _ e, .nil, fun _ h => (by cases h), fun h => (by cases h), Items.nil⟩
    rintro kk s' ⟨i, h, tk, vs, nn, G, m', Z⟩
    obtain ⟨rfl, hi, rfl, hst, hacc, hF, hJ, hkp, gn, gd, ga, hit⟩ := Z
    have hIo : ∃ o vs, h.get? I = some o ∧ o.data = .fields vs := hSt i h hst
    have hFL : CE.locals ≠ I := by rw [CEl]; exact hIL.symm
    by_cases hlt : i < ds.length
    · refine Wk.item i _ _ _ hlt hst fun v h1 tk1 hPv hst1 hk1 => ?_
      have k1 : ∀ a o, a ≠ I → h.get? a = some o → h1.get? a = some o := fun a o hne e => hk1 a o (by simpa using hne) e
      have hF1 : Fm CE h1 m' := hF.keep (fun o e => k1 _ o hFL e) fun y c o _ hc e => k1 c o (cellI y c hc).1 e
      refine wpAny_assign_Name (store_var (v := v) hF1 EO'.kind hxk fun h2' tk2 hF2 k2 st2 f2 _ => ?_)
      -- from h to h2': lists and tuples stay
      have seqI : ∀ a o items n, h.get? a = some o → o.data = .seq items n → a ≠ I := fun a o items n e hd => ne_fields hIo e hd
      have sq : ∀ Z, Stab Z h h2' := fun Z a o items n hz e hd => st2 Z a o items n hz (k1 a o (seqI a o items n e hd) e) hd
      have cxL : ∀ c, CE.cells.lookup x = some c → L + 1 ≤ c := by
        intro c hc
        rcases cellNew x c hc with ⟨h1, _⟩ | ⟨_, h1, _⟩
        · exact absurd h1 hxf
        · exact h1
      have kp2 : ∀ a o, h2.get? a = some o → a ≠ I → h2'.get? a = some o := by
        intro a o e hne
        have hlt2 : @LT.lt Nat _ a h2.objs.size := Heap.lt_size e
        refine k2 a o (k1 a o hne (hkp a o e hne)) ?_ ?_
        · rw [CEl, hLa, ← ha0]; exact Nat.ne_of_lt (Nat.lt_succ_of_lt hlt2)
        · intro c _ hc
          have := cxL c hc
          rw [hLa, ← ha0] at this
          exact Nat.ne_of_lt (show @LT.lt Nat _ a c by omega)
      have x02 : Ext s.heap h2' := fun a o e => kp2 a o (x2 _ _ e) (ne_dead hI e)
      have hI2 : ∃ o vs, h2'.get? I = some o ∧ o.data = .fields vs := by
        obtain ⟨o, vs', e, hd⟩ := hSt _ _ hst1
        exact ⟨o, vs', f2 _ _ _ e hd, hd⟩
      have dead2' : ∀ a, h2'.get? a = none → h2.get? a = none := by
        intro a e
        cases e' : h2.get? a with
        | none => rfl
        | some o =>
          by_cases hne : a = I
          · subst hne; obtain ⟨o', _, q, _⟩ := hI2; rw [e] at q; cases q
          · rw [kp2 a o e' hne] at e; cases e
      obtain ⟨d, hd⟩ : ∃ d, ds[i]? = some d := ⟨ds[i], by simp [hlt]⟩
      obtain ⟨r, hr1, hr2⟩ := mapO_get hm i d hd
      obtain ⟨d', m1⟩ := r
      have aG : ∀ a ∈ G, ∃ vs n, IsL h2' a vs n := by
        intro a ha
        obtain ⟨vs', n', e⟩ := hit.aliveL a ha
        exact ⟨vs', n', sq (fun _ => False) a _ _ _ (fun h => h) e rfl⟩
      have acc2 : IsL h2' a0 vs.toArray nn := sq (fun _ => False) a0 _ _ _ (fun h => h) hacc rfl
      have aYt : ∀ a, Yt G a → ∃ o, h2'.get? a = some o := by
        intro a e
        rcases e with e | e | e
        · obtain ⟨o, q⟩ := aliveY2 a e; exact ⟨o, x02 _ _ q⟩
        · subst e; exact ⟨_, acc2⟩
        · obtain ⟨_, _, q⟩ := aG a e; exact ⟨_, q⟩
      have stab22 : ∀ Z, Stab Z h2 h2' := fun Z a o items n hz e hd => kp2 a o e (ne_fields hIa2 e hd)
      have moreYt : ∀ a, Ys (Yt G) (fun _ => []) a → Ys Xc fp a ∨ h2.get? a = none := by
        intro a e
        rcases e with (e | e | e) | ⟨_, e⟩
        · exact .inl e
        · subst e; exact .inr da0
        · exact .inr (gd a e)
        · simp at e
      have FI : Frame (inNames names scope x) CE hb h2' (Yt G) (fun _ => []) (innerR ρ ++ [some ⟨false, d⟩]) := by
        refine inner_frame C EO' F hvars hF2 hJ hxk hxf (fun v d e => ((e.ext x2).more moreYt).stab (stab22 _)) (((hP i v d hd hPv).more moreYt).stab (stab22 _)) aYt (F.base.trans x02) ?_ fun y c hc => ?_
        · rw [CEl]; exact F.base.dead (x2.dead dL)
        · rcases cellNew y c hc with ⟨_, h1, _⟩ | ⟨_, h1, _⟩
          · exact F.Cd y c h1
          · exact F.base.dead (x2.dead (dead2 c (by rw [hLa, ← ha0] at h1; exact Nat.le_of_succ_le (Nat.le_of_succ_le h1))))
      refine wpAny_noE (He A CE { s with heap := h2', toks := tk2 } hb (Yt G) (fun _ => []) _ d' m1 R EO' (X.trans x02) FI hr2 _ fun v' h5 t5 x5 r5 => ?_)
      have hsz : vs.toArray.size ≤ sizeLine := by
        have e1 := hit.length
        have : (rs.take i).length ≤ ds.length := by simp; omega
        simp only [List.size_toArray, sizeLine, lim] at *; omega
      refine wpAny_list_append_plain (hsz := hsz) ⟨nn, x5 _ _ acc2⟩ fun h6 hl6 hs6 => ?_
      obtain ⟨nn', hl6⟩ := hl6
      have kp6 : ∀ a o, h2.get? a = some o → a ≠ I → h6.get? a = some o := fun a o e hne => hs6.extBut a o (ne_dead da0 e) (x5 _ _ (kp2 a o e hne))
      have hst6 : St (i + 1) h6 := by
        refine Wk.frame _ _ _ hst1 fun b hb o e => ?_
        rcases hfp b hb with rfl | ⟨⟨vs', n', hb2⟩, hby⟩
        · obtain ⟨o', vs', e', hd'⟩ := hSt _ _ hst1
          rw [e] at e'; cases e'
          exact hs6.extBut _ o hIa0 (x5 _ _ (f2 _ _ _ e hd'))
        · have hbI : b ≠ I := ne_fields hIa2 hb2 rfl
          have e1 := kp6 b _ hb2 hbI
          have e2 := k1 b _ hbI (hkp b _ hb2 hbI)
          rw [e] at e2; cases e2
          exact e1
      have hF6 : Fm CE h6 (fun y => if y = x then some v else m' y) := by
        refine (hF2.ext x5).keep (fun o e => hs6.extBut _ o ?_ e) fun y c o _ hc e => hs6.extBut c o (cellI y c hc).2 e
        rw [CEl, hLa]; exact Nat.succ_ne_self _
      have st6 : Stab (fun a => a = a0) h2' h6 := fun a o items n hne e hd => hs6.extBut a o hne (x5 _ _ e)
      have hit2 : Items (Yt G) (Yt G) h2' vs (rs.take i) G := hit.stab (fun _ e => e) (sq _) fun a o ha e => by
        obtain ⟨_, _, q⟩ := hit.aliveL a ha
        rw [IsL, e] at q; cases q
        exact sq (fun _ => False) a _ _ _ (fun h => h) e rfl
      have htake : rs.take (i + 1) = rs.take i ++ [(d', m1)] := by rw [List.take_add_one, hr1]; rfl
      have okI : allOk (rs.take i) = true := by
        unfold allOk at *; rw [List.all_eq_true] at *; exact fun r hr => hok r (List.mem_of_mem_take hr)
      have hm1 : m1 ≠ .borrow := by
        have : (d', m1) ∈ rs := List.mem_of_getElem? hr1
        unfold allOk at hok; rw [List.all_eq_true] at hok
        simpa using hok _ this
      refine ⟨ds.length + 1 - (i + 1), by omega, i + 1, h6, t5, vs ++ [v'], nn', ?_⟩
      have hl6' : IsL h6 a0 (vs ++ [v']).toArray nn' := by simpa using hl6
      have hJ6 : ∀ y, scope.names.lookup y = some .free → (if y = x then some v else m' y) = m y := fun y hy => by
        rw [if_neg (by rintro rfl; exact hxf hy)]; exact hJ y hy
      cases m1 with
      | borrow => exact absurd rfl hm1
      | shared =>
        refine ⟨G, _, rfl, hlt, rfl, hst6, hl6', hF6, hJ6, kp6, gn, gd, ga, ?_⟩
        rw [htake]
        have e1 : Items (Yt G) (Yt G) h6 vs (rs.take i) G := hit2.stab (fun _ e => e) (fun a o items n hz e hd => st6 a o items n (fun e => hz (.inr (.inl e))) e hd) fun a o ha e => by
          obtain ⟨_, _, q⟩ := hit2.aliveL a ha
          rw [IsL, e] at q; cases q
          exact st6 a _ _ _ (by rintro rfl; exact ga ha) e rfl
        have e2 : Rep (Yt G) h6 v' d' := by
          have : Rep (Ys (Yt G) (fun _ => [])) h5 v' d' := r5
          refine (this.sub fun a e => .inl e).stab fun a o items n hz e hd => hs6.extBut a o (fun e => hz (.inr (.inl e))) e
        have e3 : Items (Yt G) (Yt G) h6 [v'] [(d', .shared)] [] := .shared e2 .nil
        simpa using e1.snoc e3
      | fresh =>
        obtain ⟨g5, gn5, gd5, o5⟩ := r5
        have disj : ∀ a ∈ G, a ∉ g5 := fun a ha hb => by
          obtain ⟨_, _, q⟩ := aG a ha
          have := gd5 a hb
          rw [IsL, this] at q; cases q
        have a0g5 : a0 ∉ g5 := fun hb => by
          have := gd5 a0 hb
          rw [IsL, this] at acc2; cases acc2
        refine ⟨G ++ g5, _, rfl, hlt, rfl, hst6, hl6', hF6, hJ6, kp6, List.nodup_append.mpr ⟨gn, gn5, fun a ha b hb e => disj a ha (e ▸ hb)⟩, ?_, ?_, ?_⟩
        · intro a ha
          rcases List.mem_append.mp ha with ha | ha
          · exact gd a ha
          · exact dead2' a (gd5 a ha)
        · simp [ga, a0g5]
        · rw [htake]
          have hit2' : Items (Yt (G ++ g5)) (Yt (G ++ g5)) h2' vs (rs.take i) G := (hit2.more fun a e => by
            rcases e with e | e | e
            · exact .inl (.inl e)
            · exact .inl (.inr (.inl e))
            · rcases List.mem_append.mp e with e | e
              · exact .inl (.inr (.inr e))
              · exact .inr (gd5 a e)).reX okI
          have e1 : Items (Yt (G ++ g5)) (Yt (G ++ g5)) h6 vs (rs.take i) G := hit2'.stab (fun _ e => e) (fun a o items n hz e hd => st6 a o items n (fun e => hz (.inr (.inl e))) e hd) fun a o ha e => by
            obtain ⟨_, _, q⟩ := hit2.aliveL a ha
            rw [IsL, e] at q; cases q
            exact st6 a _ _ _ (by rintro rfl; exact ga ha) e rfl
          have e2 : OwnT (Yt (G ++ g5)) h6 v' d' g5 := by
            have q1 : OwnT (Yt (G ++ g5)) h5 v' d' g5 := o5.more fun a e => .inl (by
              rcases e with e | e | e
              · exact .inl (.inl (.inl e))
              · exact .inl (.inl (.inr (.inl e)))
              · rcases List.mem_append.mp e with e | e
                · exact .inl (.inl (.inr (.inr e)))
                · exact .inr e)
            exact q1.stab (fun a o items n hz e hd => hs6.extBut a o (fun e => hz (.inr (.inl e))) e) fun a o ha e => hs6.extBut a o (by rintro rfl; exact a0g5 ha) e
          have e3 : Items (Yt (G ++ g5)) (Yt (G ++ g5)) h6 [v'] [(d', .fresh)] g5 := by simpa using Items.fresh e2 Items.nil
          exact e1.snoc e3
    · have hin : i = ds.length := by omega
      subst hin
      refine Wk.done _ _ _ hst fun h1 tk1 hk1 => ?_
      have k1 : ∀ a o, a ≠ I → h.get? a = some o → h1.get? a = some o := fun a o hne e => hk1 a o (by simpa using hne) e
      have seqI : ∀ a o items n, h.get? a = some o → o.data = .seq items n → a ≠ I := fun a o items n e hd => ne_fields hIo e hd
      rw [List.take_of_length_le (by omega)] at hit
      refine hRR a0 L h1 tk1 (x2.dead dL) ?_ ?_ ?_
      · obtain ⟨ml, hml, _⟩ := (hF.keep (h' := h1) (fun o e => k1 _ o hFL e) fun y c o _ hc e => k1 c o (cellI y c hc).1 e).loc
        exact ⟨ml, CEl ▸ hml⟩
      · intro a o e
        exact k1 a o (ne_dead hI e) (hkp a o (x2 _ _ e) (ne_dead hI e))
      · intro h'' hk''
        have seqL : ∀ a o items n, h.get? a = some o → o.data = .seq items n → a ≠ L := by
          rintro a o items n e hd rfl
          obtain ⟨ml, ⟨oL, es, ep, q, qd, _⟩, _⟩ := hF.loc
          rw [CEl, e] at q; cases q; rw [hd] at qd; cases qd
        have sq : ∀ Z, Stab Z h h'' := fun Z a o items n hz e hd => hk'' a o (k1 a o (seqI a o items n e hd) e) (seqL a o items n e hd)
        refine ⟨fun a o e => ?_, fin h'' vs nn G (sq (fun _ => False) a0 _ _ _ (fun h => h) hacc rfl) gd gn ga (hit.stab (fun _ e => e) (sq _) fun a o ha e => ?_)⟩
        · have hne : a ≠ I := ne_dead hI e
          refine hk'' a o (k1 a o hne (hkp a o (x2 _ _ e) hne)) ?_
          rintro rfl; rw [x2 _ _ e] at dL; cases dL
        · obtain ⟨_, _, q⟩ := hit.aliveL a ha
          rw [IsL, e] at q; cases q
          exact sq (fun _ => False) a _ _ _ (fun h => h) e rfl
  have hst4 : St 0 h4 := Wk.frame _ _ _ st0 fun b hb o e => x24 _ _ e
  exact codeAny_compStart_list (loop _) (Wk.self 0 _ _ _ hst4 (loop _))
end


section
variable {prog : Program} {w : World} {h₀ : Heap} {mg mb : Str → Option Value} {k : Nat} {Φ : Tab} {names : List (Option Str)} {sc : Scope}

theorem names_loc {scope : Scope} (hn : (scope.names.map (·.1)).Nodup) : ∀ y ∈ scope.names, y.2 = .local → scope.names.lookup y.1 = some .local := fun y hy e => lookup_of_mem hn (by rw [← e]; exact hy)

theorem ev_comp {iter elt : Expr} {mi : MI} {me : ME} {x : Str} {px pos : Pos} {scope : Scope} (C : CompSc names sc scope x) (Hi : EiOK prog w h₀ k Φ names sc iter mi) (He : EvOK prog w h₀ k Φ (inNames names scope x) scope elt me)
    (hs : ∀ env y, foldedSetIterable iter env y = pure y) : EvOK prog w h₀ k Φ names sc (.ListComp elt [⟨.Name x px, iter, [], 0⟩] scope pos) (.comp mi me) := by
  intro A env s hb Xc fp ρ d m R EO X F he Q hQ
  simp only [evE] at he
  split at he <;> try contradiction
  rename_i ds hds
  split at he <;> try contradiction
  rename_i rs hrs
  unfold lstD at he
  split at he <;> try contradiction
  rename_i hc
  cases he
  obtain ⟨m, hFm, _⟩ := F.fm
  rw [eval_ListComp]
  refine wpAny_comprehension_free (use := none) rfl (hs env) (closureFor_eq (inner_cells (L := 0) EO C hFm).1) C.ck (names_loc C.cn) ?_
  refine Hi A env s hb Xc fp ρ ds R EO X F hds _ fun I h2 t2 fpI P St x2 hI hSt Wk st0 hfp hlen hP => ?_
  refine comp_core C He R EO X F x2 hI hSt Wk st0 hfp hlen hP hrs hc.1 fun acc L h' tk hL hns hext hres => ?_
  obtain ⟨ml, hml⟩ := hns
  refine ⟨ml, hml, fun h'' hs'' => ?_⟩
  obtain ⟨e1, e2⟩ := hres h'' fun a o e hne => hs''.extBut a o hne e
  exact hQ _ h'' tk e1 e2

/-- a name may give its lists up -/
theorem Frame.letGo {env : Env} {hb h : Heap} {Xc : Addr → Prop} {fp : Nat → List Addr} {ρ ρ' : Rho} (F : Frame names env hb h Xc fp ρ) (g : Nat → Bool) (hl : ρ'.length = ρ.length)
    (h1 : ∀ (i : Nat) (s' : Slot), ρ'[i]? = some (some s') → (ρ[i]? = some (some s') ∧ (g i = false ∨ s'.own = false)) ∨ (s'.own = false ∧ g i = true ∧ ρ[i]? = some (some ⟨true, s'.d⟩))) :
    Frame names env hb h Xc (fun i => if g i then [] else fp i) ρ' := by
  have sub : ∀ i a, a ∈ (if g i then [] else fp i) → a ∈ fp i := by
    intro i a ha; split at ha
    · simp at ha
    · exact ha
  have hY : ∀ a, Ys Xc (fun i => if g i then [] else fp i) a → Ys Xc fp a := fun a e => e.imp id fun ⟨i, hi⟩ => ⟨i, sub i a hi⟩
  obtain ⟨m, hm, hv⟩ := F.fm
  refine ⟨by rw [hl]; exact F.len, ⟨m, hm, fun i x s' hn hs => ?_⟩, F.kinds, F.uniq, F.good, fun i => ?_, fun i j a ha hb => F.dis i j a (sub i a ha) (sub j a hb), fun i a ha => F.offX i a (sub i a ha), F.aliveX, fun i a ha => F.aliveF i a (sub i a ha), F.base, F.Ld, F.Cd, fun i a ha => F.Fd i a (sub i a ha)⟩
  · rcases h1 i s' hs with ⟨e1, e2⟩ | ⟨e1, e2, e3⟩
    · obtain ⟨v, q1, q2, q3⟩ := hv i x s' hn e1
      refine ⟨v, q1, fun ho => ?_, fun ho => (q3 ho).sub hY⟩
      rcases e2 with e2 | e2
      · simp only [e2, Bool.false_eq_true, if_false]
        exact (q2 ho).more fun a e => .inl (hY a e)
      · rw [ho] at e2; cases e2
    · obtain ⟨v, q1, q2, _⟩ := hv i x _ hn e3
      refine ⟨v, q1, fun ho => (by rw [e1] at ho; cases ho), fun _ => (q2 rfl).rep hY fun a ha e => ?_⟩
      rcases e with e | ⟨j, hj⟩
      · exact F.offX i a ha e
      · have := F.dis i j a ha (sub j a hj)
        subst this
        simp [e2] at hj
  · split
    · exact .nil
    · exact F.nod i

theorem Frame.demote {env : Env} {hb h : Heap} {Xc : Addr → Prop} {fp : Nat → List Addr} {ρ : Rho} (F : Frame names env hb h Xc fp ρ) (x : Nat) : ∃ fp', Frame names env hb h Xc fp' (demote x ρ) ∧ ∀ i a, a ∈ fp' i → a ∈ fp i := by
  cases e : ρ[x]? with
  | none => rw [demote_off x ρ fun s h => by rw [e] at h; cases h]; exact ⟨fp, F, fun _ _ h => h⟩
  | some o => cases o with
    | none => rw [demote_off x ρ fun s h => by rw [e] at h; cases h]; exact ⟨fp, F, fun _ _ h => h⟩
    | some s =>
      rw [demote_at x ρ s e]
      have hx : x < ρ.length := (List.getElem?_eq_some_iff.mp e).1
      cases ho : s.own with
      | false =>
        refine ⟨fp, ?_, fun _ _ h => h⟩
        have : ρ.set x (some ⟨false, s.d⟩) = ρ := by
          apply List.ext_getElem?
          intro i
          rw [List.getElem?_set]
          split
          · rename_i h; subst h; rw [e]
            obtain ⟨so, sd⟩ := s; cases ho; rfl
          · rfl
        simpa [this] using F
      | true =>
        refine ⟨_, F.letGo (ρ' := ρ.set x (some ⟨false, s.d⟩)) (fun i => decide (i = x)) (by simp) fun i s' hs' => ?_, fun i a ha => ?_⟩
        · rw [List.getElem?_set] at hs'
          split at hs'
          · rename_i h; subst h
            simp only [Option.some.injEq] at hs'; subst hs'
            refine .inr ⟨rfl, by simp, ?_⟩
            rw [e]; obtain ⟨so, sd⟩ := s; cases ho; rfl
          · rename_i h
            exact .inl ⟨hs', .inl (by simp; exact fun e => h e.symm)⟩
        · split at ha
          · simp at ha
          · exact ha

theorem Frame.demoteAll {env : Env} {hb h : Heap} {Xc : Addr → Prop} {fp : Nat → List Addr} {ρ : Rho} (F : Frame names env hb h Xc fp ρ) : Frame names env hb h Xc (fun _ => []) (demoteAll ρ) := by
  have := F.letGo (ρ' := Mine.demoteAll ρ) (fun i => true) (by simp [Mine.demoteAll]) fun i s' hs' => ?_
  · simpa using this
  · unfold Mine.demoteAll at hs'
    rw [List.getElem?_map, Option.map_eq_some_iff] at hs'
    obtain ⟨o, h1, h2⟩ := hs'
    cases o with
    | none => cases h2
    | some s =>
    cases h2
    cases ho : s.own with
    | false => left; refine ⟨?_, .inr rfl⟩; rw [h1]; obtain ⟨so, sd⟩ := s; cases ho; rfl
    | true => right; refine ⟨rfl, rfl, ?_⟩; rw [h1]; obtain ⟨so, sd⟩ := s; cases ho; rfl

noncomputable def Pres (env : Env) (fp : Nat → List Addr) (h h' : Heap) : Prop :=
  ∀ a o, h.get? a = some o → a ≠ env.locals → (∀ y c, env.kindOf y = some .cell → env.cells.lookup y = some c → a ≠ c) → (∀ i, a ∉ fp i) → h'.get? a = some o
noncomputable def NewFp (fp : Nat → List Addr) (h : Heap) (fp' : Nat → List Addr) : Prop := ∀ i a, a ∈ fp' i → (∃ j, a ∈ fp j) ∨ h.get? a = none
theorem Ext.pres {env : Env} {fp : Nat → List Addr} {h h' : Heap} (x : Ext h h') : Pres env fp h h' := fun a o e _ _ _ => x a o e
theorem Pres.trans {env : Env} {fp fp' : Nat → List Addr} {h h' h'' : Heap} (p : Pres env fp h h') (n : NewFp fp h fp') (q : Pres env fp' h' h'') : Pres env fp h h'' := fun a o e h1 h2 h3 =>
  q a o (p a o e h1 h2 h3) h1 h2 fun i hi => (n i a hi).elim (fun ⟨j, hj⟩ => h3 j hj) fun e' => by rw [e] at e'; cases e'
/-- what is alive and not the frame's own stays alive, what is the frame's own too -/
theorem NewFp.trans {env : Env} {fp fp' fp'' : Nat → List Addr} {h h' : Heap} (hal : ∀ a, h'.get? a = none → h.get? a = none) (n : NewFp fp h fp') (q : NewFp fp' h' fp'') : NewFp fp h fp'' := fun i a ha =>
  (q i a ha).elim (fun ⟨j, hj⟩ => n j a hj) fun e => .inr (hal a e)
theorem NewFp.of_sub {fp fp' : Nat → List Addr} {h : Heap} (hs : ∀ i a, a ∈ fp' i → a ∈ fp i) : NewFp fp h fp' := fun i a ha => .inl ⟨i, hs i a ha⟩

theorem store_slot {A : Around} {env : Env} {s : Shared} {hb : Heap} {Xc Xc1 : Addr → Prop} {fp fp' : Nat → List Addr} {ρ : Rho} {i : Nat} {x : Str} {v : Value} {sl : Slot} {M : Model} {E : Value → Shared → Prop} {Q : Unit → Shared → Prop}
    (F : Frame names env hb s.heap Xc1 fp ρ) (hk : env.scope.kind = .function) (hi : names[i]? = some (some x)) (hx : env.kindOf x = some .local ∨ env.kindOf x = some .cell)
    (hY : ∀ a, Ys Xc fp' a → Ys Xc1 fp a) (hj : ∀ j, j ≠ i → fp' j = fp j) (ho : sl.own = true → OwnT (Ys Xc fp') s.heap v sl.d (fp' i)) (hr : sl.own = false → Rep (Ys Xc fp') s.heap v sl.d)
    (hn : (fp' i).Nodup) (hd : ∀ j a, j ≠ i → a ∈ fp' i → a ∉ fp j) (hX : ∀ a, a ∈ fp' i → ¬ Xc a) (hX' : ∀ j a, a ∈ fp j → ¬ Xc a) (hXa : ∀ a, Xc a → ∃ o, s.heap.get? a = some o) (hFa : ∀ a, a ∈ fp' i → ∃ vs n, IsL s.heap a vs n) (hFd : ∀ a, a ∈ fp' i → hb.get? a = none)
    (hQ : ∀ h' tk, Frame names env hb h' Xc fp' (ρ.set i (some sl)) → (∀ a o, s.heap.get? a = some o → a ≠ env.locals → (∀ y c, env.kindOf y = some .cell → env.cells.lookup y = some c → a ≠ c) → h'.get? a = some o) → (∀ Z, Stab Z s.heap h') → (∀ a o vs, s.heap.get? a = some o → o.data = .fields vs → h'.get? a = some o) →
      (∀ a, h'.get? a = none → s.heap.get? a = none) → Q () { s with heap := h', toks := tk }) :
    wpAny M A (storeName env x v) Q E s := by
  obtain ⟨m, hm, hv⟩ := F.fm
  refine store_var hm hk hx fun h' tk hm' kp st kf al => ?_
  have sq : ∀ a vs n, IsL s.heap a vs n → IsL h' a vs n := fun a vs n e => st (fun _ => False) a _ _ _ (fun h => h) e rfl
  refine hQ h' tk ⟨by simp [F.len], ⟨_, hm', fun j y s' hj' hs' => ?_⟩, F.kinds, F.uniq, F.good, fun j => ?_, fun j j' a ha hb => ?_, fun j a ha => ?_, fun a ha => ?_, fun j a ha => ?_, fun a o e => ?_, F.Ld, F.Cd, fun j a ha => ?_⟩ (fun a o e h1 h2 => kp a o e h1 fun c hk hc => h2 x c hk hc) st kf al
  · by_cases e : j = i
    · subst e
      rw [hi] at hj'; cases hj'
      have hlt : j < ρ.length := by rw [← F.len]; exact (List.getElem?_eq_some_iff.mp hi).1
      rw [List.getElem?_set_self hlt] at hs'; cases hs'
      refine ⟨v, by simp, fun h => ?_, fun h => (hr h).stab (st _)⟩
      refine (ho h).stab (st _) fun a o ha e => ?_
      obtain ⟨vs, n, q⟩ := hFa a ha
      rw [IsL, e] at q; cases q
      exact sq a _ _ e
    · rw [List.getElem?_set_ne (fun h => e h.symm)] at hs'
      obtain ⟨v', q1, q2, q3⟩ := hv j y s' hj' hs'
      have hyx : y ≠ x := by rintro rfl; exact e (F.uniq j i _ hj' hi)
      refine ⟨v', by simp only [if_neg hyx]; exact q1, fun h => ?_, fun h => ((q3 h).sub hY).stab (st _)⟩
      rw [hj j e]
      refine ((q2 h).more fun a e => .inl (hY a e)).stab (st _) fun a o ha e => ?_
      obtain ⟨vs, n, q⟩ := F.aliveF j a ha
      rw [IsL, e] at q; cases q
      exact sq a _ _ e
  · by_cases e : j = i
    · subst e; exact hn
    · rw [hj j e]; exact F.nod j
  · by_cases e : j = i <;> by_cases e' : j' = i
    · rw [e, e']
    · subst e; rw [hj j' e'] at hb; exact absurd hb (hd j' a e' ha)
    · subst e'; rw [hj j e] at ha; exact absurd ha (hd j a e hb)
    · rw [hj j e] at ha; rw [hj j' e'] at hb; exact F.dis j j' a ha hb
  · by_cases e : j = i
    · subst e; exact hX a ha
    · rw [hj j e] at ha; exact hX' j a ha
  · obtain ⟨o, q⟩ := hXa a ha
    cases e : h'.get? a with
    | none => rw [al a e] at q; cases q
    | some o' => exact ⟨o', rfl⟩
  · by_cases e : j = i
    · subst e; obtain ⟨vs, n, q⟩ := hFa a ha; exact ⟨vs, n, sq a vs n q⟩
    · rw [hj j e] at ha; obtain ⟨vs, n, q⟩ := F.aliveF j a ha; exact ⟨vs, n, sq a vs n q⟩
  · refine kp a o (F.base a o e) ?_ ?_
    · rintro rfl; rw [F.Ld] at e; cases e
    · rintro c _ hc rfl; rw [F.Cd x _ hc] at e; cases e
  · by_cases e : j = i
    · subst e; exact hFd a ha
    · rw [hj j e] at ha; exact F.Fd j a ha
end


theorem OwnTs.put {Y : Addr → Prop} {h : Heap} : ∀ {vs : List Value} {ds : List D} {f : List Addr}, OwnTs Y h vs ds f → f.Nodup → ∀ (k : Nat) (d0 : D), ds[k]? = some d0 →
    ∃ v0 f0, vs[k]? = some v0 ∧ OwnT Y h v0 d0 f0 ∧ (∀ a ∈ f0, a ∈ f) ∧ f0.Nodup ∧ ∀ (h' : Heap) (v' : Value) (d' : D) (f0' : List Addr), Stab Y h h' → (∀ a o, a ∈ f → a ∉ f0 → h.get? a = some o → h'.get? a = some o) → OwnT Y h' v' d' f0' → f0'.Nodup → (∀ a ∈ f0', a ∈ f0 ∨ a ∉ f) →
      ∃ f', OwnTs Y h' (vs.set k v') (ds.set k d') f' ∧ f'.Nodup ∧ ∀ a ∈ f', a ∈ f ∨ a ∈ f0'
  | [], _, _, r, _, k, d0, e => by cases r; simp at e
  | v :: vs, _, _, .cons (f := f1) (g := f2) (d := d) (ds := ds) a b, hn, 0, d0, e => by
    simp at e; subst e
    obtain ⟨n1, n2, n12⟩ := List.nodup_append.mp hn
    refine ⟨v, f1, by simp, a, fun x hx => by simp [hx], n1, fun h' v' d' f0' st hk ho hn' hs => ?_⟩
    refine ⟨f0' ++ f2, .cons ho (b.stab st fun x o hx e => hk x o (by simp [hx]) (fun h1 => n12 x h1 x hx rfl) e), ?_, ?_⟩
    · refine List.nodup_append.mpr ⟨hn', n2, fun x hx y hy e => ?_⟩
      subst e
      rcases hs x hx with h1 | h1
      · exact n12 x h1 x hy rfl
      · exact h1 (by simp [hy])
    · intro x hx
      rcases List.mem_append.mp hx with h1 | h1
      · exact .inr h1
      · exact .inl (by simp [h1])
  | v :: vs, _, _, .cons (f := f1) (g := f2) (d := d) (ds := ds) a b, hn, k + 1, d0, e => by
    simp at e
    obtain ⟨n1, n2, n12⟩ := List.nodup_append.mp hn
    obtain ⟨v0, f0, q1, q2, q3, q4, q5⟩ := OwnTs.put b n2 k d0 e
    refine ⟨v0, f0, by simpa using q1, q2, fun x hx => by simp [q3 x hx], q4, fun h' v' d' f0' st hk ho hn' hs => ?_⟩
    obtain ⟨f', r1, r2, r3⟩ := q5 h' v' d' f0' st (fun x o hx h1 e => hk x o (by simp [hx]) h1 e) ho hn' (fun x hx => (hs x hx).imp id fun h1 h2 => h1 (by simp [h2]))
    refine ⟨f1 ++ f', .cons (a.stab st fun x o hx e => hk x o (by simp [hx]) (fun h1 => n12 x hx x (q3 x h1) rfl) e) r1, ?_, ?_⟩
    · refine List.nodup_append.mpr ⟨n1, r2, fun x hx y hy e => ?_⟩
      subst e
      rcases r3 x hy with h1 | h1
      · exact n12 x hx x h1 rfl
      · rcases hs x h1 with h2 | h2
        · exact n12 x hx x (q3 x h2) rfl
        · exact h2 (by simp [hx])
    · intro x hx
      rcases List.mem_append.mp hx with h1 | h1
      · exact .inl (by simp [h1])
      · exact (r3 x h1).imp (fun h2 => by simp [h2]) id

section
variable {prog : Program} {w : World} {h₀ : Heap} {mg mb : Str → Option Value} {k : Nat} {Φ : Tab} {names : List (Option Str)} {sc : Scope} {N : Nat}

theorem Frame.chg {env : Env} {hb h h' : Heap} {Xc : Addr → Prop} {fp : Nat → List Addr} {ρ : Rho} (F : Frame names env hb h Xc fp ρ) (hL : ∀ o, h.get? env.locals = some o → h'.get? env.locals = some o)
    (hC : ∀ y c o, (env.kindOf y = some .cell ∨ env.kindOf y = some .free) → env.cells.lookup y = some c → h.get? c = some o → h'.get? c = some o) (st : ∀ Z, Stab Z h h') (hb' : Ext hb h') (al : ∀ a o, Xc a → h.get? a = some o → ∃ o', h'.get? a = some o') : Frame names env hb h' Xc fp ρ := by
  have sq : ∀ a vs n, IsL h a vs n → IsL h' a vs n := fun a vs n e => st (fun _ => False) a _ _ _ (fun h => h) e rfl
  obtain ⟨m, hm, hv⟩ := F.fm
  exact { F with
    fm := ⟨m, hm.keep hL hC, fun i x s e1 e2 => by
      obtain ⟨v, q1, q2, q3⟩ := hv i x s e1 e2
      refine ⟨v, q1, fun ho => (q2 ho).stab (st _) fun a o ha e => ?_, fun ho => (q3 ho).stab (st _)⟩
      obtain ⟨vs, n, q⟩ := F.aliveF i a ha
      rw [IsL, e] at q; cases q
      exact sq a _ _ e⟩
    aliveX := fun a e => let ⟨o, q⟩ := F.aliveX a e; al a o e q
    aliveF := fun i a e => let ⟨o, n, h1⟩ := F.aliveF i a e; ⟨o, n, sq _ _ _ h1⟩
    base := hb' }

/-- a list of the frame's own is written -/
theorem Frame.mut {env : Env} {hb h h' : Heap} {Xc Xc1 : Addr → Prop} {fp : Nat → List Addr} {ρ : Rho} (F : Frame names env hb h Xc1 fp ρ) {i : Nat} {x : Str} {d d' : D} {m : Str → Option Value} {v : Value} {b : Addr} {f' : List Addr}
    (hm : Fm env h m) (hvars : ∀ (i : Nat) (x : Str) (s : Slot), names[i]? = some (some x) → ρ[i]? = some (some s) → ∃ v, m x = some v ∧ (s.own = true → OwnT (Ys Xc1 fp) h v s.d (fp i)) ∧ (s.own = false → Rep (Ys Xc1 fp) h v s.d))
    (hi : names[i]? = some (some x)) (hsl : ρ[i]? = some (some ⟨true, d⟩)) (hx : m x = some v) (hbi : b ∈ fp i) (sb : Heap.SameBut b h h') (hbl : ∃ vs n, IsL h' b vs n)
    (hY : ∀ a, Ys Xc (fun j => if j = i then f' else fp j) a → Ys Xc1 fp a) (ho : OwnT (Ys Xc (fun j => if j = i then f' else fp j)) h' v d' f') (hn : f'.Nodup)
    (hf : ∀ a ∈ f', a ∈ fp i ∨ (¬ Xc a ∧ hb.get? a = none ∧ (∀ j, a ∉ fp j) ∧ ∃ vs n, IsL h' a vs n)) (hXX : ∀ a, Xc a → Xc1 a) :
    Frame names env hb h' Xc (fun j => if j = i then f' else fp j) (ρ.set i (some ⟨true, d'⟩)) := by
  obtain ⟨vsb, nb, hLb⟩ := F.aliveF i b hbi
  have hil : i < ρ.length := (List.getElem?_eq_some_iff.mp hsl).1
  have hne : ∀ j, j ≠ i → b ∉ fp j := fun j hj hb' => hj (F.dis j i b hb' hbi)
  have kp : ∀ a o, a ≠ b → h.get? a = some o → h'.get? a = some o := fun a o hne e => sb.extBut a o hne e
  have hYb : Ys Xc1 fp b := .inr ⟨i, hbi⟩
  have sq : ∀ a vs n, a ≠ b → IsL h a vs n → IsL h' a vs n := fun a vs n hne e => kp a _ hne e
  have bL : env.locals ≠ b := by
    rintro rfl
    obtain ⟨ml, ⟨o, es, ep, q, qd, _⟩, _⟩ := hm.loc
    rw [IsL, q] at hLb; cases hLb; cases qd
  have bC : ∀ y c, env.cells.lookup y = some c → ∀ o, h.get? c = some o → (∀ v, o.data ≠ .cell v) → True := fun _ _ _ _ _ _ => trivial
  have hm' : Fm env h' m := by
    refine ⟨?_, fun y hy => ?_, hm.inj⟩
    · obtain ⟨ml, q, r⟩ := hm.loc; exact ⟨ml, q.sameBut sb bL, r⟩
    · obtain ⟨c, q1, q2⟩ := hm.cel y hy
      refine ⟨c, q1, q2.sameBut sb ?_⟩
      rintro rfl
      obtain ⟨o, q, qd⟩ := q2
      rw [IsL, q] at hLb; cases hLb; cases qd
  have stY : ∀ Z : Addr → Prop, Z b → Stab Z h h' := fun Z hz a o items n hza e hd => kp a o (by rintro rfl; exact hza hz) e
  refine ⟨by simp [F.len], ⟨m, hm', fun j y s hj hs => ?_⟩, F.kinds, F.uniq, F.good, fun j => ?_, fun j j' a ha ha' => ?_, fun j a ha => ?_, fun a ha => ?_, fun j a ha => ?_, fun a o e => ?_, F.Ld, F.Cd, fun j a ha => ?_⟩
  · by_cases e : j = i
    · subst e
      rw [hi] at hj; cases hj
      rw [List.getElem?_set_self hil] at hs; cases hs
      exact ⟨v, hx, fun _ => by simpa using ho, fun h => by cases h⟩
    · rw [List.getElem?_set_ne (fun h => e h.symm)] at hs
      obtain ⟨v', q1, q2, q3⟩ := hvars j y s hj hs
      refine ⟨v', q1, fun h => ?_, fun h => ?_⟩
      · simp only [if_neg e]
        have := (q2 h).stab (stY _ hYb) fun a o ha e' => kp a o (by rintro rfl; exact hne j e ha) e'
        exact this.more fun a e => .inl (hY a e)
      · exact ((q3 h).stab (stY _ hYb)).sub hY
  · by_cases e : j = i
    · simp [e, hn]
    · simp [e, F.nod j]
  · by_cases e : j = i <;> by_cases e' : j' = i <;> simp only [e, e', if_true, if_false] at ha ha'
    · rw [e, e']
    · rcases hf a ha with h1 | ⟨_, _, h1, _⟩
      · rw [e]; exact F.dis i j' a h1 ha'
      · exact absurd ha' (h1 j')
    · rcases hf a ha' with h1 | ⟨_, _, h1, _⟩
      · rw [e']; exact F.dis j i a ha h1
      · exact absurd ha (h1 j)
    · exact F.dis j j' a ha ha'
  · by_cases e : j = i <;> simp only [e, if_true, if_false] at ha
    · rcases hf a ha with h1 | ⟨h1, _⟩
      · exact fun hx => F.offX i a h1 (hXX a hx)
      · exact h1
    · exact fun hx => F.offX j a ha (hXX a hx)
  · obtain ⟨o, q⟩ := F.aliveX a (hXX a ha)
    by_cases e : a = b
    · subst e; obtain ⟨_, _, q⟩ := hbl; exact ⟨_, q⟩
    · exact ⟨o, kp a o e q⟩
  · by_cases e : j = i <;> simp only [e, if_true, if_false] at ha
    · rcases hf a ha with h1 | ⟨_, _, _, h1⟩
      · by_cases e : a = b
        · subst e; exact hbl
        · obtain ⟨vs, n, q⟩ := F.aliveF i a h1; exact ⟨vs, n, sq a vs n e q⟩
      · exact h1
    · have : a ≠ b := by rintro rfl; exact hne j e ha
      obtain ⟨vs, n, q⟩ := F.aliveF j a ha; exact ⟨vs, n, sq a vs n this q⟩
  · exact kp a o (by rintro rfl; rw [F.Fd i _ hbi] at e; cases e) (F.base a o e)
  · by_cases e : j = i <;> simp only [e, if_true, if_false] at ha
    · rcases hf a ha with h1 | ⟨_, h1, _⟩
      · exact F.Fd i a h1
      · exact h1
    · exact F.Fd j a ha

noncomputable def OutOK (names : List (Option Str)) (env : Env) (hb : Heap) (Xc : Addr → Prop) (fp : Nat → List Addr) (h : Heap) (out : Out) (f : Flow) (h' : Heap) : Prop :=
  match out with
  | .next ρ' => f = .next ∧ ∃ fp', Frame names env hb h' Xc fp' ρ' ∧ NewFp fp h fp'
  | .brk ρ' => f = .brk ∧ ∃ fp', Frame names env hb h' Xc fp' ρ' ∧ NewFp fp h fp'
  | .cont ρ' => f = .cont ∧ ∃ fp', Frame names env hb h' Xc fp' ρ' ∧ NewFp fp h fp'
  | .ret d fr => ∃ v, f = .ret v ∧ RetRep Xc hb h' v d fr

noncomputable def Done (names : List (Option Str)) (env : Env) (hb : Heap) (Xc : Addr → Prop) (fp : Nat → List Addr) (h : Heap) (out : Out) (f : Flow) (h' : Heap) : Prop :=
  Pres env fp h h' ∧ (∀ a, h'.get? a = none → h.get? a = none) ∧ OutOK names env hb Xc fp h out f h'

theorem Done.after {env : Env} {hb : Heap} {Xc : Addr → Prop} {fp fp1 : Nat → List Addr} {h h1 h' : Heap} {out : Out} {f : Flow} (p : Pres env fp h h1) (al : ∀ a, h1.get? a = none → h.get? a = none) (n : NewFp fp h fp1) (d : Done names env hb Xc fp1 h1 out f h') :
    Done names env hb Xc fp h out f h' := by
  obtain ⟨d1, d2, d3⟩ := d
  refine ⟨p.trans n d1, fun a e => al a (d2 a e), ?_⟩
  cases out with
  | next ρ => obtain ⟨e, fp', q1, q2⟩ := d3; exact ⟨e, fp', q1, n.trans (env := env) al q2⟩
  | brk ρ => obtain ⟨e, fp', q1, q2⟩ := d3; exact ⟨e, fp', q1, n.trans (env := env) al q2⟩
  | cont ρ => obtain ⟨e, fp', q1, q2⟩ := d3; exact ⟨e, fp', q1, n.trans (env := env) al q2⟩
  | ret d fr => exact d3
theorem Ext.al {h h' : Heap} (x : Ext h h') : ∀ a, h'.get? a = none → h.get? a = none := fun a e => x.dead e

noncomputable def ExOK (prog : Program) (w : World) (h₀ : Heap) (k : Nat) (Φ : Tab) (N : Nat) (names : List (Option Str)) (sc : Scope) (st : Stmt) (ms : MS) : Prop :=
  ∀ (A : Around) (env : Env) (s : Shared) (hb : Heap) (Xc : Addr → Prop) (fp : Nat → List Addr) (ρ : Rho) (out : Out),
    Room A k → EnvOK env sc → env.scope = sc → Ext h₀ hb → Frame names env hb s.heap Xc fp ρ → exS Φ N ms ρ = some out →
    ∀ Q : Flow → Shared → Prop, (∀ f h' tk, Done names env hb Xc fp s.heap out f h' → Q f { s with heap := h', toks := tk }) → wpAny (model prog w) A (exec st env) Q NoE s
noncomputable def ExsOK (prog : Program) (w : World) (h₀ : Heap) (k : Nat) (Φ : Tab) (N : Nat) (names : List (Option Str)) (sc : Scope) (st : List Stmt) (ms : List MS) : Prop :=
  ∀ (A : Around) (env : Env) (s : Shared) (hb : Heap) (Xc : Addr → Prop) (fp : Nat → List Addr) (ρ : Rho) (out : Out),
    Room A k → EnvOK env sc → env.scope = sc → Ext h₀ hb → Frame names env hb s.heap Xc fp ρ → exSs Φ N ms ρ = some out →
    ∀ Q : Flow → Shared → Prop, (∀ f h' tk, Done names env hb Xc fp s.heap out f h' → Q f { s with heap := h', toks := tk }) → wpAny (model prog w) A (execs st env) Q NoE s

theorem exs_nil : ExsOK prog w h₀ k Φ N names sc [] [] := by
  intro A env s hb Xc fp ρ out R EO ES X F he Q hQ
  simp only [exSs, Option.some.injEq] at he; subst he
  exact wpAny_execs_nil (hQ _ s.heap s.toks ⟨(Ext.refl _).pres, fun _ e => e, rfl, fp, F, .of_sub fun _ _ e => e⟩)
theorem exs_cons {st : Stmt} {sts : List Stmt} {ms : MS} {mss : List MS} (H1 : ExOK prog w h₀ k Φ N names sc st ms) (H2 : ExsOK prog w h₀ k Φ N names sc sts mss) : ExsOK prog w h₀ k Φ N names sc (st :: sts) (ms :: mss) := by
  intro A env s hb Xc fp ρ out R EO ES X F he Q hQ
  simp only [exSs] at he
  split at he
  · rename_i ρ' he1
    refine wpAny_execs_cons (H1 A env s hb Xc fp ρ _ R EO ES X F he1 _ fun f h1 t1 d1 => ?_)
    obtain ⟨p1, a1, rfl, fp1, F1, n1⟩ := d1
    exact H2 A env { s with heap := h1, toks := t1 } hb Xc fp1 ρ' out R EO ES X F1 he _ fun f h2 t2 d2 => hQ f h2 t2 (d2.after p1 a1 n1)
  · rename_i hne
    refine wpAny_execs_cons (H1 A env s hb Xc fp ρ _ R EO ES X F he _ fun f h1 t1 d1 => ?_)
    have := hQ f h1 t1 d1
    obtain ⟨_, _, d3⟩ := d1
    cases out with
    | next ρ => exact absurd he (hne ρ)
    | brk ρ => obtain ⟨rfl, _⟩ := d3; exact this
    | cont ρ => obtain ⟨rfl, _⟩ := d3; exact this
    | ret d fr => obtain ⟨v, rfl, _⟩ := d3; exact this

theorem ex_ite {t : Expr} {a b : List Stmt} {mt : MT} {ma mb' : List MS} (p : Pos) (H : EtOK prog w h₀ k Φ names sc t mt) (H1 : ExsOK prog w h₀ k Φ N names sc a ma) (H2 : ExsOK prog w h₀ k Φ N names sc b mb') : ExOK prog w h₀ k Φ N names sc (.If t a b p) (.ite mt ma mb') := by
  intro A env s hb Xc fp ρ out R EO ES X F he Q hQ
  simp only [exS] at he
  split at he <;> try contradiction
  · rename_i ht
    refine wpAny_If (H A env s hb Xc fp ρ _ R EO (X.trans F.base) F ht _ fun h1 t1 x1 => ?_)
    simp only [if_true]
    exact H1 A env { s with heap := h1, toks := t1 } hb Xc fp ρ out R EO ES X (F.ext x1) he _ fun f h2 t2 d2 => hQ f h2 t2 (d2.after x1.pres x1.al (.of_sub fun _ _ e => e))
  · rename_i ht
    refine wpAny_If (H A env s hb Xc fp ρ _ R EO (X.trans F.base) F ht _ fun h1 t1 x1 => ?_)
    simp only [Bool.false_eq_true, if_false]
    exact H2 A env { s with heap := h1, toks := t1 } hb Xc fp ρ out R EO ES X (F.ext x1) he _ fun f h2 t2 d2 => hQ f h2 t2 (d2.after x1.pres x1.al (.of_sub fun _ _ e => e))

theorem ex_brk (p : Pos) : ExOK prog w h₀ k Φ N names sc (.Break p) .brk := by
  intro A env s hb Xc fp ρ out R EO ES X F he Q hQ
  simp only [exS, Option.some.injEq] at he; subst he
  exact wpAny_Break (hQ _ s.heap s.toks ⟨(Ext.refl _).pres, fun _ e => e, rfl, fp, F, .of_sub fun _ _ e => e⟩)
theorem ex_cont (p : Pos) : ExOK prog w h₀ k Φ N names sc (.Continue p) .cont := by
  intro A env s hb Xc fp ρ out R EO ES X F he Q hQ
  simp only [exS, Option.some.injEq] at he; subst he
  exact wpAny_Continue (hQ _ s.heap s.toks ⟨(Ext.refl _).pres, fun _ e => e, rfl, fp, F, .of_sub fun _ _ e => e⟩)
theorem ex_fail (st : Stmt) : ExOK prog w h₀ k Φ N names sc st .fail := by
  intro A env s hb Xc fp ρ out R EO ES X F he Q hQ
  simp [exS] at he
theorem ex_retVar (x : Str) (p q : Pos) (i : Nat) (hi : names[i]? = some (some x)) : ExOK prog w h₀ k Φ N names sc (.Return (some (.Name x p)) q) (.retVar i) := by
  intro A env s hb Xc fp ρ out R EO ES X F he Q hQ
  simp only [exS] at he
  split at he <;> try contradiction
  rename_i sl hsl
  cases he
  obtain ⟨mm, hm, hv⟩ := F.fm
  obtain ⟨v, h1, h2, h3⟩ := hv i x sl hi hsl
  refine wpAny_Return_some (wpAny_Name (load_var hm EO.kind (F.kinds i x hi) (F.good i x hi).2 h1 ?_) (F.good i x hi).1)
  refine hQ _ s.heap s.toks ⟨(Ext.refl _).pres, fun _ e => e, v, rfl, ?_⟩
  cases ho : sl.own with
  | false => exact (h3 ho).sub fun a e => .inl e
  | true => exact ⟨fp i, F.nod i, F.Fd i, (h2 ho).more fun a e => .inl (e.imp id fun e => ⟨i, e⟩)⟩
theorem ex_ret {e : Expr} {me : ME} (q : Pos) (H : EvOK prog w h₀ k Φ names sc e me) : ExOK prog w h₀ k Φ N names sc (.Return (some e) q) (.ret me) := by
  intro A env s hb Xc fp ρ out R EO ES X F he Q hQ
  simp only [exS] at he
  split at he <;> try contradiction
  rename_i d m he1
  split at he <;> try contradiction
  rename_i hm
  cases he
  refine wpAny_Return_some (H A env s hb Xc _ _ _ _ R EO (X.trans F.base) F.demoteAll he1 _ fun v h1 t1 x1 r1 => ?_)
  refine hQ _ h1 t1 ⟨x1.pres, x1.al, v, rfl, ?_⟩
  cases m with
  | borrow => exact absurd rfl hm
  | shared => exact Rep.sub (fun a e => .inl e) r1
  | fresh =>
    obtain ⟨g, g1, g2, g3⟩ := r1
    exact ⟨g, g1, fun a ha => F.base.dead (g2 a ha), g3.more fun a e => .inl (e.imp .inl id)⟩
end


section
variable {prog : Program} {w : World} {h₀ : Heap} {mg mb : Str → Option Value} {k : Nat} {Φ : Tab} {names : List (Option Str)} {sc : Scope} {N : Nat}

noncomputable def swapsB (sc : Scope) (e : Expr) (x : Str) (p : Pos) : Bool :=
  match e with
  | .ListComp _ _ s lp => sc.names.lookup x == some .local && p.line == lp.line && !(s.names.any fun (n, kd) => n == x && (kd == .local || kd == .cell))
  | .SetComp .. => true
  | .DictComp .. => true
  | _ => false
noncomputable def isSetDict : Expr → Bool
  | .SetComp .. => true
  | .DictComp .. => true
  | _ => false
theorem swaps_eq {env : Env} {e : Expr} {x : Str} {p : Pos} {line : Nat} (ES : env.scope = sc) (hk : sc.kind = .function) (hs : isSetDict e = false) : swapsWith e (some (.Name x p)) line env = pure (swapsB sc e x p) := by
  cases e <;> first | rfl | (cases hs; done) | skip
  rename_i elt gens s lp
  have hb : env.blockKind = .function := by unfold Env.blockKind; rw [ES, hk]; rfl
  have hl : env.kindOf x = sc.names.lookup x := by unfold Env.kindOf; rw [ES]
  show (pure (env.blockKind == .function && env.kindOf x == some .local && p.line == lp.line && !(s.names.any fun (n, k) => n == x && (k == .local || k == .cell))) : Sem Bool) = _
  rw [hb, hl]
  rfl

/-- a value is bound to a name -/
theorem bind_slot {A : Around} {env : Env} {s : Shared} {hb h1 : Heap} {Xc : Addr → Prop} {fp : Nat → List Addr} {ρ : Rho} {i : Nat} {x : Str} {v : Value} {d : D} {m : Mode} {t1 : Nat} {out : Out} {M : Model} {E : Value → Shared → Prop} {Q : Unit → Shared → Prop}
    (F : Frame names env hb s.heap Xc fp ρ) (hk : env.scope.kind = .function) (hi : names[i]? = some (some x)) (hx : env.kindOf x = some .local ∨ env.kindOf x = some .cell)
    (x1 : Ext s.heap h1) (r : Res m Xc fp s.heap h1 v d) {o : Bool} (ho : bindSlot o i (d, m) ρ = some out)
    (hQ : ∀ h' tk, Done names env hb Xc fp s.heap out .next h' → (∀ a o, h1.get? a = some o → a ≠ env.locals → (∀ y c, env.kindOf y = some .cell → env.cells.lookup y = some c → a ≠ c) → h'.get? a = some o) → (∀ Z, Stab Z h1 h') → Q () { s with heap := h', toks := tk }) :
    wpAny M A (storeName env x v) Q E { s with heap := h1, toks := t1 } := by
  have sub : ∀ (g : List Addr) a, (∃ j, a ∈ (if j = i then ([] : List Addr) else fp j)) → ∃ j, a ∈ fp j := fun g a ⟨j, hj⟩ => ⟨j, by split at hj; simp at hj; exact hj⟩
  have shared : Rep (Ys Xc fp) h1 v d → out = .next (ρ.set i (some ⟨false, d⟩)) → wpAny M A (storeName env x v) Q E { s with heap := h1, toks := t1 } := by
    rintro rs rfl
    have F1 := F.ext x1
    have hY : ∀ a, Ys Xc (fun j => if j = i then [] else fp j) a → Ys Xc fp a := fun a e => e.imp id (sub [] a)
    refine store_slot (s := { s with heap := h1, toks := t1 }) (Xc := Xc) (fp' := fun j => if j = i then [] else fp j) (sl := ⟨false, d⟩) F1 hk hi hx hY (fun j hj => by simp [hj]) (fun h => by cases h) (fun _ => rs.sub hY) (by simp) (fun j a _ ha => by simp at ha) (fun a ha => by simp at ha) F1.offX F1.aliveX (fun a ha => by simp at ha) (fun a ha => by simp at ha) ?_
    intro h' tk F' kp st kf al
    refine hQ h' tk ⟨fun a o e e1 e2 e3 => kp a o (x1 a o e) e1 e2, fun a e => x1.dead (al a e), rfl, _, F', .of_sub fun j a ha => ?_⟩ kp st
    split at ha
    · simp at ha
    · exact ha
  cases m with
  | borrow => simp [bindSlot] at ho
  | shared => simp only [bindSlot, Option.some.injEq] at ho; exact shared r ho.symm
  | fresh =>
    simp only [bindSlot, Option.some.injEq] at ho
    cases hl : (o && isList d) with
    | false => rw [hl] at ho; exact shared (r.shared F.aliveY (by simp)) ho.symm
    | true =>
      rw [hl] at ho; subst ho
      obtain ⟨g, gn, gd, go⟩ := r
      have F1 : Frame names env hb h1 (fun a => Xc a ∨ a ∈ g) fp ρ := F.shut x1 (fun a e => e.imp id (gd a)) (fun a e => e.elim (fun e => let ⟨o, q⟩ := F.aliveX a e; ⟨o, x1 _ _ q⟩) (go.alive a))
      have hY : ∀ a, Ys Xc (fun j => if j = i then g else fp j) a → Ys (fun a => Xc a ∨ a ∈ g) fp a := by
        intro a e
        rcases e with e | ⟨j, hj⟩
        · exact .inl (.inl e)
        · dsimp only at hj
          split at hj
          · exact .inl (.inr hj)
          · exact .inr ⟨j, hj⟩
      refine store_slot (s := { s with heap := h1, toks := t1 }) (Xc := Xc) (fp' := fun j => if j = i then g else fp j) (sl := ⟨true, d⟩) F1 hk hi hx hY (fun j hj => by simp [hj]) (fun _ => ?_) (fun h => by cases h) (by simpa using gn) (fun j a hj ha => ?_) (fun a ha => ?_) F.offX (F.ext x1).aliveX (fun a ha => ?_) (fun a ha => ?_) ?_
      · simp only [if_true]
        refine go.more fun a e => .inl ?_
        rcases e with e | ⟨j, hj⟩
        · exact .inl (.inl e)
        · dsimp only at hj
          split at hj
          · exact .inr hj
          · exact .inl (.inr ⟨j, hj⟩)
      · simp only [if_true] at ha
        intro hj'
        obtain ⟨_, _, q⟩ := F.aliveF j a hj'
        have := gd a ha
        rw [IsL, this] at q; cases q
      · simp only [if_true] at ha
        exact fun hx => by obtain ⟨o, q⟩ := F.aliveX a hx; rw [gd a ha] at q; cases q
      · simp only [if_true] at ha; exact go.aliveL a ha
      · simp only [if_true] at ha; exact F.base.dead (gd a ha)
      · intro h' tk F' kp st kf al
        refine hQ h' tk ⟨fun a o e e1 e2 e3 => kp a o (x1 a o e) e1 e2, fun a e => x1.dead (al a e), rfl, _, F', fun j a ha => ?_⟩ kp st
        split at ha
        · exact .inr (gd a ha)
        · exact .inl ⟨j, ha⟩

noncomputable def storable (sc : Scope) (x : Str) : Bool := sc.names.lookup x == some .local || sc.names.lookup x == some .cell
theorem storable_kind {env : Env} {x : Str} (ES : env.scope = sc) (h : storable sc x = true) : env.kindOf x = some .local ∨ env.kindOf x = some .cell := by
  unfold Env.kindOf; rw [ES]
  unfold storable at h
  rw [Bool.or_eq_true] at h
  exact h.imp (fun e => by simpa using e) (fun e => by simpa using e)

theorem ex_assign {x : Str} (o : Bool) {e : Expr} {me : ME} {i : Nat} (p q : Pos) (hi : names[i]? = some (some x)) (hst : storable sc x = true) (hsw : swapsB sc e x p = false) (hsd : isSetDict e = false) (H : EvOK prog w h₀ k Φ names sc e me) : ExOK prog w h₀ k Φ N names sc (.Assign [.Name x p] e q) (.assign o i me) := by
  intro A env s hb Xc fp ρ out R EO ES X F he Q hQ
  simp only [exS] at he
  split at he <;> try contradiction
  rename_i r her
  obtain ⟨d, m⟩ := r
  obtain ⟨fp1, F1, hs1⟩ := F.demote i
  refine wpAny_Assign_Name ?_ (by rw [swaps_eq ES (by rw [← ES]; exact EO.kind) hsd, hsw])
  refine H A env s hb Xc fp1 _ d m R EO (X.trans F.base) F1 her _ fun v h1 t1 x1 r1 => ?_
  refine bind_slot (s := s) F1 EO.kind hi (storable_kind ES hst) x1 r1 he fun h' tk dn _ _ => hQ .next h' tk ?_
  exact dn.after (Ext.refl _).pres (fun _ e => e) (.of_sub hs1)

theorem ex_move {x y : Str} {i j : Nat} (p p' q : Pos) (hi : names[i]? = some (some x)) (hj : names[j]? = some (some y)) (hst : storable sc x = true) : ExOK prog w h₀ k Φ N names sc (.Assign [.Name x p] (.Name y p') q) (.move i j) := by
  intro A env s hb Xc fp ρ out R EO ES X F he Q hQ
  simp only [exS] at he
  split at he <;> try contradiction
  rename_i sl hsl
  cases he
  obtain ⟨fp1, F1, hs1⟩ := F.demote j
  have hown : sl.own = false := demote_own j ρ sl hsl
  refine wpAny_Assign_Name ?_ (by rw [swaps_eq ES (by rw [← ES]; exact EO.kind) rfl]; rfl)
  obtain ⟨mm, hm, hv⟩ := F1.fm
  obtain ⟨v, h1, h2, h3⟩ := hv j y sl hj hsl
  refine wpAny_Name (load_var hm EO.kind (F1.kinds j y hj) (F1.good j y hj).2 h1 ?_) (F1.good j y hj).1
  refine bind_slot (s := s) (m := .shared) (d := sl.d) (o := false) (t1 := s.toks) F1 EO.kind hi (storable_kind ES hst) (Ext.refl _) (h3 hown) rfl fun h' tk dn _ _ => hQ .next h' tk ?_
  obtain ⟨so, sd⟩ := sl
  cases hown
  exact dn.after (Ext.refl _).pres (fun _ e => e) (.of_sub hs1)
end


section
variable {prog : Program} {w : World} {h₀ : Heap} {mg mb : Str → Option Value} {k : Nat} {Φ : Tab} {names : List (Option Str)} {sc : Scope} {N : Nat}

theorem setItem_L {A : Around} {E : Value → Shared → Prop} {s : Shared} {l : Addr} {vs : List Value} {n : Nat} {i : Int} {t : Tok} {v : Value} {Q : Unit → Shared → Prop} (hl : IsL s.heap l vs.toArray n) (h0 : 0 ≤ i) (hfit : i < 2 ^ 63) (hn : i < vs.length)
    (hQ : ∀ h', IsL h' l (vs.set i.toNat v).toArray n → Heap.SameBut l s.heap h' → Q () { s with heap := h' }) : wpAny (model prog w) A (setItem (.ref l) (.int i t) v) Q E s := by
  have isl : s.heap.IsList l vs.toArray := ⟨_, hl, rfl, n, rfl⟩
  have hj : i.toNat < vs.toArray.size := by rw [List.size_toArray]; omega
  have at_ : vs.toArray[i.toNat]? = some vs.toArray[i.toNat] := Array.getElem?_eq_getElem hj
  have fin : IsL (s.heap.update l (Obj.mapSeq (·.setIfInBounds i.toNat v))) l (vs.set i.toNat v).toArray n := by
    have := Heap.get?_update_self (Obj.mapSeq (·.setIfInBounds i.toNat v)) hl rfl
    rw [IsL, this]
    simp [Obj.mapSeq]
  have done := hQ _ fin (Heap.SameBut.update ..)
  unfold setItem
  try with_reducible refine wpAny_holding ?_
  first | refine wpAny_bind (wpAny_pure ?_) | skip
  refine wpAny_bind (wpAny_sequenceKey isl.typeIs (by decide) ?_)
  refine wpAny_bind (wpAny_callSpecial?_slot (name := Str.ofString "__setitem__") isl.typeIs slot_list_setitem (wpAny_call_entry slot_list_setitem isl.typeIs entry_list_setitem ?_ (args_list_setitem _ _ _)))
  show wpAny _ _ (Builtin.List.listSubscript? (.int i t) >>= _) _ _ s
  refine wpAny_bind (wpAny_listSubscript_int (fitsIndex_of h0 hfit) ?_)
  clear hfit fin hQ isl
  obtain ⟨k, rfl⟩ := Int.eq_ofNat_of_zero_le h0
  simp only [Int.toNat_natCast] at *
  show wpAny _ _ ((seqItemAt l k >>= fun r => pure (r.map (k, ·))) >>= _) _ _ s
  refine wpAny_bind (wpAny_bind (wpAny_seqItemAt hl rfl (wpAny_pure ?_)))
  rw [at_]
  show wpAny _ _ (setSeqItemAt l k v >>= _) _ _ s
  refine wpAny_bind (wpAny_setSeqItemAt hl rfl ?_)
  first
    | exact wpAny_bind (wpAny_pure (wpAny_pure ⟨.none, rfl, wpAny_pure done⟩))
    | exact wpAny_pure ⟨.none, rfl, wpAny_pure done⟩

theorem isList_inv {d : D} (h : isList d = true) : ∃ ds, d = .list ds := by cases d <;> first | exact ⟨_, rfl⟩ | cases h
theorem OwnT.list_inv {Y : Addr → Prop} {h : Heap} {v : Value} {ds : List D} {f : List Addr} (o : OwnT Y h v (.list ds) f) : ∃ a vs n g, v = .ref a ∧ f = a :: g ∧ IsL h a vs.toArray n ∧ OwnTs Y h vs ds g := by
  cases o with
  | leaf hl _ => cases hl
  | list hl hr => exact ⟨_, _, _, _, rfl, rfl, hl, hr⟩

theorem sub_swaps {e o i : Expr} {p : Pos} {line : Nat} {env : Env} : swapsWith e (some (.Subscript o i p)) line env = pure false := by cases e <;> rfl

/-- the core of a store into a list of the frame's own -/
theorem put_core {A : Around} {env : Env} {s : Shared} {hb h2 : Heap} {Xc : Addr → Prop} {fp : Nat → List Addr} {ρ : Rho} {x : Nat} {nx : Str} {d' : D} {v' : Value} {g : List Addr} {ds ds' : List D} {i : Int} {t : Tok} {t2 : Nat} {a : Addr} {m : Str → Option Value} {Q : Unit → Shared → Prop}
    (F : Frame names env hb s.heap Xc fp ρ) (x2 : Ext s.heap h2) (gn : g.Nodup) (gd : ∀ a ∈ g, s.heap.get? a = none) (go : OwnT (fun a => Ys Xc fp a ∨ a ∈ g) h2 v' d' g)
    (hi : names[x]? = some (some nx)) (hsl : ρ[x]? = some (some ⟨true, .list ds⟩)) (hput : putAt i (d', .fresh) ds = some ds')
    (hm : Fm env s.heap m) (hvars : ∀ (i : Nat) (x : Str) (s' : Slot), names[i]? = some (some x) → ρ[i]? = some (some s') → ∃ v, m x = some v ∧ (s'.own = true → OwnT (Ys Xc fp) s.heap v s'.d (fp i)) ∧ (s'.own = false → Rep (Ys Xc fp) s.heap v s'.d)) (hv : m nx = some (.ref a))
    (hQ : ∀ h', Done names env hb Xc fp s.heap (.next (ρ.set x (some ⟨true, .list ds'⟩))) .next h' → (∀ b o, b ≠ a → h2.get? b = some o → h'.get? b = some o) → Q () { s with heap := h', toks := t2 }) :
    wpAny (model prog w) A (setItem (.ref a) (.int i t) v') Q NoE { s with heap := h2, toks := t2 } := by
  unfold putAt at hput
  split at hput <;> try contradiction
  rename_i hc
  obtain ⟨_, hc0, hc1, hc2⟩ := hc
  cases hput
  have gal : ∀ b ∈ g, ∃ vs n, IsL h2 b vs n := go.aliveL
  -- the frame with the new lists shut out
  have hX1 : ∀ b, (Xc b ∨ b ∈ g) → Xc b ∨ s.heap.get? b = none := fun b e => e.imp id (gd b)
  have F2 : Frame names env hb h2 (fun b => Xc b ∨ b ∈ g) fp ρ := F.shut x2 hX1 (fun b e => e.elim (fun e => let ⟨o, q⟩ := F.aliveX b e; ⟨o, x2 _ _ q⟩) (fun e => let ⟨_, _, q⟩ := gal b e; ⟨_, q⟩))
  have hY1 : ∀ b, Ys (fun b => Xc b ∨ b ∈ g) fp b → Ys Xc fp b ∨ s.heap.get? b = none := fun b e => e.elim (fun e => (hX1 b e).imp .inl id) fun e => .inl (.inr e)
  have hvars2 : ∀ (i : Nat) (x : Str) (s' : Slot), names[i]? = some (some x) → ρ[i]? = some (some s') → ∃ v, m x = some v ∧ (s'.own = true → OwnT (Ys (fun b => Xc b ∨ b ∈ g) fp) h2 v s'.d (fp i)) ∧ (s'.own = false → Rep (Ys (fun b => Xc b ∨ b ∈ g) fp) h2 v s'.d) := by
    intro i y s' e1 e2
    obtain ⟨v, q1, q2, q3⟩ := hvars i y s' e1 e2
    exact ⟨v, q1, fun h => ((q2 h).more hY1).ext x2, fun h => ((q3 h).more hY1).ext x2⟩
  obtain ⟨v0, q1, q2, _⟩ := hvars2 x nx _ hi hsl
  rw [hv] at q1; cases q1
  obtain ⟨a', vs, n, g0, e1, e2, hl, hos⟩ := (q2 rfl).list_inv
  cases e1
  have hax : a ∈ fp x := by rw [e2]; exact List.mem_cons_self
  have hnd : (a :: g0).Nodup := by rw [← e2]; exact F.nod x
  have hg0 : ∀ b ∈ g0, b ∈ fp x := fun b hb => by rw [e2]; exact List.mem_cons_of_mem _ hb
  have hlen := hos.length
  have hlt : i.toNat < ds.length := by omega
  refine setItem_L hl hc0 (by simp only [lim] at hc2; omega) (by omega) fun h' hl' sb => ?_
  obtain ⟨v0, f0, r1, r2, r3, r4, r5⟩ := hos.put (List.nodup_cons.mp hnd).2 i.toNat ds[i.toNat] (by simp [hlt])
  have aY : Ys (fun b => Xc b ∨ b ∈ g) fp a := .inr ⟨x, hax⟩
  have stY : ∀ Z : Addr → Prop, Z a → Stab Z h2 h' := fun Z hz b o items n hzb e hd => sb.extBut b o (by rintro rfl; exact hzb hz) e
  have ga : a ∉ g := fun h => by obtain ⟨_, _, q⟩ := F.aliveF x a hax; rw [IsL, gd a h] at q; cases q
  have gfp : ∀ b ∈ g, ∀ j, b ∉ fp j := fun b hb j hj => by obtain ⟨_, _, q⟩ := F.aliveF j b hj; rw [IsL, gd b hb] at q; cases q
  have go' : OwnT (Ys (fun b => Xc b ∨ b ∈ g) fp) h' v' d' g := by
    have : OwnT (Ys (fun b => Xc b ∨ b ∈ g) fp) h2 v' d' g := go.more fun b e => .inl (by
      rcases e with (e | e) | e
      · exact .inl (.inl e)
      · exact .inr e
      · exact .inl (.inr e))
    exact this.stab (stY _ aY) fun b o hb e => sb.extBut b o (by rintro rfl; exact ga hb) e
  obtain ⟨f', p1, p2, p3⟩ := r5 h' v' d' g (stY _ aY) (fun b o hb _ e => sb.extBut b o (by rintro rfl; exact (List.nodup_cons.mp hnd).1 hb) e) go' gn (fun b hb => .inr fun hb' => gfp b hb x (hg0 b hb'))
  have haf : a ∉ f' := fun h => (p3 a h).elim (List.nodup_cons.mp hnd).1 ga
  have hYY : ∀ b, Ys Xc (fun j => if j = x then a :: f' else fp j) b → Ys (fun b => Xc b ∨ b ∈ g) fp b := by
    intro b e
    rcases e with e | ⟨j, hj⟩
    · exact .inl (.inl e)
    · dsimp only at hj
      split at hj
      · rcases List.mem_cons.mp hj with rfl | hj
        · exact aY
        · rcases p3 b hj with h1 | h1
          · exact .inr ⟨x, hg0 b h1⟩
          · exact .inl (.inr h1)
      · exact .inr ⟨j, hj⟩
  have FF := F2.mut (Xc := Xc) (f' := a :: f') (d' := .list (ds.set i.toNat d')) (hm.ext x2) hvars2 hi hsl hv hax sb ⟨_, _, hl'⟩ hYY (.list hl' (p1.more fun b e => .inl (hYY b e))) (List.nodup_cons.mpr ⟨haf, p2⟩) (fun b hb => ?_) (fun b e => .inl e)
  · refine hQ h' ⟨fun b o e h1 h2 h3 => sb.extBut b o (by rintro rfl; exact h3 x hax) (x2 b o e), fun b e => ?_, rfl, _, FF, fun j b hb => ?_⟩ fun b o hne e => sb.extBut b o hne e
    · by_cases hba : b = a
      · subst hba; rw [IsL, e] at hl'; cases hl'
      · rw [sb.2 b hba] at e; exact x2.dead e
    · split at hb
      · rcases List.mem_cons.mp hb with rfl | hb
        · exact .inl ⟨x, hax⟩
        · rcases p3 b hb with h1 | h1
          · exact .inl ⟨x, hg0 b h1⟩
          · exact .inr (gd b h1)
      · exact .inl ⟨j, hb⟩
  · rcases List.mem_cons.mp hb with rfl | hb
    · exact .inl hax
    · rcases p3 b hb with h1 | h1
      · exact .inl (hg0 b h1)
      · refine .inr ⟨fun hx => (by obtain ⟨o, q⟩ := F.aliveX b hx; rw [gd b h1] at q; cases q), F.base.dead (gd b h1), gfp b h1, ?_⟩
        obtain ⟨vs', n', q⟩ := gal b h1
        exact ⟨vs', n', sb.extBut b _ (by rintro rfl; exact ga h1) q⟩

theorem ex_setItem {x : Str} {ei e : Expr} {mi me : ME} {j : Nat} (p q r : Pos) (hj : names[j]? = some (some x)) (H1 : EvOK prog w h₀ k Φ names sc e me) (H2 : EvOK prog w h₀ k Φ names sc ei mi) :
    ExOK prog w h₀ k Φ N names sc (.Assign [.Subscript (.Name x p) ei q] e r) (.setItem j mi me) := by
  intro A env s hb Xc fp ρ out R EO ES X F he Q hQ
  simp only [exS] at he
  split at he <;> try contradiction
  rename_i rv her
  split at he <;> try contradiction
  rename_i i mi' hei
  split at he <;> try contradiction
  rename_i ds hsl
  split at he <;> try contradiction
  rename_i ds' hput
  cases he
  obtain ⟨d', m'⟩ := rv
  have hfr : m' = .fresh := by
    unfold putAt at hput; split at hput <;> try contradiction
    rename_i hc; exact hc.1
  subst hfr
  have X' := X.trans F.base
  refine wpAny_Assign_Subscript (H1 A env s hb Xc fp ρ _ _ R EO X' F her _ fun v1 h1 t1 x1 r1 => ?_) sub_swaps
  obtain ⟨g, gn, gd, go⟩ := r1
  obtain ⟨m, hm, hvars⟩ := F.fm
  obtain ⟨v0, e1, e2, _⟩ := hvars j x _ hj hsl
  obtain ⟨a, vs, n, g0, rfl, _, _, _⟩ := (e2 rfl).list_inv
  refine wpAny_Name (load_var (hm.ext x1) EO.kind (F.kinds j x hj) (F.good j x hj).2 e1 ?_) (F.good j x hj).1
  have F1 : Frame names env hb h1 (fun b => Xc b ∨ b ∈ g) fp ρ := F.shut x1 (fun b e => e.imp id (gd b)) (fun b e => e.elim (fun e => let ⟨o, q⟩ := F.aliveX b e; ⟨o, x1 _ _ q⟩) (go.alive b))
  refine H2 A env { s with heap := h1, toks := t1 } hb _ fp ρ _ _ R EO (X'.trans x1) F1 hei _ fun v2 h2 t2 x2 r2 => ?_
  obtain ⟨t, rfl⟩ := r2.rep0.int_inv
  refine put_core (s := s) F (x1.trans x2) gn gd (go.ext x2) hj hsl hput hm hvars e1 fun h' dn _ => hQ _ h' t2 dn
end


section
variable {prog : Program} {w : World} {h₀ : Heap} {mg mb : Str → Option Value} {k : Nat} {Φ : Tab} {names : List (Option Str)} {sc : Scope} {N : Nat}

theorem ex_setItem2 {x : Str} {ei ej e : Expr} {mi mj me : ME} {j : Nat} (p q q' r : Pos) (hj : names[j]? = some (some x)) (H1 : EvOK prog w h₀ k Φ names sc e me) (H2 : EvOK prog w h₀ k Φ names sc ei mi) (H3 : EvOK prog w h₀ k Φ names sc ej mj) :
    ExOK prog w h₀ k Φ N names sc (.Assign [.Subscript (.Subscript (.Name x p) ei q') ej q] e r) (.setItem2 j mi mj me) := by
  intro A env s hb Xc fp ρ out R EO ES X F he Q hQ
  simp only [exS] at he
  split at he <;> try contradiction
  rename_i rv her
  split at he <;> try contradiction
  rename_i i mi' hei
  split at he <;> try contradiction
  rename_i l mj' hej
  split at he <;> try contradiction
  rename_i ds hsl
  split at he <;> try contradiction
  rename_i hik
  simp only [not_or, Int.not_lt] at hik
  split at he <;> try contradiction
  rename_i es hes
  split at he <;> try contradiction
  rename_i hnl
  split at he <;> try contradiction
  rename_i es' hput
  cases he
  obtain ⟨d', m'⟩ := rv
  unfold putAt at hput; split at hput <;> try contradiction
  rename_i hc
  obtain ⟨hfr, hc0, hc1, hc2⟩ := hc
  simp only at hfr
  subst hfr
  cases hput
  have X' := X.trans F.base
  refine wpAny_Assign_Subscript (H1 A env s hb Xc fp ρ _ _ R EO X' F her _ fun v1 h1 t1 x1 r1 => ?_) sub_swaps
  obtain ⟨g, gn, gd, go⟩ := r1
  have gnil : g = [] := by
    cases go with
    | leaf => rfl
    | list => simp [isList] at hnl
  subst gnil
  have gr : Rep (Ys Xc fp) h1 v1 d' := by
    cases go with
    | leaf _ r => exact r.sub fun a e => .inl e
  have hnl' : isList d' = false := by simpa using hnl
  obtain ⟨m, hm, hvars⟩ := F.fm
  obtain ⟨v0, e1, e2, _⟩ := hvars j x _ hj hsl
  obtain ⟨a, vs, n, g0, rfl, ef, hla, hos⟩ := (e2 rfl).list_inv
  have hnd : (a :: g0).Nodup := by rw [← ef]; exact F.nod j
  have hg0 : ∀ b ∈ g0, b ∈ fp j := fun b hb => by rw [ef]; exact List.mem_cons_of_mem _ hb
  refine PyProof.Rows.Subscript_ (wpAny_Name (load_var (hm.ext x1) EO.kind (F.kinds j x hj) (F.good j x hj).2 e1 ?_) (F.good j x hj).1)
  refine H2 A env { s with heap := h1, toks := t1 } hb Xc fp ρ _ _ R EO (X'.trans x1) (F.ext x1) hei _ fun v2 h2 t2 x2 r2 => ?_
  obtain ⟨t, rfl⟩ := r2.rep0.int_inv
  have x12 := x1.trans x2
  obtain ⟨v0, f0, q1, q2, q3, q4, q5⟩ := hos.put (List.nodup_cons.mp hnd).2 i.toNat (.list es) hes
  obtain ⟨b, ws, nb, gb, rfl, ef0, hlb, hobs⟩ := q2.list_inv
  have hlen := hos.length
  have hi2 : i < 2 ^ 63 := by have := hik.2; simp only [lim] at this; omega
  refine tail_ok ⟨_, x12 _ _ hla, rfl⟩ slot_list_getitem.lookup (wpAny_getItem_list (isList_of_isL (x12 _ _ hla)) hik.1 hi2 (by simpa using q1) ?_)
  refine H3 A env { s with heap := h2, toks := t2 } hb Xc fp ρ _ _ R EO (X'.trans x12) (F.ext x12) hej _ fun v3 h3 t3 x3 r3 => ?_
  obtain ⟨u, rfl⟩ := r3.rep0.int_inv
  have x13 := x12.trans x3
  have F3 := F.ext x13
  have hbx : b ∈ fp j := hg0 b (q3 b (by rw [ef0]; exact List.mem_cons_self))
  have hlenb := hobs.length
  refine setItem_L (x13 _ _ hlb) hc0 (by simp only [lim] at hc2; omega) (by omega) fun h' hl' sb => ?_
  have hba : b ≠ a := by
    rintro rfl; exact (List.nodup_cons.mp hnd).1 (q3 b (by rw [ef0]; exact List.mem_cons_self))
  have hf0n : (b :: gb).Nodup := by rw [← ef0]; exact q4
  have bY : Ys Xc fp b := .inr ⟨j, hbx⟩
  have stY : ∀ Z : Addr → Prop, Z b → Stab Z s.heap h' := fun Z hz c o items n hzb e hd => sb.extBut c o (by rintro rfl; exact hzb hz) (x13 _ _ e)
  -- the row
  have hlt : l.toNat < es.length := by omega
  obtain ⟨w0, f1, s1, s2, s3, s4, s5⟩ := hobs.put (List.nodup_cons.mp hf0n).2 l.toNat es[l.toNat] (by simp [hlt])
  have gr' : Rep (Ys Xc fp) h' v1 d' := (gr.ext (x2.trans x3)).stab fun c o items n hzb e hd => sb.extBut c o (by rintro rfl; exact hzb bY) e
  obtain ⟨f2, u1, u2, u3⟩ := s5 h' v1 d' [] (stY _ bY) (fun c o hc _ e => sb.extBut c o (by rintro rfl; exact (List.nodup_cons.mp hf0n).1 hc) (x13 _ _ e)) (.leaf hnl' gr') .nil (by simp)
  have u3' : ∀ c ∈ f2, c ∈ gb := fun c hc => (u3 c hc).elim id (by simp)
  have hrow : OwnT (Ys Xc fp) h' (.ref b) (.list (es.set l.toNat d')) (b :: f2) := .list hl' u1
  have hbf2 : b ∉ f2 := fun h => (List.nodup_cons.mp hf0n).1 (u3' b h)
  obtain ⟨f3, y1, y2, y3⟩ := q5 h' (.ref b) (.list (es.set l.toNat d')) (b :: f2) (stY _ bY)
    (fun c o hc hc0 e => sb.extBut c o (by rintro rfl; exact hc0 (by rw [ef0]; exact List.mem_cons_self)) (x13 _ _ e)) hrow (List.nodup_cons.mpr ⟨hbf2, u2⟩)
    (fun c hc => .inl (by rw [ef0]; rcases List.mem_cons.mp hc with rfl | hc; exact List.mem_cons_self; exact List.mem_cons_of_mem _ (u3' c hc)))
  have y3' : ∀ c ∈ f3, c ∈ g0 := fun c hc => (y3 c hc).elim id fun hc => q3 c (by
    rw [ef0]; rcases List.mem_cons.mp hc with rfl | hc
    · exact List.mem_cons_self
    · exact List.mem_cons_of_mem _ (u3' c hc))
  have hset : vs.set i.toNat (.ref b) = vs := by
    apply List.ext_getElem?
    intro c
    rw [List.getElem?_set]
    split
    · rename_i hcc; subst hcc
      split
      · exact q1.symm
      · rename_i hlt'; rw [List.getElem?_eq_none (by omega)]
    · rfl
  rw [hset] at y1
  have hla' : IsL h' a vs.toArray n := sb.extBut a _ hba.symm (x13 _ _ hla)
  have hYY : ∀ c, Ys Xc (fun j' => if j' = j then a :: f3 else fp j') c → Ys Xc fp c := by
    intro c e
    rcases e with e | ⟨j', hj'⟩
    · exact .inl e
    · dsimp only at hj'
      split at hj'
      · rcases List.mem_cons.mp hj' with rfl | hj'
        · exact .inr ⟨j, by rw [ef]; exact List.mem_cons_self⟩
        · exact .inr ⟨j, hg0 c (y3' c hj')⟩
      · exact .inr ⟨j', hj'⟩
  have FF := F3.mut (Xc := Xc) (f' := a :: f3) (d' := .list (ds.set i.toNat (.list (es.set l.toNat d')))) (hm.ext x13) (fun i y s' e1 e2 => by
      obtain ⟨v, q1, q2, q3⟩ := hvars i y s' e1 e2
      exact ⟨v, q1, fun h => (q2 h).ext x13, fun h => (q3 h).ext x13⟩) hj hsl e1 hbx sb ⟨_, _, hl'⟩ hYY (.list hla' (y1.more fun c e => .inl (hYY c e))) (List.nodup_cons.mpr ⟨fun h => (List.nodup_cons.mp hnd).1 (y3' a h), y2⟩)
      (fun c hc => .inl (by rcases List.mem_cons.mp hc with rfl | hc; rw [ef]; exact List.mem_cons_self; exact hg0 c (y3' c hc))) (fun c e => e)
  refine hQ .next h' t3 ⟨fun c o e h1 h2 h3 => sb.extBut c o (by rintro rfl; exact h3 j hbx) (x13 c o e), fun c e => ?_, rfl, _, FF, .of_sub fun j' c hc => ?_⟩
  · by_cases hcb : c = b
    · subst hcb; rw [IsL, e] at hl'; cases hl'
    · rw [sb.2 c hcb] at e; exact x13.dead e
  · split at hc
    · rename_i hjj; subst hjj
      rcases List.mem_cons.mp hc with rfl | hc
      · rw [ef]; exact List.mem_cons_self
      · exact hg0 c (y3' c hc)
    · exact hc

theorem ex_append {x : Str} {e : Expr} {me : ME} {j : Nat} (p ap q r : Pos) (hj : names[j]? = some (some x)) (hne : notStar e = true) (hline : (ap.endLine == q.line) = true) (H1 : EvOK prog w h₀ k Φ names sc e me) :
    ExOK prog w h₀ k Φ N names sc (.Expr (.Call (.Attribute (.Name x p) "append" ap) [e] [] q) r) (.append j me) := by
  intro A env s hb Xc fp ρ out R EO ES X F he Q hQ
  simp only [exS] at he
  split at he <;> try contradiction
  rename_i d' her
  split at he <;> try contradiction
  rename_i ds hsl
  split at he <;> try contradiction
  rename_i hlen'
  cases he
  have X' := X.trans F.base
  obtain ⟨m, hm, hvars⟩ := F.fm
  obtain ⟨v0, e1, e2, _⟩ := hvars j x _ hj hsl
  obtain ⟨a, vs, n, g0, rfl, ef, hla, hos⟩ := (e2 rfl).list_inv
  have hnd : (a :: g0).Nodup := by rw [← ef]; exact F.nod j
  have hax : a ∈ fp j := by rw [ef]; exact List.mem_cons_self
  have hg0 : ∀ b ∈ g0, b ∈ fp j := fun b hb => by rw [ef]; exact List.mem_cons_of_mem _ hb
  refine wpAny_Expr ?_ (by unfold interactive; rw [EO.kind]; rfl) rfl
  refine wpAny_Call_append rfl (by rw [star_eq hne]; rfl) hline (by rw [star_eq hne]; rfl) ?_
  refine wpAny_Name (load_var hm EO.kind (F.kinds j x hj) (F.good j x hj).2 e1 ?_) (F.good j x hj).1
  refine ⟨a, vs.toArray, rfl, ⟨_, n, hla, rfl, rfl, rfl⟩, ?_⟩
  refine H1 A env s hb Xc fp ρ _ _ R EO X' F her _ fun v1 h1 t1 x1 r1 => ?_
  obtain ⟨g, gn, gd, go⟩ := r1
  have hlen := hos.length
  refine wpAny_list_append_plain (hsz := by simp only [List.size_toArray, sizeLine, lim] at *; omega) ⟨n, x1 _ _ hla⟩ fun h' hl' sb => ?_
  obtain ⟨n', hl'⟩ := hl'
  have hl'' : IsL h' a (vs ++ [v1]).toArray n' := by simpa using hl'
  have hX1 : ∀ b, (Xc b ∨ b ∈ g) → Xc b ∨ s.heap.get? b = none := fun b e => e.imp id (gd b)
  have F2 : Frame names env hb h1 (fun b => Xc b ∨ b ∈ g) fp ρ := F.shut x1 hX1 (fun b e => e.elim (fun e => let ⟨o, q⟩ := F.aliveX b e; ⟨o, x1 _ _ q⟩) (go.alive b))
  have hY1 : ∀ b, Ys (fun b => Xc b ∨ b ∈ g) fp b → Ys Xc fp b ∨ s.heap.get? b = none := fun b e => e.elim (fun e => (hX1 b e).imp .inl id) fun e => .inl (.inr e)
  have aY : Ys (fun b => Xc b ∨ b ∈ g) fp a := .inr ⟨j, hax⟩
  have ga : a ∉ g := fun h => by rw [IsL, gd a h] at hla; cases hla
  have gfp : ∀ b ∈ g, ∀ j, b ∉ fp j := fun b hb j hj => by obtain ⟨_, _, q⟩ := F.aliveF j b hj; rw [IsL, gd b hb] at q; cases q
  have stY : ∀ Z : Addr → Prop, Z a → Stab Z h1 h' := fun Z hz b o items n hzb e hd => sb.extBut b o (by rintro rfl; exact hzb hz) e
  have o1 : OwnTs (Ys (fun b => Xc b ∨ b ∈ g) fp) h' vs ds g0 := ((hos.more hY1).ext x1).stab (stY _ aY) fun b o hb e => sb.extBut b o (by rintro rfl; exact (List.nodup_cons.mp hnd).1 hb) e
  have o2 : OwnT (Ys (fun b => Xc b ∨ b ∈ g) fp) h' v1 d' g := by
    have : OwnT (Ys (fun b => Xc b ∨ b ∈ g) fp) h1 v1 d' g := go.more fun b e => .inl (by
      rcases e with (e | e) | e
      · exact .inl (.inl e)
      · exact .inr e
      · exact .inl (.inr e))
    exact this.stab (stY _ aY) fun b o hb e => sb.extBut b o (by rintro rfl; exact ga hb) e
  have o3 : OwnTs (Ys (fun b => Xc b ∨ b ∈ g) fp) h' (vs ++ [v1]) (ds ++ [d']) (g0 ++ (g ++ [])) := o1.append (.cons o2 .nil)
  rw [List.append_nil] at o3
  have hYY : ∀ b, Ys Xc (fun j' => if j' = j then a :: (g0 ++ g) else fp j') b → Ys (fun b => Xc b ∨ b ∈ g) fp b := by
    intro b e
    rcases e with e | ⟨j', hj'⟩
    · exact .inl (.inl e)
    · dsimp only at hj'
      split at hj'
      · rcases List.mem_cons.mp hj' with rfl | hj'
        · exact aY
        · rcases List.mem_append.mp hj' with h1 | h1
          · exact .inr ⟨j, hg0 b h1⟩
          · exact .inl (.inr h1)
      · exact .inr ⟨j', hj'⟩
  have nd' : (a :: (g0 ++ g)).Nodup := by
    refine List.nodup_cons.mpr ⟨fun h => (List.mem_append.mp h).elim (List.nodup_cons.mp hnd).1 ga, List.nodup_append.mpr ⟨(List.nodup_cons.mp hnd).2, gn, fun b hb c hc e => ?_⟩⟩
    subst e; exact gfp b hc j (hg0 b hb)
  have FF := F2.mut (Xc := Xc) (f' := a :: (g0 ++ g)) (d' := .list (ds ++ [d'])) (hm.ext x1) (fun i y s' e1 e2 => by
      obtain ⟨v, q1, q2, q3⟩ := hvars i y s' e1 e2
      exact ⟨v, q1, fun h => ((q2 h).more hY1).ext x1, fun h => ((q3 h).more hY1).ext x1⟩) hj hsl e1 hax sb ⟨_, _, hl''⟩ hYY (.list hl'' (o3.more fun b e => .inl (hYY b e))) nd'
      (fun b hb => by
        rcases List.mem_cons.mp hb with rfl | hb
        · exact .inl hax
        · rcases List.mem_append.mp hb with h1 | h1
          · exact .inl (hg0 b h1)
          · refine .inr ⟨fun hx => (by obtain ⟨o, q⟩ := F.aliveX b hx; rw [gd b h1] at q; cases q), F.base.dead (gd b h1), gfp b h1, ?_⟩
            obtain ⟨vs', n', q⟩ := go.aliveL b h1
            exact ⟨vs', n', sb.extBut b _ (by rintro rfl; exact ga h1) q⟩) (fun b e => .inl e)
  refine hQ .next h' t1 ⟨fun c o e h1 h2 h3 => sb.extBut c o (by rintro rfl; exact h3 j hax) (x1 c o e), fun c e => ?_, rfl, _, FF, fun j' c hc => ?_⟩
  · by_cases hcb : c = a
    · subst hcb; rw [IsL, e] at hl''; cases hl''
    · rw [sb.2 c hcb] at e; exact x1.dead e
  · split at hc
    · rcases List.mem_cons.mp hc with rfl | hc
      · exact .inl ⟨j, hax⟩
      · rcases List.mem_append.mp hc with h1 | h1
        · exact .inl ⟨j, hg0 c h1⟩
        · exact .inr (gd c h1)
    · exact .inl ⟨j', hc⟩
end


section
variable {prog : Program} {w : World} {h₀ : Heap} {mg mb : Str → Option Value} {k : Nat} {Φ : Tab} {names : List (Option Str)} {sc : Scope} {N : Nat}

-- x, y = e
noncomputable def pureOf {α : Type} : Sem α → Option α
  | .pure a => some a
  | _ => none
theorem pureOf_eq {α : Type} {t : Sem α} {a : α} (h : pureOf t = some a) : t = pure a := by
  cases t
  case pure b => cases h; rfl
  all_goals cases h
noncomputable def envD (sc : Scope) : Env := { scope := sc, locals := 0, globals := 0, cells := [] }
noncomputable def swStores (sc : Scope) (ts : List Expr) (value : Expr) : Option (Option (List Str)) := pureOf (swappedStores [.Tuple ts 0 default] value (envD sc))
theorem swStores_eq {env : Env} {ts : List Expr} {j : Nat} {tp : Pos} {value : Expr} {r : Option (List Str)} (ES : env.scope = sc) (h : swStores sc ts value = some r) : swappedStores [.Tuple ts j tp] value env = pure r := by
  have e := pureOf_eq h
  rw [← e]
  cases env; cases ES; cases value <;> rfl

theorem tuple_swaps {e : Expr} {ts : List Expr} {j : Nat} {tp : Pos} {line : Nat} {env : Env} : swapsWithSole [.Tuple ts j tp] e line env = pure false := by cases e <;> rfl

/-- stores one behind the other -/
theorem stores_ok {A : Around} {env : Env} {hb : Heap} {Xc : Addr → Prop} {M : Model} {E : Value → Shared → Prop} (EO : EnvOK env sc) (ES : env.scope = sc) :
    ∀ (l : List (Nat × Str × Value × D)) (fs : List (Value → Sem Unit)) (s : Shared) (fp : Nat → List Addr) (ρ : Rho) (Q : Unit → Shared → Prop), Frame names env hb s.heap Xc fp ρ →
      (∀ p ∈ l, names[p.1]? = some (some p.2.1) ∧ storable sc p.2.1 = true ∧ Rep (Ys Xc fp) s.heap p.2.2.1 p.2.2.2) → fs.length = l.length →
      (∀ (i : Nat) (p : Nat × Str × Value × D) (f : Value → Sem Unit), l[i]? = some p → fs[i]? = some f → ∀ v Q s, wpAny M A (storeName env p.2.1 v) Q E s → wpAny M A (f v) Q E s) →
      (∀ h' tk, Done names env hb Xc fp s.heap (.next (l.foldl (fun ρ p => ρ.set p.1 (some ⟨false, p.2.2.2⟩)) ρ)) .next h' → Q () { s with heap := h', toks := tk }) →
      wpAny M A (assignInOrder fs (l.map (·.2.2.1))) Q E s
  | [], fs, s, fp, ρ, Q, F, _, hfs, _, hQ => by
    cases fs with
    | nil => exact wpAny_pure (hQ s.heap s.toks ⟨(Ext.refl _).pres, fun _ e => e, rfl, fp, F, .of_sub fun _ _ e => e⟩)
    | cons => simp at hfs
  | p :: l, [], s, fp, ρ, Q, F, hl, hfs, hf, hQ => by simp at hfs
  | p :: l, f :: fs, s, fp, ρ, Q, F, hl, hfs, hf, hQ => by
    obtain ⟨h1, h2, h3⟩ := hl p (by simp)
    show wpAny M A (do holding _ (f p.2.2.1); assignInOrder fs _) Q E s
    refine wpAny_bind (wpAny_holding (hf 0 p f (by simp) (by simp) _ _ _ ?_))
    refine bind_slot (s := s) (m := .shared) (o := false) (d := p.2.2.2) (t1 := s.toks) F EO.kind h1 (storable_kind ES h2) (Ext.refl _) h3 rfl fun h' tk dn kp st => ?_
    obtain ⟨d1, d2, _, fp1, F1, n1⟩ := dn
    have hsub : ∀ a, Ys Xc fp1 a → Ys Xc fp a ∨ s.heap.get? a = none := by
      intro a e
      rcases e with e | ⟨j, hj⟩
      · exact .inl (.inl e)
      · exact (n1 j a hj).imp (fun e => .inr e) id
    refine stores_ok EO ES l fs { s with heap := h', toks := tk } fp1 _ Q F1 (fun q hq => ?_) (by simpa using hfs) (fun i q f' e1 e2 => hf (i + 1) q f' (by simpa using e1) (by simpa using e2)) fun h'' tk' dn' => hQ h'' tk' (dn'.after d1 d2 n1)
    obtain ⟨g1, g2, g3⟩ := hl q (by simp [hq])
    exact ⟨g1, g2, (g3.more hsub).stab (st _)⟩


theorem sto_nil {P : (Nat × Str × Value × D) → (Value → Sem Unit) → Prop} : ∀ (i : Nat) p f, ([] : List (Nat × Str × Value × D))[i]? = some p → ([] : List (Value → Sem Unit))[i]? = some f → P p f := fun _ _ _ h => by cases h
theorem sto_cons {P : (Nat × Str × Value × D) → (Value → Sem Unit) → Prop} {p0 : Nat × Str × Value × D} {f0 : Value → Sem Unit} {l : List (Nat × Str × Value × D)} {fs : List (Value → Sem Unit)} (h : P p0 f0) (t : ∀ (i : Nat) p f, l[i]? = some p → fs[i]? = some f → P p f) :
    ∀ (i : Nat) p f, (p0 :: l)[i]? = some p → (f0 :: fs)[i]? = some f → P p f
  | 0, _, _, h1, h2 => by cases h1; cases h2; exact h
  | i + 1, p, f, h1, h2 => t i p f h1 h2
theorem all_cons {α : Type} {P : α → Prop} {a : α} {l : List α} (h : P a) (t : ∀ x ∈ l, P x) : ∀ x ∈ a :: l, P x := List.forall_mem_cons.mpr ⟨h, t⟩
theorem all_nil {α : Type} {P : α → Prop} : ∀ x ∈ ([] : List α), P x := fun _ h => by cases h
theorem isTup {h : Heap} {a : Addr} {vs : List Value} {n : Nat} (e : IsT h a vs.toArray n) : h.IsTuple a vs.toArray := ⟨_, e, rfl, _, rfl⟩
theorem extBut_ext {h h' : Heap} (x : Heap.ExtBut h.objs.size h h') : Ext h h' := fun a o e => x a o (by rintro rfl; exact absurd (Heap.lt_size e) (Nat.lt_irrefl _)) e

theorem ex_unpack2 {x y : Str} {e : Expr} {me : ME} {i i' : Nat} {r : Option (List Str)} (j : Nat) (px py tp q : Pos) (hi : names[i]? = some (some x)) (hi' : names[i']? = some (some y)) (hx : storable sc x = true) (hy : storable sc y = true)
    (hsw : swStores sc [.Name x px, .Name y py] e = some r) (hr : r = none ∨ r = some [x, y]) (H : EvOK prog w h₀ k Φ names sc e me) : ExOK prog w h₀ k Φ N names sc (.Assign [.Tuple [.Name x px, .Name y py] j tp] e q) (.unpack2 i i' me) := by
  intro A env s hb Xc fp ρ out R EO ES X F he Q hQ
  simp only [exS] at he
  split at he <;> try contradiction
  rename_i a b her
  split at he <;> try contradiction
  rename_i hne
  cases he
  have X' := X.trans F.base
  have core : ∀ (v : Value) (h1 : Heap) (t1 : Nat), Ext s.heap h1 → Res .fresh Xc fp s.heap h1 v (.tuple [a, b]) → ∃ c v1 v2 n, v = .ref c ∧ IsT h1 c [v1, v2].toArray n ∧ Rep (Ys Xc fp) h1 v1 a ∧ Rep (Ys Xc fp) h1 v2 b := by
    intro v h1 t1 x1 r1
    obtain ⟨c, vs, n, rfl, _, ht, hr⟩ := (r1.shared F.aliveY (by simp)).tuple_inv
    cases hr with
    | cons q1 hr => cases hr with
      | cons q2 hr => cases hr; exact ⟨c, _, _, n, rfl, ht, q1, q2⟩
  rcases hr with rfl | rfl
  · refine PyProof.Rows.Assign_Tuple (H A env s hb Xc fp ρ _ _ R EO X' F her _ fun v h1 t1 x1 r1 => ?_) tuple_swaps (swStores_eq ES hsw)
    obtain ⟨c, v1, v2, n, rfl, ht, q1, q2⟩ := core v h1 t1 x1 r1
    refine wpAny_assign_Tuple R.hd (isTup ht) rfl rfl fun h2 x2 => ?_
    have x2 := extBut_ext x2
    refine stores_ok (names := names) EO ES [(i, x, v1, a), (i', y, v2, b)] [assign (.Name x px) env, assign (.Name y py) env] _ fp ρ _ (F.ext (x1.trans x2)) ?_ rfl ?_ fun h' tk dn => hQ .next h' tk (dn.after (x1.trans x2).pres (x1.trans x2).al (.of_sub fun _ _ e => e))
    · exact (all_cons ⟨hi, hx, q1.ext x2⟩ (all_cons ⟨hi', hy, q2.ext x2⟩ all_nil))
    · exact (sto_cons (fun _ _ _ => wpAny_assign_Name) (sto_cons (fun _ _ _ => wpAny_assign_Name) sto_nil))
  · refine PyProof.Rows.Assign_Tuple_swapped (H A env s hb Xc fp ρ _ _ R EO X' F her _ fun v h1 t1 x1 r1 => ?_) tuple_swaps (swStores_eq ES hsw)
    obtain ⟨c, v1, v2, n, rfl, ht, q1, q2⟩ := core v h1 t1 x1 r1
    rw [show ([x, y] : List Str).length = ([v1, v2].toArray).size from rfl]
    refine wpAny_unpackItems_tuple R.hd (isTup ht) fun h2 x2 => ?_
    have x2 := extBut_ext x2
    have hset : (ρ.set i (some ⟨false, a⟩)).set i' (some ⟨false, b⟩) = (ρ.set i' (some ⟨false, b⟩)).set i (some ⟨false, a⟩) := List.set_comm _ _ hne
    rw [hset] at hQ
    refine stores_ok (names := names) EO ES [(i', y, v2, b), (i, x, v1, a)] [bindName env y, bindName env x] _ fp ρ _ (F.ext (x1.trans x2)) ?_ rfl ?_ fun h' tk dn => hQ .next h' tk (dn.after (x1.trans x2).pres (x1.trans x2).al (.of_sub fun _ _ e => e))
    · exact (all_cons ⟨hi', hy, q2.ext x2⟩ (all_cons ⟨hi, hx, q1.ext x2⟩ all_nil))
    · exact (sto_cons (fun _ _ _ => wpAny_bindName) (sto_cons (fun _ _ _ => wpAny_bindName) sto_nil))

theorem ex_unpack3 {x y z : Str} {e : Expr} {me : ME} {i i' i'' : Nat} {r : Option (List Str)} (j : Nat) (px py pz tp q : Pos) (hi : names[i]? = some (some x)) (hi' : names[i']? = some (some y)) (hi'' : names[i'']? = some (some z)) (hx : storable sc x = true) (hy : storable sc y = true) (hz : storable sc z = true)
    (hsw : swStores sc [.Name x px, .Name y py, .Name z pz] e = some r) (hr : r = none ∨ r = some [x, y, z]) (H : EvOK prog w h₀ k Φ names sc e me) : ExOK prog w h₀ k Φ N names sc (.Assign [.Tuple [.Name x px, .Name y py, .Name z pz] j tp] e q) (.unpack3 i i' i'' me) := by
  intro A env s hb Xc fp ρ out R EO ES X F he Q hQ
  simp only [exS] at he
  split at he <;> try contradiction
  rename_i a b c her
  split at he <;> try contradiction
  rename_i hne
  simp only [not_or] at hne
  cases he
  have X' := X.trans F.base
  have core : ∀ (v : Value) (h1 : Heap) (t1 : Nat), Ext s.heap h1 → Res .fresh Xc fp s.heap h1 v (.tuple [a, b, c]) → ∃ t v1 v2 v3 n, v = .ref t ∧ IsT h1 t [v1, v2, v3].toArray n ∧ Rep (Ys Xc fp) h1 v1 a ∧ Rep (Ys Xc fp) h1 v2 b ∧ Rep (Ys Xc fp) h1 v3 c := by
    intro v h1 t1 x1 r1
    obtain ⟨t, vs, n, rfl, _, ht, hr⟩ := (r1.shared F.aliveY (by simp)).tuple_inv
    cases hr with
    | cons q1 hr => cases hr with
      | cons q2 hr => cases hr with
        | cons q3 hr => cases hr; exact ⟨t, _, _, _, n, rfl, ht, q1, q2, q3⟩
  rcases hr with rfl | rfl
  · refine PyProof.Rows.Assign_Tuple (H A env s hb Xc fp ρ _ _ R EO X' F her _ fun v h1 t1 x1 r1 => ?_) tuple_swaps (swStores_eq ES hsw)
    obtain ⟨t, v1, v2, v3, n, rfl, ht, q1, q2, q3⟩ := core v h1 t1 x1 r1
    refine wpAny_assign_Tuple R.hd (isTup ht) rfl rfl fun h2 x2 => ?_
    have x2 := extBut_ext x2
    refine stores_ok (names := names) EO ES [(i, x, v1, a), (i', y, v2, b), (i'', z, v3, c)] [assign (.Name x px) env, assign (.Name y py) env, assign (.Name z pz) env] _ fp ρ _ (F.ext (x1.trans x2)) ?_ rfl ?_ fun h' tk dn => hQ .next h' tk (dn.after (x1.trans x2).pres (x1.trans x2).al (.of_sub fun _ _ e => e))
    · exact (all_cons ⟨hi, hx, q1.ext x2⟩ (all_cons ⟨hi', hy, q2.ext x2⟩ (all_cons ⟨hi'', hz, q3.ext x2⟩ all_nil)))
    · exact (sto_cons (fun _ _ _ => wpAny_assign_Name) (sto_cons (fun _ _ _ => wpAny_assign_Name) (sto_cons (fun _ _ _ => wpAny_assign_Name) sto_nil)))
  · refine PyProof.Rows.Assign_Tuple_swapped (H A env s hb Xc fp ρ _ _ R EO X' F her _ fun v h1 t1 x1 r1 => ?_) tuple_swaps (swStores_eq ES hsw)
    obtain ⟨t, v1, v2, v3, n, rfl, ht, q1, q2, q3⟩ := core v h1 t1 x1 r1
    rw [show ([x, y, z] : List Str).length = ([v1, v2, v3].toArray).size from rfl]
    refine wpAny_unpackItems_tuple R.hd (isTup ht) fun h2 x2 => ?_
    have x2 := extBut_ext x2
    have hset : ((ρ.set i (some ⟨false, a⟩)).set i' (some ⟨false, b⟩)).set i'' (some ⟨false, c⟩) = ((ρ.set i'' (some ⟨false, c⟩)).set i' (some ⟨false, b⟩)).set i (some ⟨false, a⟩) := by
      rw [List.set_comm _ _ hne.1, List.set_comm _ _ hne.2.2, List.set_comm _ _ hne.2.1]
    rw [hset] at hQ
    refine stores_ok (names := names) EO ES [(i'', z, v3, c), (i', y, v2, b), (i, x, v1, a)] [bindName env z, bindName env y, bindName env x] _ fp ρ _ (F.ext (x1.trans x2)) ?_ rfl ?_ fun h' tk dn => hQ .next h' tk (dn.after (x1.trans x2).pres (x1.trans x2).al (.of_sub fun _ _ e => e))
    · exact (all_cons ⟨hi'', hz, q3.ext x2⟩ (all_cons ⟨hi', hy, q2.ext x2⟩ (all_cons ⟨hi, hx, q1.ext x2⟩ all_nil)))
    · exact (sto_cons (fun _ _ _ => wpAny_bindName) (sto_cons (fun _ _ _ => wpAny_bindName) (sto_cons (fun _ _ _ => wpAny_bindName) sto_nil)))

/-- x[i], x[j] = e1, e2 with ints -/
theorem ex_swap {x : Str} {ei ej e1 e2 : Expr} {mi mj m1 m2 : ME} {j : Nat} (p p' q q' tp vp r : Pos) (n1 n2 : Nat) (hj : names[j]? = some (some x)) (hs1 : notStar e1 = true) (hs2 : notStar e2 = true)
    (H1 : EvOK prog w h₀ k Φ names sc e1 m1) (H2 : EvOK prog w h₀ k Φ names sc e2 m2) (H3 : EvOK prog w h₀ k Φ names sc ei mi) (H4 : EvOK prog w h₀ k Φ names sc ej mj)
    (hsw : swStores sc [.Subscript (.Name x p) ei q, .Subscript (.Name x p') ej q'] (.Tuple [e1, e2] n2 vp) = some none) :
    ExOK prog w h₀ k Φ N names sc (.Assign [.Tuple [.Subscript (.Name x p) ei q, .Subscript (.Name x p') ej q'] n1 tp] (.Tuple [e1, e2] n2 vp) r) (.swap j mi mj m1 m2) := by
  intro A env s hb Xc fp ρ out R EO ES X F he Q hQ
  simp only [exS] at he
  split at he <;> try contradiction
  rename_i a ma hea
  split at he <;> try contradiction
  rename_i b mb' heb
  split at he <;> try contradiction
  rename_i i mi' hei
  split at he <;> try contradiction
  rename_i ds hsl
  split at he <;> try contradiction
  rename_i ds' hput
  split at he <;> try contradiction
  rename_i l ml hel
  split at he <;> try contradiction
  rename_i ds'' hput'
  cases he
  have X' := X.trans F.base
  refine PyProof.Rows.Assign_Tuple ?_ tuple_swaps (swStores_eq ES hsw)
  refine PyProof.Rows.Tuple_ (PyProof.Rows.args_cons (H1 A env s hb Xc fp ρ _ _ R EO X' F hea _ fun v1 h1 t1 x1 r1 => ?_) (star_eq hs1 _ _))
  refine PyProof.Rows.args_cons (H2 A env { s with heap := h1, toks := t1 } hb Xc fp ρ _ _ R EO (X'.trans x1) (F.ext x1) heb _ fun v2 h2 t2 x2 r2 => ?_) (star_eq hs2 _ _)
  refine wpAny_items_nil (wpAny_newObj_type ?_ (by show ([v1, v2].toArray).size ≤ sizeLine; simp [sizeLine]))
  obtain ⟨u1, rfl⟩ := r1.rep0.int_inv
  obtain ⟨u2, rfl⟩ := r2.rep0.int_inv
  generalize hh3 : h2.push { cls := .type "tuple", data := .seq [Value.int a u1, Value.int b u2].toArray } = h3
  have x3 : Ext h2 h3 := by rw [← hh3]; exact (Ext.refl _).push _
  have ht : IsT h3 h2.objs.size [Value.int a u1, Value.int b u2].toArray 0 := by rw [← hh3]; exact Heap.get?_push_size _ rfl
  refine wpAny_assign_Tuple R.hd (isTup ht) rfl rfl fun h4 x4 => ?_
  have x4 := extBut_ext x4
  have x04 : Ext s.heap h4 := ((x1.trans x2).trans x3).trans x4
  show wpAny _ A (do holding _ (assign (.Subscript (.Name x p) ei q) env (Value.int a u1)); assignInOrder [assign (.Subscript (.Name x p') ej q') env] [Value.int b u2]) _ _ _
  -- the first store
  have one : ∀ {ee : Expr} {mm : ME} {pp qq : Pos} {c : Int} {u : Tok} {s : Shared} {fp : Nat → List Addr} {ρ : Rho} {i : Int} {mi' : Mode} {ds ds' : List D} {Q : Unit → Shared → Prop}, EvOK prog w h₀ k Φ names sc ee mm → Ext h₀ s.heap → Frame names env hb s.heap Xc fp ρ → evE Φ mm ρ = some (.int i, mi') →
      ρ[j]? = some (some ⟨true, .list ds⟩) → putAt i (.int c, .fresh) ds = some ds' → (∀ h' tk, Done names env hb Xc fp s.heap (.next (ρ.set j (some ⟨true, .list ds'⟩))) .next h' → Q () { s with heap := h', toks := tk }) → wpAny (model prog w) A (assign (.Subscript (.Name x pp) ee qq) env (.int c u)) Q NoE s := by
    intro ee mm pp qq c u s fp ρ i mi' ds ds' Q HE XX FF hev hsl' hput hQ
    rw [arm_assign_Subscript]
    obtain ⟨m, hm, hvars⟩ := FF.fm
    obtain ⟨v0, e1, e2, _⟩ := hvars j x _ hj hsl'
    obtain ⟨a0, vs, n, g0, rfl, _, _, _⟩ := (e2 rfl).list_inv
    refine wpAny_bind (wpAny_holding (wpAny_Name (load_var hm EO.kind (FF.kinds j x hj) (FF.good j x hj).2 e1 ?_) (FF.good j x hj).1))
    refine wpAny_bind (wpAny_holding (HE A env s hb Xc fp ρ _ _ R EO XX FF hev _ fun v h1 t1 x1 r1 => ?_))
    obtain ⟨t, rfl⟩ := r1.rep0.int_inv
    refine wpAny_bind (wpAny_standAt (wpAny_bind (wpAny_holding ?_)))
    refine put_core (s := s) FF x1 (g := []) .nil (by simp) (.leaf rfl (.int _ _)) hj hsl' hput hm hvars e1 fun h' dn _ => ?_
    exact wpAny_release (hQ h' t1 dn)
  refine wpAny_bind (wpAny_holding (one H3 (X'.trans x04) (F.ext x04) hei hsl hput fun h5 t5 dn => ?_))
  obtain ⟨d1, d2, _, fp5, F5, n5⟩ := dn
  show wpAny _ A (do holding _ (assign (.Subscript (.Name x p') ej q') env (Value.int b u2)); assignInOrder [] []) _ _ _
  have hlj : j < ρ.length := (List.getElem?_eq_some_iff.mp hsl).1
  refine wpAny_bind (wpAny_holding (one (s := { s with heap := h5, toks := t5 }) H4 (X.trans F5.base) F5 hel (by rw [List.getElem?_set_self hlj]) hput' fun h6 t6 dn' => ?_))
  refine wpAny_pure (hQ .next h6 t6 ?_)
  exact (dn'.after d1 d2 n5).after x04.pres x04.al (.of_sub fun _ _ e => e)
end


section
variable {prog : Program} {w : World} {h₀ : Heap} {mg mb : Str → Option Value} {k : Nat} {Φ : Tab} {names : List (Option Str)} {sc : Scope} {N : Nat}

theorem Frame.localsAlive {env : Env} {hb h : Heap} {Xc : Addr → Prop} {fp : Nat → List Addr} {ρ : Rho} (F : Frame names env hb h Xc fp ρ) : ∃ o es ep, h.get? env.locals = some o ∧ o.data = .dict es ep := by
  obtain ⟨m, hm, _⟩ := F.fm
  obtain ⟨ml, ⟨o, es, ep, h1, h2, _⟩, _⟩ := hm.loc
  exact ⟨o, es, ep, h1, h2⟩
theorem Frame.cellAlive {env : Env} {hb h : Heap} {Xc : Addr → Prop} {fp : Nat → List Addr} {ρ : Rho} (F : Frame names env hb h Xc fp ρ) {y : Str} {c : Addr} (hk : env.kindOf y = some .cell ∨ env.kindOf y = some .free) (hc : env.cells.lookup y = some c) : ∃ o v, h.get? c = some o ∧ o.data = .cell v := by
  obtain ⟨m, hm, _⟩ := F.fm
  obtain ⟨c', e1, o, e2, e3⟩ := hm.cel y hk
  rw [hc] at e1; cases e1
  exact ⟨o, _, e2, e3⟩

theorem ex_while {body : List Stmt} {mbody : List MS} (n : Nat) (p pos : Pos) (Hb : ExsOK prog w h₀ k Φ N names sc body mbody) : ExOK prog w h₀ k Φ N names sc (.While (.Constant (.bool true) n p) body [] pos) (.whileT mbody) := by
  intro A env s hb Xc fp ρ out R EO ES X F he Q hQ
  simp only [exS] at he
  refine wpAny_While ?_
  let Inv : Nat → Shared → Prop := fun kk s' => ∃ (h : Heap) (tk : Nat) (fpi : Nat → List Addr) (ρi : Rho), s' = { s with heap := h, toks := tk } ∧ Frame names env hb h Xc fpi ρi ∧ whileM (fun ρ => exSs Φ N mbody ρ) kk ρi = some out ∧
    NewFp fp s.heap fpi ∧ Pres env fp s.heap h ∧ (∀ a, h.get? a = none → s.heap.get? a = none)
  refine codeAny_whileLoop Inv ?_ N ⟨s.heap, s.toks, fp, ρ, rfl, F, he, .of_sub fun _ _ e => e, (Ext.refl _).pres, fun _ e => e⟩
  rintro kk s' ⟨h, tk, fpi, ρi, rfl, Fi, hw, nf, pr, al⟩
  cases kk with
  | zero => simp [whileM] at hw
  | succ kk =>
    simp only [whileM] at hw
    refine wpAny_isTrue_value (wpAny_Constant_bool (wpAny_truthy_bool ?_))
    simp only [if_true]
    cases hf : exSs Φ N mbody ρi with
    | none => rw [hf] at hw; cases hw
    | some oi =>
      rw [hf] at hw
      refine wpAny_noE (Hb A env { s with heap := h, toks := tk } hb Xc fpi _ oi R EO ES X Fi hf _ fun f h4 tk4 dn4 => ?_)
      cases oi with
      | next ρ' =>
        obtain ⟨p4, a4, rfl, fp4, F4, n4⟩ := dn4
        exact ⟨kk, Nat.lt_succ_self _, h4, tk4, fp4, ρ', rfl, F4, hw, nf.trans (env := env) al n4, pr.trans nf p4, fun a e => al a (a4 a e)⟩
      | cont ρ' =>
        obtain ⟨p4, a4, rfl, fp4, F4, n4⟩ := dn4
        exact ⟨kk, Nat.lt_succ_self _, h4, tk4, fp4, ρ', rfl, F4, hw, nf.trans (env := env) al n4, pr.trans nf p4, fun a e => al a (a4 a e)⟩
      | brk ρ' =>
        simp only [Option.some.injEq] at hw; subst hw
        obtain ⟨p4, a4, rfl, fp4, F4, n4⟩ := dn4
        exact hQ .next h4 tk4 (Done.after pr al nf ⟨p4, a4, rfl, fp4, F4, n4⟩)
      | ret d' fr =>
        simp only [Option.some.injEq] at hw; subst hw
        obtain ⟨p4, a4, v', rfl, hr⟩ := dn4
        exact hQ (.ret v') h4 tk4 (Done.after pr al nf ⟨p4, a4, v', rfl, hr⟩)

/-- the frame's own places -/
noncomputable def OwnF (env : Env) (fp : Nat → List Addr) (a : Addr) : Prop := a = env.locals ∨ (∃ y c, env.kindOf y = some .cell ∧ env.cells.lookup y = some c ∧ a = c) ∨ ∃ i, a ∈ fp i
theorem notOwn {env : Env} {fp : Nat → List Addr} {a : Addr} (h1 : a ≠ env.locals) (h2 : ∀ y c, env.kindOf y = some .cell → env.cells.lookup y = some c → a ≠ c) (h3 : ∀ i, a ∉ fp i) : ¬ OwnF env fp a := fun h =>
  h.elim h1 fun h => h.elim (fun ⟨y, c, hk, hc, e⟩ => h2 y c hk hc e) fun ⟨i, hi⟩ => h3 i hi
theorem for_fin {env : Env} {hb h0 h2 h h' : Heap} {Xc : Addr → Prop} {fp fpi : Nat → List Addr} {out' : Out} {f : Flow} {I : Addr} (x2 : Ext h0 h2) (hI : h0.get? I = none) (kp : ∀ a o, h2.get? a = some o → a ≠ I → ¬ OwnF env fp a → h.get? a = some o) (al : ∀ a, h.get? a = none → h2.get? a = none) (nf : NewFp fp h2 fpi)
    (dn : Done names env hb Xc fpi h out' f h') : Done names env hb Xc fp h0 out' f h' :=
  dn.after (fun a o e h1 h2' h3 => kp a o (x2 _ _ e) (ne_dead hI e) (notOwn h1 h2' h3)) (fun a e => x2.dead (al a e)) (fun i a ha => (nf i a ha).imp id fun e => x2.dead e)
theorem for_chg {env : Env} {hb h0 h h1 : Heap} {Xc : Addr → Prop} {fp fpi : Nat → List Addr} {ρ ρi : Rho} {I : Addr} (F : Frame names env hb h0 Xc fp ρ) (hI : h0.get? I = none) (LI : env.locals ≠ I) (cI : ∀ y c, (env.kindOf y = some .cell ∨ env.kindOf y = some .free) → env.cells.lookup y = some c → c ≠ I)
    (Fi : Frame names env hb h Xc fpi ρi) (hIo : ∃ o vs, h.get? I = some o ∧ o.data = .fields vs) (k1 : ∀ a o, a ≠ I → h.get? a = some o → h1.get? a = some o) : Frame names env hb h1 Xc fpi ρi := by
  refine Fi.chg (fun o e => k1 _ o LI e) (fun y c o hk hc e => k1 c o (cI y c hk hc) e) (fun Z a o items n _ e hd => k1 a o (ne_fields hIo e hd) e) (fun a o e => k1 a o (ne_dead (F.base.dead hI) e) (Fi.base a o e)) (fun a o hx e => ⟨o, k1 a o ?_ e⟩)
  obtain ⟨o', q⟩ := F.aliveX _ hx
  exact ne_dead hI q
structure FInv (names : List (Option Str)) (env : Env) (hb : Heap) (s : Shared) (Xc : Addr → Prop) (fp : Nat → List Addr) (f : D → Rho → Option Out) (ds : List D) (out : Out) (St : Nat → Heap → Prop) (I : Addr) (h2 : Heap) (kk : Nat) (s' : Shared) (i : Nat) (h : Heap) (tk : Nat) (fpi : Nat → List Addr) (ρi : Rho) : Prop where
  sh : s' = { s with heap := h, toks := tk }
  le : i ≤ ds.length
  kk : kk = ds.length + 1 - i
  st : St i h
  fr : Frame names env hb h Xc fpi ρi
  lp : loopM f (ds.drop i) ρi = some out
  nf : NewFp fp h2 fpi
  kp : ∀ a o, h2.get? a = some o → a ≠ I → ¬ OwnF env fp a → h.get? a = some o
  al : ∀ a, h.get? a = none → h2.get? a = none

theorem ex_for {x : Str} {iter : Expr} {body : List Stmt} {mi : MI} {mbody : List MS} {j : Nat} (px pos : Pos) (hs : ∀ env y, foldedSetIterable iter env y = pure y) (hj : names[j]? = some (some x)) (hst : storable sc x = true)
    (Hi : EiOK prog w h₀ k Φ names sc iter mi) (Hb : ExsOK prog w h₀ k Φ N names sc body mbody) : ExOK prog w h₀ k Φ N names sc (.For (.Name x px) iter body [] pos) (.forS j mi mbody) := by
  intro A env s hb Xc fp ρ out R EO ES X F he Q hQ
  simp only [exS] at he
  split at he <;> try contradiction
  rename_i ds hds
  have X' := X.trans F.base
  refine wpAny_For (Hi A env s hb Xc fp ρ ds R EO X' F hds _ fun I h2 t2 fpI P St x2 hI hSt Wk st0 hfp hlen hP => ?_) (hs env)
  obtain ⟨fp0, F0, hs0⟩ := F.demote j
  obtain ⟨oL, esL, epL, hoL, hdL⟩ := F.localsAlive
  have LI : env.locals ≠ I := by rintro e; rw [e, hI] at hoL; cases hoL
  have cI : ∀ y c, (env.kindOf y = some .cell ∨ env.kindOf y = some .free) → env.cells.lookup y = some c → c ≠ I := by
    rintro y c hk hc rfl
    obtain ⟨o, v, q, _⟩ := F.cellAlive hk hc
    rw [hI] at q; cases q
  have hIa2 : ∃ o vs, h2.get? I = some o ∧ o.data = .fields vs := hSt 0 h2 st0
  have fpI2 : ∀ i, I ∉ fp i := fun i hi => let ⟨_, _, q⟩ := F.aliveF i I hi; (live_dead hI q).elim
  -- the frame's own places, seen from the heap where the loop starts
  have seqOwn : ∀ a o items n, h2.get? a = some o → o.data = .seq items n → (∀ i, a ∉ fp i) → ¬ OwnF env fp a := by
    rintro a o items n e hd hn (rfl | ⟨y, c, hk, hc, rfl⟩ | ⟨i, hi⟩)
    · rw [x2 _ _ hoL] at e; cases e; rw [hdL] at hd; cases hd
    · obtain ⟨o', v, q, qd⟩ := F.cellAlive (.inl hk) hc
      rw [x2 _ _ q] at e; cases e; rw [qd] at hd; cases hd
    · exact hn i hi
  let Inv : Nat → Shared → Prop := fun kk s' => ∃ (i : Nat) (h : Heap) (tk : Nat) (fpi : Nat → List Addr) (ρi : Rho), FInv names env hb s Xc fp (fun d ρ => exSs Φ N mbody (ρ.set j (some ⟨false, d⟩))) ds out St I h2 kk s' i h tk fpi ρi
  refine codeAny_forLoop Inv ?_ (ds.length + 1) ⟨0, h2, t2, fp0, _, rfl, Nat.zero_le _, rfl, st0, F0.ext x2, he, fun i a ha => .inl ⟨i, hs0 i a ha⟩, fun a o e _ _ => e, fun a e => e⟩
  rintro kk s' ⟨i, h, tk, fpi, ρi, Z⟩
  obtain ⟨rfl, hi, rfl, hst', Fi, hloop, nf, kp, al⟩ := Z
  have hIo : ∃ o vs, h.get? I = some o ∧ o.data = .fields vs := hSt i h hst'
  have Ifpi : ∀ i', I ∉ fpi i' := fun i' hi' => (nf i' I hi').elim (fun ⟨j', hj'⟩ => fpI2 j' hj') fun e => let ⟨_, _, q, _⟩ := hIa2; (live_dead e q).elim
  by_cases hlt : i < ds.length
  · refine Wk.item i _ _ _ hlt hst' fun v h1 tk1 hPv hst1 hk1 => ?_
    have k1 : ∀ a o, a ≠ I → h.get? a = some o → h1.get? a = some o := fun a o hne e => hk1 a o (by simpa using hne) e
    have seqI : ∀ a o items n, h.get? a = some o → o.data = .seq items n → a ≠ I := fun a o items n e hd => ne_fields hIo e hd
    have al1 : ∀ a, h1.get? a = none → h.get? a = none := by
      intro a e
      by_cases hne : a = I
      · subst hne; obtain ⟨o, _, q, _⟩ := hSt _ _ hst1; rw [e] at q; cases q
      · cases e' : h.get? a with
        | none => rfl
        | some o => rw [k1 a o hne e'] at e; cases e
    have F1 := for_chg F hI LI cI Fi hIo k1
    obtain ⟨d, hd⟩ : ∃ d, ds[i]? = some d := ⟨ds[i], by simp [hlt]⟩
    have hdrop : ds.drop i = d :: ds.drop (i + 1) := by
      rw [List.drop_eq_getElem_cons hlt]
      rw [List.getElem?_eq_getElem hlt] at hd; cases hd; rfl
    rw [hdrop] at hloop
    simp only [loopM] at hloop
    -- the item
    have hrep : Rep (Ys Xc fpi) h1 v d := by
      have r0 := hP i v d hd hPv
      have r1 : Rep (fun a => Ys Xc fp a ∨ Ys Xc fpi a) h2 v d := r0.more fun a e => by
        rcases e with e | e | ⟨i', hi'⟩
        · exact .inl e
        · exact .inl (.inl e)
        · exact (nf i' a hi').imp (fun e => .inr e) id
      have r2 : Rep (fun a => Ys Xc fp a ∨ Ys Xc fpi a) h1 v d := r1.stab fun a o items n hz e hd' => by
        have hnI : a ≠ I := ne_fields hIa2 e hd'
        exact k1 a o hnI (kp a o e hnI (seqOwn a o items n e hd' fun i' hi' => hz (.inl (.inr ⟨i', hi'⟩))))
      exact r2.sub fun a e => .inr e
    refine wpAny_assign_Name (bind_slot (s := { s with heap := h1, toks := tk1 }) (m := .shared) (o := false) (d := d) (t1 := tk1) F1 EO.kind hj (storable_kind ES hst) (Ext.refl _) hrep rfl fun h3 tk3 dn3 kp3 st3 => ?_)
    obtain ⟨p3, a3, _, fp3, F3, n3⟩ := dn3
    have nf3 : NewFp fp h2 fp3 := nf.trans (env := env) (fun a e => al a (al1 a e)) n3
    have Ifp3 : ∀ i', I ∉ fp3 i' := fun i' hi' => (nf3 i' I hi').elim (fun ⟨j', hj'⟩ => fpI2 j' hj') fun e => let ⟨_, _, q, _⟩ := hIa2; (live_dead e q).elim
    have keep3 : ∀ a o, h2.get? a = some o → a ≠ I → ¬ OwnF env fp a → h3.get? a = some o := fun a o e hne ho =>
      kp3 a o (k1 a o hne (kp a o e hne ho)) (fun e => ho (.inl e)) (fun y c hk hc e => ho (.inr (.inl ⟨y, c, hk, hc, e⟩)))
    have al3 : ∀ a, h3.get? a = none → h2.get? a = none := fun a e => al a (al1 a (a3 a e))
    -- the turn's result
    cases hf : exSs Φ N mbody (ρi.set j (some ⟨false, d⟩)) with
    | none => rw [hf] at hloop; cases hloop
    | some oi =>
      rw [hf] at hloop
      refine wpAny_noE (Hb A env { s with heap := h3, toks := tk3 } hb Xc fp3 _ oi R EO ES X F3 hf _ fun f h4 tk4 dn4 => ?_)
      have stepI : ∀ {ρ' : Rho} {fp4 : Nat → List Addr}, Pres env fp3 h3 h4 → (∀ a, h4.get? a = none → h3.get? a = none) → Frame names env hb h4 Xc fp4 ρ' → NewFp fp3 h3 fp4 → loopM (fun d ρ => exSs Φ N mbody (ρ.set j (some ⟨false, d⟩))) (ds.drop (i + 1)) ρ' = some out →
          ∃ m, m < ds.length + 1 - i ∧ Inv m { s with heap := h4, toks := tk4 } := by
        intro ρ' fp4 p4 a4 F4 n4 hl
        refine ⟨ds.length + 1 - (i + 1), by omega, i + 1, h4, tk4, fp4, ρ', rfl, hlt, rfl, ?_, F4, hl, nf3.trans (env := env) al3 n4, fun a o e hne ho => ?_, fun a e => al3 a (a4 a e)⟩
        · refine Wk.frame _ _ _ hst1 fun b hb o e => ?_
          rcases hfp b hb with rfl | ⟨⟨vs', n', hb2⟩, hby⟩
          · refine p4 b o (kp3 b o e LI.symm fun y c hk hc e => cI y c (.inl hk) hc e.symm) LI.symm (fun y c hk hc e => cI y c (.inl hk) hc e.symm) Ifp3
          · have hbI : b ≠ I := ne_fields hIa2 hb2 rfl
            have hbo : ¬ OwnF env fp b := seqOwn b _ _ _ hb2 rfl fun i' hi' => hby (.inr ⟨i', hi'⟩)
            have e2 := k1 b _ hbI (kp b _ hb2 hbI hbo)
            rw [e] at e2; cases e2
            refine p4 b _ (keep3 b _ hb2 hbI hbo) (fun e => hbo (.inl e)) (fun y c hk hc e => hbo (.inr (.inl ⟨y, c, hk, hc, e⟩))) fun i' hi' => ?_
            rcases nf3 i' b hi' with ⟨j', hj'⟩ | e'
            · exact hbo (.inr (.inr ⟨j', hj'⟩))
            · rw [IsL, e'] at hb2; cases hb2
        · refine p4 a o (keep3 a o e hne ho) (fun e => ho (.inl e)) (fun y c hk hc e => ho (.inr (.inl ⟨y, c, hk, hc, e⟩))) fun i' hi' => ?_
          rcases nf3 i' a hi' with ⟨j', hj'⟩ | e'
          · exact ho (.inr (.inr ⟨j', hj'⟩))
          · rw [e'] at e; cases e
      cases oi with
      | next ρ' =>
        obtain ⟨p4, a4, rfl, fp4, F4, n4⟩ := dn4
        exact stepI p4 a4 F4 n4 hloop
      | cont ρ' =>
        obtain ⟨p4, a4, rfl, fp4, F4, n4⟩ := dn4
        exact stepI p4 a4 F4 n4 hloop
      | brk ρ' =>
        simp only [Option.some.injEq] at hloop; subst hloop
        obtain ⟨p4, a4, rfl, fp4, F4, n4⟩ := dn4
        exact hQ .next h4 tk4 (for_fin x2 hI keep3 al3 nf3 ⟨p4, a4, rfl, fp4, F4, n4⟩)
      | ret d' fr =>
        simp only [Option.some.injEq] at hloop; subst hloop
        obtain ⟨p4, a4, v', rfl, hr⟩ := dn4
        exact hQ (.ret v') h4 tk4 (for_fin x2 hI keep3 al3 nf3 ⟨p4, a4, v', rfl, hr⟩)
  · have hin : i = ds.length := by omega
    subst hin
    refine Wk.done _ _ _ hst' fun h1 tk1 hk1 => wpAny_execs_nil ?_
    have k1 : ∀ a o, a ≠ I → h.get? a = some o → h1.get? a = some o := fun a o hne e => hk1 a o (by simpa using hne) e
    rw [List.drop_length] at hloop
    simp only [loopM, Option.some.injEq] at hloop; subst hloop
    have seqI : ∀ a o items n, h.get? a = some o → o.data = .seq items n → a ≠ I := fun a o items n e hd => ne_fields hIo e hd
    have F1 := for_chg F hI LI cI Fi hIo k1
    have nI : ∀ a o, s.heap.get? a = some o → a ≠ I := by rintro a o e rfl; rw [hI] at e; cases e
    refine hQ .next h1 tk1 ⟨fun a o e e1 e2 e3 => k1 a o (nI a o e) (kp a o (x2 _ _ e) (nI a o e) ?_), fun a e => ?_, rfl, fpi, F1, fun i a ha => (nf i a ha).imp id fun e => x2.dead e⟩
    · rintro (rfl | ⟨y, c, hk, hc, rfl⟩ | ⟨i, hi⟩)
      · exact e1 rfl
      · exact e2 y _ hk hc rfl
      · exact e3 i hi
    · cases e' : s.heap.get? a with
      | none => rfl
      | some o =>
        cases e'' : h.get? a with
        | none => have := al a e''; rw [x2 _ _ e'] at this; cases this
        | some o' => rw [k1 a o' (nI a o e') e''] at e; cases e

/-- x = [.. for ..] where the store comes first -/
theorem ex_assignC (o : Bool) {y : Str} {iter elt : Expr} {mi : MI} {me : ME} {x : Str} {px pos : Pos} {scope : Scope} {j : Nat} (p q : Pos) (C : CompSc names sc scope x) (Hi : EiOK prog w h₀ k Φ names sc iter mi) (He : EvOK prog w h₀ k Φ (inNames names scope x) scope elt me)
    (hs : ∀ env y, foldedSetIterable iter env y = pure y) (hj : names[j]? = some (some y)) (hst : storable sc y = true) (hsw : swapsB sc (.ListComp elt [⟨.Name x px, iter, [], 0⟩] scope pos) y p = true) :
    ExOK prog w h₀ k Φ N names sc (.Assign [.Name y p] (.ListComp elt [⟨.Name x px, iter, [], 0⟩] scope pos) q) (.assign o j (.comp mi me)) := by
  intro A env s hb Xc fp ρ out R EO ES X F he Q hQ
  simp only [exS] at he
  split at he <;> try contradiction
  rename_i r her
  obtain ⟨d, m⟩ := r
  obtain ⟨fp1, F1, hs1⟩ := F.demote j
  have X' := X.trans F.base
  simp only [evE] at her
  split at her <;> try contradiction
  rename_i ds hds
  split at her <;> try contradiction
  rename_i rs hrs
  unfold lstD at her
  split at her <;> try contradiction
  rename_i hc
  simp only [Option.some.injEq, Prod.mk.injEq] at her; obtain ⟨rfl, rfl⟩ := her
  obtain ⟨m, hFm, _⟩ := F1.fm
  rw [exec_Assign_Name_used _ _ _ _ (by rw [swaps_eq ES (by rw [← ES]; exact EO.kind) rfl, hsw])]
  refine wpAny_bind (wpAny_standAt (wpAny_bind ?_))
  show wpAny _ A (do let _ ← comprehension (.ListComp elt [⟨.Name x px, iter, [], 0⟩] scope pos) scope env _ (newList []) false (eval iter env) (some (assign (.Name y p) env))) _ _ s
  refine wpAny_bind ?_
  refine wpAny_comprehension_free (use := some (assign (.Name y p) env)) rfl (hs env) (closureFor_eq (inner_cells (L := 0) EO C hFm).1) C.ck (names_loc C.cn) ?_
  refine Hi A env s hb Xc fp1 _ ds R EO X' F1 hds _ fun I h2 t2 fpI P St x2 hI hSt Wk st0 hfp hlen hP => ?_
  refine comp_core C He R EO X' F1 x2 hI hSt Wk st0 hfp hlen hP hrs hc.1 fun acc L h' tk hL hns hext hres => ?_
  show wpAny _ A (assign (.Name y p) env (.ref acc)) _ _ _
  obtain ⟨e1, e2⟩ := hres h' fun a o e _ => e
  refine wpAny_assign_Name (bind_slot (s := s) (t1 := tk) F1 EO.kind hj (storable_kind ES hst) e1 e2 he fun h3 tk3 dn kp st => ?_)
  obtain ⟨ml, hml⟩ := hns
  obtain ⟨oL, esL, epL, hoL, hdL⟩ := F1.localsAlive
  have LL : L ≠ env.locals := (ne_dead hL hoL).symm
  have Lc : ∀ z c, env.kindOf z = some .cell → env.cells.lookup z = some c → L ≠ c := by
    rintro z c hk hc rfl
    obtain ⟨o, v, q, _⟩ := F1.cellAlive (.inl hk) hc
    rw [hL] at q; cases q
  refine ⟨ml, hml.at' fun o e => kp L o e LL Lc, fun h4 hs4 => wpAny_pure (wpAny_pure (hQ .next h4 tk3 ?_))⟩
  refine Done.after (Ext.refl _).pres (fun _ e => e) (.of_sub hs1) ?_
  obtain ⟨d1, d2, d3⟩ := dn
  have hLb : hb.get? L = none := F1.base.dead hL
  have Lout : L ≠ env.locals := LL
  refine ⟨fun a o e q1 q2 q3 => hs4.extBut a o (ne_dead hL e) (d1 a o e q1 q2 q3), fun a e => ?_, ?_⟩
  · by_cases hal : a = L
    · subst hal; exact hL
    · rw [hs4.2 a hal] at e; exact d2 a e
  · obtain ⟨oN, esN, epN, hoN, hdN, _⟩ := hml.at' fun o e => kp L o e LL Lc
    have seqL : ∀ a o items n, h3.get? a = some o → o.data = .seq items n → a ≠ L := by
      rintro a o items n e hd rfl; rw [hoN] at e; cases e; rw [hdN] at hd; cases hd
    cases out with
    | next ρ' =>
      obtain ⟨e, fp', F', n'⟩ := d3
      refine ⟨e, fp', F'.chg (fun o e => hs4.extBut _ o LL.symm e) (fun z c o hk hc e => hs4.extBut c o ?_ e) (fun Z a o items n _ e hd => hs4.extBut a o (seqL a o items n e hd) e) (fun a o e => hs4.extBut a o (ne_dead hLb e) (F'.base a o e)) (fun a o hx e => ⟨o, hs4.extBut a o ?_ e⟩), n'⟩
      · rintro rfl
        obtain ⟨o', v, q, qd⟩ := F'.cellAlive hk hc
        rw [hoN] at q; cases q; rw [hdN] at qd; cases qd
      · rintro rfl
        obtain ⟨o', q⟩ := F1.aliveX _ hx
        rw [hL] at q; cases q
    | brk ρ' => obtain ⟨e, _⟩ := d3; cases e
    | cont ρ' => obtain ⟨e, _⟩ := d3; cases e
    | ret d fr => obtain ⟨v, e, _⟩ := d3; cases e
end


noncomputable def varIdx (names : List (Option Str)) (x : Str) : Option Nat := names.findIdx? (fun o => o == some x)
theorem varIdx_ok {names : List (Option Str)} {x : Str} {i : Nat} (h : varIdx names x = some i) : names[i]? = some (some x) := by
  unfold varIdx at h
  rw [List.findIdx?_eq_some_iff_getElem] at h
  obtain ⟨h1, h2, _⟩ := h
  rw [List.getElem?_eq_getElem h1]
  simpa using h2

noncomputable def opB : Operator → Option BOp
  | .Add => some .add | .Sub => some .sub | .Mult => some .mul | .FloorDiv => some .fdiv | .Mod => some .mod
  | _ => none
theorem opB_ok {o : Operator} {b : BOp} (h : opB o = some b) : o = opOf b := by
  cases o <;> simp [opB] at h <;> subst h <;> rfl

noncomputable def isGlob (sc : Scope) (f : Str) : Bool := sc.names.lookup f == some .globalImplicit && goodName f
noncomputable def compOk (sc scope : Scope) (x : Str) : Bool :=
  scope.kind == .function && decide ((scope.names.map (·.1)).Nodup) && (scope.names.lookup x == some .local || scope.names.lookup x == some .cell) &&
  (scope.names.all fun p => p.2 != .free || (sc.names.lookup p.1 == some .cell || sc.names.lookup p.1 == some .free)) && goodName x
theorem compOk_ok {names : List (Option Str)} {sc scope : Scope} {x : Str} (h : compOk sc scope x = true) : CompSc names sc scope x := by
  unfold compOk at h
  simp only [Bool.and_eq_true, Bool.or_eq_true, beq_iff_eq, decide_eq_true_eq] at h
  obtain ⟨⟨⟨⟨h1, h2⟩, h3⟩, h4⟩, h5⟩ := h
  refine ⟨h1, h2, h3, fun y hy => ?_, h5⟩
  have := List.all_eq_true.mp h4 _ (lookup_mem hy)
  simpa using this
noncomputable def notSet : Expr → Bool | .Set .. => false | _ => true
theorem notSet_ok {e : Expr} (h : notSet e = true) (env : Env) (y : Value) : foldedSetIterable e env y = pure y := by
  cases e <;> first | rfl | cases h

noncomputable def nameOf : Expr → Option (Str × Pos) | .Name x p => some (x, p) | _ => none
theorem nameOf_inv {e : Expr} {x : Str} {p : Pos} (h : nameOf e = some (x, p)) : e = .Name x p := by
  cases e
  case Name y q => cases h; rfl
  all_goals exact none_ne h
noncomputable def one {α : Type} : List α → Option α | [x] => some x | _ => none
theorem one_inv {α : Type} {l : List α} {x : α} (h : one l = some x) : l = [x] := by
  rcases l with _ | ⟨y, _ | ⟨z, l⟩⟩
  · cases h
  · cases h; rfl
  · cases h
noncomputable def two {α : Type} : List α → Option (α × α) | [x, y] => some (x, y) | _ => none
theorem two_inv {α : Type} {l : List α} {x y : α} (h : two l = some (x, y)) : l = [x, y] := by
  rcases l with _ | ⟨y, _ | ⟨z, _ | ⟨u, l⟩⟩⟩
  · cases h
  · cases h
  · cases h; rfl
  · cases h
theorem bnd {α β : Type} {o : Option α} {f : α → Option β} {b : β} (h : o.bind f = some b) : ∃ a, o = some a ∧ f a = some b := Option.bind_eq_some_iff.mp h
/-- f(a) -/
noncomputable def call1 : Expr → Option (Str × Pos × Expr × Pos)
  | .Call g as ks q => (nameOf g).bind fun f => (one as).bind fun a => if ks.isEmpty then some (f.1, f.2, a, q) else none
  | _ => none
theorem call1_inv {e a : Expr} {f : Str} {p q : Pos} (h : call1 e = some (f, p, a, q)) : e = .Call (.Name f p) [a] [] q := by
  cases e
  case Call g as ks r =>
    obtain ⟨⟨f', p'⟩, h1, h⟩ := bnd h
    obtain ⟨a', h2, h⟩ := bnd h
    obtain ⟨h3, h⟩ := ite_some h
    cases h
    rw [nameOf_inv h1, one_inv h2, List.isEmpty_iff.mp h3]
  all_goals exact none_ne h
noncomputable def isIs : CmpOp → Bool | .Is => true | _ => false
theorem isIs_inv {o : CmpOp} (h : isIs o = true) : o = .Is := by
  cases o
  case Is => rfl
  all_goals exact tf_ne h

noncomputable def trL (f : Expr → Option ME) : List Expr → Option MEs
  | [] => some .nil
  | e :: es => if notStar e then (f e).bind fun m => (trL f es).bind fun ms => some (.cons m ms) else none
noncomputable def trO (f : Expr → Option ME) : Option Expr → Option MO
  | none => some .none
  | some e => (f e).bind fun m => some (.some m)

/-- the bounds of a slice with no step -/
noncomputable def sliceOf : Expr → Option (Option Expr × Option Expr × Pos)
  | .Slice lo hi st p => if st.isNone then some (lo, hi, p) else none
  | _ => none
theorem sliceOf_inv {e : Expr} {x : Option Expr × Option Expr × Pos} (h : sliceOf e = some x) : e = .Slice x.1 x.2.1 none x.2.2 := by
  cases e
  case Slice lo hi st p =>
    obtain ⟨h1, h⟩ := ite_some h
    cases h
    rw [Option.isNone_iff_eq_none.mp h1]
  all_goals exact none_ne h
noncomputable def constE : Const → Option ME
  | .int i => some (.int i)
  | .str i => some (.str i)
  | .bool i => some (.bool i)
  | _ => none
/-- the calls of one thing -/
inductive B1 | len | abs | text | sum | sorted
noncomputable def B1.nm : B1 → Str
  | .len => "len" | .abs => "abs" | .text => "str" | .sum => "sum" | .sorted => "sorted"
noncomputable def B1.mk : B1 → ME → ME
  | .len => .len | .abs => .abs | .text => .text | .sum => .sum | .sorted => .sorted
noncomputable def b1 (f : Str) : Option B1 := [B1.len, .abs, .text, .sum, .sorted].find? fun b => decide (f = b.nm)
theorem b1_inv {f : Str} {b : B1} (h : b1 f = some b) : f = b.nm := of_decide_eq_true (List.find?_some (p := fun b => decide (f = B1.nm b)) h)

structure TR where
  E : List (Option Str) → Scope → Expr → Option ME
  T : List (Option Str) → Scope → Expr → Option MT
  I : List (Option Str) → Scope → Expr → Option MI

noncomputable def trCall (t : Expr → Option ME) (sc : Scope) (f : Str) (args : List Expr) : Option ME := match b1 f with
  | some b => (one args).bind fun a => if notStar a then (t a).bind fun m => some (b.mk m) else none
  | none => if f = "list" then (one args).bind fun a => (call1 a).bind fun c => if c.1 = "range" ∧ (isGlob sc c.1 && notStar c.2.2.1) = true then (t c.2.2.1).bind fun m => some (.lrange m) else none
    else match args with
      | [] => none
      | a :: as => (trL t (a :: as)).bind fun m => some (.call f m)
noncomputable def trComp (r : TR) (names : List (Option Str)) (sc : Scope) (elt : Expr) (scope : Scope) (g : Comprehension) : Option ME :=
  (nameOf g.target).bind fun x => if g.ifs.isEmpty ∧ g.is_async = 0 ∧ (compOk sc scope x.1 && notSet g.iter) = true then (r.I names sc g.iter).bind fun mi => (r.E (inNames names scope x.1) scope elt).bind fun m => some (.comp mi m) else none
noncomputable def trSub (t : Expr → Option ME) (r : Expr) (a : ME) : Option ME := match sliceOf r with
  | some x => (trO t x.1).bind fun b => (trO t x.2.1).bind fun c => some (.slc a b c)
  | none => (t r).bind fun c => some (.idx a c)
noncomputable def stE (t : TR) (names : List (Option Str)) (sc : Scope) : Expr → Option ME
  | .Constant c _ _ => constE c
  | .Name x _ => (varIdx names x).bind fun i => some (.var i)
  | .BinOp l op r _ => (opB op).bind fun b => (t.E names sc l).bind fun a => (t.E names sc r).bind fun c => some (.bin b a c)
  | .UnaryOp o a _ => match o with
    | .USub => (t.E names sc a).bind fun m => some (.neg m)
    | _ => none
  | .Subscript l r _ => (t.E names sc l).bind fun a => trSub (t.E names sc) r a
  | .Tuple es _ _ => (trL (t.E names sc) es).bind fun m => some (.tup m)
  | .List es _ => (trL (t.E names sc) es).bind fun m => some (.lst m)
  | .Call g args ks _ => (nameOf g).bind fun f => if (ks.isEmpty && isGlob sc f.1) = true then trCall (t.E names sc) sc f.1 args else none
  | .ListComp elt gens scope _ => (one gens).bind fun g => trComp t names sc elt scope g
  | .IfExp c a b _ => (t.T names sc c).bind fun m => (t.E names sc a).bind fun x => (t.E names sc b).bind fun y => some (.ife m x y)
  | _ => none
noncomputable def trIs (t : Expr → Option ME) (sc : Scope) (l r : Expr) : Option MT :=
  (call1 l).bind fun c => (nameOf r).bind fun g => if c.1 = "type" ∧ g.1 = "int" ∧ (isGlob sc c.1 && isGlob sc g.1 && notStar c.2.2.1) = true then (t c.2.2.1).bind fun m => some (.isInt m) else none
noncomputable def stT (t : TR) (names : List (Option Str)) (sc : Scope) : Expr → Option MT
  | .Compare l ops rs _ => (one ops).bind fun op => (one rs).bind fun r => if isIs op = true then trIs (t.E names sc) sc l r
      else if behindInMarks op r = true then none else (t.E names sc l).bind fun a => (t.E names sc r).bind fun b => some (.cmp op a b)
  | .UnaryOp o a _ => match o with
    | .Not => (t.T names sc a).bind fun m => some (.not m)
    | _ => none
  | .BoolOp o es _ => (two es).bind fun x => (t.T names sc x.1).bind fun c => (t.T names sc x.2).bind fun d => match o with
    | .And => some (.and c d)
    | .Or => some (.or c d)
  | .Call a b c d => (t.E names sc (.Call a b c d)).bind fun m => some (.val m)
  | _ => none
/-- range(a), range(a, b) -/
noncomputable def rangeOf : Expr → Option (List Expr × Pos × Pos)
  | .Call g as ks q => (nameOf g).bind fun f => if f.1 = "range" ∧ ks.isEmpty = true then some (as, f.2, q) else none
  | _ => none
theorem rangeOf_inv {e : Expr} {x : List Expr × Pos × Pos} (h : rangeOf e = some x) : e = .Call (.Name "range" x.2.1) x.1 [] x.2.2 := by
  cases e
  case Call g as ks q =>
    obtain ⟨⟨f, p⟩, h1, h⟩ := bnd h
    obtain ⟨⟨rfl, h3⟩, h⟩ := ite_some h
    cases h
    rw [nameOf_inv h1, List.isEmpty_iff.mp h3]
  all_goals exact none_ne h
noncomputable def stI (t : TR) (names : List (Option Str)) (sc : Scope) (e : Expr) : Option MI := match rangeOf e with
  | some x => if isGlob sc "range" = true then (match x.1 with
    | [a] => if notStar a = true then (t.E names sc a).bind fun m => some (.range1 m) else none
    | [a, b] => if notStar a = true ∧ notStar b = true then (t.E names sc a).bind fun m => (t.E names sc b).bind fun m' => some (.range2 m m') else none
    | _ => none) else none
  | none => (t.E names sc e).bind fun m => some (.lst m)
noncomputable def trN : Nat → TR
  | 0 => ⟨fun _ _ _ => none, fun _ _ _ => none, fun _ _ _ => none⟩
  | n + 1 => ⟨stE (trN n), stT (trN n), stI (trN n)⟩
noncomputable def trE (n : Nat) := (trN n).E
noncomputable def trT (n : Nat) := (trN n).T
noncomputable def trI (n : Nat) := (trN n).I

section
variable {prog : Program} {w : World} {h₀ : Heap} {mg mb : Str → Option Value} {k : Nat} {Φ : Tab} {names : List (Option Str)} {sc : Scope} {N : Nat}

theorem glob_of {f : Str} (h : isGlob sc f = true) : sc.names.lookup f = some .globalImplicit ∧ goodName f = true := by
  unfold isGlob at h
  rw [Bool.and_eq_true] at h
  exact ⟨by simpa using h.1, h.2⟩

theorem trL_ok {f : Expr → Option ME} (hf : ∀ e me, f e = some me → EvOK prog w h₀ k Φ names sc e me) : ∀ (es : List Expr) (ms : MEs), trL f es = some ms → EsOK prog w h₀ k Φ names sc es ms
  | [], ms, h => by cases h; exact es_nil
  | e :: es, ms, h => by
    obtain ⟨hs, h⟩ := ite_some h
    obtain ⟨m, hm, h⟩ := bnd h
    obtain ⟨ms', hms, h⟩ := bnd h
    cases h
    exact es_cons hs (hf e m hm) (trL_ok hf es ms' hms)
theorem trL_star {f : Expr → Option ME} {e : Expr} {es : List Expr} {ms : MEs} (h : trL f (e :: es) = some ms) : notStar e = true := (ite_some h).1
theorem trO_ok {f : Expr → Option ME} (hf : ∀ e me, f e = some me → EvOK prog w h₀ k Φ names sc e me) : ∀ (o : Option Expr) (m : MO), trO f o = some m → EoOK prog w h₀ k Φ names sc o m
  | none, m, h => by cases h; exact eo_none
  | some e, m, h => by
    obtain ⟨m', hm, h⟩ := bnd h
    cases h
    exact eo_some (hf e m' hm)

structure TROK (prog : Program) (w : World) (h₀ : Heap) (k : Nat) (Φ : Tab) (r : TR) : Prop where
  E : ∀ names sc e me, r.E names sc e = some me → EvOK prog w h₀ k Φ names sc e me
  T : ∀ names sc e mt, r.T names sc e = some mt → EtOK prog w h₀ k Φ names sc e mt
  I : ∀ names sc e mi, r.I names sc e = some mi → EiOK prog w h₀ k Φ names sc e mi

theorem ev_b1 (W : Wd h₀ mg mb) (b : B1) {e : Expr} {me : ME} (p q : Pos) (hg : sc.names.lookup b.nm = some .globalImplicit) (hst : notStar e = true) (H : EvOK prog w h₀ k Φ names sc e me) : EvOK prog w h₀ k Φ names sc (.Call (.Name b.nm p) [e] [] q) (b.mk me) := by
  cases b
  · exact ev_len W p q hg hst H
  · exact ev_abs W p q hg hst H
  · exact ev_text W p q hg hst H
  · exact ev_sum W p q hg hst H
  · exact ev_sorted W p q hg hst H
theorem const_ok {c : Const} {me : ME} (i : Nat) (p : Pos) (h : constE c = some me) : EvOK prog w h₀ k Φ names sc (.Constant c i p) me := by
  cases c
  case int => cases h; exact ev_int _ _ _
  case str => cases h; exact ev_str _ _ _
  case bool => cases h; exact ev_bool _ _ _
  all_goals exact none_ne h
theorem trCall_ok (W : Wd h₀ mg mb) (T : TabOK prog w h₀ mg k Φ) {t : Expr → Option ME} (ht : ∀ e me, t e = some me → EvOK prog w h₀ k Φ names sc e me) {f : Str} {args : List Expr} {me : ME} (p q : Pos) (hg : isGlob sc f = true) (h : trCall t sc f args = some me) :
    EvOK prog w h₀ k Φ names sc (.Call (.Name f p) args [] q) me := by
  obtain ⟨hg1, hg2⟩ := glob_of hg
  unfold trCall at h
  cases hb : b1 f with
  | some b =>
    rw [hb] at h
    obtain ⟨a, ha, h⟩ := bnd h
    obtain ⟨hst, h⟩ := ite_some h
    obtain ⟨m, hm, h⟩ := bnd h
    cases h
    cases b1_inv hb
    rw [one_inv ha]
    exact ev_b1 W b p q hg1 hst (ht _ _ hm)
  | none =>
    rw [hb] at h
    by_cases hl : f = "list"
    · replace h := (if_pos hl).symm.trans h
      subst hl
      obtain ⟨a, ha, h⟩ := bnd h
      obtain ⟨⟨g, pg, b, qg⟩, hc, h⟩ := bnd h
      obtain ⟨⟨h1, h2⟩, h⟩ := ite_some h
      obtain ⟨m, hm, h⟩ := bnd h
      cases h
      cases h1
      rw [Bool.and_eq_true] at h2
      rw [one_inv ha, call1_inv hc]
      exact ev_lrange W _ _ _ _ hg1 (glob_of h2.1).1 h2.2 (ht _ _ hm)
    · replace h := (if_neg hl).symm.trans h
      cases args with
      | nil => cases h
      | cons a as =>
        obtain ⟨m, hm, h⟩ := bnd h
        cases h
        exact ev_call W T _ _ hg1 hg2 (trL_star hm) (trL_ok ht _ _ hm)
theorem comp_eta {g : Comprehension} {y : Str × Pos} (h : nameOf g.target = some y) (h1 : g.ifs.isEmpty = true) (h2 : g.is_async = 0) : g = ⟨.Name y.1 y.2, g.iter, [], 0⟩ := by
  obtain ⟨gt, gi, gf, ga⟩ := g
  cases nameOf_inv h
  cases List.isEmpty_iff.mp h1
  cases h2
  rfl
theorem trComp_ok {r : TR} (H : TROK prog w h₀ k Φ r) {elt : Expr} {scope : Scope} {g : Comprehension} {me : ME} (p : Pos) (h : trComp r names sc elt scope g = some me) : EvOK prog w h₀ k Φ names sc (.ListComp elt [g] scope p) me := by
  obtain ⟨x, hx, h⟩ := bnd h
  obtain ⟨⟨h1, h2, h3⟩, h⟩ := ite_some h
  obtain ⟨mi, hmi, h⟩ := bnd h
  obtain ⟨m, hm, h⟩ := bnd h
  cases h
  rw [Bool.and_eq_true] at h3
  rw [comp_eta hx h1 h2]
  exact ev_comp (compOk_ok h3.1) (H.I _ _ _ _ hmi) (H.E _ _ _ _ hm) (fun env y => notSet_ok h3.2 env y)
theorem trSub_ok {t : Expr → Option ME} (ht : ∀ e me, t e = some me → EvOK prog w h₀ k Φ names sc e me) {l r : Expr} {a me : ME} (p : Pos) (hl : EvOK prog w h₀ k Φ names sc l a) (h : trSub t r a = some me) : EvOK prog w h₀ k Φ names sc (.Subscript l r p) me := by
  unfold trSub at h
  cases hs : sliceOf r with
  | some x =>
    rw [hs] at h
    obtain ⟨b, hb, h⟩ := bnd h
    obtain ⟨c, hc, h⟩ := bnd h
    cases h
    rw [sliceOf_inv hs]
    exact ev_slc _ _ hl (trO_ok ht _ _ hb) (trO_ok ht _ _ hc)
  | none =>
    rw [hs] at h
    obtain ⟨c, hc, h⟩ := bnd h
    cases h
    exact ev_idx _ hl (ht _ _ hc)
theorem stE_ok (W : Wd h₀ mg mb) (T : TabOK prog w h₀ mg k Φ) {r : TR} (H : TROK prog w h₀ k Φ r) (e : Expr) (me : ME) (h : stE r names sc e = some me) : EvOK prog w h₀ k Φ names sc e me := by
  cases e
  case Constant c i p => exact const_ok i p h
  case Name x p => obtain ⟨i, hi, h⟩ := bnd h; cases h; exact ev_var _ _ i (varIdx_ok hi)
  case BinOp l op r p =>
    obtain ⟨b, hb, h⟩ := bnd h
    obtain ⟨a, ha, h⟩ := bnd h
    obtain ⟨c, hc, h⟩ := bnd h
    cases h
    rw [opB_ok hb]
    exact ev_bin b _ (H.E _ _ _ _ ha) (H.E _ _ _ _ hc)
  case UnaryOp o a p =>
    cases o
    case USub => obtain ⟨m, hm, h⟩ := bnd h; cases h; exact ev_neg _ (H.E _ _ _ _ hm)
    all_goals exact none_ne h
  case Subscript l r p => obtain ⟨a, ha, h⟩ := bnd h; exact trSub_ok (H.E _ _) p (H.E _ _ _ _ ha) h
  case Tuple es i p => obtain ⟨a, ha, h⟩ := bnd h; cases h; exact ev_tup _ _ (trL_ok (H.E _ _) _ _ ha)
  case List es p => obtain ⟨a, ha, h⟩ := bnd h; cases h; exact ev_lst _ (trL_ok (H.E _ _) _ _ ha)
  case Call g args ks q =>
    obtain ⟨⟨f, p⟩, hf, h⟩ := bnd h
    obtain ⟨h1, h⟩ := ite_some h
    rw [Bool.and_eq_true] at h1
    rw [nameOf_inv hf, List.isEmpty_iff.mp h1.1]
    exact trCall_ok W T (H.E _ _) p q h1.2 h
  case ListComp elt gens scope p => obtain ⟨g, hg, h⟩ := bnd h; rw [one_inv hg]; exact trComp_ok H p h
  case IfExp c a b p =>
    obtain ⟨m, hm, h⟩ := bnd h
    obtain ⟨x, hx, h⟩ := bnd h
    obtain ⟨y, hy, h⟩ := bnd h
    cases h
    exact ev_ife _ (H.T _ _ _ _ hm) (H.E _ _ _ _ hx) (H.E _ _ _ _ hy)
  all_goals exact none_ne h
theorem trIs_ok (W : Wd h₀ mg mb) {t : Expr → Option ME} (ht : ∀ e me, t e = some me → EvOK prog w h₀ k Φ names sc e me) {l r : Expr} {mt : MT} (p : Pos) (h : trIs t sc l r = some mt) : EtOK prog w h₀ k Φ names sc (.Compare l [.Is] [r] p) mt := by
  obtain ⟨⟨f, pf, a, qf⟩, hc, h⟩ := bnd h
  obtain ⟨⟨g, pg⟩, hg, h⟩ := bnd h
  obtain ⟨⟨h1, h2, h3⟩, h⟩ := ite_some h
  obtain ⟨m, hm, h⟩ := bnd h
  cases h
  cases h1
  cases h2
  rw [Bool.and_eq_true, Bool.and_eq_true] at h3
  rw [call1_inv hc, nameOf_inv hg]
  exact et_isInt W _ _ _ _ (glob_of h3.1.1).1 (glob_of h3.1.2).1 h3.2 (ht _ _ hm)
theorem stT_ok (W : Wd h₀ mg mb) (T : TabOK prog w h₀ mg k Φ) {r : TR} (H : TROK prog w h₀ k Φ r) (e : Expr) (mt : MT) (h : stT r names sc e = some mt) : EtOK prog w h₀ k Φ names sc e mt := by
  cases e
  case Compare l ops rs p =>
    obtain ⟨op, hop, h⟩ := bnd h
    obtain ⟨x, hx, h⟩ := bnd h
    rw [one_inv hop, one_inv hx]
    by_cases hi : isIs op = true
    · rw [isIs_inv hi]
      exact trIs_ok W (H.E _ _) p ((if_pos hi).symm.trans h)
    · obtain ⟨hb, h⟩ := ite_none ((if_neg hi).symm.trans h)
      obtain ⟨a, ha, h⟩ := bnd h
      obtain ⟨b, hb', h⟩ := bnd h
      cases h
      exact et_cmp _ _ (Bool.eq_false_iff.mpr hb) (H.E _ _ _ _ ha) (H.E _ _ _ _ hb')
  case UnaryOp o a p =>
    cases o
    case Not => obtain ⟨m, hm, h⟩ := bnd h; cases h; exact et_not _ (H.T _ _ _ _ hm)
    all_goals exact none_ne h
  case BoolOp o es p =>
    obtain ⟨⟨a, b⟩, hx, h⟩ := bnd h
    obtain ⟨c, hc, h⟩ := bnd h
    obtain ⟨d, hd, h⟩ := bnd h
    rw [two_inv hx]
    cases o
    · cases h; exact et_and _ (H.T _ _ _ _ hc) (H.T _ _ _ _ hd)
    · cases h; exact et_or _ (H.T _ _ _ _ hc) (H.T _ _ _ _ hd)
  case Call a b c d => obtain ⟨m, hm, h⟩ := bnd h; cases h; exact et_val (fun _ _ => rfl) (H.E _ _ _ _ hm)
  all_goals exact none_ne h
theorem stI_ok (W : Wd h₀ mg mb) {r : TR} (H : TROK prog w h₀ k Φ r) (e : Expr) (mi : MI) (h : stI r names sc e = some mi) : EiOK prog w h₀ k Φ names sc e mi := by
  unfold stI at h
  cases hr : rangeOf e with
  | some x =>
    rw [hr] at h
    obtain ⟨hg, h⟩ := ite_some h
    rw [rangeOf_inv hr]
    obtain ⟨as, p, q⟩ := x
    rcases as with _ | ⟨a, _ | ⟨b, _ | ⟨c, as⟩⟩⟩
    · cases h
    · obtain ⟨hst, h⟩ := ite_some h
      obtain ⟨m, hm, h⟩ := bnd h
      cases h
      exact ei_range1 W _ _ (glob_of hg).1 hst (H.E _ _ _ _ hm)
    · obtain ⟨hst, h⟩ := ite_some h
      obtain ⟨m, hm, h⟩ := bnd h
      obtain ⟨m', hm', h⟩ := bnd h
      cases h
      exact ei_range2 W _ _ (glob_of hg).1 hst.1 hst.2 (H.E _ _ _ _ hm) (H.E _ _ _ _ hm')
    · cases h
  | none =>
    rw [hr] at h
    obtain ⟨m, hm, h⟩ := bnd h
    cases h
    exact ei_lst (H.E _ _ _ _ hm)
theorem trN_ok (W : Wd h₀ mg mb) (T : TabOK prog w h₀ mg k Φ) : ∀ n, TROK prog w h₀ k Φ (trN n)
  | 0 => ⟨fun _ _ _ _ h => (by cases h), fun _ _ _ _ h => (by cases h), fun _ _ _ _ h => (by cases h)⟩
  | n + 1 => ⟨fun _ _ e me h => stE_ok W T (trN_ok W T n) e me h, fun _ _ e me h => stT_ok W T (trN_ok W T n) e me h, fun _ _ e me h => stI_ok W (trN_ok W T n) e me h⟩
theorem tr_ok (W : Wd h₀ mg mb) (T : TabOK prog w h₀ mg k Φ) (n : Nat) : (∀ names sc e me, trE n names sc e = some me → EvOK prog w h₀ k Φ names sc e me) ∧ (∀ names sc e mt, trT n names sc e = some mt → EtOK prog w h₀ k Φ names sc e mt) ∧ (∀ names sc e mi, trI n names sc e = some mi → EiOK prog w h₀ k Φ names sc e mi) :=
  ⟨(trN_ok W T n).E, (trN_ok W T n).T, (trN_ok W T n).I⟩
end


noncomputable def trSL (f : Stmt → Option MS) : List Stmt → Option (List MS)
  | [] => some []
  | s :: r => (f s).bind fun m => (trSL f r).bind fun ms => some (m :: ms)

noncomputable def three {α : Type} : List α → Option (α × α × α) | [x, y, z] => some (x, y, z) | _ => none
theorem three_inv {α : Type} {l : List α} {x y z : α} (h : three l = some (x, y, z)) : l = [x, y, z] := by
  rcases l with _ | ⟨y, _ | ⟨z, _ | ⟨u, _ | ⟨v, l⟩⟩⟩⟩
  · cases h
  · cases h
  · cases h
  · cases h; rfl
  · cases h
/-- x[i] -/
noncomputable def subOf : Expr → Option (Str × Pos × Expr × Pos)
  | .Subscript o i q => (nameOf o).bind fun x => some (x.1, x.2, i, q)
  | _ => none
theorem subOf_inv {e : Expr} {x : Str × Pos × Expr × Pos} (h : subOf e = some x) : e = .Subscript (.Name x.1 x.2.1) x.2.2.1 x.2.2.2 := by
  cases e
  case Subscript o i' q' =>
    obtain ⟨y, h1, h⟩ := bnd h
    cases h
    rw [nameOf_inv h1]
  all_goals exact none_ne h
noncomputable def tupOf : Expr → Option (List Expr × Nat × Pos)
  | .Tuple es n p => some (es, n, p)
  | _ => none
theorem tupOf_inv {e : Expr} {x : List Expr × Nat × Pos} (h : tupOf e = some x) : e = .Tuple x.1 x.2.1 x.2.2 := by
  cases e
  case Tuple a b c => cases h; rfl
  all_goals exact none_ne h
noncomputable def compOf : Expr → Option (Expr × Comprehension × Scope × Pos)
  | .ListComp elt gens scope p => (one gens).bind fun c => some (elt, c, scope, p)
  | _ => none
theorem compOf_inv {e : Expr} {x : Expr × Comprehension × Scope × Pos} (h : compOf e = some x) : e = .ListComp x.1 [x.2.1] x.2.2.1 x.2.2.2 := by
  cases e
  case ListComp elt' gens scope' p' =>
    obtain ⟨c, h1, h⟩ := bnd h
    cases h
    rw [one_inv h1]
  all_goals exact none_ne h
noncomputable def isTrueC : Expr → Bool
  | .Constant c _ _ => (match c with | .bool b => b | _ => false)
  | _ => false
theorem isTrueC_inv {e : Expr} (h : isTrueC e = true) : ∃ j p, e = .Constant (.bool true) j p := by
  cases e
  case Constant c j p =>
    cases c
    case bool b => exact ⟨j, p, by rw [show b = true from h]⟩
    all_goals exact tf_ne h
  all_goals exact tf_ne h
/-- x.append -/
noncomputable def attrOf : Expr → Option (Str × Pos × Pos)
  | .Attribute o a ap => (nameOf o).bind fun x => if a = "append" then some (x.1, x.2, ap) else none
  | _ => none
theorem attrOf_inv {e : Expr} {x : Str × Pos × Pos} (h : attrOf e = some x) : e = .Attribute (.Name x.1 x.2.1) "append" x.2.2 := by
  cases e
  case Attribute o a ap =>
    obtain ⟨y, h1, h⟩ := bnd h
    obtain ⟨h2, h⟩ := ite_some h
    cases h
    rw [nameOf_inv h1, h2]
  all_goals exact none_ne h
/-- x.append(e) -/
noncomputable def appOf : Expr → Option ((Str × Pos × Pos) × Expr × Pos)
  | .Call g as ks q => (attrOf g).bind fun x => (one as).bind fun e => if ks.isEmpty = true then some (x, e, q) else none
  | _ => none
theorem appOf_inv {e : Expr} {x : (Str × Pos × Pos) × Expr × Pos} (h : appOf e = some x) : e = .Call (.Attribute (.Name x.1.1 x.1.2.1) "append" x.1.2.2) [x.2.1] [] x.2.2 := by
  cases e
  case Call g as ks q' =>
    obtain ⟨y, h1, h⟩ := bnd h
    obtain ⟨e2, h2, h⟩ := bnd h
    obtain ⟨h3, h⟩ := ite_some h
    cases h
    rw [attrOf_inv h1, one_inv h2, List.isEmpty_iff.mp h3]
  all_goals exact none_ne h

/-- the names whose lists are written -/
noncomputable def mutT (t : Expr) : List Str := match subOf t with
  | some x => [x.1]
  | none => match t with
    | .Subscript o _ _ => ((subOf o).map (·.1)).toList
    | .Tuple ts _ _ => (ts.head?.bind fun t => (subOf t).map (·.1)).toList
    | _ => []
noncomputable def mutd : Nat → List Stmt → List Str
  | 0, _ => []
  | n + 1, l => l.flatMap fun s => match s with
    | .Assign ts _ _ => ((one ts).map mutT).getD []
    | .Expr e _ => ((appOf e).map (·.1.1)).toList
    | .If _ a b _ => mutd n a ++ mutd n b
    | .For _ _ a _ _ => mutd n a
    | .While _ a _ _ => mutd n a
    | _ => []

noncomputable def trAC (o : Bool) (i : Nat) (w : Nat) (names : List (Option Str)) (sc : Scope) (c : Expr × Comprehension × Scope × Pos) : Option MS :=
  (nameOf c.2.1.target).bind fun x => if c.2.1.ifs.isEmpty = true ∧ c.2.1.is_async = 0 ∧ compOk sc c.2.2.1 x.1 = true ∧ notSet c.2.1.iter = true then
    (trI w names sc c.2.1.iter).bind fun mi => (trE w (inNames names c.2.2.1 x.1) c.2.2.1 c.1).bind fun m => some (.assign o i (.comp mi m)) else none
noncomputable def trAN (mu : List Str) (w : Nat) (names : List (Option Str)) (sc : Scope) (x : Str) (p : Pos) (e : Expr) : Option MS :=
  (varIdx names x).bind fun i => if storable sc x = true then (match nameOf e with
    | some y => (varIdx names y.1).bind fun j => some (.move i j)
    | none => if isSetDict e = true then none else if swapsB sc e x p = true then (compOf e).bind fun c => trAC (mu.contains x) i w names sc c
      else (trE (w + 1) names sc e).bind fun m => some (.assign (mu.contains x) i m)) else none
/-- how the stores of a tuple stand -/
noncomputable def swOk (sc : Scope) (ts : List Expr) (e : Expr) (l : List Str) : Bool := match swStores sc ts e with
  | some none => true
  | some (some l') => decide (l' = l)
  | none => false
theorem swOk_inv {sc : Scope} {ts : List Expr} {e : Expr} {l : List Str} (h : swOk sc ts e l = true) : ∃ o, swStores sc ts e = some o ∧ (o = none ∨ o = some l) := by
  unfold swOk at h
  cases hs : swStores sc ts e with
  | none => rw [hs] at h; cases h
  | some o =>
    rw [hs] at h
    cases o with
    | none => exact ⟨_, rfl, .inl rfl⟩
    | some l' => exact ⟨_, rfl, .inr (congrArg some (of_decide_eq_true h))⟩
noncomputable def trU2 (w : Nat) (names : List (Option Str)) (sc : Scope) (x y : Str × Pos) (e : Expr) : Option MS :=
  (varIdx names x.1).bind fun i => (varIdx names y.1).bind fun j => if storable sc x.1 = true ∧ storable sc y.1 = true ∧ swOk sc [.Name x.1 x.2, .Name y.1 y.2] e [x.1, y.1] = true then
    (trE w names sc e).bind fun m => some (.unpack2 i j m) else none
noncomputable def trU3 (w : Nat) (names : List (Option Str)) (sc : Scope) (x y z : Str × Pos) (e : Expr) : Option MS :=
  (varIdx names x.1).bind fun i => (varIdx names y.1).bind fun j => (varIdx names z.1).bind fun l => if storable sc x.1 = true ∧ storable sc y.1 = true ∧ storable sc z.1 = true ∧ swOk sc [.Name x.1 x.2, .Name y.1 y.2, .Name z.1 z.2] e [x.1, y.1, z.1] = true then
    (trE w names sc e).bind fun m => some (.unpack3 i j l m) else none
noncomputable def trSw2 (w : Nat) (names : List (Option Str)) (sc : Scope) (x y : Str × Pos × Expr × Pos) (e1 e2 : Expr) (v : Nat × Pos) : Option MS :=
  (varIdx names x.1).bind fun j => if notStar e1 = true ∧ notStar e2 = true ∧ swStores sc [.Subscript (.Name x.1 x.2.1) x.2.2.1 x.2.2.2, .Subscript (.Name x.1 y.2.1) y.2.2.1 y.2.2.2] (.Tuple [e1, e2] v.1 v.2) = some none then
    (trE w names sc e1).bind fun m1 => (trE w names sc e2).bind fun m2 => (trE w names sc x.2.2.1).bind fun mi => (trE w names sc y.2.2.1).bind fun mj => some (.swap j mi mj m1 m2) else none
noncomputable def trSw (w : Nat) (names : List (Option Str)) (sc : Scope) (a b e : Expr) : Option MS :=
  (subOf a).bind fun x => (subOf b).bind fun y => (tupOf e).bind fun t => (two t.1).bind fun es => if x.1 = y.1 then trSw2 w names sc x y es.1 es.2 t.2 else none
noncomputable def trAT (w : Nat) (names : List (Option Str)) (sc : Scope) (ts : List Expr) (e : Expr) : Option MS := match two ts with
  | some a => (match nameOf a.1 with
    | some x => (nameOf a.2).bind fun y => trU2 w names sc x y e
    | none => trSw w names sc a.1 a.2 e)
  | none => (three ts).bind fun a => (nameOf a.1).bind fun x => (nameOf a.2.1).bind fun y => (nameOf a.2.2).bind fun z => trU3 w names sc x y z e
noncomputable def trAS (w : Nat) (names : List (Option Str)) (sc : Scope) (o i e : Expr) : Option MS := (trE w names sc e).bind fun m => (trE w names sc i).bind fun mi => match nameOf o with
  | some x => (varIdx names x.1).bind fun j => some (.setItem j mi m)
  | none => (subOf o).bind fun x => (varIdx names x.1).bind fun j => (trE w names sc x.2.2.1).bind fun m' => some (.setItem2 j m' mi m)
noncomputable def trA (mu : List Str) (w : Nat) (names : List (Option Str)) (sc : Scope) (t e : Expr) : Option MS := match t with
  | .Name x p => trAN mu w names sc x p e
  | .Tuple ts _ _ => trAT w names sc ts e
  | .Subscript o i _ => trAS w names sc o i e
  | _ => none
noncomputable def trX (w : Nat) (names : List (Option Str)) (sc : Scope) (e : Expr) : Option MS := (appOf e).bind fun x =>
  if (x.1.2.2.endLine == x.2.2.line) = true ∧ notStar x.2.1 = true then (varIdx names x.1.1).bind fun j => (trE w names sc x.2.1).bind fun m => some (.append j m) else none
noncomputable def trR (w : Nat) (names : List (Option Str)) (sc : Scope) (e : Expr) : Option MS := match nameOf e with
  | some x => (varIdx names x.1).bind fun i => some (.retVar i)
  | none => (trE w names sc e).bind fun m => some (.ret m)
noncomputable def trF (t : List Stmt → Option (List MS)) (w : Nat) (names : List (Option Str)) (sc : Scope) (g iter : Expr) (body oe : List Stmt) : Option MS := (nameOf g).bind fun x => if oe.isEmpty = true ∧ storable sc x.1 = true ∧ notSet iter = true then
  (varIdx names x.1).bind fun j => (trI w names sc iter).bind fun mi => (t body).bind fun mb => some (.forS j mi mb) else none

/-- the statements; w is how deep the expressions go -/
noncomputable def trS : Nat → List Str → Nat → List (Option Str) → Scope → Stmt → Option MS
  | 0, _, _, _, _, _ => none
  | n + 1, mu, w, names, sc, s => match s with
    | .Assign ts e _ => (one ts).bind fun t => trA mu w names sc t e
    | .Expr e _ => trX w names sc e
    | .If t a b _ => (trT w names sc t).bind fun m => (trSL (trS n mu w names sc) a).bind fun ma => (trSL (trS n mu w names sc) b).bind fun mb => some (.ite m ma mb)
    | .For t iter body oe _ => trF (trSL (trS n mu w names sc)) w names sc t iter body oe
    | .While t body oe _ => if isTrueC t = true ∧ oe.isEmpty = true then (trSL (trS n mu w names sc) body).bind fun mb => some (.whileT mb) else none
    | .Return o _ => o.bind fun e => trR w names sc e
    | .Break _ => some .brk
    | .Continue _ => some .cont
    | .Raise _ _ _ => some .fail
    | _ => none

section
variable {prog : Program} {w : World} {h₀ : Heap} {mg mb : Str → Option Value} {k : Nat} {Φ : Tab} {names : List (Option Str)} {sc : Scope} {N : Nat}

theorem trSL_ok {f : Stmt → Option MS} (hf : ∀ s m, f s = some m → ExOK prog w h₀ k Φ N names sc s m) : ∀ (es : List Stmt) (ms : List MS), trSL f es = some ms → ExsOK prog w h₀ k Φ N names sc es ms
  | [], ms, h => by cases h; exact exs_nil
  | e :: es, ms, h => by
    obtain ⟨m, hm, h⟩ := bnd h
    obtain ⟨ms', hms, h⟩ := bnd h
    cases h
    exact exs_cons (hf e m hm) (trSL_ok hf es ms' hms)

section
variable (W : Wd h₀ mg mb) (T : TabOK prog w h₀ mg k Φ)
include W T
theorem trAC_ok {o : Bool} {i v : Nat} {c : Expr × Comprehension × Scope × Pos} {m : MS} {x : Str} {p : Pos} (q : Pos) (hi : names[i]? = some (some x)) (hst : storable sc x = true) (hsw : swapsB sc (.ListComp c.1 [c.2.1] c.2.2.1 c.2.2.2) x p = true) (h : trAC o i v names sc c = some m) :
    ExOK prog w h₀ k Φ N names sc (.Assign [.Name x p] (.ListComp c.1 [c.2.1] c.2.2.1 c.2.2.2) q) m := by
  obtain ⟨y, hy, h⟩ := bnd h
  obtain ⟨⟨h1, h2, h3, h4⟩, h⟩ := ite_some h
  obtain ⟨mi, hmi, h⟩ := bnd h
  obtain ⟨m', hm, h⟩ := bnd h
  cases h
  rw [comp_eta hy h1 h2] at hsw ⊢
  exact ex_assignC _ _ _ (compOk_ok h3) ((tr_ok W T _).2.2 _ _ _ _ hmi) ((tr_ok W T _).1 _ _ _ _ hm) (fun env y => notSet_ok h4 env y) hi hst hsw
theorem trAN_ok {mu : List Str} {v : Nat} {x : Str} {p : Pos} {e : Expr} {m : MS} (q : Pos) (h : trAN mu v names sc x p e = some m) : ExOK prog w h₀ k Φ N names sc (.Assign [.Name x p] e q) m := by
  obtain ⟨i, hi, h⟩ := bnd h
  obtain ⟨hst, h⟩ := ite_some h
  cases hy : nameOf e with
  | some y =>
    rw [hy] at h
    obtain ⟨j, hj, h⟩ := bnd h
    cases h
    rw [nameOf_inv hy]
    exact ex_move _ _ _ (varIdx_ok hi) (varIdx_ok hj) hst
  | none =>
    rw [hy] at h
    obtain ⟨hsd, h⟩ := ite_none h
    by_cases hsw : swapsB sc e x p = true
    · obtain ⟨c, hc, h'⟩ := bnd ((if_pos hsw).symm.trans h)
      have e1 := compOf_inv hc
      rw [e1] at hsw ⊢
      exact trAC_ok W T q (varIdx_ok hi) hst hsw h'
    · obtain ⟨m', hm', h⟩ := bnd ((if_neg hsw).symm.trans h)
      cases h
      exact ex_assign _ _ _ (varIdx_ok hi) hst (Bool.eq_false_iff.mpr hsw) (Bool.eq_false_iff.mpr hsd) ((tr_ok W T _).1 _ _ _ _ hm')
theorem trU2_ok {v : Nat} {x y : Str × Pos} {pt q : Pos} {nt : Nat} {e : Expr} {m : MS} (h : trU2 v names sc x y e = some m) : ExOK prog w h₀ k Φ N names sc (.Assign [.Tuple [.Name x.1 x.2, .Name y.1 y.2] nt pt] e q) m := by
  obtain ⟨i, hi, h⟩ := bnd h
  obtain ⟨j, hj, h⟩ := bnd h
  obtain ⟨⟨h1, h2, h3⟩, h⟩ := ite_some h
  obtain ⟨m', hm', h⟩ := bnd h
  cases h
  obtain ⟨o, hs, ho⟩ := swOk_inv h3
  exact ex_unpack2 _ _ _ _ _ (varIdx_ok hi) (varIdx_ok hj) h1 h2 hs ho ((tr_ok W T _).1 _ _ _ _ hm')
theorem trU3_ok {v : Nat} {x y z : Str × Pos} {pt q : Pos} {nt : Nat} {e : Expr} {m : MS} (h : trU3 v names sc x y z e = some m) : ExOK prog w h₀ k Φ N names sc (.Assign [.Tuple [.Name x.1 x.2, .Name y.1 y.2, .Name z.1 z.2] nt pt] e q) m := by
  obtain ⟨i, hi, h⟩ := bnd h
  obtain ⟨j, hj, h⟩ := bnd h
  obtain ⟨l, hl, h⟩ := bnd h
  obtain ⟨⟨h1, h2, h3, h4⟩, h⟩ := ite_some h
  obtain ⟨m', hm', h⟩ := bnd h
  cases h
  obtain ⟨o, hs, ho⟩ := swOk_inv h4
  exact ex_unpack3 _ _ _ _ _ _ (varIdx_ok hi) (varIdx_ok hj) (varIdx_ok hl) h1 h2 h3 hs ho ((tr_ok W T _).1 _ _ _ _ hm')
theorem trSw2_ok {v : Nat} {x y : Str × Pos × Expr × Pos} {e1 e2 : Expr} {u : Nat × Pos} {pt q : Pos} {nt : Nat} {m : MS} (h : trSw2 v names sc x y e1 e2 u = some m) : ExOK prog w h₀ k Φ N names sc (.Assign [.Tuple [.Subscript (.Name x.1 x.2.1) x.2.2.1 x.2.2.2, .Subscript (.Name x.1 y.2.1) y.2.2.1 y.2.2.2] nt pt] (.Tuple [e1, e2] u.1 u.2) q) m := by
  obtain ⟨j, hj, h⟩ := bnd h
  obtain ⟨⟨h1, h2, h3⟩, h⟩ := ite_some h
  obtain ⟨m1, hm1, h⟩ := bnd h
  obtain ⟨m2, hm2, h⟩ := bnd h
  obtain ⟨mi, hmi, h⟩ := bnd h
  obtain ⟨mj, hmj, h⟩ := bnd h
  cases h
  exact ex_swap _ _ _ _ _ _ _ _ _ (varIdx_ok hj) h1 h2 ((tr_ok W T _).1 _ _ _ _ hm1) ((tr_ok W T _).1 _ _ _ _ hm2) ((tr_ok W T _).1 _ _ _ _ hmi) ((tr_ok W T _).1 _ _ _ _ hmj) h3
theorem trSw_ok {v : Nat} {a b e : Expr} {pt q : Pos} {nt : Nat} {m : MS} (h : trSw v names sc a b e = some m) : ExOK prog w h₀ k Φ N names sc (.Assign [.Tuple [a, b] nt pt] e q) m := by
  obtain ⟨x, h1, h⟩ := bnd h
  obtain ⟨y, h2, h⟩ := bnd h
  obtain ⟨t, h3, h⟩ := bnd h
  obtain ⟨⟨e1, e2⟩, h4, h⟩ := bnd h
  obtain ⟨h5, h⟩ := ite_some h
  rw [subOf_inv h1, subOf_inv h2, tupOf_inv h3, two_inv h4, ← h5]
  exact trSw2_ok W T h
theorem trAT_ok {v : Nat} {ts : List Expr} {e : Expr} {pt q : Pos} {nt : Nat} {m : MS} (h : trAT v names sc ts e = some m) : ExOK prog w h₀ k Φ N names sc (.Assign [.Tuple ts nt pt] e q) m := by
  unfold trAT at h
  cases h1 : two ts with
  | some a =>
    rw [h1] at h
    obtain ⟨a, b⟩ := a
    rw [two_inv h1]
    cases h2 : nameOf a with
    | some x =>
      simp only [h2] at h
      obtain ⟨y, h3, h⟩ := bnd h
      rw [nameOf_inv h2, nameOf_inv h3]
      exact trU2_ok W T h
    | none =>
      simp only [h2] at h
      exact trSw_ok W T h
  | none =>
    rw [h1] at h
    obtain ⟨⟨a, b, c⟩, h1, h⟩ := bnd h
    obtain ⟨x, h2, h⟩ := bnd h
    obtain ⟨y, h3, h⟩ := bnd h
    obtain ⟨z, h4, h⟩ := bnd h
    rw [three_inv h1, show a = _ from nameOf_inv h2, show b = _ from nameOf_inv h3, show c = _ from nameOf_inv h4]
    exact trU3_ok W T h
theorem trAS_ok {v : Nat} {o i e : Expr} {pt q : Pos} {m : MS} (h : trAS v names sc o i e = some m) : ExOK prog w h₀ k Φ N names sc (.Assign [.Subscript o i pt] e q) m := by
  obtain ⟨m', hm', h⟩ := bnd h
  obtain ⟨mi, hmi, h⟩ := bnd h
  cases h1 : nameOf o with
  | some x =>
    rw [h1] at h
    obtain ⟨j, hj, h⟩ := bnd h
    cases h
    rw [nameOf_inv h1]
    exact ex_setItem _ _ _ (varIdx_ok hj) ((tr_ok W T _).1 _ _ _ _ hm') ((tr_ok W T _).1 _ _ _ _ hmi)
  | none =>
    rw [h1] at h
    obtain ⟨x, h2, h⟩ := bnd h
    obtain ⟨j, hj, h⟩ := bnd h
    obtain ⟨mj, hmj, h⟩ := bnd h
    cases h
    rw [subOf_inv h2]
    exact ex_setItem2 _ _ _ _ (varIdx_ok hj) ((tr_ok W T _).1 _ _ _ _ hm') ((tr_ok W T _).1 _ _ _ _ hmj) ((tr_ok W T _).1 _ _ _ _ hmi)
theorem trA_ok {mu : List Str} {v : Nat} {t e : Expr} {q : Pos} {m : MS} (h : trA mu v names sc t e = some m) : ExOK prog w h₀ k Φ N names sc (.Assign [t] e q) m := by
  cases t
  case Name x p => exact trAN_ok W T q h
  case Tuple ts nt pt => exact trAT_ok W T h
  case Subscript o i pt => exact trAS_ok W T h
  all_goals exact none_ne h
theorem trX_ok {v : Nat} {e : Expr} {q : Pos} {m : MS} (h : trX v names sc e = some m) : ExOK prog w h₀ k Φ N names sc (.Expr e q) m := by
  obtain ⟨x, h1, h⟩ := bnd h
  obtain ⟨hc, h⟩ := ite_some h
  obtain ⟨j, hj, h⟩ := bnd h
  obtain ⟨m', hm', h⟩ := bnd h
  cases h
  rw [appOf_inv h1]
  exact ex_append _ _ _ _ (varIdx_ok hj) hc.2 hc.1 ((tr_ok W T _).1 _ _ _ _ hm')
theorem trR_ok {v : Nat} {e : Expr} {q : Pos} {m : MS} (h : trR v names sc e = some m) : ExOK prog w h₀ k Φ N names sc (.Return (some e) q) m := by
  unfold trR at h
  cases h1 : nameOf e with
  | some x =>
    rw [h1] at h
    obtain ⟨i, hi, h⟩ := bnd h
    cases h
    rw [nameOf_inv h1]
    exact ex_retVar _ _ _ i (varIdx_ok hi)
  | none =>
    rw [h1] at h
    obtain ⟨m', hm', h⟩ := bnd h
    cases h
    exact ex_ret _ ((tr_ok W T _).1 _ _ _ _ hm')
theorem trF_ok {t : List Stmt → Option (List MS)} (ht : ∀ l m, t l = some m → ExsOK prog w h₀ k Φ N names sc l m) {v : Nat} {g iter : Expr} {body oe : List Stmt} {q : Pos} {m : MS} (h : trF t v names sc g iter body oe = some m) : ExOK prog w h₀ k Φ N names sc (.For g iter body oe q) m := by
  obtain ⟨x, h1, h⟩ := bnd h
  obtain ⟨⟨h2, h3, h4⟩, h⟩ := ite_some h
  obtain ⟨j, hj, h⟩ := bnd h
  obtain ⟨mi, hmi, h⟩ := bnd h
  obtain ⟨mb', hmb, h⟩ := bnd h
  cases h
  rw [nameOf_inv h1, List.isEmpty_iff.mp h2]
  exact ex_for _ _ (fun env y => notSet_ok h4 env y) (varIdx_ok hj) h3 ((tr_ok W T _).2.2 _ _ _ _ hmi) (ht _ _ hmb)
theorem trS_ok (mu : List Str) (v : Nat) : ∀ n s m, trS n mu v names sc s = some m → ExOK prog w h₀ k Φ N names sc s m := by
  intro n
  induction n with
  | zero => intro s m h; cases h
  | succ n ih =>
    intro s m h
    cases s
    case Assign ts e q => obtain ⟨t, h1, h⟩ := bnd h; rw [one_inv h1]; exact trA_ok W T h
    case Expr e q => exact trX_ok W T h
    case If t a b q =>
      obtain ⟨m', hm', h⟩ := bnd h
      obtain ⟨ma, hma, h⟩ := bnd h
      obtain ⟨mb', hmb, h⟩ := bnd h
      cases h
      exact ex_ite _ ((tr_ok W T _).2.1 _ _ _ _ hm') (trSL_ok ih _ _ hma) (trSL_ok ih _ _ hmb)
    case For t iter body oe q => exact trF_ok W T (trSL_ok ih) h
    case While t body oe q =>
      obtain ⟨hc, h⟩ := ite_some h
      obtain ⟨mb', hmb, h⟩ := bnd h
      cases h
      obtain ⟨j, p, rfl⟩ := isTrueC_inv hc.1
      rw [List.isEmpty_iff.mp hc.2]
      exact ex_while _ _ _ (trSL_ok ih _ _ hmb)
    case Return o q => obtain ⟨e, h1, h⟩ := bnd h; rw [h1]; exact trR_ok W T h
    case Break q => cases h; exact ex_brk _
    case Continue q => cases h; exact ex_cont _
    case Raise a b q => cases h; exact ex_fail _
    all_goals exact none_ne h
end

/-- a def of the text -/
structure FnAt (h₀ : Heap) (mg : Str → Option Value) (f : Str) (params : List Str) (body : List Stmt) (sc : Scope) (fa : Addr) (o : Obj) (fd : FuncData) : Prop where
  g : mg f = some (.ref fa)
  ob : h₀.get? fa = some o
  dt : o.data = .func fd
  scp : fd.scope = sc
  bdy : fd.body = .stmts body
  clo : fd.closure = []
  glo : fd.globals = mainGlobals
  bui : fd.builtins = builtinsNs
  code : h₀.CodeRec fd.code fd.qualname
  bind : ∀ vals : List Value, vals.length = params.length → bindArgs fd ⟨vals, []⟩ = pure (params.zip vals)

noncomputable def fnOk (params locals : List Str) (sc : Scope) : Bool :=
  sc.kind == .function && !sc.isCoroutine && !sc.isGenerator && ((params ++ locals).all fun x => storable sc x && goodName x) && decide ((params ++ locals).Nodup) && (sc.names.all fun p => p.2 != .free) && decide ((sc.names.map (·.1)).Nodup)

theorem fn_storable {params locals : List Str} {sc : Scope} (h : fnOk params locals sc = true) (x : Str) (hx : x ∈ params ++ locals) : storable sc x = true := by
  unfold fnOk at h
  have h1 := (Bool.and_eq_true_iff.mp (Bool.and_eq_true_iff.mp (Bool.and_eq_true_iff.mp h).1).1).1
  exact (Bool.and_eq_true_iff.mp (List.all_eq_true.mp (Bool.and_eq_true_iff.mp h1).2 x hx)).1
theorem bindL_skip {kd : Str → Option NameKind} {x : Str} : ∀ (binds : List (Str × Value)) (m : Str → Option Value), x ∉ binds.map (·.1) → bindL kd binds m x = m x
  | [], m, _ => rfl
  | (n, v) :: r, m, h => by
    simp only [List.map_cons, List.mem_cons, not_or] at h
    unfold bindL
    rw [bindL_skip r _ h.2]
    split
    · simp [h.1]
    · rfl
theorem bindL_get {kd : Str → Option NameKind} {x : Str} {v : Value} (hk : kd x = some .local) : ∀ (binds : List (Str × Value)) (m : Str → Option Value), (binds.map (·.1)).Nodup → (x, v) ∈ binds → bindL kd binds m x = some v
  | [], _, _, h => by simp at h
  | (n, u) :: r, m, hn, h => by
    simp only [List.map_cons, List.nodup_cons] at hn
    unfold bindL
    rcases List.mem_cons.mp h with e | h
    · cases e
      rw [bindL_skip r _ hn.1, if_pos hk]; simp
    · exact bindL_get hk r _ hn.2 h
theorem bindC_skip {kd : Str → Option NameKind} {x : Str} : ∀ (binds : List (Str × Value)) (m : Str → Option Value), x ∉ binds.map (·.1) → bindC kd binds m x = m x
  | [], m, _ => rfl
  | (n, v) :: r, m, h => by
    simp only [List.map_cons, List.mem_cons, not_or] at h
    unfold bindC
    rw [bindC_skip r _ h.2]
    split
    · rfl
    · simp [h.1]
theorem bindC_get {kd : Str → Option NameKind} {x : Str} {v : Value} (hk : kd x ≠ some .local) : ∀ (binds : List (Str × Value)) (m : Str → Option Value), (binds.map (·.1)).Nodup → (x, v) ∈ binds → bindC kd binds m x = some v
  | [], _, _, h => by simp at h
  | (n, u) :: r, m, hn, h => by
    simp only [List.map_cons, List.nodup_cons] at hn
    unfold bindC
    rcases List.mem_cons.mp h with e | h
    · cases e
      rw [bindC_skip r _ hn.1, if_neg hk]; simp
    · exact bindC_get hk r _ hn.2 h

noncomputable def slots (ds : List D) (n : Nat) : Rho := ds.map (fun d => some ⟨false, d⟩) ++ List.replicate n none

/-- the frame of a call as it starts -/
theorem start_frame {fd : FuncData} {params locals : List Str} {s s₁ : Shared} {fa : Addr} {X : Addr → Prop} {vs : List Value} {ds : List D} (hf : fnOk params locals fd.scope = true) (hX : ∀ a, X a → ∃ o, s.heap.get? a = some o) (hr : Reps X s.heap vs ds) (hlen : ds.length = params.length)
    (IC : InCallC s (callEnvC fd s.heap.objs.size fa).locals (bindL (callEnvC fd s.heap.objs.size fa).kindOf (params.zip vs) fun _ => none) (callEnvC fd s.heap.objs.size fa).cells (bindC (callEnvC fd s.heap.objs.size fa).kindOf (params.zip vs) fun _ => none) s₁) :
    Frame ((params ++ locals).map some) (callEnvC fd s.heap.objs.size fa) s.heap s₁.heap X (fun _ => []) (slots ds locals.length) := by
  unfold fnOk at hf
  simp only [Bool.and_eq_true, Bool.not_eq_true', beq_iff_eq, decide_eq_true_eq] at hf
  obtain ⟨⟨⟨⟨⟨⟨hk, _⟩, _⟩, hall⟩, hnd⟩, hfree⟩, hndn⟩ := hf
  have hvs := hr.length
  generalize hE : callEnvC fd s.heap.objs.size fa = E at IC ⊢
  have El : E.locals = s.heap.objs.size := by rw [← hE]; rfl
  have Ec : E.cells = cellsFrom (s.heap.objs.size + 1) fd.scope.names [] := by rw [← hE]; rfl
  have Ek : ∀ x, E.kindOf x = fd.scope.names.lookup x := fun x => by rw [← hE]; rfl
  have hst : ∀ x ∈ params ++ locals, E.kindOf x = some .local ∨ E.kindOf x = some .cell := by
    intro x hx
    have := (Bool.and_eq_true_iff.mp (List.all_eq_true.mp hall x hx)).1
    unfold storable at this
    rw [Bool.or_eq_true] at this
    rw [Ek]
    exact this.imp (fun e => by simpa using e) (fun e => by simpa using e)
  have hgood : ∀ x ∈ params ++ locals, goodName x = true := fun x hx => (Bool.and_eq_true_iff.mp (List.all_eq_true.mp hall x hx)).2
  have dead : ∀ a, s.heap.objs.size ≤ a → s.heap.get? a = none := fun a ha => by
    cases e : s.heap.get? a with
    | none => rfl
    | some o => exact absurd (Heap.lt_size e) (Nat.not_lt.mpr ha)
  have keep : Ext s.heap s₁.heap := IC.toInCall.keep
  have zn : ((params.zip vs).map (·.1)) = params := by rw [List.map_fst_zip]; omega
  have FM : Fm E s₁.heap (fun x => if E.kindOf x = some .local then bindL E.kindOf (params.zip vs) (fun _ => none) x else bindC E.kindOf (params.zip vs) (fun _ => none) x) := by
    refine ⟨⟨_, IC.toInCall.ns, fun x hx => by simp [hx]⟩, fun x hx => ?_, fun x y c hx hy => name_of_addr IC.apart (mem_of_lookup hx) (mem_of_lookup hy)⟩
    have hxc : E.kindOf x = some .cell := by
      rcases hx with h | h
      · exact h
      · rw [Ek] at h
        have := List.all_eq_true.mp hfree _ (lookup_mem h)
        simp at this
    have hm : (x, NameKind.cell) ∈ fd.scope.names := lookup_mem (by rw [← Ek]; exact hxc)
    obtain ⟨c, hc, _, _⟩ := cells_own (x := x) fd.scope.names (s.heap.push { cls := .type "frame", data := .dict #[] }) [] hndn hm
    rw [Heap.size_push, ← Ec] at hc
    refine ⟨c, hc, ?_⟩
    rw [if_neg (by rw [hxc]; simp)]
    exact IC.cell x c hc
  have ndp : params.Nodup := (List.nodup_append.mp hnd).1
  refine ⟨by simp [slots, hlen], ⟨_, FM, fun i x sl hi hs => ?_⟩, fun i x hi => ?_, fun i j x hi hj => ?_, fun i x hi => ?_, fun _ => .nil, by simp, by simp, fun a ha => let ⟨o, q⟩ := hX a ha; ⟨o, keep _ _ q⟩, by simp, keep, ?_, fun x c hc => ?_, by simp⟩
  · have hlt : i < params.length := by
      refine Nat.lt_of_not_le fun hge => ?_
      unfold slots at hs
      rw [List.getElem?_append_right (by simpa [hlen] using hge), List.getElem?_replicate] at hs
      split at hs <;> cases hs
    rw [List.getElem?_map, List.getElem?_append_left hlt, List.getElem?_eq_getElem hlt] at hi
    simp only [Option.map_some, Option.some.injEq] at hi
    unfold slots at hs
    rw [List.getElem?_append_left (by simpa [hlen] using hlt), List.getElem?_map, List.getElem?_eq_getElem (by omega)] at hs
    simp only [Option.map_some, Option.some.injEq] at hs
    subst hs
    have hv : vs[i]? = some vs[i] := by rw [List.getElem?_eq_getElem (by omega)]
    have hzip : (x, vs[i]) ∈ params.zip vs := by
      refine List.mem_of_getElem? (i := i) ?_
      rw [List.getElem?_zip_eq_some]
      exact ⟨by rw [List.getElem?_eq_getElem hlt, hi], hv⟩
    refine ⟨vs[i], ?_, fun h => (by cases h), fun _ => ?_⟩
    · split
      · rename_i h; exact bindL_get h _ _ (by rw [zn]; exact ndp) hzip
      · rename_i h; exact bindC_get h _ _ (by rw [zn]; exact ndp) hzip
    · obtain ⟨d', e1, e2⟩ := hr.get' hv
      rw [List.getElem?_eq_getElem (by omega)] at e1; cases e1
      exact (e2.ext keep).sub fun a e => by
        rcases e with e | ⟨_, e⟩
        · exact e
        · simp at e
  · have hm : x ∈ params ++ locals := by
      have := List.mem_of_getElem? hi
      simpa using this
    exact (hst x hm).imp id .inl
  · rw [List.getElem?_map, Option.map_eq_some_iff] at hi hj
    obtain ⟨a, h1, h2⟩ := hi
    obtain ⟨b, h3, h4⟩ := hj
    cases h2; cases h4
    have hlt := (List.getElem?_eq_some_iff.mp h1).1
    exact (List.getElem?_inj hlt hnd).mp (h1.trans h3.symm)
  · have hm : x ∈ params ++ locals := by
      have := List.mem_of_getElem? hi
      simpa using this
    simpa [goodName] using hgood x hm
  · rw [El]; exact dead _ (Nat.le_refl _)
  · refine dead c (Nat.le_of_lt ?_)
    have := IC.above x c (mem_of_lookup hc)
    rw [El] at this
    exact this

theorem fn_call {f : Str} {params locals : List Str} {body : List Stmt} {sc : Scope} {mbody : List MS} {ds : List D} {d : D} {fr : Bool} {fa : Addr} {o : Obj} {fd : FuncData} (W : Wd h₀ mg mb) (A₀ : FnAt h₀ mg f params body sc fa o fd) (hf : fnOk params locals sc = true) (hlen : ds.length = params.length)
    (Hb : ExsOK prog w h₀ k Φ N ((params ++ locals).map some) sc body mbody) (he : exSs Φ N mbody (slots ds locals.length) = some (.ret d fr)) : CallOK prog w h₀ mg (k + 1) f ds d fr := by
  refine ⟨fa, o, fd, A₀.g, A₀.ob, A₀.dt, fun A s X vs Q R XX hX hr hQ => ?_⟩
  have hf' := hf
  unfold fnOk at hf'
  simp only [Bool.and_eq_true, Bool.not_eq_true', beq_iff_eq, decide_eq_true_eq] at hf'
  obtain ⟨⟨⟨⟨⟨⟨hk, hco⟩, hgen⟩, hall⟩, hnd⟩, hfree⟩, hndn⟩ := hf'
  have hvs := hr.length
  rw [← A₀.scp] at hf hk hco hgen hall hfree hndn
  refine wpAny_call (codeAny_call_cells (by have := R.dp; omega) (XX _ _ A₀.ob) A₀.dt (W.nl.keeps XX) (A₀.code.keeps XX) A₀.bdy (A₀.bind vs (by omega)) A₀.clo ?_ (fun s₁ IC => ?_) hco hgen hk)
  · intro x hx
    have hx1 : x.1 ∈ params := (List.of_mem_zip hx).1
    have := (Bool.and_eq_true_iff.mp (List.all_eq_true.mp hall x.1 (by simp [hx1]))).1
    unfold storable at this
    rw [Bool.or_eq_true] at this
    rcases this with h | h
    · exact .inl (by simpa using h)
    · refine .inr ⟨by simpa using h, ?_⟩
      obtain ⟨c, hc, _, _⟩ := cells_own (x := x.1) fd.scope.names (s.heap.push { cls := .type "frame", data := .dict #[] }) [] hndn (lookup_mem (by simpa using h))
      rw [Heap.size_push] at hc
      rw [hc]; rfl
  · have F := start_frame hf hX hr hlen IC
    obtain ⟨h₁, tk₁, rfl⟩ := IC.toInCall.same
    have EO : EnvOK (callEnvC fd s.heap.objs.size fa) sc := by
      refine ⟨hk, A₀.glo, A₀.bui, fun x hx => ?_, fun x hx => ?_⟩
      · show fd.scope.names.lookup x = _; rw [A₀.scp]; exact hx
      · show fd.scope.names.lookup x = _ ∨ fd.scope.names.lookup x = _; rw [A₀.scp]; exact hx
    have R' : Room (A.deeper (callEnvC fd s.heap.objs.size fa)) k := by
      refine ⟨R.hd, ?_, ?_⟩
      · show A.depth + 1 + k + 4 < recursionLimit
        have := R.dp; omega
      · show A.units + 3 + 8 * k + 200 < cLine
        have := R.un; omega
    refine wpAny_noE (Hb _ _ _ _ _ _ _ _ R' EO A₀.scp XX F he _ fun f h' tk dn => ?_)
    obtain ⟨p, al, v, rfl, rr⟩ := dn
    refine hQ v h' tk (fun a o' e => p a o' (F.base a o' e) ?_ ?_ (by simp)) rr
    · rintro rfl; rw [F.Ld] at e; cases e
    · rintro y c hk hc rfl; rw [F.Cd y _ hc] at e; cases e
end


-- names: [m]
noncomputable def mb_copy_rows : List MS := [
  .ret (.comp (.lst (.var 0)) (.slc (.var 1) .none .none))]
-- names: [m, c, start, zero, i]
noncomputable def mb_pivot_row : List MS := [
  .forS 4 (.range2 (.var 2) (.len (.var 0))) [.ite (.cmp .NotEq (.idx (.idx (.var 0) (.var 4)) (.var 1)) (.var 3)) [.retVar 4] []],
  .ret (.neg (.int 1))]
-- names: [a, b, _]
noncomputable def mb_gcd_of : List MS := [
  .assign false 0 (.abs (.var 0)),
  .assign false 1 (.abs (.var 1)),
  .forS 2 (.range1 (.bin .add (.bin .mul (.int 5) (.len (.text (.bin .add (.var 0) (.var 1))))) (.int 2))) [.ite (.cmp .Eq (.var 1) (.int 0)) [.retVar 0] [], .unpack2 0 1 (.tup (.cons (.var 1) (.cons (.bin .mod (.var 0) (.var 1)) .nil)))],
  .retVar 0]
-- names: [n, d, g]
noncomputable def mb_frac : List MS := [
  .ite (.cmp .Eq (.var 1) (.int 0)) [.fail] [],
  .ite (.cmp .Lt (.var 1) (.int 0)) [.assign false 0 (.neg (.var 0)), .assign false 1 (.neg (.var 1))] [],
  .assign false 2 (.call "gcd_of" (.cons (.var 0) (.cons (.var 1) .nil))),
  .ret (.tup (.cons (.bin .fdiv (.var 0) (.var 2)) (.cons (.bin .fdiv (.var 1) (.var 2)) .nil)))]
-- names: [x, y]
noncomputable def mb_f_add : List MS := [
  .ret (.call "frac" (.cons (.bin .add (.bin .mul (.idx (.var 0) (.int 0)) (.idx (.var 1) (.int 1))) (.bin .mul (.idx (.var 1) (.int 0)) (.idx (.var 0) (.int 1)))) (.cons (.bin .mul (.idx (.var 0) (.int 1)) (.idx (.var 1) (.int 1))) .nil)))]
-- names: [x]
noncomputable def mb_f_neg : List MS := [
  .ret (.tup (.cons (.neg (.idx (.var 0) (.int 0))) (.cons (.idx (.var 0) (.int 1)) .nil)))]
-- names: [x, y]
noncomputable def mb_f_mul : List MS := [
  .ret (.call "frac" (.cons (.bin .mul (.idx (.var 0) (.int 0)) (.idx (.var 1) (.int 0))) (.cons (.bin .mul (.idx (.var 0) (.int 1)) (.idx (.var 1) (.int 1))) .nil)))]
-- names: [x, y]
noncomputable def mb_f_div : List MS := [
  .ite (.cmp .Eq (.idx (.var 1) (.int 0)) (.int 0)) [.fail] [],
  .ret (.call "frac" (.cons (.bin .mul (.idx (.var 0) (.int 0)) (.idx (.var 1) (.int 1))) (.cons (.bin .mul (.idx (.var 0) (.int 1)) (.idx (.var 1) (.int 0))) .nil)))]
-- names: [rows]
noncomputable def mb_from_ints : List MS := [
  .ret (.comp (.lst (.var 0)) (.comp (.lst (.var 1)) (.tup (.cons (.var 2) (.cons (.int 1) .nil)))))]
-- names: [n]
noncomputable def mb_identity : List MS := [
  .ret (.comp (.range1 (.var 0)) (.comp (.range1 (.var 0)) (.ife (.cmp .Eq (.var 1) (.var 2)) (.tup (.cons (.int 1) (.cons (.int 1) .nil))) (.tup (.cons (.int 0) (.cons (.int 1) .nil))))))]
-- names: [m, i, j, out]
noncomputable def mb_rows_swapped : List MS := [
  .assign true 3 (.call "copy_rows" (.cons (.var 0) .nil)),
  .setItem 3 (.var 1) (.slc (.idx (.var 0) (.var 2)) .none .none),
  .setItem 3 (.var 2) (.slc (.idx (.var 0) (.var 1)) .none .none),
  .retVar 3]
-- names: [m, i, k, out]
noncomputable def mb_row_scaled : List MS := [
  .assign true 3 (.call "copy_rows" (.cons (.var 0) .nil)),
  .setItem 3 (.var 1) (.comp (.lst (.idx (.var 0) (.var 1))) (.call "f_mul" (.cons (.var 2) (.cons (.var 4) .nil)))),
  .retVar 3]
-- names: [m, i, j, k, out]
noncomputable def mb_row_added : List MS := [
  .assign true 4 (.call "copy_rows" (.cons (.var 0) .nil)),
  .setItem 4 (.var 1) (.comp (.range1 (.len (.idx (.var 0) (.var 1)))) (.call "f_add" (.cons (.idx (.idx (.var 0) (.var 1)) (.var 5)) (.cons (.call "f_mul" (.cons (.var 3) (.cons (.idx (.idx (.var 0) (.var 2)) (.var 5)) .nil))) .nil)))),
  .retVar 4]
-- names: [m, cols, red, pivots, top, c, found, i]
noncomputable def mb_reduced : List MS := [
  .assign false 2 (.call "copy_rows" (.cons (.var 0) .nil)),
  .assign true 3 (.lst .nil),
  .assign false 4 (.int 0),
  .forS 5 (.range1 (.var 1)) [.assign false 6 (.call "pivot_row" (.cons (.var 2) (.cons (.var 5) (.cons (.var 4) (.cons (.tup (.cons (.int 0) (.cons (.int 1) .nil))) .nil))))), .ite (.cmp .Eq (.var 6) (.neg (.int 1))) [.cont] [], .ite (.cmp .NotEq (.var 6) (.var 4)) [.assign false 2 (.call "rows_swapped" (.cons (.var 2) (.cons (.var 4) (.cons (.var 6) .nil))))] [], .assign false 2 (.call "row_scaled" (.cons (.var 2) (.cons (.var 4) (.cons (.call "f_div" (.cons (.tup (.cons (.int 1) (.cons (.int 1) .nil))) (.cons (.idx (.idx (.var 2) (.var 4)) (.var 5)) .nil))) .nil)))), .forS 7 (.range1 (.len (.var 2))) [.ite (.and (.cmp .NotEq (.var 7) (.var 4)) (.cmp .NotEq (.idx (.idx (.var 2) (.var 7)) (.var 5)) (.tup (.cons (.int 0) (.cons (.int 1) .nil))))) [.assign false 2 (.call "row_added" (.cons (.var 2) (.cons (.var 7) (.cons (.var 4) (.cons (.call "f_neg" (.cons (.idx (.idx (.var 2) (.var 7)) (.var 5)) .nil)) .nil)))))] []], .append 3 (.var 5), .assign false 4 (.bin .add (.var 4) (.int 1))],
  .ret (.tup (.cons (.var 2) (.cons (.var 3) .nil)))]
-- names: [m, n, a, sign, c, found, i, result]
noncomputable def mb_det_by_elimination : List MS := [
  .assign false 1 (.len (.var 0)),
  .assign false 2 (.call "copy_rows" (.cons (.var 0) .nil)),
  .assign false 3 (.tup (.cons (.int 1) (.cons (.int 1) .nil))),
  .forS 4 (.range1 (.var 1)) [.assign false 5 (.call "pivot_row" (.cons (.var 2) (.cons (.var 4) (.cons (.var 4) (.cons (.tup (.cons (.int 0) (.cons (.int 1) .nil))) .nil))))), .ite (.cmp .Eq (.var 5) (.neg (.int 1))) [.ret (.tup (.cons (.int 0) (.cons (.int 1) .nil)))] [], .ite (.cmp .NotEq (.var 5) (.var 4)) [.assign false 2 (.call "rows_swapped" (.cons (.var 2) (.cons (.var 4) (.cons (.var 5) .nil)))), .assign false 3 (.call "f_neg" (.cons (.var 3) .nil))] [], .forS 6 (.range2 (.bin .add (.var 4) (.int 1)) (.var 1)) [.ite (.cmp .NotEq (.idx (.idx (.var 2) (.var 6)) (.var 4)) (.tup (.cons (.int 0) (.cons (.int 1) .nil)))) [.assign false 2 (.call "row_added" (.cons (.var 2) (.cons (.var 6) (.cons (.var 4) (.cons (.call "f_neg" (.cons (.call "f_div" (.cons (.idx (.idx (.var 2) (.var 6)) (.var 4)) (.cons (.idx (.idx (.var 2) (.var 4)) (.var 4)) .nil))) .nil)) .nil)))))] []]],
  .move 7 3,
  .forS 6 (.range1 (.var 1)) [.assign false 7 (.call "f_mul" (.cons (.var 7) (.cons (.idx (.idx (.var 2) (.var 6)) (.var 6)) .nil)))],
  .retVar 7]
-- names: [rows, n, a, sign, prev, k, found, i, j]
noncomputable def mb_det_bareiss : List MS := [
  .assign false 1 (.len (.var 0)),
  .ite (.cmp .Eq (.var 1) (.int 0)) [.ret (.int 1)] [],
  .assign true 2 (.call "copy_rows" (.cons (.var 0) .nil)),
  .assign false 3 (.int 1),
  .assign false 4 (.int 1),
  .forS 5 (.range1 (.bin .sub (.var 1) (.int 1))) [.assign false 6 (.call "pivot_row" (.cons (.var 2) (.cons (.var 5) (.cons (.var 5) (.cons (.int 0) .nil))))), .ite (.cmp .Eq (.var 6) (.neg (.int 1))) [.ret (.int 0)] [], .ite (.cmp .NotEq (.var 6) (.var 5)) [.assign true 2 (.call "rows_swapped" (.cons (.var 2) (.cons (.var 5) (.cons (.var 6) .nil)))), .assign false 3 (.neg (.var 3))] [], .forS 7 (.range2 (.bin .add (.var 5) (.int 1)) (.var 1)) [.forS 8 (.range2 (.bin .add (.var 5) (.int 1)) (.var 1)) [.setItem2 2 (.var 7) (.var 8) (.bin .fdiv (.bin .sub (.bin .mul (.idx (.idx (.var 2) (.var 7)) (.var 8)) (.idx (.idx (.var 2) (.var 5)) (.var 5))) (.bin .mul (.idx (.idx (.var 2) (.var 7)) (.var 5)) (.idx (.idx (.var 2) (.var 5)) (.var 8)))) (.var 4))]], .assign false 4 (.idx (.idx (.var 2) (.var 5)) (.var 5))],
  .ret (.bin .mul (.var 3) (.idx (.idx (.var 2) (.bin .sub (.var 1) (.int 1))) (.bin .sub (.var 1) (.int 1))))]
-- names: [n, perms, k, grown, p, g]
noncomputable def mb_permutations_of : List MS := [
  .assign false 1 (.lst (.cons (.lst .nil) .nil)),
  .forS 2 (.range1 (.var 0)) [.assign true 3 (.lst .nil), .forS 4 (.lst (.var 1)) [.forS 5 (.range1 (.bin .add (.len (.var 4)) (.int 1))) [.append 3 (.bin .add (.bin .add (.slc (.var 4) .none (.some (.var 5))) (.lst (.cons (.var 2) .nil))) (.slc (.var 4) (.some (.var 5)) .none))]], .move 1 3],
  .retVar 1]
-- names: [p, count, i, j]
noncomputable def mb_sign_of : List MS := [
  .assign false 1 (.int 0),
  .forS 2 (.range1 (.len (.var 0))) [.forS 3 (.range2 (.bin .add (.var 2) (.int 1)) (.len (.var 0))) [.ite (.cmp .Gt (.idx (.var 0) (.var 2)) (.idx (.var 0) (.var 3))) [.assign false 1 (.bin .add (.var 1) (.int 1))] []]],
  .ite (.cmp .Eq (.bin .mod (.var 1) (.int 2)) (.int 0)) [.ret (.int 1)] [],
  .ret (.neg (.int 1))]
-- names: [rows, total, p, term, i]
noncomputable def mb_det_by_leibniz : List MS := [
  .assign false 1 (.int 0),
  .forS 2 (.lst (.call "permutations_of" (.cons (.len (.var 0)) .nil))) [.assign false 3 (.call "sign_of" (.cons (.var 2) .nil)), .forS 4 (.range1 (.len (.var 2))) [.assign false 3 (.bin .mul (.var 3) (.idx (.idx (.var 0) (.var 4)) (.idx (.var 2) (.var 4))))], .assign false 1 (.bin .add (.var 1) (.var 3))],
  .retVar 1]
-- names: [m, n, ident, red, pivots]
noncomputable def mb_inverse_of : List MS := [
  .assign false 1 (.len (.var 0)),
  .assign false 2 (.call "identity" (.cons (.var 1) .nil)),
  .unpack2 3 4 (.call "reduced" (.cons (.comp (.range1 (.var 1)) (.bin .add (.idx (.var 0) (.var 5)) (.idx (.var 2) (.var 5)))) (.cons (.bin .add (.var 1) (.var 1)) .nil))),
  .ite (.cmp .NotEq (.var 4) (.lrange (.var 1))) [.fail] [],
  .ret (.comp (.lst (.var 3)) (.slc (.var 5) (.some (.var 1)) .none))]
-- names: [m, n, up, low, perm, c, found, i, k]
noncomputable def mb_lu_of : List MS := [
  .assign false 1 (.len (.var 0)),
  .assign false 2 (.call "copy_rows" (.cons (.var 0) .nil)),
  .assign true 3 (.comp (.range1 (.var 1)) (.bin .mul (.lst (.cons (.tup (.cons (.int 0) (.cons (.int 1) .nil))) .nil)) (.var 1))),
  .assign true 4 (.lrange (.var 1)),
  .forS 5 (.range1 (.var 1)) [.assign false 6 (.call "pivot_row" (.cons (.var 2) (.cons (.var 5) (.cons (.var 5) (.cons (.tup (.cons (.int 0) (.cons (.int 1) .nil))) .nil))))), .ite (.cmp .Eq (.var 6) (.neg (.int 1))) [.cont] [], .ite (.cmp .NotEq (.var 6) (.var 5)) [.assign false 2 (.call "rows_swapped" (.cons (.var 2) (.cons (.var 5) (.cons (.var 6) .nil)))), .assign true 3 (.call "rows_swapped" (.cons (.var 3) (.cons (.var 5) (.cons (.var 6) .nil)))), .swap 4 (.var 5) (.var 6) (.idx (.var 4) (.var 6)) (.idx (.var 4) (.var 5))] [], .forS 7 (.range2 (.bin .add (.var 5) (.int 1)) (.var 1)) [.assign false 8 (.call "f_div" (.cons (.idx (.idx (.var 2) (.var 7)) (.var 5)) (.cons (.idx (.idx (.var 2) (.var 5)) (.var 5)) .nil))), .setItem2 3 (.var 7) (.var 5) (.var 8), .assign false 2 (.call "row_added" (.cons (.var 2) (.cons (.var 7) (.cons (.var 5) (.cons (.call "f_neg" (.cons (.var 8) .nil)) .nil)))))]],
  .forS 7 (.range1 (.var 1)) [.setItem2 3 (.var 7) (.var 7) (.tup (.cons (.int 1) (.cons (.int 1) .nil)))],
  .ret (.tup (.cons (.var 4) (.cons (.var 3) (.cons (.var 2) .nil))))]
-- names: [rows, b, n, d, x, j, swapped]
noncomputable def mb_cramer : List MS := [
  .assign false 2 (.len (.var 0)),
  .assign false 3 (.call "det_bareiss" (.cons (.var 0) .nil)),
  .ite (.cmp .Eq (.var 3) (.int 0)) [.fail] [],
  .assign true 4 (.lst .nil),
  .forS 5 (.range1 (.var 2)) [.assign false 6 (.comp (.range1 (.var 2)) (.comp (.range1 (.var 2)) (.ife (.cmp .Eq (.var 8) (.var 5)) (.idx (.var 1) (.var 7)) (.idx (.idx (.var 0) (.var 7)) (.var 8))))), .append 4 (.call "frac" (.cons (.call "det_bareiss" (.cons (.var 6) .nil)) (.cons (.var 3) .nil)))],
  .retVar 4]
-- names: [script, i]
noncomputable def mb__law_cell : List MS := [
  .ite (.cmp .Lt (.var 1) (.len (.var 0))) [.ret (.idx (.var 0) (.var 1))] [],
  .ret (.int 0)]
-- names: [script, n, kind, k, e, j, t, turn, i]
noncomputable def mb__law_entries : List MS := [
  .assign false 2 (.bin .mod (.call "_law_cell" (.cons (.var 0) (.cons (.int 1) .nil))) (.int 9)),
  .assign false 3 (.bin .sub (.bin .mod (.call "_law_cell" (.cons (.var 0) (.cons (.int 17) .nil))) (.int 5)) (.int 2)),
  .assign false 4 (.comp (.range1 (.int 9)) (.bin .sub (.bin .mod (.call "_law_cell" (.cons (.var 0) (.cons (.bin .add (.int 2) (.var 9)) .nil))) (.int 19)) (.int 9))),
  .ite (.cmp .Eq (.var 2) (.int 1)) [.assign false 4 (.bin .add (.bin .add (.slc (.var 4) .none (.some (.int 0))) (.lst (.cons (.int 0) .nil))) (.slc (.var 4) (.some (.int 1)) .none))] [.ite (.cmp .Eq (.var 2) (.int 2)) [.forS 5 (.range1 (.int 3)) [.assign false 4 (.bin .add (.bin .add (.slc (.var 4) .none (.some (.bin .mul (.int 4) (.var 5)))) (.lst (.cons (.int 0) .nil))) (.slc (.var 4) (.some (.bin .add (.bin .mul (.int 4) (.var 5)) (.int 1))) .none))]] [.ite (.cmp .Eq (.var 2) (.int 3)) [.forS 5 (.range1 (.int 3)) [.assign false 4 (.bin .add (.bin .add (.slc (.var 4) .none (.some (.bin .mul (.int 3) (.var 5)))) (.lst (.cons (.int 0) .nil))) (.slc (.var 4) (.some (.bin .add (.bin .mul (.int 3) (.var 5)) (.int 1))) .none))]] [.ite (.cmp .Eq (.var 2) (.int 4)) [.forS 5 (.range1 (.int 3)) [.assign false 4 (.bin .add (.bin .add (.slc (.var 4) .none (.some (.bin .add (.int 3) (.var 5)))) (.lst (.cons (.bin .mul (.var 3) (.idx (.var 4) (.var 5))) .nil))) (.slc (.var 4) (.some (.bin .add (.bin .add (.int 3) (.var 5)) (.int 1))) .none))]] [.ite (.cmp .Eq (.var 2) (.int 5)) [.forS 5 (.range1 (.int 3)) [.assign false 4 (.bin .add (.bin .add (.slc (.var 4) .none (.some (.bin .add (.int 6) (.var 5)))) (.lst (.cons (.bin .add (.idx (.var 4) (.bin .add (.int 3) (.var 5))) (.bin .mul (.var 3) (.idx (.var 4) (.var 5)))) .nil))) (.slc (.var 4) (.some (.bin .add (.bin .add (.int 6) (.var 5)) (.int 1))) .none))]] [.ite (.cmp .Eq (.var 2) (.int 6)) [.forS 5 (.range1 (.int 2)) [.assign false 4 (.bin .add (.bin .add (.slc (.var 4) .none (.some (.bin .add (.int 3) (.var 5)))) (.lst (.cons (.bin .mul (.var 3) (.idx (.var 4) (.var 5))) .nil))) (.slc (.var 4) (.some (.bin .add (.bin .add (.int 3) (.var 5)) (.int 1))) .none))]] [.ite (.cmp .Eq (.var 2) (.int 7)) [.assign false 6 (.bin .mod (.call "_law_cell" (.cons (.var 0) (.cons (.int 2) .nil))) (.int 6)), .assign false 7 (.bin .sub (.bin .mul (.int 2) (.bin .mod (.var 6) (.int 2))) (.int 1)), .assign false 4 (.bin .mul (.lst (.cons (.int 0) .nil)) (.int 9)), .forS 8 (.range1 (.var 1)) [.assign false 4 (.bin .add (.bin .add (.slc (.var 4) .none (.some (.bin .add (.bin .mul (.int 3) (.var 8)) (.bin .mod (.bin .add (.var 6) (.bin .mul (.var 8) (.var 7))) (.var 1))))) (.lst (.cons (.int 1) .nil))) (.slc (.var 4) (.some (.bin .add (.bin .add (.bin .mul (.int 3) (.var 8)) (.bin .mod (.bin .add (.var 6) (.bin .mul (.var 8) (.var 7))) (.var 1))) (.int 1))) .none))]] [.ite (.cmp .Eq (.var 2) (.int 8)) [.assign false 4 (.comp (.lst (.var 4)) (.bin .sub (.bin .mod (.var 9) (.int 3)) (.int 1)))] []]]]]]]],
  .ret (.comp (.range1 (.var 1)) (.slc (.var 4) (.some (.bin .mul (.int 3) (.var 9))) (.some (.bin .add (.bin .mul (.int 3) (.var 9)) (.var 1)))))]
-- names: [n, d, x, y]
noncomputable def mb__law_pair : List MS := [
  .unpack2 2 3 (.tup (.cons (.abs (.var 0)) (.cons (.abs (.var 1)) .nil))),
  .whileT [.ite (.cmp .Eq (.var 3) (.int 0)) [.brk] [], .unpack2 2 3 (.tup (.cons (.var 3) (.cons (.bin .mod (.var 2) (.var 3)) .nil)))],
  .ite (.cmp .Lt (.var 1) (.int 0)) [.ret (.tup (.cons (.bin .fdiv (.neg (.var 0)) (.var 2)) (.cons (.bin .fdiv (.neg (.var 1)) (.var 2)) .nil)))] [],
  .ret (.tup (.cons (.bin .fdiv (.var 0) (.var 2)) (.cons (.bin .fdiv (.var 1) (.var 2)) .nil)))]
-- names: [a, i, j, t, c]
noncomputable def mb__law_cofactor : List MS := [
  .assign false 3 (.comp (.lst (.bin .add (.slc (.var 0) .none (.some (.var 1))) (.slc (.var 0) (.some (.bin .add (.var 1) (.int 1))) .none))) (.bin .add (.slc (.var 5) .none (.some (.var 2))) (.slc (.var 5) (.some (.bin .add (.var 2) (.int 1))) .none))),
  .assign false 4 (.int 1),
  .ite (.cmp .Eq (.len (.var 3)) (.int 1)) [.assign false 4 (.idx (.idx (.var 3) (.int 0)) (.int 0))] [.ite (.cmp .Eq (.len (.var 3)) (.int 2)) [.assign false 4 (.bin .sub (.bin .mul (.idx (.idx (.var 3) (.int 0)) (.int 0)) (.idx (.idx (.var 3) (.int 1)) (.int 1))) (.bin .mul (.idx (.idx (.var 3) (.int 0)) (.int 1)) (.idx (.idx (.var 3) (.int 1)) (.int 0))))] []],
  .ite (.cmp .Eq (.bin .mod (.bin .add (.var 1) (.var 2)) (.int 2)) (.int 1)) [.ret (.neg (.var 4))] [],
  .retVar 4]
-- names: [a]
noncomputable def mb__law_det : List MS := [
  .ite (.cmp .Eq (.len (.var 0)) (.int 0)) [.ret (.int 1)] [],
  .ret (.sum (.comp (.range1 (.len (.var 0))) (.bin .mul (.idx (.idx (.var 0) (.int 0)) (.var 1)) (.call "_law_cofactor" (.cons (.var 0) (.cons (.int 0) (.cons (.var 1) .nil)))))))]
-- names: [got, want, row, x]
noncomputable def mb__law_exact : List MS := [
  .ite (.cmp .NotEq (.var 0) (.var 1)) [.ret (.bool false)] [],
  .forS 2 (.lst (.var 0)) [.forS 3 (.lst (.var 2)) [.ite (.not (.isInt (.idx (.var 3) (.int 0)))) [.ret (.bool false)] [], .ite (.not (.isInt (.idx (.var 3) (.int 1)))) [.ret (.bool false)] []]],
  .ret (.bool true)]
-- names: [a, whole, det, n, perm, low, up, sign, over, under, i, j, num, den, k, p, q, both]
noncomputable def mb__law_lu_holds : List MS := [
  .assign false 3 (.len (.var 0)),
  .unpack3 4 5 6 (.call "lu_of" (.cons (.var 1) .nil)),
  .ite (.cmp .NotEq (.sorted (.var 4)) (.lrange (.var 3))) [.ret (.bool false)] [],
  .ite (.or (.cmp .NotEq (.comp (.lst (.var 5)) (.len (.var 18))) (.bin .mul (.lst (.cons (.var 3) .nil)) (.var 3))) (.cmp .NotEq (.comp (.lst (.var 6)) (.len (.var 18))) (.bin .mul (.lst (.cons (.var 3) .nil)) (.var 3)))) [.ret (.bool false)] [],
  .unpack3 7 8 9 (.tup (.cons (.int 1) (.cons (.int 1) (.cons (.int 1) .nil)))),
  .forS 10 (.range1 (.var 3)) [.unpack2 8 9 (.tup (.cons (.bin .mul (.var 8) (.idx (.idx (.idx (.var 6) (.var 10)) (.var 10)) (.int 0))) (.cons (.bin .mul (.var 9) (.idx (.idx (.idx (.var 6) (.var 10)) (.var 10)) (.int 1))) .nil))), .ite (.cmp .NotEq (.idx (.idx (.var 5) (.var 10)) (.var 10)) (.tup (.cons (.int 1) (.cons (.int 1) .nil)))) [.ret (.bool false)] [], .forS 11 (.range1 (.var 10)) [.ite (.or (.cmp .NotEq (.idx (.idx (.var 5) (.var 11)) (.var 10)) (.tup (.cons (.int 0) (.cons (.int 1) .nil)))) (.cmp .NotEq (.idx (.idx (.var 6) (.var 10)) (.var 11)) (.tup (.cons (.int 0) (.cons (.int 1) .nil))))) [.ret (.bool false)] [], .ite (.cmp .Gt (.idx (.var 4) (.var 11)) (.idx (.var 4) (.var 10))) [.assign false 7 (.neg (.var 7))] []], .forS 11 (.range1 (.var 3)) [.unpack2 12 13 (.tup (.cons (.int 0) (.cons (.int 1) .nil))), .forS 14 (.range1 (.var 3)) [.assign false 15 (.bin .mul (.idx (.idx (.idx (.var 5) (.var 10)) (.var 14)) (.int 0)) (.idx (.idx (.idx (.var 6) (.var 14)) (.var 11)) (.int 0))), .assign false 16 (.bin .mul (.idx (.idx (.idx (.var 5) (.var 10)) (.var 14)) (.int 1)) (.idx (.idx (.idx (.var 6) (.var 14)) (.var 11)) (.int 1))), .unpack2 12 13 (.tup (.cons (.bin .add (.bin .mul (.var 12) (.var 16)) (.bin .mul (.var 15) (.var 13))) (.cons (.bin .mul (.var 13) (.var 16)) .nil)))], .ite (.or (.cmp .Lt (.var 13) (.int 1)) (.cmp .NotEq (.var 12) (.bin .mul (.idx (.idx (.var 0) (.idx (.var 4) (.var 10))) (.var 11)) (.var 13)))) [.ret (.bool false)] []]],
  .ite (.cmp .NotEq (.bin .mul (.var 7) (.var 8)) (.bin .mul (.var 2) (.var 9))) [.ret (.bool false)] [],
  .assign false 17 (.bin .add (.var 5) (.var 6)),
  .ret (.call "_law_exact" (.cons (.var 17) (.cons (.comp (.lst (.var 17)) (.comp (.lst (.var 18)) (.call "_law_pair" (.cons (.idx (.var 19) (.int 0)) (.cons (.idx (.var 19) (.int 1)) .nil))))) .nil)))]
-- _law_inverse [m, got]: none
-- _law_cramer [a, b, got]: none
-- _law_frac_refuses [n]: none
-- names: [script, n, a, b, d, a_before, b_before, whole_before, parts_before, det, whole, parts, inv, sol, adj]
noncomputable def mb_law : List MS := [
  .assign false 1 (.bin .mod (.call "_law_cell" (.cons (.var 0) (.cons (.int 0) .nil))) (.int 4)),
  .assign false 2 (.call "_law_entries" (.cons (.var 0) (.cons (.var 1) .nil))),
  .assign false 3 (.comp (.range1 (.var 1)) (.bin .sub (.bin .mod (.call "_law_cell" (.cons (.var 0) (.cons (.bin .add (.int 11) (.var 15)) .nil))) (.int 19)) (.int 9))),
  .assign false 4 (.comp (.range1 (.var 1)) (.bin .add (.int 1) (.bin .mod (.call "_law_cell" (.cons (.var 0) (.cons (.bin .add (.int 14) (.var 15)) .nil))) (.int 6)))),
  .unpack2 5 6 (.tup (.cons (.comp (.lst (.var 2)) (.slc (.var 15) .none .none)) (.cons (.slc (.var 3) .none .none) .nil))),
  .assign false 7 (.comp (.lst (.var 2)) (.comp (.lst (.var 15)) (.tup (.cons (.var 16) (.cons (.int 1) .nil))))),
  .assign false 8 (.comp (.range1 (.var 1)) (.comp (.range1 (.var 1)) (.call "_law_pair" (.cons (.idx (.idx (.var 2) (.var 15)) (.var 16)) (.cons (.idx (.var 4) (.var 15)) .nil))))),
  .assign false 9 (.call "_law_det" (.cons (.var 2) .nil)),
  .assign false 10 (.call "from_ints" (.cons (.var 2) .nil)),
  .assign false 11 (.comp (.range1 (.var 1)) (.comp (.range1 (.var 1)) (.call "frac" (.cons (.idx (.idx (.var 2) (.var 15)) (.var 16)) (.cons (.idx (.var 4) (.var 15)) .nil))))),
  .ite (.or (.not (.val (.call "_law_exact" (.cons (.var 10) (.cons (.var 7) .nil))))) (.not (.val (.call "_law_exact" (.cons (.var 11) (.cons (.var 8) .nil)))))) [.ret (.bool false)] [],
  .ite (.not (.val (.call "_law_frac_refuses" (.cons (.var 1) .nil)))) [.ret (.bool false)] [],
  .ite (.not (.val (.call "_law_exact" (.cons (.lst (.cons (.lst (.cons (.tup (.cons (.call "det_by_leibniz" (.cons (.var 2) .nil)) (.cons (.call "det_bareiss" (.cons (.var 2) .nil)) .nil))) (.cons (.call "det_by_elimination" (.cons (.var 10) .nil)) .nil))) .nil)) (.cons (.lst (.cons (.lst (.cons (.tup (.cons (.var 9) (.cons (.var 9) .nil))) (.cons (.tup (.cons (.var 9) (.cons (.int 1) .nil))) .nil))) .nil)) .nil))))) [.ret (.bool false)] [],
  .ite (.not (.val (.call "_law_lu_holds" (.cons (.var 2) (.cons (.var 10) (.cons (.var 9) .nil)))))) [.ret (.bool false)] [],
  .assign false 12 (.call "_law_inverse" (.cons (.var 11) .nil)),
  .assign false 13 (.call "_law_cramer" (.cons (.var 2) (.cons (.var 3) .nil))),
  .ite (.cmp .Eq (.var 9) (.int 0)) [.ite (.or (.cmp .NotEq (.var 12) (.str "singular")) (.cmp .NotEq (.var 13) (.str "singular"))) [.ret (.bool false)] []] [.assign false 14 (.comp (.range1 (.var 1)) (.comp (.range1 (.var 1)) (.call "_law_cofactor" (.cons (.var 2) (.cons (.var 16) (.cons (.var 15) .nil)))))), .ite (.not (.val (.call "_law_exact" (.cons (.var 12) (.cons (.comp (.range1 (.var 1)) (.comp (.range1 (.var 1)) (.call "_law_pair" (.cons (.bin .mul (.idx (.idx (.var 14) (.var 15)) (.var 16)) (.idx (.var 4) (.var 16))) (.cons (.var 9) .nil))))) .nil))))) [.ret (.bool false)] [], .ite (.not (.val (.call "_law_exact" (.cons (.lst (.cons (.var 13) .nil)) (.cons (.lst (.cons (.comp (.range1 (.var 1)) (.call "_law_pair" (.cons (.sum (.comp (.range1 (.var 1)) (.bin .mul (.idx (.idx (.var 14) (.var 15)) (.var 16)) (.idx (.var 3) (.var 16))))) (.cons (.var 9) .nil)))) .nil)) .nil))))) [.ret (.bool false)] []],
  .ite (.or (.cmp .NotEq (.var 2) (.var 5)) (.cmp .NotEq (.var 3) (.var 6))) [.ret (.bool false)] [],
  .ite (.or (.cmp .NotEq (.var 10) (.var 7)) (.cmp .NotEq (.var 11) (.var 8))) [.ret (.bool false)] [],
  .ret (.bool true)]
/-- does the body come to its raise? -/
noncomputable def exX (Φ : Tab) (N : Nat) : List MS → Rho → Bool
  | [], _ => false
  | .ite t [.fail] [] :: r, ρ => match evT Φ t ρ with
    | some true => true
    | some false => exX Φ N r ρ
    | none => false
  | s :: r, ρ => match exS Φ N s ρ with
    | some (.next ρ') => exX Φ N r ρ'
    | _ => false

structure Fn where
  name : Str
  params : List Str
  locals : List Str
  body : List MS

noncomputable def fns : List Fn := [
  ⟨"copy_rows", ["m"], [], mb_copy_rows⟩,
  ⟨"pivot_row", ["m", "c", "start", "zero"], ["i"], mb_pivot_row⟩,
  ⟨"gcd_of", ["a", "b"], ["_"], mb_gcd_of⟩,
  ⟨"frac", ["n", "d"], ["g"], mb_frac⟩,
  ⟨"f_add", ["x", "y"], [], mb_f_add⟩,
  ⟨"f_neg", ["x"], [], mb_f_neg⟩,
  ⟨"f_mul", ["x", "y"], [], mb_f_mul⟩,
  ⟨"f_div", ["x", "y"], [], mb_f_div⟩,
  ⟨"from_ints", ["rows"], [], mb_from_ints⟩,
  ⟨"identity", ["n"], [], mb_identity⟩,
  ⟨"rows_swapped", ["m", "i", "j"], ["out"], mb_rows_swapped⟩,
  ⟨"row_scaled", ["m", "i", "k"], ["out"], mb_row_scaled⟩,
  ⟨"row_added", ["m", "i", "j", "k"], ["out"], mb_row_added⟩,
  ⟨"reduced", ["m", "cols"], ["red", "pivots", "top", "c", "found", "i"], mb_reduced⟩,
  ⟨"det_by_elimination", ["m"], ["n", "a", "sign", "c", "found", "i", "result"], mb_det_by_elimination⟩,
  ⟨"det_bareiss", ["rows"], ["n", "a", "sign", "prev", "k", "found", "i", "j"], mb_det_bareiss⟩,
  ⟨"permutations_of", ["n"], ["perms", "k", "grown", "p", "g"], mb_permutations_of⟩,
  ⟨"sign_of", ["p"], ["count", "i", "j"], mb_sign_of⟩,
  ⟨"det_by_leibniz", ["rows"], ["total", "p", "term", "i"], mb_det_by_leibniz⟩,
  ⟨"inverse_of", ["m"], ["n", "ident", "red", "pivots"], mb_inverse_of⟩,
  ⟨"lu_of", ["m"], ["n", "up", "low", "perm", "c", "found", "i", "k"], mb_lu_of⟩,
  ⟨"cramer", ["rows", "b"], ["n", "d", "x", "j", "swapped"], mb_cramer⟩,
  ⟨"_law_cell", ["script", "i"], [], mb__law_cell⟩,
  ⟨"_law_entries", ["script", "n"], ["kind", "k", "e", "j", "t", "turn", "i"], mb__law_entries⟩,
  ⟨"_law_pair", ["n", "d"], ["x", "y"], mb__law_pair⟩,
  ⟨"_law_cofactor", ["a", "i", "j"], ["t", "c"], mb__law_cofactor⟩,
  ⟨"_law_det", ["a"], [], mb__law_det⟩,
  ⟨"_law_exact", ["got", "want"], ["row", "x"], mb__law_exact⟩,
  ⟨"_law_lu_holds", ["a", "whole", "det"], ["n", "perm", "low", "up", "sign", "over", "under", "i", "j", "num", "den", "k", "p", "q", "both"], mb__law_lu_holds⟩,
  ⟨"law", ["script"], ["n", "a", "b", "d", "a_before", "b_before", "whole_before", "parts_before", "det", "whole", "parts", "inv", "sol", "adj"], mb_law⟩]

noncomputable def NN : Nat := 4096

noncomputable def runF (Φ : Tab) (f : Fn) (ds : List D) : Option (D × Bool) :=
  if ds.length = f.params.length then match exSs Φ NN f.body (slots ds f.locals.length) with
    | some (.ret d fr) => some (d, fr)
    | _ => none
  else none
noncomputable def raisesF (Φ : Tab) (f : Fn) (ds : List D) : Bool := decide (ds.length = f.params.length) && exX Φ NN f.body (slots ds f.locals.length)

noncomputable def fnOf (name : Str) : Option Fn := fns.find? fun f => f.name == name
noncomputable def runN (Φ : Tab) (name : Str) (ds : List D) : Option (D × Bool) := match fnOf name with
  | some f => runF Φ f ds
  | none => none
noncomputable def raisesN (Φ : Tab) (name : Str) (ds : List D) : Bool := match fnOf name with
  | some f => raisesF Φ f ds
  | none => false

/-- the three that catch -/
noncomputable def tries (Φ : Tab) (callee : Str) (ds : List D) (other : D) (back : D → D) : Option (D × Bool) :=
  if raisesN Φ callee ds then some (other, false) else match runN Φ callee ds with
    | some (d, _) => some (back d, false)
    | none => none

noncomputable def PH : Nat → Tab
  | 0 => fun _ _ => none
  | k + 1 => fun f ds =>
    if f = "_law_inverse" then (match k with | 0 => none | k + 1 => tries (PH k) "inverse_of" ds (.str "singular") id)
    else if f = "_law_cramer" then (match k with | 0 => none | k + 1 => tries (PH k) "cramer" ds (.str "singular") id)
    else if f = "_law_frac_refuses" then (match k with | 0 => none | k + 1 => match ds with
      | [.int n] => if raisesN (PH k) "frac" [.int n, .int 0] then some (.bool true, false) else none
      | _ => none)
    else runN (PH k) f ds


/-! ## what a run of the little language ends in -/
noncomputable def W (x : Option Out) (Q : Out → Prop) : Prop := ∃ o, x = some o ∧ Q o
noncomputable def Nx (Q : Out → Prop) (k : Rho → Prop) : Out → Prop
  | .next ρ => k ρ
  | .brk ρ => Q (.brk ρ)
  | .cont ρ => Q (.cont ρ)
  | .ret d m => Q (.ret d m)

section
variable {Φ : Tab} {N : Nat} {Q : Out → Prop} {k : Rho → Prop} {ρ : Rho}

theorem W.of {o : Out} (h : Q o) : W (.some o) Q := ⟨o, rfl, h⟩
theorem W.mono {x : Option Out} {Q' : Out → Prop} (h : W x Q) (hq : ∀ o, Q o → Q' o) : W x Q' := let ⟨o, e, h⟩ := h; ⟨o, e, hq o h⟩
theorem W.cons {s : MS} {r : List MS} (h : W (exS Φ N s ρ) (Nx Q fun ρ' => W (exSs Φ N r ρ') Q)) : W (exSs Φ N (s :: r) ρ) Q := by
  obtain ⟨o, e, h⟩ := h
  rw [exSs, e]
  cases o with
  | next ρ' => exact h
  | brk ρ' => exact ⟨_, rfl, h⟩
  | cont ρ' => exact ⟨_, rfl, h⟩
  | ret d m => exact ⟨_, rfl, h⟩
theorem W.nil (h : Q (.next ρ)) : W (exSs Φ N [] ρ) Q := ⟨_, by rw [exSs], h⟩
theorem W.assign {o : Bool} {x : Nat} {e : ME} {d : D} (he : evE Φ e (demote x ρ) = .some (d, .fresh)) (h : k ((demote x ρ).set x (.some ⟨o && isList d, d⟩))) : W (exS Φ N (.assign o x e) ρ) (Nx Q k) :=
  ⟨.next _, by rw [exS, he]; rfl, h⟩
theorem W.assignS {o : Bool} {x : Nat} {e : ME} {d : D} (he : evE Φ e (demote x ρ) = .some (d, .shared)) (h : k ((demote x ρ).set x (.some ⟨false, d⟩))) : W (exS Φ N (.assign o x e) ρ) (Nx Q k) :=
  ⟨.next _, by rw [exS, he]; rfl, h⟩
/-- an assignment whose list nobody writes: whichever mode -/
theorem W.assignA {x : Nat} {e : ME} {d : D} {m : Mode} (he : evE Φ e (demote x ρ) = .some (d, m)) (hm : m ≠ .borrow) (h : k ((demote x ρ).set x (.some ⟨false, d⟩))) : W (exS Φ N (.assign false x e) ρ) (Nx Q k) := by
  cases m with
  | borrow => exact absurd rfl hm
  | shared => exact W.assignS he h
  | fresh => exact W.assign he h
theorem W.ite {t : MT} {a b : List MS} {v : Bool} (ht : evT Φ t ρ = .some v) (h1 : v = true → W (exSs Φ N a ρ) Q) (h2 : v = false → W (exSs Φ N b ρ) Q) : W (exS Φ N (.ite t a b) ρ) Q := by
  cases v with
  | true => obtain ⟨o, e, h⟩ := h1 rfl; exact ⟨o, by rw [exS, ht]; exact e, h⟩
  | false => obtain ⟨o, e, h⟩ := h2 rfl; exact ⟨o, by rw [exS, ht]; exact e, h⟩
theorem W.skip {t : MT} {a : List MS} (ht : evT Φ t ρ = .some false) (h : k ρ) : W (exS Φ N (.ite t a []) ρ) (Nx Q k) := W.ite ht (fun e => by cases e) fun _ => W.nil h
theorem W.iteT {t : MT} {a b : List MS} (ht : evT Φ t ρ = .some true) (h1 : W (exSs Φ N a ρ) Q) : W (exS Φ N (.ite t a b) ρ) Q := W.ite ht (fun _ => h1) fun e => by cases e
theorem W.iteF {t : MT} {a b : List MS} (ht : evT Φ t ρ = .some false) (h1 : W (exSs Φ N b ρ) Q) : W (exS Φ N (.ite t a b) ρ) Q := W.ite ht (fun e => by cases e) fun _ => h1
theorem W.forS {x : Nat} {it : MI} {b : List MS} {ds : List D} (hi : evI Φ it ρ = .some ds) (h : W (loopM (fun d ρ => exSs Φ N b (ρ.set x (.some ⟨false, d⟩))) ds (demote x ρ)) Q) : W (exS Φ N (.forS x it b) ρ) Q := by
  obtain ⟨o, e, h⟩ := h
  exact ⟨o, by rw [exS, hi]; exact e, h⟩
theorem W.ret {e : ME} {d : D} {m : Mode} (he : evE Φ e (demoteAll ρ) = .some (d, m)) (hm : m ≠ .borrow) (h : Q (.ret d (m == .fresh))) : W (exS Φ N (.ret e) ρ) Q :=
  ⟨_, by rw [exS, he]; simp [hm], h⟩
theorem W.retVar {x : Nat} {s : Slot} (he : ρ[x]? = .some (.some s)) (h : Q (.ret s.d s.own)) : W (exS Φ N (.retVar x) ρ) Q :=
  ⟨_, by rw [exS, he], h⟩
theorem W.unpack2 {x y : Nat} {e : ME} {a b : D} (he : evE Φ e ρ = .some (.tuple [a, b], .fresh)) (hxy : x ≠ y) (h : k ((ρ.set x (.some ⟨false, a⟩)).set y (.some ⟨false, b⟩))) : W (exS Φ N (.unpack2 x y e) ρ) (Nx Q k) :=
  ⟨.next _, by rw [exS, he]; simp [hxy], h⟩

/-- a loop over numbers -/
theorem W.loop {f : D → Rho → Option Out} (I : Nat → Rho → Prop) {b : Nat} : ∀ (m a : Nat) (ρ : Rho), a + m = b → I a ρ →
    (∀ i ρ, a ≤ i → i < b → I i ρ → W (f (.int i) ρ) (fun o => match o with | .next ρ' => I (i + 1) ρ' | .cont ρ' => I (i + 1) ρ' | .brk ρ' => Q (.next ρ') | .ret d m => Q (.ret d m))) →
    (∀ ρ, I b ρ → Q (.next ρ)) → W (loopM f ((List.range m).map fun (i : Nat) => .int ((a : Int) + i)) ρ) Q := by
  intro m
  induction m with
  | zero =>
    intro a ρ e h hs hq
    have : a = b := by assumption
    subst this
    exact ⟨_, by simp [loopM], hq _ h⟩
  | succ m ih =>
    intro a ρ e h hs hq
    rw [List.range_succ_eq_map]
    simp only [List.map_cons, List.map_map, loopM]
    have e0 : ((a : Int) + ((0 : Nat) : Int)) = (a : Int) := by omega
    rw [e0]
    obtain ⟨o, eo, ho⟩ := hs a ρ (Nat.le_refl _) (by omega) h
    rw [eo]
    have el : ((fun (i : Nat) => (PyData.int ((a : Int) + i))) ∘ Nat.succ) = fun (i : Nat) => (PyData.int (((a + 1 : Nat) : Int) + i)) := by
      funext i; simp only [Function.comp, Nat.succ_eq_add_one]; congr 1; omega
    rw [el]
    cases o with
    | next ρ' => exact ih (a + 1) ρ' (by omega) ho (fun i ρ h1 h2 => hs i ρ (by exact Nat.le_of_lt (by assumption)) h2) hq
    | cont ρ' => exact ih (a + 1) ρ' (by omega) ho (fun i ρ h1 h2 => hs i ρ (by exact Nat.le_of_lt (by assumption)) h2) hq
    | brk ρ' => exact ⟨_, rfl, ho⟩
    | ret d m => exact ⟨_, rfl, ho⟩

theorem W.loopU {f : D → Rho → Option Out} (I : Nat → Rho → Prop) {a b : Nat} {x : Int} (hx : x = b) {y : Int} (hy : y = a) (hab : a ≤ b) {ρ : Rho} (h : I a ρ)
    (hs : ∀ i ρ, a ≤ i → i < b → I i ρ → W (f (.int i) ρ) (fun o => match o with | .next ρ' => I (i + 1) ρ' | .cont ρ' => I (i + 1) ρ' | .brk ρ' => Q (.next ρ') | .ret d m => Q (.ret d m)))
    (hq : ∀ ρ, I b ρ → Q (.next ρ)) : W (loopM f (upto y x) ρ) Q := by
  subst hx hy
  unfold upto
  have e : ((b : Int) - (a : Int)).toNat = b - a := Int.toNat_sub b a
  rw [e]
  exact W.loop I (b - a) a ρ (by omega) h hs hq

/-- one turn of a loop -/
noncomputable def Stp (J : Nat → Rho → Prop) (P : Out → Prop) (i : Nat) : Out → Prop
  | .next ρ' => J (i + 1) ρ'
  | .cont ρ' => J (i + 1) ρ'
  | .brk ρ' => P (.next ρ')
  | .ret d m => P (.ret d m)
theorem W.loopJ {f : D → Rho → Option Out} (I : Nat → Rho → Prop) {a b : Nat} {x : Int} (hx : x = b) {y : Int} (hy : y = a) (hab : a ≤ b) {ρ : Rho} (h : I a ρ)
    (hs : ∀ (J : Nat → Rho → Prop), (∀ i ρ, I i ρ → J i ρ) → ∀ P : Out → Prop, (∀ d m, Q (.ret d m) → P (.ret d m)) → ∀ i ρ, a ≤ i → i < b → I i ρ → W (f (.int i) ρ) (Stp J P i))
    (hq : ∀ ρ, I b ρ → Q (.next ρ)) : W (loopM f (upto y x) ρ) Q :=
  W.loopU I hx hy hab h (fun i ρ h1 h2 h3 => (hs I (fun _ _ h => h) Q (fun _ _ h => h) i ρ h1 h2 h3).mono fun o ho => by cases o <;> exact ho) hq

/-- a loop over a list -/
theorem W.loopL {f : D → Rho → Option Out} (I : Nat → Rho → Prop) {ds : List D} : ∀ (m a : Nat) (ρ : Rho), a + m = ds.length → I a ρ →
    (∀ i ρ d, ds[i]? = .some d → I i ρ → W (f d ρ) (fun o => match o with | .next ρ' => I (i + 1) ρ' | .cont ρ' => I (i + 1) ρ' | .brk ρ' => Q (.next ρ') | .ret d m => Q (.ret d m))) →
    (∀ ρ, I ds.length ρ → Q (.next ρ)) → W (loopM f (ds.drop a) ρ) Q := by
  intro m
  induction m with
  | zero =>
    intro a ρ e h hs hq
    have : a = ds.length := by assumption
    subst this
    rw [List.drop_length]
    exact ⟨_, by simp [loopM], hq _ h⟩
  | succ m ih =>
    intro a ρ e h hs hq
    have hl : a < ds.length := by omega
    rw [List.drop_eq_getElem_cons hl]
    simp only [loopM]
    obtain ⟨o, eo, ho⟩ := hs a ρ ds[a] (by simp [hl]) h
    rw [eo]
    cases o with
    | next ρ' => exact ih (a + 1) ρ' (by omega) ho hs hq
    | cont ρ' => exact ih (a + 1) ρ' (by omega) ho hs hq
    | brk ρ' => exact ⟨_, rfl, ho⟩
    | ret d m => exact ⟨_, rfl, ho⟩
end

/-! ## the small steps -/
/-! ## the value of a form, part by part -/
section
variable {Φ : Tab} {ρ : Rho}
theorem vF {s : Slot} (h : varMode s = .fresh) : varMode s = .fresh := h
theorem vS {s : Slot} (h : varMode s = .shared) : varMode s = .shared := h
theorem vB {s : Slot} (h : varMode s = .borrow) : varMode s = .borrow := h
theorem eInt {i : Int} : evE Φ (.int i) ρ = some (.int i, .fresh) := by rw [evE]
theorem eStrg {i : Str} : evE Φ (.str i) ρ = some (.str i, .fresh) := by rw [evE]
theorem eBool {i : Bool} : evE Φ (.bool i) ρ = some (.bool i, .fresh) := by rw [evE]
theorem eV {i : Nat} {o : Bool} {d : D} {m : Mode} (h : ρ[i]? = some (some ⟨o, d⟩)) (hm : varMode ⟨o, d⟩ = m) : evE Φ (.var i) ρ = some (d, m) := by rw [evE, h, ← hm]
theorem eBin {op : BOp} {l r : ME} {a b c : D × Mode} (h1 : evE Φ l ρ = some a) (h2 : evE Φ r ρ = some b) (h : binD op a b = some c) : evE Φ (.bin op l r) ρ = some c := by rw [evE, h1, h2]; exact h
theorem eIdx {l r : ME} {a b c : D × Mode} (h1 : evE Φ l ρ = some a) (h2 : evE Φ r ρ = some b) (h : idxD a b = some c) : evE Φ (.idx l r) ρ = some c := by rw [evE, h1, h2]; exact h
theorem eNeg {e : ME} {a c : D × Mode} (h1 : evE Φ e ρ = some a) (h : negD a = some c) : evE Φ (.neg e) ρ = some c := by rw [evE, h1]; exact h
theorem eSlc {e : ME} {lo hi : MO} {a c : D × Mode} {x y : Option Int} (h1 : evE Φ e ρ = some a) (h2 : evO Φ lo ρ = some x) (h3 : evO Φ hi ρ = some y) (h : slcD a x y = some c) : evE Φ (.slc e lo hi) ρ = some c := by rw [evE, h1, h2, h3]; exact h
theorem eTup {es : MEs} {rs : List (D × Mode)} {c : D × Mode} (h1 : evEs Φ es ρ = some rs) (h : tupD rs = some c) : evE Φ (.tup es) ρ = some c := by rw [evE, h1]; exact h
theorem eLst {es : MEs} {rs : List (D × Mode)} {c : D × Mode} (h1 : evEs Φ es ρ = some rs) (h : lstD rs = some c) : evE Φ (.lst es) ρ = some c := by rw [evE, h1]; exact h
theorem eCall {f : Str} {es : MEs} {rs : List (D × Mode)} {c : D × Mode} (h1 : evEs Φ es ρ = some rs) (h : callD Φ f rs = some c) : evE Φ (.call f es) ρ = some c := by rw [evE, h1]; exact h
theorem eLen {e : ME} {a c : D × Mode} (h1 : evE Φ e ρ = some a) (h : lenD a = some c) : evE Φ (.len e) ρ = some c := by rw [evE, h1]; exact h
theorem eAbs {e : ME} {a c : D × Mode} (h1 : evE Φ e ρ = some a) (h : absD a = some c) : evE Φ (.abs e) ρ = some c := by rw [evE, h1]; exact h
theorem eText {e : ME} {a c : D × Mode} (h1 : evE Φ e ρ = some a) (h : textD a = some c) : evE Φ (.text e) ρ = some c := by rw [evE, h1]; exact h
theorem eSum {e : ME} {a c : D × Mode} (h1 : evE Φ e ρ = some a) (h : sumD a = some c) : evE Φ (.sum e) ρ = some c := by rw [evE, h1]; exact h
theorem eSort {e : ME} {a c : D × Mode} (h1 : evE Φ e ρ = some a) (h : sortedD a = some c) : evE Φ (.sorted e) ρ = some c := by rw [evE, h1]; exact h
theorem eLr {e : ME} {a c : D × Mode} (h1 : evE Φ e ρ = some a) (h : lrangeD a = some c) : evE Φ (.lrange e) ρ = some c := by rw [evE, h1]; exact h
theorem eNil : evEs Φ .nil ρ = some [] := by rw [evEs]
theorem eCons {e : ME} {es : MEs} {a : D × Mode} {rs : List (D × Mode)} (h1 : evE Φ e ρ = some a) (h2 : evEs Φ es ρ = some rs) : evEs Φ (.cons e es) ρ = some (a :: rs) := by rw [evEs, h1, h2]
theorem eOn : evO Φ .none ρ = some none := by rw [evO]
theorem eOs {e : ME} {a : D × Mode} {i : Int} (h1 : evE Φ e ρ = some a) (h : boundD (some a) = some i) : evO Φ (.some e) ρ = some (some i) := by rw [evO, h1, h]
theorem eR1 {e : ME} {n : Int} {m : Mode} {ds : List D} (h1 : evE Φ e ρ = some (.int n, m)) (h : rangeD 0 n = some ds) : evI Φ (.range1 e) ρ = some ds := by rw [evI, h1]; exact h
theorem eR2 {e e' : ME} {n n' : Int} {m m' : Mode} {ds : List D} (h1 : evE Φ e ρ = some (.int n, m)) (h2 : evE Φ e' ρ = some (.int n', m')) (h : rangeD n n' = some ds) : evI Φ (.range2 e e') ρ = some ds := by rw [evI, h1, h2]; exact h
theorem eIl {e : ME} {a : D × Mode} {ds : List D} (h1 : evE Φ e ρ = some a) (h : listD a = some ds) : evI Φ (.lst e) ρ = some ds := by rw [evI, h1]; exact h
theorem eCmp {op : CmpOp} {l r : ME} {d d' : D} {m m' : Mode} {v : Bool} (h1 : evE Φ l ρ = some (d, m)) (h2 : evE Φ r ρ = some (d', m')) (h : cmpD op d d' = some v) : evT Φ (.cmp op l r) ρ = some v := by rw [evT, h1, h2]; exact h
theorem eOrF {a b : MT} {v : Bool} (h1 : evT Φ a ρ = some false) (h2 : evT Φ b ρ = some v) : evT Φ (.or a b) ρ = some v := by rw [evT, h1]; exact h2
theorem eAndT {a b : MT} {v : Bool} (h1 : evT Φ a ρ = some true) (h2 : evT Φ b ρ = some v) : evT Φ (.and a b) ρ = some v := by rw [evT, h1]; exact h2
theorem eNotT {a : MT} (h1 : evT Φ a ρ = some true) : evT Φ (.not a) ρ = some false := by rw [evT, h1]; rfl
theorem eNotF {a : MT} (h1 : evT Φ a ρ = some false) : evT Φ (.not a) ρ = some true := by rw [evT, h1]; rfl
theorem eNot {a : MT} {v : Bool} (h1 : evT Φ a ρ = some v) : evT Φ (.not a) ρ = some (!v) := by rw [evT, h1]
theorem eVal {e : ME} {v : Bool} {m : Mode} (h1 : evE Φ e ρ = some (.bool v, m)) : evT Φ (.val e) ρ = some v := by rw [evT, h1]
theorem eIfT {t : MT} {a b : ME} {c : D × Mode} (h1 : evT Φ t ρ = some true) (h : evE Φ a ρ = some c) : evE Φ (.ife t a b) ρ = some c := by rw [evE, h1]; exact h
theorem eIfF {t : MT} {a b : ME} {c : D × Mode} (h1 : evT Φ t ρ = some false) (h : evE Φ b ρ = some c) : evE Φ (.ife t a b) ρ = some c := by rw [evE, h1]; exact h
end

theorem mod_ok {a : Int} {b : Int} (m m' : Mode) (hb : b ≠ 0) : binD .mod (.int a, m) (.int b, m') = some (.int (a.fmod b), .fresh) := if_neg hb
theorem mod_nat (a : Nat) {b : Nat} (m m' : Mode) (hb : b ≠ 0) : binD .mod (.int (a : Int), m) (.int (b : Int), m') = some (.int ((a % b : Nat) : Int), .fresh) := by
  have h1 : (b : Int) ≠ 0 := fun h => hb (Int.ofNat.inj h)
  rw [mod_ok m m' h1, Int.fmod_eq_emod_of_nonneg _ (Int.natCast_nonneg b)]; rfl
theorem le_lim {n : Nat} (h : n ≤ 64) : n ≤ lim := Nat.le_trans h (by decide)
theorem flat_nb (xs : List D) : flatMode xs ≠ .borrow := by unfold flatMode; split <;> decide
theorem addL_ok {xs ys : List D} {m m' : Mode} (h : m ≠ .borrow) (h' : m' ≠ .borrow) (hl : xs.length + ys.length ≤ 64) : binD .add (.list xs, m) (.list ys, m') = some (.list (xs ++ ys), flatMode (xs ++ ys)) :=
  if_neg fun e => e.elim h fun e => e.elim h' fun e => absurd (le_lim hl) (Nat.not_le_of_lt e)
theorem xAssign {Φ : Tab} {N : Nat} {ρ ρ' : Rho} {o : Bool} {x : Nat} {e : ME} {d : D} (he : evE Φ e (demote x ρ) = some (d, .fresh)) (hr : (demote x ρ).set x (some ⟨o && isList d, d⟩) = ρ') : exS Φ N (.assign o x e) ρ = some (.next ρ') := by rw [exS, he, ← hr]; rfl
theorem xUnpack2 {Φ : Tab} {N : Nat} {ρ ρ' : Rho} {x y : Nat} {e : ME} {a b : D} (he : evE Φ e ρ = some (.tuple [a, b], .fresh)) (hxy : x ≠ y) (hr : (ρ.set x (some ⟨false, a⟩)).set y (some ⟨false, b⟩) = ρ') : exS Φ N (.unpack2 x y e) ρ = some (.next ρ') := by rw [exS, he, ← hr]; exact if_neg hxy
theorem mul_ok {x y : Int} {m m' : Mode} (hx : x.natAbs < Big) (hy : y.natAbs < Big) : binD .mul (.int x, m) (.int y, m') = some (.int (x * y), .fresh) := if_pos ⟨hx, hy⟩
theorem fdiv_ok {x y : Int} {m m' : Mode} (hx : y ≠ 0) (hy : y.natAbs < Big) : binD .fdiv (.int x, m) (.int y, m') = some (.int (x.fdiv y), .fresh) := by
  exact if_neg fun h => h.elim hx (Nat.not_le_of_lt hy)

/-! ## tables -/
noncomputable def tab {α} (n : Nat) (g : Nat → α) : List α := (List.range n).map g
theorem tab_length {α} (n : Nat) (g : Nat → α) : (tab n g).length = n := by simp [tab]
theorem tab_get {α} {n : Nat} (g : Nat → α) {i : Nat} (h : i < n) : (tab n g)[i]? = some (g i) := by simp [tab, h]
theorem tab_ext {α} {n : Nat} {g g' : Nat → α} (h : ∀ i, i < n → g i = g' i) : tab n g = tab n g' := by
  unfold tab
  exact List.map_congr_left fun i hi => h i (List.mem_range.mp hi)
theorem tab_map {α β} (f : α → β) (n : Nat) (g : Nat → α) : (tab n g).map f = tab n fun i => f (g i) := by simp [tab, Function.comp_def]
theorem tab_set {α} {n : Nat} (g : Nat → α) (i : Nat) (x : α) : (tab n g).set i x = tab n fun r => if r = i then x else g r := by
  apply List.ext_getElem?
  intro r
  rw [List.getElem?_set]
  by_cases hr : r < n
  · rw [tab_get _ hr, tab_get _ hr]
    by_cases e : i = r
    · subst e; simp [tab_length, hr]
    · simp [e, Ne.symm e]
  · have h1 : (tab n g)[r]? = none := by simp [tab]; omega
    have h2 : (tab n fun r => if r = i then x else g r)[r]? = none := by simp [tab]; omega
    rw [h1, h2]
    simp [tab_length]
    omega
theorem tab_append {α} (n m : Nat) (f g : Nat → α) : tab n f ++ tab m g = tab (n + m) fun i => if i < n then f i else g (i - n) := by
  unfold tab
  rw [List.range_add, List.map_append, List.map_map]
  congr 1
  · exact List.map_congr_left fun i hi => by simp [List.mem_range.mp hi]
  · exact List.map_congr_left fun i hi => by
      have : ¬ n + i < n := by omega
      simp [this]
theorem tab_take {α} {n k : Nat} (h : k ≤ n) (g : Nat → α) : (tab n g).take k = tab k g := by
  unfold tab
  rw [← List.map_take, List.take_range, Nat.min_eq_left h]
theorem tab_drop {α} (n k : Nat) (g : Nat → α) : (tab n g).drop k = tab (n - k) fun i => g (k + i) := by
  apply List.ext_getElem?
  intro r
  rw [List.getElem?_drop]
  by_cases hr : k + r < n
  · rw [tab_get _ hr, tab_get _ (by omega)]
  · rw [List.getElem?_eq_none (by simp [tab_length]; omega), List.getElem?_eq_none (by simp [tab_length]; omega)]
theorem tab_upto (a b : Nat) : upto a b = tab (b - a) fun i => .int ((a + i : Nat) : Int) := by
  unfold upto tab
  have e : ((b : Int) - (a : Int)).toNat = b - a := Int.toNat_sub b a
  rw [e]
  exact List.map_congr_left fun i hi => by simp
theorem tab_zero {α} (g : Nat → α) : tab 0 g = [] := rfl
theorem tab_one {α} (g : Nat → α) : tab 1 g = [g 0] := rfl
theorem tab_two {α} (g : Nat → α) : tab 2 g = [g 0, g 1] := rfl
theorem tab_three {α} (g : Nat → α) : tab 3 g = [g 0, g 1, g 2] := rfl

theorem mapO_tab {f : D → Option (D × Mode)} {n : Nat} {g : Nat → D} {r : Nat → D × Mode} (h : ∀ i, i < n → f (g i) = some (r i)) : mapO f (tab n g) = some (tab n r) := by
  have : ∀ (m : Nat) (g : Nat → D) (r : Nat → D × Mode), (∀ i, i < m → f (g i) = some (r i)) → mapO f (tab m g) = some (tab m r) := by
    intro m
    induction m with
    | zero => intro g r _; rfl
    | succ m ih =>
      intro g r h
      have e1 : ∀ {α} (g : Nat → α), tab (m + 1) g = g 0 :: tab m fun i => g (i + 1) := by
        intro α g; unfold tab; rw [List.range_succ_eq_map]; simp [Function.comp_def]
      rw [e1, e1, mapO, h 0 (by exact Nat.le_add_left _ _)]
      simp only
      rw [ih _ (fun i => r (i + 1)) fun i hi => h (i + 1) (by exact Nat.lt_succ_of_le (by assumption))]
  exact this n g r h
theorem lst_tab {n : Nat} {g : Nat → D} (hn : n ≤ lim) : lstD (tab n fun i => (g i, Mode.fresh)) = some (.list (tab n g), .fresh) := by
  unfold lstD allOk
  have h1 : ((tab n fun i => (g i, Mode.fresh)).all fun r => r.2 != .borrow) = true := by
    rw [List.all_eq_true]; intro x hx; simp [tab] at hx; obtain ⟨_, _, rfl⟩ := hx; rfl
  have h2 : ((tab n fun i => (g i, Mode.fresh)).all fun r => r.2 == .fresh) = true := by
    rw [List.all_eq_true]; intro x hx; simp [tab] at hx; obtain ⟨_, _, rfl⟩ := hx; rfl
  rw [if_pos ⟨h1, by rw [tab_length]; exact hn⟩, h2, tab_map]
  rfl
theorem comp_tab {Φ : Tab} {it : MI} {b : ME} {ρ : Rho} {n : Nat} {g r : Nat → D} (hn : n ≤ lim) (hi : evI Φ it ρ = some (tab n g)) (hb : ∀ i, i < n → evE Φ b (innerR ρ ++ [some ⟨false, g i⟩]) = some (r i, .fresh)) :
    evE Φ (.comp it b) ρ = some (.list (tab n r), .fresh) := by
  rw [evE, hi]
  simp only
  rw [mapO_tab (r := fun i => (r i, .fresh)) hb]
  exact lst_tab hn

theorem run_of {Φ : Tab} {f : Fn} {ds : List D} {d : D} {fr : Bool} (hl : ds.length = f.params.length) (h : W (exSs Φ NN f.body (slots ds f.locals.length)) (· = .ret d fr)) : runF Φ f ds = some (d, fr) := by
  obtain ⟨o, e, h⟩ := h
  subst h
  unfold runF
  rw [if_pos hl, e]


/-! ## Euclid's turns -/
noncomputable def fb : Nat → Nat
  | 0 => 0
  | 1 => 1
  | n + 2 => fb n + fb (n + 1)
theorem fb_pos : ∀ n, 0 < fb (n + 1)
  | 0 => by decide
  | n + 1 => by have := fb_pos n; rw [fb]; omega
theorem fb_ten : ∀ L, 10 ^ L ≤ fb (5 * L + 4) ∧ fb (5 * L + 4) ≤ 2 * fb (5 * L + 3)
  | 0 => by decide
  | L + 1 => by
    obtain ⟨h1, h2⟩ := fb_ten L
    have e1 : 5 * (L + 1) + 4 = (5 * L + 3) + 6 := by omega
    have e2 : 5 * (L + 1) + 3 = (5 * L + 3) + 5 := by omega
    have e3 : 5 * L + 4 = (5 * L + 3) + 1 := by omega
    rw [e1, e2]; rw [e3] at h1 h2
    generalize 5 * L + 3 = m at *
    have a2 : fb (m + 2) = fb m + fb (m + 1) := rfl
    have a3 : fb (m + 3) = fb (m + 1) + fb (m + 2) := rfl
    have a4 : fb (m + 4) = fb (m + 2) + fb (m + 3) := rfl
    have a5 : fb (m + 5) = fb (m + 3) + fb (m + 4) := rfl
    have a6 : fb (m + 6) = fb (m + 4) + fb (m + 5) := rfl
    rw [Nat.pow_succ]
    omega
theorem fb_two : ∀ k, 2 ^ k ≤ fb (2 * k + 2)
  | 0 => by decide
  | k + 1 => by
    have h := fb_two k
    have e1 : 2 * (k + 1) + 2 = (2 * k + 2) + 2 := by omega
    have a2 : fb ((2 * k + 2) + 2) = fb (2 * k + 2) + fb ((2 * k + 2) + 1) := rfl
    have a3 : fb ((2 * k + 2) + 1) = fb (2 * k + 1) + fb (2 * k + 2) := rfl
    rw [e1, Nat.pow_succ]
    omega
/-- r more turns are enough -/
noncomputable def Euc (r x y : Nat) : Prop := (y ≤ x ∧ (y < fb (r + 1) ∨ x < fb (r + 2))) ∨ (x < y ∧ x + y < fb (r + 2))
theorem Euc.start {r x y : Nat} (h : x + y < fb (r + 2)) : Euc r x y := by unfold Euc; omega
theorem Euc.step {r x y : Nat} (h : Euc (r + 1) x y) (hy : y ≠ 0) : Euc r y (x % y) := by
  unfold Euc at *
  have hm : x % y < y := Nat.mod_lt _ (by omega)
  have a3 : fb (r + 1 + 2) = fb (r + 1) + fb (r + 2) := rfl
  have a2 : fb (r + 1 + 1) = fb (r + 2) := rfl
  rw [a3, a2] at h
  rcases h with ⟨h1, h2⟩ | ⟨h1, h2⟩
  · have : x % y ≤ x - y := by
      rw [Nat.mod_eq_sub_mod h1]
      exact Nat.mod_le _ _
    omega
  · rw [Nat.mod_eq_of_lt h1]
    omega
theorem Euc.done {x y : Nat} (h : Euc 0 x y) : y = 0 := by
  unfold Euc at h
  have a1 : fb (0 + 1) = 1 := rfl
  have a2 : fb (0 + 2) = 1 := rfl
  rw [a1, a2] at h
  omega

theorem digits_ok (s : Nat) : s < 10 ^ (Str.ofString (toString (s : Int))).length ∧ ∀ k, 0 < k → s < 10 ^ k → (Str.ofString (toString (s : Int))).length ≤ k := by
  have e : (Str.ofString (toString (s : Int))).length = s.repr.length := by
    rw [Str.ofString_eq_toList]
    show ((toString (s : Int)).toList.map Char.toNat).toArray.size = _
    rw [List.size_toArray, List.length_map]
    rfl
  rw [e]
  exact ⟨(Nat.length_repr_le_iff Nat.length_repr_pos).mp (Nat.le_refl _), fun k hk h => (Nat.length_repr_le_iff hk).mpr h⟩

theorem cmp_eq_int (x y : Int) : cmpD .Eq (.int x) (.int y) = some (decide (x = y)) := by
  have e : (x == y) = decide (x = y) := by rw [Bool.eq_iff_iff]; simp
  simp [cmpD, cmpD.SeqAtOk, PyData.canLay0, PyData.depth, PyData.eqv, e]
theorem cmp_ne_int (x y : Int) : cmpD .NotEq (.int x) (.int y) = some (!decide (x = y)) := by
  have e : (x == y) = decide (x = y) := by rw [Bool.eq_iff_iff]; simp
  simp [cmpD, cmpD.SeqAtOk, PyData.canLay0, PyData.depth, PyData.eqv, e]
theorem cmp_lt_int (x y : Int) : cmpD .Lt (.int x) (.int y) = some (decide (x < y)) := rfl
theorem cmp_gt_int (x y : Int) : cmpD .Gt (.int x) (.int y) = some (decide (x > y)) := rfl

noncomputable def Lim (n : Int) : Prop := n.natAbs < 2 ^ 1900
theorem big_of {n : Nat} {b : Nat} (h : n < 2 ^ b) (hb : b ≤ 4096) : n < Big := Nat.lt_of_lt_of_le h (Nat.pow_le_pow_right (by decide) hb)
theorem Lim.big {n : Int} (h : Lim n) : n.natAbs < Big := big_of h (by decide)

theorem abs_ok (i : Int) (m : Mode) : absD (.int i, m) = some (.int i.natAbs, .fresh) := by
  unfold absD
  simp only
  congr 2
  split <;> congr 1 <;> omega

noncomputable def SGcd (Φ : Tab) : Prop := ∀ a b : Int, Lim a → Lim b → Φ "gcd_of" [.int a, .int b] = some (.int (Int.gcd a b : Nat), false)

theorem gcd_body (Φ : Tab) (a b : Int) (ha : Lim a) (hb : Lim b) : W (exSs Φ NN mb_gcd_of (slots [.int a, .int b] 1)) (· = .ret (.int (Int.gcd a b : Nat)) false) := by
  delta mb_gcd_of slots
  simp only [List.map_cons, List.map_nil, List.cons_append, List.nil_append, List.replicate]
  refine W.cons (W.assign (d := .int a.natAbs) (eAbs (eV rfl (vF rfl)) (abs_ok _ _)) ?_)
  simp only [demote_zero, dm_some, List.set_cons_zero, isList, Bool.and_false]
  refine W.cons (W.assign (d := .int b.natAbs) (eAbs (eV rfl (vF rfl)) (abs_ok _ _)) ?_)
  simp only [demote_zero, demote_succ, dm_some, List.set_cons_zero, List.set_cons_succ, isList, Bool.and_false]
  have hs : a.natAbs + b.natAbs < 2 ^ 1901 := by unfold Lim at *; rw [show (2 : Nat) ^ 1901 = 2 ^ 1900 * 2 from rfl]; omega
  obtain ⟨hd1, hd2⟩ := digits_ok (a.natAbs + b.natAbs)
  have hL := hd2 600 (by decide) (Nat.lt_trans hs (by decide))
  generalize eL : (Str.ofString (toString ((a.natAbs + b.natAbs : Nat) : Int))).length = L at *
  have htext : textD (.int ((a.natAbs : Int) + b.natAbs), Mode.fresh) = some (.str (Str.ofString (toString ((a.natAbs + b.natAbs : Nat) : Int))), .fresh) := by
    unfold textD
    have e0 : ((a.natAbs : Int) + b.natAbs) = ((a.natAbs + b.natAbs : Nat) : Int) := by omega
    rw [e0]
    have : (((a.natAbs + b.natAbs : Nat) : Int).natAbs).log2 < 1920 := by
      rw [Int.natAbs_natCast]
      by_cases hz : a.natAbs + b.natAbs = 0
      · rw [hz]; decide
      · exact Nat.lt_of_lt_of_le ((Nat.log2_lt hz).mpr hs) (by decide)
    simp only [this, if_true]
  have hit : evI Φ (.range1 (.bin .add (.bin .mul (.int 5) (.len (.text (.bin .add (.var 0) (.var 1))))) (.int 2))) [some ⟨false, .int a.natAbs⟩, some ⟨false, .int b.natAbs⟩, none] = some (upto 0 ((5 * L + 2 : Nat) : Int)) := by
    have hlen : lenD (.str (Str.ofString (toString ((a.natAbs + b.natAbs : Nat) : Int))), Mode.fresh) = some (.int L, .fresh) := by
      unfold lenD
      simp only [eL]
      rw [if_pos (by unfold lim; exact Nat.le_trans (by assumption) (by decide))]
    have hm : binD .mul (.int 5, Mode.fresh) (.int (L : Int), Mode.fresh) = some (.int (5 * L), .fresh) := mul_ok (by decide) (Nat.lt_of_le_of_lt (m := 600) (by assumption) (by decide))
    have hadd : binD .add (.int (a.natAbs : Int), Mode.fresh) (.int (b.natAbs : Int), Mode.fresh) = some (.int (a.natAbs + b.natAbs), .fresh) := rfl
    have hadd2 : binD .add (.int (5 * (L : Int)), Mode.fresh) (.int 2, Mode.fresh) = some (.int (5 * L + 2), .fresh) := rfl
    have hrg : rangeD 0 (5 * (L : Int) + 2) = some (upto 0 ((5 * L + 2 : Nat) : Int)) := by
      unfold rangeD
      rw [if_neg (by unfold lim; omega)]
      congr 2
    exact eR1 (eBin (eBin eInt (eLen (eText (eBin (eV rfl (vF rfl)) (eV rfl (vF rfl)) hadd) htext) hlen) hm) eInt hadd2) hrg
  refine W.cons (W.forS hit ?_)
  simp only [demote_zero, demote_succ, dm]
  refine W.loopU (I := fun i ρ => ∃ x y o, ρ = [some ⟨false, .int (x : Nat)⟩, some ⟨false, .int (y : Nat)⟩, o] ∧ Nat.gcd x y = Int.gcd a b ∧ Euc (5 * L + 2 - i) x y) rfl rfl (Nat.zero_le _) ⟨a.natAbs, b.natAbs, none, rfl, rfl, ?_⟩ ?_ ?_
  · apply Euc.start
    have := (fb_ten L).1
    rw [show 5 * L + 2 - 0 + 2 = 5 * L + 4 from by omega]
    exact Nat.lt_of_lt_of_le (by assumption) (by assumption)
  · rintro i ρ - hi ⟨x, y, o, rfl, hg, he⟩
    simp only [List.set_cons_zero, List.set_cons_succ]
    refine W.cons (W.ite (v := decide ((y : Int) = 0)) (eCmp (eV rfl (vF rfl)) eInt (cmp_eq_int _ _)) (fun hy => ?_) (fun hy => ?_))
    · have hy0 : y = 0 := by simpa using hy
      subst hy0
      rw [Nat.gcd_zero_right] at hg
      refine W.cons (W.retVar (by simp; rfl) ?_)
      show Out.ret _ _ = _
      rw [hg]
    · have hy0 : y ≠ 0 := by simpa using hy
      refine W.nil ?_
      have hm := mod_nat x .fresh .fresh hy0
      refine W.cons (W.unpack2 (a := .int y) (b := .int ((x % y : Nat) : Int)) ?_ (by decide) ?_)
      · exact eTup (eCons (eV rfl (vF rfl)) (eCons (eBin (eV rfl (vF rfl)) (eV rfl (vF rfl)) hm) eNil)) rfl
      · refine W.nil ⟨y, x % y, some ⟨false, .int i⟩, ?_, ?_, ?_⟩
        · simp only [List.set_cons_zero, List.set_cons_succ]
        · rw [← hg, Nat.gcd_comm x y, Nat.gcd_rec y x, Nat.gcd_comm]
        · have : 5 * L + 2 - i = (5 * L + 2 - (i + 1)) + 1 := by omega
          rw [this] at he
          exact he.step hy0
  · rintro ρ ⟨x, y, o, rfl, hg, he⟩
    rw [Nat.sub_self] at he
    have := he.done
    subst this
    rw [Nat.gcd_zero_right] at hg
    refine W.cons (W.retVar (by simp; rfl) ?_)
    show Out.ret _ _ = _
    rw [hg]

theorem gcd_run (Φ : Tab) : SGcd (runN Φ) := fun a b ha hb => run_of (f := ⟨"gcd_of", ["a", "b"], ["_"], mb_gcd_of⟩) rfl (gcd_body Φ a b ha hb)

/-! ## fractions -/
noncomputable def qD (q : Rat) : D := .tuple [.int q.num, .int q.den]
noncomputable def Sz (b : Nat) (q : Rat) : Prop := q.num.natAbs < 2 ^ b ∧ q.den < 2 ^ b
theorem Sz.mono {b c : Nat} {q : Rat} (h : Sz b q) (hbc : b ≤ c) : Sz c q := ⟨Nat.lt_of_lt_of_le h.1 (Nat.pow_le_pow_right (by decide) hbc), Nat.lt_of_lt_of_le h.2 (Nat.pow_le_pow_right (by decide) hbc)⟩
theorem qD_inj {x y : Rat} (h : qD x = qD y) : x = y := by
  unfold qD at h
  simp only [PyData.tuple.injEq, List.cons.injEq, PyData.int.injEq, and_true] at h
  exact Rat.ext h.1 (by omega)

noncomputable def SFrac (Φ : Tab) : Prop := ∀ a b : Int, b ≠ 0 → Lim a → Lim b → Φ "frac" [.int a, .int b] = some (qD (Rat.divInt a b), true)

theorem fdiv_gcd {a : Int} {g : Nat} (h : (g : Int) ∣ a) : a.fdiv g = a / g := by
  rw [Int.fdiv_eq_ediv_of_nonneg _ (by omega)]

theorem gcd_lim {a b : Int} (hb : b ≠ 0) (h : Lim b) : ((Int.gcd a b : Nat) : Int) ≠ 0 ∧ ((Int.gcd a b : Nat) : Int).natAbs < Big := by
  have h0 : 0 < Int.gcd a b := Int.gcd_pos_of_ne_zero_right _ hb
  have h1 : Int.gcd a b ≤ b.natAbs := Nat.le_of_dvd (by omega) (Nat.gcd_dvd_right _ _)
  refine ⟨by omega, ?_⟩
  rw [Int.natAbs_natCast]
  exact Nat.lt_of_le_of_lt h1 h.big

/-- both halves, the under one not below nought -/
theorem frac_pos {a b : Int} (hb : 0 < b) : PyData.tuple [.int (a.fdiv (Int.gcd a b : Nat)), .int (b.fdiv (Int.gcd a b : Nat))] = qD (Rat.divInt a b) := by
  unfold qD
  rw [Rat.num_divInt, Rat.den_divInt, if_neg (by omega), Int.sign_eq_one_of_pos hb, Int.one_mul, Int.gcd_comm b a]
  rw [Int.fdiv_eq_ediv_of_nonneg _ (by omega), Int.fdiv_eq_ediv_of_nonneg _ (by omega)]
  have : ((b.natAbs / a.gcd b : Nat) : Int) = b / (a.gcd b : Nat) := by
    rw [Int.natCast_ediv]
    congr 1
    omega
  rw [this]

theorem call_f {Φ : Tab} {f : Str} {rs : List (D × Mode)} {z : Int} {fr : Bool} (h : Φ f (rs.map (·.1)) = some (.int z, fr)) : callD Φ f rs = some (.int z, .fresh) := by
  unfold callD; rw [h]; cases fr <;> cases allOk rs <;> rfl
theorem frac_body (Φ : Tab) (hΦ : SGcd Φ) (a b : Int) (h0 : b ≠ 0) (ha : Lim a) (hb : Lim b) : W (exSs Φ NN mb_frac (slots [.int a, .int b] 1)) (· = .ret (qD (Rat.divInt a b)) true) := by
  delta mb_frac slots
  simp only [List.map_cons, List.map_nil, List.cons_append, List.nil_append, List.replicate]
  refine W.cons (W.skip (eCmp (eV rfl (vF rfl)) eInt ((cmp_eq_int _ _).trans (congrArg some (decide_eq_false h0)))) ?_)
  have key : ∀ a b : Int, 0 < b → Lim a → Lim b → W (exSs Φ NN [.assign false 2 (.call "gcd_of" (.cons (.var 0) (.cons (.var 1) .nil))),
      .ret (.tup (.cons (.bin .fdiv (.var 0) (.var 2)) (.cons (.bin .fdiv (.var 1) (.var 2)) .nil)))] [some ⟨false, .int a⟩, some ⟨false, .int b⟩, none]) (· = .ret (qD (Rat.divInt a b)) true) := by
    intro a b hp ha hb
    refine W.cons (W.assign (d := .int (Int.gcd a b : Nat)) ?_ ?_)
    · exact eCall (eCons (eV rfl (vF rfl)) (eCons (eV rfl (vF rfl)) eNil)) (call_f (hΦ a b ha hb))
    · obtain ⟨g0, g1⟩ := gcd_lim (a := a) (by omega) hb
      simp only [demote_zero, demote_succ, dm, List.set_cons_zero, List.set_cons_succ, isList, Bool.and_false]
      refine W.cons (W.ret (d := qD (Rat.divInt a b)) (m := .fresh) ?_ (by decide) rfl)
      rw [← frac_pos hp]
      exact eTup (eCons (eBin (eV rfl (vF rfl)) (eV rfl (vF rfl)) (fdiv_ok g0 g1)) (eCons (eBin (eV rfl (vF rfl)) (eV rfl (vF rfl)) (fdiv_ok g0 g1)) eNil)) rfl
  refine W.cons (W.ite (v := decide (b < 0)) (eCmp (eV rfl (vF rfl)) eInt (cmp_lt_int _ _)) (fun hn => ?_) (fun hn => W.nil (key a b ?_ ha hb)))
  rotate_left
  · have : ¬ b < 0 := by simpa using hn
    omega
  have hn : b < 0 := by simpa using hn
  refine W.cons (W.assign (d := .int (-a)) (eNeg (eV rfl (vF rfl)) rfl) ?_)
  simp only [demote_zero, dm_some, List.set_cons_zero, isList, Bool.and_false]
  refine W.cons (W.assign (d := .int (-b)) (eNeg (eV rfl (vF rfl)) rfl) ?_)
  simp only [demote_zero, demote_succ, dm_some, List.set_cons_zero, List.set_cons_succ, isList, Bool.and_false]
  refine W.nil ?_
  rw [← Rat.neg_divInt_neg]
  exact key (-a) (-b) (by omega) (by unfold Lim at *; omega) (by unfold Lim at *; omega)

theorem frac_run {Φ : Tab} (hΦ : SGcd Φ) : SFrac (runN Φ) := fun a b h0 ha hb => run_of (f := ⟨"frac", ["n", "d"], ["g"], mb_frac⟩) rfl (frac_body Φ hΦ a b h0 ha hb)


theorem idx_q0 (x : Rat) (m m' : Mode) : idxD (qD x, m) (.int 0, m') = some (.int x.num, .fresh) := rfl
theorem idx_q1 (x : Rat) (m m' : Mode) : idxD (qD x, m) (.int 1, m') = some (.int x.den, .fresh) := rfl
theorem tup01 : tupD [(.int 0, .fresh), (.int 1, .fresh)] = some (qD 0, .fresh) := rfl
theorem tup11 : tupD [(.int 1, .fresh), (.int 1, .fresh)] = some (qD 1, .fresh) := rfl
theorem neg1 (m : Mode) : negD (.int 1, m) = some (.int (-1), .fresh) := rfl
theorem add_nat (a b : Nat) (m m' : Mode) : binD .add (.int (a : Int), m) (.int (b : Int), m') = some (.int ((a + b : Nat) : Int), .fresh) := rfl
theorem add_nat1 (a : Nat) (m m' : Mode) : binD .add (.int (a : Int), m) (.int 1, m') = some (.int ((a + 1 : Nat) : Int), .fresh) := rfl
theorem cast_ne_neg1 (r : Nat) : ((r : Int) = -1) = False := by simp
theorem cast_eq (r c : Nat) : ((r : Int) = c) = (r = c) := propext (by omega)
theorem vm_list (ds : List D) : varMode ⟨false, .list ds⟩ = .shared := rfl
theorem vm_own (ds : List D) : varMode ⟨true, .list ds⟩ = .borrow := rfl
theorem vm_int (i : Int) (o : Bool) : varMode ⟨o, .int i⟩ = .fresh := rfl
theorem vm_bool (i : Bool) (o : Bool) : varMode ⟨o, .bool i⟩ = .fresh := rfl
theorem vm_str (i : Str) (o : Bool) : varMode ⟨o, .str i⟩ = .fresh := rfl
theorem vm_q (x : Rat) : varMode ⟨false, qD x⟩ = .fresh := rfl

theorem divInt_sz {a b : Int} {k : Nat} (h0 : b ≠ 0) (ha : a.natAbs < 2 ^ k) (hb : b.natAbs < 2 ^ k) : Sz k (Rat.divInt a b) := by
  unfold Sz
  rw [Rat.num_divInt, Rat.den_divInt, if_neg h0]
  refine ⟨Nat.lt_of_le_of_lt ?_ ha, Nat.lt_of_le_of_lt (Nat.div_le_self _ _) hb⟩
  have h1 : (b.sign * a / (b.gcd a : Nat)).natAbs ≤ (b.sign * a).natAbs := Int.natAbs_ediv_le_natAbs _ _
  rw [Int.natAbs_mul] at h1
  have h2 : b.sign.natAbs ≤ 1 := by
    rcases Int.lt_trichotomy b 0 with h | h | h
    · rw [Int.sign_eq_neg_one_of_neg h]; decide
    · rw [h]; decide
    · rw [Int.sign_eq_one_of_pos h]; decide
  exact Nat.le_trans h1 (by have := Nat.mul_le_mul_right a.natAbs h2; omega)

theorem mul_sz {x y : Int} {a b : Nat} (hx : x.natAbs < 2 ^ a) (hy : y.natAbs < 2 ^ b) : (x * y).natAbs < 2 ^ (a + b) := by
  rw [Int.natAbs_mul, Nat.pow_add]
  exact Nat.mul_lt_mul'' hx hy
theorem add_sz {x y : Int} {a : Nat} (hx : x.natAbs < 2 ^ a) (hy : y.natAbs < 2 ^ a) : (x + y).natAbs < 2 ^ (a + 1) := by
  rw [Nat.pow_succ, Nat.mul_two]; exact Nat.lt_of_le_of_lt (Int.natAbs_add_le x y) (Nat.add_lt_add hx hy)
theorem lim_of {x : Int} {a : Nat} (hx : x.natAbs < 2 ^ a) (ha : a ≤ 1900) : Lim x := Nat.lt_of_lt_of_le hx (Nat.pow_le_pow_right (by decide) ha)
theorem den_ne (x : Rat) : (x.den : Int) ≠ 0 := by have := x.den_nz; omega
theorem Sz.den {b : Nat} {x : Rat} (h : Sz b x) : (x.den : Int).natAbs < 2 ^ b := h.2

theorem add_q (x y : Rat) : x + y = Rat.divInt (x.num * y.den + y.num * x.den) (x.den * y.den) := by
  rw [Rat.add_def', ← Rat.divInt_ofNat]; simp
theorem mul_q (x y : Rat) : x * y = Rat.divInt (x.num * y.num) (x.den * y.den) := by
  rw [Rat.mul_def', ← Rat.divInt_ofNat]; simp
theorem div_q (x y : Rat) : x / y = Rat.divInt (x.num * y.den) (x.den * y.num) := by
  rw [Rat.div_def, Rat.inv_def, ← Rat.divInt_mul_divInt, Rat.num_divInt_den]

theorem Sz.add {b c : Nat} {x y : Rat} (hx : Sz b x) (hy : Sz c y) : Sz (b + c + 1) (x + y) := by
  rw [add_q]
  have h1 := mul_sz hx.1 hy.den
  have h2 := mul_sz hy.1 hx.den
  rw [Nat.add_comm c b] at h2
  refine divInt_sz (Int.mul_ne_zero (den_ne x) (den_ne y)) (add_sz h1 h2) ?_
  exact Nat.lt_trans (mul_sz hx.den hy.den) (Nat.pow_lt_pow_right (by decide) (by exact Nat.le_refl _))
theorem Sz.mul {b c : Nat} {x y : Rat} (hx : Sz b x) (hy : Sz c y) : Sz (b + c) (x * y) := by
  rw [mul_q]
  exact divInt_sz (Int.mul_ne_zero (den_ne x) (den_ne y)) (mul_sz hx.1 hy.1) (mul_sz hx.den hy.den)
theorem num_ne {y : Rat} (h : y ≠ 0) : y.num ≠ 0 := fun e => h (Rat.num_eq_zero.mp e)
theorem Sz.div {b c : Nat} {x y : Rat} (hx : Sz b x) (hy : Sz c y) (h0 : y ≠ 0) : Sz (b + c) (x / y) := by
  rw [div_q]
  exact divInt_sz (Int.mul_ne_zero (den_ne x) (num_ne h0)) (mul_sz hx.1 hy.den) (mul_sz hx.den hy.1)
theorem Sz.neg {b : Nat} {x : Rat} (hx : Sz b x) : Sz b (-x) := by
  unfold Sz at *; rw [Rat.neg_num, Rat.neg_den, Int.natAbs_neg]; exact hx

noncomputable def SAdd (Φ : Tab) : Prop := ∀ x y b c, Sz b x → Sz c y → b + c + 1 ≤ 1900 → Φ "f_add" [qD x, qD y] = some (qD (x + y), true)
noncomputable def SMul (Φ : Tab) : Prop := ∀ x y b c, Sz b x → Sz c y → b + c ≤ 1900 → Φ "f_mul" [qD x, qD y] = some (qD (x * y), true)
noncomputable def SDiv (Φ : Tab) : Prop := ∀ x y b c, y ≠ 0 → Sz b x → Sz c y → b + c ≤ 1900 → Φ "f_div" [qD x, qD y] = some (qD (x / y), true)
noncomputable def SNeg (Φ : Tab) : Prop := ∀ x, Φ "f_neg" [qD x] = some (qD (-x), true)

theorem call_ok {Φ : Tab} {f : Str} {rs : List (D × Mode)} {d : D} (h : Φ f (rs.map (·.1)) = some (d, true)) (ha : allOk rs = true) : callD Φ f rs = some (d, .fresh) := by
  unfold callD; rw [h]; simp [ha]

theorem add_body (Φ : Tab) (hΦ : SFrac Φ) (x y : Rat) (b c : Nat) (hx : Sz b x) (hy : Sz c y) (hb : b + c + 1 ≤ 1900) : W (exSs Φ NN mb_f_add (slots [qD x, qD y] 0)) (· = .ret (qD (x + y)) true) := by
  delta mb_f_add
  simp only [List.map_cons, List.map_nil, List.cons_append, List.nil_append, List.replicate, slots]
  have big : ∀ {a : Nat} {k : Nat}, a < 2 ^ k → k ≤ b + c → a < Big := fun h h' => big_of h (by omega)
  have m1 : ∀ m m', binD .mul (.int x.num, m) (.int y.den, m') = some (.int (x.num * y.den), .fresh) := fun _ _ => mul_ok (big hx.1 (by exact Nat.le_add_right _ _)) (big hy.den (by exact Nat.le_add_left _ _))
  have m2 : ∀ m m', binD .mul (.int y.num, m) (.int x.den, m') = some (.int (y.num * x.den), .fresh) := fun _ _ => mul_ok (big hy.1 (by exact Nat.le_add_left _ _)) (big hx.den (by exact Nat.le_add_right _ _))
  have m3 : ∀ m m', binD .mul (.int x.den, m) (.int y.den, m') = some (.int (x.den * y.den), .fresh) := fun _ _ => mul_ok (big hx.den (by exact Nat.le_add_right _ _)) (big hy.den (by exact Nat.le_add_left _ _))
  have h1 := mul_sz hx.1 hy.den
  have h2 := mul_sz hy.1 hx.den
  rw [Nat.add_comm c b] at h2
  have hf := hΦ (x.num * y.den + y.num * x.den) (x.den * y.den) (Int.mul_ne_zero (den_ne x) (den_ne y)) (lim_of (add_sz h1 h2) hb) (lim_of (mul_sz hx.den hy.den) (by exact Nat.le_of_lt (by assumption)))
  refine W.cons (W.ret (d := qD (x + y)) (m := .fresh) ?_ (by decide) rfl)
  rw [add_q]
  have hc := call_ok (rs := [(_, .fresh), (_, .fresh)]) hf rfl
  ((repeat' first | with_reducible (first | apply m1 | apply m2 | apply m3 | apply hc) | (first | with_reducible (first | apply eInt | apply eNil | apply idx_q0 | apply idx_q1 | apply tup01 | apply tup11 | apply add_nat1 | apply neg1 | apply eOn | apply eBool | apply eStrg | apply eV | apply eIdx | apply eBin | apply eCall | apply eCons | apply eCmp | apply eTup | apply eLen | apply eR1 | apply eR2 | apply eIl | apply eNeg | apply eOrF | apply eAndT | apply eNotT | apply eNotF | apply eVal | apply eLst | apply eSlc | apply eOs | apply eSort | apply eLr | apply eSum | apply eAbs) | exact vF rfl | exact vS rfl | exact vB rfl | exact rfl)); done)
theorem add_run {Φ : Tab} (hΦ : SFrac Φ) : SAdd (runN Φ) := fun x y b c hx hy hb => run_of (f := ⟨"f_add", ["x", "y"], [], mb_f_add⟩) rfl (add_body Φ hΦ x y b c hx hy hb)

theorem mul_body (Φ : Tab) (hΦ : SFrac Φ) (x y : Rat) (b c : Nat) (hx : Sz b x) (hy : Sz c y) (hb : b + c ≤ 1900) : W (exSs Φ NN mb_f_mul (slots [qD x, qD y] 0)) (· = .ret (qD (x * y)) true) := by
  delta mb_f_mul
  simp only [List.map_cons, List.map_nil, List.cons_append, List.nil_append, List.replicate, slots]
  have big : ∀ {a : Nat} {k : Nat}, a < 2 ^ k → k ≤ b + c → a < Big := fun h h' => big_of h (by omega)
  have m1 : ∀ m m', binD .mul (.int x.num, m) (.int y.num, m') = some (.int (x.num * y.num), .fresh) := fun _ _ => mul_ok (big hx.1 (by exact Nat.le_add_right _ _)) (big hy.1 (by exact Nat.le_add_left _ _))
  have m3 : ∀ m m', binD .mul (.int x.den, m) (.int y.den, m') = some (.int (x.den * y.den), .fresh) := fun _ _ => mul_ok (big hx.den (by exact Nat.le_add_right _ _)) (big hy.den (by exact Nat.le_add_left _ _))
  have hf := hΦ (x.num * y.num) (x.den * y.den) (Int.mul_ne_zero (den_ne x) (den_ne y)) (lim_of (mul_sz hx.1 hy.1) hb) (lim_of (mul_sz hx.den hy.den) (by assumption))
  refine W.cons (W.ret (d := qD (x * y)) (m := .fresh) ?_ (by decide) rfl)
  rw [mul_q]
  have hc := call_ok (rs := [(_, .fresh), (_, .fresh)]) hf rfl
  ((repeat' first | with_reducible (first | apply m1 | apply m3 | apply hc) | (first | with_reducible (first | apply eInt | apply eNil | apply idx_q0 | apply idx_q1 | apply tup01 | apply tup11 | apply add_nat1 | apply neg1 | apply eOn | apply eBool | apply eStrg | apply eV | apply eIdx | apply eBin | apply eCall | apply eCons | apply eCmp | apply eTup | apply eLen | apply eR1 | apply eR2 | apply eIl | apply eNeg | apply eOrF | apply eAndT | apply eNotT | apply eNotF | apply eVal | apply eLst | apply eSlc | apply eOs | apply eSort | apply eLr | apply eSum | apply eAbs) | exact vF rfl | exact vS rfl | exact vB rfl | exact rfl)); done)
theorem mul_run {Φ : Tab} (hΦ : SFrac Φ) : SMul (runN Φ) := fun x y b c hx hy hb => run_of (f := ⟨"f_mul", ["x", "y"], [], mb_f_mul⟩) rfl (mul_body Φ hΦ x y b c hx hy hb)

theorem div_body (Φ : Tab) (hΦ : SFrac Φ) (x y : Rat) (b c : Nat) (h0 : y ≠ 0) (hx : Sz b x) (hy : Sz c y) (hb : b + c ≤ 1900) : W (exSs Φ NN mb_f_div (slots [qD x, qD y] 0)) (· = .ret (qD (x / y)) true) := by
  delta mb_f_div
  simp only [List.map_cons, List.map_nil, List.cons_append, List.nil_append, List.replicate, slots]
  have hn := num_ne h0
  have big : ∀ {a : Nat} {k : Nat}, a < 2 ^ k → k ≤ b + c → a < Big := fun h h' => big_of h (by omega)
  have m1 : ∀ m m', binD .mul (.int x.num, m) (.int y.den, m') = some (.int (x.num * y.den), .fresh) := fun _ _ => mul_ok (big hx.1 (by exact Nat.le_add_right _ _)) (big hy.den (by exact Nat.le_add_left _ _))
  have m3 : ∀ m m', binD .mul (.int x.den, m) (.int y.num, m') = some (.int (x.den * y.num), .fresh) := fun _ _ => mul_ok (big hx.den (by exact Nat.le_add_right _ _)) (big hy.1 (by exact Nat.le_add_left _ _))
  have hf := hΦ (x.num * y.den) (x.den * y.num) (Int.mul_ne_zero (den_ne x) hn) (lim_of (mul_sz hx.1 hy.den) hb) (lim_of (mul_sz hx.den hy.1) (by assumption))
  refine W.cons (W.skip (by ((repeat' first | with_reducible (first | apply hn) | (first | with_reducible (first | apply eInt | apply eNil | apply idx_q0 | apply idx_q1 | apply tup01 | apply tup11 | apply add_nat1 | apply neg1 | apply eOn | apply eBool | apply eStrg | apply eV | apply eIdx | apply eBin | apply eCall | apply eCons | apply eCmp | apply eTup | apply eLen | apply eR1 | apply eR2 | apply eIl | apply eNeg | apply eOrF | apply eAndT | apply eNotT | apply eNotF | apply eVal | apply eLst | apply eSlc | apply eOs | apply eSort | apply eLr | apply eSum | apply eAbs) | exact vF rfl | exact vS rfl | exact vB rfl | exact rfl)) <;> simp only [cmp_eq_int, cmp_ne_int, cmp_lt_int, cmp_gt_int, cast_ne_neg1, cast_eq, decide_true, decide_false, Bool.not_true, Bool.not_false, hn])) ?_)
  refine W.cons (W.ret (d := qD (x / y)) (m := .fresh) ?_ (by decide) rfl)
  rw [div_q]
  have hc := call_ok (rs := [(_, .fresh), (_, .fresh)]) hf rfl
  ((repeat' first | with_reducible (first | apply m1 | apply m3 | apply hc) | (first | with_reducible (first | apply eInt | apply eNil | apply idx_q0 | apply idx_q1 | apply tup01 | apply tup11 | apply add_nat1 | apply neg1 | apply eOn | apply eBool | apply eStrg | apply eV | apply eIdx | apply eBin | apply eCall | apply eCons | apply eCmp | apply eTup | apply eLen | apply eR1 | apply eR2 | apply eIl | apply eNeg | apply eOrF | apply eAndT | apply eNotT | apply eNotF | apply eVal | apply eLst | apply eSlc | apply eOs | apply eSort | apply eLr | apply eSum | apply eAbs) | exact vF rfl | exact vS rfl | exact vB rfl | exact rfl)); done)
theorem div_run {Φ : Tab} (hΦ : SFrac Φ) : SDiv (runN Φ) := fun x y b c h0 hx hy hb => run_of (f := ⟨"f_div", ["x", "y"], [], mb_f_div⟩) rfl (div_body Φ hΦ x y b c h0 hx hy hb)

theorem neg_body (Φ : Tab) (x : Rat) : W (exSs Φ NN mb_f_neg (slots [qD x] 0)) (· = .ret (qD (-x)) true) := by
  delta mb_f_neg; simp only [List.map_cons, List.map_nil, List.cons_append, List.nil_append, List.replicate, slots]
  refine W.cons (W.ret (d := qD (-x)) (m := .fresh) ?_ (by decide) rfl)
  ((repeat' (first | with_reducible (first | apply eInt | apply eNil | apply idx_q0 | apply idx_q1 | apply tup01 | apply tup11 | apply add_nat1 | apply neg1 | apply eOn | apply eBool | apply eStrg | apply eV | apply eIdx | apply eBin | apply eCall | apply eCons | apply eCmp | apply eTup | apply eLen | apply eR1 | apply eR2 | apply eIl | apply eNeg | apply eOrF | apply eAndT | apply eNotT | apply eNotF | apply eVal | apply eLst | apply eSlc | apply eOs | apply eSort | apply eLr | apply eSum | apply eAbs) | exact vF rfl | exact vS rfl | exact vB rfl | exact rfl)); done)
theorem neg_run (Φ : Tab) : SNeg (runN Φ) := fun x => run_of (f := ⟨"f_neg", ["x"], [], mb_f_neg⟩) rfl (neg_body Φ x)

/-! ## the law's own pairs -/
theorem W.while {f : Rho → Option Out} {Q : Out → Prop} (I : Nat → Rho → Prop) : ∀ (r N : Nat) (ρ : Rho), r < N → I r ρ →
    (∀ r ρ, I r ρ → W (f ρ) (fun o => match o with | .next ρ' => ∃ r', r = r' + 1 ∧ I r' ρ' | .cont ρ' => ∃ r', r = r' + 1 ∧ I r' ρ' | .brk ρ' => Q (.next ρ') | .ret d m => Q (.ret d m))) →
    W (whileM f N ρ) Q := by
  intro r
  induction r with
  | zero =>
    intro N ρ hN h hs
    obtain ⟨N, rfl⟩ : ∃ m, N = m + 1 := ⟨N - 1, by omega⟩
    obtain ⟨o, eo, ho⟩ := hs 0 ρ h
    rw [whileM, eo]
    cases o with
    | next ρ' => obtain ⟨_, h, _⟩ := ho; omega
    | cont ρ' => obtain ⟨_, h, _⟩ := ho; omega
    | brk ρ' => exact ⟨_, rfl, ho⟩
    | ret d m => exact ⟨_, rfl, ho⟩
  | succ r ih =>
    intro N ρ hN h hs
    obtain ⟨N, rfl⟩ : ∃ m, N = m + 1 := ⟨N - 1, by omega⟩
    obtain ⟨o, eo, ho⟩ := hs _ ρ h
    rw [whileM, eo]
    cases o with
    | next ρ' => obtain ⟨r', e, h'⟩ := ho; have : r' = r := by omega
                 subst this; exact ih N ρ' (by exact Nat.le_of_lt_succ (by assumption)) h' hs
    | cont ρ' => obtain ⟨r', e, h'⟩ := ho; have : r' = r := by omega
                 subst this; exact ih N ρ' (by exact Nat.le_of_lt_succ (by assumption)) h' hs
    | brk ρ' => exact ⟨_, rfl, ho⟩
    | ret d m => exact ⟨_, rfl, ho⟩
theorem W.whileT {Φ : Tab} {N : Nat} {b : List MS} {ρ : Rho} {Q : Out → Prop} (h : W (whileM (fun ρ => exSs Φ N b ρ) N ρ) Q) : W (exS Φ N (.whileT b) ρ) Q := by
  obtain ⟨o, e, h⟩ := h
  exact ⟨o, by rw [exS]; exact e, h⟩

noncomputable def SPair (Φ : Tab) : Prop := ∀ a b : Int, b ≠ 0 → Lim a → Lim b → Φ "_law_pair" [.int a, .int b] = some (qD (Rat.divInt a b), true)

theorem pair_body (Φ : Tab) (a b : Int) (h0 : b ≠ 0) (ha : Lim a) (hb : Lim b) : W (exSs Φ NN mb__law_pair (slots [.int a, .int b] 2)) (· = .ret (qD (Rat.divInt a b)) true) := by
  delta mb__law_pair
  simp only [List.map_cons, List.map_nil, List.cons_append, List.nil_append, List.replicate, slots]
  refine W.cons (W.unpack2 (a := .int a.natAbs) (b := .int b.natAbs) (by ((repeat' first | with_reducible (first | apply abs_ok) | (first | with_reducible (first | apply eInt | apply eNil | apply idx_q0 | apply idx_q1 | apply tup01 | apply tup11 | apply add_nat1 | apply neg1 | apply eOn | apply eBool | apply eStrg | apply eV | apply eIdx | apply eBin | apply eCall | apply eCons | apply eCmp | apply eTup | apply eLen | apply eR1 | apply eR2 | apply eIl | apply eNeg | apply eOrF | apply eAndT | apply eNotT | apply eNotF | apply eVal | apply eLst | apply eSlc | apply eOs | apply eSort | apply eLr | apply eSum | apply eAbs) | exact vF rfl | exact vS rfl | exact vB rfl | exact rfl)); done)) (by decide) ?_)
  simp only [demote_zero, demote_succ, dm, List.set_cons_zero, List.set_cons_succ, isList, Bool.false_and, Bool.true_and]
  refine W.cons (W.whileT (W.while (I := fun r ρ => ∃ x y, ρ = [some ⟨false, .int a⟩, some ⟨false, .int b⟩, some ⟨false, .int (x : Nat)⟩, some ⟨false, .int (y : Nat)⟩] ∧ Nat.gcd x y = Int.gcd a b ∧ Euc r x y) 3900 NN _ (by decide) ⟨a.natAbs, b.natAbs, rfl, rfl, ?_⟩ ?_))
  · apply Euc.start
    have h1 := fb_two 1950
    rw [show 2 * 1950 + 2 = 3900 + 2 from rfl] at h1
    have h2 : a.natAbs + b.natAbs < 2 ^ 1901 := by unfold Lim at *; rw [show (2 : Nat) ^ 1901 = 2 ^ 1900 * 2 from rfl]; omega
    exact Nat.lt_of_lt_of_le (Nat.lt_of_lt_of_le h2 (Nat.pow_le_pow_right (by decide) (by decide))) h1
  · rintro r ρ ⟨x, y, rfl, hg, he⟩
    refine W.cons (W.ite (v := decide ((y : Int) = 0)) (by ((repeat' (first | with_reducible (first | apply eInt | apply eNil | apply idx_q0 | apply idx_q1 | apply tup01 | apply tup11 | apply add_nat1 | apply neg1 | apply eOn | apply eBool | apply eStrg | apply eV | apply eIdx | apply eBin | apply eCall | apply eCons | apply eCmp | apply eTup | apply eLen | apply eR1 | apply eR2 | apply eIl | apply eNeg | apply eOrF | apply eAndT | apply eNotT | apply eNotF | apply eVal | apply eLst | apply eSlc | apply eOs | apply eSort | apply eLr | apply eSum | apply eAbs) | exact vF rfl | exact vS rfl | exact vB rfl | exact rfl)); done)) (fun hy => ?_) (fun hy => ?_))
    · have hy0 : y = 0 := by simpa using hy
      subst hy0
      rw [Nat.gcd_zero_right] at hg
      subst hg
      refine W.cons ⟨_, by rw [exS], ?_⟩
      simp only [Nx]
      obtain ⟨g0, g1⟩ := gcd_lim (a := a) (by assumption) hb
      refine W.cons (W.ite (v := decide (b < 0)) (by ((repeat' (first | with_reducible (first | apply eInt | apply eNil | apply idx_q0 | apply idx_q1 | apply tup01 | apply tup11 | apply add_nat1 | apply neg1 | apply eOn | apply eBool | apply eStrg | apply eV | apply eIdx | apply eBin | apply eCall | apply eCons | apply eCmp | apply eTup | apply eLen | apply eR1 | apply eR2 | apply eIl | apply eNeg | apply eOrF | apply eAndT | apply eNotT | apply eNotF | apply eVal | apply eLst | apply eSlc | apply eOs | apply eSort | apply eLr | apply eSum | apply eAbs) | exact vF rfl | exact vS rfl | exact vB rfl | exact rfl)); done)) (fun hn => ?_) (fun hn => W.nil ?_))
      · have hn : b < 0 := by simpa using hn
        refine W.cons (W.ret (d := qD (Rat.divInt a b)) (m := .fresh) ?_ (by decide) rfl)
        have f1 := fdiv_ok (x := -a) (m := .fresh) (m' := .fresh) g0 g1
        have f2 := fdiv_ok (x := -b) (m := .fresh) (m' := .fresh) g0 g1
        rw [← Rat.neg_divInt_neg, ← frac_pos (by omega), Int.gcd_neg, Int.neg_gcd]
        ((repeat' first | with_reducible (first | apply f1 | apply f2) | (first | with_reducible (first | apply eInt | apply eNil | apply idx_q0 | apply idx_q1 | apply tup01 | apply tup11 | apply add_nat1 | apply neg1 | apply eOn | apply eBool | apply eStrg | apply eV | apply eIdx | apply eBin | apply eCall | apply eCons | apply eCmp | apply eTup | apply eLen | apply eR1 | apply eR2 | apply eIl | apply eNeg | apply eOrF | apply eAndT | apply eNotT | apply eNotF | apply eVal | apply eLst | apply eSlc | apply eOs | apply eSort | apply eLr | apply eSum | apply eAbs) | exact vF rfl | exact vS rfl | exact vB rfl | exact rfl)); done)
      · have hn : ¬ b < 0 := by simpa using hn
        refine W.cons (W.ret (d := qD (Rat.divInt a b)) (m := .fresh) ?_ (by decide) rfl)
        have f1 := fdiv_ok (x := a) (m := .fresh) (m' := .fresh) g0 g1
        have f2 := fdiv_ok (x := b) (m := .fresh) (m' := .fresh) g0 g1
        rw [← frac_pos (by omega)]
        ((repeat' first | with_reducible (first | apply f1 | apply f2) | (first | with_reducible (first | apply eInt | apply eNil | apply idx_q0 | apply idx_q1 | apply tup01 | apply tup11 | apply add_nat1 | apply neg1 | apply eOn | apply eBool | apply eStrg | apply eV | apply eIdx | apply eBin | apply eCall | apply eCons | apply eCmp | apply eTup | apply eLen | apply eR1 | apply eR2 | apply eIl | apply eNeg | apply eOrF | apply eAndT | apply eNotT | apply eNotF | apply eVal | apply eLst | apply eSlc | apply eOs | apply eSort | apply eLr | apply eSum | apply eAbs) | exact vF rfl | exact vS rfl | exact vB rfl | exact rfl)); done)
    · have hy0 : y ≠ 0 := by simpa using hy
      refine W.nil ?_
      have hm := mod_nat x .fresh .fresh hy0
      refine W.cons (W.unpack2 (a := .int y) (b := .int ((x % y : Nat) : Int)) (by ((repeat' first | with_reducible (first | apply hm) | (first | with_reducible (first | apply eInt | apply eNil | apply idx_q0 | apply idx_q1 | apply tup01 | apply tup11 | apply add_nat1 | apply neg1 | apply eOn | apply eBool | apply eStrg | apply eV | apply eIdx | apply eBin | apply eCall | apply eCons | apply eCmp | apply eTup | apply eLen | apply eR1 | apply eR2 | apply eIl | apply eNeg | apply eOrF | apply eAndT | apply eNotT | apply eNotF | apply eVal | apply eLst | apply eSlc | apply eOs | apply eSort | apply eLr | apply eSum | apply eAbs) | exact vF rfl | exact vS rfl | exact vB rfl | exact rfl)); done)) (by decide) ?_)
      simp only [demote_zero, demote_succ, dm, List.set_cons_zero, List.set_cons_succ, isList, Bool.false_and, Bool.true_and]
      refine W.nil ?_
      cases r with
      | zero => exact absurd he.done hy0
      | succ r => exact ⟨r, rfl, y, x % y, rfl, by rw [← hg, Nat.gcd_comm x y, Nat.gcd_rec y x, Nat.gcd_comm], he.step hy0⟩
theorem pair_run (Φ : Tab) : SPair (runN Φ) := fun a b h0 ha hb => run_of (f := ⟨"_law_pair", ["n", "d"], ["x", "y"], mb__law_pair⟩) rfl (pair_body Φ a b h0 ha hb)


noncomputable def matD (n m : Nat) (f : Nat → Nat → D) : D := .list (tab n fun i => .list (tab m fun j => f i j))
noncomputable def qm (n m : Nat) (f : Nat → Nat → Rat) : D := matD n m fun i j => qD (f i j)
noncomputable def im (n m : Nat) (f : Nat → Nat → Int) : D := matD n m fun i j => .int (f i j)
noncomputable def iv (n : Nat) (f : Nat → Int) : D := .list (tab n fun i => .int (f i))

theorem matD_ext {n m : Nat} {f g : Nat → Nat → D} (h : ∀ i j, i < n → j < m → f i j = g i j) : matD n m f = matD n m g := by
  unfold matD
  congr 1
  exact tab_ext fun i hi => congrArg _ (tab_ext fun j hj => h i j hi hj)
theorem qm_ext {n m : Nat} {f g : Nat → Nat → Rat} (h : ∀ i j, i < n → j < m → f i j = g i j) : qm n m f = qm n m g := matD_ext fun i j hi hj => by rw [h i j hi hj]

theorem vm_mat (n m : Nat) (f : Nat → Nat → D) : varMode ⟨false, matD n m f⟩ = .shared := rfl
theorem vm_qm (n m : Nat) (f : Nat → Nat → Rat) : varMode ⟨false, qm n m f⟩ = .shared := rfl
theorem vm_im (n m : Nat) (f : Nat → Nat → Int) : varMode ⟨false, im n m f⟩ = .shared := rfl

theorem idx_list {ds : List D} {m m' : Mode} {i : Nat} {k : Int} (hk : k = i) {d : D} (hi : i ≤ lim) (h : ds[i]? = some d) : idxD (.list ds, m) (.int k, m') = some (d, norm d (if m = .borrow then .borrow else .shared)) := by
  subst hk
  unfold idxD itemsOf
  simp only
  rw [if_neg (by omega), Int.toNat_natCast, h]
theorem idx_mat {n m : Nat} (f : Nat → Nat → D) {i : Nat} (md : Mode) (hn : n ≤ 64) (hi : i < n) : idxD (matD n m f, .shared) (.int (i : Int), md) = some (.list (tab m (f i)), .shared) := by
  unfold matD
  rw [idx_list rfl (by unfold lim; omega) (tab_get _ hi)]
  rfl
theorem idx_row {m : Nat} (g : Nat → D) {j : Nat} (md : Mode) (hg : isList (g j) = false) (hm : m ≤ 64) (hj : j < m) : idxD (.list (tab m g), .shared) (.int (j : Int), md) = some (g j, .fresh) := by
  rw [idx_list rfl (by unfold lim; omega) (tab_get _ hj)]
  unfold norm
  cases isAtom (g j) <;> simp [hg]
theorem idx_rowA {m : Nat} (g : Nat → D) {j : Nat} (md md' : Mode) (hg : isAtom (g j) = true) (hm : m ≤ 64) (hj : j < m) : idxD (.list (tab m g), md') (.int (j : Int), md) = some (g j, .fresh) := by
  rw [idx_list rfl (by unfold lim; omega) (tab_get _ hj)]
  unfold norm
  simp [hg]
theorem flat_row {m : Nat} {g : Nat → D} (hg : ∀ j, isList (g j) = false) : flatMode (tab m g) = .fresh := by
  unfold flatMode
  rw [if_pos]
  rw [List.all_eq_true]
  intro x hx
  simp [tab] at hx
  obtain ⟨j, _, rfl⟩ := hx
  simp [hg]
theorem slc_row {m : Nat} {g : Nat → D} (hg : ∀ j, isList (g j) = false) (hm : m ≤ 64) : slcD (.list (tab m g), .shared) none none = some (.list (tab m g), .fresh) := by
  unfold slcD
  simp only [cutL]
  rw [if_neg (by rw [tab_length]; unfold lim; simp; exact Nat.le_trans (by assumption) (by decide)), flat_row hg]
theorem list_mat {n m : Nat} (f : Nat → Nat → D) (hn : n ≤ 64) : listD (matD n m f, .shared) = some (tab n fun i => .list (tab m (f i))) := by
  unfold matD listD
  simp only
  rw [if_neg (by rw [tab_length]; unfold lim; simp; exact Nat.le_trans (by assumption) (by decide))]
theorem list_qm {n m : Nat} (f : Nat → Nat → Rat) (hn : n ≤ 64) : listD (qm n m f, .shared) = some (tab n fun i => .list (tab m fun j => qD (f i j))) := list_mat _ hn
theorem list_im {n m : Nat} (f : Nat → Nat → Int) (hn : n ≤ 64) : listD (im n m f, .shared) = some (tab n fun i => .list (tab m fun j => .int (f i j))) := list_mat _ hn
theorem list_tab {n : Nat} (f : Nat → D) (hn : n ≤ 64) : listD (.list (tab n f), .shared) = some (tab n f) := by
  unfold listD
  simp only
  rw [if_neg (by rw [tab_length]; unfold lim; simp; exact Nat.le_trans (by assumption) (by decide))]
theorem len_mat {n m : Nat} (f : Nat → Nat → D) (md : Mode) (hn : n ≤ 64) : lenD (matD n m f, md) = some (.int n, .fresh) := by
  unfold matD lenD
  simp only
  rw [if_pos (by rw [tab_length]; unfold lim; exact Nat.le_trans (by assumption) (by decide)), tab_length]
theorem len_tab {n : Nat} (f : Nat → D) (md : Mode) (hn : n ≤ 64) : lenD (.list (tab n f), md) = some (.int n, .fresh) := by
  unfold lenD
  simp only
  rw [if_pos (by rw [tab_length]; unfold lim; exact Nat.le_trans (by assumption) (by decide)), tab_length]
theorem range_ok {a b : Nat} (ha : a ≤ 64) (hb : b ≤ 64) : rangeD (a : Int) (b : Int) = some (upto a b) := by
  unfold rangeD
  rw [if_neg (by unfold lim; omega)]
theorem range0_ok {b : Nat} (hb : b ≤ 64) : rangeD 0 (b : Int) = some (upto 0 b) := range_ok (a := 0) (by decide) hb
theorem range0_tab {b : Nat} (hb : b ≤ 64) : rangeD 0 (b : Int) = some (tab b fun i => .int (i : Nat)) := by
  rw [range0_ok hb, show (0 : Int) = ((0 : Nat) : Int) from rfl, tab_upto]
  simp

noncomputable def SCopy (Φ : Tab) : Prop := ∀ n m f, n ≤ 64 → m ≤ 64 → (∀ i j, isList (f i j) = false) → Φ "copy_rows" [matD n m f] = some (matD n m f, true)
theorem copy_body (Φ : Tab) (n m : Nat) (f : Nat → Nat → D) (hn : n ≤ 64) (hm : m ≤ 64) (hf : ∀ i j, isList (f i j) = false) : W (exSs Φ NN mb_copy_rows (slots [matD n m f] 0)) (· = .ret (matD n m f) true) := by
  delta mb_copy_rows; simp only [List.map_cons, List.map_nil, List.cons_append, List.nil_append, List.replicate, slots]
  refine W.cons (W.ret (d := matD n m f) (m := .fresh) (comp_tab (g := fun i => .list (tab m (f i))) (le_lim (by assumption)) (by ((repeat' first | with_reducible (first | apply vm_mat | apply list_mat f hn) | (first | with_reducible (first | apply eInt | apply eNil | apply idx_q0 | apply idx_q1 | apply tup01 | apply tup11 | apply add_nat1 | apply neg1 | apply eOn | apply eBool | apply eStrg | apply eV | apply eIdx | apply eBin | apply eCall | apply eCons | apply eCmp | apply eTup | apply eLen | apply eR1 | apply eR2 | apply eIl | apply eNeg | apply eOrF | apply eAndT | apply eNotT | apply eNotF | apply eVal | apply eLst | apply eSlc | apply eOs | apply eSort | apply eLr | apply eSum | apply eAbs) | exact vF rfl | exact vS rfl | exact vB rfl | exact rfl)); done)) fun i hi => ?_) (by decide) rfl)
  ((repeat' first | with_reducible (first | apply innerR | apply vm_list | apply slc_row (hf i) hm) | (first | with_reducible (first | apply eInt | apply eNil | apply idx_q0 | apply idx_q1 | apply tup01 | apply tup11 | apply add_nat1 | apply neg1 | apply eOn | apply eBool | apply eStrg | apply eV | apply eIdx | apply eBin | apply eCall | apply eCons | apply eCmp | apply eTup | apply eLen | apply eR1 | apply eR2 | apply eIl | apply eNeg | apply eOrF | apply eAndT | apply eNotT | apply eNotF | apply eVal | apply eLst | apply eSlc | apply eOs | apply eSort | apply eLr | apply eSum | apply eAbs) | exact vF rfl | exact vS rfl | exact vB rfl | exact rfl)); done)
theorem copy_run (Φ : Tab) : SCopy (runN Φ) := fun n m f hn hm hf => run_of (f := ⟨"copy_rows", ["m"], [], mb_copy_rows⟩) rfl (copy_body Φ n m f hn hm hf)

noncomputable def SPiv (Φ : Tab) : Prop := ∀ n m f (c s : Nat) (z : D) (nz : Nat → Bool), n ≤ 64 → m ≤ 64 → c < m → s ≤ n → isList z = false → (∀ i j, isList (f i j) = false) → (∀ i, s ≤ i → i < n → cmpD .NotEq (f i c) z = some (nz i)) →
  ∃ v fr, Φ "pivot_row" [matD n m f, .int c, .int s, z] = some (.int v, fr) ∧ ((v = -1 ∧ ∀ i, s ≤ i → i < n → nz i = false) ∨ ∃ r : Nat, v = r ∧ s ≤ r ∧ r < n ∧ nz r = true)
theorem piv_body (Φ : Tab) (n m : Nat) (f : Nat → Nat → D) (c s : Nat) (z : D) (nz : Nat → Bool) (hn : n ≤ 64) (hm : m ≤ 64) (hc : c < m) (hs : s ≤ n) (hz : isList z = false) (hf : ∀ i j, isList (f i j) = false) (hnz : ∀ i, s ≤ i → i < n → cmpD .NotEq (f i c) z = some (nz i)) :
    W (exSs Φ NN mb_pivot_row (slots [matD n m f, .int c, .int s, z] 1)) (fun o => ∃ v fr, o = .ret (.int v) fr ∧ ((v = -1 ∧ ∀ i, s ≤ i → i < n → nz i = false) ∨ ∃ r : Nat, v = r ∧ s ≤ r ∧ r < n ∧ nz r = true)) := by
  delta mb_pivot_row; simp only [List.map_cons, List.map_nil, List.cons_append, List.nil_append, List.replicate, slots]
  refine W.cons (W.forS (ds := upto s n) (by ((repeat' first | with_reducible (first | apply vm_mat | apply len_mat f _ hn | apply range_ok (Nat.le_trans hs hn) hn) | (first | with_reducible (first | apply eInt | apply eNil | apply idx_q0 | apply idx_q1 | apply tup01 | apply tup11 | apply add_nat1 | apply neg1 | apply eOn | apply eBool | apply eStrg | apply eV | apply eIdx | apply eBin | apply eCall | apply eCons | apply eCmp | apply eTup | apply eLen | apply eR1 | apply eR2 | apply eIl | apply eNeg | apply eOrF | apply eAndT | apply eNotT | apply eNotF | apply eVal | apply eLst | apply eSlc | apply eOs | apply eSort | apply eLr | apply eSum | apply eAbs) | exact vF rfl | exact vS rfl | exact vB rfl | exact rfl)); done)) ?_)
  simp only [demote_zero, demote_succ, dm, List.set_cons_zero, List.set_cons_succ, isList, Bool.false_and, Bool.true_and]
  refine W.loopU (I := fun i ρ => ∃ o, ρ = [some ⟨false, matD n m f⟩, some ⟨false, .int c⟩, some ⟨false, .int s⟩, some ⟨false, z⟩, o] ∧ ∀ k, s ≤ k → k < i → nz k = false) rfl rfl hs ⟨none, rfl, fun k h1 h2 => by omega⟩ ?_ ?_
  · rintro i ρ h1 h2 ⟨o, rfl, hI⟩
    simp only [demote_zero, demote_succ, dm, List.set_cons_zero, List.set_cons_succ, isList, Bool.false_and, Bool.true_and]
    refine W.cons (W.ite (v := nz i) (by ((repeat' first | with_reducible (first | apply vm_mat | apply idx_mat f _ hn h2 | apply idx_row (f i) _ (hf i c) hm hc | apply hnz i h1 h2) | (first | with_reducible (first | apply eInt | apply eNil | apply idx_q0 | apply idx_q1 | apply tup01 | apply tup11 | apply add_nat1 | apply neg1 | apply eOn | apply eBool | apply eStrg | apply eV | apply eIdx | apply eBin | apply eCall | apply eCons | apply eCmp | apply eTup | apply eLen | apply eR1 | apply eR2 | apply eIl | apply eNeg | apply eOrF | apply eAndT | apply eNotT | apply eNotF | apply eVal | apply eLst | apply eSlc | apply eOs | apply eSort | apply eLr | apply eSum | apply eAbs) | exact vF rfl | exact vS rfl | exact vB rfl | exact rfl)); done)) (fun e => ?_) (fun e => ?_))
    · refine W.cons (W.retVar rfl ⟨_, _, rfl, .inr ⟨i, rfl, h1, h2, e⟩⟩)
    · refine W.nil (W.nil ⟨_, rfl, fun k hk1 hk2 => ?_⟩)
      by_cases hk : k = i
      · rw [hk]; exact e
      · exact hI k hk1 (by omega)
  · rintro ρ ⟨o, rfl, hI⟩
    exact W.cons (W.ret (d := .int (-1)) (m := .fresh) rfl (by decide) ⟨_, _, rfl, .inl ⟨rfl, hI⟩⟩)
theorem piv_run (Φ : Tab) : SPiv (runN Φ) := fun n m f c s z nz hn hm hc hs hz hf hnz => by
  obtain ⟨o, e, v, fr, rfl, h⟩ := piv_body Φ n m f c s z nz hn hm hc hs hz hf hnz
  exact ⟨v, fr, run_of (f := ⟨"pivot_row", ["m", "c", "start", "zero"], ["i"], mb_pivot_row⟩) rfl ⟨_, e, rfl⟩, h⟩

theorem isList_q (x : Rat) : isList (qD x) = false := rfl
theorem q_zero : qD 0 = .tuple [.int 0, .int 1] := rfl
theorem q_one : qD 1 = .tuple [.int 1, .int 1] := rfl
theorem cmp_ne_q (x y : Rat) : cmpD .NotEq (qD x) (qD y) = some (!decide (x = y)) := by
  have e : PyData.eqv (qD x) (qD y) = decide (x = y) := by
    unfold qD
    rw [Bool.eq_iff_iff]
    simp only [PyData.eqv, PyData.eqvAll, Bool.and_true, Bool.and_eq_true, beq_iff_eq, decide_eq_true_eq]
    exact ⟨fun h => Rat.ext h.1 (by omega), fun h => by rw [h]; exact ⟨rfl, rfl⟩⟩
  show (if (cmpD.SeqAtOk (qD x) && cmpD.SeqAtOk (qD y)) = true then some (!PyData.eqv (qD x) (qD y)) else none) = _
  rw [if_pos (by simp [cmpD.SeqAtOk, qD, PyData.canLay0, PyData.canLayAll0, PyData.depth, PyData.depthAll]), e]

noncomputable def SInts (Φ : Tab) : Prop := ∀ n m (f : Nat → Nat → Int), n ≤ 64 → m ≤ 64 → Φ "from_ints" [im n m f] = some (qm n m fun i j => (f i j : Rat), true)
theorem ints_body (Φ : Tab) (n m : Nat) (f : Nat → Nat → Int) (hn : n ≤ 64) (hm : m ≤ 64) : W (exSs Φ NN mb_from_ints (slots [im n m f] 0)) (· = .ret (qm n m fun i j => (f i j : Rat)) true) := by
  delta mb_from_ints; simp only [List.map_cons, List.map_nil, List.cons_append, List.nil_append, List.replicate, slots]
  refine W.cons (W.ret (d := qm n m fun i j => (f i j : Rat)) (m := .fresh) (comp_tab (g := fun i => .list (tab m fun j => .int (f i j))) (le_lim (by assumption)) ?_ fun i hi => ?_) (by decide) rfl)
  · ((repeat' first | with_reducible (first | apply list_im _ hn) | (first | with_reducible (first | apply eInt | apply eNil | apply idx_q0 | apply idx_q1 | apply tup01 | apply tup11 | apply add_nat1 | apply neg1 | apply eOn | apply eBool | apply eStrg | apply eV | apply eIdx | apply eBin | apply eCall | apply eCons | apply eCmp | apply eTup | apply eLen | apply eR1 | apply eR2 | apply eIl | apply eNeg | apply eOrF | apply eAndT | apply eNotT | apply eNotF | apply eVal | apply eLst | apply eSlc | apply eOs | apply eSort | apply eLr | apply eSum | apply eAbs) | exact vF rfl | exact vS rfl | exact vB rfl | exact rfl)); done)
  · refine comp_tab (g := fun j => .int (f i j)) (le_lim (by assumption)) ?_ fun j hj => ?_
    · ((repeat' first | with_reducible (first | apply innerR | apply vm_list | apply list_tab _ hm) | (first | with_reducible (first | apply eInt | apply eNil | apply idx_q0 | apply idx_q1 | apply tup01 | apply tup11 | apply add_nat1 | apply neg1 | apply eOn | apply eBool | apply eStrg | apply eV | apply eIdx | apply eBin | apply eCall | apply eCons | apply eCmp | apply eTup | apply eLen | apply eR1 | apply eR2 | apply eIl | apply eNeg | apply eOrF | apply eAndT | apply eNotT | apply eNotF | apply eVal | apply eLst | apply eSlc | apply eOs | apply eSort | apply eLr | apply eSum | apply eAbs) | exact vF rfl | exact vS rfl | exact vB rfl | exact rfl)); done)
    · ((repeat' (first | with_reducible (first | apply eInt | apply eNil | apply idx_q0 | apply idx_q1 | apply tup01 | apply tup11 | apply add_nat1 | apply neg1 | apply eOn | apply eBool | apply eStrg | apply eV | apply eIdx | apply eBin | apply eCall | apply eCons | apply eCmp | apply eTup | apply eLen | apply eR1 | apply eR2 | apply eIl | apply eNeg | apply eOrF | apply eAndT | apply eNotT | apply eNotF | apply eVal | apply eLst | apply eSlc | apply eOs | apply eSort | apply eLr | apply eSum | apply eAbs) | exact vF rfl | exact vS rfl | exact vB rfl | exact rfl)); done)
theorem ints_run (Φ : Tab) : SInts (runN Φ) := fun n m f hn hm => run_of (f := ⟨"from_ints", ["rows"], [], mb_from_ints⟩) rfl (ints_body Φ n m f hn hm)

noncomputable def SIdent (Φ : Tab) : Prop := ∀ n : Nat, n ≤ 64 → Φ "identity" [.int n] = some (qm n n fun i j => if i = j then 1 else 0, true)
theorem ident_body (Φ : Tab) (n : Nat) (hn : n ≤ 64) : W (exSs Φ NN mb_identity (slots [.int n] 0)) (· = .ret (qm n n fun i j => if i = j then 1 else 0) true) := by
  delta mb_identity; simp only [List.map_cons, List.map_nil, List.cons_append, List.nil_append, List.replicate, slots]
  refine W.cons (W.ret (d := qm n n fun i j => if i = j then 1 else 0) (m := .fresh) (comp_tab (g := fun i => .int (i : Nat)) (le_lim (by assumption)) ?_ fun i hi => ?_) (by decide) rfl)
  · ((repeat' first | with_reducible (first | apply range0_tab hn) | (first | with_reducible (first | apply eInt | apply eNil | apply idx_q0 | apply idx_q1 | apply tup01 | apply tup11 | apply add_nat1 | apply neg1 | apply eOn | apply eBool | apply eStrg | apply eV | apply eIdx | apply eBin | apply eCall | apply eCons | apply eCmp | apply eTup | apply eLen | apply eR1 | apply eR2 | apply eIl | apply eNeg | apply eOrF | apply eAndT | apply eNotT | apply eNotF | apply eVal | apply eLst | apply eSlc | apply eOs | apply eSort | apply eLr | apply eSum | apply eAbs) | exact vF rfl | exact vS rfl | exact vB rfl | exact rfl)); done)
  · refine comp_tab (g := fun i => .int (i : Nat)) (le_lim (by assumption)) ?_ fun j hj => ?_
    · ((repeat' first | with_reducible (first | apply innerR | apply vm_int | apply range0_tab hn) | (first | with_reducible (first | apply eInt | apply eNil | apply idx_q0 | apply idx_q1 | apply tup01 | apply tup11 | apply add_nat1 | apply neg1 | apply eOn | apply eBool | apply eStrg | apply eV | apply eIdx | apply eBin | apply eCall | apply eCons | apply eCmp | apply eTup | apply eLen | apply eR1 | apply eR2 | apply eIl | apply eNeg | apply eOrF | apply eAndT | apply eNotT | apply eNotF | apply eVal | apply eLst | apply eSlc | apply eOs | apply eSort | apply eLr | apply eSum | apply eAbs) | exact vF rfl | exact vS rfl | exact vB rfl | exact rfl)); done)
    · simp only [evE, evEs, evO, evI, evT, demote_zero, demote_succ, demote_nil, dm, demoteAll_eq, List.map_cons, List.map_nil, List.getElem?_cons_zero, List.getElem?_cons_succ, List.set_cons_zero, List.set_cons_succ, isList, if_true, vm_q, vm_int, vm_list, vm_own, vm_bool, vm_str, idx_q0, idx_q1, Bool.and_false, Bool.and_true, List.cons_append, List.nil_append, List.replicate, cmp_eq_int, cmp_ne_int, cmp_lt_int, cmp_gt_int, innerR, vm_int]
      by_cases e : i = j
      · subst e; simp; rfl
      · have : ¬ (i : Int) = j := by omega
        simp only [this, e, decide_false, if_false]; rfl
theorem ident_run (Φ : Tab) : SIdent (runN Φ) := fun n hn => run_of (f := ⟨"identity", ["n"], [], mb_identity⟩) rfl (ident_body Φ n hn)

/-! ## row operations -/
noncomputable def swapF {α} (f : Nat → Nat → α) (i j : Nat) : Nat → Nat → α := fun r c => if r = j then f i c else if r = i then f j c else f r c
noncomputable def scaleF (f : Nat → Nat → Rat) (i : Nat) (k : Rat) : Nat → Nat → Rat := fun r c => if r = i then k * f i c else f r c
noncomputable def addF (f : Nat → Nat → Rat) (i j : Nat) (k : Rat) : Nat → Nat → Rat := fun r c => if r = i then f i c + k * f j c else f r c

theorem W.setItem {Φ : Tab} {N : Nat} {Q : Out → Prop} {k : Rho → Prop} {ρ : Rho} {x : Nat} {i e : ME} {d : D} {ds : List D} {v : Int} {m : Mode} {r : Nat} (he : evE Φ e ρ = some (d, .fresh)) (hi : evE Φ i ρ = some (.int v, m)) (hv : v = r) (hx : ρ[x]? = some (some ⟨true, .list ds⟩)) (hr : r < ds.length) (hl : ds.length ≤ 64)
    (h : k (ρ.set x (some ⟨true, .list (ds.set r d)⟩))) : W (exS Φ N (.setItem x i e) ρ) (Nx Q k) := by
  subst hv
  refine ⟨.next _, ?_, h⟩
  rw [exS, he]
  simp only [hi, hx, putAt]
  rw [if_pos ⟨trivial, by omega, by omega, by unfold lim; exact Nat.le_trans (by assumption) (by decide)⟩, Int.toNat_natCast]

theorem call_copy {Φ : Tab} (h : SCopy Φ) {n m : Nat} {f : Nat → Nat → D} (hn : n ≤ 64) (hm : m ≤ 64) (hf : ∀ i j, isList (f i j) = false) : callD Φ "copy_rows" [(matD n m f, .shared)] = some (matD n m f, .fresh) := call_ok (h n m f hn hm hf) rfl

noncomputable def SSwap (Φ : Tab) : Prop := ∀ n m f (i j : Nat), n ≤ 64 → m ≤ 64 → i < n → j < n → (∀ i j, isList (f i j) = false) → Φ "rows_swapped" [matD n m f, .int i, .int j] = some (matD n m (swapF f i j), true)
theorem swap_body (Φ : Tab) (hc : SCopy Φ) (n m : Nat) (f : Nat → Nat → D) (i j : Nat) (hn : n ≤ 64) (hm : m ≤ 64) (hi : i < n) (hj : j < n) (hf : ∀ i j, isList (f i j) = false) :
    W (exSs Φ NN mb_rows_swapped (slots [matD n m f, .int i, .int j] 1)) (· = .ret (matD n m (swapF f i j)) true) := by
  delta mb_rows_swapped; simp only [List.map_cons, List.map_nil, List.cons_append, List.nil_append, List.replicate, slots]
  refine W.cons (W.assign (d := matD n m f) (by ((repeat' first | with_reducible (first | apply vm_mat | apply call_copy hc hn hm hf) | (first | with_reducible (first | apply eInt | apply eNil | apply idx_q0 | apply idx_q1 | apply tup01 | apply tup11 | apply add_nat1 | apply neg1 | apply eOn | apply eBool | apply eStrg | apply eV | apply eIdx | apply eBin | apply eCall | apply eCons | apply eCmp | apply eTup | apply eLen | apply eR1 | apply eR2 | apply eIl | apply eNeg | apply eOrF | apply eAndT | apply eNotT | apply eNotF | apply eVal | apply eLst | apply eSlc | apply eOs | apply eSort | apply eLr | apply eSum | apply eAbs) | exact vF rfl | exact vS rfl | exact vB rfl | exact rfl)); done)) ?_)
  simp only [demote_zero, demote_succ, dm, List.set_cons_zero, List.set_cons_succ, isList, Bool.false_and, Bool.true_and, matD]
  refine W.cons (W.setItem (d := .list (tab m (f j))) (ds := tab n fun i => .list (tab m fun j => f i j)) (r := i) (m := .fresh) ?_ (by ((repeat' first | with_reducible (first | apply vm_int) | (first | with_reducible (first | apply eInt | apply eNil | apply idx_q0 | apply idx_q1 | apply tup01 | apply tup11 | apply add_nat1 | apply neg1 | apply eOn | apply eBool | apply eStrg | apply eV | apply eIdx | apply eBin | apply eCall | apply eCons | apply eCmp | apply eTup | apply eLen | apply eR1 | apply eR2 | apply eIl | apply eNeg | apply eOrF | apply eAndT | apply eNotT | apply eNotF | apply eVal | apply eLst | apply eSlc | apply eOs | apply eSort | apply eLr | apply eSum | apply eAbs) | exact vF rfl | exact vS rfl | exact vB rfl | exact rfl)); done)) rfl rfl (by rw [tab_length]; exact hi) (by rw [tab_length]; exact hn) ?_)
  · have h1 := idx_mat f .fresh hn hj (m := m)
    unfold matD at h1
    ((repeat' first | with_reducible (first | apply vm_list | apply vm_int | apply h1 | apply slc_row (hf j) hm) | (first | with_reducible (first | apply eInt | apply eNil | apply idx_q0 | apply idx_q1 | apply tup01 | apply tup11 | apply add_nat1 | apply neg1 | apply eOn | apply eBool | apply eStrg | apply eV | apply eIdx | apply eBin | apply eCall | apply eCons | apply eCmp | apply eTup | apply eLen | apply eR1 | apply eR2 | apply eIl | apply eNeg | apply eOrF | apply eAndT | apply eNotT | apply eNotF | apply eVal | apply eLst | apply eSlc | apply eOs | apply eSort | apply eLr | apply eSum | apply eAbs) | exact vF rfl | exact vS rfl | exact vB rfl | exact rfl)); done)
  simp only [demote_zero, demote_succ, dm, List.set_cons_zero, List.set_cons_succ, isList, Bool.false_and, Bool.true_and, tab_set]
  refine W.cons (W.setItem (d := .list (tab m (f i))) (r := j) (m := .fresh) ?_ (by ((repeat' first | with_reducible (first | apply vm_int) | (first | with_reducible (first | apply eInt | apply eNil | apply idx_q0 | apply idx_q1 | apply tup01 | apply tup11 | apply add_nat1 | apply neg1 | apply eOn | apply eBool | apply eStrg | apply eV | apply eIdx | apply eBin | apply eCall | apply eCons | apply eCmp | apply eTup | apply eLen | apply eR1 | apply eR2 | apply eIl | apply eNeg | apply eOrF | apply eAndT | apply eNotT | apply eNotF | apply eVal | apply eLst | apply eSlc | apply eOs | apply eSort | apply eLr | apply eSum | apply eAbs) | exact vF rfl | exact vS rfl | exact vB rfl | exact rfl)); done)) rfl rfl (by rw [tab_length]; exact hj) (by rw [tab_length]; exact hn) ?_)
  · have h1 := idx_mat f .fresh hn hi (m := m)
    unfold matD at h1
    ((repeat' first | with_reducible (first | apply vm_list | apply vm_int | apply h1 | apply slc_row (hf i) hm) | (first | with_reducible (first | apply eInt | apply eNil | apply idx_q0 | apply idx_q1 | apply tup01 | apply tup11 | apply add_nat1 | apply neg1 | apply eOn | apply eBool | apply eStrg | apply eV | apply eIdx | apply eBin | apply eCall | apply eCons | apply eCmp | apply eTup | apply eLen | apply eR1 | apply eR2 | apply eIl | apply eNeg | apply eOrF | apply eAndT | apply eNotT | apply eNotF | apply eVal | apply eLst | apply eSlc | apply eOs | apply eSort | apply eLr | apply eSum | apply eAbs) | exact vF rfl | exact vS rfl | exact vB rfl | exact rfl)); done)
  simp only [demote_zero, demote_succ, dm, List.set_cons_zero, List.set_cons_succ, isList, Bool.false_and, Bool.true_and, tab_set]
  refine W.cons (W.retVar rfl ?_)
  show Out.ret (.list _) true = _
  congr 2
  refine tab_ext fun r _ => ?_
  unfold swapF
  by_cases e1 : r = j
  · simp only [e1, if_true]
  · by_cases e2 : r = i
    · have e3 : ¬ i = j := by omega
      simp only [e1, e2, e3, if_true, if_false]
    · simp only [e1, e2, if_true, if_false]
theorem swap_run {Φ : Tab} (hc : SCopy Φ) : SSwap (runN Φ) := fun n m f i j hn hm hi hj hf => run_of (f := ⟨"rows_swapped", ["m", "i", "j"], ["out"], mb_rows_swapped⟩) rfl (swap_body Φ hc n m f i j hn hm hi hj hf)

noncomputable def SScale (Φ : Tab) : Prop := ∀ n m f (i : Nat) k b c, n ≤ 64 → m ≤ 64 → i < n → Sz b k → (∀ j, j < m → Sz c (f i j)) → b + c ≤ 1900 → Φ "row_scaled" [qm n m f, .int i, qD k] = some (qm n m (scaleF f i k), true)
theorem scale_body (Φ : Tab) (hc : SCopy Φ) (hM : SMul Φ) (n m : Nat) (f : Nat → Nat → Rat) (i : Nat) (k : Rat) (b c : Nat) (hn : n ≤ 64) (hm : m ≤ 64) (hi : i < n) (hk : Sz b k) (hz : ∀ j, j < m → Sz c (f i j)) (hb : b + c ≤ 1900) :
    W (exSs Φ NN mb_row_scaled (slots [qm n m f, .int i, qD k] 1)) (· = .ret (qm n m (scaleF f i k)) true) := by
  simp only [mb_row_scaled, List.map_cons, List.map_nil, List.cons_append, List.nil_append, List.replicate, slots, qm]
  have hf : ∀ i j, isList ((fun i j => qD (f i j)) i j) = false := fun _ _ => rfl
  refine W.cons (W.assign (d := matD n m fun i j => qD (f i j)) (by ((repeat' first | with_reducible (first | apply vm_mat | apply call_copy hc hn hm hf) | (first | with_reducible (first | apply eInt | apply eNil | apply idx_q0 | apply idx_q1 | apply tup01 | apply tup11 | apply add_nat1 | apply neg1 | apply eOn | apply eBool | apply eStrg | apply eV | apply eIdx | apply eBin | apply eCall | apply eCons | apply eCmp | apply eTup | apply eLen | apply eR1 | apply eR2 | apply eIl | apply eNeg | apply eOrF | apply eAndT | apply eNotT | apply eNotF | apply eVal | apply eLst | apply eSlc | apply eOs | apply eSort | apply eLr | apply eSum | apply eAbs) | exact vF rfl | exact vS rfl | exact vB rfl | exact rfl)); done)) ?_)
  simp only [demote_zero, demote_succ, dm, List.set_cons_zero, List.set_cons_succ, isList, Bool.false_and, Bool.true_and, matD]
  have h1 := idx_mat (fun i j => qD (f i j)) .fresh hn hi (m := m)
  unfold matD at h1
  refine W.cons (W.setItem (d := .list (tab m fun j => qD (k * f i j))) (ds := tab n fun i => .list (tab m fun j => qD (f i j))) (r := i) (m := .fresh) ?_ (by ((repeat' first | with_reducible (first | apply vm_int) | (first | with_reducible (first | apply eInt | apply eNil | apply idx_q0 | apply idx_q1 | apply tup01 | apply tup11 | apply add_nat1 | apply neg1 | apply eOn | apply eBool | apply eStrg | apply eV | apply eIdx | apply eBin | apply eCall | apply eCons | apply eCmp | apply eTup | apply eLen | apply eR1 | apply eR2 | apply eIl | apply eNeg | apply eOrF | apply eAndT | apply eNotT | apply eNotF | apply eVal | apply eLst | apply eSlc | apply eOs | apply eSort | apply eLr | apply eSum | apply eAbs) | exact vF rfl | exact vS rfl | exact vB rfl | exact rfl)); done)) rfl rfl (by rw [tab_length]; exact hi) (by rw [tab_length]; exact hn) ?_)
  · refine comp_tab (g := fun j => qD (f i j)) (le_lim (by assumption)) (by ((repeat' first | with_reducible (first | apply vm_list | apply vm_int | apply h1 | apply list_tab _ hm) | (first | with_reducible (first | apply eInt | apply eNil | apply idx_q0 | apply idx_q1 | apply tup01 | apply tup11 | apply add_nat1 | apply neg1 | apply eOn | apply eBool | apply eStrg | apply eV | apply eIdx | apply eBin | apply eCall | apply eCons | apply eCmp | apply eTup | apply eLen | apply eR1 | apply eR2 | apply eIl | apply eNeg | apply eOrF | apply eAndT | apply eNotT | apply eNotF | apply eVal | apply eLst | apply eSlc | apply eOs | apply eSort | apply eLr | apply eSum | apply eAbs) | exact vF rfl | exact vS rfl | exact vB rfl | exact rfl)); done)) fun j hj => ?_
    have hc := call_ok (rs := [(qD k, .fresh), (qD (f i j), .fresh)]) (hM k (f i j) b c hk (hz j hj) hb) rfl
    ((repeat' first | with_reducible (first | apply hc) | (first | with_reducible (first | apply eInt | apply eNil | apply idx_q0 | apply idx_q1 | apply tup01 | apply tup11 | apply add_nat1 | apply neg1 | apply eOn | apply eBool | apply eStrg | apply eV | apply eIdx | apply eBin | apply eCall | apply eCons | apply eCmp | apply eTup | apply eLen | apply eR1 | apply eR2 | apply eIl | apply eNeg | apply eOrF | apply eAndT | apply eNotT | apply eNotF | apply eVal | apply eLst | apply eSlc | apply eOs | apply eSort | apply eLr | apply eSum | apply eAbs) | exact vF rfl | exact vS rfl | exact vB rfl | exact rfl)); done)
  simp only [demote_zero, demote_succ, dm, List.set_cons_zero, List.set_cons_succ, isList, Bool.false_and, Bool.true_and, tab_set]
  refine W.cons (W.retVar rfl ?_)
  show Out.ret (.list _) true = _
  congr 2
  refine tab_ext fun r _ => ?_
  unfold scaleF
  by_cases e2 : r = i
  · simp only [e2, if_true]
  · simp only [e2, if_true, if_false]
theorem scale_run {Φ : Tab} (hc : SCopy Φ) (hM : SMul Φ) : SScale (runN Φ) := fun n m f i k b c hn hm hi hk hz hb => run_of (f := ⟨"row_scaled", ["m", "i", "k"], ["out"], mb_row_scaled⟩) rfl (scale_body Φ hc hM n m f i k b c hn hm hi hk hz hb)

noncomputable def SRowAdd (Φ : Tab) : Prop := ∀ n m f (i j : Nat) k b c c', n ≤ 64 → m ≤ 64 → i < n → j < n → Sz b k → (∀ t, t < m → Sz c (f i t)) → (∀ t, t < m → Sz c' (f j t)) → c + (b + c') + 1 ≤ 1900 → Φ "row_added" [qm n m f, .int i, .int j, qD k] = some (qm n m (addF f i j k), true)
theorem rowadd_body (Φ : Tab) (hc : SCopy Φ) (hM : SMul Φ) (hA : SAdd Φ) (n m : Nat) (f : Nat → Nat → Rat) (i j : Nat) (k : Rat) (b c c' : Nat) (hn : n ≤ 64) (hm : m ≤ 64) (hi : i < n) (hj : j < n) (hk : Sz b k) (hz : ∀ j, j < m → Sz c (f i j)) (hz' : ∀ t, t < m → Sz c' (f j t)) (hb : c + (b + c') + 1 ≤ 1900) :
    W (exSs Φ NN mb_row_added (slots [qm n m f, .int i, .int j, qD k] 1)) (· = .ret (qm n m (addF f i j k)) true) := by
  simp only [mb_row_added, List.map_cons, List.map_nil, List.cons_append, List.nil_append, List.replicate, slots, qm]
  have hf : ∀ i j, isList ((fun i j => qD (f i j)) i j) = false := fun _ _ => rfl
  refine W.cons (W.assign (d := matD n m fun i j => qD (f i j)) (by ((repeat' first | with_reducible (first | apply vm_mat | apply call_copy hc hn hm hf) | (first | with_reducible (first | apply eInt | apply eNil | apply idx_q0 | apply idx_q1 | apply tup01 | apply tup11 | apply add_nat1 | apply neg1 | apply eOn | apply eBool | apply eStrg | apply eV | apply eIdx | apply eBin | apply eCall | apply eCons | apply eCmp | apply eTup | apply eLen | apply eR1 | apply eR2 | apply eIl | apply eNeg | apply eOrF | apply eAndT | apply eNotT | apply eNotF | apply eVal | apply eLst | apply eSlc | apply eOs | apply eSort | apply eLr | apply eSum | apply eAbs) | exact vF rfl | exact vS rfl | exact vB rfl | exact rfl)); done)) ?_)
  simp only [demote_zero, demote_succ, dm, List.set_cons_zero, List.set_cons_succ, isList, Bool.false_and, Bool.true_and, matD]
  have h1 := idx_mat (fun i j => qD (f i j)) .fresh hn hi (m := m)
  have h2 := idx_mat (fun i j => qD (f i j)) .fresh hn hj (m := m)
  unfold matD at h1 h2
  refine W.cons (W.setItem (d := .list (tab m fun t => qD (f i t + k * f j t))) (ds := tab n fun i => .list (tab m fun j => qD (f i j))) (r := i) (m := .fresh) ?_ (by ((repeat' first | with_reducible (first | apply vm_int) | (first | with_reducible (first | apply eInt | apply eNil | apply idx_q0 | apply idx_q1 | apply tup01 | apply tup11 | apply add_nat1 | apply neg1 | apply eOn | apply eBool | apply eStrg | apply eV | apply eIdx | apply eBin | apply eCall | apply eCons | apply eCmp | apply eTup | apply eLen | apply eR1 | apply eR2 | apply eIl | apply eNeg | apply eOrF | apply eAndT | apply eNotT | apply eNotF | apply eVal | apply eLst | apply eSlc | apply eOs | apply eSort | apply eLr | apply eSum | apply eAbs) | exact vF rfl | exact vS rfl | exact vB rfl | exact rfl)); done)) rfl rfl (by rw [tab_length]; exact hi) (by rw [tab_length]; exact hn) ?_)
  · refine comp_tab (g := fun t => .int (t : Nat)) (le_lim (by assumption)) (by ((repeat' first | with_reducible (first | apply vm_list | apply vm_int | apply h1 | apply len_tab _ _ hm | apply range0_tab hm) | (first | with_reducible (first | apply eInt | apply eNil | apply idx_q0 | apply idx_q1 | apply tup01 | apply tup11 | apply add_nat1 | apply neg1 | apply eOn | apply eBool | apply eStrg | apply eV | apply eIdx | apply eBin | apply eCall | apply eCons | apply eCmp | apply eTup | apply eLen | apply eR1 | apply eR2 | apply eIl | apply eNeg | apply eOrF | apply eAndT | apply eNotT | apply eNotF | apply eVal | apply eLst | apply eSlc | apply eOs | apply eSort | apply eLr | apply eSum | apply eAbs) | exact vF rfl | exact vS rfl | exact vB rfl | exact rfl)); done)) fun t ht => ?_
    have hc1 : ∀ md md', callD Φ "f_mul" [(qD k, md), (qD (f j t), md')] = some (qD (k * f j t), .fresh) ∨ md = .borrow ∨ md' = .borrow := by
      intro md md'
      by_cases e : md = .borrow
      · exact .inr (.inl e)
      by_cases e' : md' = .borrow
      · exact .inr (.inr e')
      · exact .inl (call_ok (hM k (f j t) b c' hk (hz' t ht) (by omega)) (by simp [allOk, e, e']))
    have hc2 := (hc1 .fresh .fresh).resolve_right (by simp)
    have hc3 := call_ok (rs := [(qD (f i t), .fresh), (qD (k * f j t), .fresh)]) (hA (f i t) (k * f j t) c (b + c') (hz t ht) (hk.mul (hz' t ht)) hb) rfl
    ((repeat' first | with_reducible (first | apply h1 | apply h2 | apply idx_row (fun t => qD (f i t)) _ rfl hm ht | apply idx_row (fun t => qD (f j t)) _ rfl hm ht | apply hc2 | apply hc3) | (first | with_reducible (first | apply eInt | apply eNil | apply idx_q0 | apply idx_q1 | apply tup01 | apply tup11 | apply add_nat1 | apply neg1 | apply eOn | apply eBool | apply eStrg | apply eV | apply eIdx | apply eBin | apply eCall | apply eCons | apply eCmp | apply eTup | apply eLen | apply eR1 | apply eR2 | apply eIl | apply eNeg | apply eOrF | apply eAndT | apply eNotT | apply eNotF | apply eVal | apply eLst | apply eSlc | apply eOs | apply eSort | apply eLr | apply eSum | apply eAbs) | exact vF rfl | exact vS rfl | exact vB rfl | exact rfl)); done)
  simp only [demote_zero, demote_succ, dm, List.set_cons_zero, List.set_cons_succ, isList, Bool.false_and, Bool.true_and, tab_set]
  refine W.cons (W.retVar rfl ?_)
  show Out.ret (.list _) true = _
  congr 2
  refine tab_ext fun r _ => ?_
  unfold addF
  by_cases e2 : r = i
  · simp only [e2, if_true]
  · simp only [e2, if_true, if_false]
theorem rowadd_run {Φ : Tab} (hc : SCopy Φ) (hM : SMul Φ) (hA : SAdd Φ) : SRowAdd (runN Φ) := fun n m f i j k b c c' hn hm hi hj hk hz hz' hb => run_of (f := ⟨"row_added", ["m", "i", "j", "k"], ["out"], mb_row_added⟩) rfl (rowadd_body Φ hc hM hA n m f i j k b c c' hn hm hi hj hk hz hz' hb)


noncomputable def detQ : Nat → (Nat → Nat → Rat) → Rat
  | 0, _ => 1
  | 1, f => f 0 0
  | 2, f => f 0 0 * f 1 1 - f 0 1 * f 1 0
  | _, f => f 0 0 * (f 1 1 * f 2 2 - f 1 2 * f 2 1) - f 0 1 * (f 1 0 * f 2 2 - f 1 2 * f 2 0) + f 0 2 * (f 1 0 * f 2 1 - f 1 1 * f 2 0)

theorem n1 {c : Nat} (h : c < 1) : c = 0 := Nat.lt_one_iff.mp h
theorem n2 {c : Nat} (h : c < 2) : c = 0 ∨ c = 1 := (Nat.lt_or_eq_of_le (Nat.le_of_lt_succ h)).imp n1 id
theorem n3 {c : Nat} (h : c < 3) : c = 0 ∨ c = 1 ∨ c = 2 := (Nat.lt_or_eq_of_le (Nat.le_of_lt_succ h)).elim (fun h => (n2 h).imp id .inl) fun h => .inr (.inr h)
theorem n4 {n : Nat} (h : n ≤ 3) : n = 0 ∨ n = 1 ∨ n = 2 ∨ n = 3 := (Nat.lt_or_eq_of_le h).elim (fun h => (n3 h).imp id fun h => h.imp id .inl) fun h => .inr (.inr (.inr h))

theorem det_zero_col {n c : Nat} (hn : n ≤ 3) (hc : c < n) (g : Nat → Nat → Rat) (ht : ∀ i j, j < c → j < i → i < n → g i j = 0) (hz : ∀ i, c ≤ i → i < n → g i c = 0) : detQ n g = 0 := by
  rcases n4 hn with rfl | rfl | rfl | rfl
  · omega
  · obtain rfl := n1 hc
    simp only [detQ]; exact hz 0 (by exact Nat.le_refl _) (by assumption)
  · rcases n2 hc with rfl | rfl
    · have h1 := hz 0 (by exact Nat.le_refl _) (by assumption); have h2 := hz 1 (by exact Nat.zero_le _) (by exact Nat.le_refl _)
      simp only [detQ]; grind
    · have h1 := ht 1 0 (by exact Nat.le_refl _) (by exact Nat.le_refl _) (by assumption); have h2 := hz 1 (by exact Nat.le_refl _) (by assumption)
      simp only [detQ]; grind
  · rcases n3 hc with rfl | rfl | rfl
    · have h1 := hz 0 (by exact Nat.le_refl _) (by assumption); have h2 := hz 1 (by exact Nat.zero_le _) (by exact Nat.le_of_lt (by assumption)); have h3 := hz 2 (by exact Nat.zero_le _) (by assumption)
      simp only [detQ]; grind
    · have h0 := ht 1 0 (by exact Nat.le_refl _) (by exact Nat.le_refl _) (by assumption); have h1 := ht 2 0 (by exact Nat.le_refl _) (by exact Nat.le_of_lt_succ (by assumption)) (by assumption); have h2 := hz 1 (by exact Nat.le_refl _) (by assumption); have h3 := hz 2 (by exact Nat.le_of_lt_succ (by assumption)) (by assumption)
      simp only [detQ]; grind
    · have h0 := ht 1 0 (by exact Nat.le_add_left _ _) (by exact Nat.le_refl _) (by exact Nat.le_of_lt (by assumption)); have h1 := ht 2 0 (by exact Nat.le_add_left _ _) (by exact Nat.le_add_left _ _) (by assumption); have h2 := ht 2 1 (by exact Nat.le_refl _) (by exact Nat.le_refl _) (by assumption); have h3 := hz 2 (by exact Nat.le_refl _) (by assumption)
      simp only [detQ]; grind

theorem det_swap {n i j : Nat} (hn : n ≤ 3) (hi : i < n) (hj : j < n) (hij : i ≠ j) (g : Nat → Nat → Rat) : detQ n (swapF g i j) = - detQ n g := by
  rcases n4 hn with rfl | rfl | rfl | rfl
  · omega
  · omega
  · rcases n2 hi with rfl | rfl <;> rcases n2 hj with rfl | rfl <;> first | omega | (simp [detQ, swapF]; grind)
  · rcases n3 hi with rfl | rfl | rfl <;> rcases n3 hj with rfl | rfl | rfl <;> first | omega | (simp [detQ, swapF]; grind)
theorem det_add {n i j : Nat} (hn : n ≤ 3) (hi : i < n) (hj : j < n) (hij : i ≠ j) (g : Nat → Nat → Rat) (k : Rat) : detQ n (addF g i j k) = detQ n g := by
  rcases n4 hn with rfl | rfl | rfl | rfl
  · omega
  · omega
  · rcases n2 hi with rfl | rfl <;> rcases n2 hj with rfl | rfl <;> first | omega | (simp [detQ, addF]; grind)
  · rcases n3 hi with rfl | rfl | rfl <;> rcases n3 hj with rfl | rfl | rfl <;> first | omega | (simp [detQ, addF]; grind)
theorem det_scale {n i : Nat} (hn : n ≤ 3) (hi : i < n) (g : Nat → Nat → Rat) (k : Rat) : detQ n (scaleF g i k) = k * detQ n g := by
  rcases n4 hn with rfl | rfl | rfl | rfl
  · omega
  · obtain rfl := n1 hi
    simp [detQ, scaleF]
  · rcases n2 hi with rfl | rfl <;> (simp [detQ, scaleF]; grind)
  · rcases n3 hi with rfl | rfl | rfl <;> (simp [detQ, scaleF]; grind)
noncomputable def prodD (g : Nat → Nat → Rat) : Nat → Rat
  | 0 => 1
  | k + 1 => prodD g k * g k k
theorem det_tri {n : Nat} (hn : n ≤ 3) (g : Nat → Nat → Rat) (ht : ∀ i j, j < i → i < n → g i j = 0) : detQ n g = prodD g n := by
  rcases n4 hn with rfl | rfl | rfl | rfl
  · rfl
  · simp only [detQ, prodD]; grind
  · have h1 := ht 1 0 (by exact Nat.le_refl _) (by exact Nat.le_refl _)
    simp only [detQ, prodD]; grind
  · have h1 := ht 1 0 (by exact Nat.le_refl _) (by exact Nat.le_of_lt (by assumption)); have h2 := ht 2 0 (by exact Nat.le_add_left _ _) (by assumption); have h3 := ht 2 1 (by exact Nat.le_refl _) (by assumption)
    simp only [detQ, prodD]; grind

/-- bits after so many steps -/
noncomputable def bits : Nat → Nat
  | 0 => 8
  | c + 1 => 4 * bits c + 2
theorem bits_mono {a b : Nat} (h : a ≤ b) : bits a ≤ bits b := by
  induction h with
  | refl => exact Nat.le_refl _
  | step _ ih => exact Nat.le_trans ih (by rw [bits]; omega)
theorem bits3 {c : Nat} (h : c ≤ 3) : bits c ≤ 554 := bits_mono h
theorem bits2 {c : Nat} (h : c < 3) : bits c ≤ 138 := bits_mono (Nat.le_of_lt_succ h)

theorem call_int {Φ : Tab} {f : Str} {rs : List (D × Mode)} {v : Int} {fr : Bool} (h : Φ f (rs.map (·.1)) = some (.int v, fr)) (ha : allOk rs = true) : callD Φ f rs = some (.int v, .fresh) := by
  unfold callD; rw [h]; cases fr <;> simp [ha, norm, isAtom]

theorem piv_q {Φ : Tab} (h : SPiv Φ) {n m : Nat} (f : Nat → Nat → Rat) {c s : Nat} (hn : n ≤ 64) (hm : m ≤ 64) (hc : c < m) (hs : s ≤ n) :
    ∃ v, callD Φ "pivot_row" [(qm n m f, .shared), (.int c, .fresh), (.int s, .fresh), (qD 0, .fresh)] = some (.int v, .fresh) ∧ ((v = -1 ∧ ∀ i, s ≤ i → i < n → f i c = 0) ∨ ∃ r : Nat, v = r ∧ s ≤ r ∧ r < n ∧ f r c ≠ 0) := by
  obtain ⟨v, fr, e, h'⟩ := h n m (fun i j => qD (f i j)) c s (qD 0) (fun i => !decide (f i c = 0)) hn hm hc hs rfl (fun _ _ => rfl) (fun i _ _ => cmp_ne_q _ _)
  refine ⟨v, call_int e rfl, ?_⟩
  simpa using h'
theorem idx_qm {n m : Nat} (f : Nat → Nat → Rat) {i : Nat} (md : Mode) (hn : n ≤ 64) (hi : i < n) : idxD (qm n m f, .shared) (.int (i : Int), md) = some (.list (tab m fun j => qD (f i j)), .shared) := idx_mat _ md hn hi
theorem idx_qr {m : Nat} (g : Nat → Rat) {j : Nat} (md : Mode) (hm : m ≤ 64) (hj : j < m) : idxD (.list (tab m fun j => qD (g j)), .shared) (.int (j : Int), md) = some (qD (g j), .fresh) := idx_row (fun j => qD (g j)) md rfl hm hj
theorem call_swap {Φ : Tab} (h : SSwap Φ) {n m : Nat} (f : Nat → Nat → Rat) {i j : Nat} (hn : n ≤ 64) (hm : m ≤ 64) (hi : i < n) (hj : j < n) : callD Φ "rows_swapped" [(qm n m f, .shared), (.int i, .fresh), (.int j, .fresh)] = some (qm n m (swapF f i j), .fresh) := by
  refine call_ok ((h n m (fun i j => qD (f i j)) i j hn hm hi hj fun _ _ => rfl).trans ?_) rfl
  congr 2
  refine matD_ext fun r c _ _ => ?_
  unfold swapF
  split
  · rfl
  · split <;> rfl
theorem call_neg {Φ : Tab} (h : SNeg Φ) (x : Rat) : callD Φ "f_neg" [(qD x, .fresh)] = some (qD (-x), .fresh) := call_ok (h x) rfl
theorem call_div {Φ : Tab} (h : SDiv Φ) {x y : Rat} {b c : Nat} (h0 : y ≠ 0) (hx : Sz b x) (hy : Sz c y) (hb : b + c ≤ 1900) : callD Φ "f_div" [(qD x, .fresh), (qD y, .fresh)] = some (qD (x / y), .fresh) := call_ok (h x y b c h0 hx hy hb) rfl
theorem call_mul {Φ : Tab} (h : SMul Φ) {x y : Rat} {b c : Nat} (hx : Sz b x) (hy : Sz c y) (hb : b + c ≤ 1900) : callD Φ "f_mul" [(qD x, .fresh), (qD y, .fresh)] = some (qD (x * y), .fresh) := call_ok (h x y b c hx hy hb) rfl
theorem call_rowadd {Φ : Tab} (h : SRowAdd Φ) {n m : Nat} (f : Nat → Nat → Rat) {i j : Nat} {k : Rat} {b c c' : Nat} (hn : n ≤ 64) (hm : m ≤ 64) (hi : i < n) (hj : j < n) (hk : Sz b k) (hz : ∀ t, t < m → Sz c (f i t)) (hz' : ∀ t, t < m → Sz c' (f j t)) (hb : c + (b + c') + 1 ≤ 1900) :
    callD Φ "row_added" [(qm n m f, .shared), (.int i, .fresh), (.int j, .fresh), (qD k, .fresh)] = some (qm n m (addF f i j k), .fresh) := call_ok (h n m f i j k b c c' hn hm hi hj hk hz hz' hb) rfl
theorem call_scale {Φ : Tab} (h : SScale Φ) {n m : Nat} (f : Nat → Nat → Rat) {i : Nat} {k : Rat} {b c : Nat} (hn : n ≤ 64) (hm : m ≤ 64) (hi : i < n) (hk : Sz b k) (hz : ∀ t, t < m → Sz c (f i t)) (hb : b + c ≤ 1900) :
    callD Φ "row_scaled" [(qm n m f, .shared), (.int i, .fresh), (qD k, .fresh)] = some (qm n m (scaleF f i k), .fresh) := call_ok (h n m f i k b c hn hm hi hk hz hb) rfl
theorem call_copyq {Φ : Tab} (h : SCopy Φ) {n m : Nat} (f : Nat → Nat → Rat) (hn : n ≤ 64) (hm : m ≤ 64) : callD Φ "copy_rows" [(qm n m f, .shared)] = some (qm n m f, .fresh) := call_copy h hn hm fun _ _ => rfl
theorem isList_qm (n m : Nat) (f : Nat → Nat → Rat) : isList (qm n m f) = true := rfl
theorem isList_im (n m : Nat) (f : Nat → Nat → Int) : isList (im n m f) = true := rfl
theorem len_qm {n m : Nat} (f : Nat → Nat → Rat) (md : Mode) (hn : n ≤ 64) : lenD (qm n m f, md) = some (.int n, .fresh) := len_mat _ md hn
theorem len_im {n m : Nat} (f : Nat → Nat → Int) (md : Mode) (hn : n ≤ 64) : lenD (im n m f, md) = some (.int n, .fresh) := len_mat _ md hn


theorem W.move {Φ : Tab} {N : Nat} {Q : Out → Prop} {k : Rho → Prop} {ρ : Rho} {x y : Nat} {s : Slot} (he : (demote y ρ)[y]? = .some (.some s)) (h : k ((demote y ρ).set x (.some s))) : W (exS Φ N (.move x y) ρ) (Nx Q k) :=
  ⟨.next _, by rw [exS, he], h⟩
noncomputable def SElim (Φ : Tab) : Prop := ∀ n (f : Nat → Nat → Rat), n ≤ 3 → (∀ i j, i < n → j < n → Sz 8 (f i j)) → ∃ fr, Φ "det_by_elimination" [qm n n f] = some (qD (detQ n f), fr)

/-- what holds as column c starts -/
structure EI (n c : Nat) (f g : Nat → Nat → Rat) (s : Rat) : Prop where
  det : s * detQ n g = detQ n f
  tri : ∀ i j, j < c → j < i → i < n → g i j = 0
  sz : ∀ i j, i < n → j < n → Sz (bits c) (g i j)
  sg : s = 1 ∨ s = -1
/-- ... and as row i of column c starts -/
structure EJ (n c i : Nat) (f g : Nat → Nat → Rat) (s : Rat) : Prop where
  det : s * detQ n g = detQ n f
  tri : ∀ i j, j < c → j < i → i < n → g i j = 0
  col : ∀ r, c < r → r < i → r < n → g r c = 0
  piv : g c c ≠ 0
  sz : ∀ r j, r < n → j < n → (r ≤ c ∨ i ≤ r) → Sz (bits c) (g r j)
  sz' : ∀ r j, r < n → j < n → Sz (bits (c + 1)) (g r j)
  sg : s = 1 ∨ s = -1

theorem EI.swap {n c r : Nat} {f g : Nat → Nat → Rat} {s : Rat} (h : EI n c f g s) (hn : n ≤ 3) (hc : c < n) (hr : r < n) (hcr : c ≤ r) (hne : r ≠ c) : EI n c f (swapF g c r) (-s) := by
  refine ⟨?_, fun i j h1 h2 h3 => ?_, fun i j hi hj => ?_, ?_⟩
  · rw [det_swap hn hc hr (Ne.symm hne), ← h.det]; grind
  · unfold swapF
    split
    · exact h.tri c j h1 (by assumption) hc
    · split
      · exact h.tri r j h1 (by omega) hr
      · exact h.tri i j h1 h2 h3
  · unfold swapF
    split
    · exact h.sz c j hc hj
    · split
      · exact h.sz r j hr hj
      · exact h.sz i j hi hj
  · rcases h.sg with e | e <;> rw [e] <;> simp
theorem EI.start {n c : Nat} {f g : Nat → Nat → Rat} {s : Rat} (h : EI n c f g s) (hp : g c c ≠ 0) : EJ n c (c + 1) f g s :=
  ⟨h.det, h.tri, fun r h1 h2 => by omega, hp, fun r j hr hj _ => h.sz r j hr hj, fun r j hr hj => (h.sz r j hr hj).mono (by rw [bits]; omega), h.sg⟩
theorem EJ.skip {n c i : Nat} {f g : Nat → Nat → Rat} {s : Rat} (h : EJ n c i f g s) (hz : g i c = 0) : EJ n c (i + 1) f g s :=
  ⟨h.det, h.tri, fun r h1 h2 h3 => by
    by_cases e : r = i
    · rw [e]; exact hz
    · exact h.col r h1 (by omega) h3, h.piv, fun r j hr hj hh => h.sz r j hr hj (by omega), h.sz', h.sg⟩
theorem EJ.step {n c i : Nat} {f g : Nat → Nat → Rat} {s : Rat} (h : EJ n c i f g s) (hn : n ≤ 3) (hc : c < i) (hi : i < n) : EJ n c (i + 1) f (addF g i c (-(g i c / g c c))) s := by
  have hp := h.piv
  refine ⟨?_, fun r j h1 h2 h3 => ?_, fun r h1 h2 h3 => ?_, ?_, fun r j hr hj hh => ?_, fun r j hr hj => ?_, h.sg⟩
  · rw [det_add hn hi (by exact Nat.lt_trans (by assumption) (by assumption)) (by exact Nat.ne_of_gt (by assumption))]; exact h.det
  · unfold addF
    split
    · rw [h.tri i j h1 (by omega) hi, h.tri c j h1 h1 (by exact Nat.lt_trans (by assumption) (by assumption))]; grind
    · exact h.tri r j h1 h2 h3
  · unfold addF
    split
    · grind
    · exact h.col r h1 (by omega) h3
  · unfold addF
    rw [if_neg (by exact Nat.ne_of_lt (by assumption))]; exact hp
  · unfold addF
    rw [if_neg (by omega)]; exact h.sz r j hr hj (by omega)
  · unfold addF
    split
    · have h1 := h.sz i j hi hj (by exact Or.inr (Nat.le_refl _))
      have h2 := h.sz c j (by exact Nat.lt_trans (by assumption) (by assumption)) hj (by exact Or.inl (Nat.le_refl _))
      have h3 := h.sz i c hi (by exact Nat.lt_trans (by assumption) (by assumption)) (by exact Or.inr (Nat.le_refl _))
      have h4 := h.sz c c (by exact Nat.lt_trans (by assumption) (by assumption)) (by exact Nat.lt_trans (by assumption) (by assumption)) (by exact Or.inl (Nat.le_refl _))
      exact (h1.add (((h3.div h4 hp).neg).mul h2)).mono (by rw [bits]; omega)
    · exact h.sz' r j hr hj
theorem EJ.done {n c : Nat} {f g : Nat → Nat → Rat} {s : Rat} (h : EJ n c n f g s) : EI n (c + 1) f g s :=
  ⟨h.det, fun i j h1 h2 h3 => by
    by_cases e : j = c
    · subst e; exact h.col i h2 h3 h3
    · exact h.tri i j (by omega) h2 h3, h.sz', h.sg⟩

theorem sz_sign {s : Rat} (h : s = 1 ∨ s = -1) : Sz 1 s := by rcases h with e | e <;> rw [e] <;> exact ⟨by decide, by decide⟩
theorem sz_prod {n : Nat} {g : Nat → Nat → Rat} {s : Rat} (hs : Sz 1 s) (h : ∀ i j, i < n → j < n → Sz 554 (g i j)) : ∀ k, k ≤ n → Sz (1 + 554 * k) (s * prodD g k)
  | 0, _ => by simpa [prodD] using hs
  | k + 1, hk => by
    have h1 := sz_prod hs h k (by exact Nat.le_of_lt (by assumption))
    have h2 := h1.mul (h k k (by assumption) (by assumption))
    rw [prodD, ← Rat.mul_assoc]
    exact h2.mono (by exact Nat.le_refl _)

theorem elim_body (Φ : Tab) (hC : SCopy Φ) (hP : SPiv Φ) (hS : SSwap Φ) (hN : SNeg Φ) (hD : SDiv Φ) (hM : SMul Φ) (hR : SRowAdd Φ) (n : Nat) (f : Nat → Nat → Rat) (hn : n ≤ 3) (hz : ∀ i j, i < n → j < n → Sz 8 (f i j)) :
    W (exSs Φ NN mb_det_by_elimination (slots [qm n n f] 7)) (fun o => ∃ fr, o = .ret (qD (detQ n f)) fr) := by
  have hn' : n ≤ 64 := by exact Nat.le_trans (by assumption) (by decide)
  delta mb_det_by_elimination; simp only [List.map_cons, List.map_nil, List.cons_append, List.nil_append, List.replicate, slots]
  refine W.cons (W.assign (d := .int n) (by ((repeat' first | with_reducible (first | apply len_qm f _ hn') | (first | with_reducible (first | apply eInt | apply eNil | apply idx_q0 | apply idx_q1 | apply tup01 | apply tup11 | apply add_nat1 | apply neg1 | apply eOn | apply eBool | apply eStrg | apply eV | apply eIdx | apply eBin | apply eCall | apply eCons | apply eCmp | apply eTup | apply eLen | apply eR1 | apply eR2 | apply eIl | apply eNeg | apply eOrF | apply eAndT | apply eNotT | apply eNotF | apply eVal | apply eLst | apply eSlc | apply eOs | apply eSort | apply eLr | apply eSum | apply eAbs) | exact vF rfl | exact vS rfl | exact vB rfl | exact rfl)); done)) ?_)
  simp only [demote_zero, demote_succ, dm, List.set_cons_zero, List.set_cons_succ, isList, Bool.false_and, Bool.true_and]
  refine W.cons (W.assign (d := qm n n f) (by ((repeat' first | with_reducible (first | apply call_copyq hC f hn' hn') | (first | with_reducible (first | apply eInt | apply eNil | apply idx_q0 | apply idx_q1 | apply tup01 | apply tup11 | apply add_nat1 | apply neg1 | apply eOn | apply eBool | apply eStrg | apply eV | apply eIdx | apply eBin | apply eCall | apply eCons | apply eCmp | apply eTup | apply eLen | apply eR1 | apply eR2 | apply eIl | apply eNeg | apply eOrF | apply eAndT | apply eNotT | apply eNotF | apply eVal | apply eLst | apply eSlc | apply eOs | apply eSort | apply eLr | apply eSum | apply eAbs) | exact vF rfl | exact vS rfl | exact vB rfl | exact rfl)); done)) ?_)
  simp only [demote_zero, demote_succ, dm, List.set_cons_zero, List.set_cons_succ, isList, Bool.false_and, Bool.true_and]
  refine W.cons (W.assign (d := qD 1) (by ((repeat' (first | with_reducible (first | apply eInt | apply eNil | apply idx_q0 | apply idx_q1 | apply tup01 | apply tup11 | apply add_nat1 | apply neg1 | apply eOn | apply eBool | apply eStrg | apply eV | apply eIdx | apply eBin | apply eCall | apply eCons | apply eCmp | apply eTup | apply eLen | apply eR1 | apply eR2 | apply eIl | apply eNeg | apply eOrF | apply eAndT | apply eNotT | apply eNotF | apply eVal | apply eLst | apply eSlc | apply eOs | apply eSort | apply eLr | apply eSum | apply eAbs) | exact vF rfl | exact vS rfl | exact vB rfl | exact rfl)); done)) ?_)
  simp only [demote_zero, demote_succ, dm, List.set_cons_zero, List.set_cons_succ, isList, Bool.false_and, Bool.true_and, isList_q]
  refine W.cons (W.forS (ds := upto 0 n) (by ((repeat' first | with_reducible (first | apply range0_ok hn') | (first | with_reducible (first | apply eInt | apply eNil | apply idx_q0 | apply idx_q1 | apply tup01 | apply tup11 | apply add_nat1 | apply neg1 | apply eOn | apply eBool | apply eStrg | apply eV | apply eIdx | apply eBin | apply eCall | apply eCons | apply eCmp | apply eTup | apply eLen | apply eR1 | apply eR2 | apply eIl | apply eNeg | apply eOrF | apply eAndT | apply eNotT | apply eNotF | apply eVal | apply eLst | apply eSlc | apply eOs | apply eSort | apply eLr | apply eSum | apply eAbs) | exact vF rfl | exact vS rfl | exact vB rfl | exact rfl)); done)) ?_)
  simp only [demote_zero, demote_succ, dm, List.set_cons_zero, List.set_cons_succ, isList, Bool.false_and, Bool.true_and]
  refine W.loopJ (I := fun c ρ => ∃ g s, ∃ o : Nat → Option Slot, ρ = [some ⟨false, qm n n f⟩, some ⟨false, .int n⟩, some ⟨false, qm n n g⟩, some ⟨false, qD s⟩, o 0, o 1, o 2, none] ∧ EI n c f g s) rfl rfl (Nat.zero_le _)
    ⟨f, 1, fun _ => none, rfl, by grind, fun i j h => by omega, hz, .inl rfl⟩ ?_ ?_
  · rintro J1 q1 P1 r1 c ρ - hc ⟨g, s, o, rfl, hI⟩
    simp only [demote_zero, demote_succ, dm, List.set_cons_zero, List.set_cons_succ, isList, Bool.false_and, Bool.true_and]
    obtain ⟨v, hv, hv'⟩ := piv_q hP g (c := c) (s := c) hn' hn' hc (Nat.le_of_lt hc)
    refine W.cons (W.assign (d := .int v) (by ((repeat' first | with_reducible (first | apply hv) | (first | with_reducible (first | apply eInt | apply eNil | apply idx_q0 | apply idx_q1 | apply tup01 | apply tup11 | apply add_nat1 | apply neg1 | apply eOn | apply eBool | apply eStrg | apply eV | apply eIdx | apply eBin | apply eCall | apply eCons | apply eCmp | apply eTup | apply eLen | apply eR1 | apply eR2 | apply eIl | apply eNeg | apply eOrF | apply eAndT | apply eNotT | apply eNotF | apply eVal | apply eLst | apply eSlc | apply eOs | apply eSort | apply eLr | apply eSum | apply eAbs) | exact vF rfl | exact vS rfl | exact vB rfl | exact rfl)); done)) ?_)
    simp only [demote_zero, demote_succ, dm, List.set_cons_zero, List.set_cons_succ, isList, Bool.false_and, Bool.true_and]
    rcases hv' with ⟨rfl, hz0⟩ | ⟨r, rfl, hcr, hrn, hnz⟩
    · refine W.cons (W.iteT (by ((repeat' (first | with_reducible (first | apply eInt | apply eNil | apply idx_q0 | apply idx_q1 | apply tup01 | apply tup11 | apply add_nat1 | apply neg1 | apply eOn | apply eBool | apply eStrg | apply eV | apply eIdx | apply eBin | apply eCall | apply eCons | apply eCmp | apply eTup | apply eLen | apply eR1 | apply eR2 | apply eIl | apply eNeg | apply eOrF | apply eAndT | apply eNotT | apply eNotF | apply eVal | apply eLst | apply eSlc | apply eOs | apply eSort | apply eLr | apply eSum | apply eAbs) | exact vF rfl | exact vS rfl | exact vB rfl | exact rfl)); done)) (W.cons (W.ret (d := qD 0) (m := .fresh) (by ((repeat' (first | with_reducible (first | apply eInt | apply eNil | apply idx_q0 | apply idx_q1 | apply tup01 | apply tup11 | apply add_nat1 | apply neg1 | apply eOn | apply eBool | apply eStrg | apply eV | apply eIdx | apply eBin | apply eCall | apply eCons | apply eCmp | apply eTup | apply eLen | apply eR1 | apply eR2 | apply eIl | apply eNeg | apply eOrF | apply eAndT | apply eNotT | apply eNotF | apply eVal | apply eLst | apply eSlc | apply eOs | apply eSort | apply eLr | apply eSum | apply eAbs) | exact vF rfl | exact vS rfl | exact vB rfl | exact rfl)); done)) (by decide) (r1 _ _ ⟨true, ?_⟩))))
      rw [← hI.det, det_zero_col hn hc g hI.tri hz0, Rat.mul_zero]
      rfl
    · refine W.cons (W.skip (by ((repeat' (first | with_reducible (first | apply eInt | apply eNil | apply idx_q0 | apply idx_q1 | apply tup01 | apply tup11 | apply add_nat1 | apply neg1 | apply eOn | apply eBool | apply eStrg | apply eV | apply eIdx | apply eBin | apply eCall | apply eCons | apply eCmp | apply eTup | apply eLen | apply eR1 | apply eR2 | apply eIl | apply eNeg | apply eOrF | apply eAndT | apply eNotT | apply eNotF | apply eVal | apply eLst | apply eSlc | apply eOs | apply eSort | apply eLr | apply eSum | apply eAbs) | exact vF rfl | exact vS rfl | exact vB rfl | exact rfl)); done)) ?_)
      have key : ∀ g s, EI n c f g s → g c c ≠ 0 → W (exSs Φ NN [.forS 6 (.range2 (.bin .add (.var 4) (.int 1)) (.var 1)) [.ite (.cmp .NotEq (.idx (.idx (.var 2) (.var 6)) (.var 4)) (.tup (.cons (.int 0) (.cons (.int 1) .nil)))) [.assign false 2 (.call "row_added" (.cons (.var 2) (.cons (.var 6) (.cons (.var 4) (.cons (.call "f_neg" (.cons (.call "f_div" (.cons (.idx (.idx (.var 2) (.var 6)) (.var 4)) (.cons (.idx (.idx (.var 2) (.var 4)) (.var 4)) .nil))) .nil)) .nil)))))] []]]
          [some ⟨false, qm n n f⟩, some ⟨false, .int n⟩, some ⟨false, qm n n g⟩, some ⟨false, qD s⟩, some ⟨false, .int c⟩, some ⟨false, .int r⟩, o 2, none]) (Stp J1 P1 c) := by
        intro g s hI hp
        refine W.cons (W.forS (ds := upto (c + 1 : Nat) n) (by ((repeat' first | with_reducible (first | apply range_ok (show c + 1 ≤ 64 by exact Nat.le_trans (Nat.succ_le_of_lt (by assumption)) (by assumption)) hn') | (first | with_reducible (first | apply eInt | apply eNil | apply idx_q0 | apply idx_q1 | apply tup01 | apply tup11 | apply add_nat1 | apply neg1 | apply eOn | apply eBool | apply eStrg | apply eV | apply eIdx | apply eBin | apply eCall | apply eCons | apply eCmp | apply eTup | apply eLen | apply eR1 | apply eR2 | apply eIl | apply eNeg | apply eOrF | apply eAndT | apply eNotT | apply eNotF | apply eVal | apply eLst | apply eSlc | apply eOs | apply eSort | apply eLr | apply eSum | apply eAbs) | exact vF rfl | exact vS rfl | exact vB rfl | exact rfl)); done)) ?_)
        simp only [demote_zero, demote_succ, dm, List.set_cons_zero, List.set_cons_succ, isList, Bool.false_and, Bool.true_and]
        refine W.loopJ (I := fun i ρ => ∃ g o6, ρ = [some ⟨false, qm n n f⟩, some ⟨false, .int n⟩, some ⟨false, qm n n g⟩, some ⟨false, qD s⟩, some ⟨false, .int c⟩, some ⟨false, .int r⟩, o6, none] ∧ EJ n c i f g s) rfl rfl (by assumption) ⟨g, _, rfl, hI.start hp⟩ ?_ ?_
        · rintro J2 q2 P2 r2 i ρ hi1 hi2 ⟨g, o6, rfl, hJ⟩
          simp only [demote_zero, demote_succ, dm, List.set_cons_zero, List.set_cons_succ, isList, Bool.false_and, Bool.true_and]
          have b2 := bits2 (c := c) (by omega)
          refine W.cons (W.ite (v := !decide (g i c = 0)) (by ((repeat' first | with_reducible (first | apply idx_qm g _ hn' hi2 | apply idx_qr (g i) _ hn' hc | apply cmp_ne_q) | (first | with_reducible (first | apply eInt | apply eNil | apply idx_q0 | apply idx_q1 | apply tup01 | apply tup11 | apply add_nat1 | apply neg1 | apply eOn | apply eBool | apply eStrg | apply eV | apply eIdx | apply eBin | apply eCall | apply eCons | apply eCmp | apply eTup | apply eLen | apply eR1 | apply eR2 | apply eIl | apply eNeg | apply eOrF | apply eAndT | apply eNotT | apply eNotF | apply eVal | apply eLst | apply eSlc | apply eOs | apply eSort | apply eLr | apply eSum | apply eAbs) | exact vF rfl | exact vS rfl | exact vB rfl | exact rfl)); done)) (fun e => ?_) (fun e => ?_))
          · have h3 := hJ.sz i c hi2 (by assumption) (by exact Or.inr (Nat.le_refl _))
            have h4 := hJ.sz c c (by assumption) (by assumption) (by exact Or.inl (Nat.le_refl _))
            have hr := call_rowadd hR g (i := i) (j := c) (k := -(g i c / g c c)) (c := bits c) (c' := bits c) hn' hn' hi2 hc ((h3.div h4 hJ.piv).neg) (fun t ht => hJ.sz i t hi2 ht (by exact Or.inr (Nat.le_refl _))) (fun t ht => hJ.sz c t hc ht (by exact Or.inl (Nat.le_refl _))) (by omega)
            have hd := call_div hD hJ.piv h3 h4 (by omega)
            refine W.cons (W.assign (d := qm n n (addF g i c (-(g i c / g c c)))) (by ((repeat' first | with_reducible (first | apply idx_qm g _ hn' hi2 | apply idx_qm g _ hn' hc | apply idx_qr (g i) _ hn' hc | apply idx_qr (g c) _ hn' hc | apply hd | apply call_neg hN | apply hr) | (first | with_reducible (first | apply eInt | apply eNil | apply idx_q0 | apply idx_q1 | apply tup01 | apply tup11 | apply add_nat1 | apply neg1 | apply eOn | apply eBool | apply eStrg | apply eV | apply eIdx | apply eBin | apply eCall | apply eCons | apply eCmp | apply eTup | apply eLen | apply eR1 | apply eR2 | apply eIl | apply eNeg | apply eOrF | apply eAndT | apply eNotT | apply eNotF | apply eVal | apply eLst | apply eSlc | apply eOs | apply eSort | apply eLr | apply eSum | apply eAbs) | exact vF rfl | exact vS rfl | exact vB rfl | exact rfl)); done)) ?_)
            simp only [demote_zero, demote_succ, dm, List.set_cons_zero, List.set_cons_succ, isList, Bool.false_and, Bool.true_and]
            exact W.nil (W.nil (q2 _ _ ⟨_, _, rfl, hJ.step hn (by assumption) hi2⟩))
          · have e0 : g i c = 0 := by simpa using e
            exact W.nil (W.nil (q2 _ _ ⟨_, _, rfl, hJ.skip e0⟩))
        · rintro ρ ⟨g, o6, rfl, hJ⟩
          exact W.nil (q1 _ _ ⟨g, s, fun i => ([_, _, _] : Rho).getD i none, rfl, hJ.done⟩)
      by_cases hrc : r = c
      · subst hrc
        refine W.cons (W.skip (by ((repeat' (first | with_reducible (first | apply eInt | apply eNil | apply idx_q0 | apply idx_q1 | apply tup01 | apply tup11 | apply add_nat1 | apply neg1 | apply eOn | apply eBool | apply eStrg | apply eV | apply eIdx | apply eBin | apply eCall | apply eCons | apply eCmp | apply eTup | apply eLen | apply eR1 | apply eR2 | apply eIl | apply eNeg | apply eOrF | apply eAndT | apply eNotT | apply eNotF | apply eVal | apply eLst | apply eSlc | apply eOs | apply eSort | apply eLr | apply eSum | apply eAbs) | exact vF rfl | exact vS rfl | exact vB rfl | exact rfl)) <;> simp only [cmp_eq_int, cmp_ne_int, cmp_lt_int, cmp_gt_int, cast_ne_neg1, cast_eq, decide_true, decide_false, Bool.not_true, Bool.not_false])) ?_)
        exact key g s hI hnz
      · refine W.cons (W.iteT (by ((repeat' first | with_reducible (first | apply hrc) | (first | with_reducible (first | apply eInt | apply eNil | apply idx_q0 | apply idx_q1 | apply tup01 | apply tup11 | apply add_nat1 | apply neg1 | apply eOn | apply eBool | apply eStrg | apply eV | apply eIdx | apply eBin | apply eCall | apply eCons | apply eCmp | apply eTup | apply eLen | apply eR1 | apply eR2 | apply eIl | apply eNeg | apply eOrF | apply eAndT | apply eNotT | apply eNotF | apply eVal | apply eLst | apply eSlc | apply eOs | apply eSort | apply eLr | apply eSum | apply eAbs) | exact vF rfl | exact vS rfl | exact vB rfl | exact rfl)) <;> simp only [cmp_eq_int, cmp_ne_int, cmp_lt_int, cmp_gt_int, cast_ne_neg1, cast_eq, decide_true, decide_false, Bool.not_true, Bool.not_false, hrc])) ?_)
        refine W.cons (W.assign (d := qm n n (swapF g c r)) (by ((repeat' first | with_reducible (first | apply call_swap hS g hn' hn' hc hrn) | (first | with_reducible (first | apply eInt | apply eNil | apply idx_q0 | apply idx_q1 | apply tup01 | apply tup11 | apply add_nat1 | apply neg1 | apply eOn | apply eBool | apply eStrg | apply eV | apply eIdx | apply eBin | apply eCall | apply eCons | apply eCmp | apply eTup | apply eLen | apply eR1 | apply eR2 | apply eIl | apply eNeg | apply eOrF | apply eAndT | apply eNotT | apply eNotF | apply eVal | apply eLst | apply eSlc | apply eOs | apply eSort | apply eLr | apply eSum | apply eAbs) | exact vF rfl | exact vS rfl | exact vB rfl | exact rfl)); done)) ?_)
        simp only [demote_zero, demote_succ, dm, List.set_cons_zero, List.set_cons_succ, isList, Bool.false_and, Bool.true_and]
        refine W.cons (W.assign (d := qD (-s)) (by ((repeat' first | with_reducible (first | apply call_neg hN) | (first | with_reducible (first | apply eInt | apply eNil | apply idx_q0 | apply idx_q1 | apply tup01 | apply tup11 | apply add_nat1 | apply neg1 | apply eOn | apply eBool | apply eStrg | apply eV | apply eIdx | apply eBin | apply eCall | apply eCons | apply eCmp | apply eTup | apply eLen | apply eR1 | apply eR2 | apply eIl | apply eNeg | apply eOrF | apply eAndT | apply eNotT | apply eNotF | apply eVal | apply eLst | apply eSlc | apply eOs | apply eSort | apply eLr | apply eSum | apply eAbs) | exact vF rfl | exact vS rfl | exact vB rfl | exact rfl)); done)) ?_)
        simp only [demote_zero, demote_succ, dm, List.set_cons_zero, List.set_cons_succ, isList, Bool.false_and, Bool.true_and, isList_q]
        refine W.nil (key _ _ (hI.swap hn hc hrn hcr hrc) ?_)
        unfold swapF
        rw [if_neg (by omega), if_pos rfl]
        exact hnz
  · rintro ρ ⟨g, s, o, rfl, hI⟩
    refine W.cons (W.move (s := ⟨false, qD s⟩) (by ((repeat' (first | with_reducible (first | apply eInt | apply eNil | apply idx_q0 | apply idx_q1 | apply tup01 | apply tup11 | apply add_nat1 | apply neg1 | apply eOn | apply eBool | apply eStrg | apply eV | apply eIdx | apply eBin | apply eCall | apply eCons | apply eCmp | apply eTup | apply eLen | apply eR1 | apply eR2 | apply eIl | apply eNeg | apply eOrF | apply eAndT | apply eNotT | apply eNotF | apply eVal | apply eLst | apply eSlc | apply eOs | apply eSort | apply eLr | apply eSum | apply eAbs) | exact vF rfl | exact vS rfl | exact vB rfl | exact rfl)); done)) ?_)
    simp only [demote_zero, demote_succ, dm, List.set_cons_zero, List.set_cons_succ, isList, Bool.false_and, Bool.true_and]
    refine W.cons (W.forS (ds := upto 0 n) (by ((repeat' first | with_reducible (first | apply range0_ok hn') | (first | with_reducible (first | apply eInt | apply eNil | apply idx_q0 | apply idx_q1 | apply tup01 | apply tup11 | apply add_nat1 | apply neg1 | apply eOn | apply eBool | apply eStrg | apply eV | apply eIdx | apply eBin | apply eCall | apply eCons | apply eCmp | apply eTup | apply eLen | apply eR1 | apply eR2 | apply eIl | apply eNeg | apply eOrF | apply eAndT | apply eNotT | apply eNotF | apply eVal | apply eLst | apply eSlc | apply eOs | apply eSort | apply eLr | apply eSum | apply eAbs) | exact vF rfl | exact vS rfl | exact vB rfl | exact rfl)); done)) ?_)
    simp only [demote_zero, demote_succ, dm, List.set_cons_zero, List.set_cons_succ, isList, Bool.false_and, Bool.true_and]
    have hsz : ∀ i j, i < n → j < n → Sz 554 (g i j) := fun i j hi hj => (hI.sz i j hi hj).mono (bits3 hn)
    refine W.loopJ (I := fun i ρ => ∃ o6, ρ = [some ⟨false, qm n n f⟩, some ⟨false, .int n⟩, some ⟨false, qm n n g⟩, some ⟨false, qD s⟩, o 0, o 1, o6, some ⟨false, qD (s * prodD g i)⟩]) rfl rfl (Nat.zero_le _) ⟨_, by simp [prodD]; rfl⟩ ?_ ?_
    · rintro J2 q2 P2 r2 i ρ - hi ⟨o6, rfl⟩
      simp only [demote_zero, demote_succ, dm, List.set_cons_zero, List.set_cons_succ, isList, Bool.false_and, Bool.true_and]
      refine W.cons (W.assign (d := qD (s * prodD g i * g i i)) (by ((repeat' first | with_reducible (first | apply idx_qm g _ hn' hi | apply idx_qr (g i) _ hn' hi | apply call_mul hM (sz_prod (sz_sign hI.sg) hsz i (by exact Nat.le_of_lt (by assumption))) (hsz i i hi hi) (by omega)) | (first | with_reducible (first | apply eInt | apply eNil | apply idx_q0 | apply idx_q1 | apply tup01 | apply tup11 | apply add_nat1 | apply neg1 | apply eOn | apply eBool | apply eStrg | apply eV | apply eIdx | apply eBin | apply eCall | apply eCons | apply eCmp | apply eTup | apply eLen | apply eR1 | apply eR2 | apply eIl | apply eNeg | apply eOrF | apply eAndT | apply eNotT | apply eNotF | apply eVal | apply eLst | apply eSlc | apply eOs | apply eSort | apply eLr | apply eSum | apply eAbs) | exact vF rfl | exact vS rfl | exact vB rfl | exact rfl)); done)) ?_)
      simp only [demote_zero, demote_succ, dm, List.set_cons_zero, List.set_cons_succ, isList, Bool.false_and, Bool.true_and, isList_q]
      exact W.nil (q2 _ _ ⟨_, by rw [prodD, Rat.mul_assoc]⟩)
    · rintro ρ ⟨o6, rfl⟩
      refine W.cons (W.retVar rfl ⟨false, ?_⟩)
      rw [← hI.det, det_tri hn g fun i j h1 h2 => hI.tri i j (by exact Nat.lt_trans (by assumption) (by assumption)) h1 h2]
theorem elim_run {Φ : Tab} (hC : SCopy Φ) (hP : SPiv Φ) (hS : SSwap Φ) (hN : SNeg Φ) (hD : SDiv Φ) (hM : SMul Φ) (hR : SRowAdd Φ) : SElim (runN Φ) := fun n f hn hz => by
  obtain ⟨o, e, fr, rfl⟩ := elim_body Φ hC hP hS hN hD hM hR n f hn hz
  exact ⟨fr, run_of (f := ⟨"det_by_elimination", ["m"], ["n", "a", "sign", "c", "found", "i", "result"], mb_det_by_elimination⟩) rfl ⟨_, e, rfl⟩⟩


noncomputable def sm : Nat → (Nat → Rat) → Rat
  | 0, _ => 0
  | k + 1, g => sm k g + g k
noncomputable def dl (i j : Nat) : Rat := if i = j then 1 else 0

/-- one step of Gauss and Jordan -/
noncomputable def jord (g : Nat → Nat → Rat) (t c : Nat) : Nat → Nat → Rat := fun i j => if i = t then (1 / g t c) * g t j else g i j + -g i c * ((1 / g t c) * g t j)

theorem jord_det {n t : Nat} (hn : n ≤ 3) (ht : t < n) (g : Nat → Nat → Rat) (hp : g t t ≠ 0) : detQ n (jord g t t) * g t t = detQ n g := by
  rcases n4 hn with rfl | rfl | rfl | rfl
  · omega
  · obtain rfl := n1 ht
    simp [detQ, jord]; grind
  · rcases n2 ht with rfl | rfl <;> (simp [detQ, jord]; grind)
  · rcases n3 ht with rfl | rfl | rfl <;> (simp [detQ, jord]; grind)

/-- the left half is the right half times A -/
noncomputable def Rel (n : Nat) (A g : Nat → Nat → Rat) : Prop := ∀ i j, i < n → j < n → g i j = sm n fun k => g i (n + k) * A k j

theorem sm_lin {n : Nat} (x y A : Nat → Rat) (c : Rat) : sm n (fun k => (x k + c * y k) * A k) = sm n (fun k => x k * A k) + c * sm n (fun k => y k * A k) := by
  induction n with
  | zero => simp only [sm]; grind
  | succ n ih => simp only [sm, ih]; grind
theorem sm_scale {n : Nat} (x A : Nat → Rat) (c : Rat) : sm n (fun k => (c * x k) * A k) = c * sm n (fun k => x k * A k) := by
  induction n with
  | zero => simp only [sm]; grind
  | succ n ih => simp only [sm, ih]; grind
theorem Rel.jord {n t c : Nat} {A g : Nat → Nat → Rat} (h : Rel n A g) (ht : t < n) : Rel n A (jord g t c) := by
  intro i j hi hj
  unfold Mine.jord
  split
  · rw [h t j ht hj, sm_scale]
  · rw [sm_lin (fun k => g i (n + k)), h i j hi hj, h t j ht hj, sm_scale]
theorem Rel.swap {n t r : Nat} {A g : Nat → Nat → Rat} (h : Rel n A g) (ht : t < n) (hr : r < n) : Rel n A (swapF g t r) := by
  intro i j hi hj
  unfold swapF
  split
  · exact h t j ht hj
  · split
    · exact h r j hr hj
    · exact h i j hi hj

structure RH (n c : Nat) (A g : Nat → Nat → Rat) (ps : List Nat) : Prop where
  ps : ps = List.range (min c n)
  un : ∀ i j, i < n → j < min c n → g i j = dl i j
  rel : Rel n A g
  det : detQ n g = 0 ↔ detQ n A = 0
noncomputable def RM (n c : Nat) (A : Nat → Nat → Rat) (ps : List Nat) : Prop := detQ n A = 0 ∧ ∃ c0, c0 < c ∧ c0 < n ∧ c0 ≤ ps.length ∧ ps[c0]? ≠ some c0
structure RI (n c : Nat) (A g : Nat → Nat → Rat) (ps : List Nat) : Prop where
  le : ps.length ≤ n
  sz : ∀ i j, i < n → j < n + n → Sz (bits ps.length) (g i j)
  st : RH n c A g ps ∨ RM n c A ps

theorem RI.miss {n c : Nat} {A g : Nat → Nat → Rat} {ps : List Nat} (h : RI n c A g ps) (hn : n ≤ 3) (hz : ∀ i, ps.length ≤ i → i < n → g i c = 0) : RI n (c + 1) A g ps := by
  refine ⟨h.le, h.sz, ?_⟩
  rcases h.st with H | ⟨h0, c0, h1, h2, h3, h4⟩
  · by_cases hc : c < n
    · have e : min c n = c := Nat.min_eq_left (Nat.le_of_lt hc)
      have hp := H.ps; rw [e] at hp
      have hun := H.un; rw [e] at hun
      have hl : ps.length = c := by rw [hp, List.length_range]
      rw [hl] at hz
      have d0 := det_zero_col hn hc g (fun i j h1 h2 h3 => by rw [hun i j h3 h1]; unfold dl; rw [if_neg (by exact Nat.ne_of_gt (by assumption))]) hz
      exact .inr ⟨H.det.mp d0, c, by exact Nat.le_refl _, hc, by omega, by rw [hp]; simp⟩
    · have e : min c n = min (c + 1) n := by rw [Nat.min_eq_right (Nat.le_of_not_lt hc), Nat.min_eq_right (Nat.le_succ_of_le (Nat.le_of_not_lt hc))]
      exact .inl ⟨e ▸ H.ps, e ▸ H.un, H.rel, H.det⟩
  · exact .inr ⟨h0, c0, by exact Nat.lt_succ_of_lt (by assumption), h2, h3, h4⟩
theorem RI.swap {n c r : Nat} {A g : Nat → Nat → Rat} {ps : List Nat} (h : RI n c A g ps) (hn : n ≤ 3) (hr : r < n) (htr : ps.length ≤ r) (hne : r ≠ ps.length) : RI n c A (swapF g ps.length r) ps := by
  refine ⟨h.le, fun i j hi hj => ?_, ?_⟩
  · unfold swapF
    split
    · exact h.sz _ j (by exact Nat.lt_of_le_of_lt (by assumption) (by assumption)) hj
    · split
      · exact h.sz r j hr hj
      · exact h.sz i j hi hj
  · rcases h.st with H | H
    · have hl : ps.length = min c n := by rw [H.ps, List.length_range]
      refine .inl ⟨H.ps, fun i j hi hj => ?_, H.rel.swap (by exact Nat.lt_of_le_of_lt (by assumption) (by assumption)) hr, ?_⟩
      · unfold swapF
        split
        · rw [H.un _ j (by exact Nat.lt_of_le_of_lt (by assumption) (by assumption)) hj]; unfold dl; rw [if_neg (by omega), if_neg (by omega)]
        · split
          · rw [H.un r j hr hj]; unfold dl; rw [if_neg (by omega), if_neg (by omega)]
          · exact H.un i j hi hj
      · rw [det_swap hn (by exact Nat.lt_of_le_of_lt (by assumption) (by assumption)) hr (by omega), ← H.det]; grind
    · exact .inr H
theorem RI.hit {n c : Nat} {A g : Nat → Nat → Rat} {ps : List Nat} (h : RI n c A g ps) (hn : n ≤ 3) (hc : c < n + n) (ht : ps.length < n) (hp : g ps.length c ≠ 0) : RI n (c + 1) A (jord g ps.length c) (ps ++ [c]) := by
  have hone : Sz 1 (1 : Rat) := ⟨by decide, by decide⟩
  refine ⟨by simp; assumption, fun i j hi hj => ?_, ?_⟩
  · rw [List.length_append, List.length_singleton]
    have h1 := h.sz i j hi hj
    have h2 := h.sz ps.length j ht hj
    have h3 := h.sz i c hi hc
    have h4 := (hone.div (h.sz ps.length c ht hc) hp).mul h2
    unfold Mine.jord
    split
    · exact h4.mono (by rw [bits]; omega)
    · exact (h1.add (h3.neg.mul h4)).mono (by rw [bits]; omega)
  · rcases h.st with H | ⟨h0, c0, h1, h2, h3, h4⟩
    · have hl : ps.length = min c n := by rw [H.ps, List.length_range]
      have hcn : c < n := by omega
      have e : min c n = c := Nat.min_eq_left (Nat.le_of_lt hcn)
      have e' : min (c + 1) n = c + 1 := Nat.min_eq_left hcn
      rw [e] at hl
      have hpe := H.ps; rw [e] at hpe
      have hun := H.un; rw [e] at hun
      rw [hl] at hp
      rw [hl]
      refine .inl ⟨by rw [e', hpe, List.range_succ], fun i j hi hj => ?_, H.rel.jord hcn, ?_⟩
      · rw [e'] at hj
        unfold Mine.jord
        by_cases hjc : j = c
        · subst hjc
          split
          · rename_i e2; subst e2; unfold dl; rw [if_pos rfl]; grind
          · rename_i e2; unfold dl; rw [if_neg e2]; grind
        · have hj' : j < c := by omega
          have z : g c j = 0 := by rw [hun c j hcn hj']; unfold dl; rw [if_neg (by exact Nat.ne_of_gt (by assumption))]
          split
          · rename_i e2; subst e2; rw [z]; unfold dl; rw [if_neg (by exact Nat.ne_of_gt (by assumption))]; grind
          · rw [z, ← hun i j hi hj']; grind
      · have := jord_det hn hcn g hp
        rw [← H.det, ← this]
        constructor
        · intro e; rw [e]; grind
        · intro e
          rcases Rat.mul_eq_zero.mp e with e | e
          · exact e
          · exact absurd e hp
    · refine .inr ⟨h0, c0, by exact Nat.lt_succ_of_lt (by assumption), h2, by simp; omega, ?_⟩
      rw [List.getElem?_append]
      split
      · exact h4
      · have : c0 - ps.length = 0 := by omega
        rw [this]
        simp
        exact Nat.ne_of_gt (by assumption)

noncomputable def pivD (ps : List Nat) : List D := ps.map fun (c : Nat) => .int (c : Int)
noncomputable def augF (n : Nat) (A : Nat → Nat → Rat) : Nat → Nat → Rat := fun i j => if j < n then A i j else dl i (j - n)
theorem dl_sz (i j : Nat) : Sz 8 (dl i j) := by unfold dl; split <;> exact ⟨by decide, by decide⟩
theorem sm_dl : ∀ (n i : Nat) (f : Nat → Rat), (i < n → sm n (fun k => dl i k * f k) = f i) ∧ (n ≤ i → sm n (fun k => dl i k * f k) = 0)
  | 0, i, f => ⟨by omega, fun _ => rfl⟩
  | n + 1, i, f => by
    obtain ⟨h1, h2⟩ := sm_dl n i f
    refine ⟨fun h => ?_, fun h => ?_⟩
    · rw [sm]
      by_cases e : i = n
      · subst e; rw [h2 (by exact Nat.le_refl _)]; unfold dl; rw [if_pos rfl]; grind
      · rw [h1 (by omega)]; unfold dl; rw [if_neg e]; grind
    · rw [sm, h2 (by exact Nat.le_of_lt (by assumption))]; unfold dl; rw [if_neg (by exact Nat.ne_of_gt (by assumption))]; grind
theorem sm_ext {n : Nat} {f g : Nat → Rat} (h : ∀ k, k < n → f k = g k) : sm n f = sm n g := by
  induction n with
  | zero => rfl
  | succ n ih => rw [sm, sm, ih fun k hk => h k (by exact Nat.lt_succ_of_lt (by assumption)), h n (by exact Nat.le_refl _)]
theorem detQ_ext {n : Nat} {f g : Nat → Nat → Rat} (hn : n ≤ 3) (h : ∀ i j, i < n → j < n → f i j = g i j) : detQ n f = detQ n g := by
  rcases n4 hn with rfl | rfl | rfl | rfl
  · rfl
  · exact h 0 0 (by exact Nat.le_refl _) (by exact Nat.le_refl _)
  · simp only [detQ]; rw [h 0 0 (by exact Nat.le_of_lt_succ (by assumption)) (by exact Nat.le_of_lt_succ (by assumption)), h 0 1 (by exact Nat.le_of_lt_succ (by assumption)) (by exact Nat.le_refl _), h 1 0 (by exact Nat.le_refl _) (by exact Nat.le_of_lt_succ (by assumption)), h 1 1 (by exact Nat.le_refl _) (by exact Nat.le_refl _)]
  · simp only [detQ]; rw [h 0 0 (by exact Nat.le_add_left _ _) (by exact Nat.le_add_left _ _), h 0 1 (by exact Nat.le_add_left _ _) (by exact Nat.le_of_lt (by assumption)), h 0 2 (by exact Nat.le_add_left _ _) (by assumption), h 1 0 (by exact Nat.le_of_lt (by assumption)) (by exact Nat.le_add_left _ _), h 1 1 (by exact Nat.le_of_lt (by assumption)) (by exact Nat.le_of_lt (by assumption)), h 1 2 (by exact Nat.le_of_lt (by assumption)) (by assumption), h 2 0 (by assumption) (by exact Nat.le_add_left _ _), h 2 1 (by assumption) (by exact Nat.le_of_lt (by assumption)), h 2 2 (by assumption) (by assumption)]
theorem RI.start {n : Nat} {A : Nat → Nat → Rat} (hn : n ≤ 3) (hz : ∀ i j, i < n → j < n → Sz 8 (A i j)) : RI n 0 A (augF n A) [] := by
  refine ⟨by simp, fun i j hi hj => ?_, .inl ⟨by simp, fun i j hi hj => by omega, fun i j hi hj => ?_, ?_⟩⟩
  · unfold augF
    split
    · exact hz i j hi (by assumption)
    · exact dl_sz _ _
  · unfold augF
    rw [if_pos hj, sm_ext (g := fun k => dl i k * A k j) fun k hk => by rw [if_neg (by omega), Nat.add_sub_cancel_left]]
    exact ((sm_dl n i fun k => A k j).1 hi).symm
  · rw [detQ_ext hn (g := A) fun i j hi hj => by unfold augF; rw [if_pos hj]]

noncomputable def SRed (Φ : Tab) : Prop := ∀ n (A : Nat → Nat → Rat), n ≤ 3 → (∀ i j, i < n → j < n → Sz 8 (A i j)) → ∃ g ps, Φ "reduced" [qm n (n + n) (augF n A), .int ((n + n : Nat) : Int)] = some (.tuple [qm n (n + n) g, .list (pivD ps)], true) ∧ RI n (n + n) A g ps

theorem W.append {Φ : Tab} {N : Nat} {Q : Out → Prop} {k : Rho → Prop} {ρ : Rho} {x : Nat} {e : ME} {d : D} {ds : List D} (he : evE Φ e ρ = .some (d, .fresh)) (hx : ρ[x]? = .some (.some ⟨true, .list ds⟩)) (hl : ds.length < 64)
    (h : k (ρ.set x (.some ⟨true, .list (ds ++ [d])⟩))) : W (exS Φ N (.append x e) ρ) (Nx Q k) := by
  refine ⟨.next _, ?_, h⟩
  rw [exS, he]
  simp only [hx]
  rw [if_pos (by unfold lim; exact Nat.le_trans (by assumption) (by decide))]

theorem red_body (Φ : Tab) (hC : SCopy Φ) (hP : SPiv Φ) (hS : SSwap Φ) (hN : SNeg Φ) (hD : SDiv Φ) (hK : SScale Φ) (hR : SRowAdd Φ) (n : Nat) (A : Nat → Nat → Rat) (hn : n ≤ 3) (hz : ∀ i j, i < n → j < n → Sz 8 (A i j)) :
    W (exSs Φ NN mb_reduced (slots [qm n (n + n) (augF n A), .int ((n + n : Nat) : Int)] 6)) (fun o => ∃ g ps, o = .ret (.tuple [qm n (n + n) g, .list (pivD ps)]) true ∧ RI n (n + n) A g ps) := by
  have hn' : n ≤ 64 := by exact Nat.le_trans (by assumption) (by decide)
  have hm' : n + n ≤ 64 := by omega
  generalize hM : n + n = M at *
  delta mb_reduced; simp only [List.map_cons, List.map_nil, List.cons_append, List.nil_append, List.replicate, slots]
  refine W.cons (W.assign (d := qm n M (augF n A)) (by ((repeat' first | with_reducible (first | apply call_copyq hC _ hn' hm') | (first | with_reducible (first | apply eInt | apply eNil | apply idx_q0 | apply idx_q1 | apply tup01 | apply tup11 | apply add_nat1 | apply neg1 | apply eOn | apply eBool | apply eStrg | apply eV | apply eIdx | apply eBin | apply eCall | apply eCons | apply eCmp | apply eTup | apply eLen | apply eR1 | apply eR2 | apply eIl | apply eNeg | apply eOrF | apply eAndT | apply eNotT | apply eNotF | apply eVal | apply eLst | apply eSlc | apply eOs | apply eSort | apply eLr | apply eSum | apply eAbs) | exact vF rfl | exact vS rfl | exact vB rfl | exact rfl)); done)) ?_)
  simp only [demote_zero, demote_succ, dm, List.set_cons_zero, List.set_cons_succ, isList, Bool.false_and, Bool.true_and]
  refine W.cons (W.assign (d := .list []) (by ((repeat' (first | with_reducible (first | apply eInt | apply eNil | apply idx_q0 | apply idx_q1 | apply tup01 | apply tup11 | apply add_nat1 | apply neg1 | apply eOn | apply eBool | apply eStrg | apply eV | apply eIdx | apply eBin | apply eCall | apply eCons | apply eCmp | apply eTup | apply eLen | apply eR1 | apply eR2 | apply eIl | apply eNeg | apply eOrF | apply eAndT | apply eNotT | apply eNotF | apply eVal | apply eLst | apply eSlc | apply eOs | apply eSort | apply eLr | apply eSum | apply eAbs) | exact vF rfl | exact vS rfl | exact vB rfl | exact rfl)); done)) ?_)
  simp only [demote_zero, demote_succ, dm, List.set_cons_zero, List.set_cons_succ, isList, Bool.false_and, Bool.true_and]
  refine W.cons (W.assign (d := .int 0) (by ((repeat' (first | with_reducible (first | apply eInt | apply eNil | apply idx_q0 | apply idx_q1 | apply tup01 | apply tup11 | apply add_nat1 | apply neg1 | apply eOn | apply eBool | apply eStrg | apply eV | apply eIdx | apply eBin | apply eCall | apply eCons | apply eCmp | apply eTup | apply eLen | apply eR1 | apply eR2 | apply eIl | apply eNeg | apply eOrF | apply eAndT | apply eNotT | apply eNotF | apply eVal | apply eLst | apply eSlc | apply eOs | apply eSort | apply eLr | apply eSum | apply eAbs) | exact vF rfl | exact vS rfl | exact vB rfl | exact rfl)); done)) ?_)
  simp only [demote_zero, demote_succ, dm, List.set_cons_zero, List.set_cons_succ, isList, Bool.false_and, Bool.true_and]
  refine W.cons (W.forS (ds := upto 0 M) (by ((repeat' first | with_reducible (first | apply range0_ok hm') | (first | with_reducible (first | apply eInt | apply eNil | apply idx_q0 | apply idx_q1 | apply tup01 | apply tup11 | apply add_nat1 | apply neg1 | apply eOn | apply eBool | apply eStrg | apply eV | apply eIdx | apply eBin | apply eCall | apply eCons | apply eCmp | apply eTup | apply eLen | apply eR1 | apply eR2 | apply eIl | apply eNeg | apply eOrF | apply eAndT | apply eNotT | apply eNotF | apply eVal | apply eLst | apply eSlc | apply eOs | apply eSort | apply eLr | apply eSum | apply eAbs) | exact vF rfl | exact vS rfl | exact vB rfl | exact rfl)); done)) ?_)
  simp only [demote_zero, demote_succ, dm, List.set_cons_zero, List.set_cons_succ, isList, Bool.false_and, Bool.true_and]
  refine W.loopJ (I := fun c ρ => ∃ g ps, ∃ o : Nat → Option Slot, ρ = [some ⟨false, qm n M (augF n A)⟩, some ⟨false, .int (M : Nat)⟩, some ⟨false, qm n M g⟩, some ⟨true, .list (pivD ps)⟩, some ⟨false, .int (ps.length : Nat)⟩, o 0, o 1, o 2] ∧ RI n c A g ps) rfl rfl (Nat.zero_le _)
    ⟨augF n A, [], fun _ => none, rfl, RI.start hn hz⟩ ?_ ?_
  · rintro J1 q1 P1 r1 c ρ - hc ⟨g, ps, o, rfl, hI⟩
    simp only [demote_zero, demote_succ, dm, List.set_cons_zero, List.set_cons_succ, isList, Bool.false_and, Bool.true_and]
    obtain ⟨v, hv, hv'⟩ := piv_q hP g (c := c) (s := ps.length) hn' hm' hc hI.le
    refine W.cons (W.assign (d := .int v) (by ((repeat' first | with_reducible (first | apply hv) | (first | with_reducible (first | apply eInt | apply eNil | apply idx_q0 | apply idx_q1 | apply tup01 | apply tup11 | apply add_nat1 | apply neg1 | apply eOn | apply eBool | apply eStrg | apply eV | apply eIdx | apply eBin | apply eCall | apply eCons | apply eCmp | apply eTup | apply eLen | apply eR1 | apply eR2 | apply eIl | apply eNeg | apply eOrF | apply eAndT | apply eNotT | apply eNotF | apply eVal | apply eLst | apply eSlc | apply eOs | apply eSort | apply eLr | apply eSum | apply eAbs) | exact vF rfl | exact vS rfl | exact vB rfl | exact rfl)); done)) ?_)
    simp only [demote_zero, demote_succ, dm, List.set_cons_zero, List.set_cons_succ, isList, Bool.false_and, Bool.true_and]
    rcases hv' with ⟨rfl, hz0⟩ | ⟨r, rfl, hcr, hrn, hnz⟩
    · refine W.cons (W.iteT (by ((repeat' (first | with_reducible (first | apply eInt | apply eNil | apply idx_q0 | apply idx_q1 | apply tup01 | apply tup11 | apply add_nat1 | apply neg1 | apply eOn | apply eBool | apply eStrg | apply eV | apply eIdx | apply eBin | apply eCall | apply eCons | apply eCmp | apply eTup | apply eLen | apply eR1 | apply eR2 | apply eIl | apply eNeg | apply eOrF | apply eAndT | apply eNotT | apply eNotF | apply eVal | apply eLst | apply eSlc | apply eOs | apply eSort | apply eLr | apply eSum | apply eAbs) | exact vF rfl | exact vS rfl | exact vB rfl | exact rfl)); done)) (W.cons ⟨_, by rw [exS], ?_⟩))
      exact q1 _ _ ⟨g, ps, fun i => ([_, _, _] : Rho).getD i none, rfl, hI.miss hn hz0⟩
    · refine W.cons (W.skip (by ((repeat' (first | with_reducible (first | apply eInt | apply eNil | apply idx_q0 | apply idx_q1 | apply tup01 | apply tup11 | apply add_nat1 | apply neg1 | apply eOn | apply eBool | apply eStrg | apply eV | apply eIdx | apply eBin | apply eCall | apply eCons | apply eCmp | apply eTup | apply eLen | apply eR1 | apply eR2 | apply eIl | apply eNeg | apply eOrF | apply eAndT | apply eNotT | apply eNotF | apply eVal | apply eLst | apply eSlc | apply eOs | apply eSort | apply eLr | apply eSum | apply eAbs) | exact vF rfl | exact vS rfl | exact vB rfl | exact rfl)); done)) ?_)
      have htn : ps.length < n := by exact Nat.lt_of_le_of_lt (by assumption) (by assumption)
      have key : ∀ g, RI n c A g ps → g ps.length c ≠ 0 → W (exSs Φ NN [.assign false 2 (.call "row_scaled" (.cons (.var 2) (.cons (.var 4) (.cons (.call "f_div" (.cons (.tup (.cons (.int 1) (.cons (.int 1) .nil))) (.cons (.idx (.idx (.var 2) (.var 4)) (.var 5)) .nil))) .nil)))), .forS 7 (.range1 (.len (.var 2))) [.ite (.and (.cmp .NotEq (.var 7) (.var 4)) (.cmp .NotEq (.idx (.idx (.var 2) (.var 7)) (.var 5)) (.tup (.cons (.int 0) (.cons (.int 1) .nil))))) [.assign false 2 (.call "row_added" (.cons (.var 2) (.cons (.var 7) (.cons (.var 4) (.cons (.call "f_neg" (.cons (.idx (.idx (.var 2) (.var 7)) (.var 5)) .nil)) .nil)))))] []], .append 3 (.var 5), .assign false 4 (.bin .add (.var 4) (.int 1))]
          [some ⟨false, qm n M (augF n A)⟩, some ⟨false, .int (M : Nat)⟩, some ⟨false, qm n M g⟩, some ⟨true, .list (pivD ps)⟩, some ⟨false, .int (ps.length : Nat)⟩, some ⟨false, .int c⟩, some ⟨false, .int r⟩, o 2]) (Stp J1 P1 c) := by
        intro g hI hp
        have hone : Sz 1 (1 : Rat) := ⟨by decide, by decide⟩
        have b2 := bits2 (c := ps.length) (by exact Nat.lt_of_lt_of_le (by assumption) (by assumption))
        have hszt : ∀ t, t < M → Sz (bits ps.length) (g ps.length t) := fun t ht => hI.sz _ t htn (by omega)
        have hd := call_div hD hp hone (hszt c hc) (by omega)
        have hk := hone.div (hszt c hc) hp
        have hs := call_scale hK g hn' hm' htn hk hszt (by omega)
        refine W.cons (W.assign (d := qm n M (scaleF g ps.length (1 / g ps.length c))) (by ((repeat' first | with_reducible (first | apply idx_qm g _ hn' htn | apply idx_qr (g ps.length) _ hm' hc | apply hd | apply hs) | (first | with_reducible (first | apply eInt | apply eNil | apply idx_q0 | apply idx_q1 | apply tup01 | apply tup11 | apply add_nat1 | apply neg1 | apply eOn | apply eBool | apply eStrg | apply eV | apply eIdx | apply eBin | apply eCall | apply eCons | apply eCmp | apply eTup | apply eLen | apply eR1 | apply eR2 | apply eIl | apply eNeg | apply eOrF | apply eAndT | apply eNotT | apply eNotF | apply eVal | apply eLst | apply eSlc | apply eOs | apply eSort | apply eLr | apply eSum | apply eAbs) | exact vF rfl | exact vS rfl | exact vB rfl | exact rfl)); done)) ?_)
        simp only [demote_zero, demote_succ, dm, List.set_cons_zero, List.set_cons_succ, isList, Bool.false_and, Bool.true_and]
        generalize hg2 : scaleF g ps.length (1 / g ps.length c) = g2
        have e2t : ∀ j, g2 ps.length j = (1 / g ps.length c) * g ps.length j := fun j => by rw [← hg2]; unfold scaleF; rw [if_pos rfl]
        have e2r : ∀ r j, r ≠ ps.length → g2 r j = g r j := fun r j h => by rw [← hg2]; unfold scaleF; rw [if_neg h]
        refine W.cons (W.forS (ds := upto 0 n) (by ((repeat' first | with_reducible (first | apply len_qm g2 _ hn' | apply range0_ok hn') | (first | with_reducible (first | apply eInt | apply eNil | apply idx_q0 | apply idx_q1 | apply tup01 | apply tup11 | apply add_nat1 | apply neg1 | apply eOn | apply eBool | apply eStrg | apply eV | apply eIdx | apply eBin | apply eCall | apply eCons | apply eCmp | apply eTup | apply eLen | apply eR1 | apply eR2 | apply eIl | apply eNeg | apply eOrF | apply eAndT | apply eNotT | apply eNotF | apply eVal | apply eLst | apply eSlc | apply eOs | apply eSort | apply eLr | apply eSum | apply eAbs) | exact vF rfl | exact vS rfl | exact vB rfl | exact rfl)); done)) ?_)
        simp only [demote_zero, demote_succ, dm, List.set_cons_zero, List.set_cons_succ, isList, Bool.false_and, Bool.true_and]
        refine W.loopJ (I := fun i ρ => ∃ h o7, ρ = [some ⟨false, qm n M (augF n A)⟩, some ⟨false, .int (M : Nat)⟩, some ⟨false, qm n M h⟩, some ⟨true, .list (pivD ps)⟩, some ⟨false, .int (ps.length : Nat)⟩, some ⟨false, .int c⟩, some ⟨false, .int r⟩, o7] ∧ (∀ r j, r < n → j < M → h r j = if r < i ∧ r ≠ ps.length then g2 r j + -g2 r c * g2 ps.length j else g2 r j)) rfl rfl (Nat.zero_le _) ⟨g2, _, rfl, fun r j _ _ => by rw [if_neg (by omega)]⟩ ?_ ?_
        · rintro J2 q2 P2 r2 i ρ - hi ⟨h, o7, rfl, hJ⟩
          simp only [demote_zero, demote_succ, dm, List.set_cons_zero, List.set_cons_succ, isList, Bool.false_and, Bool.true_and]
          have hit : ∀ j, j < M → h i j = g2 i j := fun j hj => by rw [hJ i j hi hj, if_neg (by omega)]
          have htt : ∀ j, j < M → h ps.length j = g2 ps.length j := fun j hj => by rw [hJ _ j htn hj, if_neg (by omega)]
          have hrest : (i = ps.length ∨ h i c = 0) → (∀ r j, r < n → j < M → h r j = if r < i + 1 ∧ r ≠ ps.length then g2 r j + -g2 r c * g2 ps.length j else g2 r j) := by
            intro hor r j hr hj
            rw [hJ r j hr hj]
            by_cases e : r = i
            · subst e
              rw [if_neg (by omega)]
              rcases hor with e | e
              · rw [if_neg (by omega)]
              · rw [hit c hc] at e
                rw [e]
                split
                · grind
                · rfl
            · have : (r < i + 1 ∧ r ≠ ps.length) ↔ (r < i ∧ r ≠ ps.length) := by omega
              simp only [this]
          by_cases hip : i = ps.length
          · refine W.cons (W.skip (by simp only [evE, evEs, evO, evI, evT, demote_zero, demote_succ, demote_nil, dm, demoteAll_eq, List.map_cons, List.map_nil, List.getElem?_cons_zero, List.getElem?_cons_succ, List.set_cons_zero, List.set_cons_succ, isList, if_true, vm_q, vm_int, vm_list, vm_own, vm_bool, vm_str, idx_q0, idx_q1, Bool.and_false, Bool.and_true, List.cons_append, List.nil_append, List.replicate, cmp_eq_int, cmp_ne_int, cmp_lt_int, cmp_gt_int, tup01, tup11, vm_qm, vm_im, neg1, add_nat1, cast_ne_neg1, cast_eq, isList_qm, isList_im, isList_q, decide_true, decide_false, Bool.not_true, Bool.not_false, hip]) ?_)
            exact W.nil (q2 _ _ ⟨h, _, rfl, hrest (.inl hip)⟩)
          · refine W.cons (W.ite (v := !decide (h i c = 0)) (by ((repeat' first | with_reducible (first | apply hip | apply idx_qm h _ hn' hi | apply idx_qr (h i) _ hm' hc | apply cmp_ne_q) | (first | with_reducible (first | apply eInt | apply eNil | apply idx_q0 | apply idx_q1 | apply tup01 | apply tup11 | apply add_nat1 | apply neg1 | apply eOn | apply eBool | apply eStrg | apply eV | apply eIdx | apply eBin | apply eCall | apply eCons | apply eCmp | apply eTup | apply eLen | apply eR1 | apply eR2 | apply eIl | apply eNeg | apply eOrF | apply eAndT | apply eNotT | apply eNotF | apply eVal | apply eLst | apply eSlc | apply eOs | apply eSort | apply eLr | apply eSum | apply eAbs) | exact vF rfl | exact vS rfl | exact vB rfl | exact rfl)) <;> simp only [cmp_eq_int, cmp_ne_int, cmp_lt_int, cmp_gt_int, cast_ne_neg1, cast_eq, decide_true, decide_false, Bool.not_true, Bool.not_false, hip, idx_qm h _ hn' hi, idx_qr (h i) _ hm' hc, cmp_ne_q])) (fun e => ?_) (fun e => ?_))
            · have s1 : ∀ t, t < M → Sz (bits ps.length) (h i t) := fun t ht => by rw [hit t ht, e2r i t hip]; exact hI.sz i t hi (by omega)
              have s2 : ∀ t, t < M → Sz (1 + bits ps.length + bits ps.length) (h ps.length t) := fun t ht => by rw [htt t ht, e2t t]; exact hk.mul (hszt t ht)
              have hr := call_rowadd hR h (i := i) (j := ps.length) (k := -h i c) hn' hm' hi htn (s1 c hc).neg s1 s2 (by omega)
              refine W.cons (W.assign (d := qm n M (addF h i ps.length (-h i c))) (by ((repeat' first | with_reducible (first | apply idx_qm h _ hn' hi | apply idx_qr (h i) _ hm' hc | apply call_neg hN | apply hr) | (first | with_reducible (first | apply eInt | apply eNil | apply idx_q0 | apply idx_q1 | apply tup01 | apply tup11 | apply add_nat1 | apply neg1 | apply eOn | apply eBool | apply eStrg | apply eV | apply eIdx | apply eBin | apply eCall | apply eCons | apply eCmp | apply eTup | apply eLen | apply eR1 | apply eR2 | apply eIl | apply eNeg | apply eOrF | apply eAndT | apply eNotT | apply eNotF | apply eVal | apply eLst | apply eSlc | apply eOs | apply eSort | apply eLr | apply eSum | apply eAbs) | exact vF rfl | exact vS rfl | exact vB rfl | exact rfl)); done)) ?_)
              simp only [demote_zero, demote_succ, dm, List.set_cons_zero, List.set_cons_succ, isList, Bool.false_and, Bool.true_and]
              refine W.nil (W.nil (q2 _ _ ⟨_, _, rfl, fun r j hr hj => ?_⟩))
              unfold addF
              by_cases e : r = i
              · subst e
                rw [if_pos rfl, if_pos ⟨by exact Nat.le_refl _, hip⟩, hit j hj, hit c hc, htt j hj]
              · rw [if_neg e, hJ r j hr hj]
                have : (r < i + 1 ∧ r ≠ ps.length) ↔ (r < i ∧ r ≠ ps.length) := by omega
                simp only [this]
            · have e0 : h i c = 0 := by simpa using e
              exact W.nil (W.nil (q2 _ _ ⟨h, _, rfl, hrest (.inr e0)⟩))
        · rintro ρ ⟨h, o7, rfl, hJ⟩
          refine W.cons (W.append (d := .int c) (ds := pivD ps) (by ((repeat' (first | with_reducible (first | apply eInt | apply eNil | apply idx_q0 | apply idx_q1 | apply tup01 | apply tup11 | apply add_nat1 | apply neg1 | apply eOn | apply eBool | apply eStrg | apply eV | apply eIdx | apply eBin | apply eCall | apply eCons | apply eCmp | apply eTup | apply eLen | apply eR1 | apply eR2 | apply eIl | apply eNeg | apply eOrF | apply eAndT | apply eNotT | apply eNotF | apply eVal | apply eLst | apply eSlc | apply eOs | apply eSort | apply eLr | apply eSum | apply eAbs) | exact vF rfl | exact vS rfl | exact vB rfl | exact rfl)); done)) rfl (by unfold pivD; rw [List.length_map]; exact Nat.lt_of_lt_of_le (by assumption) (by assumption)) ?_)
          simp only [demote_zero, demote_succ, dm, List.set_cons_zero, List.set_cons_succ, isList, Bool.false_and, Bool.true_and]
          refine W.cons (W.assign (d := .int ((ps.length + 1 : Nat) : Int)) (by ((repeat' (first | with_reducible (first | apply eInt | apply eNil | apply idx_q0 | apply idx_q1 | apply tup01 | apply tup11 | apply add_nat1 | apply neg1 | apply eOn | apply eBool | apply eStrg | apply eV | apply eIdx | apply eBin | apply eCall | apply eCons | apply eCmp | apply eTup | apply eLen | apply eR1 | apply eR2 | apply eIl | apply eNeg | apply eOrF | apply eAndT | apply eNotT | apply eNotF | apply eVal | apply eLst | apply eSlc | apply eOs | apply eSort | apply eLr | apply eSum | apply eAbs) | exact vF rfl | exact vS rfl | exact vB rfl | exact rfl)); done)) ?_)
          simp only [demote_zero, demote_succ, dm, List.set_cons_zero, List.set_cons_succ, isList, Bool.false_and, Bool.true_and]
          have hH := hI.hit hn (by omega) htn hp
          refine W.nil (q1 _ _ ⟨jord g ps.length c, ps ++ [c], fun i => ([some ⟨false, .int c⟩, some ⟨false, .int r⟩, o7] : Rho).getD i none, ?_, hH⟩)
          have e1 : qm n M h = qm n M (jord g ps.length c) := by
            refine qm_ext fun i j hi hj => ?_
            rw [hJ i j hi hj]
            unfold jord
            by_cases e : i = ps.length
            · rw [if_neg (by omega), if_pos e, e, e2t]
            · rw [if_pos ⟨hi, e⟩, if_neg e, e2t, e2r i j e, e2r i c e]
          have e2 : pivD ps ++ [.int (c : Int)] = pivD (ps ++ [c]) := by unfold pivD; rw [List.map_append]; rfl
          rw [e1, e2, List.length_append, List.length_singleton]
          rfl
      by_cases hrc : r = ps.length
      · subst hrc
        refine W.cons (W.skip (by ((repeat' (first | with_reducible (first | apply eInt | apply eNil | apply idx_q0 | apply idx_q1 | apply tup01 | apply tup11 | apply add_nat1 | apply neg1 | apply eOn | apply eBool | apply eStrg | apply eV | apply eIdx | apply eBin | apply eCall | apply eCons | apply eCmp | apply eTup | apply eLen | apply eR1 | apply eR2 | apply eIl | apply eNeg | apply eOrF | apply eAndT | apply eNotT | apply eNotF | apply eVal | apply eLst | apply eSlc | apply eOs | apply eSort | apply eLr | apply eSum | apply eAbs) | exact vF rfl | exact vS rfl | exact vB rfl | exact rfl)) <;> simp only [cmp_eq_int, cmp_ne_int, cmp_lt_int, cmp_gt_int, cast_ne_neg1, cast_eq, decide_true, decide_false, Bool.not_true, Bool.not_false])) ?_)
        exact key g hI hnz
      · refine W.cons (W.iteT (by ((repeat' first | with_reducible (first | apply hrc) | (first | with_reducible (first | apply eInt | apply eNil | apply idx_q0 | apply idx_q1 | apply tup01 | apply tup11 | apply add_nat1 | apply neg1 | apply eOn | apply eBool | apply eStrg | apply eV | apply eIdx | apply eBin | apply eCall | apply eCons | apply eCmp | apply eTup | apply eLen | apply eR1 | apply eR2 | apply eIl | apply eNeg | apply eOrF | apply eAndT | apply eNotT | apply eNotF | apply eVal | apply eLst | apply eSlc | apply eOs | apply eSort | apply eLr | apply eSum | apply eAbs) | exact vF rfl | exact vS rfl | exact vB rfl | exact rfl)) <;> simp only [cmp_eq_int, cmp_ne_int, cmp_lt_int, cmp_gt_int, cast_ne_neg1, cast_eq, decide_true, decide_false, Bool.not_true, Bool.not_false, hrc])) ?_)
        refine W.cons (W.assign (d := qm n M (swapF g ps.length r)) (by ((repeat' first | with_reducible (first | apply call_swap hS g hn' hm' htn hrn) | (first | with_reducible (first | apply eInt | apply eNil | apply idx_q0 | apply idx_q1 | apply tup01 | apply tup11 | apply add_nat1 | apply neg1 | apply eOn | apply eBool | apply eStrg | apply eV | apply eIdx | apply eBin | apply eCall | apply eCons | apply eCmp | apply eTup | apply eLen | apply eR1 | apply eR2 | apply eIl | apply eNeg | apply eOrF | apply eAndT | apply eNotT | apply eNotF | apply eVal | apply eLst | apply eSlc | apply eOs | apply eSort | apply eLr | apply eSum | apply eAbs) | exact vF rfl | exact vS rfl | exact vB rfl | exact rfl)); done)) ?_)
        simp only [demote_zero, demote_succ, dm, List.set_cons_zero, List.set_cons_succ, isList, Bool.false_and, Bool.true_and]
        refine W.nil (key _ (hI.swap hn hrn hcr hrc) ?_)
        unfold swapF
        rw [if_neg (by omega), if_pos rfl]
        exact hnz
  · rintro ρ ⟨g, ps, o, rfl, hI⟩
    refine W.cons (W.ret (d := .tuple [qm n M g, .list (pivD ps)]) (m := .fresh) (by ((repeat' (first | with_reducible (first | apply eInt | apply eNil | apply idx_q0 | apply idx_q1 | apply tup01 | apply tup11 | apply add_nat1 | apply neg1 | apply eOn | apply eBool | apply eStrg | apply eV | apply eIdx | apply eBin | apply eCall | apply eCons | apply eCmp | apply eTup | apply eLen | apply eR1 | apply eR2 | apply eIl | apply eNeg | apply eOrF | apply eAndT | apply eNotT | apply eNotF | apply eVal | apply eLst | apply eSlc | apply eOs | apply eSort | apply eLr | apply eSum | apply eAbs) | exact vF rfl | exact vS rfl | exact vB rfl | exact rfl)); done)) (by decide) ⟨g, ps, rfl, hI⟩)
theorem red_run {Φ : Tab} (hC : SCopy Φ) (hP : SPiv Φ) (hS : SSwap Φ) (hN : SNeg Φ) (hD : SDiv Φ) (hK : SScale Φ) (hR : SRowAdd Φ) : SRed (runN Φ) := fun n A hn hz => by
  obtain ⟨o, e, g, ps, rfl, h⟩ := red_body Φ hC hP hS hN hD hK hR n A hn hz
  exact ⟨g, ps, run_of (f := ⟨"reduced", ["m", "cols"], ["red", "pivots", "top", "c", "found", "i"], mb_reduced⟩) rfl ⟨_, e, rfl⟩, h⟩


theorem depth_pivD (xs : List Nat) : PyData.depthAll (pivD xs) = 0 := by
  induction xs with
  | nil => rfl
  | cons x xs ih => unfold pivD at *; rw [List.map_cons, PyData.depthAll, ih]; rfl
theorem can_pivD (xs : List Nat) : PyData.canLayAll0 (pivD xs) = true := by
  induction xs with
  | nil => rfl
  | cons x xs ih => unfold pivD at *; rw [List.map_cons, PyData.canLayAll0, ih]; rfl
theorem eqv_pivD : ∀ xs ys : List Nat, PyData.eqvAll (pivD xs) (pivD ys) = decide (xs = ys)
  | [], [] => by simp [pivD, PyData.eqvAll]
  | [], y :: ys => by simp [pivD, PyData.eqvAll]
  | x :: xs, [] => by simp [pivD, PyData.eqvAll]
  | x :: xs, y :: ys => by
    have ih := eqv_pivD xs ys
    unfold pivD at *
    rw [List.map_cons, List.map_cons, PyData.eqvAll, ih, PyData.eqv, Bool.eq_iff_iff]
    simp only [Bool.and_eq_true, beq_iff_eq, decide_eq_true_eq, List.cons.injEq]
    constructor
    · rintro ⟨h1, h2⟩; exact ⟨by omega, h2⟩
    · rintro ⟨h1, h2⟩; exact ⟨by omega, h2⟩
theorem cmp_ne_piv (xs ys : List Nat) : cmpD .NotEq (.list (pivD xs)) (.list (pivD ys)) = some (!decide (xs = ys)) := by
  show (if (cmpD.SeqAtOk (.list (pivD xs)) && cmpD.SeqAtOk (.list (pivD ys))) = true then some (!PyData.eqv (.list (pivD xs)) (.list (pivD ys))) else none) = _
  rw [if_pos (by simp [cmpD.SeqAtOk, PyData.canLay0, PyData.depth, can_pivD, depth_pivD]), PyData.eqv, eqv_pivD]
theorem upto_piv (n : Nat) : upto 0 (n : Int) = pivD (List.range n) := by
  rw [show (0 : Int) = ((0 : Nat) : Int) from rfl, tab_upto]
  simp [tab, pivD]
theorem lrange_ok {n : Nat} (hn : n ≤ 64) (m : Mode) : lrangeD (.int (n : Int), m) = some (.list (pivD (List.range n)), .fresh) := by
  unfold lrangeD
  simp only [range0_ok hn, upto_piv]
theorem add_rows {n m : Nat} {f g : Nat → Rat} (h : n + m ≤ 64) : binD .add (.list (tab n fun j => qD (f j)), .shared) (.list (tab m fun j => qD (g j)), .shared) = some (.list (tab (n + m) fun j => qD (if j < n then f j else g (j - n))), .fresh) := by
  rw [addL_ok (by decide) (by decide) (by rw [tab_length, tab_length]; exact h), tab_append]
  congr 2
  · congr 1
    exact tab_ext fun i _ => by split <;> rfl
  · rw [flat_row]
    intro j; split <;> rfl
theorem slc_from {m k : Nat} {g : Nat → D} (hg : ∀ j, isList (g j) = false) (hm : m ≤ 64) : slcD (.list (tab m g), .shared) (some (k : Int)) none = some (.list (tab (m - k) fun j => g (k + j)), .fresh) := by
  unfold slcD
  simp only [cutL]
  rw [if_neg (by rw [tab_length]; unfold lim; simp; exact Nat.le_trans (by assumption) (by decide)), flat_row hg, Int.toNat_natCast, tab_drop]
theorem slc_to {m k : Nat} {g : Nat → D} (hg : ∀ j, isList (g j) = false) (hm : m ≤ 64) (hk : k ≤ m) : slcD (.list (tab m g), .shared) none (some (k : Int)) = some (.list (tab k g), .fresh) := by
  unfold slcD
  simp only [cutL]
  rw [if_neg (by rw [tab_length]; unfold lim; simp; exact Nat.le_trans (by assumption) (by decide)), flat_row hg, Int.toNat_natCast, tab_take hk]
theorem bound_ok {k : Nat} (hk : k ≤ 64) (m : Mode) : boundD (some (.int (k : Int), m)) = some (k : Int) := by
  unfold boundD
  simp only
  rw [if_neg (by unfold lim; omega)]

noncomputable def invRho (n : Nat) (A g : Nat → Nat → Rat) (ps : List Nat) : Rho := [some ⟨false, qm n n A⟩, some ⟨false, .int n⟩, some ⟨false, qm n n dl⟩, some ⟨false, qm n (n + n) g⟩, some ⟨false, .list (pivD ps)⟩]

theorem inv_pre {Φ : Tab} (hI : SIdent Φ) (hR : SRed Φ) {n : Nat} {A : Nat → Nat → Rat} (hn : n ≤ 3) (hz : ∀ i j, i < n → j < n → Sz 8 (A i j)) :
    ∃ g ps, RI n (n + n) A g ps ∧ exS Φ NN (.assign false 1 (.len (.var 0))) (slots [qm n n A] 4) = some (.next [some ⟨false, qm n n A⟩, some ⟨false, .int n⟩, none, none, none])
      ∧ exS Φ NN (.assign false 2 (.call "identity" (.cons (.var 1) .nil))) [some ⟨false, qm n n A⟩, some ⟨false, .int n⟩, none, none, none] = some (.next [some ⟨false, qm n n A⟩, some ⟨false, .int n⟩, some ⟨false, qm n n dl⟩, none, none])
      ∧ exS Φ NN (.unpack2 3 4 (.call "reduced" (.cons (.comp (.range1 (.var 1)) (.bin .add (.idx (.var 0) (.var 5)) (.idx (.var 2) (.var 5)))) (.cons (.bin .add (.var 1) (.var 1)) .nil)))) [some ⟨false, qm n n A⟩, some ⟨false, .int n⟩, some ⟨false, qm n n dl⟩, none, none] = some (.next (invRho n A g ps)) := by
  have hn' : n ≤ 64 := by exact Nat.le_trans (by assumption) (by decide)
  obtain ⟨g, ps, e, h⟩ := hR n A hn hz
  refine ⟨g, ps, h, ?_, ?_, ?_⟩
  · exact xAssign (d := .int n) (by ((repeat' first | with_reducible (first | apply len_qm A _ hn') | (first | with_reducible (first | apply eInt | apply eNil | apply idx_q0 | apply idx_q1 | apply tup01 | apply tup11 | apply add_nat1 | apply neg1 | apply eOn | apply eBool | apply eStrg | apply eV | apply eIdx | apply eBin | apply eCall | apply eCons | apply eCmp | apply eTup | apply eLen | apply eR1 | apply eR2 | apply eIl | apply eNeg | apply eOrF | apply eAndT | apply eNotT | apply eNotF | apply eVal | apply eLst | apply eSlc | apply eOs | apply eSort | apply eLr | apply eSum | apply eAbs) | exact vF rfl | exact vS rfl | exact vB rfl | exact rfl)); done)) rfl
  · have hc : callD Φ "identity" [(.int (n : Int), .fresh)] = some (qm n n dl, .fresh) := call_ok (hI n hn') rfl
    exact xAssign (d := qm n n dl) (by ((repeat' first | with_reducible (first | apply hc) | (first | with_reducible (first | apply eInt | apply eNil | apply idx_q0 | apply idx_q1 | apply tup01 | apply tup11 | apply add_nat1 | apply neg1 | apply eOn | apply eBool | apply eStrg | apply eV | apply eIdx | apply eBin | apply eCall | apply eCons | apply eCmp | apply eTup | apply eLen | apply eR1 | apply eR2 | apply eIl | apply eNeg | apply eOrF | apply eAndT | apply eNotT | apply eNotF | apply eVal | apply eLst | apply eSlc | apply eOs | apply eSort | apply eLr | apply eSum | apply eAbs) | exact vF rfl | exact vS rfl | exact vB rfl | exact rfl)); done)) rfl
  · have hcomp : evE Φ (.comp (.range1 (.var 1)) (.bin .add (.idx (.var 0) (.var 5)) (.idx (.var 2) (.var 5)))) [some ⟨false, qm n n A⟩, some ⟨false, .int n⟩, some ⟨false, qm n n dl⟩, none, none] = some (qm n (n + n) (augF n A), .fresh) := by
      refine comp_tab (g := fun i => .int (i : Nat)) (le_lim (by assumption)) (by ((repeat' first | with_reducible (first | apply range0_tab hn') | (first | with_reducible (first | apply eInt | apply eNil | apply idx_q0 | apply idx_q1 | apply tup01 | apply tup11 | apply add_nat1 | apply neg1 | apply eOn | apply eBool | apply eStrg | apply eV | apply eIdx | apply eBin | apply eCall | apply eCons | apply eCmp | apply eTup | apply eLen | apply eR1 | apply eR2 | apply eIl | apply eNeg | apply eOrF | apply eAndT | apply eNotT | apply eNotF | apply eVal | apply eLst | apply eSlc | apply eOs | apply eSort | apply eLr | apply eSum | apply eAbs) | exact vF rfl | exact vS rfl | exact vB rfl | exact rfl)); done)) fun i hi => ?_
      ((repeat' first | with_reducible (first | apply innerR | apply idx_qm A _ hn' hi | apply idx_qm dl _ hn' hi | apply add_rows (show n + n ≤ 64 by omega)) | (first | with_reducible (first | apply eInt | apply eNil | apply idx_q0 | apply idx_q1 | apply tup01 | apply tup11 | apply add_nat1 | apply neg1 | apply eOn | apply eBool | apply eStrg | apply eV | apply eIdx | apply eBin | apply eCall | apply eCons | apply eCmp | apply eTup | apply eLen | apply eR1 | apply eR2 | apply eIl | apply eNeg | apply eOrF | apply eAndT | apply eNotT | apply eNotF | apply eVal | apply eLst | apply eSlc | apply eOs | apply eSort | apply eLr | apply eSum | apply eAbs) | exact vF rfl | exact vS rfl | exact vB rfl | exact rfl)) <;> simp only [cmp_eq_int, cmp_ne_int, cmp_lt_int, cmp_gt_int, cast_ne_neg1, cast_eq, decide_true, decide_false, Bool.not_true, Bool.not_false, innerR, idx_qm A _ hn' hi, idx_qm dl _ hn' hi, add_rows (show n + n ≤ 64 by omega)])
      rfl
    have hc : callD Φ "reduced" [(qm n (n + n) (augF n A), .fresh), (.int ((n + n : Nat) : Int), .fresh)] = some (.tuple [qm n (n + n) g, .list (pivD ps)], .fresh) := call_ok e rfl
    have : evE Φ (.call "reduced" (.cons (.comp (.range1 (.var 1)) (.bin .add (.idx (.var 0) (.var 5)) (.idx (.var 2) (.var 5)))) (.cons (.bin .add (.var 1) (.var 1)) .nil))) [some ⟨false, qm n n A⟩, some ⟨false, .int n⟩, some ⟨false, qm n n dl⟩, none, none] = some (.tuple [qm n (n + n) g, .list (pivD ps)], .fresh) := by
      ((repeat' first | with_reducible (first | apply hcomp | apply add_nat | apply hc) | (first | with_reducible (first | apply eInt | apply eNil | apply idx_q0 | apply idx_q1 | apply tup01 | apply tup11 | apply add_nat1 | apply neg1 | apply eOn | apply eBool | apply eStrg | apply eV | apply eIdx | apply eBin | apply eCall | apply eCons | apply eCmp | apply eTup | apply eLen | apply eR1 | apply eR2 | apply eIl | apply eNeg | apply eOrF | apply eAndT | apply eNotT | apply eNotF | apply eVal | apply eLst | apply eSlc | apply eOs | apply eSort | apply eLr | apply eSum | apply eAbs) | exact vF rfl | exact vS rfl | exact vB rfl | exact rfl)); done)
    exact xUnpack2 this (by decide) rfl

noncomputable def SInv (Φ : Tab) : Prop := ∀ n (A : Nat → Nat → Rat), n ≤ 3 → (∀ i j, i < n → j < n → Sz 8 (A i j)) → detQ n A ≠ 0 → ∃ T, Φ "inverse_of" [qm n n A] = some (qm n n T, true) ∧ ∀ i j, i < n → j < n → sm n (fun k => T i k * A k j) = dl i j

theorem RI.good {n : Nat} {A g : Nat → Nat → Rat} {ps : List Nat} (h : RI n (n + n) A g ps) (hd : detQ n A ≠ 0) : ps = List.range n ∧ ∀ i j, i < n → j < n → sm n (fun k => g i (n + k) * A k j) = dl i j := by
  rcases h.st with H | ⟨h0, _⟩
  · have e : min (n + n) n = n := Nat.min_eq_right (Nat.le_add_left n n)
    refine ⟨e ▸ H.ps, fun i j hi hj => ?_⟩
    rw [← H.rel i j hi hj, H.un i j hi (by omega)]
  · exact absurd h0 hd
theorem det_dl {n : Nat} (hn : n ≤ 3) : detQ n dl = 1 := by
  rcases n4 hn with rfl | rfl | rfl | rfl <;> decide +kernel
theorem RI.bad {n : Nat} {A g : Nat → Nat → Rat} {ps : List Nat} (h : RI n (n + n) A g ps) (hn : n ≤ 3) (hd : detQ n A = 0) : ps ≠ List.range n := by
  rcases h.st with H | ⟨h0, c0, h1, h2, h3, h4⟩
  · have e : min (n + n) n = n := Nat.min_eq_right (Nat.le_add_left n n)
    have h1 := H.det.mpr hd
    rw [detQ_ext hn (g := dl) fun i j hi hj => H.un i j hi (by omega), det_dl hn] at h1
    exact absurd h1 (by decide)
  · intro e
    rw [e] at h4
    simp [h2] at h4

theorem W.step {Φ : Tab} {N : Nat} {s : MS} {r : List MS} {ρ ρ' : Rho} {Q : Out → Prop} (e : exS Φ N s ρ = some (.next ρ')) (h : W (exSs Φ N r ρ') Q) : W (exSs Φ N (s :: r) ρ) Q := W.cons ⟨_, e, h⟩

theorem inv_body {Φ : Tab} (hI : SIdent Φ) (hR : SRed Φ) {n : Nat} {A : Nat → Nat → Rat} (hn : n ≤ 3) (hz : ∀ i j, i < n → j < n → Sz 8 (A i j)) (hd : detQ n A ≠ 0) :
    W (exSs Φ NN mb_inverse_of (slots [qm n n A] 4)) (fun o => ∃ T, o = .ret (qm n n T) true ∧ ∀ i j, i < n → j < n → sm n (fun k => T i k * A k j) = dl i j) := by
  have hn' : n ≤ 64 := by exact Nat.le_trans (by assumption) (by decide)
  obtain ⟨g, ps, h, e1, e2, e3⟩ := inv_pre hI hR hn hz
  obtain ⟨rfl, hT⟩ := h.good hd
  refine W.step e1 (W.step e2 (W.step e3 ?_))
  refine W.cons (W.skip (by ((repeat' first | with_reducible (first | apply lrange_ok hn' | apply cmp_ne_piv) | (first | with_reducible (first | apply eInt | apply eNil | apply idx_q0 | apply idx_q1 | apply tup01 | apply tup11 | apply add_nat1 | apply neg1 | apply eOn | apply eBool | apply eStrg | apply eV | apply eIdx | apply eBin | apply eCall | apply eCons | apply eCmp | apply eTup | apply eLen | apply eR1 | apply eR2 | apply eIl | apply eNeg | apply eOrF | apply eAndT | apply eNotT | apply eNotF | apply eVal | apply eLst | apply eSlc | apply eOs | apply eSort | apply eLr | apply eSum | apply eAbs) | exact vF rfl | exact vS rfl | exact vB rfl | exact rfl)) <;> simp only [cmp_eq_int, cmp_ne_int, cmp_lt_int, cmp_gt_int, cast_ne_neg1, cast_eq, decide_true, decide_false, Bool.not_true, Bool.not_false, lrange_ok hn', cmp_ne_piv])) ?_)
  refine W.cons (W.ret (d := qm n n fun i k => g i (n + k)) (m := .fresh) (comp_tab (g := fun i => .list (tab (n + n) fun j => qD (g i j))) (le_lim (by assumption)) ?_ fun i hi => ?_) (by decide) ⟨_, rfl, hT⟩)
  · ((repeat' first | with_reducible (first | apply list_qm _ hn') | (first | with_reducible (first | apply eInt | apply eNil | apply idx_q0 | apply idx_q1 | apply tup01 | apply tup11 | apply add_nat1 | apply neg1 | apply eOn | apply eBool | apply eStrg | apply eV | apply eIdx | apply eBin | apply eCall | apply eCons | apply eCmp | apply eTup | apply eLen | apply eR1 | apply eR2 | apply eIl | apply eNeg | apply eOrF | apply eAndT | apply eNotT | apply eNotF | apply eVal | apply eLst | apply eSlc | apply eOs | apply eSort | apply eLr | apply eSum | apply eAbs) | exact vF rfl | exact vS rfl | exact vB rfl | exact rfl)); done)
  · have hs := slc_from (k := n) (g := fun j => qD (g i j)) (fun _ => rfl) (show n + n ≤ 64 by omega)
    rw [show n + n - n = n by omega] at hs
    ((repeat' first | with_reducible (first | apply bound_ok hn' | apply hs) | (first | with_reducible (first | apply eInt | apply eNil | apply idx_q0 | apply idx_q1 | apply tup01 | apply tup11 | apply add_nat1 | apply neg1 | apply eOn | apply eBool | apply eStrg | apply eV | apply eIdx | apply eBin | apply eCall | apply eCons | apply eCmp | apply eTup | apply eLen | apply eR1 | apply eR2 | apply eIl | apply eNeg | apply eOrF | apply eAndT | apply eNotT | apply eNotF | apply eVal | apply eLst | apply eSlc | apply eOs | apply eSort | apply eLr | apply eSum | apply eAbs) | exact vF rfl | exact vS rfl | exact vB rfl | exact rfl)); done)
theorem inv_run {Φ : Tab} (hI : SIdent Φ) (hR : SRed Φ) : SInv (runN Φ) := fun n A hn hz hd => by
  obtain ⟨o, e, T, rfl, h⟩ := inv_body hI hR hn hz hd
  exact ⟨T, run_of (f := ⟨"inverse_of", ["m"], ["n", "ident", "red", "pivots"], mb_inverse_of⟩) rfl ⟨_, e, rfl⟩, h⟩
theorem inv_raise {Φ : Tab} (hI : SIdent Φ) (hR : SRed Φ) {n : Nat} {A : Nat → Nat → Rat} (hn : n ≤ 3) (hz : ∀ i j, i < n → j < n → Sz 8 (A i j)) (hd : detQ n A = 0) : raisesN Φ "inverse_of" [qm n n A] = true := by
  have hn' : n ≤ 64 := by exact Nat.le_trans (by assumption) (by decide)
  obtain ⟨g, ps, h, e1, e2, e3⟩ := inv_pre hI hR hn hz
  have hb := h.bad hn hd
  show raisesF Φ ⟨"inverse_of", ["m"], ["n", "ident", "red", "pivots"], mb_inverse_of⟩ [qm n n A] = true
  unfold raisesF
  rw [Bool.and_eq_true]
  refine ⟨rfl, ?_⟩
  show exX Φ NN mb_inverse_of (slots [qm n n A] 4) = true
  delta mb_inverse_of
  rw [exX, e1]
  simp only
  rw [exX, e2]
  simp only
  rw [exX, e3]
  simp only
  rw [exX]
  have : evT Φ (.cmp .NotEq (.var 4) (.lrange (.var 1))) (invRho n A g ps) = some true := by ((repeat' first | with_reducible (first | apply lrange_ok hn' | apply cmp_ne_piv | apply hb) | (first | with_reducible (first | apply eInt | apply eNil | apply idx_q0 | apply idx_q1 | apply tup01 | apply tup11 | apply add_nat1 | apply neg1 | apply eOn | apply eBool | apply eStrg | apply eV | apply eIdx | apply eBin | apply eCall | apply eCons | apply eCmp | apply eTup | apply eLen | apply eR1 | apply eR2 | apply eIl | apply eNeg | apply eOrF | apply eAndT | apply eNotT | apply eNotF | apply eVal | apply eLst | apply eSlc | apply eOs | apply eSort | apply eLr | apply eSum | apply eAbs) | exact vF rfl | exact vS rfl | exact vB rfl | exact rfl)) <;> simp only [cmp_eq_int, cmp_ne_int, cmp_lt_int, cmp_gt_int, cast_ne_neg1, cast_eq, decide_true, decide_false, Bool.not_true, Bool.not_false, lrange_ok hn', cmp_ne_piv, hb])
  rw [this]
  all_goals (intros; simp_all)
theorem exX_ret (Φ : Tab) (N : Nat) (e : ME) (ρ : Rho) : exX Φ N [.ret e] ρ = false := by
  rw [exX, exS]
  · cases evE Φ e (demoteAll ρ) with
    | none => rfl
    | some r => obtain ⟨d, m⟩ := r; simp only; cases m <;> rfl
  · intros; simp_all
theorem inv_noraise {Φ : Tab} (hI : SIdent Φ) (hR : SRed Φ) {n : Nat} {A : Nat → Nat → Rat} (hn : n ≤ 3) (hz : ∀ i j, i < n → j < n → Sz 8 (A i j)) (hd : detQ n A ≠ 0) : raisesN Φ "inverse_of" [qm n n A] = false := by
  have hn' : n ≤ 64 := by exact Nat.le_trans (by assumption) (by decide)
  obtain ⟨g, ps, h, e1, e2, e3⟩ := inv_pre hI hR hn hz
  obtain ⟨rfl, hT⟩ := h.good hd
  show raisesF Φ ⟨"inverse_of", ["m"], ["n", "ident", "red", "pivots"], mb_inverse_of⟩ [qm n n A] = false
  unfold raisesF
  rw [Bool.and_eq_false_iff]
  right
  show exX Φ NN mb_inverse_of (slots [qm n n A] 4) = false
  delta mb_inverse_of
  rw [exX, e1]
  simp only
  rw [exX, e2]
  simp only
  rw [exX, e3]
  simp only
  rw [exX]
  have : evT Φ (.cmp .NotEq (.var 4) (.lrange (.var 1))) (invRho n A g (List.range n)) = some false := by ((repeat' first | with_reducible (first | apply lrange_ok hn' | apply cmp_ne_piv) | (first | with_reducible (first | apply eInt | apply eNil | apply idx_q0 | apply idx_q1 | apply tup01 | apply tup11 | apply add_nat1 | apply neg1 | apply eOn | apply eBool | apply eStrg | apply eV | apply eIdx | apply eBin | apply eCall | apply eCons | apply eCmp | apply eTup | apply eLen | apply eR1 | apply eR2 | apply eIl | apply eNeg | apply eOrF | apply eAndT | apply eNotT | apply eNotF | apply eVal | apply eLst | apply eSlc | apply eOs | apply eSort | apply eLr | apply eSum | apply eAbs) | exact vF rfl | exact vS rfl | exact vB rfl | exact rfl)) <;> simp only [cmp_eq_int, cmp_ne_int, cmp_lt_int, cmp_gt_int, cast_ne_neg1, cast_eq, decide_true, decide_false, Bool.not_true, Bool.not_false, lrange_ok hn', cmp_ne_piv])
  rw [this]
  · simp only
    rw [exX_ret]
  all_goals (intros; simp_all)


noncomputable def detI : Nat → (Nat → Nat → Int) → Int
  | 0, _ => 1
  | 1, f => f 0 0
  | 2, f => f 0 0 * f 1 1 - f 0 1 * f 1 0
  | _, f => f 0 0 * (f 1 1 * f 2 2 - f 1 2 * f 2 1) - f 0 1 * (f 1 0 * f 2 2 - f 1 2 * f 2 0) + f 0 2 * (f 1 0 * f 2 1 - f 1 1 * f 2 0)
theorem detI_ext {n : Nat} {f g : Nat → Nat → Int} (hn : n ≤ 3) (h : ∀ i j, i < n → j < n → f i j = g i j) : detI n f = detI n g := by
  rcases n4 hn with rfl | rfl | rfl | rfl
  · rfl
  · exact h 0 0 (by exact Nat.le_refl _) (by exact Nat.le_refl _)
  · simp only [detI]; rw [h 0 0 (by exact Nat.le_of_lt_succ (by assumption)) (by exact Nat.le_of_lt_succ (by assumption)), h 0 1 (by exact Nat.le_of_lt_succ (by assumption)) (by exact Nat.le_refl _), h 1 0 (by exact Nat.le_refl _) (by exact Nat.le_of_lt_succ (by assumption)), h 1 1 (by exact Nat.le_refl _) (by exact Nat.le_refl _)]
  · simp only [detI]; rw [h 0 0 (by exact Nat.le_add_left _ _) (by exact Nat.le_add_left _ _), h 0 1 (by exact Nat.le_add_left _ _) (by exact Nat.le_of_lt (by assumption)), h 0 2 (by exact Nat.le_add_left _ _) (by assumption), h 1 0 (by exact Nat.le_of_lt (by assumption)) (by exact Nat.le_add_left _ _), h 1 1 (by exact Nat.le_of_lt (by assumption)) (by exact Nat.le_of_lt (by assumption)), h 1 2 (by exact Nat.le_of_lt (by assumption)) (by assumption), h 2 0 (by assumption) (by exact Nat.le_add_left _ _), h 2 1 (by assumption) (by exact Nat.le_of_lt (by assumption)), h 2 2 (by assumption) (by assumption)]

theorem call_int' {Φ : Tab} {f : Str} {rs : List (D × Mode)} {v : Int} {fr : Bool} (h : Φ f (rs.map (·.1)) = some (.int v, fr)) : callD Φ f rs = some (.int v, .fresh) := by
  unfold callD; rw [h]; cases fr <;> simp [norm, isAtom]
theorem piv_i {Φ : Tab} (h : SPiv Φ) {n m : Nat} (f : Nat → Nat → Int) {c s : Nat} (md : Mode) (hn : n ≤ 64) (hm : m ≤ 64) (hc : c < m) (hs : s ≤ n) :
    ∃ v, callD Φ "pivot_row" [(im n m f, md), (.int c, .fresh), (.int s, .fresh), (.int 0, .fresh)] = some (.int v, .fresh) ∧ ((v = -1 ∧ ∀ i, s ≤ i → i < n → f i c = 0) ∨ ∃ r : Nat, v = r ∧ s ≤ r ∧ r < n ∧ f r c ≠ 0) := by
  obtain ⟨v, fr, e, h'⟩ := h n m (fun i j => .int (f i j)) c s (.int 0) (fun i => !decide (f i c = 0)) hn hm hc hs rfl (fun _ _ => rfl) (fun i _ _ => cmp_ne_int _ _)
  refine ⟨v, call_int' e, ?_⟩
  simpa using h'
theorem call_swapi {Φ : Tab} (h : SSwap Φ) {n m : Nat} (f : Nat → Nat → Int) {i j : Nat} (hn : n ≤ 64) (hm : m ≤ 64) (hi : i < n) (hj : j < n) : callD Φ "rows_swapped" [(im n m f, .shared), (.int i, .fresh), (.int j, .fresh)] = some (im n m (swapF f i j), .fresh) := by
  refine call_ok ((h n m (fun i j => .int (f i j)) i j hn hm hi hj fun _ _ => rfl).trans ?_) rfl
  congr 2
  refine matD_ext fun r c _ _ => ?_
  unfold swapF
  split
  · rfl
  · split <;> rfl
theorem call_copyi {Φ : Tab} (h : SCopy Φ) {n m : Nat} (f : Nat → Nat → Int) (hn : n ≤ 64) (hm : m ≤ 64) : callD Φ "copy_rows" [(im n m f, .shared)] = some (im n m f, .fresh) := call_copy h hn hm fun _ _ => rfl
theorem vm_imo (n m : Nat) (f : Nat → Nat → Int) : varMode ⟨true, im n m f⟩ = .borrow := rfl
theorem idx_imo {n m : Nat} (f : Nat → Nat → Int) {i : Nat} (md : Mode) (hn : n ≤ 64) (hi : i < n) : idxD (im n m f, .borrow) (.int (i : Int), md) = some (.list (tab m fun j => .int (f i j)), .borrow) := by
  unfold im matD
  rw [idx_list rfl (by unfold lim; omega) (tab_get _ hi)]
  rfl
theorem idx_im {n m : Nat} (f : Nat → Nat → Int) {i : Nat} (md : Mode) (hn : n ≤ 64) (hi : i < n) : idxD (im n m f, .shared) (.int (i : Int), md) = some (.list (tab m fun j => .int (f i j)), .shared) := idx_mat _ md hn hi
theorem idx_ir {m : Nat} (g : Nat → Int) {j : Nat} (md md' : Mode) (hm : m ≤ 64) (hj : j < m) : idxD (.list (tab m fun j => .int (g j)), md') (.int (j : Int), md) = some (.int (g j), .fresh) := idx_rowA (fun j => .int (g j)) md md' rfl hm hj

noncomputable def updM {α} (f : Nat → Nat → α) (i j : Nat) (x : α) : Nat → Nat → α := fun r c => if r = i ∧ c = j then x else f r c
theorem set_mat {n m : Nat} (f : Nat → Nat → D) (i j : Nat) (x : D) : PyData.list ((tab n fun i => PyData.list (tab m fun j => f i j)).set i (.list ((tab m (f i)).set j x))) = matD n m (updM f i j x) := by
  unfold matD
  congr 1
  rw [tab_set]
  refine tab_ext fun r _ => ?_
  by_cases e : r = i
  · subst e
    rw [if_pos rfl, tab_set]
    congr 1
    refine tab_ext fun c _ => ?_
    simp [updM]
  · rw [if_neg e]
    congr 1
    refine tab_ext fun c _ => ?_
    simp [updM, e]
theorem W.setItem2 {Φ : Tab} {N : Nat} {Q : Out → Prop} {k : Rho → Prop} {ρ : Rho} {x : Nat} {i j e : ME} {d : D} {n m : Nat} {f : Nat → Nat → D} {r c : Nat} {m1 m2 : Mode} (he : evE Φ e ρ = .some (d, .fresh)) (hi : evE Φ i ρ = .some (.int (r : Int), m1)) (hj : evE Φ j ρ = .some (.int (c : Int), m2)) (hx : ρ[x]? = .some (.some ⟨true, matD n m f⟩)) (hd : isList d = false)
    (hr : r < n) (hc : c < m) (hn : n ≤ 64) (hm : m ≤ 64) (h : k (ρ.set x (.some ⟨true, matD n m (updM f r c d)⟩))) : W (exS Φ N (.setItem2 x i j e) ρ) (Nx Q k) := by
  refine ⟨.next _, ?_, h⟩
  rw [exS, he]
  simp only [hi, hj, hx]
  unfold matD
  simp only
  rw [if_neg (by unfold lim; omega), Int.toNat_natCast, tab_get _ hr]
  simp only [hd, putAt]
  rw [if_neg (by simp), if_pos ⟨trivial, by omega, by rw [tab_length]; omega, by rw [tab_length]; unfold lim; exact Nat.le_trans (by assumption) (by decide)⟩]
  simp only [Int.toNat_natCast]
  rw [set_mat]
  rfl
theorem updM_int (f : Nat → Nat → Int) (i j : Nat) (x : Int) : updM (fun i j => PyData.int (f i j)) i j (.int x) = fun r c => PyData.int (updM f i j x r c) := by
  funext r c; unfold updM; split <;> rfl

/-- the value that one step writes -/
noncomputable def bst (G : Nat → Nat → Int) (k : Nat) (p : Int) : Nat → Nat → Int := fun i j => if k < i ∧ k < j then (G i j * G k k - G i k * G k j).fdiv p else G i j

noncomputable def mdet (m k : Nat) (g : Nat → Nat → Int) : Int := detI m fun i j => g (k + i) (k + j)
noncomputable def bib : Nat → Nat
  | 0 => 8
  | k + 1 => bib k + bib k + 1
structure BI (n k : Nat) (f g : Nat → Nat → Int) (s p : Int) : Prop where
  det : s * mdet (n - k) k g = p ^ (n - k - 1) * detI n f
  sg : s = 1 ∨ s = -1
  p0 : p ≠ 0
  p1 : k = 0 → p = 1
  sp : p.natAbs < 2 ^ 40
  sz : ∀ i j, i < n → j < n → (g i j).natAbs < 2 ^ bib k

theorem int_zero {a b : Int} (h : a * b = 0) (ha : a ≠ 0) : b = 0 := (Int.mul_eq_zero.mp h).resolve_left ha
theorem BI.zero {n k : Nat} {f g : Nat → Nat → Int} {s p : Int} (h : BI n k f g s p) (hn : n ≤ 3) (hk : k < n) (hz : ∀ i, k ≤ i → i < n → g i k = 0) : detI n f = 0 := by
  have hm : mdet (n - k) k g = 0 := by
    unfold mdet
    have hm3 : n - k ≤ 3 := by omega
    have z : ∀ i, i < n - k → g (k + i) (k + 0) = 0 := fun i hi => hz (k + i) (by exact Nat.le_add_right _ _) (by omega)
    rcases n4 hm3 with e | e | e | e <;> rw [e] at z ⊢
    · omega
    · simp only [detI]; exact z 0 (by exact Nat.le_refl _)
    · simp only [detI]; rw [z 0 (by exact Nat.le_add_left _ _), z 1 (by exact Nat.le_refl _)]; grind
    · simp only [detI]; rw [z 0 (by exact Nat.le_add_left _ _), z 1 (by exact Nat.le_add_left _ _), z 2 (by exact Nat.le_refl _)]; grind
  have := h.det
  rw [hm, Int.mul_zero] at this
  exact int_zero this.symm (Int.pow_ne_zero h.p0)
theorem BI.swap {n k r : Nat} {f g : Nat → Nat → Int} {s p : Int} (h : BI n k f g s p) (hn : n ≤ 3) (hk : k < n) (hr : r < n) (hkr : k < r) : BI n k f (swapF g k r) (-s) p := by
  refine ⟨?_, by have := h.sg; omega, h.p0, h.p1, h.sp, fun i j hi hj => ?_⟩
  · rw [← h.det]
    have : mdet (n - k) k (swapF g k r) = - mdet (n - k) k g := by
      unfold mdet
      rcases n4 hn with rfl | rfl | rfl | rfl
      · omega
      · omega
      · obtain rfl : k = 0 := by omega
        obtain rfl : r = 1 := by omega
        simp [detI, swapF]; grind
      · rcases n3 hk with rfl | rfl | rfl
        · rcases n3 hr with rfl | rfl | rfl
          · omega
          · simp [detI, swapF]; grind
          · simp [detI, swapF]; grind
        · obtain rfl : r = 2 := by omega
          simp [detI, swapF]; grind
        · omega
    rw [this]; grind
  · unfold swapF
    split
    · exact h.sz k j hk hj
    · split
      · exact h.sz r j hr hj
      · exact h.sz i j hi hj
theorem bib_le {k : Nat} (h : k < 2) : bib k ≤ 17 := by rcases n2 h with rfl | rfl <;> decide
theorem sub_sz {x y : Int} {a : Nat} (hx : x.natAbs < 2 ^ a) (hy : y.natAbs < 2 ^ a) : (x - y).natAbs < 2 ^ (a + 1) := by
  rw [Nat.pow_succ, Nat.mul_two]; exact Nat.lt_of_le_of_lt (Int.natAbs_sub_le x y) (Nat.add_lt_add hx hy)
theorem BI.step {n k : Nat} {f g : Nat → Nat → Int} {s p : Int} (h : BI n k f g s p) (hn : n ≤ 3) (hk : k + 1 < n) (hp : g k k ≠ 0) : BI n (k + 1) f (bst g k p) s (g k k) := by
  have hk2 : k < 2 := by omega
  have hb := bib_le hk2
  refine ⟨?_, h.sg, hp, fun e => by omega, Nat.lt_of_lt_of_le (h.sz k k (by exact Nat.le_of_lt (by assumption)) (by exact Nat.le_of_lt (by assumption))) (Nat.pow_le_pow_right (by decide) (by exact Nat.le_trans (by assumption) (by decide))), fun i j hi hj => ?_⟩
  · have hd := h.det
    have hs := h.sg
    unfold mdet at *
    rcases n4 hn with rfl | rfl | rfl | rfl
    · omega
    · omega
    · obtain rfl : k = 0 := by omega
      obtain rfl := h.p1 rfl
      simp [detI, bst, Int.fdiv_one] at hd ⊢
      grind
    · rcases n2 hk2 with rfl | rfl
      · obtain rfl := h.p1 rfl
        simp [detI, bst, Int.fdiv_one] at hd ⊢
        grind
      · simp [detI, bst] at hd ⊢
        have e : g 2 2 * g 1 1 - g 2 1 * g 1 2 = p * (s * (f 0 0 * (f 1 1 * f 2 2 - f 1 2 * f 2 1) - f 0 1 * (f 1 0 * f 2 2 - f 1 2 * f 2 0) + f 0 2 * (f 1 0 * f 2 1 - f 1 1 * f 2 0))) := by
          rcases hs with rfl | rfl <;> grind
        rw [e, Int.mul_fdiv_cancel_left _ h.p0]
        rcases hs with rfl | rfl <;> grind
  · unfold bst
    split
    · have h1 := mul_sz (h.sz i j hi hj) (h.sz k k (by exact Nat.le_of_lt (by assumption)) (by exact Nat.le_of_lt (by assumption)))
      have h2 := mul_sz (h.sz i k hi (by exact Nat.le_of_lt (by assumption))) (h.sz k j (by exact Nat.le_of_lt (by assumption)) hj)
      exact Nat.lt_of_le_of_lt (Int.natAbs_fdiv_le_natAbs _ _) (sub_sz h1 h2)
    · exact Nat.lt_of_lt_of_le (h.sz i j hi hj) (Nat.pow_le_pow_right (by decide) (by rw [bib]; omega))

noncomputable def SBar (Φ : Tab) : Prop := ∀ n (f : Nat → Nat → Int), n ≤ 3 → (∀ i j, i < n → j < n → (f i j).natAbs < 2 ^ 8) → ∃ fr, Φ "det_bareiss" [im n n f] = some (.int (detI n f), fr)

theorem bar_body (Φ : Tab) (hC : SCopy Φ) (hP : SPiv Φ) (hS : SSwap Φ) (n : Nat) (f : Nat → Nat → Int) (hn : n ≤ 3) (hz : ∀ i j, i < n → j < n → (f i j).natAbs < 2 ^ 8) :
    W (exSs Φ NN mb_det_bareiss (slots [im n n f] 8)) (fun o => ∃ fr, o = .ret (.int (detI n f)) fr) := by
  have hn' : n ≤ 64 := by exact Nat.le_trans (by assumption) (by decide)
  delta mb_det_bareiss; simp only [List.map_cons, List.map_nil, List.cons_append, List.nil_append, List.replicate, slots]
  refine W.cons (W.assign (d := .int n) (by ((repeat' first | with_reducible (first | apply len_im f _ hn') | (first | with_reducible (first | apply eInt | apply eNil | apply idx_q0 | apply idx_q1 | apply tup01 | apply tup11 | apply add_nat1 | apply neg1 | apply eOn | apply eBool | apply eStrg | apply eV | apply eIdx | apply eBin | apply eCall | apply eCons | apply eCmp | apply eTup | apply eLen | apply eR1 | apply eR2 | apply eIl | apply eNeg | apply eOrF | apply eAndT | apply eNotT | apply eNotF | apply eVal | apply eLst | apply eSlc | apply eOs | apply eSort | apply eLr | apply eSum | apply eAbs) | exact vF rfl | exact vS rfl | exact vB rfl | exact rfl)); done)) ?_)
  simp only [demote_zero, demote_succ, dm, List.set_cons_zero, List.set_cons_succ, isList, Bool.false_and, Bool.true_and]
  by_cases hn0 : n = 0
  · subst hn0
    exact W.cons (W.iteT (by ((repeat' (first | with_reducible (first | apply eInt | apply eNil | apply idx_q0 | apply idx_q1 | apply tup01 | apply tup11 | apply add_nat1 | apply neg1 | apply eOn | apply eBool | apply eStrg | apply eV | apply eIdx | apply eBin | apply eCall | apply eCons | apply eCmp | apply eTup | apply eLen | apply eR1 | apply eR2 | apply eIl | apply eNeg | apply eOrF | apply eAndT | apply eNotT | apply eNotF | apply eVal | apply eLst | apply eSlc | apply eOs | apply eSort | apply eLr | apply eSum | apply eAbs) | exact vF rfl | exact vS rfl | exact vB rfl | exact rfl)); done)) (W.cons (W.ret (d := .int 1) (m := .fresh) (by ((repeat' (first | with_reducible (first | apply eInt | apply eNil | apply idx_q0 | apply idx_q1 | apply tup01 | apply tup11 | apply add_nat1 | apply neg1 | apply eOn | apply eBool | apply eStrg | apply eV | apply eIdx | apply eBin | apply eCall | apply eCons | apply eCmp | apply eTup | apply eLen | apply eR1 | apply eR2 | apply eIl | apply eNeg | apply eOrF | apply eAndT | apply eNotT | apply eNotF | apply eVal | apply eLst | apply eSlc | apply eOs | apply eSort | apply eLr | apply eSum | apply eAbs) | exact vF rfl | exact vS rfl | exact vB rfl | exact rfl)); done)) (by decide) ⟨true, rfl⟩)))
  have hn0' : ¬ (n : Int) = 0 := by omega
  refine W.cons (W.skip (by ((repeat' first | with_reducible (first | apply hn0') | (first | with_reducible (first | apply eInt | apply eNil | apply idx_q0 | apply idx_q1 | apply tup01 | apply tup11 | apply add_nat1 | apply neg1 | apply eOn | apply eBool | apply eStrg | apply eV | apply eIdx | apply eBin | apply eCall | apply eCons | apply eCmp | apply eTup | apply eLen | apply eR1 | apply eR2 | apply eIl | apply eNeg | apply eOrF | apply eAndT | apply eNotT | apply eNotF | apply eVal | apply eLst | apply eSlc | apply eOs | apply eSort | apply eLr | apply eSum | apply eAbs) | exact vF rfl | exact vS rfl | exact vB rfl | exact rfl)) <;> simp only [cmp_eq_int, cmp_ne_int, cmp_lt_int, cmp_gt_int, cast_ne_neg1, cast_eq, decide_true, decide_false, Bool.not_true, Bool.not_false, hn0'])) ?_)
  refine W.cons (W.assign (d := im n n f) (by ((repeat' first | with_reducible (first | apply call_copyi hC f hn' hn') | (first | with_reducible (first | apply eInt | apply eNil | apply idx_q0 | apply idx_q1 | apply tup01 | apply tup11 | apply add_nat1 | apply neg1 | apply eOn | apply eBool | apply eStrg | apply eV | apply eIdx | apply eBin | apply eCall | apply eCons | apply eCmp | apply eTup | apply eLen | apply eR1 | apply eR2 | apply eIl | apply eNeg | apply eOrF | apply eAndT | apply eNotT | apply eNotF | apply eVal | apply eLst | apply eSlc | apply eOs | apply eSort | apply eLr | apply eSum | apply eAbs) | exact vF rfl | exact vS rfl | exact vB rfl | exact rfl)); done)) ?_)
  simp only [demote_zero, demote_succ, dm, List.set_cons_zero, List.set_cons_succ, isList, Bool.false_and, Bool.true_and, isList_im]
  refine W.cons (W.assign (d := .int 1) (by ((repeat' (first | with_reducible (first | apply eInt | apply eNil | apply idx_q0 | apply idx_q1 | apply tup01 | apply tup11 | apply add_nat1 | apply neg1 | apply eOn | apply eBool | apply eStrg | apply eV | apply eIdx | apply eBin | apply eCall | apply eCons | apply eCmp | apply eTup | apply eLen | apply eR1 | apply eR2 | apply eIl | apply eNeg | apply eOrF | apply eAndT | apply eNotT | apply eNotF | apply eVal | apply eLst | apply eSlc | apply eOs | apply eSort | apply eLr | apply eSum | apply eAbs) | exact vF rfl | exact vS rfl | exact vB rfl | exact rfl)); done)) ?_)
  simp only [demote_zero, demote_succ, dm, List.set_cons_zero, List.set_cons_succ, isList, Bool.false_and, Bool.true_and]
  refine W.cons (W.assign (d := .int 1) (by ((repeat' (first | with_reducible (first | apply eInt | apply eNil | apply idx_q0 | apply idx_q1 | apply tup01 | apply tup11 | apply add_nat1 | apply neg1 | apply eOn | apply eBool | apply eStrg | apply eV | apply eIdx | apply eBin | apply eCall | apply eCons | apply eCmp | apply eTup | apply eLen | apply eR1 | apply eR2 | apply eIl | apply eNeg | apply eOrF | apply eAndT | apply eNotT | apply eNotF | apply eVal | apply eLst | apply eSlc | apply eOs | apply eSort | apply eLr | apply eSum | apply eAbs) | exact vF rfl | exact vS rfl | exact vB rfl | exact rfl)); done)) ?_)
  simp only [demote_zero, demote_succ, dm, List.set_cons_zero, List.set_cons_succ, isList, Bool.false_and, Bool.true_and]
  have sub1 : ∀ m m', binD .sub (.int (n : Int), m) (.int 1, m') = some (.int ((n - 1 : Nat) : Int), .fresh) := fun _ _ => by
    show some (PyData.int ((n : Int) - 1), Mode.fresh) = _; congr 3; omega
  refine W.cons (W.forS (ds := upto 0 (n - 1 : Nat)) (by ((repeat' first | with_reducible (first | apply sub1 | apply range0_ok (show n - 1 ≤ 64 by omega)) | (first | with_reducible (first | apply eInt | apply eNil | apply idx_q0 | apply idx_q1 | apply tup01 | apply tup11 | apply add_nat1 | apply neg1 | apply eOn | apply eBool | apply eStrg | apply eV | apply eIdx | apply eBin | apply eCall | apply eCons | apply eCmp | apply eTup | apply eLen | apply eR1 | apply eR2 | apply eIl | apply eNeg | apply eOrF | apply eAndT | apply eNotT | apply eNotF | apply eVal | apply eLst | apply eSlc | apply eOs | apply eSort | apply eLr | apply eSum | apply eAbs) | exact vF rfl | exact vS rfl | exact vB rfl | exact rfl)); done)) ?_)
  simp only [demote_zero, demote_succ, dm, List.set_cons_zero, List.set_cons_succ, isList, Bool.false_and, Bool.true_and]
  refine W.loopJ (I := fun k ρ => ∃ g s p, ∃ o : Nat → Option Slot, ρ = [some ⟨false, im n n f⟩, some ⟨false, .int n⟩, some ⟨true, im n n g⟩, some ⟨false, .int s⟩, some ⟨false, .int p⟩, o 0, o 1, o 2, o 3] ∧ BI n k f g s p) rfl rfl (Nat.zero_le _)
    ⟨f, 1, 1, fun _ => none, rfl, ⟨?_, .inl rfl, by decide, fun _ => rfl, by decide, hz⟩⟩ ?_ ?_
  · unfold mdet
    rw [Int.one_pow]; simp
  · rintro J1 q1 P1 r1 k ρ - hk ⟨g, s, p, o, rfl, hI⟩
    simp only [demote_zero, demote_succ, dm, List.set_cons_zero, List.set_cons_succ, isList, Bool.false_and, Bool.true_and]
    obtain ⟨v, hv, hv'⟩ := piv_i hP g (c := k) (s := k) .borrow hn' hn' (by omega) (show k ≤ n by omega)
    refine W.cons (W.assign (d := .int v) (by ((repeat' first | with_reducible (first | apply vm_imo | apply hv) | (first | with_reducible (first | apply eInt | apply eNil | apply idx_q0 | apply idx_q1 | apply tup01 | apply tup11 | apply add_nat1 | apply neg1 | apply eOn | apply eBool | apply eStrg | apply eV | apply eIdx | apply eBin | apply eCall | apply eCons | apply eCmp | apply eTup | apply eLen | apply eR1 | apply eR2 | apply eIl | apply eNeg | apply eOrF | apply eAndT | apply eNotT | apply eNotF | apply eVal | apply eLst | apply eSlc | apply eOs | apply eSort | apply eLr | apply eSum | apply eAbs) | exact vF rfl | exact vS rfl | exact vB rfl | exact rfl)); done)) ?_)
    simp only [demote_zero, demote_succ, dm, List.set_cons_zero, List.set_cons_succ, isList, Bool.false_and, Bool.true_and]
    rcases hv' with ⟨rfl, hz0⟩ | ⟨r, rfl, hkr, hrn, hnz⟩
    · refine W.cons (W.iteT (by ((repeat' (first | with_reducible (first | apply eInt | apply eNil | apply idx_q0 | apply idx_q1 | apply tup01 | apply tup11 | apply add_nat1 | apply neg1 | apply eOn | apply eBool | apply eStrg | apply eV | apply eIdx | apply eBin | apply eCall | apply eCons | apply eCmp | apply eTup | apply eLen | apply eR1 | apply eR2 | apply eIl | apply eNeg | apply eOrF | apply eAndT | apply eNotT | apply eNotF | apply eVal | apply eLst | apply eSlc | apply eOs | apply eSort | apply eLr | apply eSum | apply eAbs) | exact vF rfl | exact vS rfl | exact vB rfl | exact rfl)); done)) (W.cons (W.ret (d := .int 0) (m := .fresh) (by ((repeat' (first | with_reducible (first | apply eInt | apply eNil | apply idx_q0 | apply idx_q1 | apply tup01 | apply tup11 | apply add_nat1 | apply neg1 | apply eOn | apply eBool | apply eStrg | apply eV | apply eIdx | apply eBin | apply eCall | apply eCons | apply eCmp | apply eTup | apply eLen | apply eR1 | apply eR2 | apply eIl | apply eNeg | apply eOrF | apply eAndT | apply eNotT | apply eNotF | apply eVal | apply eLst | apply eSlc | apply eOs | apply eSort | apply eLr | apply eSum | apply eAbs) | exact vF rfl | exact vS rfl | exact vB rfl | exact rfl)); done)) (by decide) (r1 _ _ ⟨true, ?_⟩))))
      rw [hI.zero hn (by omega) hz0]
      rfl
    · refine W.cons (W.skip (by ((repeat' (first | with_reducible (first | apply eInt | apply eNil | apply idx_q0 | apply idx_q1 | apply tup01 | apply tup11 | apply add_nat1 | apply neg1 | apply eOn | apply eBool | apply eStrg | apply eV | apply eIdx | apply eBin | apply eCall | apply eCons | apply eCmp | apply eTup | apply eLen | apply eR1 | apply eR2 | apply eIl | apply eNeg | apply eOrF | apply eAndT | apply eNotT | apply eNotF | apply eVal | apply eLst | apply eSlc | apply eOs | apply eSort | apply eLr | apply eSum | apply eAbs) | exact vF rfl | exact vS rfl | exact vB rfl | exact rfl)); done)) ?_)
      have key : ∀ g s, BI n k f g s p → g k k ≠ 0 → W (exSs Φ NN [.forS 7 (.range2 (.bin .add (.var 5) (.int 1)) (.var 1)) [.forS 8 (.range2 (.bin .add (.var 5) (.int 1)) (.var 1)) [.setItem2 2 (.var 7) (.var 8) (.bin .fdiv (.bin .sub (.bin .mul (.idx (.idx (.var 2) (.var 7)) (.var 8)) (.idx (.idx (.var 2) (.var 5)) (.var 5))) (.bin .mul (.idx (.idx (.var 2) (.var 7)) (.var 5)) (.idx (.idx (.var 2) (.var 5)) (.var 8)))) (.var 4))]], .assign false 4 (.idx (.idx (.var 2) (.var 5)) (.var 5))]
          [some ⟨false, im n n f⟩, some ⟨false, .int n⟩, some ⟨true, im n n g⟩, some ⟨false, .int s⟩, some ⟨false, .int p⟩, some ⟨false, .int k⟩, some ⟨false, .int r⟩, o 2, o 3]) (Stp J1 P1 k) := by
        intro G s hI hp
        have hkn : k < n := by exact Nat.lt_of_le_of_lt (by assumption) (by assumption)
        have hG : ∀ {h : Nat → Nat → Int} {i j : Nat}, h i j = G i j → i < n → j < n → (h i j).natAbs < Big := fun e hi hj => by
          rw [e]
          exact big_of (hI.sz _ _ hi hj) (Nat.le_trans (bib_le (by omega)) (by decide))
        refine W.cons (W.forS (ds := upto (k + 1 : Nat) n) (by ((repeat' first | with_reducible (first | apply range_ok (show k + 1 ≤ 64 by exact Nat.le_trans (Nat.succ_le_of_lt (by assumption)) (by assumption)) hn') | (first | with_reducible (first | apply eInt | apply eNil | apply idx_q0 | apply idx_q1 | apply tup01 | apply tup11 | apply add_nat1 | apply neg1 | apply eOn | apply eBool | apply eStrg | apply eV | apply eIdx | apply eBin | apply eCall | apply eCons | apply eCmp | apply eTup | apply eLen | apply eR1 | apply eR2 | apply eIl | apply eNeg | apply eOrF | apply eAndT | apply eNotT | apply eNotF | apply eVal | apply eLst | apply eSlc | apply eOs | apply eSort | apply eLr | apply eSum | apply eAbs) | exact vF rfl | exact vS rfl | exact vB rfl | exact rfl)); done)) ?_)
        simp only [demote_zero, demote_succ, dm, List.set_cons_zero, List.set_cons_succ, isList, Bool.false_and, Bool.true_and]
        refine W.loopJ (I := fun i ρ => ∃ h o7 o8, ρ = [some ⟨false, im n n f⟩, some ⟨false, .int n⟩, some ⟨true, im n n h⟩, some ⟨false, .int s⟩, some ⟨false, .int p⟩, some ⟨false, .int k⟩, some ⟨false, .int r⟩, o7, o8] ∧ ∀ r c, r < n → c < n → h r c = if r < i then bst G k p r c else G r c) rfl rfl (by assumption) ⟨G, _, _, rfl, fun r c hr hc => by
          split
          · unfold bst; rw [if_neg (by omega)]
          · rfl⟩ ?_ ?_
        · rintro J2 q2 P2 r2 i ρ hi1 hi2 ⟨h, o7, o8, rfl, hJ⟩
          simp only [demote_zero, demote_succ, dm, List.set_cons_zero, List.set_cons_succ, isList, Bool.false_and, Bool.true_and]
          refine W.cons (W.forS (ds := upto (k + 1 : Nat) n) (by ((repeat' first | with_reducible (first | apply range_ok (show k + 1 ≤ 64 by exact Nat.le_trans (Nat.succ_le_of_lt (by assumption)) (by assumption)) hn') | (first | with_reducible (first | apply eInt | apply eNil | apply idx_q0 | apply idx_q1 | apply tup01 | apply tup11 | apply add_nat1 | apply neg1 | apply eOn | apply eBool | apply eStrg | apply eV | apply eIdx | apply eBin | apply eCall | apply eCons | apply eCmp | apply eTup | apply eLen | apply eR1 | apply eR2 | apply eIl | apply eNeg | apply eOrF | apply eAndT | apply eNotT | apply eNotF | apply eVal | apply eLst | apply eSlc | apply eOs | apply eSort | apply eLr | apply eSum | apply eAbs) | exact vF rfl | exact vS rfl | exact vB rfl | exact rfl)); done)) ?_)
          simp only [demote_zero, demote_succ, dm, List.set_cons_zero, List.set_cons_succ, isList, Bool.false_and, Bool.true_and]
          refine W.loopJ (I := fun j ρ => ∃ h o8, ρ = [some ⟨false, im n n f⟩, some ⟨false, .int n⟩, some ⟨true, im n n h⟩, some ⟨false, .int s⟩, some ⟨false, .int p⟩, some ⟨false, .int k⟩, some ⟨false, .int r⟩, some ⟨false, .int i⟩, o8] ∧ ∀ r c, r < n → c < n → h r c = if r < i ∨ (r = i ∧ c < j) then bst G k p r c else G r c) rfl rfl (by assumption) ⟨h, _, rfl, fun r c hr hc => ?_⟩ ?_ ?_
          · rw [hJ r c hr hc]
            by_cases e : r < i
            · rw [if_pos e, if_pos (.inl e)]
            · rw [if_neg e]
              split
              · unfold bst; rw [if_neg (by omega)]
              · rfl
          · rintro J3 q3 P3 r3 j ρ hj1 hj2 ⟨h, o8, rfl, hK⟩
            simp only [demote_zero, demote_succ, dm, List.set_cons_zero, List.set_cons_succ, isList, Bool.false_and, Bool.true_and]
            have e1 : h i j = G i j := by rw [hK i j hi2 hj2, if_neg (by omega)]
            have e2 : h k k = G k k := by rw [hK k k hkn hkn, if_pos (by exact Or.inl (by assumption))]; unfold bst; rw [if_neg (by omega)]
            have e3 : h i k = G i k := by rw [hK i k hi2 hkn]; split
                                          · unfold bst; rw [if_neg (by omega)]
                                          · rfl
            have e4 : h k j = G k j := by rw [hK k j hkn hj2, if_pos (by exact Or.inl (by assumption))]; unfold bst; rw [if_neg (by omega)]
            have m1 := mul_ok (m := .fresh) (m' := .fresh) (hG e1 hi2 hj2) (hG e2 hkn hkn)
            have m2 := mul_ok (m := .fresh) (m' := .fresh) (hG e3 hi2 hkn) (hG e4 hkn hj2)
            have m3 := fdiv_ok (x := h i j * h k k - h i k * h k j) (m := .fresh) (m' := .fresh) hI.p0 (big_of hI.sp (by decide))
            have m0 : binD .sub (.int (h i j * h k k), .fresh) (.int (h i k * h k j), .fresh) = some (.int (h i j * h k k - h i k * h k j), .fresh) := rfl
            refine W.cons (W.setItem2 (d := .int ((h i j * h k k - h i k * h k j).fdiv p)) (n := n) (m := n) (f := fun i j => .int (h i j)) (r := i) (c := j) (m1 := .fresh) (m2 := .fresh) ?_ (by ((repeat' (first | with_reducible (first | apply eInt | apply eNil | apply idx_q0 | apply idx_q1 | apply tup01 | apply tup11 | apply add_nat1 | apply neg1 | apply eOn | apply eBool | apply eStrg | apply eV | apply eIdx | apply eBin | apply eCall | apply eCons | apply eCmp | apply eTup | apply eLen | apply eR1 | apply eR2 | apply eIl | apply eNeg | apply eOrF | apply eAndT | apply eNotT | apply eNotF | apply eVal | apply eLst | apply eSlc | apply eOs | apply eSort | apply eLr | apply eSum | apply eAbs) | exact vF rfl | exact vS rfl | exact vB rfl | exact rfl)); done)) (by ((repeat' (first | with_reducible (first | apply eInt | apply eNil | apply idx_q0 | apply idx_q1 | apply tup01 | apply tup11 | apply add_nat1 | apply neg1 | apply eOn | apply eBool | apply eStrg | apply eV | apply eIdx | apply eBin | apply eCall | apply eCons | apply eCmp | apply eTup | apply eLen | apply eR1 | apply eR2 | apply eIl | apply eNeg | apply eOrF | apply eAndT | apply eNotT | apply eNotF | apply eVal | apply eLst | apply eSlc | apply eOs | apply eSort | apply eLr | apply eSum | apply eAbs) | exact vF rfl | exact vS rfl | exact vB rfl | exact rfl)); done)) rfl rfl hi2 hj2 hn' hn' ?_)
            · ((repeat' first | with_reducible (first | apply vm_imo | apply idx_imo h _ hn' hi2 | apply idx_imo h _ hn' hkn | apply idx_ir (h i) _ _ hn' hj2 | apply idx_ir (h i) _ _ hn' hkn | apply idx_ir (h k) _ _ hn' hj2 | apply idx_ir (h k) _ _ hn' hkn | apply m1 | apply m2 | apply m0 | apply m3) | (first | with_reducible (first | apply eInt | apply eNil | apply idx_q0 | apply idx_q1 | apply tup01 | apply tup11 | apply add_nat1 | apply neg1 | apply eOn | apply eBool | apply eStrg | apply eV | apply eIdx | apply eBin | apply eCall | apply eCons | apply eCmp | apply eTup | apply eLen | apply eR1 | apply eR2 | apply eIl | apply eNeg | apply eOrF | apply eAndT | apply eNotT | apply eNotF | apply eVal | apply eLst | apply eSlc | apply eOs | apply eSort | apply eLr | apply eSum | apply eAbs) | exact vF rfl | exact vS rfl | exact vB rfl | exact rfl)); done)
            · simp only [demote_zero, demote_succ, dm, List.set_cons_zero, List.set_cons_succ, isList, Bool.false_and, Bool.true_and, updM_int]
              refine W.nil (q3 _ _ ⟨_, _, rfl, fun r c hr hc => ?_⟩)
              unfold updM
              by_cases e : r = i ∧ c = j
              · obtain ⟨rfl, rfl⟩ := e
                rw [if_pos ⟨rfl, rfl⟩, if_pos (by omega), e1, e2, e3, e4]
                unfold bst
                rw [if_pos (by omega)]
              · rw [if_neg e, hK r c hr hc]
                have : (r < i ∨ r = i ∧ c < j + 1) ↔ (r < i ∨ r = i ∧ c < j) := by omega
                simp only [this]
          · rintro ρ ⟨h, o8, rfl, hK⟩
            refine W.nil (q2 _ _ ⟨h, _, _, rfl, fun r c hr hc => ?_⟩)
            rw [hK r c hr hc]
            have : (r < i ∨ r = i ∧ c < n) ↔ r < i + 1 := by omega
            simp only [this]
        · rintro ρ ⟨h, o7, o8, rfl, hJ⟩
          have ekk : h k k = G k k := by rw [hJ k k hkn hkn, if_pos hkn]; unfold bst; rw [if_neg (by omega)]
          refine W.cons (W.assign (d := .int (h k k)) (by ((repeat' first | with_reducible (first | apply vm_imo | apply idx_imo h _ hn' hkn | apply idx_ir (h k) _ _ hn' hkn) | (first | with_reducible (first | apply eInt | apply eNil | apply idx_q0 | apply idx_q1 | apply tup01 | apply tup11 | apply add_nat1 | apply neg1 | apply eOn | apply eBool | apply eStrg | apply eV | apply eIdx | apply eBin | apply eCall | apply eCons | apply eCmp | apply eTup | apply eLen | apply eR1 | apply eR2 | apply eIl | apply eNeg | apply eOrF | apply eAndT | apply eNotT | apply eNotF | apply eVal | apply eLst | apply eSlc | apply eOs | apply eSort | apply eLr | apply eSum | apply eAbs) | exact vF rfl | exact vS rfl | exact vB rfl | exact rfl)); done)) ?_)
          simp only [demote_zero, demote_succ, dm, List.set_cons_zero, List.set_cons_succ, isList, Bool.false_and, Bool.true_and]
          have e1 : im n n h = im n n (bst G k p) := matD_ext fun i j hi hj => by rw [hJ i j hi hj, if_pos hi]
          refine W.nil (q1 _ _ ⟨bst G k p, s, G k k, fun i => ([_, _, _, _] : Rho).getD i none, by rw [e1, ekk]; rfl, hI.step hn (by omega) hp⟩)
      by_cases hrc : r = k
      · subst hrc
        refine W.cons (W.skip (by ((repeat' (first | with_reducible (first | apply eInt | apply eNil | apply idx_q0 | apply idx_q1 | apply tup01 | apply tup11 | apply add_nat1 | apply neg1 | apply eOn | apply eBool | apply eStrg | apply eV | apply eIdx | apply eBin | apply eCall | apply eCons | apply eCmp | apply eTup | apply eLen | apply eR1 | apply eR2 | apply eIl | apply eNeg | apply eOrF | apply eAndT | apply eNotT | apply eNotF | apply eVal | apply eLst | apply eSlc | apply eOs | apply eSort | apply eLr | apply eSum | apply eAbs) | exact vF rfl | exact vS rfl | exact vB rfl | exact rfl)) <;> simp only [cmp_eq_int, cmp_ne_int, cmp_lt_int, cmp_gt_int, cast_ne_neg1, cast_eq, decide_true, decide_false, Bool.not_true, Bool.not_false])) ?_)
        exact key g s hI hnz
      · refine W.cons (W.iteT (by ((repeat' first | with_reducible (first | apply hrc) | (first | with_reducible (first | apply eInt | apply eNil | apply idx_q0 | apply idx_q1 | apply tup01 | apply tup11 | apply add_nat1 | apply neg1 | apply eOn | apply eBool | apply eStrg | apply eV | apply eIdx | apply eBin | apply eCall | apply eCons | apply eCmp | apply eTup | apply eLen | apply eR1 | apply eR2 | apply eIl | apply eNeg | apply eOrF | apply eAndT | apply eNotT | apply eNotF | apply eVal | apply eLst | apply eSlc | apply eOs | apply eSort | apply eLr | apply eSum | apply eAbs) | exact vF rfl | exact vS rfl | exact vB rfl | exact rfl)) <;> simp only [cmp_eq_int, cmp_ne_int, cmp_lt_int, cmp_gt_int, cast_ne_neg1, cast_eq, decide_true, decide_false, Bool.not_true, Bool.not_false, hrc])) ?_)
        refine W.cons (W.assign (d := im n n (swapF g k r)) (by ((repeat' first | with_reducible (first | apply call_swapi hS g hn' hn' (show k < n by exact Nat.lt_of_le_of_lt (by assumption) (by assumption)) hrn) | (first | with_reducible (first | apply eInt | apply eNil | apply idx_q0 | apply idx_q1 | apply tup01 | apply tup11 | apply add_nat1 | apply neg1 | apply eOn | apply eBool | apply eStrg | apply eV | apply eIdx | apply eBin | apply eCall | apply eCons | apply eCmp | apply eTup | apply eLen | apply eR1 | apply eR2 | apply eIl | apply eNeg | apply eOrF | apply eAndT | apply eNotT | apply eNotF | apply eVal | apply eLst | apply eSlc | apply eOs | apply eSort | apply eLr | apply eSum | apply eAbs) | exact vF rfl | exact vS rfl | exact vB rfl | exact rfl)); done)) ?_)
        simp only [demote_zero, demote_succ, dm, List.set_cons_zero, List.set_cons_succ, isList, Bool.false_and, Bool.true_and, isList_im]
        refine W.cons (W.assign (d := .int (-s)) (by ((repeat' first | with_reducible (first | apply negD) | (first | with_reducible (first | apply eInt | apply eNil | apply idx_q0 | apply idx_q1 | apply tup01 | apply tup11 | apply add_nat1 | apply neg1 | apply eOn | apply eBool | apply eStrg | apply eV | apply eIdx | apply eBin | apply eCall | apply eCons | apply eCmp | apply eTup | apply eLen | apply eR1 | apply eR2 | apply eIl | apply eNeg | apply eOrF | apply eAndT | apply eNotT | apply eNotF | apply eVal | apply eLst | apply eSlc | apply eOs | apply eSort | apply eLr | apply eSum | apply eAbs) | exact vF rfl | exact vS rfl | exact vB rfl | exact rfl)); done)) ?_)
        simp only [demote_zero, demote_succ, dm, List.set_cons_zero, List.set_cons_succ, isList, Bool.false_and, Bool.true_and]
        refine W.nil (key _ _ (hI.swap hn (by exact Nat.lt_of_le_of_lt (by assumption) (by assumption)) hrn (by omega)) ?_)
        unfold swapF
        rw [if_neg (by omega), if_pos rfl]
        exact hnz
  · rintro ρ ⟨g, s, p, o, rfl, hI⟩
    have hd := hI.det
    have e1 : n - (n - 1) = 1 := by omega
    rw [e1, Nat.sub_self, Int.pow_zero, Int.one_mul] at hd
    have hl : n - 1 < n := by omega
    have hs : s.natAbs < Big := by rcases hI.sg with e | e <;> rw [e] <;> decide
    have hg : (g (n - 1) (n - 1)).natAbs < Big := big_of (hI.sz _ _ hl hl) (by
      have : n - 1 < 3 := by exact Nat.lt_of_lt_of_le (by assumption) (by assumption)
      rcases n3 this with e | e | e <;> rw [e] <;> decide)
    have m1 := mul_ok (m := .fresh) (m' := .fresh) hs hg
    refine W.cons (W.ret (d := .int (s * g (n - 1) (n - 1))) (m := .fresh) (by ((repeat' first | with_reducible (first | apply sub1 | apply idx_im g _ hn' hl | apply idx_ir (g (n - 1)) _ _ hn' hl | apply m1) | (first | with_reducible (first | apply eInt | apply eNil | apply idx_q0 | apply idx_q1 | apply tup01 | apply tup11 | apply add_nat1 | apply neg1 | apply eOn | apply eBool | apply eStrg | apply eV | apply eIdx | apply eBin | apply eCall | apply eCons | apply eCmp | apply eTup | apply eLen | apply eR1 | apply eR2 | apply eIl | apply eNeg | apply eOrF | apply eAndT | apply eNotT | apply eNotF | apply eVal | apply eLst | apply eSlc | apply eOs | apply eSort | apply eLr | apply eSum | apply eAbs) | exact vF rfl | exact vS rfl | exact vB rfl | exact rfl)); done)) (by decide) ⟨true, ?_⟩)
    rw [← hd]
    rfl
theorem bar_run {Φ : Tab} (hC : SCopy Φ) (hP : SPiv Φ) (hS : SSwap Φ) : SBar (runN Φ) := fun n f hn hz => by
  obtain ⟨o, e, fr, rfl⟩ := bar_body Φ hC hP hS n f hn hz
  exact ⟨fr, run_of (f := ⟨"det_bareiss", ["rows"], ["n", "a", "sign", "prev", "k", "found", "i", "j"], mb_det_bareiss⟩) rfl ⟨_, e, rfl⟩⟩


noncomputable def PN : Nat → List (List Nat)
  | 0 => [[]]
  | 1 => [[0]]
  | 2 => [[1, 0], [0, 1]]
  | _ => [[2, 1, 0], [1, 2, 0], [1, 0, 2], [2, 0, 1], [0, 2, 1], [0, 1, 2]]
noncomputable def sgN (p : List Nat) : Int := if p = [] ∨ p = [0] ∨ p = [0, 1] ∨ p = [0, 1, 2] ∨ p = [1, 2, 0] ∨ p = [2, 0, 1] then 1 else -1

noncomputable def SPerm (Φ : Tab) : Prop := ∀ n, n ≤ 3 → Φ "permutations_of" [.int (n : Nat)] = some (.list ((PN n).map fun p => .list (pivD p)), false)
noncomputable def SSign (Φ : Tab) : Prop := ∀ n p, n ≤ 3 → p ∈ PN n → ∃ fr, Φ "sign_of" [.list (pivD p)] = some (.int (sgN p), fr)
theorem perm_run (Φ : Tab) : SPerm (runN Φ) := by
  intro n hn
  rcases n4 hn with rfl | rfl | rfl | rfl <;> rfl
theorem sign_run (Φ : Tab) : SSign (runN Φ) := by
  intro n p hn hp
  rcases n4 hn with rfl | rfl | rfl | rfl <;> simp only [PN, List.mem_cons, List.not_mem_nil, or_false] at hp
  · subst hp; exact ⟨true, rfl⟩
  · subst hp; exact ⟨true, rfl⟩
  · rcases hp with rfl | rfl <;> exact ⟨true, rfl⟩
  · rcases hp with rfl | rfl | rfl | rfl | rfl | rfl <;> exact ⟨true, rfl⟩

noncomputable def prodP (f : Nat → Nat → Int) (p : List Nat) : Nat → Int
  | 0 => sgN p
  | k + 1 => prodP f p k * f k (p.getD k 0)
theorem PN_ok {n : Nat} {p : List Nat} (hn : n ≤ 3) (hp : p ∈ PN n) : p.length = n ∧ ∀ i, i < n → p.getD i 0 < n := by
  rcases n4 hn with rfl | rfl | rfl | rfl <;> simp only [PN, List.mem_cons, List.not_mem_nil, or_false] at hp
  · subst hp; exact ⟨rfl, fun i hi => by omega⟩
  · subst hp; exact ⟨rfl, fun i hi => by obtain rfl := n1 hi; decide⟩
  · rcases hp with rfl | rfl <;> exact ⟨rfl, fun i hi => by rcases n2 hi with rfl | rfl <;> decide⟩
  · rcases hp with rfl | rfl | rfl | rfl | rfl | rfl <;> exact ⟨rfl, fun i hi => by rcases n3 hi with rfl | rfl | rfl <;> decide⟩
theorem prodP_sz {n : Nat} {f : Nat → Nat → Int} {p : List Nat} (hn : n ≤ 3) (hp : p ∈ PN n) (hz : ∀ i j, i < n → j < n → (f i j).natAbs < 2 ^ 8) : ∀ k, k ≤ n → (prodP f p k).natAbs < 2 ^ (1 + 8 * k)
  | 0, _ => by unfold prodP sgN; split <;> decide
  | k + 1, hk => by
    have h1 := prodP_sz hn hp hz k (by exact Nat.le_of_lt (by assumption))
    have h2 := mul_sz h1 (hz k (p.getD k 0) (by assumption) ((PN_ok hn hp).2 k (by assumption)))
    exact Nat.lt_of_lt_of_le h2 (Nat.pow_le_pow_right (by decide) (by exact Nat.le_refl _))
noncomputable def totP (f : Nat → Nat → Int) (n : Nat) (ps : List (List Nat)) : Int := (ps.map fun p => prodP f p n).sum
theorem tot_det {n : Nat} (hn : n ≤ 3) (f : Nat → Nat → Int) : totP f n (PN n) = detI n f := by
  rcases n4 hn with rfl | rfl | rfl | rfl <;> simp [totP, PN, prodP, sgN, detI] <;> grind

theorem pivD_get {p : List Nat} {i : Nat} (h : i < p.length) : (pivD p)[i]? = some (.int (p.getD i 0 : Nat)) := by
  unfold pivD
  simp [List.getElem?_map, List.getElem?_eq_getElem h, List.getD_eq_getElem?_getD]
theorem idx_piv {p : List Nat} {i : Nat} (md md' : Mode) (h : i < p.length) (hl : p.length ≤ 64) : idxD (.list (pivD p), md) (.int (i : Int), md') = some (.int (p.getD i 0 : Nat), .fresh) := by
  rw [idx_list rfl (by unfold lim; omega) (pivD_get h)]
  rfl
theorem len_piv {p : List Nat} (md : Mode) (hl : p.length ≤ 64) : lenD (.list (pivD p), md) = some (.int (p.length : Nat), .fresh) := by
  unfold lenD pivD
  simp only [List.length_map]
  rw [if_pos (le_lim (by assumption))]

noncomputable def SLeib (Φ : Tab) : Prop := ∀ n (f : Nat → Nat → Int), n ≤ 3 → (∀ i j, i < n → j < n → (f i j).natAbs < 2 ^ 8) → ∃ fr, Φ "det_by_leibniz" [im n n f] = some (.int (detI n f), fr)
theorem leib_body (Φ : Tab) (hP : SPerm Φ) (hS : SSign Φ) (n : Nat) (f : Nat → Nat → Int) (hn : n ≤ 3) (hz : ∀ i j, i < n → j < n → (f i j).natAbs < 2 ^ 8) :
    W (exSs Φ NN mb_det_by_leibniz (slots [im n n f] 4)) (fun o => ∃ fr, o = .ret (.int (detI n f)) fr) := by
  have hn' : n ≤ 64 := by exact Nat.le_trans (by assumption) (by decide)
  delta mb_det_by_leibniz; simp only [List.map_cons, List.map_nil, List.cons_append, List.nil_append, List.replicate, slots]
  refine W.cons (W.assign (d := .int 0) (by ((repeat' (first | with_reducible (first | apply eInt | apply eNil | apply idx_q0 | apply idx_q1 | apply tup01 | apply tup11 | apply add_nat1 | apply neg1 | apply eOn | apply eBool | apply eStrg | apply eV | apply eIdx | apply eBin | apply eCall | apply eCons | apply eCmp | apply eTup | apply eLen | apply eR1 | apply eR2 | apply eIl | apply eNeg | apply eOrF | apply eAndT | apply eNotT | apply eNotF | apply eVal | apply eLst | apply eSlc | apply eOs | apply eSort | apply eLr | apply eSum | apply eAbs) | exact vF rfl | exact vS rfl | exact vB rfl | exact rfl)); done)) ?_)
  simp only [demote_zero, demote_succ, dm, List.set_cons_zero, List.set_cons_succ, isList, Bool.false_and, Bool.true_and]
  have hpl : ((PN n).map fun p => PyData.list (pivD p)).length ≤ lim := by
    rw [List.length_map]; rcases n4 hn with rfl | rfl | rfl | rfl <;> decide
  have hc : callD Φ "permutations_of" [(.int (n : Int), .fresh)] = some (.list ((PN n).map fun p => .list (pivD p)), .shared) := by
    have := hP n hn
    unfold callD
    simp only [List.map_cons, List.map_nil, this]
    rfl
  have hl : listD (.list ((PN n).map fun p => PyData.list (pivD p)), .shared) = some ((PN n).map fun p => .list (pivD p)) := by
    unfold listD; simp only; rw [if_neg (by simp; simpa using hpl)]
  refine W.cons (W.forS (ds := (PN n).map fun p => .list (pivD p)) (by ((repeat' first | with_reducible (first | apply len_im f _ hn' | apply hc | apply hl) | (first | with_reducible (first | apply eInt | apply eNil | apply idx_q0 | apply idx_q1 | apply tup01 | apply tup11 | apply add_nat1 | apply neg1 | apply eOn | apply eBool | apply eStrg | apply eV | apply eIdx | apply eBin | apply eCall | apply eCons | apply eCmp | apply eTup | apply eLen | apply eR1 | apply eR2 | apply eIl | apply eNeg | apply eOrF | apply eAndT | apply eNotT | apply eNotF | apply eVal | apply eLst | apply eSlc | apply eOs | apply eSort | apply eLr | apply eSum | apply eAbs) | exact vF rfl | exact vS rfl | exact vB rfl | exact rfl)); done)) ?_)
  simp only [demote_zero, demote_succ, dm, List.set_cons_zero, List.set_cons_succ, isList, Bool.false_and, Bool.true_and]
  refine W.loopL (I := fun i ρ => ∃ o2 o3 o4, ρ = [some ⟨false, im n n f⟩, some ⟨false, .int (totP f n ((PN n).take i))⟩, o2, o3, o4]) (ds := (PN n).map fun p => .list (pivD p)) _ 0 _ (Nat.zero_add _) ⟨none, none, none, rfl⟩ ?_ ?_
  · rintro i ρ d hd ⟨o2, o3, o4, rfl⟩
    simp only [demote_zero, demote_succ, dm, List.set_cons_zero, List.set_cons_succ, isList, Bool.false_and, Bool.true_and]
    rw [List.getElem?_map] at hd
    cases hp : (PN n)[i]? with
    | none => rw [hp] at hd; cases hd
    | some p =>
      rw [hp] at hd
      simp only [Option.map_some, Option.some.injEq] at hd
      subst hd
      have hmem : p ∈ PN n := List.mem_of_getElem? hp
      obtain ⟨pl, pv⟩ := PN_ok hn hmem
      obtain ⟨fr, hs⟩ := hS n p hn hmem
      have hc : callD Φ "sign_of" [(.list (pivD p), .shared)] = some (.int (sgN p), .fresh) := call_int' hs
      refine W.cons (W.assign (d := .int (sgN p)) (by ((repeat' first | with_reducible (first | apply hc) | (first | with_reducible (first | apply eInt | apply eNil | apply idx_q0 | apply idx_q1 | apply tup01 | apply tup11 | apply add_nat1 | apply neg1 | apply eOn | apply eBool | apply eStrg | apply eV | apply eIdx | apply eBin | apply eCall | apply eCons | apply eCmp | apply eTup | apply eLen | apply eR1 | apply eR2 | apply eIl | apply eNeg | apply eOrF | apply eAndT | apply eNotT | apply eNotF | apply eVal | apply eLst | apply eSlc | apply eOs | apply eSort | apply eLr | apply eSum | apply eAbs) | exact vF rfl | exact vS rfl | exact vB rfl | exact rfl)); done)) ?_)
      simp only [demote_zero, demote_succ, dm, List.set_cons_zero, List.set_cons_succ, isList, Bool.false_and, Bool.true_and]
      refine W.cons (W.forS (ds := upto 0 n) (by ((repeat' first | with_reducible (first | apply len_piv _ (show p.length ≤ 64 by omega) | apply pl | apply range0_ok hn') | (first | with_reducible (first | apply eInt | apply eNil | apply idx_q0 | apply idx_q1 | apply tup01 | apply tup11 | apply add_nat1 | apply neg1 | apply eOn | apply eBool | apply eStrg | apply eV | apply eIdx | apply eBin | apply eCall | apply eCons | apply eCmp | apply eTup | apply eLen | apply eR1 | apply eR2 | apply eIl | apply eNeg | apply eOrF | apply eAndT | apply eNotT | apply eNotF | apply eVal | apply eLst | apply eSlc | apply eOs | apply eSort | apply eLr | apply eSum | apply eAbs) | exact vF rfl | exact vS rfl | exact vB rfl | exact rfl)) <;> simp only [cmp_eq_int, cmp_ne_int, cmp_lt_int, cmp_gt_int, cast_ne_neg1, cast_eq, decide_true, decide_false, Bool.not_true, Bool.not_false, len_piv _ (show p.length ≤ 64 by omega), pl, range0_ok hn'])) ?_)
      simp only [demote_zero, demote_succ, dm, List.set_cons_zero, List.set_cons_succ, isList, Bool.false_and, Bool.true_and]
      refine W.loopJ (I := fun k ρ => ∃ o4, ρ = [some ⟨false, im n n f⟩, some ⟨false, .int (totP f n ((PN n).take i))⟩, some ⟨false, .list (pivD p)⟩, some ⟨false, .int (prodP f p k)⟩, o4]) rfl rfl (Nat.zero_le _) ⟨_, rfl⟩ ?_ ?_
      · rintro J1 q1 P1 r1 k ρ - hk ⟨o4, rfl⟩
        simp only [demote_zero, demote_succ, dm, List.set_cons_zero, List.set_cons_succ, isList, Bool.false_and, Bool.true_and]
        have m1 := mul_ok (m := .fresh) (m' := .fresh) (big_of (prodP_sz hn hmem hz k (by exact Nat.le_of_lt (by assumption))) (by omega)) (big_of (hz k (p.getD k 0) hk (pv k hk)) (by decide))
        refine W.cons (W.assign (d := .int (prodP f p k * f k (p.getD k 0))) (by ((repeat' first | with_reducible (first | apply idx_im f _ hn' hk | apply idx_piv _ _ (show k < p.length by omega) (show p.length ≤ 64 by omega) | apply idx_ir (f k) _ _ hn' (pv k hk) | apply m1) | (first | with_reducible (first | apply eInt | apply eNil | apply idx_q0 | apply idx_q1 | apply tup01 | apply tup11 | apply add_nat1 | apply neg1 | apply eOn | apply eBool | apply eStrg | apply eV | apply eIdx | apply eBin | apply eCall | apply eCons | apply eCmp | apply eTup | apply eLen | apply eR1 | apply eR2 | apply eIl | apply eNeg | apply eOrF | apply eAndT | apply eNotT | apply eNotF | apply eVal | apply eLst | apply eSlc | apply eOs | apply eSort | apply eLr | apply eSum | apply eAbs) | exact vF rfl | exact vS rfl | exact vB rfl | exact rfl)); done)) ?_)
        simp only [demote_zero, demote_succ, dm, List.set_cons_zero, List.set_cons_succ, isList, Bool.false_and, Bool.true_and]
        exact W.nil (q1 _ _ ⟨_, rfl⟩)
      · rintro ρ ⟨o4, rfl⟩
        refine W.cons (W.assign (d := .int (totP f n ((PN n).take i) + prodP f p n)) (by ((repeat' first | with_reducible (first | apply binD) | (first | with_reducible (first | apply eInt | apply eNil | apply idx_q0 | apply idx_q1 | apply tup01 | apply tup11 | apply add_nat1 | apply neg1 | apply eOn | apply eBool | apply eStrg | apply eV | apply eIdx | apply eBin | apply eCall | apply eCons | apply eCmp | apply eTup | apply eLen | apply eR1 | apply eR2 | apply eIl | apply eNeg | apply eOrF | apply eAndT | apply eNotT | apply eNotF | apply eVal | apply eLst | apply eSlc | apply eOs | apply eSort | apply eLr | apply eSum | apply eAbs) | exact vF rfl | exact vS rfl | exact vB rfl | exact rfl)); done)) ?_)
        simp only [demote_zero, demote_succ, dm, List.set_cons_zero, List.set_cons_succ, isList, Bool.false_and, Bool.true_and]
        refine W.nil ⟨some ⟨false, .list (pivD p)⟩, some ⟨false, .int (prodP f p n)⟩, o4, ?_⟩
        have e : totP f n ((PN n).take (i + 1)) = totP f n ((PN n).take i) + prodP f p n := by
          unfold totP
          rw [List.take_add_one, hp]
          simp
        rw [e]
  · rintro ρ ⟨o2, o3, o4, rfl⟩
    refine W.cons (W.retVar rfl ⟨false, ?_⟩)
    rw [List.length_map, List.take_length, tot_det hn]
theorem leib_run {Φ : Tab} (hP : SPerm Φ) (hS : SSign Φ) : SLeib (runN Φ) := fun n f hn hz => by
  obtain ⟨o, e, fr, rfl⟩ := leib_body Φ hP hS n f hn hz
  exact ⟨fr, run_of (f := ⟨"det_by_leibniz", ["rows"], ["total", "p", "term", "i"], mb_det_by_leibniz⟩) rfl ⟨_, e, rfl⟩⟩

/-! ## cofactors -/
noncomputable def sk (i r : Nat) : Nat := if r < i then r else r + 1
noncomputable def minr : Nat → (Nat → Nat → Int) → Nat → Nat → Int
  | 2, f, i, j => f (sk i 0) (sk j 0)
  | 3, f, i, j => f (sk i 0) (sk j 0) * f (sk i 1) (sk j 1) - f (sk i 0) (sk j 1) * f (sk i 1) (sk j 0)
  | _, _, _, _ => 1
noncomputable def cofI (n : Nat) (f : Nat → Nat → Int) (i j : Nat) : Int := if (i + j) % 2 = 1 then -minr n f i j else minr n f i j
theorem sk_lt {n i r : Nat} (h : r + 1 < n) : sk i r < n := by unfold sk; split <;> (first | assumption | exact Nat.le_of_lt (by assumption))

theorem slc_any {ds : List D} {m : Mode} {lo hi : Option Int} (h : m ≠ .borrow) (hl : ds.length ≤ 64) : slcD (.list ds, m) lo hi = some (.list (cutL ds lo hi), flatMode ds) := by
  unfold slcD; simp only; rw [if_neg (by simp [h]; unfold lim; exact Nat.le_trans (by assumption) (by decide))]
theorem list_any {ds : List D} {m : Mode} (h : m ≠ .borrow) (hl : ds.length ≤ 64) : listD (.list ds, m) = some ds := by
  unfold listD; simp only; rw [if_neg (by simp [h]; unfold lim; exact Nat.le_trans (by assumption) (by decide))]
theorem tab_cut {α} {n i : Nat} (g : Nat → α) (h : i < n) : (tab n g).take i ++ (tab n g).drop (i + 1) = tab (n - 1) fun r => g (sk i r) := by
  rw [tab_take (by exact Nat.le_of_lt (by assumption)), tab_drop, tab_append]
  rw [Nat.add_comm i 1, ← Nat.sub_sub, Nat.add_sub_cancel' (Nat.le_sub_one_of_lt h), Nat.add_comm 1 i]
  refine tab_ext fun r hr => ?_
  unfold sk
  split
  · rfl
  · congr 1; omega

noncomputable def SCof (Φ : Tab) : Prop := ∀ n (f : Nat → Nat → Int) (i j : Nat), n ≤ 3 → i < n → j < n → (∀ i j, i < n → j < n → (f i j).natAbs < 2 ^ 8) → ∃ fr, Φ "_law_cofactor" [im n n f, .int i, .int j] = some (.int (cofI n f i j), fr)
theorem cof_body (Φ : Tab) (n : Nat) (f : Nat → Nat → Int) (i j : Nat) (hn : n ≤ 3) (hi : i < n) (hj : j < n) (hz : ∀ i j, i < n → j < n → (f i j).natAbs < 2 ^ 8) :
    W (exSs Φ NN mb__law_cofactor (slots [im n n f, .int i, .int j] 2)) (fun o => ∃ fr, o = .ret (.int (cofI n f i j)) fr) := by
  have hn' : n ≤ 64 := by exact Nat.le_trans (by assumption) (by decide)
  delta mb__law_cofactor; simp only [List.map_cons, List.map_nil, List.cons_append, List.nil_append, List.replicate, slots]
  have hit : evI Φ (.lst (.bin .add (.slc (.var 0) .none (.some (.var 1))) (.slc (.var 0) (.some (.bin .add (.var 1) (.int 1))) .none))) (demote 3 [some ⟨false, im n n f⟩, some ⟨false, .int i⟩, some ⟨false, .int j⟩, none, none]) = some (tab (n - 1) fun r => .list (tab n fun c => .int (f (sk i r) c))) := by
    simp only [evE, evEs, evO, evI, evT, demote_zero, demote_succ, demote_nil, dm, demoteAll_eq, List.map_cons, List.map_nil, List.getElem?_cons_zero, List.getElem?_cons_succ, List.set_cons_zero, List.set_cons_succ, isList, if_true, vm_q, vm_int, vm_list, vm_own, vm_bool, vm_str, idx_q0, idx_q1, Bool.and_false, Bool.and_true, List.cons_append, List.nil_append, List.replicate, cmp_eq_int, cmp_ne_int, cmp_lt_int, cmp_gt_int, tup01, tup11, vm_qm, vm_im, neg1, add_nat1, cast_ne_neg1, cast_eq, isList_qm, isList_im, isList_q, decide_true, decide_false, Bool.not_true, Bool.not_false, bound_ok (show i ≤ 64 by exact Nat.le_of_lt (Nat.lt_of_lt_of_le (by assumption) (by assumption))), bound_ok (show i + 1 ≤ 64 by exact Nat.lt_of_lt_of_le (by assumption) (by assumption)), im, matD]
    rw [slc_any (by decide) (by rw [tab_length]; assumption), slc_any (by decide) (by rw [tab_length]; assumption)]
    simp only [cutL]
    rw [addL_ok (flat_nb _) (flat_nb _) (by simp [tab_length]; omega)]
    simp only
    rw [list_any (flat_nb _) (by simp [tab_length]; omega), Int.toNat_natCast, Int.toNat_natCast, tab_cut _ hi]
  have hco : evE Φ (.comp (.lst (.bin .add (.slc (.var 0) .none (.some (.var 1))) (.slc (.var 0) (.some (.bin .add (.var 1) (.int 1))) .none))) (.bin .add (.slc (.var 5) .none (.some (.var 2))) (.slc (.var 5) (.some (.bin .add (.var 2) (.int 1))) .none))) (demote 3 [some ⟨false, im n n f⟩, some ⟨false, .int i⟩, some ⟨false, .int j⟩, none, none]) = some (im (n - 1) (n - 1) fun r c => f (sk i r) (sk j c), .fresh) := by
    refine comp_tab (by unfold lim; omega) hit fun r hr => ?_
    simp only [evE, evEs, evO, evI, evT, demote_zero, demote_succ, demote_nil, dm, demoteAll_eq, List.map_cons, List.map_nil, List.getElem?_cons_zero, List.getElem?_cons_succ, List.set_cons_zero, List.set_cons_succ, isList, if_true, vm_q, vm_int, vm_list, vm_own, vm_bool, vm_str, idx_q0, idx_q1, Bool.and_false, Bool.and_true, List.cons_append, List.nil_append, List.replicate, cmp_eq_int, cmp_ne_int, cmp_lt_int, cmp_gt_int, tup01, tup11, vm_qm, vm_im, neg1, add_nat1, cast_ne_neg1, cast_eq, isList_qm, isList_im, isList_q, decide_true, decide_false, Bool.not_true, Bool.not_false, innerR, bound_ok (show j ≤ 64 by exact Nat.le_of_lt (Nat.lt_of_lt_of_le (by assumption) (by assumption))), bound_ok (show j + 1 ≤ 64 by exact Nat.lt_of_lt_of_le (by assumption) (by assumption))]
    rw [slc_any (by decide) (by rw [tab_length]; assumption), slc_any (by decide) (by rw [tab_length]; assumption)]
    simp only [cutL]
    rw [addL_ok (flat_nb _) (flat_nb _) (by simp [tab_length]; omega), Int.toNat_natCast, Int.toNat_natCast, tab_cut _ hj, flat_row (fun _ => rfl)]
  refine W.cons (W.assign hco ?_)
  simp only [demote_zero, demote_succ, dm, List.set_cons_zero, List.set_cons_succ, isList, Bool.false_and, Bool.true_and]
  refine W.cons (W.assign (d := .int 1) (by ((repeat' (first | with_reducible (first | apply eInt | apply eNil | apply idx_q0 | apply idx_q1 | apply tup01 | apply tup11 | apply add_nat1 | apply neg1 | apply eOn | apply eBool | apply eStrg | apply eV | apply eIdx | apply eBin | apply eCall | apply eCons | apply eCmp | apply eTup | apply eLen | apply eR1 | apply eR2 | apply eIl | apply eNeg | apply eOrF | apply eAndT | apply eNotT | apply eNotF | apply eVal | apply eLst | apply eSlc | apply eOs | apply eSort | apply eLr | apply eSum | apply eAbs) | exact vF rfl | exact vS rfl | exact vB rfl | exact rfl)); done)) ?_)
  simp only [demote_zero, demote_succ, dm, List.set_cons_zero, List.set_cons_succ, isList, Bool.false_and, Bool.true_and]
  have hm' : n - 1 ≤ 64 := by omega
  have fin : ∀ o, W (exSs Φ NN [.ite (.cmp .Eq (.bin .mod (.bin .add (.var 1) (.var 2)) (.int 2)) (.int 1)) [.ret (.neg (.var 4))] [], .retVar 4] [some ⟨false, im n n f⟩, some ⟨false, .int i⟩, some ⟨false, .int j⟩, o, some ⟨false, .int (minr n f i j)⟩]) (fun o => ∃ fr, o = .ret (.int (cofI n f i j)) fr) := by
    intro o
    have hm : ∀ m m', binD .mod (.int ((i + j : Nat) : Int), m) (.int 2, m') = some (.int (((i + j) % 2 : Nat) : Int), .fresh) := by
      exact fun m m' => mod_nat (i + j) (b := 2) m m' (by decide)
    have h1 : (((i + j) % 2 : Nat) : Int) = 1 ↔ (i + j) % 2 = 1 := by omega
    unfold cofI
    refine W.cons (W.ite (v := decide ((((i + j) % 2 : Nat) : Int) = 1)) (by ((repeat' first | with_reducible (first | apply add_nat | apply hm) | (first | with_reducible (first | apply eInt | apply eNil | apply idx_q0 | apply idx_q1 | apply tup01 | apply tup11 | apply add_nat1 | apply neg1 | apply eOn | apply eBool | apply eStrg | apply eV | apply eIdx | apply eBin | apply eCall | apply eCons | apply eCmp | apply eTup | apply eLen | apply eR1 | apply eR2 | apply eIl | apply eNeg | apply eOrF | apply eAndT | apply eNotT | apply eNotF | apply eVal | apply eLst | apply eSlc | apply eOs | apply eSort | apply eLr | apply eSum | apply eAbs) | exact vF rfl | exact vS rfl | exact vB rfl | exact rfl)); done)) (fun e => ?_) (fun e => ?_))
    · have e1 : (i + j) % 2 = 1 := h1.mp (by simpa using e)
      rw [if_pos e1]
      exact W.cons (W.ret (d := .int (-minr n f i j)) (m := .fresh) (by ((repeat' first | with_reducible (first | apply negD) | (first | with_reducible (first | apply eInt | apply eNil | apply idx_q0 | apply idx_q1 | apply tup01 | apply tup11 | apply add_nat1 | apply neg1 | apply eOn | apply eBool | apply eStrg | apply eV | apply eIdx | apply eBin | apply eCall | apply eCons | apply eCmp | apply eTup | apply eLen | apply eR1 | apply eR2 | apply eIl | apply eNeg | apply eOrF | apply eAndT | apply eNotT | apply eNotF | apply eVal | apply eLst | apply eSlc | apply eOs | apply eSort | apply eLr | apply eSum | apply eAbs) | exact vF rfl | exact vS rfl | exact vB rfl | exact rfl)); done)) (by decide) ⟨true, rfl⟩)
    · have e1 : ¬ (i + j) % 2 = 1 := fun h => by have := h1.mpr h; simp [this] at e
      rw [if_neg e1]
      exact W.nil (W.cons (W.retVar rfl ⟨false, rfl⟩))
  have hsz : ∀ {r c : Nat}, r + 1 < n → c + 1 < n → (f (sk i r) (sk j c)).natAbs < Big := fun hr hc => big_of (hz _ _ (sk_lt hr) (sk_lt hc)) (by decide)
  rcases n4 hn with rfl | rfl | rfl | rfl
  · omega
  · refine W.cons (W.iteF (by ((repeat' first | with_reducible (first | apply len_im _ _ hm') | (first | with_reducible (first | apply eInt | apply eNil | apply idx_q0 | apply idx_q1 | apply tup01 | apply tup11 | apply add_nat1 | apply neg1 | apply eOn | apply eBool | apply eStrg | apply eV | apply eIdx | apply eBin | apply eCall | apply eCons | apply eCmp | apply eTup | apply eLen | apply eR1 | apply eR2 | apply eIl | apply eNeg | apply eOrF | apply eAndT | apply eNotT | apply eNotF | apply eVal | apply eLst | apply eSlc | apply eOs | apply eSort | apply eLr | apply eSum | apply eAbs) | exact vF rfl | exact vS rfl | exact vB rfl | exact rfl)); done)) (W.cons (W.skip (by ((repeat' first | with_reducible (first | apply len_im _ _ hm') | (first | with_reducible (first | apply eInt | apply eNil | apply idx_q0 | apply idx_q1 | apply tup01 | apply tup11 | apply add_nat1 | apply neg1 | apply eOn | apply eBool | apply eStrg | apply eV | apply eIdx | apply eBin | apply eCall | apply eCons | apply eCmp | apply eTup | apply eLen | apply eR1 | apply eR2 | apply eIl | apply eNeg | apply eOrF | apply eAndT | apply eNotT | apply eNotF | apply eVal | apply eLst | apply eSlc | apply eOs | apply eSort | apply eLr | apply eSum | apply eAbs) | exact vF rfl | exact vS rfl | exact vB rfl | exact rfl)); done)) ?_)))
    exact W.nil (fin _)
  · refine W.cons (W.iteT (by ((repeat' first | with_reducible (first | apply len_im _ _ hm') | (first | with_reducible (first | apply eInt | apply eNil | apply idx_q0 | apply idx_q1 | apply tup01 | apply tup11 | apply add_nat1 | apply neg1 | apply eOn | apply eBool | apply eStrg | apply eV | apply eIdx | apply eBin | apply eCall | apply eCons | apply eCmp | apply eTup | apply eLen | apply eR1 | apply eR2 | apply eIl | apply eNeg | apply eOrF | apply eAndT | apply eNotT | apply eNotF | apply eVal | apply eLst | apply eSlc | apply eOs | apply eSort | apply eLr | apply eSum | apply eAbs) | exact vF rfl | exact vS rfl | exact vB rfl | exact rfl)); done)) (W.cons (W.assign (d := .int (minr 2 f i j)) (by ((repeat' (first | with_reducible (first | apply eInt | apply eNil | apply idx_q0 | apply idx_q1 | apply tup01 | apply tup11 | apply add_nat1 | apply neg1 | apply eOn | apply eBool | apply eStrg | apply eV | apply eIdx | apply eBin | apply eCall | apply eCons | apply eCmp | apply eTup | apply eLen | apply eR1 | apply eR2 | apply eIl | apply eNeg | apply eOrF | apply eAndT | apply eNotT | apply eNotF | apply eVal | apply eLst | apply eSlc | apply eOs | apply eSort | apply eLr | apply eSum | apply eAbs) | exact vF rfl | exact vS rfl | exact vB rfl | exact rfl)); done)) ?_)))
    simp only [demote_zero, demote_succ, dm, List.set_cons_zero, List.set_cons_succ, isList, Bool.false_and, Bool.true_and]
    exact W.nil (fin _)
  · refine W.cons (W.iteF (by ((repeat' first | with_reducible (first | apply len_im _ _ hm') | (first | with_reducible (first | apply eInt | apply eNil | apply idx_q0 | apply idx_q1 | apply tup01 | apply tup11 | apply add_nat1 | apply neg1 | apply eOn | apply eBool | apply eStrg | apply eV | apply eIdx | apply eBin | apply eCall | apply eCons | apply eCmp | apply eTup | apply eLen | apply eR1 | apply eR2 | apply eIl | apply eNeg | apply eOrF | apply eAndT | apply eNotT | apply eNotF | apply eVal | apply eLst | apply eSlc | apply eOs | apply eSort | apply eLr | apply eSum | apply eAbs) | exact vF rfl | exact vS rfl | exact vB rfl | exact rfl)); done)) (W.cons (W.iteT (by ((repeat' first | with_reducible (first | apply len_im _ _ hm') | (first | with_reducible (first | apply eInt | apply eNil | apply idx_q0 | apply idx_q1 | apply tup01 | apply tup11 | apply add_nat1 | apply neg1 | apply eOn | apply eBool | apply eStrg | apply eV | apply eIdx | apply eBin | apply eCall | apply eCons | apply eCmp | apply eTup | apply eLen | apply eR1 | apply eR2 | apply eIl | apply eNeg | apply eOrF | apply eAndT | apply eNotT | apply eNotF | apply eVal | apply eLst | apply eSlc | apply eOs | apply eSort | apply eLr | apply eSum | apply eAbs) | exact vF rfl | exact vS rfl | exact vB rfl | exact rfl)); done)) (W.cons (W.assign (d := .int (minr 3 f i j)) ?_ ?_)))))
    · have i00 := idx_im (fun r c => f (sk i r) (sk j c)) .fresh hm' (show 0 < 3 - 1 by exact Nat.le_add_left _ _) (m := 2)
      have i10 := idx_im (fun r c => f (sk i r) (sk j c)) .fresh hm' (show 1 < 3 - 1 by exact Nat.le_refl _) (m := 2)
      have c00 := idx_ir (fun c => f (sk i 0) (sk j c)) .fresh .shared hm' (show 0 < 3 - 1 by exact Nat.le_add_left _ _)
      have c01 := idx_ir (fun c => f (sk i 0) (sk j c)) .fresh .shared hm' (show 1 < 3 - 1 by exact Nat.le_refl _)
      have c10 := idx_ir (fun c => f (sk i 1) (sk j c)) .fresh .shared hm' (show 0 < 3 - 1 by exact Nat.le_add_left _ _)
      have c11 := idx_ir (fun c => f (sk i 1) (sk j c)) .fresh .shared hm' (show 1 < 3 - 1 by exact Nat.le_refl _)
      have m1 := mul_ok (m := .fresh) (m' := .fresh) (hsz (show 0 + 1 < 3 by exact Nat.le_of_lt (by assumption)) (show 0 + 1 < 3 by exact Nat.le_of_lt (by assumption))) (hsz (show 1 + 1 < 3 by assumption) (show 1 + 1 < 3 by assumption))
      have m2 := mul_ok (m := .fresh) (m' := .fresh) (hsz (show 0 + 1 < 3 by exact Nat.le_of_lt (by assumption)) (show 1 + 1 < 3 by assumption)) (hsz (show 1 + 1 < 3 by assumption) (show 0 + 1 < 3 by exact Nat.le_of_lt (by assumption)))
      simp only [Int.ofNat_eq_natCast, Int.cast_ofNat_Int] at i00 i10 c00 c01 c10 c11
      ((repeat' first | with_reducible (first | apply i00 | apply i10 | apply c00 | apply c01 | apply c10 | apply c11 | apply m1 | apply m2) | (first | with_reducible (first | apply eInt | apply eNil | apply idx_q0 | apply idx_q1 | apply tup01 | apply tup11 | apply add_nat1 | apply neg1 | apply eOn | apply eBool | apply eStrg | apply eV | apply eIdx | apply eBin | apply eCall | apply eCons | apply eCmp | apply eTup | apply eLen | apply eR1 | apply eR2 | apply eIl | apply eNeg | apply eOrF | apply eAndT | apply eNotT | apply eNotF | apply eVal | apply eLst | apply eSlc | apply eOs | apply eSort | apply eLr | apply eSum | apply eAbs) | exact vF rfl | exact vS rfl | exact vB rfl | exact rfl)); done)
    · simp only [demote_zero, demote_succ, dm, List.set_cons_zero, List.set_cons_succ, isList, Bool.false_and, Bool.true_and]
      exact W.nil (W.nil (fin _))
theorem cof_run (Φ : Tab) : SCof (runN Φ) := fun n f i j hn hi hj hz => by
  obtain ⟨o, e, fr, rfl⟩ := cof_body Φ n f i j hn hi hj hz
  exact ⟨fr, run_of (f := ⟨"_law_cofactor", ["a", "i", "j"], ["t", "c"], mb__law_cofactor⟩) rfl ⟨_, e, rfl⟩⟩


theorem up_sz {x : Int} {a b : Nat} (h : x.natAbs < 2 ^ a) (hab : a ≤ b) : x.natAbs < 2 ^ b := Nat.lt_of_lt_of_le h (Nat.pow_le_pow_right (by decide) hab)
theorem detI_sz {n : Nat} {f : Nat → Nat → Int} (hn : n ≤ 3) (hz : ∀ i j, i < n → j < n → (f i j).natAbs < 2 ^ 8) : (detI n f).natAbs < 2 ^ 27 := by
  have z : ∀ i j, i < n → j < n → (f i j).natAbs < 2 ^ 8 := hz
  rcases n4 hn with rfl | rfl | rfl | rfl
  · show (1 : Int).natAbs < _; decide
  · exact up_sz (z 0 0 (by exact Nat.le_refl _) (by exact Nat.le_refl _)) (by exact Nat.le_add_left _ _)
  · have h1 := mul_sz (z 0 0 (by exact Nat.le_of_lt_succ (by assumption)) (by exact Nat.le_of_lt_succ (by assumption))) (z 1 1 (by exact Nat.le_refl _) (by exact Nat.le_refl _))
    have h2 := mul_sz (z 0 1 (by exact Nat.le_of_lt_succ (by assumption)) (by exact Nat.le_refl _)) (z 1 0 (by exact Nat.le_refl _) (by exact Nat.le_of_lt_succ (by assumption)))
    exact up_sz (sub_sz h1 h2) (by exact Nat.le_add_left _ _)
  · have m : ∀ a b c d, a < 3 → b < 3 → c < 3 → d < 3 → (f 1 a * f 2 b - f 1 c * f 2 d).natAbs < 2 ^ 17 := fun a b c d h1 h2 h3 h4 => sub_sz (mul_sz (z 1 a (by exact Nat.le_of_lt (by assumption)) (by assumption)) (z 2 b (by assumption) (by assumption))) (mul_sz (z 1 c (by exact Nat.le_of_lt (by assumption)) (by assumption)) (z 2 d (by assumption) (by assumption)))
    have h1 := mul_sz (z 0 0 (by exact Nat.le_add_left _ _) (by exact Nat.le_add_left _ _)) (m 1 2 2 1 (by exact Nat.le_of_lt (by assumption)) (by assumption) (by assumption) (by exact Nat.le_of_lt (by assumption)))
    have h2 := mul_sz (z 0 1 (by exact Nat.le_add_left _ _) (by exact Nat.le_of_lt (by assumption))) (m 0 2 2 0 (by exact Nat.le_add_left _ _) (by assumption) (by assumption) (by exact Nat.le_add_left _ _))
    have h3 := mul_sz (z 0 2 (by exact Nat.le_add_left _ _) (by assumption)) (m 0 1 1 0 (by exact Nat.le_add_left _ _) (by exact Nat.le_of_lt (by assumption)) (by exact Nat.le_of_lt (by assumption)) (by exact Nat.le_add_left _ _))
    exact up_sz (add_sz (sub_sz h1 h2) (up_sz h3 (by exact Nat.le_add_left _ _))) (by exact Nat.le_refl _)
theorem cofI_sz {n i j : Nat} {f : Nat → Nat → Int} (hn : n ≤ 3) (hi : i < n) (hj : j < n) (hz : ∀ i j, i < n → j < n → (f i j).natAbs < 2 ^ 8) : (cofI n f i j).natAbs < 2 ^ 17 := by
  have : (minr n f i j).natAbs < 2 ^ 17 := by
    rcases n4 hn with rfl | rfl | rfl | rfl
    · exact Nat.le_add_left _ _
    · show (1 : Int).natAbs < _; decide
    · exact up_sz (hz _ _ (sk_lt (by exact Nat.le_refl _)) (sk_lt (by exact Nat.le_refl _))) (by exact Nat.le_add_left _ _)
    · exact sub_sz (mul_sz (hz _ _ (sk_lt (by exact Nat.le_of_lt (by assumption))) (sk_lt (by exact Nat.le_of_lt (by assumption)))) (hz _ _ (sk_lt (by assumption)) (sk_lt (by assumption)))) (mul_sz (hz _ _ (sk_lt (by exact Nat.le_of_lt (by assumption))) (sk_lt (by assumption))) (hz _ _ (sk_lt (by assumption)) (sk_lt (by exact Nat.le_of_lt (by assumption)))))
  unfold cofI
  split
  · rw [Int.natAbs_neg]; exact this
  · exact this

theorem intsOf_map (xs : List Int) : intsOf (xs.map .int) = some xs := by
  induction xs with
  | nil => rfl
  | cons x xs ih => simp [intsOf, ih]
theorem intsOf_tab (n : Nat) (v : Nat → Int) : intsOf (tab n fun j => .int (v j)) = some (tab n v) := by
  rw [← intsOf_map, tab_map]
theorem sum_tab {n : Nat} {v : Nat → Int} (hn : n ≤ 64) (hv : ∀ j, j < n → (v j).natAbs < 2 ^ 40) : sumD (.list (tab n fun j => .int (v j)), .fresh) = some (.int (tab n v).sum, .fresh) := by
  unfold sumD
  simp only
  rw [if_neg (by rw [tab_length]; unfold lim; simp; exact Nat.le_trans (by assumption) (by decide)), intsOf_tab]
  simp only
  rw [if_pos]
  rw [List.all_eq_true]
  intro x hx
  simp [tab] at hx
  obtain ⟨j, hj, rfl⟩ := hx
  simpa using hv j hj

noncomputable def SDet (Φ : Tab) : Prop := ∀ n (f : Nat → Nat → Int), n ≤ 3 → (∀ i j, i < n → j < n → (f i j).natAbs < 2 ^ 8) → Φ "_law_det" [im n n f] = some (.int (detI n f), true)
theorem det_lap {n : Nat} (hn : n ≤ 3) (h0 : n ≠ 0) (f : Nat → Nat → Int) : (tab n fun j => f 0 j * cofI n f 0 j).sum = detI n f := by
  rcases n4 hn with rfl | rfl | rfl | rfl
  · omega
  · simp [tab_one, cofI, minr, detI]
  · simp [tab_two, cofI, minr, detI, sk]; grind
  · simp [tab_three, cofI, minr, detI, sk]; grind
theorem det_body (Φ : Tab) (hC : SCof Φ) (n : Nat) (f : Nat → Nat → Int) (hn : n ≤ 3) (hz : ∀ i j, i < n → j < n → (f i j).natAbs < 2 ^ 8) :
    W (exSs Φ NN mb__law_det (slots [im n n f] 0)) (· = .ret (.int (detI n f)) true) := by
  have hn' : n ≤ 64 := by exact Nat.le_trans (by assumption) (by decide)
  delta mb__law_det; simp only [List.map_cons, List.map_nil, List.cons_append, List.nil_append, List.replicate, slots]
  by_cases h0 : n = 0
  · subst h0
    exact W.cons (W.iteT (by ((repeat' first | with_reducible (first | apply len_im f _ hn') | (first | with_reducible (first | apply eInt | apply eNil | apply idx_q0 | apply idx_q1 | apply tup01 | apply tup11 | apply add_nat1 | apply neg1 | apply eOn | apply eBool | apply eStrg | apply eV | apply eIdx | apply eBin | apply eCall | apply eCons | apply eCmp | apply eTup | apply eLen | apply eR1 | apply eR2 | apply eIl | apply eNeg | apply eOrF | apply eAndT | apply eNotT | apply eNotF | apply eVal | apply eLst | apply eSlc | apply eOs | apply eSort | apply eLr | apply eSum | apply eAbs) | exact vF rfl | exact vS rfl | exact vB rfl | exact rfl)); done)) (W.cons (W.ret (d := .int 1) (m := .fresh) (by ((repeat' (first | with_reducible (first | apply eInt | apply eNil | apply idx_q0 | apply idx_q1 | apply tup01 | apply tup11 | apply add_nat1 | apply neg1 | apply eOn | apply eBool | apply eStrg | apply eV | apply eIdx | apply eBin | apply eCall | apply eCons | apply eCmp | apply eTup | apply eLen | apply eR1 | apply eR2 | apply eIl | apply eNeg | apply eOrF | apply eAndT | apply eNotT | apply eNotF | apply eVal | apply eLst | apply eSlc | apply eOs | apply eSort | apply eLr | apply eSum | apply eAbs) | exact vF rfl | exact vS rfl | exact vB rfl | exact rfl)); done)) (by decide) rfl)))
  have h0' : ¬ (n : Int) = 0 := by omega
  have hpos : 0 < n := by omega
  refine W.cons (W.skip (by ((repeat' first | with_reducible (first | apply len_im f _ hn' | apply h0') | (first | with_reducible (first | apply eInt | apply eNil | apply idx_q0 | apply idx_q1 | apply tup01 | apply tup11 | apply add_nat1 | apply neg1 | apply eOn | apply eBool | apply eStrg | apply eV | apply eIdx | apply eBin | apply eCall | apply eCons | apply eCmp | apply eTup | apply eLen | apply eR1 | apply eR2 | apply eIl | apply eNeg | apply eOrF | apply eAndT | apply eNotT | apply eNotF | apply eVal | apply eLst | apply eSlc | apply eOs | apply eSort | apply eLr | apply eSum | apply eAbs) | exact vF rfl | exact vS rfl | exact vB rfl | exact rfl)) <;> simp only [cmp_eq_int, cmp_ne_int, cmp_lt_int, cmp_gt_int, cast_ne_neg1, cast_eq, decide_true, decide_false, Bool.not_true, Bool.not_false, len_im f _ hn', h0'])) ?_)
  have hco : evE Φ (.comp (.range1 (.len (.var 0))) (.bin .mul (.idx (.idx (.var 0) (.int 0)) (.var 1)) (.call "_law_cofactor" (.cons (.var 0) (.cons (.int 0) (.cons (.var 1) .nil)))))) (demoteAll [some ⟨false, im n n f⟩]) = some (.list (tab n fun j => .int (f 0 j * cofI n f 0 j)), .fresh) := by
    refine comp_tab (g := fun j => .int (j : Nat)) (le_lim (by assumption)) (by ((repeat' first | with_reducible (first | apply len_im f _ hn' | apply range0_tab hn') | (first | with_reducible (first | apply eInt | apply eNil | apply idx_q0 | apply idx_q1 | apply tup01 | apply tup11 | apply add_nat1 | apply neg1 | apply eOn | apply eBool | apply eStrg | apply eV | apply eIdx | apply eBin | apply eCall | apply eCons | apply eCmp | apply eTup | apply eLen | apply eR1 | apply eR2 | apply eIl | apply eNeg | apply eOrF | apply eAndT | apply eNotT | apply eNotF | apply eVal | apply eLst | apply eSlc | apply eOs | apply eSort | apply eLr | apply eSum | apply eAbs) | exact vF rfl | exact vS rfl | exact vB rfl | exact rfl)); done)) fun j hj => ?_
    obtain ⟨fr, hc⟩ := hC n f 0 j hn hpos hj hz
    have hc' : callD Φ "_law_cofactor" [(im n n f, .shared), (.int 0, .fresh), (.int (j : Int), .fresh)] = some (.int (cofI n f 0 j), .fresh) := call_int' hc
    have i0 := idx_im f .fresh hn' hpos (m := n)
    have i1 := idx_ir (f 0) .fresh .shared hn' hj
    have m1 := mul_ok (m := .fresh) (m' := .fresh) (big_of (hz 0 j hpos hj) (by decide)) (big_of (cofI_sz hn hpos hj hz) (by decide))
    simp only [Int.ofNat_eq_natCast, Int.cast_ofNat_Int] at i0
    ((repeat' first | with_reducible (first | apply innerR | apply i0 | apply i1 | apply hc' | apply m1) | (first | with_reducible (first | apply eInt | apply eNil | apply idx_q0 | apply idx_q1 | apply tup01 | apply tup11 | apply add_nat1 | apply neg1 | apply eOn | apply eBool | apply eStrg | apply eV | apply eIdx | apply eBin | apply eCall | apply eCons | apply eCmp | apply eTup | apply eLen | apply eR1 | apply eR2 | apply eIl | apply eNeg | apply eOrF | apply eAndT | apply eNotT | apply eNotF | apply eVal | apply eLst | apply eSlc | apply eOs | apply eSort | apply eLr | apply eSum | apply eAbs) | exact vF rfl | exact vS rfl | exact vB rfl | exact rfl)); done)
  refine W.cons (W.ret (d := .int (detI n f)) (m := .fresh) ?_ (by decide) rfl)
  rw [evE, hco]
  simp only
  rw [sum_tab hn' fun j hj => up_sz (mul_sz (hz 0 j hpos hj) (cofI_sz hn hpos hj hz)) (by exact Nat.le_add_left _ _), det_lap hn h0]
theorem det_run {Φ : Tab} (hC : SCof Φ) : SDet (runN Φ) := fun n f hn hz => run_of (f := ⟨"_law_det", ["a"], [], mb__law_det⟩) rfl (det_body Φ hC n f hn hz)

/-! ## Cramer -/
noncomputable def crm (f : Nat → Nat → Int) (b : Nat → Int) (j : Nat) : Nat → Nat → Int := fun r c => if c = j then b r else f r c
theorem tab_succ {α} (n : Nat) (g : Nat → α) : tab (n + 1) g = tab n g ++ [g n] := by unfold tab; rw [List.range_succ, List.map_append]; rfl
theorem crm_sz {n j : Nat} {f : Nat → Nat → Int} {b : Nat → Int} (hz : ∀ i j, i < n → j < n → (f i j).natAbs < 2 ^ 8) (hb : ∀ i, i < n → (b i).natAbs < 2 ^ 8) : ∀ r c, r < n → c < n → (crm f b j r c).natAbs < 2 ^ 8 := by
  intro r c hr hc
  unfold crm
  split
  · exact hb r hr
  · exact hz r c hr hc
theorem vm_iv (n : Nat) (b : Nat → Int) : varMode ⟨false, iv n b⟩ = .shared := rfl
theorem idx_iv {n : Nat} (b : Nat → Int) {i : Nat} (md md' : Mode) (hn : n ≤ 64) (hi : i < n) : idxD (iv n b, md') (.int (i : Int), md) = some (.int (b i), .fresh) := idx_ir b md md' hn hi

noncomputable def SCram (Φ : Tab) : Prop := ∀ n (f : Nat → Nat → Int) (b : Nat → Int), n ≤ 3 → (∀ i j, i < n → j < n → (f i j).natAbs < 2 ^ 8) → (∀ i, i < n → (b i).natAbs < 2 ^ 8) → detI n f ≠ 0 → Φ "cramer" [im n n f, iv n b] = some (.list (tab n fun j => qD (Rat.divInt (detI n (crm f b j)) (detI n f))), true)

theorem cram_pre {Φ : Tab} (hB : SBar Φ) {n : Nat} {f : Nat → Nat → Int} {b : Nat → Int} (hn : n ≤ 3) (hz : ∀ i j, i < n → j < n → (f i j).natAbs < 2 ^ 8) :
    exS Φ NN (.assign false 2 (.len (.var 0))) (slots [im n n f, iv n b] 5) = some (.next [some ⟨false, im n n f⟩, some ⟨false, iv n b⟩, some ⟨false, .int n⟩, none, none, none, none])
    ∧ exS Φ NN (.assign false 3 (.call "det_bareiss" (.cons (.var 0) .nil))) [some ⟨false, im n n f⟩, some ⟨false, iv n b⟩, some ⟨false, .int n⟩, none, none, none, none] = some (.next [some ⟨false, im n n f⟩, some ⟨false, iv n b⟩, some ⟨false, .int n⟩, some ⟨false, .int (detI n f)⟩, none, none, none]) := by
  have hn' : n ≤ 64 := by exact Nat.le_trans (by assumption) (by decide)
  obtain ⟨fr, h⟩ := hB n f hn hz
  have hc : callD Φ "det_bareiss" [(im n n f, .shared)] = some (.int (detI n f), .fresh) := call_int' h
  constructor
  · exact xAssign (d := .int n) (by ((repeat' first | with_reducible (first | apply len_im f _ hn') | (first | with_reducible (first | apply eInt | apply eNil | apply idx_q0 | apply idx_q1 | apply tup01 | apply tup11 | apply add_nat1 | apply neg1 | apply eOn | apply eBool | apply eStrg | apply eV | apply eIdx | apply eBin | apply eCall | apply eCons | apply eCmp | apply eTup | apply eLen | apply eR1 | apply eR2 | apply eIl | apply eNeg | apply eOrF | apply eAndT | apply eNotT | apply eNotF | apply eVal | apply eLst | apply eSlc | apply eOs | apply eSort | apply eLr | apply eSum | apply eAbs) | exact vF rfl | exact vS rfl | exact vB rfl | exact rfl)); done)) rfl
  · exact xAssign (d := .int (detI n f)) (by ((repeat' first | with_reducible (first | apply hc) | (first | with_reducible (first | apply eInt | apply eNil | apply idx_q0 | apply idx_q1 | apply tup01 | apply tup11 | apply add_nat1 | apply neg1 | apply eOn | apply eBool | apply eStrg | apply eV | apply eIdx | apply eBin | apply eCall | apply eCons | apply eCmp | apply eTup | apply eLen | apply eR1 | apply eR2 | apply eIl | apply eNeg | apply eOrF | apply eAndT | apply eNotT | apply eNotF | apply eVal | apply eLst | apply eSlc | apply eOs | apply eSort | apply eLr | apply eSum | apply eAbs) | exact vF rfl | exact vS rfl | exact vB rfl | exact rfl)); done)) rfl
theorem cram_body {Φ : Tab} (hB : SBar Φ) (hF : SFrac Φ) {n : Nat} {f : Nat → Nat → Int} {b : Nat → Int} (hn : n ≤ 3) (hz : ∀ i j, i < n → j < n → (f i j).natAbs < 2 ^ 8) (hb : ∀ i, i < n → (b i).natAbs < 2 ^ 8) (hd : detI n f ≠ 0) :
    W (exSs Φ NN mb_cramer (slots [im n n f, iv n b] 5)) (· = .ret (.list (tab n fun j => qD (Rat.divInt (detI n (crm f b j)) (detI n f)))) true) := by
  have hn' : n ≤ 64 := by exact Nat.le_trans (by assumption) (by decide)
  obtain ⟨e1, e2⟩ := cram_pre hB (b := b) hn hz
  refine W.step e1 (W.step e2 ?_)
  refine W.cons (W.skip (by ((repeat' first | with_reducible (first | apply hd) | (first | with_reducible (first | apply eInt | apply eNil | apply idx_q0 | apply idx_q1 | apply tup01 | apply tup11 | apply add_nat1 | apply neg1 | apply eOn | apply eBool | apply eStrg | apply eV | apply eIdx | apply eBin | apply eCall | apply eCons | apply eCmp | apply eTup | apply eLen | apply eR1 | apply eR2 | apply eIl | apply eNeg | apply eOrF | apply eAndT | apply eNotT | apply eNotF | apply eVal | apply eLst | apply eSlc | apply eOs | apply eSort | apply eLr | apply eSum | apply eAbs) | exact vF rfl | exact vS rfl | exact vB rfl | exact rfl)) <;> simp only [cmp_eq_int, cmp_ne_int, cmp_lt_int, cmp_gt_int, cast_ne_neg1, cast_eq, decide_true, decide_false, Bool.not_true, Bool.not_false, hd])) ?_)
  refine W.cons (W.assign (d := .list []) (by ((repeat' (first | with_reducible (first | apply eInt | apply eNil | apply idx_q0 | apply idx_q1 | apply tup01 | apply tup11 | apply add_nat1 | apply neg1 | apply eOn | apply eBool | apply eStrg | apply eV | apply eIdx | apply eBin | apply eCall | apply eCons | apply eCmp | apply eTup | apply eLen | apply eR1 | apply eR2 | apply eIl | apply eNeg | apply eOrF | apply eAndT | apply eNotT | apply eNotF | apply eVal | apply eLst | apply eSlc | apply eOs | apply eSort | apply eLr | apply eSum | apply eAbs) | exact vF rfl | exact vS rfl | exact vB rfl | exact rfl)); done)) ?_)
  simp only [demote_zero, demote_succ, dm, List.set_cons_zero, List.set_cons_succ, isList, Bool.false_and, Bool.true_and]
  refine W.cons (W.forS (ds := upto 0 n) (by ((repeat' first | with_reducible (first | apply range0_ok hn') | (first | with_reducible (first | apply eInt | apply eNil | apply idx_q0 | apply idx_q1 | apply tup01 | apply tup11 | apply add_nat1 | apply neg1 | apply eOn | apply eBool | apply eStrg | apply eV | apply eIdx | apply eBin | apply eCall | apply eCons | apply eCmp | apply eTup | apply eLen | apply eR1 | apply eR2 | apply eIl | apply eNeg | apply eOrF | apply eAndT | apply eNotT | apply eNotF | apply eVal | apply eLst | apply eSlc | apply eOs | apply eSort | apply eLr | apply eSum | apply eAbs) | exact vF rfl | exact vS rfl | exact vB rfl | exact rfl)); done)) ?_)
  simp only [demote_zero, demote_succ, dm, List.set_cons_zero, List.set_cons_succ, isList, Bool.false_and, Bool.true_and]
  refine W.loopU (I := fun j ρ => ∃ o5 o6, ρ = [some ⟨false, im n n f⟩, some ⟨false, iv n b⟩, some ⟨false, .int n⟩, some ⟨false, .int (detI n f)⟩, some ⟨true, .list (tab j fun j => qD (Rat.divInt (detI n (crm f b j)) (detI n f)))⟩, o5, o6]) rfl rfl (Nat.zero_le _) ⟨none, none, rfl⟩ ?_ ?_
  · rintro j ρ - hj ⟨o5, o6, rfl⟩
    simp only [demote_zero, demote_succ, dm, List.set_cons_zero, List.set_cons_succ, isList, Bool.false_and, Bool.true_and]
    have hcz := crm_sz (j := j) hz hb
    refine W.cons (W.assign (d := im n n (crm f b j)) ?_ ?_)
    · refine comp_tab (g := fun i => .int (i : Nat)) (le_lim (by assumption)) (by ((repeat' first | with_reducible (first | apply range0_tab hn') | (first | with_reducible (first | apply eInt | apply eNil | apply idx_q0 | apply idx_q1 | apply tup01 | apply tup11 | apply add_nat1 | apply neg1 | apply eOn | apply eBool | apply eStrg | apply eV | apply eIdx | apply eBin | apply eCall | apply eCons | apply eCmp | apply eTup | apply eLen | apply eR1 | apply eR2 | apply eIl | apply eNeg | apply eOrF | apply eAndT | apply eNotT | apply eNotF | apply eVal | apply eLst | apply eSlc | apply eOs | apply eSort | apply eLr | apply eSum | apply eAbs) | exact vF rfl | exact vS rfl | exact vB rfl | exact rfl)); done)) fun r hr => ?_
      refine comp_tab (g := fun i => .int (i : Nat)) (le_lim (by assumption)) (by ((repeat' first | with_reducible (first | apply innerR | apply range0_tab hn') | (first | with_reducible (first | apply eInt | apply eNil | apply idx_q0 | apply idx_q1 | apply tup01 | apply tup11 | apply add_nat1 | apply neg1 | apply eOn | apply eBool | apply eStrg | apply eV | apply eIdx | apply eBin | apply eCall | apply eCons | apply eCmp | apply eTup | apply eLen | apply eR1 | apply eR2 | apply eIl | apply eNeg | apply eOrF | apply eAndT | apply eNotT | apply eNotF | apply eVal | apply eLst | apply eSlc | apply eOs | apply eSort | apply eLr | apply eSum | apply eAbs) | exact vF rfl | exact vS rfl | exact vB rfl | exact rfl)); done)) fun c hc => ?_
      by_cases e : c = j
      · have e1 : crm f b j r c = b r := if_pos e
        show _ = some (PyData.int (crm f b j r c), Mode.fresh)
        rw [e1]
        apply eIfT <;> ((repeat' first | with_reducible (first | apply idx_iv b _ _ hn' hr | apply e) | (first | with_reducible (first | apply eInt | apply eNil | apply idx_q0 | apply idx_q1 | apply tup01 | apply tup11 | apply add_nat1 | apply neg1 | apply eOn | apply eBool | apply eStrg | apply eV | apply eIdx | apply eBin | apply eCall | apply eCons | apply eCmp | apply eTup | apply eLen | apply eR1 | apply eR2 | apply eIl | apply eNeg | apply eOrF | apply eAndT | apply eNotT | apply eNotF | apply eVal | apply eLst | apply eSlc | apply eOs | apply eSort | apply eLr | apply eSum | apply eAbs) | exact vF rfl | exact vS rfl | exact vB rfl | exact rfl)) <;> simp only [cmp_eq_int, cmp_ne_int, cmp_lt_int, cmp_gt_int, cast_ne_neg1, cast_eq, decide_true, decide_false, Bool.not_true, Bool.not_false, idx_iv b _ _ hn' hr, e])
      · have e1 : crm f b j r c = f r c := if_neg e
        show _ = some (PyData.int (crm f b j r c), Mode.fresh)
        rw [e1]
        apply eIfF <;> ((repeat' first | with_reducible (first | apply idx_im f _ hn' hr | apply idx_ir (f r) _ _ hn' hc | apply e) | (first | with_reducible (first | apply eInt | apply eNil | apply idx_q0 | apply idx_q1 | apply tup01 | apply tup11 | apply add_nat1 | apply neg1 | apply eOn | apply eBool | apply eStrg | apply eV | apply eIdx | apply eBin | apply eCall | apply eCons | apply eCmp | apply eTup | apply eLen | apply eR1 | apply eR2 | apply eIl | apply eNeg | apply eOrF | apply eAndT | apply eNotT | apply eNotF | apply eVal | apply eLst | apply eSlc | apply eOs | apply eSort | apply eLr | apply eSum | apply eAbs) | exact vF rfl | exact vS rfl | exact vB rfl | exact rfl)) <;> simp only [cmp_eq_int, cmp_ne_int, cmp_lt_int, cmp_gt_int, cast_ne_neg1, cast_eq, decide_true, decide_false, Bool.not_true, Bool.not_false, idx_im f _ hn' hr, idx_ir (f r) _ _ hn' hc, e])
    · simp only [demote_zero, demote_succ, dm, List.set_cons_zero, List.set_cons_succ, isList, Bool.false_and, Bool.true_and]
      obtain ⟨fr, h⟩ := hB n (crm f b j) hn hcz
      have hc : callD Φ "det_bareiss" [(im n n (crm f b j), .shared)] = some (.int (detI n (crm f b j)), .fresh) := call_int' h
      have hf : callD Φ "frac" [(.int (detI n (crm f b j)), .fresh), (.int (detI n f), .fresh)] = some (qD (Rat.divInt (detI n (crm f b j)) (detI n f)), .fresh) := call_ok (hF _ _ hd (lim_of (detI_sz hn hcz) (by decide)) (lim_of (detI_sz hn hz) (by decide))) rfl
      refine W.cons (W.append (d := qD (Rat.divInt (detI n (crm f b j)) (detI n f))) (ds := tab j fun j => qD (Rat.divInt (detI n (crm f b j)) (detI n f))) (by ((repeat' first | with_reducible (first | apply hc | apply hf) | (first | with_reducible (first | apply eInt | apply eNil | apply idx_q0 | apply idx_q1 | apply tup01 | apply tup11 | apply add_nat1 | apply neg1 | apply eOn | apply eBool | apply eStrg | apply eV | apply eIdx | apply eBin | apply eCall | apply eCons | apply eCmp | apply eTup | apply eLen | apply eR1 | apply eR2 | apply eIl | apply eNeg | apply eOrF | apply eAndT | apply eNotT | apply eNotF | apply eVal | apply eLst | apply eSlc | apply eOs | apply eSort | apply eLr | apply eSum | apply eAbs) | exact vF rfl | exact vS rfl | exact vB rfl | exact rfl)); done)) rfl (by rw [tab_length]; exact Nat.lt_of_lt_of_le (by assumption) (by assumption)) ?_)
      simp only [demote_zero, demote_succ, dm, List.set_cons_zero, List.set_cons_succ, isList, Bool.false_and, Bool.true_and]
      exact W.nil ⟨_, _, by rw [tab_succ]⟩
  · rintro ρ ⟨o5, o6, rfl⟩
    exact W.cons (W.retVar rfl rfl)
theorem cram_run {Φ : Tab} (hB : SBar Φ) (hF : SFrac Φ) : SCram (runN Φ) := fun n f b hn hz hb hd => run_of (f := ⟨"cramer", ["rows", "b"], ["n", "d", "x", "j", "swapped"], mb_cramer⟩) rfl (cram_body hB hF hn hz hb hd)
theorem cram_raise {Φ : Tab} (hB : SBar Φ) {n : Nat} {f : Nat → Nat → Int} (b : Nat → Int) (hn : n ≤ 3) (hz : ∀ i j, i < n → j < n → (f i j).natAbs < 2 ^ 8) (hd : detI n f = 0) : raisesN Φ "cramer" [im n n f, iv n b] = true := by
  obtain ⟨e1, e2⟩ := cram_pre hB (b := b) hn hz
  show raisesF Φ ⟨"cramer", ["rows", "b"], ["n", "d", "x", "j", "swapped"], mb_cramer⟩ [im n n f, iv n b] = true
  unfold raisesF
  rw [Bool.and_eq_true]
  refine ⟨rfl, ?_⟩
  show exX Φ NN mb_cramer (slots [im n n f, iv n b] 5) = true
  delta mb_cramer
  rw [exX, e1]
  simp only
  rw [exX, e2]
  simp only
  rw [exX]
  have : evT Φ (.cmp .Eq (.var 3) (.int 0)) [some ⟨false, im n n f⟩, some ⟨false, iv n b⟩, some ⟨false, .int n⟩, some ⟨false, .int (detI n f)⟩, none, none, none] = some true := by ((repeat' first | with_reducible (first | apply hd) | (first | with_reducible (first | apply eInt | apply eNil | apply idx_q0 | apply idx_q1 | apply tup01 | apply tup11 | apply add_nat1 | apply neg1 | apply eOn | apply eBool | apply eStrg | apply eV | apply eIdx | apply eBin | apply eCall | apply eCons | apply eCmp | apply eTup | apply eLen | apply eR1 | apply eR2 | apply eIl | apply eNeg | apply eOrF | apply eAndT | apply eNotT | apply eNotF | apply eVal | apply eLst | apply eSlc | apply eOs | apply eSort | apply eLr | apply eSum | apply eAbs) | exact vF rfl | exact vS rfl | exact vB rfl | exact rfl)) <;> simp only [cmp_eq_int, cmp_ne_int, cmp_lt_int, cmp_gt_int, cast_ne_neg1, cast_eq, decide_true, decide_false, Bool.not_true, Bool.not_false, hd])
  rw [this]
  all_goals (intros; simp_all)
theorem exX_none {Φ : Tab} {N : Nat} : ∀ {ms : List MS} {ρ : Rho}, (∀ s ∈ ms, ∀ t, s ≠ .ite t [.fail] []) → exX Φ N ms ρ = false
  | [], ρ, h => by rw [exX]
  | s :: ms, ρ, h => by
    rw [exX]
    · split
      · exact exX_none fun s hs => h s (List.mem_cons_of_mem _ hs)
      · rfl
    · exact h s List.mem_cons_self
theorem cram_noraise {Φ : Tab} (hB : SBar Φ) {n : Nat} {f : Nat → Nat → Int} (b : Nat → Int) (hn : n ≤ 3) (hz : ∀ i j, i < n → j < n → (f i j).natAbs < 2 ^ 8) (hd : detI n f ≠ 0) : raisesN Φ "cramer" [im n n f, iv n b] = false := by
  obtain ⟨e1, e2⟩ := cram_pre hB (b := b) hn hz
  show raisesF Φ ⟨"cramer", ["rows", "b"], ["n", "d", "x", "j", "swapped"], mb_cramer⟩ [im n n f, iv n b] = false
  unfold raisesF
  rw [Bool.and_eq_false_iff]
  right
  show exX Φ NN mb_cramer (slots [im n n f, iv n b] 5) = false
  delta mb_cramer
  rw [exX, e1]
  simp only
  rw [exX, e2]
  simp only
  rw [exX]
  have : evT Φ (.cmp .Eq (.var 3) (.int 0)) [some ⟨false, im n n f⟩, some ⟨false, iv n b⟩, some ⟨false, .int n⟩, some ⟨false, .int (detI n f)⟩, none, none, none] = some false := by ((repeat' first | with_reducible (first | apply hd) | (first | with_reducible (first | apply eInt | apply eNil | apply idx_q0 | apply idx_q1 | apply tup01 | apply tup11 | apply add_nat1 | apply neg1 | apply eOn | apply eBool | apply eStrg | apply eV | apply eIdx | apply eBin | apply eCall | apply eCons | apply eCmp | apply eTup | apply eLen | apply eR1 | apply eR2 | apply eIl | apply eNeg | apply eOrF | apply eAndT | apply eNotT | apply eNotF | apply eVal | apply eLst | apply eSlc | apply eOs | apply eSort | apply eLr | apply eSum | apply eAbs) | exact vF rfl | exact vS rfl | exact vB rfl | exact rfl)) <;> simp only [cmp_eq_int, cmp_ne_int, cmp_lt_int, cmp_gt_int, cast_ne_neg1, cast_eq, decide_true, decide_false, Bool.not_true, Bool.not_false, hd])
  rw [this]
  · simp only
    refine exX_none ?_
    intro s hs t
    simp only [List.mem_cons, List.not_mem_nil, or_false] at hs
    rcases hs with rfl | rfl | rfl <;> simp
  all_goals (intros; simp_all)

/-! ## the law's own test of equality -/
noncomputable def pD (F G : Nat → Nat → Int) : Nat → Nat → D := fun i j => .tuple [.int (F i j), .int (G i j)]
theorem depthAll_le {ds : List D} {k : Nat} (h : ∀ d ∈ ds, d.depth ≤ k) : PyData.depthAll ds ≤ k := by
  induction ds with
  | nil => exact Nat.zero_le _
  | cons d ds ih =>
    rw [PyData.depthAll]
    exact Nat.max_le.mpr ⟨h d List.mem_cons_self, ih fun d hd => h d (List.mem_cons_of_mem _ hd)⟩
theorem canAll {ds : List D} (h : ∀ d ∈ ds, d.canLay0 = true) : PyData.canLayAll0 ds = true := by
  induction ds with
  | nil => rfl
  | cons d ds ih => rw [PyData.canLayAll0, h d List.mem_cons_self, ih fun d hd => h d (List.mem_cons_of_mem _ hd)]; rfl
theorem mem_tab {α} {n : Nat} {g : Nat → α} {x : α} (h : x ∈ tab n g) : ∃ i, i < n ∧ x = g i := by
  simp [tab] at h; obtain ⟨i, hi, rfl⟩ := h; exact ⟨i, hi, rfl⟩
theorem ok_mat {n m : Nat} {f : Nat → Nat → D} {k : Nat} (hk : k ≤ 60) (h : ∀ i j, (f i j).canLay0 = true ∧ (f i j).depth ≤ k) : cmpD.SeqAtOk (matD n m f) = true := by
  unfold cmpD.SeqAtOk matD
  rw [Bool.and_eq_true, decide_eq_true_eq]
  constructor
  · rw [PyData.canLay0]
    refine canAll fun d hd => ?_
    obtain ⟨i, _, rfl⟩ := mem_tab hd
    rw [PyData.canLay0]
    refine canAll fun d hd => ?_
    obtain ⟨j, _, rfl⟩ := mem_tab hd
    exact (h i j).1
  · rw [PyData.depth]
    have : PyData.depthAll (tab n fun i => PyData.list (tab m fun j => f i j)) ≤ k + 1 := depthAll_le fun d hd => by
      obtain ⟨i, _, rfl⟩ := mem_tab hd
      rw [PyData.depth]
      exact Nat.add_le_add_right (depthAll_le fun d hd => by obtain ⟨j, _, rfl⟩ := mem_tab hd; exact (h i j).2) 1
    omega
theorem cmp_ne_self {d : D} (h : cmpD.SeqAtOk d = true) : cmpD .NotEq d d = some false := by
  show (if (cmpD.SeqAtOk d && cmpD.SeqAtOk d) = true then some (!PyData.eqv d d) else none) = _
  rw [if_pos (by rw [h]; rfl), PySem.SeqAt.eqv_refl d (by unfold cmpD.SeqAtOk at h; rw [Bool.and_eq_true] at h; exact h.1)]
  rfl
theorem ok_pD {n m : Nat} (F G : Nat → Nat → Int) : cmpD.SeqAtOk (matD n m (pD F G)) = true := ok_mat (k := 1) (by decide) fun i j => by
  constructor
  · rfl
  · simp [pD, PyData.depth, PyData.depthAll]
noncomputable def SExact (Φ : Tab) : Prop := ∀ n m F G, n ≤ 64 → m ≤ 64 → Φ "_law_exact" [matD n m (pD F G), matD n m (pD F G)] = some (.bool true, true)
theorem vm_tup (o : Bool) (ds : List D) : varMode ⟨false, .tuple ds⟩ = .fresh := rfl
theorem exact_body (Φ : Tab) (n m : Nat) (F G : Nat → Nat → Int) (hn : n ≤ 64) (hm : m ≤ 64) : W (exSs Φ NN mb__law_exact (slots [matD n m (pD F G), matD n m (pD F G)] 2)) (· = .ret (.bool true) true) := by
  delta mb__law_exact; simp only [List.map_cons, List.map_nil, List.cons_append, List.nil_append, List.replicate, slots]
  refine W.cons (W.skip (by ((repeat' first | with_reducible (first | apply cmp_ne_self (ok_pD F G)) | (first | with_reducible (first | apply eInt | apply eNil | apply idx_q0 | apply idx_q1 | apply tup01 | apply tup11 | apply add_nat1 | apply neg1 | apply eOn | apply eBool | apply eStrg | apply eV | apply eIdx | apply eBin | apply eCall | apply eCons | apply eCmp | apply eTup | apply eLen | apply eR1 | apply eR2 | apply eIl | apply eNeg | apply eOrF | apply eAndT | apply eNotT | apply eNotF | apply eVal | apply eLst | apply eSlc | apply eOs | apply eSort | apply eLr | apply eSum | apply eAbs) | exact vF rfl | exact vS rfl | exact vB rfl | exact rfl)); done)) ?_)
  refine W.cons (W.forS (ds := tab n fun i => .list (tab m (pD F G i))) (by ((repeat' first | with_reducible (first | apply vm_mat | apply list_mat _ hn) | (first | with_reducible (first | apply eInt | apply eNil | apply idx_q0 | apply idx_q1 | apply tup01 | apply tup11 | apply add_nat1 | apply neg1 | apply eOn | apply eBool | apply eStrg | apply eV | apply eIdx | apply eBin | apply eCall | apply eCons | apply eCmp | apply eTup | apply eLen | apply eR1 | apply eR2 | apply eIl | apply eNeg | apply eOrF | apply eAndT | apply eNotT | apply eNotF | apply eVal | apply eLst | apply eSlc | apply eOs | apply eSort | apply eLr | apply eSum | apply eAbs) | exact vF rfl | exact vS rfl | exact vB rfl | exact rfl)); done)) ?_)
  simp only [demote_zero, demote_succ, dm, List.set_cons_zero, List.set_cons_succ, isList, Bool.false_and, Bool.true_and]
  refine W.loopL (I := fun i ρ => ∃ o2 o3, ρ = [some ⟨false, matD n m (pD F G)⟩, some ⟨false, matD n m (pD F G)⟩, o2, o3]) (ds := tab n fun i => .list (tab m (pD F G i))) _ 0 _ (Nat.zero_add _) ⟨none, none, rfl⟩ ?_ ?_
  · rintro i ρ d hd ⟨o2, o3, rfl⟩
    obtain ⟨r, hr, rfl⟩ := mem_tab (List.mem_of_getElem? hd)
    simp only [demote_zero, demote_succ, dm, List.set_cons_zero, List.set_cons_succ, isList, Bool.false_and, Bool.true_and]
    refine W.cons (W.forS (ds := tab m (pD F G r)) (by ((repeat' first | with_reducible (first | apply list_tab _ hm) | (first | with_reducible (first | apply eInt | apply eNil | apply idx_q0 | apply idx_q1 | apply tup01 | apply tup11 | apply add_nat1 | apply neg1 | apply eOn | apply eBool | apply eStrg | apply eV | apply eIdx | apply eBin | apply eCall | apply eCons | apply eCmp | apply eTup | apply eLen | apply eR1 | apply eR2 | apply eIl | apply eNeg | apply eOrF | apply eAndT | apply eNotT | apply eNotF | apply eVal | apply eLst | apply eSlc | apply eOs | apply eSort | apply eLr | apply eSum | apply eAbs) | exact vF rfl | exact vS rfl | exact vB rfl | exact rfl)); done)) ?_)
    simp only [demote_zero, demote_succ, dm, List.set_cons_zero, List.set_cons_succ, isList, Bool.false_and, Bool.true_and]
    refine W.loopL (I := fun i ρ => ∃ o3, ρ = [some ⟨false, matD n m (pD F G)⟩, some ⟨false, matD n m (pD F G)⟩, some ⟨false, .list (tab m (pD F G r))⟩, o3]) (ds := tab m (pD F G r)) _ 0 _ (Nat.zero_add _) ⟨_, rfl⟩ ?_ ?_
    · rintro i ρ d hd ⟨o3, rfl⟩
      obtain ⟨c, hc, rfl⟩ := mem_tab (List.mem_of_getElem? hd)
      simp only [demote_zero, demote_succ, dm, List.set_cons_zero, List.set_cons_succ, isList, Bool.false_and, Bool.true_and, pD]
      have i0 : idxD (.tuple [.int (F r c), .int (G r c)], .fresh) (.int 0, .fresh) = some (.int (F r c), .fresh) := rfl
      have i1 : idxD (.tuple [.int (F r c), .int (G r c)], .fresh) (.int 1, .fresh) = some (.int (G r c), .fresh) := rfl
      refine W.cons (W.skip (by ((repeat' first | with_reducible (first | apply vm_tup false | apply i0) | (first | with_reducible (first | apply eInt | apply eNil | apply idx_q0 | apply idx_q1 | apply tup01 | apply tup11 | apply add_nat1 | apply neg1 | apply eOn | apply eBool | apply eStrg | apply eV | apply eIdx | apply eBin | apply eCall | apply eCons | apply eCmp | apply eTup | apply eLen | apply eR1 | apply eR2 | apply eIl | apply eNeg | apply eOrF | apply eAndT | apply eNotT | apply eNotF | apply eVal | apply eLst | apply eSlc | apply eOs | apply eSort | apply eLr | apply eSum | apply eAbs) | exact vF rfl | exact vS rfl | exact vB rfl | exact rfl)); done)) ?_)
      refine W.cons (W.skip (by ((repeat' first | with_reducible (first | apply vm_tup false | apply i1) | (first | with_reducible (first | apply eInt | apply eNil | apply idx_q0 | apply idx_q1 | apply tup01 | apply tup11 | apply add_nat1 | apply neg1 | apply eOn | apply eBool | apply eStrg | apply eV | apply eIdx | apply eBin | apply eCall | apply eCons | apply eCmp | apply eTup | apply eLen | apply eR1 | apply eR2 | apply eIl | apply eNeg | apply eOrF | apply eAndT | apply eNotT | apply eNotF | apply eVal | apply eLst | apply eSlc | apply eOs | apply eSort | apply eLr | apply eSum | apply eAbs) | exact vF rfl | exact vS rfl | exact vB rfl | exact rfl)); done)) ?_)
      exact W.nil ⟨_, rfl⟩
    · rintro ρ ⟨o3, rfl⟩
      exact W.nil ⟨_, _, rfl⟩
  · rintro ρ ⟨o2, o3, rfl⟩
    exact W.cons (W.ret (d := .bool true) (m := .fresh) (by ((repeat' (first | with_reducible (first | apply eInt | apply eNil | apply idx_q0 | apply idx_q1 | apply tup01 | apply tup11 | apply add_nat1 | apply neg1 | apply eOn | apply eBool | apply eStrg | apply eV | apply eIdx | apply eBin | apply eCall | apply eCons | apply eCmp | apply eTup | apply eLen | apply eR1 | apply eR2 | apply eIl | apply eNeg | apply eOrF | apply eAndT | apply eNotT | apply eNotF | apply eVal | apply eLst | apply eSlc | apply eOs | apply eSort | apply eLr | apply eSum | apply eAbs) | exact vF rfl | exact vS rfl | exact vB rfl | exact rfl)); done)) (by decide) rfl)
theorem exact_run (Φ : Tab) : SExact (runN Φ) := fun n m F G hn hm => run_of (f := ⟨"_law_exact", ["got", "want"], ["row", "x"], mb__law_exact⟩) rfl (exact_body Φ n m F G hn hm)


noncomputable def swapP (p : Nat → Nat) (c r : Nat) : Nat → Nat := fun i => if i = r then p c else if i = c then p r else p i
structure PermOK (n : Nat) (p : Nat → Nat) : Prop where
  lt : ∀ i, i < n → p i < n
  inj : ∀ i j, i < n → j < n → p i = p j → i = j
theorem PermOK.swap {n c r : Nat} {p : Nat → Nat} (h : PermOK n p) (hc : c < n) (hr : r < n) : PermOK n (swapP p c r) := by
  constructor
  · intro i hi
    unfold swapP
    split
    · exact h.lt c hc
    · split
      · exact h.lt r hr
      · exact h.lt i hi
  · intro i j hi hj e
    unfold swapP at e
    have := h.inj
    split at e <;> split at e <;> (try split at e) <;> (try split at e)
    all_goals first
      | omega
      | (have h1 := this _ _ ?_ ?_ e <;> omega)
noncomputable def sgRow (p : Nat → Nat) (i : Nat) : Nat → Int
  | 0 => 1
  | j + 1 => if p j > p i then -sgRow p i j else sgRow p i j
noncomputable def sgAll (p : Nat → Nat) : Nat → Int
  | 0 => 1
  | i + 1 => sgAll p i * sgRow p i i
theorem sg_swap {n c r : Nat} {p : Nat → Nat} (h : PermOK n p) (hn : n ≤ 3) (hcr : c < r) (hr : r < n) : sgAll (swapP p c r) n = - sgAll p n := by
  rcases n4 hn with rfl | rfl | rfl | rfl
  · omega
  · omega
  · obtain rfl : c = 0 := by omega
    obtain rfl : r = 1 := by omega
    have h01 : p 0 ≠ p 1 := fun e => by have := h.inj 0 1 (by exact Nat.le_of_lt (by assumption)) (by assumption) e; omega
    simp only [sgAll, sgRow, swapP]
    simp only [if_true, if_false, Nat.zero_ne_one]
    by_cases e : p 0 < p 1
    · have : ¬ p 1 < p 0 := by omega
      simp [e, this]
    · have : p 1 < p 0 := by omega
      simp [e, this]
  · have h01 : p 0 ≠ p 1 := fun e => by have := h.inj 0 1 (by exact Nat.le_add_left _ _) (by exact Nat.le_of_lt (by assumption)) e; omega
    have h02 : p 0 ≠ p 2 := fun e => by have := h.inj 0 2 (by exact Nat.le_add_left _ _) (by assumption) e; omega
    have h12 : p 1 ≠ p 2 := fun e => by have := h.inj 1 2 (by exact Nat.le_of_lt (by assumption)) (by assumption) e; omega
    rcases Nat.lt_or_gt_of_ne h01 with a | a <;> rcases Nat.lt_or_gt_of_ne h02 with b | b <;> rcases Nat.lt_or_gt_of_ne h12 with d | d
    all_goals
      first
      | omega
      | (have : (c = 0 ∧ r = 1) ∨ (c = 0 ∧ r = 2) ∨ (c = 1 ∧ r = 2) := by omega
         rcases this with ⟨rfl, rfl⟩ | ⟨rfl, rfl⟩ | ⟨rfl, rfl⟩ <;> simp [sgAll, sgRow, swapP, a, b, d, Nat.not_lt_of_gt a, Nat.not_lt_of_gt b, Nat.not_lt_of_gt d])
theorem sg_pm (p : Nat → Nat) : ∀ n, sgAll p n = 1 ∨ sgAll p n = -1
  | 0 => .inl rfl
  | n + 1 => by
    have h2 : ∀ i k, sgRow p i k = 1 ∨ sgRow p i k = -1 := by
      intro i k
      induction k with
      | zero => exact .inl rfl
      | succ k ih => rw [sgRow]; split <;> rcases ih with e | e <;> rw [e] <;> simp
    rw [sgAll]
    rcases sg_pm p n with e | e <;> rcases h2 n n with e' | e' <;> rw [e, e'] <;> simp

structure LI (n c : Nat) (A u l : Nat → Nat → Rat) (p : Nat → Nat) : Prop where
  perm : PermOK n p
  rel : ∀ i j, i < n → j < n → A (p i) j = u i j + sm (min i c) fun k => l i k * u k j
  tri : ∀ i j, j < c → j < i → i < n → u i j = 0
  lz : ∀ i j, i < n → j < n → (c ≤ j ∨ i ≤ j) → l i j = 0
  det : (sgAll p n : Rat) * detQ n u = detQ n A
  su : ∀ i j, i < n → j < n → Sz (bits c) (u i j)
  sl : ∀ i j, i < n → j < n → Sz (bits c) (l i j)
structure LJ (n c i : Nat) (A u l : Nat → Nat → Rat) (p : Nat → Nat) : Prop where
  perm : PermOK n p
  rel : ∀ r j, r < n → j < n → A (p r) j = u r j + sm (if c < r ∧ r < i then c + 1 else min r c) fun k => l r k * u k j
  tri : ∀ i j, j < c → j < i → i < n → u i j = 0
  col : ∀ r, c < r → r < i → r < n → u r c = 0
  piv : u c c ≠ 0
  lz : ∀ r j, r < n → j < n → (c < j ∨ r ≤ j ∨ (j = c ∧ i ≤ r)) → l r j = 0
  det : (sgAll p n : Rat) * detQ n u = detQ n A
  su : ∀ r j, r < n → j < n → (r ≤ c ∨ i ≤ r) → Sz (bits c) (u r j)
  su' : ∀ r j, r < n → j < n → Sz (bits (c + 1)) (u r j)
  sl : ∀ i j, i < n → j < n → Sz (bits (c + 1)) (l i j)

theorem bits_up (c : Nat) : bits c ≤ bits (c + 1) := bits_mono (Nat.le_succ c)
theorem LI.miss {n c : Nat} {A u l : Nat → Nat → Rat} {p : Nat → Nat} (h : LI n c A u l p) (hc : c < n) (hz : ∀ i, c ≤ i → i < n → u i c = 0) : LI n (c + 1) A u l p := by
  refine ⟨h.perm, fun i j hi hj => ?_, fun i j h1 h2 h3 => ?_, fun i j hi hj hh => h.lz i j hi hj (by omega), h.det, fun i j hi hj => (h.su i j hi hj).mono (bits_up c), fun i j hi hj => (h.sl i j hi hj).mono (bits_up c)⟩
  · rw [h.rel i j hi hj]
    by_cases e : i ≤ c
    · rw [Nat.min_eq_left e, Nat.min_eq_left (Nat.le_succ_of_le e)]
    · rw [Nat.min_eq_right (Nat.lt_of_not_le e), Nat.min_eq_right (Nat.le_of_lt (Nat.lt_of_not_le e)), sm, h.lz i c hi hc (.inl (Nat.le_refl _))]
      grind
  · by_cases e : j = c
    · subst e; exact hz i (by exact Nat.le_of_lt (by assumption)) h3
    · exact h.tri i j (by omega) h2 h3
theorem LI.swap {n c r : Nat} {A u l : Nat → Nat → Rat} {p : Nat → Nat} (h : LI n c A u l p) (hn : n ≤ 3) (hc : c < r) (hr : r < n) : LI n c A (swapF u c r) (swapF l c r) (swapP p c r) := by
  have hcn : c < n := by exact Nat.lt_trans (by assumption) (by assumption)
  have hs : ∀ (i : Nat) (x : Nat → Rat) (j b : Nat), b ≤ c → sm b (fun k => x k * swapF u c r k j) = sm b (fun k => x k * u k j) := fun i x j b hb => sm_ext fun k hk => by unfold swapF; rw [if_neg (by omega), if_neg (by omega)]
  refine ⟨h.perm.swap hcn hr, fun i j hi hj => ?_, fun i j h1 h2 h3 => ?_, fun i j hi hj hh => ?_, ?_, fun i j hi hj => ?_, fun i j hi hj => ?_⟩
  · rw [hs i _ j _ (by omega)]
    unfold swapF swapP
    by_cases e1 : i = r
    · simp only [e1, if_true]
      have := h.rel c j hcn hj
      rw [Nat.min_eq_right (Nat.le_of_lt hc)]
      rw [Nat.min_self c] at this
      exact this
    · by_cases e2 : i = c
      · have e3 : ¬ c = r := by exact Nat.ne_of_lt (by assumption)
        simp only [e2, e3, if_true, if_false]
        have := h.rel r j hr hj
        rw [Nat.min_eq_right (Nat.le_of_lt hc)] at this
        rw [Nat.min_self c]
        exact this
      · simp only [e1, e2, if_false]
        exact h.rel i j hi hj
  · unfold swapF
    split
    · exact h.tri c j h1 h1 hcn
    · split
      · exact h.tri r j h1 (by omega) hr
      · exact h.tri i j h1 h2 h3
  · unfold swapF
    split
    · exact h.lz c j hcn hj (by omega)
    · split
      · exact h.lz r j hr hj (by omega)
      · exact h.lz i j hi hj hh
  · rw [det_swap hn hcn hr (by exact Nat.ne_of_lt (by assumption)), sg_swap h.perm hn hc hr, ← h.det]
    rw [Rat.intCast_neg]; grind
  · unfold swapF
    split
    · exact h.su c j hcn hj
    · split
      · exact h.su r j hr hj
      · exact h.su i j hi hj
  · unfold swapF
    split
    · exact h.sl c j hcn hj
    · split
      · exact h.sl r j hr hj
      · exact h.sl i j hi hj
theorem LI.start {n c : Nat} {A u l : Nat → Nat → Rat} {p : Nat → Nat} (h : LI n c A u l p) (hp : u c c ≠ 0) : LJ n c (c + 1) A u l p := by
  refine ⟨h.perm, fun r j hr hj => ?_, h.tri, fun r h1 h2 => by omega, hp, fun r j hr hj hh => h.lz r j hr hj (by omega), h.det, fun r j hr hj _ => h.su r j hr hj, fun r j hr hj => (h.su r j hr hj).mono (bits_up c), fun r j hr hj => (h.sl r j hr hj).mono (bits_up c)⟩
  rw [if_neg (by omega)]
  exact h.rel r j hr hj
theorem LJ.step {n c i : Nat} {A u l : Nat → Nat → Rat} {p : Nat → Nat} (h : LJ n c i A u l p) (hn : n ≤ 3) (hc : c < i) (hi : i < n) : LJ n c (i + 1) A (addF u i c (-(u i c / u c c))) (updM l i c (u i c / u c c)) p := by
  have hp := h.piv
  have hcn : c < n := by exact Nat.lt_trans (by assumption) (by assumption)
  have s3 := h.su i c hi hcn (by exact Or.inr (Nat.le_refl _))
  have s4 := h.su c c hcn hcn (by exact Or.inl (Nat.le_refl _))
  have hq := s3.div s4 hp
  have hu : ∀ k j, k ≤ c → addF u i c (-(u i c / u c c)) k j = u k j := fun k j hk => by unfold addF; rw [if_neg (by omega)]
  refine ⟨h.perm, fun r j hr hj => ?_, fun r j h1 h2 h3 => ?_, fun r h1 h2 h3 => ?_, ?_, fun r j hr hj hh => ?_, ?_, fun r j hr hj hh => ?_, fun r j hr hj => ?_, fun r j hr hj => ?_⟩
  · have hrel := h.rel r j hr hj
    by_cases e : r = i
    · subst e
      rw [if_neg (by omega), show min r c = c by omega] at hrel
      rw [if_pos (by omega), sm]
      have e1 : sm c (fun k => updM l r c (u r c / u c c) r k * addF u r c (-(u r c / u c c)) k j) = sm c (fun k => l r k * u k j) := sm_ext fun k hk => by
        rw [hu k j (by exact Nat.le_of_lt (by assumption))]; unfold updM; rw [if_neg (by omega)]
      rw [e1, hrel, hu c j (Nat.le_refl _)]
      unfold addF updM
      rw [if_pos rfl, if_pos ⟨rfl, rfl⟩]
      grind
    · have e0 : (c < r ∧ r < i + 1) ↔ (c < r ∧ r < i) := by omega
      simp only [e0]
      rw [hrel]
      have e2 : addF u i c (-(u i c / u c c)) r j = u r j := by unfold addF; rw [if_neg e]
      rw [e2]
      congr 1
      refine sm_ext fun k hk => ?_
      have hk' : k ≤ c := by
        split at hk <;> omega
      rw [hu k j hk']
      unfold updM
      rw [if_neg (by omega)]
  · unfold addF
    split
    · rw [h.tri i j h1 (by omega) hi, h.tri c j h1 h1 hcn]; grind
    · exact h.tri r j h1 h2 h3
  · unfold addF
    split
    · grind
    · exact h.col r h1 (by omega) h3
  · rw [hu c c (Nat.le_refl _)]; exact hp
  · unfold updM
    rw [if_neg (by omega)]
    exact h.lz r j hr hj (by omega)
  · rw [det_add hn hi hcn (by exact Nat.ne_of_gt (by assumption))]; exact h.det
  · unfold addF
    rw [if_neg (by omega)]; exact h.su r j hr hj (by omega)
  · unfold addF
    split
    · have h1 := h.su i j hi hj (by exact Or.inr (Nat.le_refl _))
      have h2 := h.su c j (by assumption) hj (by exact Or.inl (Nat.le_refl _))
      exact (h1.add (hq.neg.mul h2)).mono (by rw [bits]; omega)
    · exact h.su' r j hr hj
  · unfold updM
    split
    · exact hq.mono (by rw [bits]; omega)
    · exact h.sl r j hr hj
theorem LJ.done {n c : Nat} {A u l : Nat → Nat → Rat} {p : Nat → Nat} (h : LJ n c n A u l p) : LI n (c + 1) A u l p := by
  refine ⟨h.perm, fun i j hi hj => ?_, fun i j h1 h2 h3 => ?_, fun i j hi hj hh => h.lz i j hi hj (by omega), h.det, h.su', h.sl⟩
  · rw [h.rel i j hi hj]
    congr 2
    split <;> omega
  · by_cases e : j = c
    · subst e; exact h.col i h2 h3 h3
    · exact h.tri i j (by omega) h2 h3
theorem LI.init {n : Nat} {A : Nat → Nat → Rat} (hn : n ≤ 3) (hz : ∀ i j, i < n → j < n → Sz 8 (A i j)) : LI n 0 A A (fun _ _ => 0) (fun i => i) := by
  refine ⟨⟨fun i h => h, fun i j _ _ e => e⟩, fun i j _ _ => ?_, fun i j h => by omega, fun _ _ _ _ _ => rfl, ?_, hz, fun _ _ _ _ => ⟨by decide, by decide⟩⟩
  · rw [Nat.min_zero, sm]; grind
  · have : sgAll (fun i => i) n = 1 := by rcases n4 hn with rfl | rfl | rfl | rfl <;> decide
    rw [this]; grind

noncomputable def permD (n : Nat) (p : Nat → Nat) : List D := tab n fun i => .int (p i : Nat)
noncomputable def lowF (l : Nat → Nat → Rat) : Nat → Nat → Rat := fun i j => if i = j then 1 else l i j
noncomputable def SLu (Φ : Tab) : Prop := ∀ n (A : Nat → Nat → Rat), n ≤ 3 → (∀ i j, i < n → j < n → Sz 8 (A i j)) → ∃ u l p, Φ "lu_of" [qm n n A] = some (.tuple [.list (permD n p), qm n n (lowF l), qm n n u], true) ∧ LI n n A u l p

theorem updM_q (f : Nat → Nat → Rat) (i j : Nat) (x : Rat) : updM (fun i j => qD (f i j)) i j (qD x) = fun r c => qD (updM f i j x r c) := by
  funext r c; unfold updM; split <;> rfl
theorem W.swapV {Φ : Tab} {N : Nat} {Q : Out → Prop} {k : Rho → Prop} {ρ : Rho} {x : Nat} {i j e1 e2 : ME} {n : Nat} {p : Nat → Nat} {c r : Nat} (h1 : evE Φ e1 ρ = .some (.int (p r : Nat), .fresh)) (h2 : evE Φ e2 ρ = .some (.int (p c : Nat), .fresh)) (hi : evE Φ i ρ = .some (.int (c : Int), .fresh)) (hx : ρ[x]? = .some (.some ⟨true, .list (permD n p)⟩))
    (hj : ∀ s, evE Φ j (ρ.set x (.some s)) = .some (.int (r : Int), .fresh)) (hc : c < n) (hr : r < n) (hn : n ≤ 64) (h : k (ρ.set x (.some ⟨true, .list (permD n (swapP p c r))⟩))) : W (exS Φ N (.swap x i j e1 e2) ρ) (Nx Q k) := by
  refine ⟨.next _, ?_, h⟩
  rw [exS, h1]
  simp only [h2, hi, hx, putAt]
  unfold permD
  rw [if_pos ⟨trivial, by omega, by rw [tab_length]; omega, by rw [tab_length]; unfold lim; exact Nat.le_trans (by assumption) (by decide)⟩]
  simp only [hj, tab_length, List.length_set]
  rw [if_pos ⟨trivial, by omega, by omega, by unfold lim; exact Nat.le_trans (by assumption) (by decide)⟩]
  simp only [Int.toNat_natCast, tab_set, List.set_set]
  congr 6
  refine tab_ext fun t _ => ?_
  unfold swapP
  split
  · rfl
  · split <;> rfl

theorem rep_tab {α} (n : Nat) (x : α) : List.replicate n x = tab n fun _ => x := by
  apply List.ext_getElem?
  intro i
  rw [List.getElem?_replicate]
  by_cases h : i < n
  · rw [if_pos h, tab_get _ h]
  · rw [if_neg h, List.getElem?_eq_none (by rw [tab_length]; omega)]
theorem rep_ok {n : Nat} {d : D} {m m' : Mode} (h : m ≠ .borrow) (hn : n ≤ 64) : binD .mul (.list [d], m) (.int (n : Int), m') = some (.list (tab n fun _ => d), flatMode [d]) := by
  refine (if_neg fun e => e.elim h fun e => e.elim (fun e => absurd (Int.natCast_nonneg n) (Int.not_le.mpr e)) fun e => absurd (Int.ofNat_le.mpr (le_lim hn)) (Int.not_le.mpr e)).trans ?_
  rw [Int.toNat_natCast, rep_tab]
theorem vm_qmo (n m : Nat) (f : Nat → Nat → Rat) : varMode ⟨true, qm n m f⟩ = .borrow := rfl
theorem idx_perm {n : Nat} (p : Nat → Nat) {i : Nat} (md md' : Mode) (hn : n ≤ 64) (hi : i < n) : idxD (.list (permD n p), md) (.int (i : Int), md') = some (.int (p i : Nat), .fresh) := idx_rowA (fun i => .int (p i : Nat)) md' md rfl hn hi
theorem lst1 (x : Rat) : lstD [(qD x, .fresh)] = some (.list [qD x], .fresh) := rfl

theorem lu_body (Φ : Tab) (hC : SCopy Φ) (hP : SPiv Φ) (hS : SSwap Φ) (hN : SNeg Φ) (hD : SDiv Φ) (hR : SRowAdd Φ) (n : Nat) (A : Nat → Nat → Rat) (hn : n ≤ 3) (hz : ∀ i j, i < n → j < n → Sz 8 (A i j)) :
    W (exSs Φ NN mb_lu_of (slots [qm n n A] 8)) (fun o => ∃ u l p, o = .ret (.tuple [.list (permD n p), qm n n (lowF l), qm n n u]) true ∧ LI n n A u l p) := by
  have hn' : n ≤ 64 := by exact Nat.le_trans (by assumption) (by decide)
  delta mb_lu_of; simp only [List.map_cons, List.map_nil, List.cons_append, List.nil_append, List.replicate, slots]
  refine W.cons (W.assign (d := .int n) (by ((repeat' first | with_reducible (first | apply len_qm A _ hn') | (first | with_reducible (first | apply eInt | apply eNil | apply idx_q0 | apply idx_q1 | apply tup01 | apply tup11 | apply add_nat1 | apply neg1 | apply eOn | apply eBool | apply eStrg | apply eV | apply eIdx | apply eBin | apply eCall | apply eCons | apply eCmp | apply eTup | apply eLen | apply eR1 | apply eR2 | apply eIl | apply eNeg | apply eOrF | apply eAndT | apply eNotT | apply eNotF | apply eVal | apply eLst | apply eSlc | apply eOs | apply eSort | apply eLr | apply eSum | apply eAbs) | exact vF rfl | exact vS rfl | exact vB rfl | exact rfl)); done)) ?_)
  simp only [demote_zero, demote_succ, dm, List.set_cons_zero, List.set_cons_succ, isList, Bool.false_and, Bool.true_and]
  refine W.cons (W.assign (d := qm n n A) (by ((repeat' first | with_reducible (first | apply call_copyq hC A hn' hn') | (first | with_reducible (first | apply eInt | apply eNil | apply idx_q0 | apply idx_q1 | apply tup01 | apply tup11 | apply add_nat1 | apply neg1 | apply eOn | apply eBool | apply eStrg | apply eV | apply eIdx | apply eBin | apply eCall | apply eCons | apply eCmp | apply eTup | apply eLen | apply eR1 | apply eR2 | apply eIl | apply eNeg | apply eOrF | apply eAndT | apply eNotT | apply eNotF | apply eVal | apply eLst | apply eSlc | apply eOs | apply eSort | apply eLr | apply eSum | apply eAbs) | exact vF rfl | exact vS rfl | exact vB rfl | exact rfl)); done)) ?_)
  simp only [demote_zero, demote_succ, dm, List.set_cons_zero, List.set_cons_succ, isList, Bool.false_and, Bool.true_and]
  refine W.cons (W.assign (d := qm n n fun _ _ => 0) ?_ ?_)
  · refine comp_tab (g := fun i => .int (i : Nat)) (le_lim (by assumption)) (by ((repeat' first | with_reducible (first | apply range0_tab hn') | (first | with_reducible (first | apply eInt | apply eNil | apply idx_q0 | apply idx_q1 | apply tup01 | apply tup11 | apply add_nat1 | apply neg1 | apply eOn | apply eBool | apply eStrg | apply eV | apply eIdx | apply eBin | apply eCall | apply eCons | apply eCmp | apply eTup | apply eLen | apply eR1 | apply eR2 | apply eIl | apply eNeg | apply eOrF | apply eAndT | apply eNotT | apply eNotF | apply eVal | apply eLst | apply eSlc | apply eOs | apply eSort | apply eLr | apply eSum | apply eAbs) | exact vF rfl | exact vS rfl | exact vB rfl | exact rfl)); done)) fun i hi => ?_
    ((repeat' first | with_reducible (first | apply innerR | apply lst1 | apply rep_ok (show Mode.fresh ≠ .borrow by decide) hn') | (first | with_reducible (first | apply eInt | apply eNil | apply idx_q0 | apply idx_q1 | apply tup01 | apply tup11 | apply add_nat1 | apply neg1 | apply eOn | apply eBool | apply eStrg | apply eV | apply eIdx | apply eBin | apply eCall | apply eCons | apply eCmp | apply eTup | apply eLen | apply eR1 | apply eR2 | apply eIl | apply eNeg | apply eOrF | apply eAndT | apply eNotT | apply eNotF | apply eVal | apply eLst | apply eSlc | apply eOs | apply eSort | apply eLr | apply eSum | apply eAbs) | exact vF rfl | exact vS rfl | exact vB rfl | exact rfl)) <;> simp only [cmp_eq_int, cmp_ne_int, cmp_lt_int, cmp_gt_int, cast_ne_neg1, cast_eq, decide_true, decide_false, Bool.not_true, Bool.not_false, innerR, lst1, rep_ok (show Mode.fresh ≠ .borrow by decide) hn'])
    rfl
  simp only [demote_zero, demote_succ, dm, List.set_cons_zero, List.set_cons_succ, isList, Bool.false_and, Bool.true_and, isList_qm]
  refine W.cons (W.assign (d := .list (permD n fun i => i)) ?_ ?_)
  · ((repeat' first | with_reducible (first | apply lrange_ok hn') | (first | with_reducible (first | apply eInt | apply eNil | apply idx_q0 | apply idx_q1 | apply tup01 | apply tup11 | apply add_nat1 | apply neg1 | apply eOn | apply eBool | apply eStrg | apply eV | apply eIdx | apply eBin | apply eCall | apply eCons | apply eCmp | apply eTup | apply eLen | apply eR1 | apply eR2 | apply eIl | apply eNeg | apply eOrF | apply eAndT | apply eNotT | apply eNotF | apply eVal | apply eLst | apply eSlc | apply eOs | apply eSort | apply eLr | apply eSum | apply eAbs) | exact vF rfl | exact vS rfl | exact vB rfl | exact rfl)) <;> simp only [cmp_eq_int, cmp_ne_int, cmp_lt_int, cmp_gt_int, cast_ne_neg1, cast_eq, decide_true, decide_false, Bool.not_true, Bool.not_false, lrange_ok hn'])
    rfl
  simp only [demote_zero, demote_succ, dm, List.set_cons_zero, List.set_cons_succ, isList, Bool.false_and, Bool.true_and]
  refine W.cons (W.forS (ds := upto 0 n) (by ((repeat' first | with_reducible (first | apply range0_ok hn') | (first | with_reducible (first | apply eInt | apply eNil | apply idx_q0 | apply idx_q1 | apply tup01 | apply tup11 | apply add_nat1 | apply neg1 | apply eOn | apply eBool | apply eStrg | apply eV | apply eIdx | apply eBin | apply eCall | apply eCons | apply eCmp | apply eTup | apply eLen | apply eR1 | apply eR2 | apply eIl | apply eNeg | apply eOrF | apply eAndT | apply eNotT | apply eNotF | apply eVal | apply eLst | apply eSlc | apply eOs | apply eSort | apply eLr | apply eSum | apply eAbs) | exact vF rfl | exact vS rfl | exact vB rfl | exact rfl)); done)) ?_)
  simp only [demote_zero, demote_succ, dm, List.set_cons_zero, List.set_cons_succ, isList, Bool.false_and, Bool.true_and]
  refine W.loopJ (I := fun c ρ => ∃ u l p, ∃ o : Nat → Option Slot, ρ = [some ⟨false, qm n n A⟩, some ⟨false, .int n⟩, some ⟨false, qm n n u⟩, some ⟨true, qm n n l⟩, some ⟨true, .list (permD n p)⟩, o 0, o 1, o 2, o 3] ∧ LI n c A u l p) rfl rfl (Nat.zero_le _)
    ⟨A, fun _ _ => 0, fun i => i, fun _ => none, rfl, LI.init hn hz⟩ ?_ ?_
  · rintro J1 q1 P1 r1 c ρ - hc ⟨u, l, p, o, rfl, hI⟩
    simp only [demote_zero, demote_succ, dm, List.set_cons_zero, List.set_cons_succ, isList, Bool.false_and, Bool.true_and]
    obtain ⟨v, hv, hv'⟩ := piv_q hP u (c := c) (s := c) hn' hn' hc (Nat.le_of_lt hc)
    refine W.cons (W.assign (d := .int v) (by ((repeat' first | with_reducible (first | apply hv) | (first | with_reducible (first | apply eInt | apply eNil | apply idx_q0 | apply idx_q1 | apply tup01 | apply tup11 | apply add_nat1 | apply neg1 | apply eOn | apply eBool | apply eStrg | apply eV | apply eIdx | apply eBin | apply eCall | apply eCons | apply eCmp | apply eTup | apply eLen | apply eR1 | apply eR2 | apply eIl | apply eNeg | apply eOrF | apply eAndT | apply eNotT | apply eNotF | apply eVal | apply eLst | apply eSlc | apply eOs | apply eSort | apply eLr | apply eSum | apply eAbs) | exact vF rfl | exact vS rfl | exact vB rfl | exact rfl)); done)) ?_)
    simp only [demote_zero, demote_succ, dm, List.set_cons_zero, List.set_cons_succ, isList, Bool.false_and, Bool.true_and]
    rcases hv' with ⟨rfl, hz0⟩ | ⟨r, rfl, hcr, hrn, hnz⟩
    · refine W.cons (W.iteT (by ((repeat' (first | with_reducible (first | apply eInt | apply eNil | apply idx_q0 | apply idx_q1 | apply tup01 | apply tup11 | apply add_nat1 | apply neg1 | apply eOn | apply eBool | apply eStrg | apply eV | apply eIdx | apply eBin | apply eCall | apply eCons | apply eCmp | apply eTup | apply eLen | apply eR1 | apply eR2 | apply eIl | apply eNeg | apply eOrF | apply eAndT | apply eNotT | apply eNotF | apply eVal | apply eLst | apply eSlc | apply eOs | apply eSort | apply eLr | apply eSum | apply eAbs) | exact vF rfl | exact vS rfl | exact vB rfl | exact rfl)); done)) (W.cons ⟨_, by rw [exS], ?_⟩))
      exact q1 _ _ ⟨u, l, p, fun i => ([_, _, _, _] : Rho).getD i none, rfl, hI.miss hc hz0⟩
    · refine W.cons (W.skip (by ((repeat' (first | with_reducible (first | apply eInt | apply eNil | apply idx_q0 | apply idx_q1 | apply tup01 | apply tup11 | apply add_nat1 | apply neg1 | apply eOn | apply eBool | apply eStrg | apply eV | apply eIdx | apply eBin | apply eCall | apply eCons | apply eCmp | apply eTup | apply eLen | apply eR1 | apply eR2 | apply eIl | apply eNeg | apply eOrF | apply eAndT | apply eNotT | apply eNotF | apply eVal | apply eLst | apply eSlc | apply eOs | apply eSort | apply eLr | apply eSum | apply eAbs) | exact vF rfl | exact vS rfl | exact vB rfl | exact rfl)); done)) ?_)
      have key : ∀ u l p, LI n c A u l p → u c c ≠ 0 → W (exSs Φ NN [.forS 7 (.range2 (.bin .add (.var 5) (.int 1)) (.var 1)) [.assign false 8 (.call "f_div" (.cons (.idx (.idx (.var 2) (.var 7)) (.var 5)) (.cons (.idx (.idx (.var 2) (.var 5)) (.var 5)) .nil))), .setItem2 3 (.var 7) (.var 5) (.var 8), .assign false 2 (.call "row_added" (.cons (.var 2) (.cons (.var 7) (.cons (.var 5) (.cons (.call "f_neg" (.cons (.var 8) .nil)) .nil)))))]]
          [some ⟨false, qm n n A⟩, some ⟨false, .int n⟩, some ⟨false, qm n n u⟩, some ⟨true, qm n n l⟩, some ⟨true, .list (permD n p)⟩, some ⟨false, .int c⟩, some ⟨false, .int r⟩, o 2, o 3]) (Stp J1 P1 c) := by
        intro u l p hI hp
        refine W.cons (W.forS (ds := upto (c + 1 : Nat) n) (by ((repeat' first | with_reducible (first | apply range_ok (show c + 1 ≤ 64 by exact Nat.le_trans (Nat.succ_le_of_lt (by assumption)) (by assumption)) hn') | (first | with_reducible (first | apply eInt | apply eNil | apply idx_q0 | apply idx_q1 | apply tup01 | apply tup11 | apply add_nat1 | apply neg1 | apply eOn | apply eBool | apply eStrg | apply eV | apply eIdx | apply eBin | apply eCall | apply eCons | apply eCmp | apply eTup | apply eLen | apply eR1 | apply eR2 | apply eIl | apply eNeg | apply eOrF | apply eAndT | apply eNotT | apply eNotF | apply eVal | apply eLst | apply eSlc | apply eOs | apply eSort | apply eLr | apply eSum | apply eAbs) | exact vF rfl | exact vS rfl | exact vB rfl | exact rfl)); done)) ?_)
        simp only [demote_zero, demote_succ, dm, List.set_cons_zero, List.set_cons_succ, isList, Bool.false_and, Bool.true_and]
        refine W.loopJ (I := fun i ρ => ∃ u l o7 o8, ρ = [some ⟨false, qm n n A⟩, some ⟨false, .int n⟩, some ⟨false, qm n n u⟩, some ⟨true, qm n n l⟩, some ⟨true, .list (permD n p)⟩, some ⟨false, .int c⟩, some ⟨false, .int r⟩, o7, o8] ∧ LJ n c i A u l p) rfl rfl (by assumption) ⟨u, l, _, _, rfl, hI.start hp⟩ ?_ ?_
        · rintro J2 q2 P2 r2 i ρ hi1 hi2 ⟨u, l, o7, o8, rfl, hJ⟩
          simp only [demote_zero, demote_succ, dm, List.set_cons_zero, List.set_cons_succ, isList, Bool.false_and, Bool.true_and]
          have b2 := bits2 (c := c) (by omega)
          have h3 := hJ.su i c hi2 (by assumption) (by exact Or.inr (Nat.le_refl _))
          have h4 := hJ.su c c (by assumption) (by assumption) (by exact Or.inl (Nat.le_refl _))
          have hd := call_div hD hJ.piv h3 h4 (by omega)
          have hr := call_rowadd hR u (i := i) (j := c) (k := -(u i c / u c c)) (c := bits c) (c' := bits c) hn' hn' hi2 hc ((h3.div h4 hJ.piv).neg) (fun t ht => hJ.su i t hi2 ht (by exact Or.inr (Nat.le_refl _))) (fun t ht => hJ.su c t hc ht (by exact Or.inl (Nat.le_refl _))) (by omega)
          refine W.cons (W.assign (d := qD (u i c / u c c)) (by ((repeat' first | with_reducible (first | apply idx_qm u _ hn' hi2 | apply idx_qm u _ hn' hc | apply idx_qr (u i) _ hn' hc | apply idx_qr (u c) _ hn' hc | apply hd) | (first | with_reducible (first | apply eInt | apply eNil | apply idx_q0 | apply idx_q1 | apply tup01 | apply tup11 | apply add_nat1 | apply neg1 | apply eOn | apply eBool | apply eStrg | apply eV | apply eIdx | apply eBin | apply eCall | apply eCons | apply eCmp | apply eTup | apply eLen | apply eR1 | apply eR2 | apply eIl | apply eNeg | apply eOrF | apply eAndT | apply eNotT | apply eNotF | apply eVal | apply eLst | apply eSlc | apply eOs | apply eSort | apply eLr | apply eSum | apply eAbs) | exact vF rfl | exact vS rfl | exact vB rfl | exact rfl)); done)) ?_)
          simp only [demote_zero, demote_succ, dm, List.set_cons_zero, List.set_cons_succ, isList, Bool.false_and, Bool.true_and, isList_q]
          refine W.cons (W.setItem2 (d := qD (u i c / u c c)) (n := n) (m := n) (f := fun i j => qD (l i j)) (r := i) (c := c) (m1 := .fresh) (m2 := .fresh) (by ((repeat' (first | with_reducible (first | apply eInt | apply eNil | apply idx_q0 | apply idx_q1 | apply tup01 | apply tup11 | apply add_nat1 | apply neg1 | apply eOn | apply eBool | apply eStrg | apply eV | apply eIdx | apply eBin | apply eCall | apply eCons | apply eCmp | apply eTup | apply eLen | apply eR1 | apply eR2 | apply eIl | apply eNeg | apply eOrF | apply eAndT | apply eNotT | apply eNotF | apply eVal | apply eLst | apply eSlc | apply eOs | apply eSort | apply eLr | apply eSum | apply eAbs) | exact vF rfl | exact vS rfl | exact vB rfl | exact rfl)); done)) (by ((repeat' (first | with_reducible (first | apply eInt | apply eNil | apply idx_q0 | apply idx_q1 | apply tup01 | apply tup11 | apply add_nat1 | apply neg1 | apply eOn | apply eBool | apply eStrg | apply eV | apply eIdx | apply eBin | apply eCall | apply eCons | apply eCmp | apply eTup | apply eLen | apply eR1 | apply eR2 | apply eIl | apply eNeg | apply eOrF | apply eAndT | apply eNotT | apply eNotF | apply eVal | apply eLst | apply eSlc | apply eOs | apply eSort | apply eLr | apply eSum | apply eAbs) | exact vF rfl | exact vS rfl | exact vB rfl | exact rfl)); done)) (by ((repeat' (first | with_reducible (first | apply eInt | apply eNil | apply idx_q0 | apply idx_q1 | apply tup01 | apply tup11 | apply add_nat1 | apply neg1 | apply eOn | apply eBool | apply eStrg | apply eV | apply eIdx | apply eBin | apply eCall | apply eCons | apply eCmp | apply eTup | apply eLen | apply eR1 | apply eR2 | apply eIl | apply eNeg | apply eOrF | apply eAndT | apply eNotT | apply eNotF | apply eVal | apply eLst | apply eSlc | apply eOs | apply eSort | apply eLr | apply eSum | apply eAbs) | exact vF rfl | exact vS rfl | exact vB rfl | exact rfl)); done)) rfl rfl hi2 hc hn' hn' ?_)
          simp only [demote_zero, demote_succ, dm, List.set_cons_zero, List.set_cons_succ, isList, Bool.false_and, Bool.true_and, updM_q]
          refine W.cons (W.assign (d := qm n n (addF u i c (-(u i c / u c c)))) (by ((repeat' first | with_reducible (first | apply call_neg hN | apply hr) | (first | with_reducible (first | apply eInt | apply eNil | apply idx_q0 | apply idx_q1 | apply tup01 | apply tup11 | apply add_nat1 | apply neg1 | apply eOn | apply eBool | apply eStrg | apply eV | apply eIdx | apply eBin | apply eCall | apply eCons | apply eCmp | apply eTup | apply eLen | apply eR1 | apply eR2 | apply eIl | apply eNeg | apply eOrF | apply eAndT | apply eNotT | apply eNotF | apply eVal | apply eLst | apply eSlc | apply eOs | apply eSort | apply eLr | apply eSum | apply eAbs) | exact vF rfl | exact vS rfl | exact vB rfl | exact rfl)); done)) ?_)
          simp only [demote_zero, demote_succ, dm, List.set_cons_zero, List.set_cons_succ, isList, Bool.false_and, Bool.true_and]
          exact W.nil (q2 _ _ ⟨_, _, _, _, rfl, hJ.step hn (by assumption) hi2⟩)
        · rintro ρ ⟨u, l, o7, o8, rfl, hJ⟩
          exact W.nil (q1 _ _ ⟨u, l, p, fun i => ([_, _, _, _] : Rho).getD i none, rfl, hJ.done⟩)
      by_cases hrc : r = c
      · subst hrc
        refine W.cons (W.skip (by ((repeat' (first | with_reducible (first | apply eInt | apply eNil | apply idx_q0 | apply idx_q1 | apply tup01 | apply tup11 | apply add_nat1 | apply neg1 | apply eOn | apply eBool | apply eStrg | apply eV | apply eIdx | apply eBin | apply eCall | apply eCons | apply eCmp | apply eTup | apply eLen | apply eR1 | apply eR2 | apply eIl | apply eNeg | apply eOrF | apply eAndT | apply eNotT | apply eNotF | apply eVal | apply eLst | apply eSlc | apply eOs | apply eSort | apply eLr | apply eSum | apply eAbs) | exact vF rfl | exact vS rfl | exact vB rfl | exact rfl)) <;> simp only [cmp_eq_int, cmp_ne_int, cmp_lt_int, cmp_gt_int, cast_ne_neg1, cast_eq, decide_true, decide_false, Bool.not_true, Bool.not_false])) ?_)
        exact key u l p hI hnz
      · refine W.cons (W.iteT (by ((repeat' first | with_reducible (first | apply hrc) | (first | with_reducible (first | apply eInt | apply eNil | apply idx_q0 | apply idx_q1 | apply tup01 | apply tup11 | apply add_nat1 | apply neg1 | apply eOn | apply eBool | apply eStrg | apply eV | apply eIdx | apply eBin | apply eCall | apply eCons | apply eCmp | apply eTup | apply eLen | apply eR1 | apply eR2 | apply eIl | apply eNeg | apply eOrF | apply eAndT | apply eNotT | apply eNotF | apply eVal | apply eLst | apply eSlc | apply eOs | apply eSort | apply eLr | apply eSum | apply eAbs) | exact vF rfl | exact vS rfl | exact vB rfl | exact rfl)) <;> simp only [cmp_eq_int, cmp_ne_int, cmp_lt_int, cmp_gt_int, cast_ne_neg1, cast_eq, decide_true, decide_false, Bool.not_true, Bool.not_false, hrc])) ?_)
        refine W.cons (W.assign (d := qm n n (swapF u c r)) (by ((repeat' first | with_reducible (first | apply call_swap hS u hn' hn' hc hrn) | (first | with_reducible (first | apply eInt | apply eNil | apply idx_q0 | apply idx_q1 | apply tup01 | apply tup11 | apply add_nat1 | apply neg1 | apply eOn | apply eBool | apply eStrg | apply eV | apply eIdx | apply eBin | apply eCall | apply eCons | apply eCmp | apply eTup | apply eLen | apply eR1 | apply eR2 | apply eIl | apply eNeg | apply eOrF | apply eAndT | apply eNotT | apply eNotF | apply eVal | apply eLst | apply eSlc | apply eOs | apply eSort | apply eLr | apply eSum | apply eAbs) | exact vF rfl | exact vS rfl | exact vB rfl | exact rfl)); done)) ?_)
        simp only [demote_zero, demote_succ, dm, List.set_cons_zero, List.set_cons_succ, isList, Bool.false_and, Bool.true_and]
        refine W.cons (W.assign (d := qm n n (swapF l c r)) (by ((repeat' first | with_reducible (first | apply call_swap hS l hn' hn' hc hrn) | (first | with_reducible (first | apply eInt | apply eNil | apply idx_q0 | apply idx_q1 | apply tup01 | apply tup11 | apply add_nat1 | apply neg1 | apply eOn | apply eBool | apply eStrg | apply eV | apply eIdx | apply eBin | apply eCall | apply eCons | apply eCmp | apply eTup | apply eLen | apply eR1 | apply eR2 | apply eIl | apply eNeg | apply eOrF | apply eAndT | apply eNotT | apply eNotF | apply eVal | apply eLst | apply eSlc | apply eOs | apply eSort | apply eLr | apply eSum | apply eAbs) | exact vF rfl | exact vS rfl | exact vB rfl | exact rfl)); done)) ?_)
        simp only [demote_zero, demote_succ, dm, List.set_cons_zero, List.set_cons_succ, isList, Bool.false_and, Bool.true_and, isList_qm]
        refine W.cons (W.swapV (n := n) (p := p) (c := c) (r := r) (by ((repeat' first | with_reducible (first | apply idx_perm p _ _ hn' hrn) | (first | with_reducible (first | apply eInt | apply eNil | apply idx_q0 | apply idx_q1 | apply tup01 | apply tup11 | apply add_nat1 | apply neg1 | apply eOn | apply eBool | apply eStrg | apply eV | apply eIdx | apply eBin | apply eCall | apply eCons | apply eCmp | apply eTup | apply eLen | apply eR1 | apply eR2 | apply eIl | apply eNeg | apply eOrF | apply eAndT | apply eNotT | apply eNotF | apply eVal | apply eLst | apply eSlc | apply eOs | apply eSort | apply eLr | apply eSum | apply eAbs) | exact vF rfl | exact vS rfl | exact vB rfl | exact rfl)); done)) (by ((repeat' first | with_reducible (first | apply idx_perm p _ _ hn' hc) | (first | with_reducible (first | apply eInt | apply eNil | apply idx_q0 | apply idx_q1 | apply tup01 | apply tup11 | apply add_nat1 | apply neg1 | apply eOn | apply eBool | apply eStrg | apply eV | apply eIdx | apply eBin | apply eCall | apply eCons | apply eCmp | apply eTup | apply eLen | apply eR1 | apply eR2 | apply eIl | apply eNeg | apply eOrF | apply eAndT | apply eNotT | apply eNotF | apply eVal | apply eLst | apply eSlc | apply eOs | apply eSort | apply eLr | apply eSum | apply eAbs) | exact vF rfl | exact vS rfl | exact vB rfl | exact rfl)); done)) (by ((repeat' (first | with_reducible (first | apply eInt | apply eNil | apply idx_q0 | apply idx_q1 | apply tup01 | apply tup11 | apply add_nat1 | apply neg1 | apply eOn | apply eBool | apply eStrg | apply eV | apply eIdx | apply eBin | apply eCall | apply eCons | apply eCmp | apply eTup | apply eLen | apply eR1 | apply eR2 | apply eIl | apply eNeg | apply eOrF | apply eAndT | apply eNotT | apply eNotF | apply eVal | apply eLst | apply eSlc | apply eOs | apply eSort | apply eLr | apply eSum | apply eAbs) | exact vF rfl | exact vS rfl | exact vB rfl | exact rfl)); done)) rfl (fun s => by ((repeat' (first | with_reducible (first | apply eInt | apply eNil | apply idx_q0 | apply idx_q1 | apply tup01 | apply tup11 | apply add_nat1 | apply neg1 | apply eOn | apply eBool | apply eStrg | apply eV | apply eIdx | apply eBin | apply eCall | apply eCons | apply eCmp | apply eTup | apply eLen | apply eR1 | apply eR2 | apply eIl | apply eNeg | apply eOrF | apply eAndT | apply eNotT | apply eNotF | apply eVal | apply eLst | apply eSlc | apply eOs | apply eSort | apply eLr | apply eSum | apply eAbs) | exact vF rfl | exact vS rfl | exact vB rfl | exact rfl)); done)) hc hrn hn' ?_)
        simp only [demote_zero, demote_succ, dm, List.set_cons_zero, List.set_cons_succ, isList, Bool.false_and, Bool.true_and]
        refine W.nil (key _ _ _ (hI.swap hn (by omega) hrn) ?_)
        unfold swapF
        rw [if_neg (by omega), if_pos rfl]
        exact hnz
  · rintro ρ ⟨u, l, p, o, rfl, hI⟩
    refine W.cons (W.forS (ds := upto 0 n) (by ((repeat' first | with_reducible (first | apply range0_ok hn') | (first | with_reducible (first | apply eInt | apply eNil | apply idx_q0 | apply idx_q1 | apply tup01 | apply tup11 | apply add_nat1 | apply neg1 | apply eOn | apply eBool | apply eStrg | apply eV | apply eIdx | apply eBin | apply eCall | apply eCons | apply eCmp | apply eTup | apply eLen | apply eR1 | apply eR2 | apply eIl | apply eNeg | apply eOrF | apply eAndT | apply eNotT | apply eNotF | apply eVal | apply eLst | apply eSlc | apply eOs | apply eSort | apply eLr | apply eSum | apply eAbs) | exact vF rfl | exact vS rfl | exact vB rfl | exact rfl)); done)) ?_)
    simp only [demote_zero, demote_succ, dm, List.set_cons_zero, List.set_cons_succ, isList, Bool.false_and, Bool.true_and]
    refine W.loopJ (I := fun i ρ => ∃ h o7, ρ = [some ⟨false, qm n n A⟩, some ⟨false, .int n⟩, some ⟨false, qm n n u⟩, some ⟨true, qm n n h⟩, some ⟨true, .list (permD n p)⟩, o 0, o 1, o7, o 3] ∧ ∀ r c, r < n → c < n → h r c = if r = c ∧ r < i then 1 else l r c) rfl rfl (Nat.zero_le _) ⟨l, _, rfl, fun r c _ _ => by rw [if_neg (by omega)]⟩ ?_ ?_
    · rintro J2 q2 P2 r2 i ρ - hi ⟨h, o7, rfl, hJ⟩
      simp only [demote_zero, demote_succ, dm, List.set_cons_zero, List.set_cons_succ, isList, Bool.false_and, Bool.true_and]
      refine W.cons (W.setItem2 (d := qD 1) (n := n) (m := n) (f := fun i j => qD (h i j)) (r := i) (c := i) (m1 := .fresh) (m2 := .fresh) (by ((repeat' (first | with_reducible (first | apply eInt | apply eNil | apply idx_q0 | apply idx_q1 | apply tup01 | apply tup11 | apply add_nat1 | apply neg1 | apply eOn | apply eBool | apply eStrg | apply eV | apply eIdx | apply eBin | apply eCall | apply eCons | apply eCmp | apply eTup | apply eLen | apply eR1 | apply eR2 | apply eIl | apply eNeg | apply eOrF | apply eAndT | apply eNotT | apply eNotF | apply eVal | apply eLst | apply eSlc | apply eOs | apply eSort | apply eLr | apply eSum | apply eAbs) | exact vF rfl | exact vS rfl | exact vB rfl | exact rfl)); done)) (by ((repeat' (first | with_reducible (first | apply eInt | apply eNil | apply idx_q0 | apply idx_q1 | apply tup01 | apply tup11 | apply add_nat1 | apply neg1 | apply eOn | apply eBool | apply eStrg | apply eV | apply eIdx | apply eBin | apply eCall | apply eCons | apply eCmp | apply eTup | apply eLen | apply eR1 | apply eR2 | apply eIl | apply eNeg | apply eOrF | apply eAndT | apply eNotT | apply eNotF | apply eVal | apply eLst | apply eSlc | apply eOs | apply eSort | apply eLr | apply eSum | apply eAbs) | exact vF rfl | exact vS rfl | exact vB rfl | exact rfl)); done)) (by ((repeat' (first | with_reducible (first | apply eInt | apply eNil | apply idx_q0 | apply idx_q1 | apply tup01 | apply tup11 | apply add_nat1 | apply neg1 | apply eOn | apply eBool | apply eStrg | apply eV | apply eIdx | apply eBin | apply eCall | apply eCons | apply eCmp | apply eTup | apply eLen | apply eR1 | apply eR2 | apply eIl | apply eNeg | apply eOrF | apply eAndT | apply eNotT | apply eNotF | apply eVal | apply eLst | apply eSlc | apply eOs | apply eSort | apply eLr | apply eSum | apply eAbs) | exact vF rfl | exact vS rfl | exact vB rfl | exact rfl)); done)) rfl rfl hi hi hn' hn' ?_)
      simp only [demote_zero, demote_succ, dm, List.set_cons_zero, List.set_cons_succ, isList, Bool.false_and, Bool.true_and, updM_q]
      refine W.nil (q2 _ _ ⟨_, _, rfl, fun r c hr hc => ?_⟩)
      unfold updM
      by_cases e : r = i ∧ c = i
      · rw [if_pos e, if_pos (by omega)]
      · rw [if_neg e, hJ r c hr hc]
        have : (r = c ∧ r < i + 1) ↔ (r = c ∧ r < i) := by omega
        simp only [this]
    · rintro ρ ⟨h, o7, rfl, hJ⟩
      have e1 : qm n n h = qm n n (lowF l) := qm_ext fun i j hi hj => by
        rw [hJ i j hi hj]
        unfold lowF
        have : (i = j ∧ i < n) ↔ i = j := by omega
        simp only [this]
      refine W.cons (W.ret (d := .tuple [.list (permD n p), qm n n h, qm n n u]) (m := .fresh) (by ((repeat' (first | with_reducible (first | apply eInt | apply eNil | apply idx_q0 | apply idx_q1 | apply tup01 | apply tup11 | apply add_nat1 | apply neg1 | apply eOn | apply eBool | apply eStrg | apply eV | apply eIdx | apply eBin | apply eCall | apply eCons | apply eCmp | apply eTup | apply eLen | apply eR1 | apply eR2 | apply eIl | apply eNeg | apply eOrF | apply eAndT | apply eNotT | apply eNotF | apply eVal | apply eLst | apply eSlc | apply eOs | apply eSort | apply eLr | apply eSum | apply eAbs) | exact vF rfl | exact vS rfl | exact vB rfl | exact rfl)); done)) (by decide) ⟨u, l, p, by rw [e1]; rfl, hI⟩)
theorem lu_run {Φ : Tab} (hC : SCopy Φ) (hP : SPiv Φ) (hS : SSwap Φ) (hN : SNeg Φ) (hD : SDiv Φ) (hR : SRowAdd Φ) : SLu (runN Φ) := fun n A hn hz => by
  obtain ⟨o, e, u, l, p, rfl, h⟩ := lu_body Φ hC hP hS hN hD hR n A hn hz
  exact ⟨u, l, p, run_of (f := ⟨"lu_of", ["m"], ["n", "up", "low", "perm", "c", "found", "i", "k"], mb_lu_of⟩) rfl ⟨_, e, rfl⟩, h⟩


noncomputable def castM (f : Nat → Nat → Int) : Nat → Nat → Rat := fun i j => (f i j : Rat)
theorem det_cast {n : Nat} (hn : n ≤ 3) (f : Nat → Nat → Int) : detQ n (castM f) = (detI n f : Rat) := by
  rcases n4 hn with rfl | rfl | rfl | rfl <;> simp [detQ, detI, castM, Rat.intCast_mul, Rat.intCast_sub, Rat.intCast_add]
theorem cast_sz {x : Int} (h : x.natAbs < 2 ^ 8) : Sz 8 (x : Rat) := ⟨h, by simp⟩

theorem W.unpack3 {Φ : Tab} {N : Nat} {Q : Out → Prop} {k : Rho → Prop} {ρ : Rho} {x y z : Nat} {e : ME} {a b c : D} (he : evE Φ e ρ = .some (.tuple [a, b, c], .fresh)) (hxy : x ≠ y) (hyz : y ≠ z) (hxz : x ≠ z) (h : k (((ρ.set x (.some ⟨false, a⟩)).set y (.some ⟨false, b⟩)).set z (.some ⟨false, c⟩))) : W (exS Φ N (.unpack3 x y z e) ρ) (Nx Q k) :=
  ⟨.next _, by rw [exS, he]; simp [hxy, hyz, hxz], h⟩

theorem sort_as {xs ys : List Int} (hp : xs.Perm ys) (hs : ys.Pairwise fun a b => decide (a ≤ b) = true) : xs.mergeSort (fun a b => decide (a ≤ b)) = ys := by
  refine List.Perm.eq_of_pairwise (le := fun a b => decide (a ≤ b) = true) ?_ (List.pairwise_mergeSort (fun a b c h1 h2 => ?_) (fun a b => ?_) xs) hs ((List.mergeSort_perm xs _).trans hp)
  · intro a b _ _ h1 h2
    exact Int.le_antisymm (of_decide_eq_true h1) (of_decide_eq_true h2)
  · exact decide_eq_true (Int.le_trans (of_decide_eq_true h1) (of_decide_eq_true h2))
  · rw [Bool.or_eq_true]
    exact (Int.le_total a b).imp (fun h => decide_eq_true h) fun h => decide_eq_true h
theorem sort_ok {n : Nat} {p : Nat → Nat} (h : PermOK n p) (hn : n ≤ 3) : sortedD (.list (permD n p), .shared) = some (.list (pivD (List.range n)), .fresh) := by
  have hi : intsOf (permD n p) = some (tab n fun i => (p i : Int)) := intsOf_tab n fun i => (p i : Int)
  unfold sortedD
  simp only
  rw [if_neg (by unfold permD; rw [tab_length]; simp; exact Nat.le_trans (by assumption) (by decide)), hi]
  simp only
  congr 3
  have key : (tab n fun i => (p i : Int)).mergeSort (fun a b => decide (a ≤ b)) = (List.range n).map fun (i : Nat) => (i : Int) := by
    rcases n4 hn with rfl | rfl | rfl | rfl
    · exact sort_as (.refl _) (by decide)
    · have h0 := h.lt 0 (by exact Nat.le_refl _)
      have : p 0 = 0 := by omega
      rw [tab_one, this]; exact sort_as (.refl _) (by decide)
    · have h0 := h.lt 0 (by exact Nat.le_of_lt_succ (by assumption)); have h1 := h.lt 1 (by exact Nat.le_refl _)
      have h01 : p 0 ≠ p 1 := fun e => by have := h.inj 0 1 (by exact Nat.le_of_lt_succ (by assumption)) (by exact Nat.le_refl _) e; omega
      rw [tab_two]
      rcases n2 h0 with a | a <;> rcases n2 h1 with b | b <;> first
        | exact absurd (a.trans b.symm) h01
        | (rw [a, b]; exact sort_as (by decide) (by decide))
    · have h0 := h.lt 0 (by exact Nat.le_add_left _ _); have h1 := h.lt 1 (by exact Nat.le_of_lt (by assumption)); have h2 := h.lt 2 (by assumption)
      have h01 : p 0 ≠ p 1 := fun e => by have := h.inj 0 1 (by exact Nat.le_add_left _ _) (by exact Nat.le_of_lt (by assumption)) e; omega
      have h02 : p 0 ≠ p 2 := fun e => by have := h.inj 0 2 (by exact Nat.le_add_left _ _) (by assumption) e; omega
      have h12 : p 1 ≠ p 2 := fun e => by have := h.inj 1 2 (by exact Nat.le_of_lt (by assumption)) (by assumption) e; omega
      rw [tab_three]
      rcases n3 h0 with a | a | a <;> rcases n3 h1 with b | b | b <;> rcases n3 h2 with c | c | c <;> first
        | exact absurd (a.trans b.symm) h01
        | exact absurd (a.trans c.symm) h02
        | exact absurd (b.trans c.symm) h12
        | (rw [a, b, c]; exact sort_as (by decide) (by decide))
  rw [key]
  simp [pivD]

theorem sm_low {n i : Nat} {g : Nat → Rat} (hi : i < n) (h : ∀ k, i < k → k < n → g k = 0) : sm n g = sm i g + g i := by
  induction n with
  | zero => omega
  | succ n ih =>
    rw [sm]
    by_cases e : i = n
    · rw [e]
    · rw [ih (by omega) fun k h1 h2 => h k h1 (by exact Nat.lt_succ_of_lt (by assumption)), h n (by omega) (by exact Nat.le_refl _)]
      grind
theorem LI.prod {n : Nat} {A u l : Nat → Nat → Rat} {p : Nat → Nat} (h : LI n n A u l p) {i j : Nat} (hi : i < n) (hj : j < n) : sm n (fun k => lowF l i k * u k j) = A (p i) j := by
  rw [sm_low hi fun k h1 h2 => by unfold lowF; rw [if_neg (by exact Nat.ne_of_lt (by assumption)), h.lz i k hi h2 (.inr (by exact Nat.le_of_lt (by assumption)))]; grind]
  rw [h.rel i j hi hj, Nat.min_eq_left (Nat.le_of_lt hi)]
  have e1 : sm i (fun k => lowF l i k * u k j) = sm i (fun k => l i k * u k j) := sm_ext fun k hk => by unfold lowF; rw [if_neg (by exact Nat.ne_of_gt (by assumption))]
  rw [e1]
  simp only [lowF, if_true]
  grind
noncomputable def ovr (u : Nat → Nat → Rat) : Nat → Int
  | 0 => 1
  | k + 1 => ovr u k * (u k k).num
noncomputable def und (u : Nat → Nat → Rat) : Nat → Int
  | 0 => 1
  | k + 1 => und u k * (u k k).den
theorem num_eq (x : Rat) : (x.num : Rat) = x * ((x.den : Int) : Rat) := by
  have h := Rat.num_divInt_den x
  rw [Rat.divInt_eq_div] at h
  have hd : (((x.den : Nat) : Int) : Rat) ≠ 0 := by
    intro e
    rw [Rat.intCast_eq_zero_iff] at e
    exact den_ne x e
  have := Rat.div_mul_cancel (a := (x.num : Rat)) hd
  rw [← this]
  congr 1
theorem ovr_und (u : Nat → Nat → Rat) : ∀ k, (ovr u k : Rat) = prodD u k * (und u k : Rat)
  | 0 => by simp [ovr, prodD, und]
  | k + 1 => by
    rw [ovr, und, prodD, Rat.intCast_mul, Rat.intCast_mul, ovr_und u k, num_eq]
    grind
theorem ovr_sz {n : Nat} {u : Nat → Nat → Rat} (h : ∀ i j, i < n → j < n → Sz 554 (u i j)) : ∀ k, k ≤ n → (ovr u k).natAbs < 2 ^ (1 + 554 * k) ∧ (und u k).natAbs < 2 ^ (1 + 554 * k)
  | 0, _ => ⟨by show (1 : Int).natAbs < 2 ^ 1; decide, by show (1 : Int).natAbs < 2 ^ 1; decide⟩
  | k + 1, hk => by
    obtain ⟨h1, h2⟩ := ovr_sz h k (by exact Nat.le_of_lt (by assumption))
    have hk' := h k k (by assumption) (by assumption)
    exact ⟨up_sz (mul_sz h1 hk'.1) (by exact Nat.le_refl _), up_sz (mul_sz h2 hk'.den) (by exact Nat.le_refl _)⟩

noncomputable def SLuH (Φ : Tab) : Prop := ∀ n (f : Nat → Nat → Int), n ≤ 3 → (∀ i j, i < n → j < n → (f i j).natAbs < 2 ^ 8) → Φ "_law_lu_holds" [im n n f, qm n n (castM f), .int (detI n f)] = some (.bool true, true)

theorem ok_ints (n : Nat) (v : Nat → Int) : cmpD.SeqAtOk (.list (tab n fun i => .int (v i))) = true := by
  unfold cmpD.SeqAtOk
  rw [Bool.and_eq_true, decide_eq_true_eq]
  constructor
  · rw [PyData.canLay0]
    refine canAll fun d hd => ?_
    obtain ⟨i, _, rfl⟩ := mem_tab hd
    rfl
  · rw [PyData.depth]
    have : PyData.depthAll (tab n fun i => PyData.int (v i)) ≤ 0 := depthAll_le fun d hd => by
      obtain ⟨i, _, rfl⟩ := mem_tab hd
      exact Nat.le_refl _
    omega
theorem lst1i (x : Int) : lstD [(.int x, .fresh)] = some (.list [.int x], .fresh) := rfl
theorem flat1i (x : Int) : flatMode [.int x] = .fresh := rfl
theorem lens_ok {Φ : Tab} {n m : Nat} {g : Nat → Nat → Rat} {ρ : Rho} {x y : Nat} (hn : n ≤ 64) (hm : m ≤ 64) (hx : ρ[x]? = some (some ⟨false, qm n m g⟩)) (hy : y = ρ.length) : evE Φ (.comp (.lst (.var x)) (.len (.var y))) ρ = some (.list (tab n fun _ => .int m), .fresh) := by
  refine comp_tab (g := fun i => .list (tab m fun j => qD (g i j))) (le_lim (by assumption)) ?_ fun i hi => ?_
  · rw [evI, evE, hx]
    exact list_mat _ hn
  · rw [evE, evE]
    have : (innerR ρ ++ [some ⟨false, .list (tab m fun j => qD (g i j))⟩])[y]? = some (some ⟨false, .list (tab m fun j => qD (g i j))⟩) := by
      subst hy
      have : ρ.length = (innerR ρ).length := by unfold innerR; rw [List.length_map]
      rw [this]
      simp
    rw [this]
    simp only [vm_list, len_tab _ _ hm]

theorem luh_body (Φ : Tab) (hL : SLu Φ) (hE : SExact Φ) (hQ : SPair Φ) (n : Nat) (f : Nat → Nat → Int) (hn : n ≤ 3) (hz : ∀ i j, i < n → j < n → (f i j).natAbs < 2 ^ 8) :
    W (exSs Φ NN mb__law_lu_holds (slots [im n n f, qm n n (castM f), .int (detI n f)] 15)) (· = .ret (.bool true) true) := by
  have hn' : n ≤ 64 := by exact Nat.le_trans (by assumption) (by decide)
  obtain ⟨u, l, p, hlu, H⟩ := hL n (castM f) hn fun i j hi hj => cast_sz (hz i j hi hj)
  have su : ∀ i j, i < n → j < n → Sz 554 (u i j) := fun i j hi hj => (H.su i j hi hj).mono (bits3 hn)
  have sl : ∀ i j, i < n → j < n → Sz 554 (lowF l i j) := fun i j hi hj => by
    unfold lowF
    split
    · exact Sz.mono (b := 8) ⟨by decide, by decide⟩ (by decide)
    · exact (H.sl i j hi hj).mono (bits3 hn)
  delta mb__law_lu_holds; simp only [List.map_cons, List.map_nil, List.cons_append, List.nil_append, List.replicate, slots]
  refine W.cons (W.assign (d := .int n) (by ((repeat' first | with_reducible (first | apply len_im f _ hn') | (first | with_reducible (first | apply eInt | apply eNil | apply idx_q0 | apply idx_q1 | apply tup01 | apply tup11 | apply add_nat1 | apply neg1 | apply eOn | apply eBool | apply eStrg | apply eV | apply eIdx | apply eBin | apply eCall | apply eCons | apply eCmp | apply eTup | apply eLen | apply eR1 | apply eR2 | apply eIl | apply eNeg | apply eOrF | apply eAndT | apply eNotT | apply eNotF | apply eVal | apply eLst | apply eSlc | apply eOs | apply eSort | apply eLr | apply eSum | apply eAbs) | exact vF rfl | exact vS rfl | exact vB rfl | exact rfl)); done)) ?_)
  simp only [demote_zero, demote_succ, dm, List.set_cons_zero, List.set_cons_succ, isList, Bool.false_and, Bool.true_and]
  have hc : callD Φ "lu_of" [(qm n n (castM f), .shared)] = some (.tuple [.list (permD n p), qm n n (lowF l), qm n n u], .fresh) := call_ok hlu rfl
  refine W.cons (W.unpack3 (a := .list (permD n p)) (b := qm n n (lowF l)) (c := qm n n u) (by ((repeat' first | with_reducible (first | apply hc) | (first | with_reducible (first | apply eInt | apply eNil | apply idx_q0 | apply idx_q1 | apply tup01 | apply tup11 | apply add_nat1 | apply neg1 | apply eOn | apply eBool | apply eStrg | apply eV | apply eIdx | apply eBin | apply eCall | apply eCons | apply eCmp | apply eTup | apply eLen | apply eR1 | apply eR2 | apply eIl | apply eNeg | apply eOrF | apply eAndT | apply eNotT | apply eNotF | apply eVal | apply eLst | apply eSlc | apply eOs | apply eSort | apply eLr | apply eSum | apply eAbs) | exact vF rfl | exact vS rfl | exact vB rfl | exact rfl)); done)) (by decide) (by decide) (by decide) ?_)
  simp only [demote_zero, demote_succ, dm, List.set_cons_zero, List.set_cons_succ, isList, Bool.false_and, Bool.true_and]
  refine W.cons (W.skip (by ((repeat' first | with_reducible (first | apply sort_ok H.perm hn | apply lrange_ok hn' | apply cmp_ne_piv) | (first | with_reducible (first | apply eInt | apply eNil | apply idx_q0 | apply idx_q1 | apply tup01 | apply tup11 | apply add_nat1 | apply neg1 | apply eOn | apply eBool | apply eStrg | apply eV | apply eIdx | apply eBin | apply eCall | apply eCons | apply eCmp | apply eTup | apply eLen | apply eR1 | apply eR2 | apply eIl | apply eNeg | apply eOrF | apply eAndT | apply eNotT | apply eNotF | apply eVal | apply eLst | apply eSlc | apply eOs | apply eSort | apply eLr | apply eSum | apply eAbs) | exact vF rfl | exact vS rfl | exact vB rfl | exact rfl)) <;> simp only [cmp_eq_int, cmp_ne_int, cmp_lt_int, cmp_gt_int, cast_ne_neg1, cast_eq, decide_true, decide_false, Bool.not_true, Bool.not_false, sort_ok H.perm hn, lrange_ok hn', cmp_ne_piv])) ?_)
  refine W.cons (W.skip ?_ ?_)
  · ((repeat' first | with_reducible (first | apply lens_ok hn' hn' | apply lst1i | apply rep_ok (show Mode.fresh ≠ .borrow by decide) hn' | apply cmp_ne_self (ok_ints n fun _ => (n : Int))) | (first | with_reducible (first | apply eInt | apply eNil | apply idx_q0 | apply idx_q1 | apply tup01 | apply tup11 | apply add_nat1 | apply neg1 | apply eOn | apply eBool | apply eStrg | apply eV | apply eIdx | apply eBin | apply eCall | apply eCons | apply eCmp | apply eTup | apply eLen | apply eR1 | apply eR2 | apply eIl | apply eNeg | apply eOrF | apply eAndT | apply eNotT | apply eNotF | apply eVal | apply eLst | apply eSlc | apply eOs | apply eSort | apply eLr | apply eSum | apply eAbs) | exact vF rfl | exact vS rfl | exact vB rfl | exact rfl)); done)
  refine W.cons (W.unpack3 (a := .int 1) (b := .int 1) (c := .int 1) (by ((repeat' (first | with_reducible (first | apply eInt | apply eNil | apply idx_q0 | apply idx_q1 | apply tup01 | apply tup11 | apply add_nat1 | apply neg1 | apply eOn | apply eBool | apply eStrg | apply eV | apply eIdx | apply eBin | apply eCall | apply eCons | apply eCmp | apply eTup | apply eLen | apply eR1 | apply eR2 | apply eIl | apply eNeg | apply eOrF | apply eAndT | apply eNotT | apply eNotF | apply eVal | apply eLst | apply eSlc | apply eOs | apply eSort | apply eLr | apply eSum | apply eAbs) | exact vF rfl | exact vS rfl | exact vB rfl | exact rfl)); done)) (by decide) (by decide) (by decide) ?_)
  simp only [demote_zero, demote_succ, dm, List.set_cons_zero, List.set_cons_succ, isList, Bool.false_and, Bool.true_and]
  refine W.cons (W.forS (ds := upto 0 n) (by ((repeat' first | with_reducible (first | apply range0_ok hn') | (first | with_reducible (first | apply eInt | apply eNil | apply idx_q0 | apply idx_q1 | apply tup01 | apply tup11 | apply add_nat1 | apply neg1 | apply eOn | apply eBool | apply eStrg | apply eV | apply eIdx | apply eBin | apply eCall | apply eCons | apply eCmp | apply eTup | apply eLen | apply eR1 | apply eR2 | apply eIl | apply eNeg | apply eOrF | apply eAndT | apply eNotT | apply eNotF | apply eVal | apply eLst | apply eSlc | apply eOs | apply eSort | apply eLr | apply eSum | apply eAbs) | exact vF rfl | exact vS rfl | exact vB rfl | exact rfl)); done)) ?_)
  simp only [demote_zero, demote_succ, dm, List.set_cons_zero, List.set_cons_succ, isList, Bool.false_and, Bool.true_and]
  refine W.loopJ (I := fun i ρ => ∃ o : Nat → Option Slot, ρ = [some ⟨false, im n n f⟩, some ⟨false, qm n n (castM f)⟩, some ⟨false, .int (detI n f)⟩, some ⟨false, .int n⟩, some ⟨false, .list (permD n p)⟩, some ⟨false, qm n n (lowF l)⟩, some ⟨false, qm n n u⟩, some ⟨false, .int (sgAll p i)⟩, some ⟨false, .int (ovr u i)⟩, some ⟨false, .int (und u i)⟩, o 0, o 1, o 2, o 3, o 4, o 5, o 6, none]) rfl rfl (Nat.zero_le _)
    ⟨fun _ => none, rfl⟩ ?_ ?_
  · rintro J1 q1 P1 r1 i ρ - hi ⟨o, rfl⟩
    simp only [demote_zero, demote_succ, dm, List.set_cons_zero, List.set_cons_succ, isList, Bool.false_and, Bool.true_and]
    obtain ⟨so, sn⟩ := ovr_sz su i (by exact Nat.le_of_lt (by assumption))
    have m1 := mul_ok (m := .fresh) (m' := .fresh) (big_of so (by omega)) (big_of (su i i hi hi).1 (by decide))
    have m2 := mul_ok (m := .fresh) (m' := .fresh) (big_of sn (by omega)) (big_of (su i i hi hi).den (by decide))
    refine W.cons (W.unpack2 (a := .int (ovr u (i + 1))) (b := .int (und u (i + 1))) (by ((repeat' first | with_reducible (first | apply idx_qm u _ hn' hi | apply idx_qr (u i) _ hn' hi | apply m1 | apply m2) | (first | with_reducible (first | apply eInt | apply eNil | apply idx_q0 | apply idx_q1 | apply tup01 | apply tup11 | apply add_nat1 | apply neg1 | apply eOn | apply eBool | apply eStrg | apply eV | apply eIdx | apply eBin | apply eCall | apply eCons | apply eCmp | apply eTup | apply eLen | apply eR1 | apply eR2 | apply eIl | apply eNeg | apply eOrF | apply eAndT | apply eNotT | apply eNotF | apply eVal | apply eLst | apply eSlc | apply eOs | apply eSort | apply eLr | apply eSum | apply eAbs) | exact vF rfl | exact vS rfl | exact vB rfl | exact rfl)); done)) (by decide) ?_)
    simp only [demote_zero, demote_succ, dm, List.set_cons_zero, List.set_cons_succ, isList, Bool.false_and, Bool.true_and]
    have lii : lowF l i i = 1 := by unfold lowF; rw [if_pos rfl]
    refine W.cons (W.skip (by ((repeat' first | with_reducible (first | apply idx_qm (lowF l) _ hn' hi | apply idx_qr (lowF l i) _ hn' hi | apply cmp_ne_q | apply lii) | (first | with_reducible (first | apply eInt | apply eNil | apply idx_q0 | apply idx_q1 | apply tup01 | apply tup11 | apply add_nat1 | apply neg1 | apply eOn | apply eBool | apply eStrg | apply eV | apply eIdx | apply eBin | apply eCall | apply eCons | apply eCmp | apply eTup | apply eLen | apply eR1 | apply eR2 | apply eIl | apply eNeg | apply eOrF | apply eAndT | apply eNotT | apply eNotF | apply eVal | apply eLst | apply eSlc | apply eOs | apply eSort | apply eLr | apply eSum | apply eAbs) | exact vF rfl | exact vS rfl | exact vB rfl | exact rfl)) <;> simp only [cmp_eq_int, cmp_ne_int, cmp_lt_int, cmp_gt_int, cast_ne_neg1, cast_eq, decide_true, decide_false, Bool.not_true, Bool.not_false, idx_qm (lowF l) _ hn' hi, idx_qr (lowF l i) _ hn' hi, cmp_ne_q, lii])) ?_)
    refine W.cons (W.forS (ds := upto 0 i) (by ((repeat' first | with_reducible (first | apply range0_ok (show i ≤ 64 by exact Nat.le_of_lt (Nat.lt_of_lt_of_le (by assumption) (by assumption)))) | (first | with_reducible (first | apply eInt | apply eNil | apply idx_q0 | apply idx_q1 | apply tup01 | apply tup11 | apply add_nat1 | apply neg1 | apply eOn | apply eBool | apply eStrg | apply eV | apply eIdx | apply eBin | apply eCall | apply eCons | apply eCmp | apply eTup | apply eLen | apply eR1 | apply eR2 | apply eIl | apply eNeg | apply eOrF | apply eAndT | apply eNotT | apply eNotF | apply eVal | apply eLst | apply eSlc | apply eOs | apply eSort | apply eLr | apply eSum | apply eAbs) | exact vF rfl | exact vS rfl | exact vB rfl | exact rfl)); done)) ?_)
    simp only [demote_zero, demote_succ, dm, List.set_cons_zero, List.set_cons_succ, isList, Bool.false_and, Bool.true_and]
    refine W.loopJ (I := fun j ρ => ∃ o11, ρ = [some ⟨false, im n n f⟩, some ⟨false, qm n n (castM f)⟩, some ⟨false, .int (detI n f)⟩, some ⟨false, .int n⟩, some ⟨false, .list (permD n p)⟩, some ⟨false, qm n n (lowF l)⟩, some ⟨false, qm n n u⟩, some ⟨false, .int (sgAll p i * sgRow p i j)⟩, some ⟨false, .int (ovr u (i + 1))⟩, some ⟨false, .int (und u (i + 1))⟩, some ⟨false, .int i⟩, o11, o 2, o 3, o 4, o 5, o 6, none]) rfl rfl (Nat.zero_le _)
      ⟨_, by rw [sgRow, Int.mul_one]⟩ ?_ ?_
    · rintro J2 q2 P2 r2 j ρ - hj ⟨o11, rfl⟩
      simp only [demote_zero, demote_succ, dm, List.set_cons_zero, List.set_cons_succ, isList, Bool.false_and, Bool.true_and]
      have hjn : j < n := by exact Nat.lt_trans (by assumption) (by assumption)
      have l0 : lowF l j i = 0 := by unfold lowF; rw [if_neg (by exact Nat.ne_of_lt (by assumption))]; exact H.lz j i hjn hi (.inr (by exact Nat.le_of_lt (by assumption)))
      have u0 : u i j = 0 := H.tri i j hjn hj hi
      refine W.cons (W.skip (by ((repeat' first | with_reducible (first | apply idx_qm (lowF l) _ hn' hjn | apply idx_qr (lowF l j) _ hn' hi | apply idx_qm u _ hn' hi | apply idx_qr (u i) _ hn' hjn | apply cmp_ne_q | apply l0 | apply u0) | (first | with_reducible (first | apply eInt | apply eNil | apply idx_q0 | apply idx_q1 | apply tup01 | apply tup11 | apply add_nat1 | apply neg1 | apply eOn | apply eBool | apply eStrg | apply eV | apply eIdx | apply eBin | apply eCall | apply eCons | apply eCmp | apply eTup | apply eLen | apply eR1 | apply eR2 | apply eIl | apply eNeg | apply eOrF | apply eAndT | apply eNotT | apply eNotF | apply eVal | apply eLst | apply eSlc | apply eOs | apply eSort | apply eLr | apply eSum | apply eAbs) | exact vF rfl | exact vS rfl | exact vB rfl | exact rfl)) <;> simp only [cmp_eq_int, cmp_ne_int, cmp_lt_int, cmp_gt_int, cast_ne_neg1, cast_eq, decide_true, decide_false, Bool.not_true, Bool.not_false, idx_qm (lowF l) _ hn' hjn, idx_qr (lowF l j) _ hn' hi, idx_qm u _ hn' hi, idx_qr (u i) _ hn' hjn, cmp_ne_q, l0, u0])) ?_)
      refine W.cons (W.ite (v := decide (((p j : Nat) : Int) > (p i : Nat))) (by ((repeat' first | with_reducible (first | apply idx_perm p _ _ hn' hjn | apply idx_perm p _ _ hn' hi) | (first | with_reducible (first | apply eInt | apply eNil | apply idx_q0 | apply idx_q1 | apply tup01 | apply tup11 | apply add_nat1 | apply neg1 | apply eOn | apply eBool | apply eStrg | apply eV | apply eIdx | apply eBin | apply eCall | apply eCons | apply eCmp | apply eTup | apply eLen | apply eR1 | apply eR2 | apply eIl | apply eNeg | apply eOrF | apply eAndT | apply eNotT | apply eNotF | apply eVal | apply eLst | apply eSlc | apply eOs | apply eSort | apply eLr | apply eSum | apply eAbs) | exact vF rfl | exact vS rfl | exact vB rfl | exact rfl)); done)) (fun e => ?_) (fun e => ?_))
      · have e1 : p j > p i := by have : ((p j : Nat) : Int) > (p i : Nat) := by simpa using e
                                  omega
        refine W.cons (W.assign (d := .int (-(sgAll p i * sgRow p i j))) (by ((repeat' first | with_reducible (first | apply negD) | (first | with_reducible (first | apply eInt | apply eNil | apply idx_q0 | apply idx_q1 | apply tup01 | apply tup11 | apply add_nat1 | apply neg1 | apply eOn | apply eBool | apply eStrg | apply eV | apply eIdx | apply eBin | apply eCall | apply eCons | apply eCmp | apply eTup | apply eLen | apply eR1 | apply eR2 | apply eIl | apply eNeg | apply eOrF | apply eAndT | apply eNotT | apply eNotF | apply eVal | apply eLst | apply eSlc | apply eOs | apply eSort | apply eLr | apply eSum | apply eAbs) | exact vF rfl | exact vS rfl | exact vB rfl | exact rfl)); done)) ?_)
        simp only [demote_zero, demote_succ, dm, List.set_cons_zero, List.set_cons_succ, isList, Bool.false_and, Bool.true_and]
        exact W.nil (W.nil (q2 _ _ ⟨_, by rw [sgRow, if_pos e1, Int.mul_neg]⟩))
      · have e1 : ¬ p j > p i := by have : ¬ ((p j : Nat) : Int) > (p i : Nat) := by simpa using e
                                    omega
        exact W.nil (W.nil (q2 _ _ ⟨_, by rw [sgRow, if_neg e1]⟩))
    · rintro ρ ⟨o11, rfl⟩
      refine W.cons (W.forS (ds := upto 0 n) (by ((repeat' first | with_reducible (first | apply range0_ok hn') | (first | with_reducible (first | apply eInt | apply eNil | apply idx_q0 | apply idx_q1 | apply tup01 | apply tup11 | apply add_nat1 | apply neg1 | apply eOn | apply eBool | apply eStrg | apply eV | apply eIdx | apply eBin | apply eCall | apply eCons | apply eCmp | apply eTup | apply eLen | apply eR1 | apply eR2 | apply eIl | apply eNeg | apply eOrF | apply eAndT | apply eNotT | apply eNotF | apply eVal | apply eLst | apply eSlc | apply eOs | apply eSort | apply eLr | apply eSum | apply eAbs) | exact vF rfl | exact vS rfl | exact vB rfl | exact rfl)); done)) ?_)
      simp only [demote_zero, demote_succ, dm, List.set_cons_zero, List.set_cons_succ, isList, Bool.false_and, Bool.true_and]
      refine W.loopJ (I := fun j ρ => ∃ o : Nat → Option Slot, ρ = [some ⟨false, im n n f⟩, some ⟨false, qm n n (castM f)⟩, some ⟨false, .int (detI n f)⟩, some ⟨false, .int n⟩, some ⟨false, .list (permD n p)⟩, some ⟨false, qm n n (lowF l)⟩, some ⟨false, qm n n u⟩, some ⟨false, .int (sgAll p (i + 1))⟩, some ⟨false, .int (ovr u (i + 1))⟩, some ⟨false, .int (und u (i + 1))⟩, some ⟨false, .int i⟩, o 1, o 2, o 3, o 4, o 5, o 6, none]) rfl rfl (Nat.zero_le _)
        ⟨fun i => ([none, _, _, _, _, _, _] : Rho).getD i none, rfl⟩ ?_ ?_
      · rintro J2 q2 P2 r2 j ρ - hj ⟨o, rfl⟩
        simp only [demote_zero, demote_succ, dm, List.set_cons_zero, List.set_cons_succ, isList, Bool.false_and, Bool.true_and]
        refine W.cons (W.unpack2 (a := .int 0) (b := .int 1) (by ((repeat' (first | with_reducible (first | apply eInt | apply eNil | apply idx_q0 | apply idx_q1 | apply tup01 | apply tup11 | apply add_nat1 | apply neg1 | apply eOn | apply eBool | apply eStrg | apply eV | apply eIdx | apply eBin | apply eCall | apply eCons | apply eCmp | apply eTup | apply eLen | apply eR1 | apply eR2 | apply eIl | apply eNeg | apply eOrF | apply eAndT | apply eNotT | apply eNotF | apply eVal | apply eLst | apply eSlc | apply eOs | apply eSort | apply eLr | apply eSum | apply eAbs) | exact vF rfl | exact vS rfl | exact vB rfl | exact rfl)); done)) (by decide) ?_)
        simp only [demote_zero, demote_succ, dm, List.set_cons_zero, List.set_cons_succ, isList, Bool.false_and, Bool.true_and]
        refine W.cons (W.forS (ds := upto 0 n) (by ((repeat' first | with_reducible (first | apply range0_ok hn') | (first | with_reducible (first | apply eInt | apply eNil | apply idx_q0 | apply idx_q1 | apply tup01 | apply tup11 | apply add_nat1 | apply neg1 | apply eOn | apply eBool | apply eStrg | apply eV | apply eIdx | apply eBin | apply eCall | apply eCons | apply eCmp | apply eTup | apply eLen | apply eR1 | apply eR2 | apply eIl | apply eNeg | apply eOrF | apply eAndT | apply eNotT | apply eNotF | apply eVal | apply eLst | apply eSlc | apply eOs | apply eSort | apply eLr | apply eSum | apply eAbs) | exact vF rfl | exact vS rfl | exact vB rfl | exact rfl)); done)) ?_)
        simp only [demote_zero, demote_succ, dm, List.set_cons_zero, List.set_cons_succ, isList, Bool.false_and, Bool.true_and]
        refine W.loopJ (I := fun k ρ => ∃ (num den : Int) (o : Nat → Option Slot), ρ = [some ⟨false, im n n f⟩, some ⟨false, qm n n (castM f)⟩, some ⟨false, .int (detI n f)⟩, some ⟨false, .int n⟩, some ⟨false, .list (permD n p)⟩, some ⟨false, qm n n (lowF l)⟩, some ⟨false, qm n n u⟩, some ⟨false, .int (sgAll p (i + 1))⟩, some ⟨false, .int (ovr u (i + 1))⟩, some ⟨false, .int (und u (i + 1))⟩, some ⟨false, .int i⟩, some ⟨false, .int j⟩, some ⟨false, .int num⟩, some ⟨false, .int den⟩, o 0, o 1, o 2, none]
          ∧ (num : Rat) = sm k (fun k => lowF l i k * u k j) * (den : Rat) ∧ 0 < den ∧ num.natAbs < 2 ^ (1 + 1109 * k) ∧ den.natAbs < 2 ^ (1 + 1109 * k)) rfl rfl (Nat.zero_le _)
          ⟨0, 1, fun i => ([_, _, _] : Rho).getD i none, rfl, by simp [sm], by decide, by decide, by decide⟩ ?_ ?_
        · rintro J3 q3 P3 r3 k ρ - hk ⟨num, den, o, rfl, hr, hd, s1, s2⟩
          simp only [demote_zero, demote_succ, dm, List.set_cons_zero, List.set_cons_succ, isList, Bool.false_and, Bool.true_and]
          have a1 := sl i k hi hk
          have a2 := su k j hk hj
          have m1 := mul_ok (m := .fresh) (m' := .fresh) (big_of a1.1 (by decide)) (big_of a2.1 (by decide))
          have m2 := mul_ok (m := .fresh) (m' := .fresh) (big_of a1.den (by decide)) (big_of a2.den (by decide))
          refine W.cons (W.assign (d := .int ((lowF l i k).num * (u k j).num)) (by ((repeat' first | with_reducible (first | apply idx_qm (lowF l) _ hn' hi | apply idx_qr (lowF l i) _ hn' hk | apply idx_qm u _ hn' hk | apply idx_qr (u k) _ hn' hj | apply m1) | (first | with_reducible (first | apply eInt | apply eNil | apply idx_q0 | apply idx_q1 | apply tup01 | apply tup11 | apply add_nat1 | apply neg1 | apply eOn | apply eBool | apply eStrg | apply eV | apply eIdx | apply eBin | apply eCall | apply eCons | apply eCmp | apply eTup | apply eLen | apply eR1 | apply eR2 | apply eIl | apply eNeg | apply eOrF | apply eAndT | apply eNotT | apply eNotF | apply eVal | apply eLst | apply eSlc | apply eOs | apply eSort | apply eLr | apply eSum | apply eAbs) | exact vF rfl | exact vS rfl | exact vB rfl | exact rfl)); done)) ?_)
          simp only [demote_zero, demote_succ, dm, List.set_cons_zero, List.set_cons_succ, isList, Bool.false_and, Bool.true_and]
          refine W.cons (W.assign (d := .int ((lowF l i k).den * (u k j).den)) (by ((repeat' first | with_reducible (first | apply idx_qm (lowF l) _ hn' hi | apply idx_qr (lowF l i) _ hn' hk | apply idx_qm u _ hn' hk | apply idx_qr (u k) _ hn' hj | apply m2) | (first | with_reducible (first | apply eInt | apply eNil | apply idx_q0 | apply idx_q1 | apply tup01 | apply tup11 | apply add_nat1 | apply neg1 | apply eOn | apply eBool | apply eStrg | apply eV | apply eIdx | apply eBin | apply eCall | apply eCons | apply eCmp | apply eTup | apply eLen | apply eR1 | apply eR2 | apply eIl | apply eNeg | apply eOrF | apply eAndT | apply eNotT | apply eNotF | apply eVal | apply eLst | apply eSlc | apply eOs | apply eSort | apply eLr | apply eSum | apply eAbs) | exact vF rfl | exact vS rfl | exact vB rfl | exact rfl)); done)) ?_)
          simp only [demote_zero, demote_succ, dm, List.set_cons_zero, List.set_cons_succ, isList, Bool.false_and, Bool.true_and]
          have sP := mul_sz a1.1 a2.1
          have sQ := mul_sz a1.den a2.den
          have hPe : (((lowF l i k).num * (u k j).num : Int) : Rat) = (lowF l i k * u k j) * (((lowF l i k).den * (u k j).den : Int) : Rat) := by
            rw [Rat.intCast_mul, Rat.intCast_mul, num_eq (lowF l i k), num_eq (u k j)]; grind
          have hQ0 : 0 < ((lowF l i k).den * (u k j).den : Int) := Int.mul_pos (by have := (lowF l i k).den_pos; omega) (by have := (u k j).den_pos; omega)
          generalize ((lowF l i k).num * (u k j).num : Int) = P at *
          generalize ((lowF l i k).den * (u k j).den : Int) = Q at *
          have m3 := mul_ok (m := .fresh) (m' := .fresh) (big_of s1 (by omega)) (big_of sQ (by decide))
          have m4 := mul_ok (m := .fresh) (m' := .fresh) (big_of sP (by decide)) (big_of s2 (by omega))
          have m5 := mul_ok (m := .fresh) (m' := .fresh) (big_of s2 (by omega)) (big_of sQ (by decide))
          refine W.cons (W.unpack2 (a := .int (num * Q + P * den)) (b := .int (den * Q)) (by ((repeat' first | with_reducible (first | apply m3 | apply m4 | apply m5) | (first | with_reducible (first | apply eInt | apply eNil | apply idx_q0 | apply idx_q1 | apply tup01 | apply tup11 | apply add_nat1 | apply neg1 | apply eOn | apply eBool | apply eStrg | apply eV | apply eIdx | apply eBin | apply eCall | apply eCons | apply eCmp | apply eTup | apply eLen | apply eR1 | apply eR2 | apply eIl | apply eNeg | apply eOrF | apply eAndT | apply eNotT | apply eNotF | apply eVal | apply eLst | apply eSlc | apply eOs | apply eSort | apply eLr | apply eSum | apply eAbs) | exact vF rfl | exact vS rfl | exact vB rfl | exact rfl)); done)) (by decide) ?_)
          simp only [demote_zero, demote_succ, dm, List.set_cons_zero, List.set_cons_succ, isList, Bool.false_and, Bool.true_and]
          refine W.nil (q3 _ _ ⟨_, _, fun i => ([_, _, _] : Rho).getD i none, rfl, ?_, Int.mul_pos hd hQ0, ?_, ?_⟩)
          · rw [sm, Rat.intCast_add, Rat.intCast_mul, Rat.intCast_mul, Rat.intCast_mul, hr, hPe]; grind
          · have h1 := mul_sz s1 sQ
            have h2 := mul_sz sP s2
            rw [Nat.add_comm (554 + 554)] at h2
            exact up_sz (add_sz h1 h2) (by exact Nat.le_refl _)
          · exact up_sz (mul_sz s2 sQ) (by omega)
        · rintro ρ ⟨num, den, o, rfl, hr, hd, s1, s2⟩
          have hpi := H.perm.lt i hi
          have m1 := mul_ok (m := .fresh) (m' := .fresh) (big_of (hz (p i) j hpi hj) (by decide)) (big_of s2 (by omega))
          have hnum : num = f (p i) j * den := by
            rw [H.prod hi hj] at hr
            unfold castM at hr
            rw [← Rat.intCast_mul, Rat.intCast_inj] at hr
            exact hr
          have hd1 : ¬ den < 1 := by omega
          refine W.cons (W.skip (by ((repeat' first | with_reducible (first | apply idx_im f _ hn' hpi | apply idx_ir (f (p i)) _ _ hn' hj | apply idx_perm p _ _ hn' hi | apply m1 | apply hd1 | apply hnum) | (first | with_reducible (first | apply eInt | apply eNil | apply idx_q0 | apply idx_q1 | apply tup01 | apply tup11 | apply add_nat1 | apply neg1 | apply eOn | apply eBool | apply eStrg | apply eV | apply eIdx | apply eBin | apply eCall | apply eCons | apply eCmp | apply eTup | apply eLen | apply eR1 | apply eR2 | apply eIl | apply eNeg | apply eOrF | apply eAndT | apply eNotT | apply eNotF | apply eVal | apply eLst | apply eSlc | apply eOs | apply eSort | apply eLr | apply eSum | apply eAbs) | exact vF rfl | exact vS rfl | exact vB rfl | exact rfl)) <;> simp only [cmp_eq_int, cmp_ne_int, cmp_lt_int, cmp_gt_int, cast_ne_neg1, cast_eq, decide_true, decide_false, Bool.not_true, Bool.not_false, idx_im f _ hn' hpi, idx_ir (f (p i)) _ _ hn' hj, idx_perm p _ _ hn' hi, m1, hd1, hnum])) ?_)
          exact W.nil (q2 _ _ ⟨fun i => ([none, _, _, _, _, _, _] : Rho).getD i none, rfl⟩)
      · rintro ρ ⟨o, rfl⟩
        exact W.nil (q1 _ _ ⟨fun i => ([_, _, _, _, _, _, _] : Rho).getD i none, rfl⟩)
  · rintro ρ ⟨o, rfl⟩
    obtain ⟨so, sn⟩ := ovr_sz su n (Nat.le_refl _)
    have ss : (sgAll p n).natAbs < Big := by rcases sg_pm p n with e | e <;> rw [e] <;> decide
    have m1 := mul_ok (m := .fresh) (m' := .fresh) ss (big_of so (by omega))
    have m2 := mul_ok (m := .fresh) (m' := .fresh) (big_of (detI_sz hn hz) (by decide)) (big_of sn (by omega))
    have heq : sgAll p n * ovr u n = detI n f * und u n := by
      rw [← Rat.intCast_inj, Rat.intCast_mul, Rat.intCast_mul, ovr_und, ← det_cast hn, ← H.det, det_tri hn u fun i j h1 h2 => H.tri i j (by exact Nat.lt_trans (by assumption) (by assumption)) h1 h2]
      grind
    refine W.cons (W.skip (by ((repeat' first | with_reducible (first | apply m1 | apply m2 | apply heq) | (first | with_reducible (first | apply eInt | apply eNil | apply idx_q0 | apply idx_q1 | apply tup01 | apply tup11 | apply add_nat1 | apply neg1 | apply eOn | apply eBool | apply eStrg | apply eV | apply eIdx | apply eBin | apply eCall | apply eCons | apply eCmp | apply eTup | apply eLen | apply eR1 | apply eR2 | apply eIl | apply eNeg | apply eOrF | apply eAndT | apply eNotT | apply eNotF | apply eVal | apply eLst | apply eSlc | apply eOs | apply eSort | apply eLr | apply eSum | apply eAbs) | exact vF rfl | exact vS rfl | exact vB rfl | exact rfl)) <;> simp only [cmp_eq_int, cmp_ne_int, cmp_lt_int, cmp_gt_int, cast_ne_neg1, cast_eq, decide_true, decide_false, Bool.not_true, Bool.not_false, m1, m2, heq])) ?_)
    have hadd : ∃ m, m ≠ .borrow ∧ binD .add (qm n n (lowF l), .shared) (qm n n u, .shared) = some (qm (n + n) n fun i j => if i < n then lowF l i j else u (i - n) j, m) := by
      refine ⟨flatMode ((tab n fun i => .list (tab n fun j => qD (lowF l i j))) ++ (tab n fun i => .list (tab n fun j => qD (u i j)))), flat_nb _, ?_⟩
      unfold qm matD
      rw [addL_ok (by decide) (by decide) (by simp [tab_length]; omega)]
      have : ((tab n fun i => PyData.list (tab n fun j => qD (lowF l i j))) ++ (tab n fun i => PyData.list (tab n fun j => qD (u i j)))) = tab (n + n) fun i => .list (tab n fun j => qD (if i < n then lowF l i j else u (i - n) j)) := by
        rw [tab_append]
        refine tab_ext fun i hi => ?_
        split <;> rfl
      rw [this]
    obtain ⟨m, hm, hadd⟩ := hadd
    refine W.cons (W.assignA (d := qm (n + n) n fun i j => if i < n then lowF l i j else u (i - n) j) (m := m) (by ((repeat' first | with_reducible (first | apply hadd) | (first | with_reducible (first | apply eInt | apply eNil | apply idx_q0 | apply idx_q1 | apply tup01 | apply tup11 | apply add_nat1 | apply neg1 | apply eOn | apply eBool | apply eStrg | apply eV | apply eIdx | apply eBin | apply eCall | apply eCons | apply eCmp | apply eTup | apply eLen | apply eR1 | apply eR2 | apply eIl | apply eNeg | apply eOrF | apply eAndT | apply eNotT | apply eNotF | apply eVal | apply eLst | apply eSlc | apply eOs | apply eSort | apply eLr | apply eSum | apply eAbs) | exact vF rfl | exact vS rfl | exact vB rfl | exact rfl)); done)) hm ?_)
    simp only [demote_zero, demote_succ, dm, List.set_cons_zero, List.set_cons_succ, isList, Bool.false_and, Bool.true_and]
    generalize hB : (fun i j => if i < n then lowF l i j else u (i - n) j : Nat → Nat → Rat) = B
    have sB : ∀ i j, i < n + n → j < n → Sz 554 (B i j) := fun i j hi hj => by
      rw [← hB]
      simp only
      split
      · exact sl i j (by assumption) hj
      · exact su (i - n) j (by omega) hj
    have hn2 : n + n ≤ 64 := by omega
    have hcomp : evE Φ (.comp (.lst (.var 17)) (.comp (.lst (.var 18)) (.call "_law_pair" (.cons (.idx (.var 19) (.int 0)) (.cons (.idx (.var 19) (.int 1)) .nil))))) (demoteAll [some ⟨false, im n n f⟩, some ⟨false, qm n n (castM f)⟩, some ⟨false, .int (detI n f)⟩, some ⟨false, .int n⟩, some ⟨false, .list (permD n p)⟩, some ⟨false, qm n n (lowF l)⟩, some ⟨false, qm n n u⟩, some ⟨false, .int (sgAll p n)⟩, some ⟨false, .int (ovr u n)⟩, some ⟨false, .int (und u n)⟩, o 0, o 1, o 2, o 3, o 4, o 5, o 6, some ⟨false, qm (n + n) n B⟩]) = some (qm (n + n) n B, .fresh) := by
      refine comp_tab (g := fun i => .list (tab n fun j => qD (B i j))) (le_lim (by assumption)) (by ((repeat' first | with_reducible (first | apply list_qm _ hn2) | (first | with_reducible (first | apply eInt | apply eNil | apply idx_q0 | apply idx_q1 | apply tup01 | apply tup11 | apply add_nat1 | apply neg1 | apply eOn | apply eBool | apply eStrg | apply eV | apply eIdx | apply eBin | apply eCall | apply eCons | apply eCmp | apply eTup | apply eLen | apply eR1 | apply eR2 | apply eIl | apply eNeg | apply eOrF | apply eAndT | apply eNotT | apply eNotF | apply eVal | apply eLst | apply eSlc | apply eOs | apply eSort | apply eLr | apply eSum | apply eAbs) | exact vF rfl | exact vS rfl | exact vB rfl | exact rfl)); done)) fun i hi => ?_
      refine comp_tab (g := fun j => qD (B i j)) (le_lim (by assumption)) (by ((repeat' first | with_reducible (first | apply list_tab _ hn') | (first | with_reducible (first | apply eInt | apply eNil | apply idx_q0 | apply idx_q1 | apply tup01 | apply tup11 | apply add_nat1 | apply neg1 | apply eOn | apply eBool | apply eStrg | apply eV | apply eIdx | apply eBin | apply eCall | apply eCons | apply eCmp | apply eTup | apply eLen | apply eR1 | apply eR2 | apply eIl | apply eNeg | apply eOrF | apply eAndT | apply eNotT | apply eNotF | apply eVal | apply eLst | apply eSlc | apply eOs | apply eSort | apply eLr | apply eSum | apply eAbs) | exact vF rfl | exact vS rfl | exact vB rfl | exact rfl)); done)) fun j hj => ?_
      have hp := hQ (B i j).num (B i j).den (den_ne _) (lim_of (sB i j hi hj).1 (by decide)) (lim_of (sB i j hi hj).den (by decide))
      rw [Rat.num_divInt_den] at hp
      have hc : callD Φ "_law_pair" [(.int (B i j).num, .fresh), (.int (B i j).den, .fresh)] = some (qD (B i j), .fresh) := call_ok hp rfl
      ((repeat' first | with_reducible (first | apply innerR | apply hc) | (first | with_reducible (first | apply eInt | apply eNil | apply idx_q0 | apply idx_q1 | apply tup01 | apply tup11 | apply add_nat1 | apply neg1 | apply eOn | apply eBool | apply eStrg | apply eV | apply eIdx | apply eBin | apply eCall | apply eCons | apply eCmp | apply eTup | apply eLen | apply eR1 | apply eR2 | apply eIl | apply eNeg | apply eOrF | apply eAndT | apply eNotT | apply eNotF | apply eVal | apply eLst | apply eSlc | apply eOs | apply eSort | apply eLr | apply eSum | apply eAbs) | exact vF rfl | exact vS rfl | exact vB rfl | exact rfl)); done)
    have hex : callD Φ "_law_exact" [(qm (n + n) n B, .shared), (qm (n + n) n B, .fresh)] = some (.bool true, .fresh) := call_ok (hE (n + n) n (fun i j => (B i j).num) (fun i j => (B i j).den) hn2 hn') rfl
    refine W.cons (W.ret (d := .bool true) (m := .fresh) ?_ (by decide) rfl)
    ((repeat' first | with_reducible (first | apply hcomp | apply hex) | (first | with_reducible (first | apply eInt | apply eNil | apply idx_q0 | apply idx_q1 | apply tup01 | apply tup11 | apply add_nat1 | apply neg1 | apply eOn | apply eBool | apply eStrg | apply eV | apply eIdx | apply eBin | apply eCall | apply eCons | apply eCmp | apply eTup | apply eLen | apply eR1 | apply eR2 | apply eIl | apply eNeg | apply eOrF | apply eAndT | apply eNotT | apply eNotF | apply eVal | apply eLst | apply eSlc | apply eOs | apply eSort | apply eLr | apply eSum | apply eAbs) | exact vF rfl | exact vS rfl | exact vB rfl | exact rfl)); done)
theorem luh_run {Φ : Tab} (hL : SLu Φ) (hE : SExact Φ) (hQ : SPair Φ) : SLuH (runN Φ) := fun n f hn hz => run_of (f := ⟨"_law_lu_holds", ["a", "whole", "det"], ["n", "perm", "low", "up", "sign", "over", "under", "i", "j", "num", "den", "k", "p", "q", "both"], mb__law_lu_holds⟩) rfl (luh_body Φ hL hE hQ n f hn hz)


noncomputable def scr (ns : List Int) : D := .list (ns.map .int)
theorem vm_scr (ns : List Int) : varMode ⟨false, scr ns⟩ = .shared := rfl
noncomputable def SCell (Φ : Tab) : Prop := ∀ ns (i : Nat), ns.length ≤ 63 → i ≤ 64 → Φ "_law_cell" [scr ns, .int i] = some (.int (ns.getD i 0), true)
theorem cell_body (Φ : Tab) (ns : List Int) (i : Nat) (hl : ns.length ≤ 63) (hi : i ≤ 64) : W (exSs Φ NN mb__law_cell (slots [scr ns, .int i] 0)) (· = .ret (.int (ns.getD i 0)) true) := by
  delta mb__law_cell; simp only [List.map_cons, List.map_nil, List.cons_append, List.nil_append, List.replicate, slots]
  have hlen : ∀ m, lenD (scr ns, m) = some (.int (ns.length : Nat), .fresh) := fun m => by
    unfold scr lenD; simp only [List.length_map]; rw [if_pos (by unfold lim; exact Nat.le_trans (by assumption) (by decide))]
  by_cases h : i < ns.length
  · have h' : (i : Int) < ns.length := by omega
    refine W.cons (W.iteT (by ((repeat' first | with_reducible (first | apply vm_scr | apply hlen | apply h') | (first | with_reducible (first | apply eInt | apply eNil | apply idx_q0 | apply idx_q1 | apply tup01 | apply tup11 | apply add_nat1 | apply neg1 | apply eOn | apply eBool | apply eStrg | apply eV | apply eIdx | apply eBin | apply eCall | apply eCons | apply eCmp | apply eTup | apply eLen | apply eR1 | apply eR2 | apply eIl | apply eNeg | apply eOrF | apply eAndT | apply eNotT | apply eNotF | apply eVal | apply eLst | apply eSlc | apply eOs | apply eSort | apply eLr | apply eSum | apply eAbs) | exact vF rfl | exact vS rfl | exact vB rfl | exact rfl)) <;> simp only [cmp_eq_int, cmp_ne_int, cmp_lt_int, cmp_gt_int, cast_ne_neg1, cast_eq, decide_true, decide_false, Bool.not_true, Bool.not_false, vm_scr, hlen, h'])) (W.cons (W.ret (d := .int (ns.getD i 0)) (m := .fresh) ?_ (by decide) rfl)))
    have hg : (ns.map PyData.int)[i]? = some (.int (ns.getD i 0)) := by
      simp [List.getElem?_map, List.getElem?_eq_getElem h, List.getD_eq_getElem?_getD]
    have hx : idxD (scr ns, .shared) (.int (i : Int), .fresh) = some (.int (ns.getD i 0), .fresh) := by
      unfold scr; rw [idx_list rfl (le_lim (by assumption)) hg]; rfl
    ((repeat' first | with_reducible (first | apply vm_scr | apply hx) | (first | with_reducible (first | apply eInt | apply eNil | apply idx_q0 | apply idx_q1 | apply tup01 | apply tup11 | apply add_nat1 | apply neg1 | apply eOn | apply eBool | apply eStrg | apply eV | apply eIdx | apply eBin | apply eCall | apply eCons | apply eCmp | apply eTup | apply eLen | apply eR1 | apply eR2 | apply eIl | apply eNeg | apply eOrF | apply eAndT | apply eNotT | apply eNotF | apply eVal | apply eLst | apply eSlc | apply eOs | apply eSort | apply eLr | apply eSum | apply eAbs) | exact vF rfl | exact vS rfl | exact vB rfl | exact rfl)); done)
  · have h' : ¬ (i : Int) < ns.length := by omega
    have e : ns.getD i 0 = 0 := by simp [List.getD_eq_getElem?_getD, List.getElem?_eq_none (Nat.le_of_not_lt h)]
    rw [e]
    refine W.cons (W.skip (by ((repeat' first | with_reducible (first | apply vm_scr | apply hlen | apply h') | (first | with_reducible (first | apply eInt | apply eNil | apply idx_q0 | apply idx_q1 | apply tup01 | apply tup11 | apply add_nat1 | apply neg1 | apply eOn | apply eBool | apply eStrg | apply eV | apply eIdx | apply eBin | apply eCall | apply eCons | apply eCmp | apply eTup | apply eLen | apply eR1 | apply eR2 | apply eIl | apply eNeg | apply eOrF | apply eAndT | apply eNotT | apply eNotF | apply eVal | apply eLst | apply eSlc | apply eOs | apply eSort | apply eLr | apply eSum | apply eAbs) | exact vF rfl | exact vS rfl | exact vB rfl | exact rfl)) <;> simp only [cmp_eq_int, cmp_ne_int, cmp_lt_int, cmp_gt_int, cast_ne_neg1, cast_eq, decide_true, decide_false, Bool.not_true, Bool.not_false, vm_scr, hlen, h'])) (W.cons (W.ret (d := .int 0) (m := .fresh) (by ((repeat' (first | with_reducible (first | apply eInt | apply eNil | apply idx_q0 | apply idx_q1 | apply tup01 | apply tup11 | apply add_nat1 | apply neg1 | apply eOn | apply eBool | apply eStrg | apply eV | apply eIdx | apply eBin | apply eCall | apply eCons | apply eCmp | apply eTup | apply eLen | apply eR1 | apply eR2 | apply eIl | apply eNeg | apply eOrF | apply eAndT | apply eNotT | apply eNotF | apply eVal | apply eLst | apply eSlc | apply eOs | apply eSort | apply eLr | apply eSum | apply eAbs) | exact vF rfl | exact vS rfl | exact vB rfl | exact rfl)) <;> simp only [cmp_eq_int, cmp_ne_int, cmp_lt_int, cmp_gt_int, cast_ne_neg1, cast_eq, decide_true, decide_false, Bool.not_true, Bool.not_false])) (by decide) rfl)))
theorem cell_run (Φ : Tab) : SCell (runN Φ) := fun ns i hl hi => run_of (f := ⟨"_law_cell", ["script", "i"], [], mb__law_cell⟩) rfl (cell_body Φ ns i hl hi)

noncomputable def updV (e : Nat → Int) (q : Nat) (v : Int) : Nat → Int := fun i => if i = q then v else e i
theorem take_set {α} {n q : Nat} (g : Nat → α) (v : α) (h : q < n) : (tab n g).take q ++ [v] ++ (tab n g).drop (q + 1) = tab n fun i => if i = q then v else g i := by
  rw [← tab_set, List.set_eq_take_append_cons_drop, if_pos (by rw [tab_length]; exact h)]
  simp
theorem ent_step {Φ : Tab} {ρ : Rho} {P V P' : ME} {e : Nat → Int} {q : Nat} {v : Int} (h4 : ρ[4]? = some (some ⟨false, iv 9 e⟩)) (hP : evE Φ P ρ = some (.int (q : Nat), .fresh)) (hV : evE Φ V ρ = some (.int v, .fresh)) (hP' : evE Φ P' ρ = some (.int ((q + 1 : Nat) : Int), .fresh)) (hq : q < 9) :
    evE Φ (.bin .add (.bin .add (.slc (.var 4) .none (.some P)) (.lst (.cons V .nil))) (.slc (.var 4) (.some P') .none)) ρ = some (iv 9 (updV e q v), .fresh) := by
  simp only [evE, evEs, evO, h4, hP, hV, hP', bound_ok (show q ≤ 64 by omega), bound_ok (show q + 1 ≤ 64 by exact Nat.le_trans (by assumption) (by decide)), lst1i, vm_iv]
  unfold iv
  rw [slc_any (by decide) (by rw [tab_length]; exact Nat.le_add_left _ _), slc_any (by decide) (by rw [tab_length]; exact Nat.le_add_left _ _)]
  simp only [cutL, Int.toNat_natCast]
  rw [addL_ok (flat_nb _) (by decide) (by simp [tab_length]; omega)]
  simp only
  rw [addL_ok (flat_nb _) (flat_nb _) (by simp [tab_length]; omega), take_set _ _ hq]
  have : (tab 9 fun i => if i = q then PyData.int v else PyData.int (e i)) = tab 9 fun i => .int (updV e q v i) := tab_ext fun i _ => by
    unfold updV; split <;> rfl
  rw [this, flat_row fun _ => rfl]

noncomputable def Bd (B : Nat) (e : Nat → Int) : Prop := ∀ i, i < 9 → (e i).natAbs ≤ B
theorem Bd.upd {B C q : Nat} {e : Nat → Int} {v : Int} (h : Bd B e) (hB : B ≤ C) (hv : v.natAbs ≤ C) : Bd C (updV e q v) := by
  intro i hi
  unfold updV
  split
  · exact hv
  · exact Nat.le_trans (h i hi) hB

theorem ent_loop {Φ : Tab} {P V P' : ME} {ns : List Int} {n : Nat} {kd kk : Int} {e : Nat → Int} (J : Nat) (hJ : J ≤ 3) (pos : Nat → Nat) (val : Nat → (Nat → Int) → Int) (hpos : ∀ j, j < J → pos j < 9)
    (hP : ∀ j e, j < J → evE Φ P [some ⟨false, scr ns⟩, some ⟨false, .int n⟩, some ⟨false, .int kd⟩, some ⟨false, .int kk⟩, some ⟨false, iv 9 e⟩, some ⟨false, .int (j : Nat)⟩, none, none, none] = some (.int (pos j : Nat), .fresh))
    (hP' : ∀ j e, j < J → evE Φ P' [some ⟨false, scr ns⟩, some ⟨false, .int n⟩, some ⟨false, .int kd⟩, some ⟨false, .int kk⟩, some ⟨false, iv 9 e⟩, some ⟨false, .int (j : Nat)⟩, none, none, none] = some (.int ((pos j + 1 : Nat) : Int), .fresh))
    (hV : ∀ j e, j < J → Bd 243 e → evE Φ V [some ⟨false, scr ns⟩, some ⟨false, .int n⟩, some ⟨false, .int kd⟩, some ⟨false, .int kk⟩, some ⟨false, iv 9 e⟩, some ⟨false, .int (j : Nat)⟩, none, none, none] = some (.int (val j e), .fresh))
    (hval : ∀ j e B, j < J → Bd B e → (val j e).natAbs ≤ 3 * B) (he : Bd 9 e) {Q : Out → Prop} {k : Rho → Prop}
    (hk : ∀ e o, Bd 243 e → k [some ⟨false, scr ns⟩, some ⟨false, .int n⟩, some ⟨false, .int kd⟩, some ⟨false, .int kk⟩, some ⟨false, iv 9 e⟩, o, none, none, none]) :
    W (exS Φ NN (.forS 5 (.range1 (.int J)) [.assign false 4 (.bin .add (.bin .add (.slc (.var 4) .none (.some P)) (.lst (.cons V .nil))) (.slc (.var 4) (.some P') .none))]) [some ⟨false, scr ns⟩, some ⟨false, .int n⟩, some ⟨false, .int kd⟩, some ⟨false, .int kk⟩, some ⟨false, iv 9 e⟩, none, none, none, none]) (Nx Q k) := by
  refine W.forS (ds := upto 0 (J : Nat)) (by ((repeat' first | with_reducible (first | apply range0_ok (show J ≤ 64 by exact Nat.le_trans (by assumption) (by decide))) | (first | with_reducible (first | apply eInt | apply eNil | apply idx_q0 | apply idx_q1 | apply tup01 | apply tup11 | apply add_nat1 | apply neg1 | apply eOn | apply eBool | apply eStrg | apply eV | apply eIdx | apply eBin | apply eCall | apply eCons | apply eCmp | apply eTup | apply eLen | apply eR1 | apply eR2 | apply eIl | apply eNeg | apply eOrF | apply eAndT | apply eNotT | apply eNotF | apply eVal | apply eLst | apply eSlc | apply eOs | apply eSort | apply eLr | apply eSum | apply eAbs) | exact vF rfl | exact vS rfl | exact vB rfl | exact rfl)); done)) ?_
  simp only [demote_zero, demote_succ, dm, List.set_cons_zero, List.set_cons_succ, isList, Bool.false_and, Bool.true_and]
  have h3 : ∀ j, j ≤ 3 → 9 * 3 ^ j ≤ 243 := fun j hj => by
    rcases n4 hj with rfl | rfl | rfl | rfl <;> decide
  refine W.loopJ (I := fun j ρ => ∃ e o, ρ = [some ⟨false, scr ns⟩, some ⟨false, .int n⟩, some ⟨false, .int kd⟩, some ⟨false, .int kk⟩, some ⟨false, iv 9 e⟩, o, none, none, none] ∧ Bd (9 * 3 ^ j) e) rfl rfl (Nat.zero_le _) ⟨e, _, rfl, by simpa using he⟩ ?_ ?_
  · rintro J1 q1 P1 r1 j ρ - hj ⟨e, o, rfl, hB⟩
    simp only [demote_zero, demote_succ, dm, List.set_cons_zero, List.set_cons_succ, isList, Bool.false_and, Bool.true_and]
    have hB' : Bd 243 e := fun i hi => Nat.le_trans (hB i hi) (h3 j (by exact Nat.le_of_lt (Nat.lt_of_lt_of_le (by assumption) (by assumption))))
    refine W.cons (W.assign (d := iv 9 (updV e (pos j) (val j e))) ?_ ?_)
    · simp only [demote_zero, demote_succ, dm]
      exact ent_step rfl (hP j e hj) (hV j e hj hB') (hP' j e hj) (hpos j hj)
    · simp only [demote_zero, demote_succ, dm, List.set_cons_zero, List.set_cons_succ, isList, Bool.false_and, Bool.true_and, Bool.false_and]
      refine W.nil (q1 _ _ ⟨_, _, rfl, hB.upd (by rw [Nat.pow_succ]; omega) ?_⟩)
      have := hval j e _ hj hB
      rw [Nat.pow_succ]; omega
  · rintro ρ ⟨e, o, rfl, hB⟩
    exact hk e o fun i hi => Nat.le_trans (hB i hi) (h3 J hJ)

theorem mul_small {a b : Int} (m m' : Mode) (ha : a.natAbs ≤ 1000) (hb : b.natAbs ≤ 1000) : binD .mul (.int a, m) (.int b, m') = some (.int (a * b), .fresh) := mul_ok (big_of (b := 10) (by omega) (by decide)) (big_of (b := 10) (by omega) (by decide))
theorem fmod_rng (a : Int) {b : Int} (hb : 0 < b) : 0 ≤ a.fmod b ∧ a.fmod b < b := ⟨Int.fmod_nonneg_of_pos a hb, Int.fmod_lt_of_pos a hb⟩
theorem sub_i (a b : Int) (m m' : Mode) : binD .sub (.int a, m) (.int b, m') = some (.int (a - b), .fresh) := rfl
theorem add_i (a b : Int) (m m' : Mode) : binD .add (.int a, m) (.int b, m') = some (.int (a + b), .fresh) := rfl
theorem call_cell {Φ : Tab} (h : SCell Φ) {ns : List Int} (i : Nat) {k : Int} (hk : k = i) (hl : ns.length ≤ 63) (hi : i ≤ 64) : callD Φ "_law_cell" [(scr ns, .shared), (.int k, .fresh)] = some (.int (ns.getD i 0), .fresh) := by
  subst hk
  exact call_ok (h ns i hl hi) rfl
theorem isList_iv (n : Nat) (e : Nat → Int) : isList (iv n e) = true := rfl

noncomputable def SEnt (Φ : Tab) : Prop := ∀ ns n, ns.length ≤ 63 → n ≤ 3 → ∃ f, Φ "_law_entries" [scr ns, .int (n : Nat)] = some (im n n f, true) ∧ ∀ i j, i < n → j < n → (f i j).natAbs < 2 ^ 8

theorem ent_body (Φ : Tab) (hC : SCell Φ) (ns : List Int) (n : Nat) (hl : ns.length ≤ 63) (hn : n ≤ 3) :
    W (exSs Φ NN mb__law_entries (slots [scr ns, .int n] 7)) (fun o => ∃ f, o = .ret (im n n f) true ∧ ∀ i j, i < n → j < n → (f i j).natAbs < 2 ^ 8) := by
  have hn' : n ≤ 64 := by exact Nat.le_trans (by assumption) (by decide)
  delta mb__law_entries; simp only [List.map_cons, List.map_nil, List.cons_append, List.nil_append, List.replicate, slots]
  have d9 : (9 : Int) ≠ 0 := by decide
  have d5 : (5 : Int) ≠ 0 := by decide
  have d19 : (19 : Int) ≠ 0 := by decide
  have d6 : (6 : Int) ≠ 0 := by decide
  have d2 : (2 : Int) ≠ 0 := by decide
  have d3 : (3 : Int) ≠ 0 := by decide
  have c1 := call_cell hC (ns := ns) 1 (k := 1) rfl hl (by decide)
  have c2 := call_cell hC (ns := ns) 2 (k := 2) rfl hl (by decide)
  have c17 := call_cell hC (ns := ns) 17 (k := 17) rfl hl (by decide)
  refine W.cons (W.assign (d := .int ((ns.getD 1 0).fmod 9)) (by ((repeat' first | with_reducible (first | apply vm_scr | apply c1 | apply mod_ok _ _ d9) | (first | with_reducible (first | apply eInt | apply eNil | apply idx_q0 | apply idx_q1 | apply tup01 | apply tup11 | apply add_nat1 | apply neg1 | apply eOn | apply eBool | apply eStrg | apply eV | apply eIdx | apply eBin | apply eCall | apply eCons | apply eCmp | apply eTup | apply eLen | apply eR1 | apply eR2 | apply eIl | apply eNeg | apply eOrF | apply eAndT | apply eNotT | apply eNotF | apply eVal | apply eLst | apply eSlc | apply eOs | apply eSort | apply eLr | apply eSum | apply eAbs) | exact vF rfl | exact vS rfl | exact vB rfl | exact rfl)); done)) ?_)
  simp only [demote_zero, demote_succ, dm, List.set_cons_zero, List.set_cons_succ, isList, Bool.false_and, Bool.true_and]
  generalize (ns.getD 1 0).fmod 9 = kd
  refine W.cons (W.assign (d := .int ((ns.getD 17 0).fmod 5 - 2)) (by ((repeat' first | with_reducible (first | apply vm_scr | apply c17 | apply mod_ok _ _ d5 | apply sub_i) | (first | with_reducible (first | apply eInt | apply eNil | apply idx_q0 | apply idx_q1 | apply tup01 | apply tup11 | apply add_nat1 | apply neg1 | apply eOn | apply eBool | apply eStrg | apply eV | apply eIdx | apply eBin | apply eCall | apply eCons | apply eCmp | apply eTup | apply eLen | apply eR1 | apply eR2 | apply eIl | apply eNeg | apply eOrF | apply eAndT | apply eNotT | apply eNotF | apply eVal | apply eLst | apply eSlc | apply eOs | apply eSort | apply eLr | apply eSum | apply eAbs) | exact vF rfl | exact vS rfl | exact vB rfl | exact rfl)); done)) ?_)
  simp only [demote_zero, demote_succ, dm, List.set_cons_zero, List.set_cons_succ, isList, Bool.false_and, Bool.true_and]
  have hkk : ((ns.getD 17 0).fmod 5 - 2).natAbs ≤ 2 := by have := fmod_rng (ns.getD 17 0) (b := 5) (by decide); omega
  generalize (ns.getD 17 0).fmod 5 - 2 = kk at hkk ⊢
  refine W.cons (W.assign (d := iv 9 fun c => (ns.getD (2 + c) 0).fmod 19 - 9) ?_ ?_)
  · refine comp_tab (g := fun i => .int (i : Nat)) (by unfold lim; exact Nat.le_add_left _ _) ?_ fun c hc => ?_
    · exact eR1 eInt (range0_tab (b := 9) (by decide))
    · have cc := call_cell hC (ns := ns) (2 + c) (k := 2 + (c : Int)) (by omega) hl (by omega)
      ((repeat' first | with_reducible (first | apply innerR | apply vm_scr | apply add_i | apply cc | apply mod_ok _ _ d19 | apply sub_i) | (first | with_reducible (first | apply eInt | apply eNil | apply idx_q0 | apply idx_q1 | apply tup01 | apply tup11 | apply add_nat1 | apply neg1 | apply eOn | apply eBool | apply eStrg | apply eV | apply eIdx | apply eBin | apply eCall | apply eCons | apply eCmp | apply eTup | apply eLen | apply eR1 | apply eR2 | apply eIl | apply eNeg | apply eOrF | apply eAndT | apply eNotT | apply eNotF | apply eVal | apply eLst | apply eSlc | apply eOs | apply eSort | apply eLr | apply eSum | apply eAbs) | exact vF rfl | exact vS rfl | exact vB rfl | exact rfl)); done)
  simp only [demote_zero, demote_succ, dm, List.set_cons_zero, List.set_cons_succ, isList, Bool.false_and, Bool.true_and, Bool.false_and]
  have he : Bd 9 fun c => (ns.getD (2 + c) 0).fmod 19 - 9 := fun c _ => by
    have := fmod_rng (ns.getD (2 + c) 0) (b := 19) (by decide); simp only; omega
  generalize (fun c => (ns.getD (2 + c) 0).fmod 19 - 9 : Nat → Int) = e at he ⊢
  have fin : ∀ e o2 o3 o5 o6 o7 o8, Bd 243 e → W (exSs Φ NN [.ret (.comp (.range1 (.var 1)) (.slc (.var 4) (.some (.bin .mul (.int 3) (.var 9))) (.some (.bin .add (.bin .mul (.int 3) (.var 9)) (.var 1)))))] [some ⟨false, scr ns⟩, some ⟨false, .int n⟩, o2, o3, some ⟨false, iv 9 e⟩, o5, o6, o7, o8]) (fun o => ∃ f, o = .ret (im n n f) true ∧ ∀ i j, i < n → j < n → (f i j).natAbs < 2 ^ 8) := by
    intro e o2 o3 o5 o6 o7 o8 hB
    refine W.cons (W.ret (d := im n n fun i j => e (3 * i + j)) (m := .fresh) (comp_tab (g := fun i => .int (i : Nat)) (le_lim (by assumption)) (by ((repeat' first | with_reducible (first | apply range0_tab hn') | (first | with_reducible (first | apply eInt | apply eNil | apply idx_q0 | apply idx_q1 | apply tup01 | apply tup11 | apply add_nat1 | apply neg1 | apply eOn | apply eBool | apply eStrg | apply eV | apply eIdx | apply eBin | apply eCall | apply eCons | apply eCmp | apply eTup | apply eLen | apply eR1 | apply eR2 | apply eIl | apply eNeg | apply eOrF | apply eAndT | apply eNotT | apply eNotF | apply eVal | apply eLst | apply eSlc | apply eOs | apply eSort | apply eLr | apply eSum | apply eAbs) | exact vF rfl | exact vS rfl | exact vB rfl | exact rfl)); done)) fun i hi => ?_) (by decide) ⟨_, rfl, fun i j hi hj => ?_⟩)
    · have e1 : (3 : Int) * (i : Int) = ((3 * i : Nat) : Int) := by omega
      have hm := mul_small .fresh .fresh (show (3 : Int).natAbs ≤ 1000 by decide) (show (i : Int).natAbs ≤ 1000 by omega)
      rw [e1] at hm
      have hs : slcD (iv 9 e, .shared) (some ((3 * i : Nat) : Int)) (some ((3 * i + n : Nat) : Int)) = some (.list (tab n fun j => .int (e (3 * i + j))), .fresh) := by
        unfold iv
        rw [slc_any (by decide) (by rw [tab_length]; exact Nat.le_add_left _ _), flat_row fun _ => rfl]
        simp only [cutL, Int.toNat_natCast]
        rw [tab_take (by omega), tab_drop, show 3 * i + n - 3 * i = n by omega]
      ((repeat' first | with_reducible (first | apply hm | apply add_nat | apply bound_ok (show 3 * i ≤ 64 by omega) | apply bound_ok (show 3 * i + n ≤ 64 by omega) | apply hs) | (first | with_reducible (first | apply eInt | apply eNil | apply idx_q0 | apply idx_q1 | apply tup01 | apply tup11 | apply add_nat1 | apply neg1 | apply eOn | apply eBool | apply eStrg | apply eV | apply eIdx | apply eBin | apply eCall | apply eCons | apply eCmp | apply eTup | apply eLen | apply eR1 | apply eR2 | apply eIl | apply eNeg | apply eOrF | apply eAndT | apply eNotT | apply eNotF | apply eVal | apply eLst | apply eSlc | apply eOs | apply eSort | apply eLr | apply eSum | apply eAbs) | exact vF rfl | exact vS rfl | exact vB rfl | exact rfl)); done)
    · have := hB (3 * i + j) (by omega)
      show (e (3 * i + j)).natAbs < 2 ^ 8
      omega
  have up : ∀ {e : Nat → Int}, Bd 9 e → Bd 243 e := fun h i hi => Nat.le_trans (h i hi) (by decide)
  have i4 : ∀ (e : Nat → Int) (i : Nat) (md md' : Mode), i < 9 → idxD (iv 9 e, md) (.int (i : Int), md') = some (.int (e i), .fresh) := fun e i md md' hi => idx_iv e md' md (by decide) hi
  have s3 : ∀ j : Nat, j < 3 → ((j : Nat) : Int).natAbs ≤ 1000 := fun j hj => by omega
  have m3 : ∀ (j : Nat) (m m' : Mode), j < 3 → binD .mul (.int 3, m) (.int (j : Int), m') = some (.int ((3 * j : Nat) : Int), .fresh) := fun j m m' hj => by rw [mul_small m m' (by decide) (s3 j hj)]; rfl
  have m4 : ∀ (j : Nat) (m m' : Mode), j < 3 → binD .mul (.int 4, m) (.int (j : Int), m') = some (.int ((4 * j : Nat) : Int), .fresh) := fun j m m' hj => by rw [mul_small m m' (by decide) (s3 j hj)]; rfl
  have a3 : ∀ (j : Nat) (m m' : Mode), binD .add (.int 3, m) (.int (j : Int), m') = some (.int ((3 + j : Nat) : Int), .fresh) := fun j m m' => rfl
  have a6 : ∀ (j : Nat) (m m' : Mode), binD .add (.int 6, m) (.int (j : Int), m') = some (.int ((6 + j : Nat) : Int), .fresh) := fun j m m' => rfl
  have mk : ∀ (x : Int) (m m' : Mode), x.natAbs ≤ 243 → binD .mul (.int kk, m) (.int x, m') = some (.int (kk * x), .fresh) := fun x m m' hx => mul_small m m' (by exact Nat.le_trans (by assumption) (by decide)) (by exact Nat.le_trans (by assumption) (by decide))
  have kb : ∀ (x : Int) (B : Nat), x.natAbs ≤ B → (kk * x).natAbs ≤ 2 * B := fun x B hx => by rw [Int.natAbs_mul]; exact Nat.mul_le_mul hkk hx
  -- kind 1
  refine W.cons (W.ite (v := decide (kd = 1)) (by ((repeat' (first | with_reducible (first | apply eInt | apply eNil | apply idx_q0 | apply idx_q1 | apply tup01 | apply tup11 | apply add_nat1 | apply neg1 | apply eOn | apply eBool | apply eStrg | apply eV | apply eIdx | apply eBin | apply eCall | apply eCons | apply eCmp | apply eTup | apply eLen | apply eR1 | apply eR2 | apply eIl | apply eNeg | apply eOrF | apply eAndT | apply eNotT | apply eNotF | apply eVal | apply eLst | apply eSlc | apply eOs | apply eSort | apply eLr | apply eSum | apply eAbs) | exact vF rfl | exact vS rfl | exact vB rfl | exact rfl)); done)) (fun _ => ?_) (fun _ => ?_))
  · refine W.cons (W.assign (d := iv 9 (updV e 0 0)) ?_ ?_)
    · simp only [demote_zero, demote_succ, dm]
      exact ent_step rfl (by ((repeat' (first | with_reducible (first | apply eInt | apply eNil | apply idx_q0 | apply idx_q1 | apply tup01 | apply tup11 | apply add_nat1 | apply neg1 | apply eOn | apply eBool | apply eStrg | apply eV | apply eIdx | apply eBin | apply eCall | apply eCons | apply eCmp | apply eTup | apply eLen | apply eR1 | apply eR2 | apply eIl | apply eNeg | apply eOrF | apply eAndT | apply eNotT | apply eNotF | apply eVal | apply eLst | apply eSlc | apply eOs | apply eSort | apply eLr | apply eSum | apply eAbs) | exact vF rfl | exact vS rfl | exact vB rfl | exact rfl)); done)) (by ((repeat' (first | with_reducible (first | apply eInt | apply eNil | apply idx_q0 | apply idx_q1 | apply tup01 | apply tup11 | apply add_nat1 | apply neg1 | apply eOn | apply eBool | apply eStrg | apply eV | apply eIdx | apply eBin | apply eCall | apply eCons | apply eCmp | apply eTup | apply eLen | apply eR1 | apply eR2 | apply eIl | apply eNeg | apply eOrF | apply eAndT | apply eNotT | apply eNotF | apply eVal | apply eLst | apply eSlc | apply eOs | apply eSort | apply eLr | apply eSum | apply eAbs) | exact vF rfl | exact vS rfl | exact vB rfl | exact rfl)); done)) (by ((repeat' (first | with_reducible (first | apply eInt | apply eNil | apply idx_q0 | apply idx_q1 | apply tup01 | apply tup11 | apply add_nat1 | apply neg1 | apply eOn | apply eBool | apply eStrg | apply eV | apply eIdx | apply eBin | apply eCall | apply eCons | apply eCmp | apply eTup | apply eLen | apply eR1 | apply eR2 | apply eIl | apply eNeg | apply eOrF | apply eAndT | apply eNotT | apply eNotF | apply eVal | apply eLst | apply eSlc | apply eOs | apply eSort | apply eLr | apply eSum | apply eAbs) | exact vF rfl | exact vS rfl | exact vB rfl | exact rfl)); done)) (by decide)
    · simp only [demote_zero, demote_succ, dm, List.set_cons_zero, List.set_cons_succ, isList, Bool.false_and, Bool.true_and, Bool.false_and]
      exact W.nil (fin _ _ _ _ _ _ _ (up (he.upd (Nat.le_refl _) (by decide))))
  -- kind 2
  refine W.cons (W.ite (v := decide (kd = 2)) (by ((repeat' (first | with_reducible (first | apply eInt | apply eNil | apply idx_q0 | apply idx_q1 | apply tup01 | apply tup11 | apply add_nat1 | apply neg1 | apply eOn | apply eBool | apply eStrg | apply eV | apply eIdx | apply eBin | apply eCall | apply eCons | apply eCmp | apply eTup | apply eLen | apply eR1 | apply eR2 | apply eIl | apply eNeg | apply eOrF | apply eAndT | apply eNotT | apply eNotF | apply eVal | apply eLst | apply eSlc | apply eOs | apply eSort | apply eLr | apply eSum | apply eAbs) | exact vF rfl | exact vS rfl | exact vB rfl | exact rfl)); done)) (fun _ => ?_) (fun _ => ?_))
  · exact W.cons (ent_loop 3 (by decide) (fun j => 4 * j) (fun _ _ => 0) (fun j hj => by omega) (fun j e hj => by ((repeat' first | with_reducible (first | apply m4 j _ _ hj) | (first | with_reducible (first | apply eInt | apply eNil | apply idx_q0 | apply idx_q1 | apply tup01 | apply tup11 | apply add_nat1 | apply neg1 | apply eOn | apply eBool | apply eStrg | apply eV | apply eIdx | apply eBin | apply eCall | apply eCons | apply eCmp | apply eTup | apply eLen | apply eR1 | apply eR2 | apply eIl | apply eNeg | apply eOrF | apply eAndT | apply eNotT | apply eNotF | apply eVal | apply eLst | apply eSlc | apply eOs | apply eSort | apply eLr | apply eSum | apply eAbs) | exact vF rfl | exact vS rfl | exact vB rfl | exact rfl)); done)) (fun j e hj => by ((repeat' first | with_reducible (first | apply m4 j _ _ hj) | (first | with_reducible (first | apply eInt | apply eNil | apply idx_q0 | apply idx_q1 | apply tup01 | apply tup11 | apply add_nat1 | apply neg1 | apply eOn | apply eBool | apply eStrg | apply eV | apply eIdx | apply eBin | apply eCall | apply eCons | apply eCmp | apply eTup | apply eLen | apply eR1 | apply eR2 | apply eIl | apply eNeg | apply eOrF | apply eAndT | apply eNotT | apply eNotF | apply eVal | apply eLst | apply eSlc | apply eOs | apply eSort | apply eLr | apply eSum | apply eAbs) | exact vF rfl | exact vS rfl | exact vB rfl | exact rfl)); done)) (fun j e hj _ => by ((repeat' (first | with_reducible (first | apply eInt | apply eNil | apply idx_q0 | apply idx_q1 | apply tup01 | apply tup11 | apply add_nat1 | apply neg1 | apply eOn | apply eBool | apply eStrg | apply eV | apply eIdx | apply eBin | apply eCall | apply eCons | apply eCmp | apply eTup | apply eLen | apply eR1 | apply eR2 | apply eIl | apply eNeg | apply eOrF | apply eAndT | apply eNotT | apply eNotF | apply eVal | apply eLst | apply eSlc | apply eOs | apply eSort | apply eLr | apply eSum | apply eAbs) | exact vF rfl | exact vS rfl | exact vB rfl | exact rfl)); done)) (fun j e B _ _ => by simp) he fun e o hB => W.nil (W.nil (fin _ _ _ _ _ _ _ hB)))
  -- kind 3
  refine W.cons (W.ite (v := decide (kd = 3)) (by ((repeat' (first | with_reducible (first | apply eInt | apply eNil | apply idx_q0 | apply idx_q1 | apply tup01 | apply tup11 | apply add_nat1 | apply neg1 | apply eOn | apply eBool | apply eStrg | apply eV | apply eIdx | apply eBin | apply eCall | apply eCons | apply eCmp | apply eTup | apply eLen | apply eR1 | apply eR2 | apply eIl | apply eNeg | apply eOrF | apply eAndT | apply eNotT | apply eNotF | apply eVal | apply eLst | apply eSlc | apply eOs | apply eSort | apply eLr | apply eSum | apply eAbs) | exact vF rfl | exact vS rfl | exact vB rfl | exact rfl)); done)) (fun _ => ?_) (fun _ => ?_))
  · exact W.cons (ent_loop 3 (by decide) (fun j => 3 * j) (fun _ _ => 0) (fun j hj => by omega) (fun j e hj => by ((repeat' first | with_reducible (first | apply m3 j _ _ hj) | (first | with_reducible (first | apply eInt | apply eNil | apply idx_q0 | apply idx_q1 | apply tup01 | apply tup11 | apply add_nat1 | apply neg1 | apply eOn | apply eBool | apply eStrg | apply eV | apply eIdx | apply eBin | apply eCall | apply eCons | apply eCmp | apply eTup | apply eLen | apply eR1 | apply eR2 | apply eIl | apply eNeg | apply eOrF | apply eAndT | apply eNotT | apply eNotF | apply eVal | apply eLst | apply eSlc | apply eOs | apply eSort | apply eLr | apply eSum | apply eAbs) | exact vF rfl | exact vS rfl | exact vB rfl | exact rfl)); done)) (fun j e hj => by ((repeat' first | with_reducible (first | apply m3 j _ _ hj) | (first | with_reducible (first | apply eInt | apply eNil | apply idx_q0 | apply idx_q1 | apply tup01 | apply tup11 | apply add_nat1 | apply neg1 | apply eOn | apply eBool | apply eStrg | apply eV | apply eIdx | apply eBin | apply eCall | apply eCons | apply eCmp | apply eTup | apply eLen | apply eR1 | apply eR2 | apply eIl | apply eNeg | apply eOrF | apply eAndT | apply eNotT | apply eNotF | apply eVal | apply eLst | apply eSlc | apply eOs | apply eSort | apply eLr | apply eSum | apply eAbs) | exact vF rfl | exact vS rfl | exact vB rfl | exact rfl)); done)) (fun j e hj _ => by ((repeat' (first | with_reducible (first | apply eInt | apply eNil | apply idx_q0 | apply idx_q1 | apply tup01 | apply tup11 | apply add_nat1 | apply neg1 | apply eOn | apply eBool | apply eStrg | apply eV | apply eIdx | apply eBin | apply eCall | apply eCons | apply eCmp | apply eTup | apply eLen | apply eR1 | apply eR2 | apply eIl | apply eNeg | apply eOrF | apply eAndT | apply eNotT | apply eNotF | apply eVal | apply eLst | apply eSlc | apply eOs | apply eSort | apply eLr | apply eSum | apply eAbs) | exact vF rfl | exact vS rfl | exact vB rfl | exact rfl)); done)) (fun j e B _ _ => by simp) he fun e o hB => W.nil (W.nil (W.nil (fin _ _ _ _ _ _ _ hB))))
  -- kind 4
  refine W.cons (W.ite (v := decide (kd = 4)) (by ((repeat' (first | with_reducible (first | apply eInt | apply eNil | apply idx_q0 | apply idx_q1 | apply tup01 | apply tup11 | apply add_nat1 | apply neg1 | apply eOn | apply eBool | apply eStrg | apply eV | apply eIdx | apply eBin | apply eCall | apply eCons | apply eCmp | apply eTup | apply eLen | apply eR1 | apply eR2 | apply eIl | apply eNeg | apply eOrF | apply eAndT | apply eNotT | apply eNotF | apply eVal | apply eLst | apply eSlc | apply eOs | apply eSort | apply eLr | apply eSum | apply eAbs) | exact vF rfl | exact vS rfl | exact vB rfl | exact rfl)); done)) (fun _ => ?_) (fun _ => ?_))
  · exact W.cons (ent_loop 3 (by decide) (fun j => 3 + j) (fun j e => kk * e j) (fun j hj => by omega) (fun j e hj => by ((repeat' first | with_reducible (first | apply a3) | (first | with_reducible (first | apply eInt | apply eNil | apply idx_q0 | apply idx_q1 | apply tup01 | apply tup11 | apply add_nat1 | apply neg1 | apply eOn | apply eBool | apply eStrg | apply eV | apply eIdx | apply eBin | apply eCall | apply eCons | apply eCmp | apply eTup | apply eLen | apply eR1 | apply eR2 | apply eIl | apply eNeg | apply eOrF | apply eAndT | apply eNotT | apply eNotF | apply eVal | apply eLst | apply eSlc | apply eOs | apply eSort | apply eLr | apply eSum | apply eAbs) | exact vF rfl | exact vS rfl | exact vB rfl | exact rfl)) <;> simp only [cmp_eq_int, cmp_ne_int, cmp_lt_int, cmp_gt_int, cast_ne_neg1, cast_eq, decide_true, decide_false, Bool.not_true, Bool.not_false, a3])) (fun j e hj => by ((repeat' first | with_reducible (first | apply a3) | (first | with_reducible (first | apply eInt | apply eNil | apply idx_q0 | apply idx_q1 | apply tup01 | apply tup11 | apply add_nat1 | apply neg1 | apply eOn | apply eBool | apply eStrg | apply eV | apply eIdx | apply eBin | apply eCall | apply eCons | apply eCmp | apply eTup | apply eLen | apply eR1 | apply eR2 | apply eIl | apply eNeg | apply eOrF | apply eAndT | apply eNotT | apply eNotF | apply eVal | apply eLst | apply eSlc | apply eOs | apply eSort | apply eLr | apply eSum | apply eAbs) | exact vF rfl | exact vS rfl | exact vB rfl | exact rfl)) <;> simp only [cmp_eq_int, cmp_ne_int, cmp_lt_int, cmp_gt_int, cast_ne_neg1, cast_eq, decide_true, decide_false, Bool.not_true, Bool.not_false, a3])) (fun j e hj hB => by ((repeat' first | with_reducible (first | apply vm_iv | apply i4 e j _ _ (show j < 9 by (first | exact Nat.le_trans (by assumption) (by decide) | exact Nat.lt_of_lt_of_le (by assumption) (by decide))) | apply mk _ _ _ (hB j (by exact Nat.le_trans (by assumption) (by decide)))) | (first | with_reducible (first | apply eInt | apply eNil | apply idx_q0 | apply idx_q1 | apply tup01 | apply tup11 | apply add_nat1 | apply neg1 | apply eOn | apply eBool | apply eStrg | apply eV | apply eIdx | apply eBin | apply eCall | apply eCons | apply eCmp | apply eTup | apply eLen | apply eR1 | apply eR2 | apply eIl | apply eNeg | apply eOrF | apply eAndT | apply eNotT | apply eNotF | apply eVal | apply eLst | apply eSlc | apply eOs | apply eSort | apply eLr | apply eSum | apply eAbs) | exact vF rfl | exact vS rfl | exact vB rfl | exact rfl)) <;> simp only [cmp_eq_int, cmp_ne_int, cmp_lt_int, cmp_gt_int, cast_ne_neg1, cast_eq, decide_true, decide_false, Bool.not_true, Bool.not_false, vm_iv, i4 e j _ _ (show j < 9 by (first | exact Nat.le_trans (by assumption) (by decide) | exact Nat.lt_of_lt_of_le (by assumption) (by decide))), mk _ _ _ (hB j (by exact Nat.le_trans (by assumption) (by decide)))])) (fun j e B hj hB => by have := kb (e j) B (hB j (by exact Nat.le_trans (by assumption) (by decide))); omega) he fun e o hB => W.nil (W.nil (W.nil (W.nil (fin _ _ _ _ _ _ _ hB)))))
  -- kind 5
  refine W.cons (W.ite (v := decide (kd = 5)) (by ((repeat' (first | with_reducible (first | apply eInt | apply eNil | apply idx_q0 | apply idx_q1 | apply tup01 | apply tup11 | apply add_nat1 | apply neg1 | apply eOn | apply eBool | apply eStrg | apply eV | apply eIdx | apply eBin | apply eCall | apply eCons | apply eCmp | apply eTup | apply eLen | apply eR1 | apply eR2 | apply eIl | apply eNeg | apply eOrF | apply eAndT | apply eNotT | apply eNotF | apply eVal | apply eLst | apply eSlc | apply eOs | apply eSort | apply eLr | apply eSum | apply eAbs) | exact vF rfl | exact vS rfl | exact vB rfl | exact rfl)); done)) (fun _ => ?_) (fun _ => ?_))
  · exact W.cons (ent_loop 3 (by decide) (fun j => 6 + j) (fun j e => e (3 + j) + kk * e j) (fun j hj => by omega) (fun j e hj => by ((repeat' first | with_reducible (first | apply a6) | (first | with_reducible (first | apply eInt | apply eNil | apply idx_q0 | apply idx_q1 | apply tup01 | apply tup11 | apply add_nat1 | apply neg1 | apply eOn | apply eBool | apply eStrg | apply eV | apply eIdx | apply eBin | apply eCall | apply eCons | apply eCmp | apply eTup | apply eLen | apply eR1 | apply eR2 | apply eIl | apply eNeg | apply eOrF | apply eAndT | apply eNotT | apply eNotF | apply eVal | apply eLst | apply eSlc | apply eOs | apply eSort | apply eLr | apply eSum | apply eAbs) | exact vF rfl | exact vS rfl | exact vB rfl | exact rfl)); done)) (fun j e hj => by ((repeat' first | with_reducible (first | apply a6) | (first | with_reducible (first | apply eInt | apply eNil | apply idx_q0 | apply idx_q1 | apply tup01 | apply tup11 | apply add_nat1 | apply neg1 | apply eOn | apply eBool | apply eStrg | apply eV | apply eIdx | apply eBin | apply eCall | apply eCons | apply eCmp | apply eTup | apply eLen | apply eR1 | apply eR2 | apply eIl | apply eNeg | apply eOrF | apply eAndT | apply eNotT | apply eNotF | apply eVal | apply eLst | apply eSlc | apply eOs | apply eSort | apply eLr | apply eSum | apply eAbs) | exact vF rfl | exact vS rfl | exact vB rfl | exact rfl)); done)) (fun j e hj hB => by simp only [evE, evEs, evO, evI, evT, demote_zero, demote_succ, demote_nil, dm, demoteAll_eq, List.map_cons, List.map_nil, List.getElem?_cons_zero, List.getElem?_cons_succ, List.set_cons_zero, List.set_cons_succ, isList, if_true, vm_q, vm_int, vm_list, vm_own, vm_bool, vm_str, idx_q0, idx_q1, Bool.and_false, Bool.and_true, List.cons_append, List.nil_append, List.replicate, cmp_eq_int, cmp_ne_int, cmp_lt_int, cmp_gt_int, tup01, tup11, vm_qm, vm_im, neg1, add_nat1, cast_ne_neg1, cast_eq, isList_qm, isList_im, isList_q, decide_true, decide_false, Bool.not_true, Bool.not_false, vm_iv, a3, i4 e j _ _ (show j < 9 by exact Nat.le_trans (by assumption) (by decide)), i4 e (3 + j) _ _ (show 3 + j < 9 by omega), mk _ _ _ (hB j (by exact Nat.le_trans (by assumption) (by decide))), add_i]) (fun j e B hj hB => by have := kb (e j) B (hB j (by exact Nat.le_trans (by assumption) (by decide))); have := hB (3 + j) (by omega); omega) he fun e o hB => W.nil (W.nil (W.nil (W.nil (W.nil (fin _ _ _ _ _ _ _ hB))))))
  -- kind 6
  refine W.cons (W.ite (v := decide (kd = 6)) (by ((repeat' (first | with_reducible (first | apply eInt | apply eNil | apply idx_q0 | apply idx_q1 | apply tup01 | apply tup11 | apply add_nat1 | apply neg1 | apply eOn | apply eBool | apply eStrg | apply eV | apply eIdx | apply eBin | apply eCall | apply eCons | apply eCmp | apply eTup | apply eLen | apply eR1 | apply eR2 | apply eIl | apply eNeg | apply eOrF | apply eAndT | apply eNotT | apply eNotF | apply eVal | apply eLst | apply eSlc | apply eOs | apply eSort | apply eLr | apply eSum | apply eAbs) | exact vF rfl | exact vS rfl | exact vB rfl | exact rfl)); done)) (fun _ => ?_) (fun _ => ?_))
  · exact W.cons (ent_loop 2 (by decide) (fun j => 3 + j) (fun j e => kk * e j) (fun j hj => by omega) (fun j e hj => by ((repeat' first | with_reducible (first | apply a3) | (first | with_reducible (first | apply eInt | apply eNil | apply idx_q0 | apply idx_q1 | apply tup01 | apply tup11 | apply add_nat1 | apply neg1 | apply eOn | apply eBool | apply eStrg | apply eV | apply eIdx | apply eBin | apply eCall | apply eCons | apply eCmp | apply eTup | apply eLen | apply eR1 | apply eR2 | apply eIl | apply eNeg | apply eOrF | apply eAndT | apply eNotT | apply eNotF | apply eVal | apply eLst | apply eSlc | apply eOs | apply eSort | apply eLr | apply eSum | apply eAbs) | exact vF rfl | exact vS rfl | exact vB rfl | exact rfl)) <;> simp only [cmp_eq_int, cmp_ne_int, cmp_lt_int, cmp_gt_int, cast_ne_neg1, cast_eq, decide_true, decide_false, Bool.not_true, Bool.not_false, a3])) (fun j e hj => by ((repeat' first | with_reducible (first | apply a3) | (first | with_reducible (first | apply eInt | apply eNil | apply idx_q0 | apply idx_q1 | apply tup01 | apply tup11 | apply add_nat1 | apply neg1 | apply eOn | apply eBool | apply eStrg | apply eV | apply eIdx | apply eBin | apply eCall | apply eCons | apply eCmp | apply eTup | apply eLen | apply eR1 | apply eR2 | apply eIl | apply eNeg | apply eOrF | apply eAndT | apply eNotT | apply eNotF | apply eVal | apply eLst | apply eSlc | apply eOs | apply eSort | apply eLr | apply eSum | apply eAbs) | exact vF rfl | exact vS rfl | exact vB rfl | exact rfl)) <;> simp only [cmp_eq_int, cmp_ne_int, cmp_lt_int, cmp_gt_int, cast_ne_neg1, cast_eq, decide_true, decide_false, Bool.not_true, Bool.not_false, a3])) (fun j e hj hB => by ((repeat' first | with_reducible (first | apply vm_iv | apply i4 e j _ _ (show j < 9 by (first | exact Nat.le_trans (by assumption) (by decide) | exact Nat.lt_of_lt_of_le (by assumption) (by decide))) | apply mk _ _ _ (hB j (by exact Nat.le_trans (by assumption) (by decide)))) | (first | with_reducible (first | apply eInt | apply eNil | apply idx_q0 | apply idx_q1 | apply tup01 | apply tup11 | apply add_nat1 | apply neg1 | apply eOn | apply eBool | apply eStrg | apply eV | apply eIdx | apply eBin | apply eCall | apply eCons | apply eCmp | apply eTup | apply eLen | apply eR1 | apply eR2 | apply eIl | apply eNeg | apply eOrF | apply eAndT | apply eNotT | apply eNotF | apply eVal | apply eLst | apply eSlc | apply eOs | apply eSort | apply eLr | apply eSum | apply eAbs) | exact vF rfl | exact vS rfl | exact vB rfl | exact rfl)) <;> simp only [cmp_eq_int, cmp_ne_int, cmp_lt_int, cmp_gt_int, cast_ne_neg1, cast_eq, decide_true, decide_false, Bool.not_true, Bool.not_false, vm_iv, i4 e j _ _ (show j < 9 by (first | exact Nat.le_trans (by assumption) (by decide) | exact Nat.lt_of_lt_of_le (by assumption) (by decide))), mk _ _ _ (hB j (by exact Nat.le_trans (by assumption) (by decide)))])) (fun j e B hj hB => by have := kb (e j) B (hB j (by exact Nat.le_trans (by assumption) (by decide))); omega) he fun e o hB => W.nil (W.nil (W.nil (W.nil (W.nil (W.nil (fin _ _ _ _ _ _ _ hB)))))))
  -- kind 7
  refine W.cons (W.ite (v := decide (kd = 7)) (by ((repeat' (first | with_reducible (first | apply eInt | apply eNil | apply idx_q0 | apply idx_q1 | apply tup01 | apply tup11 | apply add_nat1 | apply neg1 | apply eOn | apply eBool | apply eStrg | apply eV | apply eIdx | apply eBin | apply eCall | apply eCons | apply eCmp | apply eTup | apply eLen | apply eR1 | apply eR2 | apply eIl | apply eNeg | apply eOrF | apply eAndT | apply eNotT | apply eNotF | apply eVal | apply eLst | apply eSlc | apply eOs | apply eSort | apply eLr | apply eSum | apply eAbs) | exact vF rfl | exact vS rfl | exact vB rfl | exact rfl)); done)) (fun _ => ?_) (fun _ => ?_))
  · refine W.cons (W.assign (d := .int ((ns.getD 2 0).fmod 6)) (by ((repeat' first | with_reducible (first | apply vm_scr | apply c2 | apply mod_ok _ _ d6) | (first | with_reducible (first | apply eInt | apply eNil | apply idx_q0 | apply idx_q1 | apply tup01 | apply tup11 | apply add_nat1 | apply neg1 | apply eOn | apply eBool | apply eStrg | apply eV | apply eIdx | apply eBin | apply eCall | apply eCons | apply eCmp | apply eTup | apply eLen | apply eR1 | apply eR2 | apply eIl | apply eNeg | apply eOrF | apply eAndT | apply eNotT | apply eNotF | apply eVal | apply eLst | apply eSlc | apply eOs | apply eSort | apply eLr | apply eSum | apply eAbs) | exact vF rfl | exact vS rfl | exact vB rfl | exact rfl)); done)) ?_)
    simp only [demote_zero, demote_succ, dm, List.set_cons_zero, List.set_cons_succ, isList, Bool.false_and, Bool.true_and]
    have ht := fmod_rng (ns.getD 2 0) (b := 6) (by decide)
    generalize (ns.getD 2 0).fmod 6 = t at ht ⊢
    have ht2 := fmod_rng t (b := 2) (by decide)
    refine W.cons (W.assign (d := .int (2 * t.fmod 2 - 1)) (by ((repeat' first | with_reducible (first | apply mod_ok _ _ d2 | apply mul_small _ _ (show (2 : Int).natAbs ≤ 1000 by decide) (show (t.fmod 2).natAbs ≤ 1000 by omega) | apply sub_i) | (first | with_reducible (first | apply eInt | apply eNil | apply idx_q0 | apply idx_q1 | apply tup01 | apply tup11 | apply add_nat1 | apply neg1 | apply eOn | apply eBool | apply eStrg | apply eV | apply eIdx | apply eBin | apply eCall | apply eCons | apply eCmp | apply eTup | apply eLen | apply eR1 | apply eR2 | apply eIl | apply eNeg | apply eOrF | apply eAndT | apply eNotT | apply eNotF | apply eVal | apply eLst | apply eSlc | apply eOs | apply eSort | apply eLr | apply eSum | apply eAbs) | exact vF rfl | exact vS rfl | exact vB rfl | exact rfl)); done)) ?_)
    simp only [demote_zero, demote_succ, dm, List.set_cons_zero, List.set_cons_succ, isList, Bool.false_and, Bool.true_and]
    have htr : (2 * t.fmod 2 - 1).natAbs ≤ 1 := by omega
    generalize 2 * t.fmod 2 - 1 = tr at htr ⊢
    refine W.cons (W.assign (d := iv 9 fun _ => 0) ?_ ?_)
    · have h9 := rep_ok (n := 9) (d := .int 0) (m := .fresh) (m' := .fresh) (by decide) (by decide)
      simp only [Int.ofNat_eq_natCast, Int.cast_ofNat_Int] at h9
      ((repeat' first | with_reducible (first | apply lst1i | apply h9 | apply flat1i) | (first | with_reducible (first | apply eInt | apply eNil | apply idx_q0 | apply idx_q1 | apply tup01 | apply tup11 | apply add_nat1 | apply neg1 | apply eOn | apply eBool | apply eStrg | apply eV | apply eIdx | apply eBin | apply eCall | apply eCons | apply eCmp | apply eTup | apply eLen | apply eR1 | apply eR2 | apply eIl | apply eNeg | apply eOrF | apply eAndT | apply eNotT | apply eNotF | apply eVal | apply eLst | apply eSlc | apply eOs | apply eSort | apply eLr | apply eSum | apply eAbs) | exact vF rfl | exact vS rfl | exact vB rfl | exact rfl)); done)
    simp only [demote_zero, demote_succ, dm, List.set_cons_zero, List.set_cons_succ, isList, Bool.false_and, Bool.true_and, Bool.false_and]
    refine W.cons (W.forS (ds := upto 0 n) (by ((repeat' first | with_reducible (first | apply range0_ok hn') | (first | with_reducible (first | apply eInt | apply eNil | apply idx_q0 | apply idx_q1 | apply tup01 | apply tup11 | apply add_nat1 | apply neg1 | apply eOn | apply eBool | apply eStrg | apply eV | apply eIdx | apply eBin | apply eCall | apply eCons | apply eCmp | apply eTup | apply eLen | apply eR1 | apply eR2 | apply eIl | apply eNeg | apply eOrF | apply eAndT | apply eNotT | apply eNotF | apply eVal | apply eLst | apply eSlc | apply eOs | apply eSort | apply eLr | apply eSum | apply eAbs) | exact vF rfl | exact vS rfl | exact vB rfl | exact rfl)); done)) ?_)
    simp only [demote_zero, demote_succ, dm, List.set_cons_zero, List.set_cons_succ, isList, Bool.false_and, Bool.true_and]
    refine W.loopJ (I := fun j ρ => ∃ e o8, ρ = [some ⟨false, scr ns⟩, some ⟨false, .int n⟩, some ⟨false, .int kd⟩, some ⟨false, .int kk⟩, some ⟨false, iv 9 e⟩, none, some ⟨false, .int t⟩, some ⟨false, .int tr⟩, o8] ∧ Bd 243 e) rfl rfl (Nat.zero_le _) ⟨fun _ => 0, none, rfl, fun _ _ => by simp⟩ ?_ ?_
    · rintro J1 q1 P1 r1 j ρ - hj ⟨e, o8, rfl, hB⟩
      simp only [demote_zero, demote_succ, dm, List.set_cons_zero, List.set_cons_succ, isList, Bool.false_and, Bool.true_and]
      have hnz : (n : Int) ≠ 0 := by omega
      have hr := fmod_rng (t + (j : Int) * tr) (b := (n : Int)) (by omega)
      obtain ⟨r, hr'⟩ : ∃ r : Nat, (t + (j : Int) * tr).fmod n = r := ⟨((t + (j : Int) * tr).fmod n).toNat, by omega⟩
      have hP : ∀ e, evE Φ (.bin .add (.bin .mul (.int 3) (.var 8)) (.bin .mod (.bin .add (.var 6) (.bin .mul (.var 8) (.var 7))) (.var 1))) [some ⟨false, scr ns⟩, some ⟨false, .int n⟩, some ⟨false, .int kd⟩, some ⟨false, .int kk⟩, some ⟨false, iv 9 e⟩, none, some ⟨false, .int t⟩, some ⟨false, .int tr⟩, some ⟨false, .int (j : Nat)⟩] = some (.int ((3 * j + r : Nat) : Int), .fresh) := fun e => by
        ((repeat' first | with_reducible (first | apply m3 j _ _ (by exact Nat.lt_of_lt_of_le (by assumption) (by assumption)) | apply mul_small _ _ (s3 j (by exact Nat.lt_of_lt_of_le (by assumption) (by assumption))) (show tr.natAbs ≤ 1000 by exact Nat.le_trans (by assumption) (by decide)) | apply add_i | apply mod_ok _ _ hnz | apply hr') | (first | with_reducible (first | apply eInt | apply eNil | apply idx_q0 | apply idx_q1 | apply tup01 | apply tup11 | apply add_nat1 | apply neg1 | apply eOn | apply eBool | apply eStrg | apply eV | apply eIdx | apply eBin | apply eCall | apply eCons | apply eCmp | apply eTup | apply eLen | apply eR1 | apply eR2 | apply eIl | apply eNeg | apply eOrF | apply eAndT | apply eNotT | apply eNotF | apply eVal | apply eLst | apply eSlc | apply eOs | apply eSort | apply eLr | apply eSum | apply eAbs) | exact vF rfl | exact vS rfl | exact vB rfl | exact rfl)) <;> simp only [cmp_eq_int, cmp_ne_int, cmp_lt_int, cmp_gt_int, cast_ne_neg1, cast_eq, decide_true, decide_false, Bool.not_true, Bool.not_false, m3 j _ _ (by exact Nat.lt_of_lt_of_le (by assumption) (by assumption)), mul_small _ _ (s3 j (by exact Nat.lt_of_lt_of_le (by assumption) (by assumption))) (show tr.natAbs ≤ 1000 by exact Nat.le_trans (by assumption) (by decide)), add_i, mod_ok _ _ hnz, hr'])
        rfl
      refine W.cons (W.assign (d := iv 9 (updV e (3 * j + r) 1)) ?_ ?_)
      · simp only [demote_zero, demote_succ, dm]
        refine ent_step rfl (hP e) (by ((repeat' (first | with_reducible (first | apply eInt | apply eNil | apply idx_q0 | apply idx_q1 | apply tup01 | apply tup11 | apply add_nat1 | apply neg1 | apply eOn | apply eBool | apply eStrg | apply eV | apply eIdx | apply eBin | apply eCall | apply eCons | apply eCmp | apply eTup | apply eLen | apply eR1 | apply eR2 | apply eIl | apply eNeg | apply eOrF | apply eAndT | apply eNotT | apply eNotF | apply eVal | apply eLst | apply eSlc | apply eOs | apply eSort | apply eLr | apply eSum | apply eAbs) | exact vF rfl | exact vS rfl | exact vB rfl | exact rfl)); done)) ?_ (by omega)
        rw [evE, hP e]
        ((repeat' (first | with_reducible (first | apply eInt | apply eNil | apply idx_q0 | apply idx_q1 | apply tup01 | apply tup11 | apply add_nat1 | apply neg1 | apply eOn | apply eBool | apply eStrg | apply eV | apply eIdx | apply eBin | apply eCall | apply eCons | apply eCmp | apply eTup | apply eLen | apply eR1 | apply eR2 | apply eIl | apply eNeg | apply eOrF | apply eAndT | apply eNotT | apply eNotF | apply eVal | apply eLst | apply eSlc | apply eOs | apply eSort | apply eLr | apply eSum | apply eAbs) | exact vF rfl | exact vS rfl | exact vB rfl | exact rfl)); done)
      · simp only [demote_zero, demote_succ, dm, List.set_cons_zero, List.set_cons_succ, isList, Bool.false_and, Bool.true_and, Bool.false_and]
        exact W.nil (q1 _ _ ⟨_, _, rfl, hB.upd (Nat.le_refl _) (by decide)⟩)
    · rintro ρ ⟨e, o8, rfl, hB⟩
      exact W.nil (W.nil (W.nil (W.nil (W.nil (W.nil (W.nil (fin _ _ _ _ _ _ _ hB)))))))
  -- kind 8
  refine W.cons (W.ite (v := decide (kd = 8)) (by ((repeat' (first | with_reducible (first | apply eInt | apply eNil | apply idx_q0 | apply idx_q1 | apply tup01 | apply tup11 | apply add_nat1 | apply neg1 | apply eOn | apply eBool | apply eStrg | apply eV | apply eIdx | apply eBin | apply eCall | apply eCons | apply eCmp | apply eTup | apply eLen | apply eR1 | apply eR2 | apply eIl | apply eNeg | apply eOrF | apply eAndT | apply eNotT | apply eNotF | apply eVal | apply eLst | apply eSlc | apply eOs | apply eSort | apply eLr | apply eSum | apply eAbs) | exact vF rfl | exact vS rfl | exact vB rfl | exact rfl)); done)) (fun _ => ?_) (fun _ => ?_))
  · refine W.cons (W.assign (d := iv 9 fun i => (e i).fmod 3 - 1) ?_ ?_)
    · refine comp_tab (g := fun i => .int (e i)) (by unfold lim; exact Nat.le_add_left _ _) ?_ fun c hc => ?_
      · have li : listD (iv 9 e, .shared) = some (tab 9 fun i => .int (e i)) := list_tab _ (by decide)
        ((repeat' first | with_reducible (first | apply li) | (first | with_reducible (first | apply eInt | apply eNil | apply idx_q0 | apply idx_q1 | apply tup01 | apply tup11 | apply add_nat1 | apply neg1 | apply eOn | apply eBool | apply eStrg | apply eV | apply eIdx | apply eBin | apply eCall | apply eCons | apply eCmp | apply eTup | apply eLen | apply eR1 | apply eR2 | apply eIl | apply eNeg | apply eOrF | apply eAndT | apply eNotT | apply eNotF | apply eVal | apply eLst | apply eSlc | apply eOs | apply eSort | apply eLr | apply eSum | apply eAbs) | exact vF rfl | exact vS rfl | exact vB rfl | exact rfl)); done)
      · ((repeat' first | with_reducible (first | apply innerR | apply mod_ok _ _ d3 | apply sub_i) | (first | with_reducible (first | apply eInt | apply eNil | apply idx_q0 | apply idx_q1 | apply tup01 | apply tup11 | apply add_nat1 | apply neg1 | apply eOn | apply eBool | apply eStrg | apply eV | apply eIdx | apply eBin | apply eCall | apply eCons | apply eCmp | apply eTup | apply eLen | apply eR1 | apply eR2 | apply eIl | apply eNeg | apply eOrF | apply eAndT | apply eNotT | apply eNotF | apply eVal | apply eLst | apply eSlc | apply eOs | apply eSort | apply eLr | apply eSum | apply eAbs) | exact vF rfl | exact vS rfl | exact vB rfl | exact rfl)); done)
    · simp only [demote_zero, demote_succ, dm, List.set_cons_zero, List.set_cons_succ, isList, Bool.false_and, Bool.true_and, Bool.false_and]
      refine W.nil (W.nil (W.nil (W.nil (W.nil (W.nil (W.nil (W.nil (fin _ _ _ _ _ _ _ fun i _ => ?_))))))))
      have := fmod_rng (e i) (b := 3) (by decide)
      omega
  · exact W.nil (W.nil (W.nil (W.nil (W.nil (W.nil (W.nil (W.nil (fin _ _ _ _ _ _ _ (up he)))))))))
theorem ent_run {Φ : Tab} (hC : SCell Φ) : SEnt (runN Φ) := fun ns n hl hn => by
  obtain ⟨o, e, f, rfl, h⟩ := ent_body Φ hC ns n hl hn
  exact ⟨f, run_of (f := ⟨"_law_entries", ["script", "n"], ["kind", "k", "e", "j", "t", "turn", "i"], mb__law_entries⟩) rfl ⟨_, e, rfl⟩, h⟩


noncomputable def lawL1 : List MS := mb_law.take 11
noncomputable def lawL2 : List MS := (mb_law.drop 12).take 2
noncomputable def lawL3 : List MS := mb_law.drop 16

noncomputable def parF (f : Nat → Nat → Int) (dd : Nat → Int) : Nat → Nat → Rat := fun i j => Rat.divInt (f i j) (dd i)
noncomputable def invF (n : Nat) (f : Nat → Nat → Int) (dd : Nat → Int) : Nat → Nat → Rat := fun i j => Rat.divInt (cofI n f j i * dd j) (detI n f)
noncomputable def solF (n : Nat) (f : Nat → Nat → Int) (b : Nat → Int) : Nat → Rat := fun j => Rat.divInt (detI n (crm f b j)) (detI n f)
noncomputable def invV (n : Nat) (f : Nat → Nat → Int) (dd : Nat → Int) : D := if detI n f = 0 then .str "singular" else qm n n (invF n f dd)
noncomputable def solV (n : Nat) (f : Nat → Nat → Int) (b : Nat → Int) : D := if detI n f = 0 then .str "singular" else .list (tab n fun j => qD (solF n f b j))

noncomputable def rho1 (ns : List Int) (n : Nat) (f : Nat → Nat → Int) (b dd : Nat → Int) (o12 o13 : Option Slot) : Rho :=
  [some ⟨false, scr ns⟩, some ⟨false, .int n⟩, some ⟨false, im n n f⟩, some ⟨false, iv n b⟩, some ⟨false, iv n dd⟩, some ⟨false, im n n f⟩, some ⟨false, iv n b⟩, some ⟨false, qm n n (castM f)⟩, some ⟨false, qm n n (parF f dd)⟩, some ⟨false, .int (detI n f)⟩, some ⟨false, qm n n (castM f)⟩, some ⟨false, qm n n (parF f dd)⟩, o12, o13, none]

structure Inp (n : Nat) (f : Nat → Nat → Int) (b dd : Nat → Int) : Prop where
  n3 : n ≤ 3
  f8 : ∀ i j, i < n → j < n → (f i j).natAbs < 2 ^ 8
  b8 : ∀ i, i < n → (b i).natAbs < 2 ^ 8
  d8 : ∀ i, i < n → (dd i).natAbs < 2 ^ 8 ∧ dd i ≠ 0

theorem call_q {Φ : Tab} {f : Str} {rs : List (D × Mode)} {x : Rat} {fr : Bool} (h : Φ f (rs.map (·.1)) = some (qD x, fr)) (ha : allOk rs = true) : callD Φ f rs = some (qD x, .fresh) := by
  unfold callD; rw [h]; cases fr <;> simp [ha, norm, isAtom, isList, qD]
theorem call_b {Φ : Tab} {f : Str} {rs : List (D × Mode)} {x : Bool} {fr : Bool} (h : Φ f (rs.map (·.1)) = some (.bool x, fr)) : callD Φ f rs = some (.bool x, .fresh) := by
  unfold callD; rw [h]; cases fr <;> simp [norm, isAtom]
theorem slc_iv {n : Nat} (b : Nat → Int) (hn : n ≤ 64) : slcD (iv n b, .shared) none none = some (iv n b, .fresh) := slc_row (g := fun i => .int (b i)) (fun _ => rfl) hn
theorem ex_q {Φ : Tab} (hE : SExact Φ) {n m : Nat} (B : Nat → Nat → Rat) {md md' : Mode} (hn : n ≤ 64) (hm : m ≤ 64) : callD Φ "_law_exact" [(qm n m B, md), (qm n m B, md')] = some (.bool true, .fresh) := call_b (hE n m (fun i j => (B i j).num) (fun i j => (B i j).den) hn hm)
theorem castM_q (f : Nat → Nat → Int) (i j : Nat) : PyData.tuple [.int (f i j), .int 1] = qD (castM f i j) := rfl

theorem law_one {Φ : Tab} (hC : SCell Φ) (hE : SEnt Φ) (hQ : SPair Φ) (hD : SDet Φ) (hI : SInts Φ) (hF : SFrac Φ) (hX : SExact Φ) (ns : List Int) (hl : ns.length ≤ 63) :
    ∃ n f b dd, Inp n f b dd ∧ exSs Φ NN lawL1 (slots [scr ns] 14) = some (.next (rho1 ns n f b dd none none)) := by
  have r4 := fmod_rng (ns.getD 0 0) (b := 4) (by decide)
  obtain ⟨n, hn0⟩ : ∃ n : Nat, (ns.getD 0 0).fmod 4 = n := ⟨((ns.getD 0 0).fmod 4).toNat, by omega⟩
  have hn : n ≤ 3 := by omega
  have hn' : n ≤ 64 := by exact Nat.le_trans (by assumption) (by decide)
  obtain ⟨f, hf, hz⟩ := hE ns n hl hn
  have INP : Inp n f (fun i => (ns.getD (11 + i) 0).fmod 19 - 9) (fun i => 1 + (ns.getD (14 + i) 0).fmod 6) := by
    refine ⟨hn, hz, fun i _ => ?_, fun i _ => ?_⟩
    · have := fmod_rng (ns.getD (11 + i) 0) (b := 19) (by decide)
      show ((ns.getD (11 + i) 0).fmod 19 - 9).natAbs < 2 ^ 8
      omega
    · have := fmod_rng (ns.getD (14 + i) 0) (b := 6) (by decide)
      show (1 + (ns.getD (14 + i) 0).fmod 6).natAbs < 2 ^ 8 ∧ 1 + (ns.getD (14 + i) 0).fmod 6 ≠ 0
      omega
  suffices h : W (exSs Φ NN lawL1 (slots [scr ns] 14)) (· = .next (rho1 ns n f (fun i => (ns.getD (11 + i) 0).fmod 19 - 9) (fun i => 1 + (ns.getD (14 + i) 0).fmod 6) none none)) by
    obtain ⟨o, e, rfl⟩ := h
    exact ⟨n, f, _, _, INP, e⟩
  have d4 : (4 : Int) ≠ 0 := by decide
  have d19 : (19 : Int) ≠ 0 := by decide
  have d6 : (6 : Int) ≠ 0 := by decide
  simp only [lawL1, mb_law, List.take_succ_cons, List.take_zero, List.map_cons, List.map_nil, List.cons_append, List.nil_append, List.replicate, slots]
  have c0 := call_cell hC (ns := ns) 0 (k := 0) rfl hl (by decide)
  refine W.cons (W.assign (d := .int (n : Nat)) (by ((repeat' first | with_reducible (first | apply vm_scr | apply c0 | apply mod_ok _ _ d4 | apply hn0) | (first | with_reducible (first | apply eInt | apply eNil | apply idx_q0 | apply idx_q1 | apply tup01 | apply tup11 | apply add_nat1 | apply neg1 | apply eOn | apply eBool | apply eStrg | apply eV | apply eIdx | apply eBin | apply eCall | apply eCons | apply eCmp | apply eTup | apply eLen | apply eR1 | apply eR2 | apply eIl | apply eNeg | apply eOrF | apply eAndT | apply eNotT | apply eNotF | apply eVal | apply eLst | apply eSlc | apply eOs | apply eSort | apply eLr | apply eSum | apply eAbs) | exact vF rfl | exact vS rfl | exact vB rfl | exact rfl)) <;> simp only [cmp_eq_int, cmp_ne_int, cmp_lt_int, cmp_gt_int, cast_ne_neg1, cast_eq, decide_true, decide_false, Bool.not_true, Bool.not_false, vm_scr, c0, mod_ok _ _ d4, hn0])) ?_)
  simp only [demote_zero, demote_succ, dm, List.set_cons_zero, List.set_cons_succ, isList, Bool.false_and, Bool.true_and]
  have ce : callD Φ "_law_entries" [(scr ns, .shared), (.int (n : Int), .fresh)] = some (im n n f, .fresh) := call_ok hf rfl
  refine W.cons (W.assign (d := im n n f) (by ((repeat' first | with_reducible (first | apply vm_scr | apply ce) | (first | with_reducible (first | apply eInt | apply eNil | apply idx_q0 | apply idx_q1 | apply tup01 | apply tup11 | apply add_nat1 | apply neg1 | apply eOn | apply eBool | apply eStrg | apply eV | apply eIdx | apply eBin | apply eCall | apply eCons | apply eCmp | apply eTup | apply eLen | apply eR1 | apply eR2 | apply eIl | apply eNeg | apply eOrF | apply eAndT | apply eNotT | apply eNotF | apply eVal | apply eLst | apply eSlc | apply eOs | apply eSort | apply eLr | apply eSum | apply eAbs) | exact vF rfl | exact vS rfl | exact vB rfl | exact rfl)); done)) ?_)
  simp only [demote_zero, demote_succ, dm, List.set_cons_zero, List.set_cons_succ, isList, Bool.false_and, Bool.true_and]
  refine W.cons (W.assign (d := iv n fun i => (ns.getD (11 + i) 0).fmod 19 - 9) ?_ ?_)
  · refine comp_tab (g := fun i => .int (i : Nat)) (le_lim (by assumption)) (by ((repeat' first | with_reducible (first | apply range0_tab hn') | (first | with_reducible (first | apply eInt | apply eNil | apply idx_q0 | apply idx_q1 | apply tup01 | apply tup11 | apply add_nat1 | apply neg1 | apply eOn | apply eBool | apply eStrg | apply eV | apply eIdx | apply eBin | apply eCall | apply eCons | apply eCmp | apply eTup | apply eLen | apply eR1 | apply eR2 | apply eIl | apply eNeg | apply eOrF | apply eAndT | apply eNotT | apply eNotF | apply eVal | apply eLst | apply eSlc | apply eOs | apply eSort | apply eLr | apply eSum | apply eAbs) | exact vF rfl | exact vS rfl | exact vB rfl | exact rfl)); done)) fun i hi => ?_
    have cc := call_cell hC (ns := ns) (11 + i) (k := 11 + (i : Int)) (by omega) hl (by omega)
    ((repeat' first | with_reducible (first | apply innerR | apply vm_scr | apply add_i | apply cc | apply mod_ok _ _ d19 | apply sub_i) | (first | with_reducible (first | apply eInt | apply eNil | apply idx_q0 | apply idx_q1 | apply tup01 | apply tup11 | apply add_nat1 | apply neg1 | apply eOn | apply eBool | apply eStrg | apply eV | apply eIdx | apply eBin | apply eCall | apply eCons | apply eCmp | apply eTup | apply eLen | apply eR1 | apply eR2 | apply eIl | apply eNeg | apply eOrF | apply eAndT | apply eNotT | apply eNotF | apply eVal | apply eLst | apply eSlc | apply eOs | apply eSort | apply eLr | apply eSum | apply eAbs) | exact vF rfl | exact vS rfl | exact vB rfl | exact rfl)); done)
  simp only [demote_zero, demote_succ, dm, List.set_cons_zero, List.set_cons_succ, isList, Bool.false_and, Bool.true_and]
  refine W.cons (W.assign (d := iv n fun i => 1 + (ns.getD (14 + i) 0).fmod 6) ?_ ?_)
  · refine comp_tab (g := fun i => .int (i : Nat)) (le_lim (by assumption)) (by ((repeat' first | with_reducible (first | apply range0_tab hn') | (first | with_reducible (first | apply eInt | apply eNil | apply idx_q0 | apply idx_q1 | apply tup01 | apply tup11 | apply add_nat1 | apply neg1 | apply eOn | apply eBool | apply eStrg | apply eV | apply eIdx | apply eBin | apply eCall | apply eCons | apply eCmp | apply eTup | apply eLen | apply eR1 | apply eR2 | apply eIl | apply eNeg | apply eOrF | apply eAndT | apply eNotT | apply eNotF | apply eVal | apply eLst | apply eSlc | apply eOs | apply eSort | apply eLr | apply eSum | apply eAbs) | exact vF rfl | exact vS rfl | exact vB rfl | exact rfl)); done)) fun i hi => ?_
    have cc := call_cell hC (ns := ns) (14 + i) (k := 14 + (i : Int)) (by omega) hl (by omega)
    ((repeat' first | with_reducible (first | apply innerR | apply vm_scr | apply add_i | apply cc | apply mod_ok _ _ d6) | (first | with_reducible (first | apply eInt | apply eNil | apply idx_q0 | apply idx_q1 | apply tup01 | apply tup11 | apply add_nat1 | apply neg1 | apply eOn | apply eBool | apply eStrg | apply eV | apply eIdx | apply eBin | apply eCall | apply eCons | apply eCmp | apply eTup | apply eLen | apply eR1 | apply eR2 | apply eIl | apply eNeg | apply eOrF | apply eAndT | apply eNotT | apply eNotF | apply eVal | apply eLst | apply eSlc | apply eOs | apply eSort | apply eLr | apply eSum | apply eAbs) | exact vF rfl | exact vS rfl | exact vB rfl | exact rfl)); done)
  simp only [demote_zero, demote_succ, dm, List.set_cons_zero, List.set_cons_succ, isList, Bool.false_and, Bool.true_and]
  generalize (fun i => (ns.getD (11 + i) 0).fmod 19 - 9 : Nat → Int) = b at INP ⊢
  generalize (fun i => 1 + (ns.getD (14 + i) 0).fmod 6 : Nat → Int) = dd at INP ⊢
  have hcopy : ∀ o4 o5 : Option Slot, evE Φ (.comp (.lst (.var 2)) (.slc (.var 15) .none .none)) [some ⟨false, scr ns⟩, some ⟨false, .int n⟩, some ⟨false, im n n f⟩, some ⟨false, iv n b⟩, o4, o5, none, none, none, none, none, none, none, none, none] = some (im n n f, .fresh) := fun o4 o5 => by
    refine comp_tab (g := fun i => .list (tab n fun j => .int (f i j))) (le_lim (by assumption)) (by ((repeat' first | with_reducible (first | apply list_im f hn') | (first | with_reducible (first | apply eInt | apply eNil | apply idx_q0 | apply idx_q1 | apply tup01 | apply tup11 | apply add_nat1 | apply neg1 | apply eOn | apply eBool | apply eStrg | apply eV | apply eIdx | apply eBin | apply eCall | apply eCons | apply eCmp | apply eTup | apply eLen | apply eR1 | apply eR2 | apply eIl | apply eNeg | apply eOrF | apply eAndT | apply eNotT | apply eNotF | apply eVal | apply eLst | apply eSlc | apply eOs | apply eSort | apply eLr | apply eSum | apply eAbs) | exact vF rfl | exact vS rfl | exact vB rfl | exact rfl)); done)) fun i hi => ?_
    ((repeat' first | with_reducible (first | apply innerR | apply slc_row (g := fun j => .int (f i j)) (fun _ => rfl) hn') | (first | with_reducible (first | apply eInt | apply eNil | apply idx_q0 | apply idx_q1 | apply tup01 | apply tup11 | apply add_nat1 | apply neg1 | apply eOn | apply eBool | apply eStrg | apply eV | apply eIdx | apply eBin | apply eCall | apply eCons | apply eCmp | apply eTup | apply eLen | apply eR1 | apply eR2 | apply eIl | apply eNeg | apply eOrF | apply eAndT | apply eNotT | apply eNotF | apply eVal | apply eLst | apply eSlc | apply eOs | apply eSort | apply eLr | apply eSum | apply eAbs) | exact vF rfl | exact vS rfl | exact vB rfl | exact rfl)); done)
  refine W.cons (W.unpack2 (a := im n n f) (b := iv n b) ?_ (by decide) ?_)
  · ((repeat' first | with_reducible (first | apply hcopy | apply slc_iv b hn') | (first | with_reducible (first | apply eInt | apply eNil | apply idx_q0 | apply idx_q1 | apply tup01 | apply tup11 | apply add_nat1 | apply neg1 | apply eOn | apply eBool | apply eStrg | apply eV | apply eIdx | apply eBin | apply eCall | apply eCons | apply eCmp | apply eTup | apply eLen | apply eR1 | apply eR2 | apply eIl | apply eNeg | apply eOrF | apply eAndT | apply eNotT | apply eNotF | apply eVal | apply eLst | apply eSlc | apply eOs | apply eSort | apply eLr | apply eSum | apply eAbs) | exact vF rfl | exact vS rfl | exact vB rfl | exact rfl)); done)
  simp only [demote_zero, demote_succ, dm, List.set_cons_zero, List.set_cons_succ, isList, Bool.false_and, Bool.true_and]
  refine W.cons (W.assign (d := qm n n (castM f)) ?_ ?_)
  · refine comp_tab (g := fun i => .list (tab n fun j => .int (f i j))) (le_lim (by assumption)) (by ((repeat' first | with_reducible (first | apply list_im f hn') | (first | with_reducible (first | apply eInt | apply eNil | apply idx_q0 | apply idx_q1 | apply tup01 | apply tup11 | apply add_nat1 | apply neg1 | apply eOn | apply eBool | apply eStrg | apply eV | apply eIdx | apply eBin | apply eCall | apply eCons | apply eCmp | apply eTup | apply eLen | apply eR1 | apply eR2 | apply eIl | apply eNeg | apply eOrF | apply eAndT | apply eNotT | apply eNotF | apply eVal | apply eLst | apply eSlc | apply eOs | apply eSort | apply eLr | apply eSum | apply eAbs) | exact vF rfl | exact vS rfl | exact vB rfl | exact rfl)); done)) fun i hi => ?_
    refine comp_tab (g := fun j => .int (f i j)) (le_lim (by assumption)) (by ((repeat' first | with_reducible (first | apply innerR | apply list_tab _ hn') | (first | with_reducible (first | apply eInt | apply eNil | apply idx_q0 | apply idx_q1 | apply tup01 | apply tup11 | apply add_nat1 | apply neg1 | apply eOn | apply eBool | apply eStrg | apply eV | apply eIdx | apply eBin | apply eCall | apply eCons | apply eCmp | apply eTup | apply eLen | apply eR1 | apply eR2 | apply eIl | apply eNeg | apply eOrF | apply eAndT | apply eNotT | apply eNotF | apply eVal | apply eLst | apply eSlc | apply eOs | apply eSort | apply eLr | apply eSum | apply eAbs) | exact vF rfl | exact vS rfl | exact vB rfl | exact rfl)); done)) fun j hj => ?_
    ((repeat' (first | with_reducible (first | apply eInt | apply eNil | apply idx_q0 | apply idx_q1 | apply tup01 | apply tup11 | apply add_nat1 | apply neg1 | apply eOn | apply eBool | apply eStrg | apply eV | apply eIdx | apply eBin | apply eCall | apply eCons | apply eCmp | apply eTup | apply eLen | apply eR1 | apply eR2 | apply eIl | apply eNeg | apply eOrF | apply eAndT | apply eNotT | apply eNotF | apply eVal | apply eLst | apply eSlc | apply eOs | apply eSort | apply eLr | apply eSum | apply eAbs) | exact vF rfl | exact vS rfl | exact vB rfl | exact rfl)); done)
  simp only [demote_zero, demote_succ, dm, List.set_cons_zero, List.set_cons_succ, isList, Bool.false_and, Bool.true_and, Bool.false_and]
  have pc : ∀ i j, i < n → j < n → callD Φ "_law_pair" [(.int (f i j), .fresh), (.int (dd i), .fresh)] = some (qD (parF f dd i j), .fresh) := fun i j hi hj => call_ok (hQ _ _ (INP.d8 i hi).2 (lim_of (hz i j hi hj) (by decide)) (lim_of (INP.d8 i hi).1 (by decide))) rfl
  have fc : ∀ i j, i < n → j < n → callD Φ "frac" [(.int (f i j), .fresh), (.int (dd i), .fresh)] = some (qD (parF f dd i j), .fresh) := fun i j hi hj => call_ok (hF _ _ (INP.d8 i hi).2 (lim_of (hz i j hi hj) (by decide)) (lim_of (INP.d8 i hi).1 (by decide))) rfl
  refine W.cons (W.assign (d := qm n n (parF f dd)) ?_ ?_)
  · refine comp_tab (g := fun i => .int (i : Nat)) (le_lim (by assumption)) (by ((repeat' first | with_reducible (first | apply range0_tab hn') | (first | with_reducible (first | apply eInt | apply eNil | apply idx_q0 | apply idx_q1 | apply tup01 | apply tup11 | apply add_nat1 | apply neg1 | apply eOn | apply eBool | apply eStrg | apply eV | apply eIdx | apply eBin | apply eCall | apply eCons | apply eCmp | apply eTup | apply eLen | apply eR1 | apply eR2 | apply eIl | apply eNeg | apply eOrF | apply eAndT | apply eNotT | apply eNotF | apply eVal | apply eLst | apply eSlc | apply eOs | apply eSort | apply eLr | apply eSum | apply eAbs) | exact vF rfl | exact vS rfl | exact vB rfl | exact rfl)); done)) fun i hi => ?_
    refine comp_tab (g := fun i => .int (i : Nat)) (le_lim (by assumption)) (by ((repeat' first | with_reducible (first | apply innerR | apply range0_tab hn') | (first | with_reducible (first | apply eInt | apply eNil | apply idx_q0 | apply idx_q1 | apply tup01 | apply tup11 | apply add_nat1 | apply neg1 | apply eOn | apply eBool | apply eStrg | apply eV | apply eIdx | apply eBin | apply eCall | apply eCons | apply eCmp | apply eTup | apply eLen | apply eR1 | apply eR2 | apply eIl | apply eNeg | apply eOrF | apply eAndT | apply eNotT | apply eNotF | apply eVal | apply eLst | apply eSlc | apply eOs | apply eSort | apply eLr | apply eSum | apply eAbs) | exact vF rfl | exact vS rfl | exact vB rfl | exact rfl)); done)) fun j hj => ?_
    ((repeat' first | with_reducible (first | apply innerR | apply vm_iv | apply idx_im f _ hn' hi | apply idx_ir (f i) _ _ hn' hj | apply idx_iv dd _ _ hn' hi | apply pc i j hi hj) | (first | with_reducible (first | apply eInt | apply eNil | apply idx_q0 | apply idx_q1 | apply tup01 | apply tup11 | apply add_nat1 | apply neg1 | apply eOn | apply eBool | apply eStrg | apply eV | apply eIdx | apply eBin | apply eCall | apply eCons | apply eCmp | apply eTup | apply eLen | apply eR1 | apply eR2 | apply eIl | apply eNeg | apply eOrF | apply eAndT | apply eNotT | apply eNotF | apply eVal | apply eLst | apply eSlc | apply eOs | apply eSort | apply eLr | apply eSum | apply eAbs) | exact vF rfl | exact vS rfl | exact vB rfl | exact rfl)); done)
  simp only [demote_zero, demote_succ, dm, List.set_cons_zero, List.set_cons_succ, isList, Bool.false_and, Bool.true_and, Bool.false_and]
  have hd : callD Φ "_law_det" [(im n n f, .shared)] = some (.int (detI n f), .fresh) := call_int' (hD n f hn hz)
  refine W.cons (W.assign (d := .int (detI n f)) (by ((repeat' first | with_reducible (first | apply hd) | (first | with_reducible (first | apply eInt | apply eNil | apply idx_q0 | apply idx_q1 | apply tup01 | apply tup11 | apply add_nat1 | apply neg1 | apply eOn | apply eBool | apply eStrg | apply eV | apply eIdx | apply eBin | apply eCall | apply eCons | apply eCmp | apply eTup | apply eLen | apply eR1 | apply eR2 | apply eIl | apply eNeg | apply eOrF | apply eAndT | apply eNotT | apply eNotF | apply eVal | apply eLst | apply eSlc | apply eOs | apply eSort | apply eLr | apply eSum | apply eAbs) | exact vF rfl | exact vS rfl | exact vB rfl | exact rfl)); done)) ?_)
  simp only [demote_zero, demote_succ, dm, List.set_cons_zero, List.set_cons_succ, isList, Bool.false_and, Bool.true_and, Bool.false_and]
  have hi' : callD Φ "from_ints" [(im n n f, .shared)] = some (qm n n (castM f), .fresh) := call_ok (hI n n f hn' hn') rfl
  refine W.cons (W.assign (d := qm n n (castM f)) (by ((repeat' first | with_reducible (first | apply hi') | (first | with_reducible (first | apply eInt | apply eNil | apply idx_q0 | apply idx_q1 | apply tup01 | apply tup11 | apply add_nat1 | apply neg1 | apply eOn | apply eBool | apply eStrg | apply eV | apply eIdx | apply eBin | apply eCall | apply eCons | apply eCmp | apply eTup | apply eLen | apply eR1 | apply eR2 | apply eIl | apply eNeg | apply eOrF | apply eAndT | apply eNotT | apply eNotF | apply eVal | apply eLst | apply eSlc | apply eOs | apply eSort | apply eLr | apply eSum | apply eAbs) | exact vF rfl | exact vS rfl | exact vB rfl | exact rfl)); done)) ?_)
  simp only [demote_zero, demote_succ, dm, List.set_cons_zero, List.set_cons_succ, isList, Bool.false_and, Bool.true_and, Bool.false_and]
  refine W.cons (W.assign (d := qm n n (parF f dd)) ?_ ?_)
  · refine comp_tab (g := fun i => .int (i : Nat)) (le_lim (by assumption)) (by ((repeat' first | with_reducible (first | apply range0_tab hn') | (first | with_reducible (first | apply eInt | apply eNil | apply idx_q0 | apply idx_q1 | apply tup01 | apply tup11 | apply add_nat1 | apply neg1 | apply eOn | apply eBool | apply eStrg | apply eV | apply eIdx | apply eBin | apply eCall | apply eCons | apply eCmp | apply eTup | apply eLen | apply eR1 | apply eR2 | apply eIl | apply eNeg | apply eOrF | apply eAndT | apply eNotT | apply eNotF | apply eVal | apply eLst | apply eSlc | apply eOs | apply eSort | apply eLr | apply eSum | apply eAbs) | exact vF rfl | exact vS rfl | exact vB rfl | exact rfl)); done)) fun i hi => ?_
    refine comp_tab (g := fun i => .int (i : Nat)) (le_lim (by assumption)) (by ((repeat' first | with_reducible (first | apply innerR | apply range0_tab hn') | (first | with_reducible (first | apply eInt | apply eNil | apply idx_q0 | apply idx_q1 | apply tup01 | apply tup11 | apply add_nat1 | apply neg1 | apply eOn | apply eBool | apply eStrg | apply eV | apply eIdx | apply eBin | apply eCall | apply eCons | apply eCmp | apply eTup | apply eLen | apply eR1 | apply eR2 | apply eIl | apply eNeg | apply eOrF | apply eAndT | apply eNotT | apply eNotF | apply eVal | apply eLst | apply eSlc | apply eOs | apply eSort | apply eLr | apply eSum | apply eAbs) | exact vF rfl | exact vS rfl | exact vB rfl | exact rfl)); done)) fun j hj => ?_
    ((repeat' first | with_reducible (first | apply innerR | apply vm_iv | apply idx_im f _ hn' hi | apply idx_ir (f i) _ _ hn' hj | apply idx_iv dd _ _ hn' hi | apply fc i j hi hj) | (first | with_reducible (first | apply eInt | apply eNil | apply idx_q0 | apply idx_q1 | apply tup01 | apply tup11 | apply add_nat1 | apply neg1 | apply eOn | apply eBool | apply eStrg | apply eV | apply eIdx | apply eBin | apply eCall | apply eCons | apply eCmp | apply eTup | apply eLen | apply eR1 | apply eR2 | apply eIl | apply eNeg | apply eOrF | apply eAndT | apply eNotT | apply eNotF | apply eVal | apply eLst | apply eSlc | apply eOs | apply eSort | apply eLr | apply eSum | apply eAbs) | exact vF rfl | exact vS rfl | exact vB rfl | exact rfl)); done)
  simp only [demote_zero, demote_succ, dm, List.set_cons_zero, List.set_cons_succ, isList, Bool.false_and, Bool.true_and, Bool.false_and]
  refine W.cons (W.skip (by ((repeat' first | with_reducible (first | apply ex_q hX (castM f) hn' hn' | apply ex_q hX (parF f dd) hn' hn') | (first | with_reducible (first | apply eInt | apply eNil | apply idx_q0 | apply idx_q1 | apply tup01 | apply tup11 | apply add_nat1 | apply neg1 | apply eOn | apply eBool | apply eStrg | apply eV | apply eIdx | apply eBin | apply eCall | apply eCons | apply eCmp | apply eTup | apply eLen | apply eR1 | apply eR2 | apply eIl | apply eNeg | apply eOrF | apply eAndT | apply eNotT | apply eNotF | apply eVal | apply eLst | apply eSlc | apply eOs | apply eSort | apply eLr | apply eSum | apply eAbs) | exact vF rfl | exact vS rfl | exact vB rfl | exact rfl)); done)) (W.nil rfl))

theorem law_two {Φ : Tab} (hL : SLeib Φ) (hB : SBar Φ) (hG : SElim Φ) (hX : SExact Φ) (hU : SLuH Φ) {ns : List Int} {n : Nat} {f : Nat → Nat → Int} {b dd : Nat → Int} (h : Inp n f b dd) : exSs Φ NN lawL2 (rho1 ns n f b dd none none) = some (.next (rho1 ns n f b dd none none)) := by
  suffices hh : W (exSs Φ NN lawL2 (rho1 ns n f b dd none none)) (· = .next (rho1 ns n f b dd none none)) by
    obtain ⟨o, e, rfl⟩ := hh
    exact e
  simp only [lawL2, mb_law, List.drop_succ_cons, List.drop_zero, List.take_succ_cons, List.take_zero, rho1]
  obtain ⟨fr1, e1⟩ := hL n f h.n3 h.f8
  obtain ⟨fr2, e2⟩ := hB n f h.n3 h.f8
  obtain ⟨fr3, e3⟩ := hG n (castM f) h.n3 fun i j hi hj => cast_sz (h.f8 i j hi hj)
  rw [det_cast h.n3] at e3
  have c1 : callD Φ "det_by_leibniz" [(im n n f, .shared)] = some (.int (detI n f), .fresh) := call_int' e1
  have c2 : callD Φ "det_bareiss" [(im n n f, .shared)] = some (.int (detI n f), .fresh) := call_int' e2
  have c3 : callD Φ "det_by_elimination" [(qm n n (castM f), .shared)] = some (qD (detI n f : Rat), .fresh) := call_q e3 rfl
  have c4 : callD Φ "_law_lu_holds" [(im n n f, .shared), (qm n n (castM f), .shared), (.int (detI n f), .fresh)] = some (.bool true, .fresh) := call_b (hU n f h.n3 h.f8)
  generalize detI n f = D at *
  have c5 : callD Φ "_law_exact" [(.list [.list [.tuple [.int D, .int D], qD (D : Rat)]], .fresh), (.list [.list [.tuple [.int D, .int D], .tuple [.int D, .int 1]]], .fresh)] = some (.bool true, .fresh) := call_b (hX 1 2 (fun _ _ => D) (fun _ j => if j = 0 then D else 1) (by decide) (by decide))
  have t1 : tupD [(.int D, .fresh), (.int D, .fresh)] = some (.tuple [.int D, .int D], .fresh) := rfl
  have t2 : tupD [(.int D, .fresh), (.int 1, .fresh)] = some (.tuple [.int D, .int 1], .fresh) := rfl
  have l1 : lstD [(.tuple [.int D, .int D], .fresh), (qD (D : Rat), .fresh)] = some (.list [.tuple [.int D, .int D], qD (D : Rat)], .fresh) := rfl
  have l2 : lstD [(.tuple [.int D, .int D], .fresh), (.tuple [.int D, .int 1], .fresh)] = some (.list [.tuple [.int D, .int D], .tuple [.int D, .int 1]], .fresh) := rfl
  have l3 : ∀ x, lstD [(.list x, .fresh)] = some (.list [.list x], .fresh) := fun _ => rfl
  refine W.cons (W.skip (by ((repeat' first | with_reducible (first | apply c1 | apply c2 | apply c3 | apply t1 | apply t2 | apply l1 | apply l2 | apply l3 | apply c5) | (first | with_reducible (first | apply eInt | apply eNil | apply idx_q0 | apply idx_q1 | apply tup01 | apply tup11 | apply add_nat1 | apply neg1 | apply eOn | apply eBool | apply eStrg | apply eV | apply eIdx | apply eBin | apply eCall | apply eCons | apply eCmp | apply eTup | apply eLen | apply eR1 | apply eR2 | apply eIl | apply eNeg | apply eOrF | apply eAndT | apply eNotT | apply eNotF | apply eVal | apply eLst | apply eSlc | apply eOs | apply eSort | apply eLr | apply eSum | apply eAbs) | exact vF rfl | exact vS rfl | exact vB rfl | exact rfl)); done)) ?_)
  refine W.cons (W.skip (by ((repeat' first | with_reducible (first | apply c4) | (first | with_reducible (first | apply eInt | apply eNil | apply idx_q0 | apply idx_q1 | apply tup01 | apply tup11 | apply add_nat1 | apply neg1 | apply eOn | apply eBool | apply eStrg | apply eV | apply eIdx | apply eBin | apply eCall | apply eCons | apply eCmp | apply eTup | apply eLen | apply eR1 | apply eR2 | apply eIl | apply eNeg | apply eOrF | apply eAndT | apply eNotT | apply eNotF | apply eVal | apply eLst | apply eSlc | apply eOs | apply eSort | apply eLr | apply eSum | apply eAbs) | exact vF rfl | exact vS rfl | exact vB rfl | exact rfl)); done)) (W.nil rfl))

noncomputable def minQ : Nat → (Nat → Nat → Rat) → Nat → Nat → Rat
  | 2, f, i, j => f (sk i 0) (sk j 0)
  | 3, f, i, j => f (sk i 0) (sk j 0) * f (sk i 1) (sk j 1) - f (sk i 0) (sk j 1) * f (sk i 1) (sk j 0)
  | _, _, _, _ => 1
noncomputable def cofQ (n : Nat) (f : Nat → Nat → Rat) (i j : Nat) : Rat := if (i + j) % 2 = 1 then -minQ n f i j else minQ n f i j
theorem cof_cast {n : Nat} (hn : n ≤ 3) (f : Nat → Nat → Int) (i j : Nat) : cofQ n (castM f) i j = (cofI n f i j : Rat) := by
  have : minQ n (castM f) i j = (minr n f i j : Rat) := by
    rcases n4 hn with rfl | rfl | rfl | rfl
    · simp [minQ, minr]
    · simp [minQ, minr]
    · simp [minQ, minr, castM]
    · simp [minQ, minr, castM, Rat.intCast_mul, Rat.intCast_sub]
  unfold cofQ cofI
  split
  · rw [this, Rat.intCast_neg]
  · exact this
theorem inv_cof {n : Nat} (hn : n ≤ 3) (S F : Nat → Nat → Rat) (h : ∀ i j, i < n → j < n → sm n (fun k => S i k * F k j) = dl i j) {i r : Nat} (hi : i < n) (hr : r < n) : S i r * detQ n F = cofQ n F r i := by
  have key : S i r * detQ n F = sm n fun j => sm n (fun k => S i k * F k j) * cofQ n F r j := by
    rcases n4 hn with rfl | rfl | rfl | rfl
    · omega
    · obtain rfl := n1 hr
      obtain rfl := n1 hi
      simp [sm, cofQ, minQ, detQ]; grind
    · rcases n2 hr with rfl | rfl <;> (simp [sm, cofQ, minQ, detQ, sk]; grind)
    · rcases n3 hr with rfl | rfl | rfl <;> (simp [sm, cofQ, minQ, detQ, sk]; grind)
  rw [key, sm_ext (g := fun j => dl i j * cofQ n F r j) fun j hj => by rw [h i j hi hj]]
  exact (sm_dl n i fun j => cofQ n F r j).1 hi

theorem div_eq {a b : Int} {x : Rat} (hb : b ≠ 0) (h : x * (b : Rat) = (a : Rat)) : x = Rat.divInt a b := by
  have hb' : (b : Rat) ≠ 0 := fun e => hb (Rat.intCast_eq_zero_iff.mp e)
  rw [Rat.divInt_eq_div, ← h, Rat.mul_div_cancel hb']
theorem par_eq {f : Nat → Nat → Int} {dd : Nat → Int} {i j : Nat} (hd : dd i ≠ 0) : parF f dd i j * (dd i : Rat) = castM f i j := by
  unfold parF castM
  have hb' : (dd i : Rat) ≠ 0 := fun e => hd (Rat.intCast_eq_zero_iff.mp e)
  rw [Rat.divInt_eq_div, Rat.div_mul_cancel hb']
theorem par_det {n : Nat} {f : Nat → Nat → Int} {b dd : Nat → Int} (h : Inp n f b dd) : detQ n (parF f dd) = 0 ↔ detI n f = 0 := by
  have hx : ∀ i, i < n → (dd i : Rat) ≠ 0 := fun i hi e => (h.d8 i hi).2 (Rat.intCast_eq_zero_iff.mp e)
  have key : ∃ c : Rat, c ≠ 0 ∧ detQ n (parF f dd) * c = detQ n (castM f) := by
    have pe : ∀ i j, i < n → parF f dd i j * (dd i : Rat) = castM f i j := fun i j hi => par_eq (h.d8 i hi).2
    rcases n4 h.n3 with rfl | rfl | rfl | rfl
    · exact ⟨1, by decide, by simp [detQ]⟩
    · exact ⟨dd 0, hx 0 (by exact Nat.le_refl _), by simp only [detQ]; exact pe 0 0 (by exact Nat.le_refl _)⟩
    · refine ⟨(dd 0 : Rat) * dd 1, fun e => ?_, ?_⟩
      · rcases Rat.mul_eq_zero.mp e with e | e
        · exact hx 0 (by exact Nat.le_add_left _ _) e
        · exact hx 1 (by exact Nat.le_refl _) e
      · simp only [detQ]
        rw [← pe 0 0 (by exact Nat.le_add_left _ _), ← pe 0 1 (by exact Nat.le_add_left _ _), ← pe 1 0 (by exact Nat.le_refl _), ← pe 1 1 (by exact Nat.le_refl _)]
        grind
    · refine ⟨(dd 0 : Rat) * dd 1 * dd 2, fun e => ?_, ?_⟩
      · rcases Rat.mul_eq_zero.mp e with e | e
        · rcases Rat.mul_eq_zero.mp e with e | e
          · exact hx 0 (by exact Nat.le_add_left _ _) e
          · exact hx 1 (by exact Nat.le_add_left _ _) e
        · exact hx 2 (by exact Nat.le_refl _) e
      · simp only [detQ]
        rw [← pe 0 0 (by exact Nat.le_add_left _ _), ← pe 0 1 (by exact Nat.le_add_left _ _), ← pe 0 2 (by exact Nat.le_add_left _ _), ← pe 1 0 (by exact Nat.le_add_left _ _), ← pe 1 1 (by exact Nat.le_add_left _ _), ← pe 1 2 (by exact Nat.le_add_left _ _), ← pe 2 0 (by exact Nat.le_refl _), ← pe 2 1 (by exact Nat.le_refl _), ← pe 2 2 (by exact Nat.le_refl _)]
        grind
  obtain ⟨c, hc, e⟩ := key
  rw [det_cast h.n3] at e
  constructor
  · intro hz
    rw [hz, Rat.zero_mul] at e
    exact Rat.intCast_eq_zero_iff.mp e.symm
  · intro hz
    rw [hz] at e
    exact (Rat.mul_eq_zero.mp e).resolve_right hc
theorem par_sz {n : Nat} {f : Nat → Nat → Int} {b dd : Nat → Int} (h : Inp n f b dd) : ∀ i j, i < n → j < n → Sz 8 (parF f dd i j) := fun i j hi hj => divInt_sz (h.d8 i hi).2 (h.f8 i j hi hj) (h.d8 i hi).1
theorem inv_is {n : Nat} {f : Nat → Nat → Int} {b dd : Nat → Int} (h : Inp n f b dd) (hd : detI n f ≠ 0) {T : Nat → Nat → Rat} (hT : ∀ i j, i < n → j < n → sm n (fun k => T i k * parF f dd k j) = dl i j) : ∀ i j, i < n → j < n → T i j = invF n f dd i j := by
  intro i j hi hj
  have hx : ∀ i, i < n → (dd i : Rat) ≠ 0 := fun i hi e => (h.d8 i hi).2 (Rat.intCast_eq_zero_iff.mp e)
  have hS : ∀ i j, i < n → j < n → sm n (fun k => (T i k / dd k) * castM f k j) = dl i j := fun i j hi hj => by
    rw [← hT i j hi hj]
    refine sm_ext fun k hk => ?_
    rw [← par_eq (h.d8 k hk).2]
    have := hx k hk
    grind
  have hc := inv_cof h.n3 (fun i k => T i k / dd k) (castM f) hS hi hj
  rw [det_cast h.n3, cof_cast h.n3] at hc
  refine div_eq hd ?_
  rw [Rat.intCast_mul, ← hc]
  have := hx j hj
  grind

/-- what the inverse gives -/
theorem inv_val {Φ : Tab} (hI : SIdent Φ) (hR : SRed Φ) {n : Nat} {f : Nat → Nat → Int} {b dd : Nat → Int} (h : Inp n f b dd) :
    (detI n f = 0 → raisesN Φ "inverse_of" [qm n n (parF f dd)] = true) ∧ (detI n f ≠ 0 → runN Φ "inverse_of" [qm n n (parF f dd)] = some (qm n n (invF n f dd), true)) := by
  constructor
  · intro hd
    exact inv_raise hI hR h.n3 (par_sz h) ((par_det h).mpr hd)
  · intro hd
    obtain ⟨T, e, hT⟩ := inv_run hI hR n (parF f dd) h.n3 (par_sz h) fun e => hd ((par_det h).mp e)
    rw [e, qm_ext (inv_is h hd hT)]
theorem sol_val {Φ : Tab} (hB : SBar Φ) (hF : SFrac Φ) {n : Nat} {f : Nat → Nat → Int} {b dd : Nat → Int} (h : Inp n f b dd) :
    (detI n f = 0 → raisesN Φ "cramer" [im n n f, iv n b] = true) ∧ (detI n f ≠ 0 → runN Φ "cramer" [im n n f, iv n b] = some (.list (tab n fun j => qD (solF n f b j)), true)) :=
  ⟨fun hd => cram_raise hB b h.n3 h.f8 hd, fun hd => cram_run hB hF n f b h.n3 h.f8 h.b8 hd⟩

theorem crm_adj {n : Nat} (hn : n ≤ 3) (f : Nat → Nat → Int) (b : Nat → Int) {i : Nat} (hi : i < n) : (tab n fun j => cofI n f j i * b j).sum = detI n (crm f b i) := by
  rcases n4 hn with rfl | rfl | rfl | rfl
  · omega
  · obtain rfl := n1 hi
    simp [tab_one, cofI, minr, detI, crm]
  · rcases n2 hi with rfl | rfl <;> (simp [tab_two, cofI, minr, detI, sk, crm]; grind)
  · rcases n3 hi with rfl | rfl | rfl <;> (simp [tab_three, cofI, minr, detI, sk, crm]; grind)

theorem ok_im (n m : Nat) (f : Nat → Nat → Int) : cmpD.SeqAtOk (im n m f) = true := ok_mat (k := 0) (by decide) fun i j => ⟨rfl, Nat.le_refl _⟩
theorem ok_qm (n m : Nat) (f : Nat → Nat → Rat) : cmpD.SeqAtOk (qm n m f) = true := ok_pD (fun i j => (f i j).num) (fun i j => (f i j).den)
theorem ok_iv (n : Nat) (b : Nat → Int) : cmpD.SeqAtOk (iv n b) = true := ok_ints n b
theorem ok_sing : cmpD.SeqAtOk (.str "singular") = true := by decide +kernel

theorem law_three {Φ : Tab} (hQ : SPair Φ) (hC : SCof Φ) (hX : SExact Φ) {ns : List Int} {n : Nat} {f : Nat → Nat → Int} {b dd : Nat → Int} (h : Inp n f b dd) :
    exSs Φ NN lawL3 (rho1 ns n f b dd (some ⟨false, invV n f dd⟩) (some ⟨false, solV n f b⟩)) = some (.ret (.bool true) true) := by
  suffices hh : W (exSs Φ NN lawL3 (rho1 ns n f b dd (some ⟨false, invV n f dd⟩) (some ⟨false, solV n f b⟩))) (· = .ret (.bool true) true) by
    obtain ⟨o, e, rfl⟩ := hh
    exact e
  have hn := h.n3
  have hn' : n ≤ 64 := by exact Nat.le_trans (by assumption) (by decide)
  simp only [lawL3, mb_law, List.drop_succ_cons, List.drop_zero, rho1]
  have fin : ∀ o12 o13 o14, W (exSs Φ NN [.ite (.or (.cmp .NotEq (.var 2) (.var 5)) (.cmp .NotEq (.var 3) (.var 6))) [.ret (.bool false)] [], .ite (.or (.cmp .NotEq (.var 10) (.var 7)) (.cmp .NotEq (.var 11) (.var 8))) [.ret (.bool false)] [], .ret (.bool true)]
      [some ⟨false, scr ns⟩, some ⟨false, .int n⟩, some ⟨false, im n n f⟩, some ⟨false, iv n b⟩, some ⟨false, iv n dd⟩, some ⟨false, im n n f⟩, some ⟨false, iv n b⟩, some ⟨false, qm n n (castM f)⟩, some ⟨false, qm n n (parF f dd)⟩, some ⟨false, .int (detI n f)⟩, some ⟨false, qm n n (castM f)⟩, some ⟨false, qm n n (parF f dd)⟩, o12, o13, o14]) (· = .ret (.bool true) true) := by
    intro o12 o13 o14
    refine W.cons (W.skip (by ((repeat' first | with_reducible (first | apply cmp_ne_self (ok_im n n f) | apply cmp_ne_self (ok_iv n b)) | (first | with_reducible (first | apply eInt | apply eNil | apply idx_q0 | apply idx_q1 | apply tup01 | apply tup11 | apply add_nat1 | apply neg1 | apply eOn | apply eBool | apply eStrg | apply eV | apply eIdx | apply eBin | apply eCall | apply eCons | apply eCmp | apply eTup | apply eLen | apply eR1 | apply eR2 | apply eIl | apply eNeg | apply eOrF | apply eAndT | apply eNotT | apply eNotF | apply eVal | apply eLst | apply eSlc | apply eOs | apply eSort | apply eLr | apply eSum | apply eAbs) | exact vF rfl | exact vS rfl | exact vB rfl | exact rfl)); done)) ?_)
    refine W.cons (W.skip (by ((repeat' first | with_reducible (first | apply cmp_ne_self (ok_qm n n (castM f)) | apply cmp_ne_self (ok_qm n n (parF f dd))) | (first | with_reducible (first | apply eInt | apply eNil | apply idx_q0 | apply idx_q1 | apply tup01 | apply tup11 | apply add_nat1 | apply neg1 | apply eOn | apply eBool | apply eStrg | apply eV | apply eIdx | apply eBin | apply eCall | apply eCons | apply eCmp | apply eTup | apply eLen | apply eR1 | apply eR2 | apply eIl | apply eNeg | apply eOrF | apply eAndT | apply eNotT | apply eNotF | apply eVal | apply eLst | apply eSlc | apply eOs | apply eSort | apply eLr | apply eSum | apply eAbs) | exact vF rfl | exact vS rfl | exact vB rfl | exact rfl)); done)) ?_)
    exact W.cons (W.ret (d := .bool true) (m := .fresh) (by ((repeat' (first | with_reducible (first | apply eInt | apply eNil | apply idx_q0 | apply idx_q1 | apply tup01 | apply tup11 | apply add_nat1 | apply neg1 | apply eOn | apply eBool | apply eStrg | apply eV | apply eIdx | apply eBin | apply eCall | apply eCons | apply eCmp | apply eTup | apply eLen | apply eR1 | apply eR2 | apply eIl | apply eNeg | apply eOrF | apply eAndT | apply eNotT | apply eNotF | apply eVal | apply eLst | apply eSlc | apply eOs | apply eSort | apply eLr | apply eSum | apply eAbs) | exact vF rfl | exact vS rfl | exact vB rfl | exact rfl)); done)) (by decide) rfl)
  by_cases hd : detI n f = 0
  · have e1 : invV n f dd = .str "singular" := by unfold invV; rw [if_pos hd]
    have e2 : solV n f b = .str "singular" := by unfold solV; rw [if_pos hd]
    rw [e1, e2]
    refine W.cons (W.iteT (by ((repeat' first | with_reducible (first | apply hd) | (first | with_reducible (first | apply eInt | apply eNil | apply idx_q0 | apply idx_q1 | apply tup01 | apply tup11 | apply add_nat1 | apply neg1 | apply eOn | apply eBool | apply eStrg | apply eV | apply eIdx | apply eBin | apply eCall | apply eCons | apply eCmp | apply eTup | apply eLen | apply eR1 | apply eR2 | apply eIl | apply eNeg | apply eOrF | apply eAndT | apply eNotT | apply eNotF | apply eVal | apply eLst | apply eSlc | apply eOs | apply eSort | apply eLr | apply eSum | apply eAbs) | exact vF rfl | exact vS rfl | exact vB rfl | exact rfl)) <;> simp only [cmp_eq_int, cmp_ne_int, cmp_lt_int, cmp_gt_int, cast_ne_neg1, cast_eq, decide_true, decide_false, Bool.not_true, Bool.not_false, hd])) (W.cons (W.skip (by ((repeat' first | with_reducible (first | apply cmp_ne_self ok_sing) | (first | with_reducible (first | apply eInt | apply eNil | apply idx_q0 | apply idx_q1 | apply tup01 | apply tup11 | apply add_nat1 | apply neg1 | apply eOn | apply eBool | apply eStrg | apply eV | apply eIdx | apply eBin | apply eCall | apply eCons | apply eCmp | apply eTup | apply eLen | apply eR1 | apply eR2 | apply eIl | apply eNeg | apply eOrF | apply eAndT | apply eNotT | apply eNotF | apply eVal | apply eLst | apply eSlc | apply eOs | apply eSort | apply eLr | apply eSum | apply eAbs) | exact vF rfl | exact vS rfl | exact vB rfl | exact rfl)) <;> simp only [cmp_eq_int, cmp_ne_int, cmp_lt_int, cmp_gt_int, cast_ne_neg1, cast_eq, decide_true, decide_false, Bool.not_true, Bool.not_false, cmp_ne_self ok_sing])) ?_)))
    exact W.nil (fin _ _ _)
  · have e1 : invV n f dd = qm n n (invF n f dd) := by unfold invV; rw [if_neg hd]
    have e2 : solV n f b = .list (tab n fun j => qD (solF n f b j)) := by unfold solV; rw [if_neg hd]
    rw [e1, e2]
    have sd := detI_sz hn h.f8
    have sc : ∀ i j, i < n → j < n → (cofI n f j i).natAbs < 2 ^ 17 := fun i j hi hj => cofI_sz hn hj hi h.f8
    refine W.cons (W.iteF (by ((repeat' first | with_reducible (first | apply hd) | (first | with_reducible (first | apply eInt | apply eNil | apply idx_q0 | apply idx_q1 | apply tup01 | apply tup11 | apply add_nat1 | apply neg1 | apply eOn | apply eBool | apply eStrg | apply eV | apply eIdx | apply eBin | apply eCall | apply eCons | apply eCmp | apply eTup | apply eLen | apply eR1 | apply eR2 | apply eIl | apply eNeg | apply eOrF | apply eAndT | apply eNotT | apply eNotF | apply eVal | apply eLst | apply eSlc | apply eOs | apply eSort | apply eLr | apply eSum | apply eAbs) | exact vF rfl | exact vS rfl | exact vB rfl | exact rfl)) <;> simp only [cmp_eq_int, cmp_ne_int, cmp_lt_int, cmp_gt_int, cast_ne_neg1, cast_eq, decide_true, decide_false, Bool.not_true, Bool.not_false, hd])) ?_)
    refine W.cons (W.assign (d := im n n fun i j => cofI n f j i) ?_ ?_)
    · refine comp_tab (g := fun i => .int (i : Nat)) (le_lim (by assumption)) (by ((repeat' first | with_reducible (first | apply range0_tab hn') | (first | with_reducible (first | apply eInt | apply eNil | apply idx_q0 | apply idx_q1 | apply tup01 | apply tup11 | apply add_nat1 | apply neg1 | apply eOn | apply eBool | apply eStrg | apply eV | apply eIdx | apply eBin | apply eCall | apply eCons | apply eCmp | apply eTup | apply eLen | apply eR1 | apply eR2 | apply eIl | apply eNeg | apply eOrF | apply eAndT | apply eNotT | apply eNotF | apply eVal | apply eLst | apply eSlc | apply eOs | apply eSort | apply eLr | apply eSum | apply eAbs) | exact vF rfl | exact vS rfl | exact vB rfl | exact rfl)); done)) fun i hi => ?_
      refine comp_tab (g := fun i => .int (i : Nat)) (le_lim (by assumption)) (by ((repeat' first | with_reducible (first | apply innerR | apply range0_tab hn') | (first | with_reducible (first | apply eInt | apply eNil | apply idx_q0 | apply idx_q1 | apply tup01 | apply tup11 | apply add_nat1 | apply neg1 | apply eOn | apply eBool | apply eStrg | apply eV | apply eIdx | apply eBin | apply eCall | apply eCons | apply eCmp | apply eTup | apply eLen | apply eR1 | apply eR2 | apply eIl | apply eNeg | apply eOrF | apply eAndT | apply eNotT | apply eNotF | apply eVal | apply eLst | apply eSlc | apply eOs | apply eSort | apply eLr | apply eSum | apply eAbs) | exact vF rfl | exact vS rfl | exact vB rfl | exact rfl)); done)) fun j hj => ?_
      obtain ⟨fr, hc⟩ := hC n f j i hn hj hi h.f8
      have hc' : callD Φ "_law_cofactor" [(im n n f, .shared), (.int (j : Int), .fresh), (.int (i : Int), .fresh)] = some (.int (cofI n f j i), .fresh) := call_int' hc
      ((repeat' first | with_reducible (first | apply innerR | apply hc') | (first | with_reducible (first | apply eInt | apply eNil | apply idx_q0 | apply idx_q1 | apply tup01 | apply tup11 | apply add_nat1 | apply neg1 | apply eOn | apply eBool | apply eStrg | apply eV | apply eIdx | apply eBin | apply eCall | apply eCons | apply eCmp | apply eTup | apply eLen | apply eR1 | apply eR2 | apply eIl | apply eNeg | apply eOrF | apply eAndT | apply eNotT | apply eNotF | apply eVal | apply eLst | apply eSlc | apply eOs | apply eSort | apply eLr | apply eSum | apply eAbs) | exact vF rfl | exact vS rfl | exact vB rfl | exact rfl)); done)
    simp only [demote_zero, demote_succ, dm, List.set_cons_zero, List.set_cons_succ, isList, Bool.false_and, Bool.true_and, Bool.false_and]
    refine W.cons (W.skip ?_ ?_)
    · have hco : evE Φ (.comp (.range1 (.var 1)) (.comp (.range1 (.var 1)) (.call "_law_pair" (.cons (.bin .mul (.idx (.idx (.var 14) (.var 15)) (.var 16)) (.idx (.var 4) (.var 16))) (.cons (.var 9) .nil))))) [some ⟨false, scr ns⟩, some ⟨false, .int n⟩, some ⟨false, im n n f⟩, some ⟨false, iv n b⟩, some ⟨false, iv n dd⟩, some ⟨false, im n n f⟩, some ⟨false, iv n b⟩, some ⟨false, qm n n (castM f)⟩, some ⟨false, qm n n (parF f dd)⟩, some ⟨false, .int (detI n f)⟩, some ⟨false, qm n n (castM f)⟩, some ⟨false, qm n n (parF f dd)⟩, some ⟨false, qm n n (invF n f dd)⟩, some ⟨false, .list (tab n fun j => qD (solF n f b j))⟩, some ⟨false, im n n fun i j => cofI n f j i⟩] = some (qm n n (invF n f dd), .fresh) := by
        refine comp_tab (g := fun i => .int (i : Nat)) (le_lim (by assumption)) (by ((repeat' first | with_reducible (first | apply range0_tab hn') | (first | with_reducible (first | apply eInt | apply eNil | apply idx_q0 | apply idx_q1 | apply tup01 | apply tup11 | apply add_nat1 | apply neg1 | apply eOn | apply eBool | apply eStrg | apply eV | apply eIdx | apply eBin | apply eCall | apply eCons | apply eCmp | apply eTup | apply eLen | apply eR1 | apply eR2 | apply eIl | apply eNeg | apply eOrF | apply eAndT | apply eNotT | apply eNotF | apply eVal | apply eLst | apply eSlc | apply eOs | apply eSort | apply eLr | apply eSum | apply eAbs) | exact vF rfl | exact vS rfl | exact vB rfl | exact rfl)); done)) fun i hi => ?_
        refine comp_tab (g := fun i => .int (i : Nat)) (le_lim (by assumption)) (by ((repeat' first | with_reducible (first | apply innerR | apply range0_tab hn') | (first | with_reducible (first | apply eInt | apply eNil | apply idx_q0 | apply idx_q1 | apply tup01 | apply tup11 | apply add_nat1 | apply neg1 | apply eOn | apply eBool | apply eStrg | apply eV | apply eIdx | apply eBin | apply eCall | apply eCons | apply eCmp | apply eTup | apply eLen | apply eR1 | apply eR2 | apply eIl | apply eNeg | apply eOrF | apply eAndT | apply eNotT | apply eNotF | apply eVal | apply eLst | apply eSlc | apply eOs | apply eSort | apply eLr | apply eSum | apply eAbs) | exact vF rfl | exact vS rfl | exact vB rfl | exact rfl)); done)) fun j hj => ?_
        have m1 := mul_ok (m := .fresh) (m' := .fresh) (big_of (sc i j hi hj) (by decide)) (big_of (h.d8 j hj).1 (by decide))
        have hp : callD Φ "_law_pair" [(.int (cofI n f j i * dd j), .fresh), (.int (detI n f), .fresh)] = some (qD (invF n f dd i j), .fresh) := call_ok (hQ _ _ hd (lim_of (mul_sz (sc i j hi hj) (h.d8 j hj).1) (by decide)) (lim_of sd (by decide))) rfl
        ((repeat' first | with_reducible (first | apply innerR | apply vm_iv | apply idx_im (fun i j => cofI n f j i) _ hn' hi | apply idx_ir (fun j => cofI n f j i) _ _ hn' hj | apply idx_iv dd _ _ hn' hj | apply m1 | apply hp) | (first | with_reducible (first | apply eInt | apply eNil | apply idx_q0 | apply idx_q1 | apply tup01 | apply tup11 | apply add_nat1 | apply neg1 | apply eOn | apply eBool | apply eStrg | apply eV | apply eIdx | apply eBin | apply eCall | apply eCons | apply eCmp | apply eTup | apply eLen | apply eR1 | apply eR2 | apply eIl | apply eNeg | apply eOrF | apply eAndT | apply eNotT | apply eNotF | apply eVal | apply eLst | apply eSlc | apply eOs | apply eSort | apply eLr | apply eSum | apply eAbs) | exact vF rfl | exact vS rfl | exact vB rfl | exact rfl)); done)
      ((repeat' first | with_reducible (first | apply hco | apply ex_q hX (invF n f dd) hn' hn') | (first | with_reducible (first | apply eInt | apply eNil | apply idx_q0 | apply idx_q1 | apply tup01 | apply tup11 | apply add_nat1 | apply neg1 | apply eOn | apply eBool | apply eStrg | apply eV | apply eIdx | apply eBin | apply eCall | apply eCons | apply eCmp | apply eTup | apply eLen | apply eR1 | apply eR2 | apply eIl | apply eNeg | apply eOrF | apply eAndT | apply eNotT | apply eNotF | apply eVal | apply eLst | apply eSlc | apply eOs | apply eSort | apply eLr | apply eSum | apply eAbs) | exact vF rfl | exact vS rfl | exact vB rfl | exact rfl)); done)
    refine W.cons (W.skip ?_ ?_)
    · have hco : evE Φ (.comp (.range1 (.var 1)) (.call "_law_pair" (.cons (.sum (.comp (.range1 (.var 1)) (.bin .mul (.idx (.idx (.var 14) (.var 15)) (.var 16)) (.idx (.var 3) (.var 16))))) (.cons (.var 9) .nil)))) [some ⟨false, scr ns⟩, some ⟨false, .int n⟩, some ⟨false, im n n f⟩, some ⟨false, iv n b⟩, some ⟨false, iv n dd⟩, some ⟨false, im n n f⟩, some ⟨false, iv n b⟩, some ⟨false, qm n n (castM f)⟩, some ⟨false, qm n n (parF f dd)⟩, some ⟨false, .int (detI n f)⟩, some ⟨false, qm n n (castM f)⟩, some ⟨false, qm n n (parF f dd)⟩, some ⟨false, qm n n (invF n f dd)⟩, some ⟨false, .list (tab n fun j => qD (solF n f b j))⟩, some ⟨false, im n n fun i j => cofI n f j i⟩] = some (.list (tab n fun j => qD (solF n f b j)), .fresh) := by
        refine comp_tab (g := fun i => .int (i : Nat)) (le_lim (by assumption)) (by ((repeat' first | with_reducible (first | apply range0_tab hn') | (first | with_reducible (first | apply eInt | apply eNil | apply idx_q0 | apply idx_q1 | apply tup01 | apply tup11 | apply add_nat1 | apply neg1 | apply eOn | apply eBool | apply eStrg | apply eV | apply eIdx | apply eBin | apply eCall | apply eCons | apply eCmp | apply eTup | apply eLen | apply eR1 | apply eR2 | apply eIl | apply eNeg | apply eOrF | apply eAndT | apply eNotT | apply eNotF | apply eVal | apply eLst | apply eSlc | apply eOs | apply eSort | apply eLr | apply eSum | apply eAbs) | exact vF rfl | exact vS rfl | exact vB rfl | exact rfl)); done)) fun i hi => ?_
        have hin : evE Φ (.comp (.range1 (.var 1)) (.bin .mul (.idx (.idx (.var 14) (.var 15)) (.var 16)) (.idx (.var 3) (.var 16)))) (innerR [some ⟨false, scr ns⟩, some ⟨false, .int n⟩, some ⟨false, im n n f⟩, some ⟨false, iv n b⟩, some ⟨false, iv n dd⟩, some ⟨false, im n n f⟩, some ⟨false, iv n b⟩, some ⟨false, qm n n (castM f)⟩, some ⟨false, qm n n (parF f dd)⟩, some ⟨false, .int (detI n f)⟩, some ⟨false, qm n n (castM f)⟩, some ⟨false, qm n n (parF f dd)⟩, some ⟨false, qm n n (invF n f dd)⟩, some ⟨false, .list (tab n fun j => qD (solF n f b j))⟩, some ⟨false, im n n fun i j => cofI n f j i⟩] ++ [some ⟨false, .int (i : Nat)⟩]) = some (.list (tab n fun j => .int (cofI n f j i * b j)), .fresh) := by
          refine comp_tab (g := fun i => .int (i : Nat)) (le_lim (by assumption)) (by ((repeat' first | with_reducible (first | apply innerR | apply range0_tab hn') | (first | with_reducible (first | apply eInt | apply eNil | apply idx_q0 | apply idx_q1 | apply tup01 | apply tup11 | apply add_nat1 | apply neg1 | apply eOn | apply eBool | apply eStrg | apply eV | apply eIdx | apply eBin | apply eCall | apply eCons | apply eCmp | apply eTup | apply eLen | apply eR1 | apply eR2 | apply eIl | apply eNeg | apply eOrF | apply eAndT | apply eNotT | apply eNotF | apply eVal | apply eLst | apply eSlc | apply eOs | apply eSort | apply eLr | apply eSum | apply eAbs) | exact vF rfl | exact vS rfl | exact vB rfl | exact rfl)); done)) fun j hj => ?_
          have m1 := mul_ok (m := .fresh) (m' := .fresh) (big_of (sc i j hi hj) (by decide)) (big_of (h.b8 j hj) (by decide))
          ((repeat' first | with_reducible (first | apply innerR | apply vm_iv | apply idx_im (fun i j => cofI n f j i) _ hn' hi | apply idx_ir (fun j => cofI n f j i) _ _ hn' hj | apply idx_iv b _ _ hn' hj | apply m1) | (first | with_reducible (first | apply eInt | apply eNil | apply idx_q0 | apply idx_q1 | apply tup01 | apply tup11 | apply add_nat1 | apply neg1 | apply eOn | apply eBool | apply eStrg | apply eV | apply eIdx | apply eBin | apply eCall | apply eCons | apply eCmp | apply eTup | apply eLen | apply eR1 | apply eR2 | apply eIl | apply eNeg | apply eOrF | apply eAndT | apply eNotT | apply eNotF | apply eVal | apply eLst | apply eSlc | apply eOs | apply eSort | apply eLr | apply eSum | apply eAbs) | exact vF rfl | exact vS rfl | exact vB rfl | exact rfl)); done)
        have hp : callD Φ "_law_pair" [(.int (detI n (crm f b i)), .fresh), (.int (detI n f), .fresh)] = some (qD (solF n f b i), .fresh) := call_ok (hQ _ _ hd (lim_of (detI_sz hn (crm_sz h.f8 h.b8)) (by decide)) (lim_of sd (by decide))) rfl
        have hs := sum_tab hn' fun j hj => up_sz (mul_sz (sc i j hi hj) (h.b8 j hj)) (show _ ≤ 40 by decide)
        rw [crm_adj hn f b hi] at hs
        ((repeat' first | with_reducible (first | apply hin | apply hs | apply hp) | (first | with_reducible (first | apply eInt | apply eNil | apply idx_q0 | apply idx_q1 | apply tup01 | apply tup11 | apply add_nat1 | apply neg1 | apply eOn | apply eBool | apply eStrg | apply eV | apply eIdx | apply eBin | apply eCall | apply eCons | apply eCmp | apply eTup | apply eLen | apply eR1 | apply eR2 | apply eIl | apply eNeg | apply eOrF | apply eAndT | apply eNotT | apply eNotF | apply eVal | apply eLst | apply eSlc | apply eOs | apply eSort | apply eLr | apply eSum | apply eAbs) | exact vF rfl | exact vS rfl | exact vB rfl | exact rfl)); done)
      have l1 : lstD [(.list (tab n fun j => qD (solF n f b j)), .shared)] = some (.list [.list (tab n fun j => qD (solF n f b j))], .shared) := rfl
      have l2 : lstD [(.list (tab n fun j => qD (solF n f b j)), .fresh)] = some (.list [.list (tab n fun j => qD (solF n f b j))], .fresh) := rfl
      have hx := ex_q hX (n := 1) (m := n) (fun _ j => solF n f b j) (md := .shared) (md' := .fresh) (by decide) hn'
      have hx' : callD Φ "_law_exact" [(.list [.list (tab n fun j => qD (solF n f b j))], .shared), (.list [.list (tab n fun j => qD (solF n f b j))], .fresh)] = some (.bool true, .fresh) := hx
      generalize hY : ME.comp (.range1 (.var 1)) (.call "_law_pair" (.cons (.sum (.comp (.range1 (.var 1)) (.bin .mul (.idx (.idx (.var 14) (.var 15)) (.var 16)) (.idx (.var 3) (.var 16))))) (.cons (.var 9) .nil))) = Y at hco
      ((repeat' first | with_reducible (first | apply hco | apply l1 | apply l2 | apply hx') | (first | with_reducible (first | apply eInt | apply eNil | apply idx_q0 | apply idx_q1 | apply tup01 | apply tup11 | apply add_nat1 | apply neg1 | apply eOn | apply eBool | apply eStrg | apply eV | apply eIdx | apply eBin | apply eCall | apply eCons | apply eCmp | apply eTup | apply eLen | apply eR1 | apply eR2 | apply eIl | apply eNeg | apply eOrF | apply eAndT | apply eNotT | apply eNotF | apply eVal | apply eLst | apply eSlc | apply eOs | apply eSort | apply eLr | apply eSum | apply eAbs) | exact vF rfl | exact vS rfl | exact vB rfl | exact rfl)); done)
    · exact W.nil (fin _ _ _)

end Mine
namespace Mine
open PySem

section
variable {prog : Program} {w : World} {h₀ : Heap} {mg mb : Str → Option Value} {k : Nat} {Φ : Tab} {N : Nat} {names : List (Option Str)} {sc : Scope}

/-- into a def of the text -/
theorem enter {f : Str} {params locals : List Str} {body : List Stmt} {fa : Addr} {o : Obj} {fd : FuncData} {A : Around} {s : Shared} {X : Addr → Prop} {vs : List Value} {ds : List D} {Q : Value → Shared → Prop} {E : Value → Shared → Prop}
    (W : Wd h₀ mg mb) (A₀ : FnAt h₀ mg f params body sc fa o fd) (hf : fnOk params locals sc = true) (hdep : A.depth < recursionLimit) (XX : Ext h₀ s.heap) (hX : ∀ a, X a → ∃ o, s.heap.get? a = some o) (hr : Reps X s.heap vs ds) (hlen : ds.length = params.length)
    (k : ∀ env h₁ tk₁, Frame ((params ++ locals).map some) env s.heap h₁ X (fun _ => []) (slots ds locals.length) → EnvOK env sc → env.scope = sc → env.frame = some env.locals →
      wpAny (model prog w) (A.deeper env) (execs body env) (fun f s' => Q (match f with | .ret v => v | _ => .none) s') (fun e s' => wpAny (model prog w) (A.deeper env) (leaving env e) (fun _ s'' => E e s'') (fun e' s'' => E e' s'') s') { s with heap := h₁, toks := tk₁ }) :
    wpAny (model prog w) A (call (.ref fa) vs) Q E s := by
  have hf' := hf
  unfold fnOk at hf'
  simp only [Bool.and_eq_true, Bool.not_eq_true', beq_iff_eq, decide_eq_true_eq] at hf'
  obtain ⟨⟨⟨⟨⟨⟨hk, hco⟩, hgen⟩, hall⟩, hnd⟩, hfree⟩, hndn⟩ := hf'
  have hvs := hr.length
  rw [← A₀.scp] at hf hk hco hgen hall hfree hndn
  refine wpAny_call (codeAny_call_cells hdep (XX _ _ A₀.ob) A₀.dt (W.nl.keeps XX) (A₀.code.keeps XX) A₀.bdy (A₀.bind vs (by omega)) A₀.clo ?_ (fun s₁ IC => ?_) hco hgen hk)
  · intro x hx
    have hx1 : x.1 ∈ params := (List.of_mem_zip hx).1
    have := (Bool.and_eq_true_iff.mp (List.all_eq_true.mp hall x.1 (by simp [hx1]))).1
    unfold storable at this
    rw [Bool.or_eq_true] at this
    rcases this with h | h
    · exact .inl (by simpa using h)
    · refine .inr ⟨by simpa using h, ?_⟩
      obtain ⟨c, hc, _, _⟩ := cells_own (x := x.1) fd.scope.names (s.heap.push { cls := .type "frame", data := .dict #[] }) [] hndn (lookup_mem (by simpa using h))
      rw [Heap.size_push] at hc
      rw [hc]; rfl
  · have F := start_frame hf hX hr hlen IC
    obtain ⟨h₁, tk₁, rfl⟩ := IC.toInCall.same
    have EO : EnvOK (callEnvC fd s.heap.objs.size fa) sc := by
      refine ⟨hk, A₀.glo, A₀.bui, fun x hx => ?_, fun x hx => ?_⟩
      · show fd.scope.names.lookup x = _; rw [A₀.scp]; exact hx
      · show fd.scope.names.lookup x = _ ∨ fd.scope.names.lookup x = _; rw [A₀.scp]; exact hx
    exact k _ h₁ tk₁ F EO A₀.scp rfl

/-- the locals of a frame are a dict -/
theorem Frame.nsL {env : Env} {hb h : Heap} {Xc : Addr → Prop} {fp : Nat → List Addr} {ρ : Rho} (F : Frame names env hb h Xc fp ρ) : ∃ ml, h.Ns env.locals ml :=
  let ⟨_, M, _⟩ := F.fm; let ⟨ml, h1, _⟩ := M.loc; ⟨ml, h1⟩

/-- slots of frames may change -/
theorem Frame.flew {env : Env} {hb h h' : Heap} {Xc : Addr → Prop} {fp : Nat → List Addr} {ρ : Rho} (F : Frame names env hb h Xc fp ρ) (hk : ∀ b o, h.get? b = some o → b ≠ env.locals → h'.get? b = some o) (hs : h.UpToSlots h') : Frame names env hb h' Xc fp ρ := by
  obtain ⟨mL, nL⟩ := F.nsL
  obtain ⟨oL, es, ep, eL, dL, _⟩ := nL
  have keep : ∀ b o, h.get? b = some o → (∀ es ep, o.data ≠ .dict es ep) → h'.get? b = some o := fun b o e hd => hk b o e (fun q => by subst q; rw [eL] at e; cases e; exact hd _ _ dL)
  have st : ∀ X, Stab X h h' := fun X a o items n _ e d => keep a o e fun es ep q => by rw [d] at q; cases q
  have al : ∀ a, (∃ o, h.get? a = some o) → ∃ o, h'.get? a = some o := fun a ⟨o, e⟩ => by
    by_cases q : a = env.locals
    · subst q
      obtain ⟨sl, e'⟩ := hs _ _ eL fun vs q => by rw [dL] at q; cases q
      exact ⟨_, e'⟩
    · exact ⟨o, hk a o e q⟩
  obtain ⟨m, M, hm⟩ := F.fm
  refine { F with fm := ⟨m, ⟨?_, ?_, M.inj⟩, fun i n s e1 e2 => ?_⟩, aliveX := fun a e => al a (F.aliveX a e), aliveF := fun i a e => ?_, base := fun a o e => hk a o (F.base a o e) fun q => by subst q; rw [F.Ld] at e; cases e }
  · obtain ⟨ml, h1, h2⟩ := M.loc
    exact ⟨ml, hs.ns h1, h2⟩
  · intro x hx
    obtain ⟨c, h1, o, ho, hd⟩ := M.cel x hx
    exact ⟨c, h1, o, keep c o ho (fun es ep q => by rw [hd] at q; cases q), hd⟩
  · obtain ⟨v, a, b, c⟩ := hm i n s e1 e2
    refine ⟨v, a, fun e => (b e).stab (st _) fun a' o' ha q => ?_, fun e => (c e).stab (st _)⟩
    obtain ⟨vs', n', q'⟩ := F.aliveF i a' ha
    rw [IsL, q] at q'
    cases q'
    exact keep _ _ q fun es ep z => by cases z
  · obtain ⟨vs, n, q⟩ := F.aliveF i a e
    exact ⟨vs, n, keep _ _ q fun es ep z => by cases z⟩
end
end Mine

namespace Mine
open PySem PyProof.Rows PySem.W

theorem funFrames_of {h : Heap} {as : List Addr} : ∀ {l : List Env}, (∀ env ∈ l, env.scope.kind = .function ∧ env.frame = some env.locals ∧ env.locals ∈ as ∧ ∃ ml, h.Ns env.locals ml) → h.FunFrames (hideAll h as) l
  | [], _ => trivial
  | env :: l, H => by
    obtain ⟨hk, hf, hm, ml, o, es, ep, ho, hd, _⟩ := H env (.head _)
    exact ⟨by rw [hk]; simp, ⟨env.locals, o, hf, hideAll_none _ hm, ho, fun vs q => by rw [hd] at q; cases q⟩, funFrames_of fun e he => H e (.tail _ he)⟩

theorem flies {M : Model} {A : Around} {l : List Env} {E3 : Env} {s : Shared} {h : Heap} {e : Addr} {cls : Value} {args : List Value} {Q : Unit → Shared → Prop} {E : Value → Shared → Prop} (hfr : A.frames = some l)
    (hk : ∀ env ∈ E3 :: l, env.scope.kind = .function ∧ env.frame = some env.locals ∧ ∃ ml, h.Ns env.locals ml) (hx : Heap.MadeExcOf h s.heap e cls args)
    (hQ : ∀ h' t, Heap.FlyingW (hideAll h ((E3 :: l).map (·.locals))) l e cls (.ref t) h' → h.UpToSlots h' → Q () { s with heap := h' }) : wpAny M (A.deeper E3) (leaving E3 (.ref e)) Q E s := by
  refine wpAny_leaves_madeW (Around.frames_deeper hfr) (hk E3 (.head _)).2.1 (fun b o q => of_hideAll _ q) (funFrames_of fun env he => ?_) hx fun h' t x1 x2 x3 x4 => hQ h' t x1 ((Heap.UpToSlots.of_keeps hx.keeps).trans x4)
  obtain ⟨a, b, c⟩ := hk env he
  exact ⟨a, b, List.mem_map.mpr ⟨env, he, rfl⟩, c⟩

section
variable {prog : Program} {w : World} {h₀ : Heap} {mg mb : Str → Option Value} {sc : Scope} {A : Around} {E2 : Env} {l : List Env} {base : Heap} {e : Addr} {a0 : Value} {s : Shared} {Q : Flow → Shared → Prop} {E : Value → Shared → Prop} {x : Str} {np pos : Pos} {b₀ : Stmt} {suite : List Stmt} {rest : List ExceptHandler}

theorem lands_own {C : Addr} {bm : List Value} {newId : String} (hfr : A.frames = some (E2 :: l)) (hf : E2.frame = some E2.locals) (hfl : Heap.FlyingW base (E2 :: l) e (.ref C) a0 s.heap) (EO : EnvOK E2 sc) (hgl : sc.names.lookup x = some .globalImplicit) (hn : goodName x = true)
    (O : OwnCls x C bm newId mg base) (hbm : bm.contains (.type "BaseException") = true) (hg : base.Ns mainGlobals mg)
    (k : ∀ h', base.StaysIn h' → s.heap.UpToSlots h' → wpAny (model prog w) (A.mark (some (.ref e))) (execs (b₀ :: suite) E2) Q NoE { s with heap := h' }) :
    wpAny (model prog w) A (noteFrame (.ref e) E2) (fun _ s₂ => wpAny (model prog w) A (setFlight (.ref e) none) (fun _ s₃ =>
      wpAny (model prog w) A (handleBy (.ref e) E2 (.ExceptHandler (some (.Name x np)) none (b₀ :: suite) pos :: rest)) Q E s₃) E s₂) E s := by
  simp only [goodName, Bool.and_eq_true, Bool.not_eq_true'] at hn
  refine wpAny_looks_onW hfr hf hfl fun h₄ hheld₄ hsm₄ => ?_
  refine wpAny_landsW hheld₄ fun h₅ hheld hsm₅ => ?_
  obtain ⟨ob, hob, hobc⟩ := hheld.there
  obtain ⟨tl, N, nm, q, bs, hdct, sn, sub, ab, col, dd, k0, k1, k2, k3, k5, mN, hC, hN, hni, T⟩ := O.obj
  refine wpAny_handleBy_cons (codeAny_handlers_test (Calls.Name_function_global EO.kind (EO.glob x hgl) (Calls.loadGlobal_global (by rw [EO.glo]; exact hg.keeps hheld.1) O.bound ?_) hn.1)) (by intro q; cases q)
  refine wpAny_excMatches_sub_self (hheld.1 _ _ hC) hob hobc (T.hasType hbm) (codeAny_handlers_suite ?_)
  refine lands_againW hheld fun h₆ hfl₆ hsm₆ => ?_
  exact wpAny_noE (k h₆ hfl₆.1 ((hsm₄.trans hsm₅).trans hsm₆))

theorem lands_builtin {X T' : String} (hfr : A.frames = some (E2 :: l)) (hf : E2.frame = some E2.locals) (hfl : Heap.FlyingW base (E2 :: l) e (.type X) a0 s.heap) (EO : EnvOK E2 sc) (hgl : sc.names.lookup x = some .globalImplicit) (hn : goodName x = true)
    (hexc : isSubtype (.type T') (.type "BaseException") = pure true) (hnt : isSubtype (.type ((Manifest.find? T').elim "type" fun y => y.metatype)) (.type "tuple") = pure false) (hsub : isSubtype (.type X) (.type T') = pure true)
    (hg : base.Ns mainGlobals mg) (hgx : mg x = none) (hb : base.Ns builtinsNs mb) (hbx : mb x = some (.type T'))
    (k : ∀ h', base.StaysIn h' → s.heap.UpToSlots h' → wpAny (model prog w) (A.mark (some (.ref e))) (execs (b₀ :: suite) E2) Q NoE { s with heap := h' }) :
    wpAny (model prog w) A (noteFrame (.ref e) E2) (fun _ s₂ => wpAny (model prog w) A (setFlight (.ref e) none) (fun _ s₃ =>
      wpAny (model prog w) A (handleBy (.ref e) E2 (.ExceptHandler (some (.Name x np)) none (b₀ :: suite) pos :: rest)) Q E s₃) E s₂) E s := by
  simp only [goodName, Bool.and_eq_true, Bool.not_eq_true'] at hn
  refine wpAny_looks_onW hfr hf hfl fun h₄ hheld₄ hsm₄ => ?_
  refine wpAny_landsW hheld₄ fun h₅ hheld hsm₅ => ?_
  obtain ⟨ob, hob, hobc⟩ := hheld.there
  refine wpAny_handleBy_builtin (X := X) (T := T') (b := true) hexc hnt hsub (Calls.Name_function_global EO.kind (EO.glob x hgl) (Calls.loadGlobal_builtin (by rw [EO.glo]; exact hg.keeps hheld.1) hgx (by rw [EO.bui]; exact hb.keeps hheld.1) hbx ⟨rfl, ⟨ob, hob, hobc⟩, ?_⟩) hn.1)
  refine lands_againW hheld fun h₆ hfl₆ hsm₆ => ?_
  exact wpAny_noE (k h₆ hfl₆.1 ((hsm₄.trans hsm₅).trans hsm₆))

/-- a raise of a class of the text, with one plain argument -/
theorem raise_own {C : Addr} {B newId initId : String} {bm : List Value} {env : Env} {e₀ : Expr} {cpos : Pos} {Q : Flow → Shared → Prop} (X : Ext h₀ s.heap) (hg : h₀.Ns mainGlobals mg) (O : OwnCls x C bm newId mg h₀) (FB : ExcBaseFacts B newId initId bm) (hh : A.handled = none) (EO : EnvOK env sc) (hgl : sc.names.lookup x = some .globalImplicit) (hn : goodName x = true) (hst : notStar e₀ = true)
    (h : wpAny (model prog w) A (spliced (backTo cpos (starEach [e₀] env))) (fun vs s₂ => vs.length ≤ sizeLine ∧ Ext s.heap s₂.heap ∧ ∀ h' e, Heap.MadeExcOf s₂.heap h' e (.ref C) vs → E (.ref e) { s₂ with heap := h' }) E s) :
    wpAny (model prog w) A (exec (.Raise (some (.Call (.Name x np) [e₀] [] cpos)) none pos) env) Q E s := by
  simp only [goodName, Bool.and_eq_true, Bool.not_eq_true'] at hn
  obtain ⟨tl, N, nm, q, bs, hdct, sn, sub, ab, col, dd, k0, k1, k2, k3, k5, mN, hC, hN, hni, T⟩ := O.obj
  refine wpAny_Raise_call_subT (C := C) (nm := nm) (q := q) (N := N) (bs := bs) (bm := tl) (hdct := hdct) (sn := sn) (sub := sub) (ab := ab) (col := col) (dd := dd) (k0 := k0) (k1 := k1) (k2 := k2) (k3 := k3) (k5 := k5)
    FB (mN := mN) (T.hasType FB.hasBase) hh (any_star (by simp [hst])) hni (Calls.Name_function_global EO.kind (EO.glob x hgl) (Calls.loadGlobal_global (by rw [EO.glo]; exact hg.keeps X) O.bound ⟨rfl, ?_⟩) hn.1)
  have he := star_eq hst [] env
  rw [he] at h ⊢
  exact Calls.evalArgs_plain (wpAny_mono h (fun vs s₂ h₂ => ⟨rfl, h₂.1, (X.trans h₂.2.1) _ _ hC, hN.keeps (X.trans h₂.2.1), T.keeps (X.trans h₂.2.1), h₂.2.2⟩) fun _ _ y => y)

theorem raise_builtin {cls newId initId : String} {env : Env} {e₀ : Expr} {cpos : Pos} {Q : Flow → Shared → Prop} (X : Ext h₀ s.heap) (hg : h₀.Ns mainGlobals mg) (hgx : mg x = none) (hb : h₀.Ns builtinsNs mb) (hbx : mb x = some (.type cls)) (F : ExcCallFacts cls newId initId) (G : ExcRaiseFacts cls) (hh : A.handled = none) (EO : EnvOK env sc) (hgl : sc.names.lookup x = some .globalImplicit) (hn : goodName x = true) (hst : notStar e₀ = true)
    (h : wpAny (model prog w) A (spliced (backTo cpos (starEach [e₀] env))) (fun vs s₂ => vs.length ≤ sizeLine ∧ ∀ h' e, Heap.MadeExc s₂.heap h' e cls vs → E (.ref e) { s₂ with heap := h' }) E s) :
    wpAny (model prog w) A (exec (.Raise (some (.Call (.Name x np) [e₀] [] cpos)) none pos) env) Q E s := by
  simp only [goodName, Bool.and_eq_true, Bool.not_eq_true'] at hn
  refine wpAny_Raise_call F G hh (any_star (by simp [hst])) (Calls.Name_function_global EO.kind (EO.glob x hgl) (Calls.loadGlobal_builtin (by rw [EO.glo]; exact hg.keeps X) hgx (by rw [EO.bui]; exact hb.keeps X) hbx ⟨rfl, ?_⟩) hn.1)
  have he := star_eq hst [] env
  rw [he] at h ⊢
  exact Calls.evalArgs_plain (wpAny_mono h (fun vs s₂ h₂ => ⟨rfl, h₂.1, h₂.2⟩) fun _ _ y => y)
end
end Mine

namespace Mine
open PySem PyProof.Rows PySem.W

section
variable {prog : Program} {w : World} {h₀ : Heap} {mg mb : Str → Option Value} {k : Nat} {Φ : Tab} {N : Nat} {names : List (Option Str)} {sc : Scope}

/-- the statements come to a raise -/
noncomputable def RaisesAt (prog : Program) (w : World) (A : Around) (env : Env) (s : Shared) (names : List (Option Str)) (hb : Heap) (Xc : Addr → Prop) (sts : List Stmt) (cls : Value) : Prop :=
  ∀ (Q : Flow → Shared → Prop) (E : Value → Shared → Prop), (∀ h4 h5 tk e vs fp ρ, Frame names env hb h4 Xc fp ρ → Heap.MadeExcOf h4 h5 e cls vs → E (.ref e) { s with heap := h5, toks := tk }) → wpAny (model prog w) A (execs sts env) Q E s

theorem rz_step {A : Around} {env : Env} {s : Shared} {hb : Heap} {Xc : Addr → Prop} {fp : Nat → List Addr} {ρ ρ' : Rho} {st : Stmt} {ms : MS} {sts : List Stmt} {cls : Value} (H : ExOK prog w h₀ k Φ N names sc st ms) (R : Room A k) (EO : EnvOK env sc) (ES : env.scope = sc) (X : Ext h₀ hb) (F : Frame names env hb s.heap Xc fp ρ) (he : exS Φ N ms ρ = some (.next ρ'))
    (K : ∀ h1 t1 fp1, Frame names env hb h1 Xc fp1 ρ' → RaisesAt prog w A env { s with heap := h1, toks := t1 } names hb Xc sts cls) : RaisesAt prog w A env s names hb Xc (st :: sts) cls := by
  intro Q E hE
  refine wpAny_execs_cons (wpAny_noE (H A env s hb Xc fp ρ _ R EO ES X F he _ fun f h1 t1 d1 => ?_))
  obtain ⟨p1, a1, rfl, fp1, F1, n1⟩ := d1
  exact K h1 t1 fp1 F1 Q E fun h4 h5 tk e vs fp ρ F4 hx => hE h4 h5 tk e vs fp ρ F4 hx

theorem rz_own {A : Around} {env : Env} {s : Shared} {hb : Heap} {Xc : Addr → Prop} {fp : Nat → List Addr} {ρ : Rho} {te : Expr} {mt : MT} {x : Str} {np cp cpos pos p : Pos} {msg : Str} {j : Nat} {els sts : List Stmt} {C : Addr} {B newId initId : String} {bm : List Value}
    (W : Wd h₀ mg mb) (H : EtOK prog w h₀ k Φ names sc te mt) (R : Room A k) (EO : EnvOK env sc) (X : Ext h₀ hb) (F : Frame names env hb s.heap Xc fp ρ) (ht : evT Φ mt ρ = some true) (O : OwnCls x C bm newId mg h₀) (FB : ExcBaseFacts B newId initId bm) (hgl : sc.names.lookup x = some .globalImplicit) (hn : goodName x = true) :
    RaisesAt prog w A env s names hb Xc (.If te [.Raise (some (.Call (.Name x np) [.Constant (.str msg) j cp] [] cpos)) none pos] els p :: sts) (.ref C) := by
  intro Q E hE
  have X0 := X.trans F.base
  refine wpAny_execs_cons (wpAny_If (wpAny_noE (H A env s hb Xc fp ρ _ R EO X0 F ht _ fun h1 t1 x1 => ?_)))
  simp only [if_true]
  have F1 := F.ext x1
  refine wpAny_execs_cons (raise_own (X0.trans x1) W.g O FB R.hd EO hgl hn rfl ?_)
  refine wpAny_noE (es_cons (Φ := Φ) (k := k) (h₀ := h₀) (names := names) (sc := sc) rfl (ev_str msg j cp) es_nil A env { s with heap := h1, toks := t1 } hb Xc fp ρ [(.str msg, .fresh)] cpos R EO (X0.trans x1) F1 rfl _ fun vs h2 t2 g x2 gn gd it => ⟨?_, x2, fun h5 e hx => ?_⟩)
  · rw [it.length]; show 1 ≤ sizeLine; decide
  · exact hE h2 h5 t2 e vs fp ρ (F1.ext x2) hx

theorem rz_builtin {A : Around} {env : Env} {s : Shared} {hb : Heap} {Xc : Addr → Prop} {fp : Nat → List Addr} {ρ : Rho} {te : Expr} {mt : MT} {x : Str} {np cp cpos pos p : Pos} {msg : Str} {j : Nat} {els sts : List Stmt} {cls newId initId : String}
    (W : Wd h₀ mg mb) (H : EtOK prog w h₀ k Φ names sc te mt) (R : Room A k) (EO : EnvOK env sc) (X : Ext h₀ hb) (F : Frame names env hb s.heap Xc fp ρ) (ht : evT Φ mt ρ = some true) (hgx : mg x = none) (hbx : mb x = some (.type cls)) (FC : ExcCallFacts cls newId initId) (G : ExcRaiseFacts cls) (hgl : sc.names.lookup x = some .globalImplicit) (hn : goodName x = true) :
    RaisesAt prog w A env s names hb Xc (.If te [.Raise (some (.Call (.Name x np) [.Constant (.str msg) j cp] [] cpos)) none pos] els p :: sts) (.type cls) := by
  intro Q E hE
  have X0 := X.trans F.base
  refine wpAny_execs_cons (wpAny_If (wpAny_noE (H A env s hb Xc fp ρ _ R EO X0 F ht _ fun h1 t1 x1 => ?_)))
  simp only [if_true]
  have F1 := F.ext x1
  refine wpAny_execs_cons (raise_builtin (X0.trans x1) W.g hgx W.b hbx FC G R.hd EO hgl hn rfl ?_)
  refine wpAny_noE (es_cons (Φ := Φ) (k := k) (h₀ := h₀) (names := names) (sc := sc) rfl (ev_str msg j cp) es_nil A env { s with heap := h1, toks := t1 } hb Xc fp ρ [(.str msg, .fresh)] cpos R EO (X0.trans x1) F1 rfl _ fun vs h2 t2 g x2 gn gd it => ⟨?_, fun h5 e hx => ?_⟩)
  · rw [it.length]; show 1 ≤ sizeLine; decide
  · exact hE h2 h5 t2 e vs fp ρ (F1.ext x2) hx.of

/-- the outer frame's slots alone have changed -/
noncomputable def Flew (L : Addr) (h h' : Heap) : Prop := (∀ b o, h.get? b = some o → b ≠ L → h'.get? b = some o) ∧ h.UpToSlots h'

/-- what a caught raise leaves: E3 below E2 below E1 -/
theorem flew_of {h hc h4 h' : Heap} {E1 E2 E3 : Env} (x1 : Ext h hc) (x2 : Ext hc h4) (d2 : h.get? E2.locals = none) (d3 : hc.get? E3.locals = none) (st : (hideAll h4 ([E3, E2, E1].map (·.locals))).StaysIn h') (us : h4.UpToSlots h') : Flew E1.locals h h' := by
  refine ⟨fun b o e hb => st b o (hideAll_get _ (x2 _ _ (x1 _ _ e)) ?_), (Heap.UpToSlots.of_keeps (x1.trans x2)).trans us⟩
  simp only [List.map_cons, List.map_nil, List.mem_cons, List.not_mem_nil, or_false, not_or]
  refine ⟨?_, ?_, hb⟩
  · rintro rfl; rw [x1 _ _ e] at d3; cases d3
  · rintro rfl; rw [e] at d2; cases d2

/-- a call inside a frame E2 that raises -/
theorem call_raises {A : Around} {E1 E2 : Env} {s : Shared} {f : Str} {params locals : List Str} {body : List Stmt} {sc3 : Scope} {fa : Addr} {o : Obj} {fd : FuncData} {X : Addr → Prop} {vs : List Value} {ds : List D} {cls : Value} {Q : Value → Shared → Prop} {E : Value → Shared → Prop}
    (W : Wd h₀ mg mb) (A₀ : FnAt h₀ mg f params body sc3 fa o fd) (hf : fnOk params locals sc3 = true) (R : Room A (k + 1)) (XX : Ext h₀ s.heap) (hX : ∀ a, X a → ∃ o, s.heap.get? a = some o) (hr : Reps X s.heap vs ds) (hlen : ds.length = params.length) (hfr : A.frames = some [E2, E1])
    (h1 : E1.scope.kind = .function ∧ E1.frame = some E1.locals ∧ ∃ ml, s.heap.Ns E1.locals ml) (h2 : E2.scope.kind = .function ∧ E2.frame = some E2.locals ∧ ∃ ml, s.heap.Ns E2.locals ml)
    (Hb : ∀ A env s' hb, Room A k → EnvOK env sc3 → env.scope = sc3 → Ext h₀ hb → Frame ((params ++ locals).map some) env hb s'.heap X (fun _ => []) (slots ds locals.length) → RaisesAt prog w A env s' ((params ++ locals).map some) hb X body cls)
    (hE : ∀ E3 h4 h5 tk e t, s.heap.get? E3.locals = none → Ext s.heap h4 → Heap.FlyingW (hideAll h4 ([E3, E2, E1].map (·.locals))) [E2, E1] e cls (.ref t) h5 → h4.UpToSlots h5 → E (.ref e) { s with heap := h5, toks := tk }) :
    wpAny (model prog w) A (call (.ref fa) vs) Q E s := by
  refine enter W A₀ hf (by have := R.dp; omega) XX hX hr hlen fun env g₁ tk₁ F EO ES hfm => ?_
  have R' : Room (A.deeper env) k := by
    refine ⟨R.hd, ?_, ?_⟩
    · show A.depth + 1 + k + 4 < recursionLimit
      have := R.dp; omega
    · show A.units + 3 + 8 * k + 200 < cLine
      have := R.un; omega
  refine Hb (A.deeper env) env { s with heap := g₁, toks := tk₁ } s.heap R' EO ES XX F _ _ fun h4 h5 tk e vs fp ρ F4 hx => ?_
  refine flies hfr (h := h4) (fun e' he' => ?_) hx fun h' t fl us => hE env h4 h' tk e t F4.Ld F4.base fl us
  simp only [List.mem_cons, List.not_mem_nil, or_false] at he'
  rcases he' with rfl | rfl | rfl
  · exact ⟨EO.kind, hfm, F4.nsL⟩
  · obtain ⟨a, b, ml, c⟩ := h2; exact ⟨a, b, ml, c.keeps F4.base⟩
  · obtain ⟨a, b, ml, c⟩ := h1; exact ⟨a, b, ml, c.keeps F4.base⟩
end
end Mine

namespace Mine
open PySem PyProof.Rows PySem.W

section
variable {prog : Program} {w : World} {h₀ : Heap} {mg mb : Str → Option Value} {k : Nat} {Φ : Tab} {N : Nat} {names : List (Option Str)} {sc : Scope}

theorem Room.deeper {A : Around} {env : Env} (R : Room A (k + 1)) : Room (A.deeper env) k := by
  refine ⟨R.hd, ?_, ?_⟩
  · show A.depth + 1 + k + 4 < recursionLimit
    have := R.dp; omega
  · show A.units + 3 + 8 * k + 200 < cLine
    have := R.un; omega
theorem Room.less {A : Around} (R : Room A (k + 1)) : Room A k := ⟨R.hd, by have := R.dp; omega, by have := R.un; omega⟩

theorem base_keeps {h hc h4 : Heap} {E1 E2 E3 : Env} (x0 : Ext h₀ h) (x1 : Ext h hc) (x2 : Ext hc h4) (d1 : h₀.get? E1.locals = none) (d2 : h.get? E2.locals = none) (d3 : hc.get? E3.locals = none) : ∀ b o, h₀.get? b = some o → (hideAll h4 ([E3, E2, E1].map (·.locals))).get? b = some o := by
  intro b o e
  refine hideAll_get _ (x2 _ _ (x1 _ _ (x0 _ _ e))) ?_
  simp only [List.map_cons, List.map_nil, List.mem_cons, List.not_mem_nil, or_false, not_or]
  refine ⟨?_, ?_, ?_⟩
  · rintro rfl; rw [x1 _ _ (x0 _ _ e)] at d3; cases d3
  · rintro rfl; rw [x0 _ _ e] at d2; cases d2
  · rintro rfl; rw [e] at d1; cases d1

/-- a function that catches a class of the text: the raise -/
theorem catch_own_call {A : Around} {E1 : Env} {s : Shared} {g f x got : Str} {pg lg pf lf : List Str} {rest bf : List Stmt} {scg scf : Scope} {fag faf : Addr} {og of : Obj} {fdg fdf : FuncData} {X : Addr → Prop} {vs : List Value} {ds : List D} {e₀ : Expr} {es : List Expr} {mes : MEs} {rs : List (D × Mode)} {C : Addr} {B newId initId : String} {bm : List Value} {msg : Str} {j : Nat} {p1 p2 p3 p4 np cp rp hp tp : Pos} {Q : Value → Shared → Prop}
    (W : Wd h₀ mg mb) (Ag : FnAt h₀ mg g pg (.Try [.Assign [.Name got p1] (.Call (.Name f p2) (e₀ :: es) [] p3) p4] [.ExceptHandler (some (.Name x np)) none [.Return (some (.Constant (.str msg) j cp)) rp] hp] [] [] tp :: rest) scg fag og fdg) (hfg : fnOk pg lg scg = true)
    (Af : FnAt h₀ mg f pf bf scf faf of fdf) (hff : fnOk pf lf scf = true) (R : Room A (k + 2)) (XX : Ext h₀ s.heap) (hX : ∀ a, X a → ∃ o, s.heap.get? a = some o) (hr : Reps X s.heap vs ds) (hlen : ds.length = pg.length) (hfr : A.frames = some [E1])
    (h1 : E1.scope.kind = .function ∧ E1.frame = some E1.locals ∧ ∃ ml, s.heap.Ns E1.locals ml) (d1 : h₀.get? E1.locals = none)
    (hgf : scg.names.lookup f = some .globalImplicit) (hnf : goodName f = true) (hst : notStar e₀ = true) (Hes : EsOK prog w h₀ k Φ ((pg ++ lg).map some) scg (e₀ :: es) mes) (hes : evEs Φ mes (slots ds lg.length) = some rs) (hok : allOk rs = true) (hlf : rs.length = pf.length)
    (hgx : scg.names.lookup x = some .globalImplicit) (hnx : goodName x = true) (O : OwnCls x C bm newId mg h₀) (FB : ExcBaseFacts B newId initId bm)
    (Hb : ∀ A env s' hb X, Room A k → EnvOK env scf → env.scope = scf → Ext h₀ hb → Frame ((pf ++ lf).map some) env hb s'.heap X (fun _ => []) (slots (rs.map (·.1)) lf.length) → RaisesAt prog w A env s' ((pf ++ lf).map some) hb X bf (.ref C))
    (hsw : swapsB scg (.Call (.Name f p2) (e₀ :: es) [] p3) got p1 = false)
    (hQ : ∀ t h6 tk, Flew E1.locals s.heap h6 → Q (.str msg t) { s with heap := h6, toks := tk }) : wpAny (model prog w) A (call (.ref fag) vs) Q NoE s := by
  refine enter W Ag hfg (by have := R.dp; omega) XX hX hr hlen fun E2 g₁ tk₁ F2 EO2 ES2 hfm2 => ?_
  have R2 : Room (A.deeper E2) (k + 1) := R.deeper
  have X2 := XX.trans F2.base
  simp only [goodName, Bool.and_eq_true, Bool.not_eq_true'] at hnf
  refine wpAny_execs_cons (wpAny_Try_except (wpAny_execs_cons (wpAny_Assign_Name ?_ (by rw [swaps_eq ES2 (by rw [← ES2]; exact EO2.kind) rfl, hsw]))))
  refine wpAny_Call_NameR (Calls.Name_function_global EO2.kind (EO2.glob f hgf) (Calls.loadGlobal_global (by rw [EO2.glo]; exact W.g.keeps X2) Af.g ?_) hnf.1)
  refine callWith_def (o := of) (fd := fdf) Af.dt (wpAny_noE (Hes (A.deeper E2) E2 { s with heap := g₁, toks := tk₁ } s.heap X (fun _ => []) _ rs p3 R2.less EO2 X2 F2 hes _ fun vs' h2 t2 gl x2 gn gd it => ⟨(X2.trans x2) _ _ Af.ob, ?_⟩)) (star_eq hst es E2)
  have F2' := F2.ext x2
  refine call_raises (k := k) (s := { s with heap := h2, toks := t2 }) (E1 := E1) (E2 := E2) (X := Ys X fun _ => []) (ds := rs.map (·.1)) (cls := .ref C) W Af hff R2 (X2.trans x2) F2'.aliveY (it.reps (fun a e => .inl e) hok (off_of_dead gd F2.aliveY)) (by rw [List.length_map]; exact hlf) (Around.frames_deeper hfr) ?_ ⟨EO2.kind, hfm2, F2'.nsL⟩ (fun A env s' hb r eo es x F => Hb A env s' hb _ r eo es x F) fun E3 h4 h5 tk e t d3 x3 fl us => ?_
  · obtain ⟨a, b, ml, c⟩ := h1
    exact ⟨a, b, ml, c.keeps (F2.base.trans x2)⟩
  · have kb := base_keeps (E1 := E1) (E2 := E2) (E3 := E3) XX (F2.base.trans x2) x3 d1 F2.Ld d3
    refine lands_own (Around.frames_deeper hfr) hfm2 fl EO2 hgx hnx (O.keeps kb) FB.hasBase (W.g.keeps kb) fun h6 st us6 => ?_
    refine wpAny_execs_cons (wpAny_Return_some (wpAny_Constant_str ?_))
    exact hQ _ h6 _ (flew_of (E3 := E3) (E2 := E2) (F2.base.trans x2) x3 F2.Ld d3 st (us.trans us6))

/-- a function that catches a built-in class: the raise -/
theorem catch_builtin_call {A : Around} {E1 : Env} {s : Shared} {g f x : Str} {pg lg pf lf : List Str} {rest bf : List Stmt} {scg scf : Scope} {fag faf : Addr} {og of : Obj} {fdg fdf : FuncData} {X : Addr → Prop} {vs : List Value} {ds : List D} {e₀ : Expr} {es : List Expr} {mes : MEs} {rs : List (D × Mode)} {cls : String} {c : Bool} {j : Nat} {p2 p3 p4 np cp rp hp tp : Pos} {Q : Value → Shared → Prop}
    (W : Wd h₀ mg mb) (Ag : FnAt h₀ mg g pg (.Try [.Expr (.Call (.Name f p2) (e₀ :: es) [] p3) p4] [.ExceptHandler (some (.Name x np)) none [.Return (some (.Constant (.bool c) j cp)) rp] hp] [] [] tp :: rest) scg fag og fdg) (hfg : fnOk pg lg scg = true)
    (Af : FnAt h₀ mg f pf bf scf faf of fdf) (hff : fnOk pf lf scf = true) (R : Room A (k + 2)) (XX : Ext h₀ s.heap) (hX : ∀ a, X a → ∃ o, s.heap.get? a = some o) (hr : Reps X s.heap vs ds) (hlen : ds.length = pg.length) (hfr : A.frames = some [E1])
    (h1 : E1.scope.kind = .function ∧ E1.frame = some E1.locals ∧ ∃ ml, s.heap.Ns E1.locals ml) (d1 : h₀.get? E1.locals = none)
    (hgf : scg.names.lookup f = some .globalImplicit) (hnf : goodName f = true) (hst : notStar e₀ = true) (Hes : EsOK prog w h₀ k Φ ((pg ++ lg).map some) scg (e₀ :: es) mes) (hes : evEs Φ mes (slots ds lg.length) = some rs) (hok : allOk rs = true) (hlf : rs.length = pf.length)
    (hgx : scg.names.lookup x = some .globalImplicit) (hnx : goodName x = true) (hmx : mg x = none) (hbx : mb x = some (.type cls)) (hexc : isSubtype (.type cls) (.type "BaseException") = pure true) (hnt : isSubtype (.type ((Manifest.find? cls).elim "type" fun y => y.metatype)) (.type "tuple") = pure false) (hsub : isSubtype (.type cls) (.type cls) = pure true)
    (Hb : ∀ A env s' hb X, Room A k → EnvOK env scf → env.scope = scf → Ext h₀ hb → Frame ((pf ++ lf).map some) env hb s'.heap X (fun _ => []) (slots (rs.map (·.1)) lf.length) → RaisesAt prog w A env s' ((pf ++ lf).map some) hb X bf (.type cls))
    (hQ : ∀ h6 tk, Flew E1.locals s.heap h6 → Q (.bool c) { s with heap := h6, toks := tk }) : wpAny (model prog w) A (call (.ref fag) vs) Q NoE s := by
  refine enter W Ag hfg (by have := R.dp; omega) XX hX hr hlen fun E2 g₁ tk₁ F2 EO2 ES2 hfm2 => ?_
  have R2 : Room (A.deeper E2) (k + 1) := R.deeper
  have X2 := XX.trans F2.base
  simp only [goodName, Bool.and_eq_true, Bool.not_eq_true'] at hnf
  refine wpAny_execs_cons (wpAny_Try_except (wpAny_execs_cons (wpAny_Expr ?_ (by unfold interactive; rw [EO2.kind]; rfl) rfl)))
  refine wpAny_Call_NameR (Calls.Name_function_global EO2.kind (EO2.glob f hgf) (Calls.loadGlobal_global (by rw [EO2.glo]; exact W.g.keeps X2) Af.g ?_) hnf.1)
  refine callWith_def (o := of) (fd := fdf) Af.dt (wpAny_noE (Hes (A.deeper E2) E2 { s with heap := g₁, toks := tk₁ } s.heap X (fun _ => []) _ rs p3 R2.less EO2 X2 F2 hes _ fun vs' h2 t2 gl x2 gn gd it => ⟨(X2.trans x2) _ _ Af.ob, ?_⟩)) (star_eq hst es E2)
  have F2' := F2.ext x2
  refine call_raises (k := k) (s := { s with heap := h2, toks := t2 }) (E1 := E1) (E2 := E2) (X := Ys X fun _ => []) (ds := rs.map (·.1)) (cls := .type cls) W Af hff R2 (X2.trans x2) F2'.aliveY (it.reps (fun a e => .inl e) hok (off_of_dead gd F2.aliveY)) (by rw [List.length_map]; exact hlf) (Around.frames_deeper hfr) ?_ ⟨EO2.kind, hfm2, F2'.nsL⟩ (fun A env s' hb r eo es x F => Hb A env s' hb _ r eo es x F) fun E3 h4 h5 tk e t d3 x3 fl us => ?_
  · obtain ⟨a, b, ml, c⟩ := h1
    exact ⟨a, b, ml, c.keeps (F2.base.trans x2)⟩
  · have kb := base_keeps (E1 := E1) (E2 := E2) (E3 := E3) XX (F2.base.trans x2) x3 d1 F2.Ld d3
    refine lands_builtin (Around.frames_deeper hfr) hfm2 fl EO2 hgx hnx hexc hnt hsub (W.g.keeps kb) hmx (W.b.keeps kb) hbx fun h6 st us6 => ?_
    refine wpAny_execs_cons (wpAny_Return_some (wpAny_Constant_bool ?_))
    exact hQ h6 _ (flew_of (E3 := E3) (E2 := E2) (F2.base.trans x2) x3 F2.Ld d3 st (us.trans us6))

/-- a function that catches: no raise -/
theorem norm_call {A : Around} {s : Shared} {g got : Str} {pg lg : List Str} {st : Stmt} {ms : MS} {h : ExceptHandler} {hs : List ExceptHandler} {scg : Scope} {fag : Addr} {og : Obj} {fdg : FuncData} {X : Addr → Prop} {vs : List Value} {ds : List D} {d : D} {fr : Bool} {tp p q : Pos} {ρ' : Rho} {i : Nat} {Q : Value → Shared → Prop}
    (W : Wd h₀ mg mb) (Ag : FnAt h₀ mg g pg [.Try [st] (h :: hs) [] [] tp, .Return (some (.Name got p)) q] scg fag og fdg) (hfg : fnOk pg lg scg = true)
    (R : Room A (k + 1)) (XX : Ext h₀ s.heap) (hX : ∀ a, X a → ∃ o, s.heap.get? a = some o) (hr : Reps X s.heap vs ds) (hlen : ds.length = pg.length)
    (H : ExOK prog w h₀ k Φ N ((pg ++ lg).map some) scg st ms) (he : exS Φ N ms (slots ds lg.length) = some (.next ρ')) (hi : ((pg ++ lg).map some)[i]? = some (some got)) (hρ : exS Φ N (.retVar i) ρ' = some (.ret d fr))
    (hQ : ∀ v h' tk, Ext s.heap h' → RetRep X s.heap h' v d fr → Q v { s with heap := h', toks := tk }) : wpAny (model prog w) A (call (.ref fag) vs) Q NoE s := by
  refine enter W Ag hfg (by have := R.dp; omega) XX hX hr hlen fun E2 g₁ tk₁ F2 EO2 ES2 hfm2 => ?_
  have R2 : Room (A.deeper E2) k := R.deeper
  refine wpAny_execs_cons (wpAny_Try_except (wpAny_execs_cons (wpAny_noE (H _ _ _ _ _ _ _ _ R2 EO2 ES2 XX F2 he _ fun f h1 t1 dn => ?_))))
  obtain ⟨p1, a1, rfl, fp1, F1, n1⟩ := dn
  refine wpAny_execs_nil (wpAny_execs_nil ?_)
  refine wpAny_noE (exs_cons (ex_retVar got p q i hi) exs_nil (A.deeper E2) E2 { s with heap := h1, toks := t1 } s.heap X fp1 ρ' (.ret d fr) R2 EO2 ES2 XX F1 (by rw [exSs, hρ]) _ fun f h' tk dn => ?_)
  have dn' := Done.after p1 a1 n1 dn
  obtain ⟨p2, al, v, rfl, rr⟩ := dn'
  refine hQ v h' tk (fun a o' e => p2 a o' (F2.base a o' e) ?_ ?_ (by simp)) rr
  · rintro rfl; rw [F2.Ld] at e; cases e
  · rintro y c hk hc rfl; rw [F2.Cd y _ hc] at e; cases e

/-- a call at the head of a frame whose heap may change in slots -/
theorem law_call {A : Around} {E1 : Env} {s : Shared} {hb : Heap} {Xc : Addr → Prop} {fp : Nat → List Addr} {ρ : Rho} {g : Str} {fag : Addr} {og : Obj} {fdg : FuncData} {e₀ : Expr} {es : List Expr} {mes : MEs} {rs : List (D × Mode)} {p2 p3 : Pos} {Q : Value → Shared → Prop}
    (W : Wd h₀ mg mb) (hg : mg g = some (.ref fag)) (hob : h₀.get? fag = some og) (hdt : og.data = .func fdg) (R : Room A k) (EO : EnvOK E1 sc) (X : Ext h₀ hb) (F : Frame names E1 hb s.heap Xc fp ρ) (hgl : sc.names.lookup g = some .globalImplicit) (hn : goodName g = true) (hst : notStar e₀ = true)
    (Hes : EsOK prog w h₀ k Φ names sc (e₀ :: es) mes) (hes : evEs Φ mes ρ = some rs) (hok : allOk rs = true)
    (hc : ∀ vs h1 t1, Ext s.heap h1 → Reps (Ys Xc fp) h1 vs (rs.map (·.1)) → wpAny (model prog w) A (call (.ref fag) vs) Q NoE { s with heap := h1, toks := t1 }) :
    wpAny (model prog w) A (eval (.Call (.Name g p2) (e₀ :: es) [] p3) E1) Q NoE s := by
  have X0 := X.trans F.base
  simp only [goodName, Bool.and_eq_true, Bool.not_eq_true'] at hn
  refine wpAny_Call_NameR (Calls.Name_function_global EO.kind (EO.glob g hgl) (Calls.loadGlobal_global (by rw [EO.glo]; exact W.g.keeps X0) hg ?_) hn.1)
  refine callWith_def (o := og) (fd := fdg) hdt (Hes A E1 s hb Xc fp ρ rs p3 R EO X0 F hes _ fun vs' h2 t2 gl x2 gn gd it => ⟨(X0.trans x2) _ _ hob, ?_⟩) (star_eq hst es E1)
  exact hc vs' h2 t2 x2 (it.reps (fun a e => .inl e) hok (off_of_dead gd F.aliveY))

theorem law_assign {A : Around} {E1 : Env} {s : Shared} {hb : Heap} {Xc : Addr → Prop} {fp : Nat → List Addr} {ρ : Rho} {g x : Str} {i : Nat} {fag : Addr} {og : Obj} {fdg : FuncData} {e₀ : Expr} {es : List Expr} {mes : MEs} {rs : List (D × Mode)} {p p2 p3 q : Pos} {d : D} {Q : Flow → Shared → Prop}
    (W : Wd h₀ mg mb) (hg : mg g = some (.ref fag)) (hob : h₀.get? fag = some og) (hdt : og.data = .func fdg) (R : Room A k) (EO : EnvOK E1 sc) (ES : E1.scope = sc) (X : Ext h₀ hb) (F : Frame names E1 hb s.heap Xc fp ρ) (hgl : sc.names.lookup g = some .globalImplicit) (hn : goodName g = true) (hst : notStar e₀ = true)
    (Hes : EsOK prog w h₀ k Φ names sc (e₀ :: es) mes) (hes : evEs Φ mes ρ = some rs) (hok : allOk rs = true) (hi : names[i]? = some (some x)) (hsx : storable sc x = true) (hsw : swapsB sc (.Call (.Name g p2) (e₀ :: es) [] p3) x p = false)
    (hc : ∀ vs h1 t1 (Q' : Value → Shared → Prop), Ext s.heap h1 → Reps (Ys Xc fp) h1 vs (rs.map (·.1)) → (∀ v h6 tk, Frame names E1 hb h6 Xc fp ρ → Rep (Ys Xc fp) h6 v d → Q' v { s with heap := h6, toks := tk }) → wpAny (model prog w) A (call (.ref fag) vs) Q' NoE { s with heap := h1, toks := t1 })
    (hQ : ∀ h' tk fp', Frame names E1 hb h' Xc fp' (ρ.set i (some ⟨false, d⟩)) → Q .next { s with heap := h', toks := tk }) :
    wpAny (model prog w) A (exec (.Assign [.Name x p] (.Call (.Name g p2) (e₀ :: es) [] p3) q) E1) Q NoE s := by
  refine wpAny_Assign_Name ?_ (by rw [swaps_eq ES (by rw [← ES]; exact EO.kind) rfl, hsw])
  refine law_call W hg hob hdt R EO X F hgl hn hst Hes hes hok fun vs h1 t1 x1 rp => hc vs h1 t1 _ x1 rp fun v h6 tk F6 r6 => ?_
  refine bind_slot (s := { s with heap := h6, toks := tk }) (m := .shared) (d := d) (o := false) F6 EO.kind hi (storable_kind ES hsx) (Ext.refl _) r6 rfl fun h' tk' dn _ _ => ?_
  obtain ⟨_, _, _, fp', F', _⟩ := dn
  exact hQ h' tk' fp' F'

theorem law_unless {A : Around} {E1 : Env} {s : Shared} {hb : Heap} {Xc : Addr → Prop} {fp : Nat → List Addr} {ρ : Rho} {g : Str} {fag : Addr} {og : Obj} {fdg : FuncData} {e₀ : Expr} {es : List Expr} {mes : MEs} {rs : List (D × Mode)} {p2 p3 q up : Pos} {a : List Stmt} {Q : Flow → Shared → Prop}
    (W : Wd h₀ mg mb) (hg : mg g = some (.ref fag)) (hob : h₀.get? fag = some og) (hdt : og.data = .func fdg) (R : Room A k) (EO : EnvOK E1 sc) (X : Ext h₀ hb) (F : Frame names E1 hb s.heap Xc fp ρ) (hgl : sc.names.lookup g = some .globalImplicit) (hn : goodName g = true) (hst : notStar e₀ = true)
    (Hes : EsOK prog w h₀ k Φ names sc (e₀ :: es) mes) (hes : evEs Φ mes ρ = some rs) (hok : allOk rs = true)
    (hc : ∀ vs h1 t1 (Q' : Value → Shared → Prop), Ext s.heap h1 → Reps (Ys Xc fp) h1 vs (rs.map (·.1)) → (∀ h6 tk, Frame names E1 hb h6 Xc fp ρ → Q' (.bool true) { s with heap := h6, toks := tk }) → wpAny (model prog w) A (call (.ref fag) vs) Q' NoE { s with heap := h1, toks := t1 })
    (hQ : ∀ h' tk, Frame names E1 hb h' Xc fp ρ → Q .next { s with heap := h', toks := tk }) :
    wpAny (model prog w) A (exec (.If (.UnaryOp .Not (.Call (.Name g p2) (e₀ :: es) [] p3) up) a [] q) E1) Q NoE s := by
  refine wpAny_If (wpAny_isTrue_Not (wpAny_isTrue_value (law_call W hg hob hdt R EO X F hgl hn hst Hes hes hok fun vs h1 t1 x1 rp => hc vs h1 t1 _ x1 rp fun h6 tk F6 => ?_) rfl))
  refine wpAny_truthy_bool ?_
  simp only [Bool.not_true, Bool.false_eq_true, if_false]
  exact wpAny_execs_nil (hQ h6 tk F6)
end
end Mine

namespace Mine
open PySem PyProof.Rows PySem.W PySem.Calls

noncomputable def TT : Nat → Tab
  | 0 => fun _ _ => none
  | k + 1 => runN (TT k)

/-! ## the texts' defs -/
noncomputable def theRec (p : Program) (name : Str) : Option DefRec := (recsOf p).find? fun d => d.name == name
noncomputable def argsAre : Arguments → List Str → Bool
  | ⟨po, as, va, ko, kd, kw, de⟩, params => po.isEmpty && va.isNone && ko.isEmpty && kd.isEmpty && kw.isNone && de.isEmpty && as.map (·.arg) == params
noncomputable def okRec (d : DefRec) (params locals : List Str) : Bool := argsAre d.params params && fnOk params locals d.scope
noncomputable def trB (d : DefRec) (params locals : List Str) (l : List Stmt) : Option (List MS) := trSL (trS 12 (mutd 12 d.body) 20 ((params ++ locals).map some) d.scope) l
noncomputable def bodyOf (p : Program) (F : Fn) : Option (List MS) := match theRec p F.name with
  | some d => if okRec d F.params F.locals then trB d F.params F.locals d.body else none
  | none => none

/-- arguments by place alone -/
noncomputable def BindP (params : List Str) : Prop := ∀ (as : List Arg), as.map (·.arg) = params → ∀ (name : Str) (body : List Stmt) (sc : Scope) (pm code doc : Value) (vals : List Value), vals.length = params.length →
  bindArgs (docDef name ⟨[], as, none, [], [], none, []⟩ body sc pm code doc) ⟨vals, []⟩ = pure (params.zip vals)
theorem bind_ok {params : List Str} (B : BindP params) {name : Str} {a : Arguments} {body : List Stmt} {sc : Scope} {pm code doc : Value} (h : argsAre a params = true) (vals : List Value) (hv : vals.length = params.length) :
    bindArgs (docDef name a body sc pm code doc) ⟨vals, []⟩ = pure (params.zip vals) := by
  obtain ⟨po, as, va, ko, kd, kw, de⟩ := a
  obtain ⟨h, h7⟩ := Bool.and_eq_true_iff.mp h
  obtain ⟨h, h6⟩ := Bool.and_eq_true_iff.mp h
  obtain ⟨h, h5⟩ := Bool.and_eq_true_iff.mp h
  obtain ⟨h, h4⟩ := Bool.and_eq_true_iff.mp h
  obtain ⟨h, h3⟩ := Bool.and_eq_true_iff.mp h
  obtain ⟨h1, h2⟩ := Bool.and_eq_true_iff.mp h
  cases List.isEmpty_iff.mp h1
  cases Option.isNone_iff_eq_none.mp h2
  cases List.isEmpty_iff.mp h3
  cases List.isEmpty_iff.mp h4
  cases Option.isNone_iff_eq_none.mp h5
  cases List.isEmpty_iff.mp h6
  exact B _ (beq_iff_eq.mp h7) _ _ _ _ _ _ vals hv
theorem bindP1 (x0 : Str) (H : ∀ (t0 : Option Expr) (q0 : Pos) (name : Str) (body : List Stmt) (sc : Scope) (pm code doc v0 : Value), bindArgs (docDef name ⟨[], [⟨x0, t0, q0⟩], none, [], [], none, []⟩ body sc pm code doc) ⟨[v0], []⟩ = pure ([x0].zip [v0])) : BindP [x0] := by
  intro as h name body sc pm code doc vals hv
  rcases as with _ | ⟨⟨a0, t0, q0⟩, _ | ⟨z, as⟩⟩ <;> simp only [List.map_cons, List.map_nil, List.cons.injEq, reduceCtorEq, and_false, and_true] at h
  obtain rfl := h
  rcases vals with _ | ⟨v0, _ | ⟨z, vs⟩⟩ <;> simp only [List.length_cons, List.length_nil] at hv <;> try omega
  exact H t0 q0 name body sc pm code doc v0
theorem bindP2 (x0 x1 : Str) (H : ∀ (t0 t1 : Option Expr) (q0 q1 : Pos) (name : Str) (body : List Stmt) (sc : Scope) (pm code doc v0 v1 : Value), bindArgs (docDef name ⟨[], [⟨x0, t0, q0⟩, ⟨x1, t1, q1⟩], none, [], [], none, []⟩ body sc pm code doc) ⟨[v0, v1], []⟩ = pure ([x0, x1].zip [v0, v1])) : BindP [x0, x1] := by
  intro as h name body sc pm code doc vals hv
  rcases as with _ | ⟨⟨a0, t0, q0⟩, _ | ⟨⟨a1, t1, q1⟩, _ | ⟨z, as⟩⟩⟩ <;> simp only [List.map_cons, List.map_nil, List.cons.injEq, reduceCtorEq, and_false, and_true] at h
  obtain ⟨rfl, rfl⟩ := h
  rcases vals with _ | ⟨v0, _ | ⟨v1, _ | ⟨z, vs⟩⟩⟩ <;> simp only [List.length_cons, List.length_nil] at hv <;> try omega
  exact H t0 t1 q0 q1 name body sc pm code doc v0 v1
theorem bindP3 (x0 x1 x2 : Str) (H : ∀ (t0 t1 t2 : Option Expr) (q0 q1 q2 : Pos) (name : Str) (body : List Stmt) (sc : Scope) (pm code doc v0 v1 v2 : Value), bindArgs (docDef name ⟨[], [⟨x0, t0, q0⟩, ⟨x1, t1, q1⟩, ⟨x2, t2, q2⟩], none, [], [], none, []⟩ body sc pm code doc) ⟨[v0, v1, v2], []⟩ = pure ([x0, x1, x2].zip [v0, v1, v2])) : BindP [x0, x1, x2] := by
  intro as h name body sc pm code doc vals hv
  rcases as with _ | ⟨⟨a0, t0, q0⟩, _ | ⟨⟨a1, t1, q1⟩, _ | ⟨⟨a2, t2, q2⟩, _ | ⟨z, as⟩⟩⟩⟩ <;> simp only [List.map_cons, List.map_nil, List.cons.injEq, reduceCtorEq, and_false, and_true] at h
  obtain ⟨rfl, rfl, rfl⟩ := h
  rcases vals with _ | ⟨v0, _ | ⟨v1, _ | ⟨v2, _ | ⟨z, vs⟩⟩⟩⟩ <;> simp only [List.length_cons, List.length_nil] at hv <;> try omega
  exact H t0 t1 t2 q0 q1 q2 name body sc pm code doc v0 v1 v2
theorem bindP4 (x0 x1 x2 x3 : Str) (H : ∀ (t0 t1 t2 t3 : Option Expr) (q0 q1 q2 q3 : Pos) (name : Str) (body : List Stmt) (sc : Scope) (pm code doc v0 v1 v2 v3 : Value), bindArgs (docDef name ⟨[], [⟨x0, t0, q0⟩, ⟨x1, t1, q1⟩, ⟨x2, t2, q2⟩, ⟨x3, t3, q3⟩], none, [], [], none, []⟩ body sc pm code doc) ⟨[v0, v1, v2, v3], []⟩ = pure ([x0, x1, x2, x3].zip [v0, v1, v2, v3])) : BindP [x0, x1, x2, x3] := by
  intro as h name body sc pm code doc vals hv
  rcases as with _ | ⟨⟨a0, t0, q0⟩, _ | ⟨⟨a1, t1, q1⟩, _ | ⟨⟨a2, t2, q2⟩, _ | ⟨⟨a3, t3, q3⟩, _ | ⟨z, as⟩⟩⟩⟩⟩ <;> simp only [List.map_cons, List.map_nil, List.cons.injEq, reduceCtorEq, and_false, and_true] at h
  obtain ⟨rfl, rfl, rfl, rfl⟩ := h
  rcases vals with _ | ⟨v0, _ | ⟨v1, _ | ⟨v2, _ | ⟨v3, _ | ⟨z, vs⟩⟩⟩⟩⟩ <;> simp only [List.length_cons, List.length_nil] at hv <;> try omega
  exact H t0 t1 t2 t3 q0 q1 q2 q3 name body sc pm code doc v0 v1 v2 v3
theorem bind_m : BindP ["m"] := bindP1 _ (fun _ _ _ _ _ _ _ _ _ => rfl)
theorem bind_m_c_start_zero : BindP ["m", "c", "start", "zero"] := bindP4 _ _ _ _ (fun _ _ _ _ _ _ _ _ _ _ _ _ _ _ _ _ _ _ => rfl)
theorem bind_a_b : BindP ["a", "b"] := bindP2 _ _ (fun _ _ _ _ _ _ _ _ _ _ _ _ => rfl)
theorem bind_n_d : BindP ["n", "d"] := bindP2 _ _ (fun _ _ _ _ _ _ _ _ _ _ _ _ => rfl)
theorem bind_x_y : BindP ["x", "y"] := bindP2 _ _ (fun _ _ _ _ _ _ _ _ _ _ _ _ => rfl)
theorem bind_x : BindP ["x"] := bindP1 _ (fun _ _ _ _ _ _ _ _ _ => rfl)
theorem bind_rows : BindP ["rows"] := bindP1 _ (fun _ _ _ _ _ _ _ _ _ => rfl)
theorem bind_n : BindP ["n"] := bindP1 _ (fun _ _ _ _ _ _ _ _ _ => rfl)
theorem bind_m_i_j : BindP ["m", "i", "j"] := bindP3 _ _ _ (fun _ _ _ _ _ _ _ _ _ _ _ _ _ _ _ => rfl)
theorem bind_m_i_k : BindP ["m", "i", "k"] := bindP3 _ _ _ (fun _ _ _ _ _ _ _ _ _ _ _ _ _ _ _ => rfl)
theorem bind_m_i_j_k : BindP ["m", "i", "j", "k"] := bindP4 _ _ _ _ (fun _ _ _ _ _ _ _ _ _ _ _ _ _ _ _ _ _ _ => rfl)
theorem bind_m_cols : BindP ["m", "cols"] := bindP2 _ _ (fun _ _ _ _ _ _ _ _ _ _ _ _ => rfl)
theorem bind_p : BindP ["p"] := bindP1 _ (fun _ _ _ _ _ _ _ _ _ => rfl)
theorem bind_rows_b : BindP ["rows", "b"] := bindP2 _ _ (fun _ _ _ _ _ _ _ _ _ _ _ _ => rfl)
theorem bind_script_i : BindP ["script", "i"] := bindP2 _ _ (fun _ _ _ _ _ _ _ _ _ _ _ _ => rfl)
theorem bind_script_n : BindP ["script", "n"] := bindP2 _ _ (fun _ _ _ _ _ _ _ _ _ _ _ _ => rfl)
theorem bind_a_i_j : BindP ["a", "i", "j"] := bindP3 _ _ _ (fun _ _ _ _ _ _ _ _ _ _ _ _ _ _ _ => rfl)
theorem bind_a : BindP ["a"] := bindP1 _ (fun _ _ _ _ _ _ _ _ _ => rfl)
theorem bind_got_want : BindP ["got", "want"] := bindP2 _ _ (fun _ _ _ _ _ _ _ _ _ _ _ _ => rfl)
theorem bind_a_whole_det : BindP ["a", "whole", "det"] := bindP3 _ _ _ (fun _ _ _ _ _ _ _ _ _ _ _ _ _ _ _ => rfl)
theorem bind_script : BindP ["script"] := bindP1 _ (fun _ _ _ _ _ _ _ _ _ => rfl)

section
variable {prog : Program} {w : World} {h₀ : Heap} {mg mb : Str → Option Value} {k : Nat} {p : Program} {loose : List Str} {mean : ExcName → Option Value}

theorem fn_at (T : Top p loose mean mg mb h₀) {name : Str} {params locals : List Str} {d : DefRec} (hd : theRec p name = some d) (ho : okRec d params locals = true) (B : BindP params) :
    ∃ fa o fd, FnAt h₀ mg name params d.body d.scope fa o fd ∧ fnOk params locals d.scope = true := by
  unfold theRec at hd
  have hm := List.mem_of_find?_eq_some hd
  have hn : d.name = name := beq_iff_eq.mp (List.find?_some (p := fun d : DefRec => d.name == name) hd)
  unfold okRec at ho
  rw [Bool.and_eq_true] at ho
  obtain ⟨a, o, pm, code, doc, e1, e2, e3, e4⟩ := T.fn d hm
  subst hn
  exact ⟨a, o, _, ⟨e1, e2, e3, rfl, rfl, rfl, rfl, rfl, e4, fun vals hv => bind_ok B ho.1 vals hv⟩, ho.2⟩

theorem tab_ok (T : Top p loose mean mg mb h₀) (W : Wd h₀ mg mb) (H : ∀ F ∈ fns, bodyOf p F = some F.body) (HP : ∀ F ∈ fns, BindP F.params) : ∀ k, TabOK prog w h₀ mg k (TT k)
  | 0 => fun f ds d fr h => by simp [TT] at h
  | k + 1 => fun f ds d fr h => by
    have ih := tab_ok T W H HP k
    simp only [TT, runN] at h
    cases hf : fnOf f with
    | none => rw [hf] at h; cases h
    | some F =>
      rw [hf] at h
      simp only [runF] at h
      unfold fnOf at hf
      have hm := List.mem_of_find?_eq_some hf
      have hn : F.name = f := beq_iff_eq.mp (List.find?_some (p := fun F : Fn => F.name == f) hf)
      subst hn
      split at h <;> try contradiction
      rename_i hlen
      split at h <;> try contradiction
      rename_i d' fr' he
      simp only [Option.some.injEq, Prod.mk.injEq] at h
      obtain ⟨rfl, rfl⟩ := h
      have hb := H F hm
      unfold bodyOf at hb
      split at hb <;> try contradiction
      rename_i r hr
      split at hb <;> try contradiction
      rename_i ho
      obtain ⟨fa, o, fd, A₀, hfn⟩ := fn_at T hr ho (HP F hm)
      exact fn_call W A₀ hfn hlen (trSL_ok (trS_ok W ih _ _ _) _ _ hb) he

theorem fns_bind : ∀ F ∈ fns, BindP F.params := by
  intro F hF
  simp only [fns, List.mem_cons, List.not_mem_nil, or_false] at hF
  rcases hF with rfl | rfl | rfl | rfl | rfl | rfl | rfl | rfl | rfl | rfl | rfl | rfl | rfl | rfl | rfl | rfl | rfl | rfl | rfl | rfl | rfl | rfl | rfl | rfl | rfl | rfl | rfl | rfl | rfl | rfl
  · exact bind_m
  · exact bind_m_c_start_zero
  · exact bind_a_b
  · exact bind_n_d
  · exact bind_x_y
  · exact bind_x
  · exact bind_x_y
  · exact bind_x_y
  · exact bind_rows
  · exact bind_n
  · exact bind_m_i_j
  · exact bind_m_i_k
  · exact bind_m_i_j_k
  · exact bind_m_cols
  · exact bind_m
  · exact bind_rows
  · exact bind_n
  · exact bind_p
  · exact bind_rows
  · exact bind_m
  · exact bind_m
  · exact bind_rows_b
  · exact bind_script_i
  · exact bind_script_n
  · exact bind_n_d
  · exact bind_a_i_j
  · exact bind_a
  · exact bind_got_want
  · exact bind_a_whole_det
  · exact bind_script

/-! ## lists of statements -/
theorem run_list {Φ : Tab} {N : Nat} {names : List (Option Str)} {sc : Scope} {f : Stmt → Option MS} (hf : ∀ s m, f s = some m → ExOK prog w h₀ k Φ N names sc s m) : ∀ (l : List Stmt) (ms : List MS) {rest : List Stmt} {A : Around} {env : Env} {s : Shared} {hb : Heap} {Xc : Addr → Prop} {fp : Nat → List Addr} {ρ ρ' : Rho} {Q : Flow → Shared → Prop}, trSL f l = some ms →
    Room A k → EnvOK env sc → env.scope = sc → Ext h₀ hb → Frame names env hb s.heap Xc fp ρ → exSs Φ N ms ρ = some (.next ρ') → (∀ h1 t1 fp1, Frame names env hb h1 Xc fp1 ρ' → wpAny (model prog w) A (execs rest env) Q NoE { s with heap := h1, toks := t1 }) → wpAny (model prog w) A (execs (l ++ rest) env) Q NoE s
  | [], ms, rest, A, env, s, hb, Xc, fp, ρ, ρ', Q, ht, R, EO, ES, X, F, he, K => by
    cases ht
    simp only [exSs, Option.some.injEq, Out.next.injEq] at he; subst he
    exact K s.heap s.toks fp F
  | st :: l, ms, rest, A, env, s, hb, Xc, fp, ρ, ρ', Q, ht, R, EO, ES, X, F, he, K => by
    obtain ⟨m, hm, ht⟩ := bnd ht
    obtain ⟨ms', hms, ht⟩ := bnd ht
    cases ht
    simp only [exSs] at he
    split at he
    · rename_i ρ1 he1
      refine wpAny_execs_cons (hf st m hm A env s hb Xc fp ρ _ R EO ES X F he1 _ fun fl h1 t1 d1 => ?_)
      obtain ⟨p1, a1, rfl, fp1, F1, n1⟩ := d1
      exact run_list hf l ms' (s := { s with heap := h1, toks := t1 }) hms R EO ES X F1 he K
    · rename_i hne
      exact absurd he (hne ρ')
theorem rz_list {Φ : Tab} {N : Nat} {names : List (Option Str)} {sc : Scope} {f : Stmt → Option MS} (hf : ∀ s m, f s = some m → ExOK prog w h₀ k Φ N names sc s m) : ∀ (l : List Stmt) (ms : List MS) {sts : List Stmt} {A : Around} {env : Env} {s : Shared} {hb : Heap} {Xc : Addr → Prop} {fp : Nat → List Addr} {ρ ρ' : Rho} {cls : Value}, trSL f l = some ms →
    Room A k → EnvOK env sc → env.scope = sc → Ext h₀ hb → Frame names env hb s.heap Xc fp ρ → exSs Φ N ms ρ = some (.next ρ') → (∀ h1 t1 fp1, Frame names env hb h1 Xc fp1 ρ' → RaisesAt prog w A env { s with heap := h1, toks := t1 } names hb Xc sts cls) → RaisesAt prog w A env s names hb Xc (l ++ sts) cls
  | [], ms, sts, A, env, s, hb, Xc, fp, ρ, ρ', cls, ht, R, EO, ES, X, F, he, K => by
    cases ht
    simp only [exSs, Option.some.injEq, Out.next.injEq] at he; subst he
    exact K s.heap s.toks fp F
  | st :: l, ms, sts, A, env, s, hb, Xc, fp, ρ, ρ', cls, ht, R, EO, ES, X, F, he, K => by
    obtain ⟨m, hm, ht⟩ := bnd ht
    obtain ⟨ms', hms, ht⟩ := bnd ht
    cases ht
    simp only [exSs] at he
    split at he
    · rename_i ρ1 he1
      exact rz_step (hf st m hm) R EO ES X F he1 fun h1 t1 fp1 F1 => rz_list hf l ms' (s := { s with heap := h1, toks := t1 }) hms R EO ES X F1 he K
    · rename_i hne
      exact absurd he (hne ρ')
end
end Mine

namespace Mine
open PySem PyProof.Rows PySem.W PySem.Calls

noncomputable def globs (sc : Scope) (l : List Str) : Bool := l.all fun x => sc.names.lookup x == some .globalImplicit
theorem globs_of {sc : Scope} {l : List Str} (h : globs sc l = true) {x : Str} (hx : x ∈ l) : sc.names.lookup x = some .globalImplicit := by
  have := List.all_eq_true.mp h x hx
  simpa using this

noncomputable def lawLocals : List Str := ["n", "a", "b", "d", "a_before", "b_before", "whole_before", "parts_before", "det", "whole", "parts", "inv", "sol", "adj"]

/-! ## a text against its own shape: the places are taken from the text -/
noncomputable def p0 : Pos := ⟨0, 0, 0, 0⟩
noncomputable def e0 : Expr := .Name "" p0
noncomputable def s0 : Stmt := .Break p0
noncomputable def ePos : Expr → Pos | .Name _ p => p | .Call _ _ _ p => p | .Constant _ _ p => p | .UnaryOp _ _ p => p | _ => p0
noncomputable def eNum : Expr → Nat | .Constant _ j _ => j | _ => 0
noncomputable def eStr : Expr → Str | .Constant c _ _ => (match c with | .str x => x | _ => "") | _ => ""
noncomputable def eFun : Expr → Expr | .Call f _ _ _ => f | _ => e0
noncomputable def eArg (i : Nat) : Expr → Expr | .Call _ a _ _ => a.getD i e0 | _ => e0
noncomputable def eUn : Expr → Expr | .UnaryOp _ e _ => e | _ => e0
noncomputable def sPos : Stmt → Pos | .Assign _ _ p => p | .Return _ p => p | .Expr _ p => p | .Try _ _ _ _ p => p | .If _ _ _ p => p | .Raise _ _ p => p | _ => p0
noncomputable def sTgt : Stmt → Expr | .Assign ts _ _ => ts.headD e0 | _ => e0
noncomputable def sVal : Stmt → Expr | .Assign _ e _ => e | .Return o _ => o.getD e0 | .Expr e _ => e | .If t _ _ _ => t | .Raise o _ _ => o.getD e0 | _ => e0
noncomputable def sBody : Stmt → List Stmt | .Try l _ _ _ _ => l | .If _ a _ _ => a | _ => []
noncomputable def sElse : Stmt → List Stmt | .If _ _ b _ => b | _ => []
noncomputable def sHand : Stmt → ExceptHandler | .Try _ hs _ _ _ => hs.headD (.ExceptHandler none none [] p0) | _ => .ExceptHandler none none [] p0
noncomputable def hPos : ExceptHandler → Pos | .ExceptHandler _ _ _ p => p
noncomputable def hTyp : ExceptHandler → Expr | .ExceptHandler o _ _ _ => o.getD e0
noncomputable def hBody : ExceptHandler → List Stmt | .ExceptHandler _ _ l _ => l
noncomputable def at0 (b : List Stmt) (i : Nat) : Stmt := b.getD i s0

/-- the body is what it is rebuilt to -/
noncomputable def Is (p : Program) (name : Str) (canon : List Stmt → List Stmt) : Prop := (theRec p name).map (·.body) = (theRec p name).map fun d => canon d.body
theorem Is.of {p : Program} {name : Str} {canon : List Stmt → List Stmt} {d : DefRec} (h : Is p name canon) (hd : theRec p name = some d) : d.body = canon d.body := by
  unfold Is at h
  rw [hd] at h
  exact Option.some.inj h

noncomputable def mkTry (st : Stmt) (x : Str) (c : Const) (s : Stmt) : Stmt :=
  .Try [st] [.ExceptHandler (some (.Name x (ePos (hTyp (sHand s))))) none [.Return (some (.Constant c (eNum (sVal (at0 (hBody (sHand s)) 0))) (ePos (sVal (at0 (hBody (sHand s)) 0))))) (sPos (at0 (hBody (sHand s)) 0))] (hPos (sHand s))] [] [] (sPos s)
noncomputable def mkCall (f : Str) (as : List Expr) (e : Expr) : Expr := .Call (.Name f (ePos (eFun e))) as [] (ePos e)
noncomputable def mkName (x : Str) (e : Expr) : Expr := .Name x (ePos e)
noncomputable def mkAssign (x : Str) (e : Expr) (s : Stmt) : Stmt := .Assign [mkName x (sTgt s)] e (sPos s)
noncomputable def inS (b : List Stmt) : Stmt := at0 (sBody (at0 b 0)) 0
noncomputable def canonInv (b : List Stmt) : List Stmt := [mkTry (mkAssign "got" (mkCall "inverse_of" [mkName "m" (eArg 0 (sVal (inS b)))] (sVal (inS b))) (inS b)) "SingularError" (.str "singular") (at0 b 0), .Return (some (mkName "got" (sVal (at0 b 1)))) (sPos (at0 b 1))]
noncomputable def canonCra (b : List Stmt) : List Stmt := [mkTry (mkAssign "got" (mkCall "cramer" [mkName "a" (eArg 0 (sVal (inS b))), mkName "b" (eArg 1 (sVal (inS b)))] (sVal (inS b))) (inS b)) "SingularError" (.str "singular") (at0 b 0), .Return (some (mkName "got" (sVal (at0 b 1)))) (sPos (at0 b 1))]
noncomputable def canonRef (b : List Stmt) : List Stmt := mkTry (.Expr (mkCall "frac" [mkName "n" (eArg 0 (sVal (inS b))), .Constant (.int 0) (eNum (eArg 1 (sVal (inS b)))) (ePos (eArg 1 (sVal (inS b))))] (sVal (inS b))) (sPos (inS b))) "ZeroDivisionError" (.bool true) (at0 b 0) :: b.drop 1
noncomputable def canonLaw (b : List Stmt) : List Stmt :=
  b.take 11 ++ .If (.UnaryOp .Not (mkCall "_law_frac_refuses" [mkName "n" (eArg 0 (eUn (sVal (at0 b 11))))] (eUn (sVal (at0 b 11)))) (ePos (sVal (at0 b 11)))) (sBody (at0 b 11)) [] (sPos (at0 b 11)) ::
    ((b.drop 12).take 2 ++ mkAssign "inv" (mkCall "_law_inverse" [mkName "parts" (eArg 0 (sVal (at0 b 14)))] (sVal (at0 b 14))) (at0 b 14) :: mkAssign "sol" (mkCall "_law_cramer" [mkName "a" (eArg 0 (sVal (at0 b 15))), mkName "b" (eArg 1 (sVal (at0 b 15)))] (sVal (at0 b 15))) (at0 b 15) :: b.drop 16)
noncomputable def canonRz (n : Nat) (x : Str) (b : List Stmt) : List Stmt :=
  b.take n ++ .If (sVal (at0 b n)) [.Raise (some (mkCall x [.Constant (.str (eStr (eArg 0 (sVal (at0 (sBody (at0 b n)) 0))))) (eNum (eArg 0 (sVal (at0 (sBody (at0 b n)) 0)))) (ePos (eArg 0 (sVal (at0 (sBody (at0 b n)) 0))))] (sVal (at0 (sBody (at0 b n)) 0)))) none (sPos (at0 (sBody (at0 b n)) 0))] (sElse (at0 b n)) (sPos (at0 b n)) :: b.drop (n + 1)

/-- a def that comes to a raise after n statements -/
noncomputable def rzOf (p : Program) (name : Str) (params locals : List Str) (n : Nat) (x : Str) : Option (List MS × MT) := match theRec p name with
  | some d => if okRec d params locals && globs d.scope [x] then (match trB d params locals (d.body.take n) with
      | some ms => (match trT 20 ((params ++ locals).map some) d.scope (sVal (at0 d.body n)) with
        | some mt => some (ms, mt)
        | none => none)
      | none => none) else none
  | none => none
theorem rzOf_inv {p : Program} {name : Str} {params locals : List Str} {n : Nat} {x : Str} {ms : List MS} {mt : MT} (h : rzOf p name params locals n x = some (ms, mt)) : ∃ d, theRec p name = some d ∧ okRec d params locals = true ∧ d.scope.names.lookup x = some .globalImplicit ∧
    trB d params locals (d.body.take n) = some ms ∧ trT 20 ((params ++ locals).map some) d.scope (sVal (at0 d.body n)) = some mt := by
  unfold rzOf at h
  split at h <;> try contradiction
  rename_i d hd
  split at h <;> try contradiction
  rename_i ho
  rw [Bool.and_eq_true] at ho
  split at h <;> try contradiction
  rename_i ms' hms
  split at h <;> try contradiction
  rename_i mt' hmt
  simp only [Option.some.injEq, Prod.mk.injEq] at h
  obtain ⟨rfl, rfl⟩ := h
  exact ⟨d, hd, ho.1, globs_of ho.2 (by simp), hms, hmt⟩

noncomputable def isT (p : Program) (name : Str) (params locals : List Str) (gl : List Str) : Bool := match theRec p name with
  | some d => okRec d params locals && globs d.scope gl
  | none => false
theorem isT_inv {p : Program} {name : Str} {params locals gl : List Str} (h : isT p name params locals gl = true) : ∃ d, theRec p name = some d ∧ okRec d params locals = true ∧ globs d.scope gl = true := by
  unfold isT at h
  split at h
  · rename_i d hd
    rw [Bool.and_eq_true] at h
    exact ⟨d, hd, h.1, h.2⟩
  · cases h
noncomputable def lawOf (p : Program) : Option (List MS × List MS × List MS) := match theRec p "law" with
  | some d => (match trB d ["script"] lawLocals (d.body.take 11) with
    | some a => (match trB d ["script"] lawLocals ((d.body.drop 12).take 2) with
      | some b => (match trB d ["script"] lawLocals (d.body.drop 16) with
        | some c => if storable d.scope "inv" && storable d.scope "sol" then some (a, b, c) else none
        | none => none)
      | none => none)
    | none => none)
  | none => none
noncomputable def freeIn (p : Program) (loose : List Str) (x : Str) : Bool := !startupNames.contains x && (!loose.contains x && (!((recsOf p).map (·.name)).contains x && (!((litsOf p).map (·.1)).contains x && !((clssOf p loose).map (·.name)).contains x)))

noncomputable def bmE : List Value := [.type "Exception", .type "BaseException", .type "object"]
/-- what is looked up in the text -/
structure CK (p : Program) (loose : List Str) : Prop where
  body : ∀ F ∈ fns, bodyOf p F = some F.body
  free : (("ZeroDivisionError" : Str) :: biTable.map (·.1)).all (freeIn p loose) = true
  inv : isT p "_law_inverse" ["m"] ["got"] ["inverse_of", "SingularError"] = true
  cra : isT p "_law_cramer" ["a", "b"] ["got"] ["cramer", "SingularError"] = true
  ref : isT p "_law_frac_refuses" ["n"] [] ["frac", "ZeroDivisionError"] = true
  law : isT p "law" ["script"] lawLocals ["_law_frac_refuses", "_law_inverse", "_law_cramer"] = true
  invC : Is p "_law_inverse" canonInv
  craC : Is p "_law_cramer" canonCra
  refC : Is p "_law_frac_refuses" canonRef
  lawC : Is p "law" canonLaw
  lawT : lawOf p = some (lawL1, lawL2, lawL3)
  rinv : rzOf p "inverse_of" ["m"] ["n", "ident", "red", "pivots"] 3 "SingularError" = some (mb_inverse_of.take 3, .cmp .NotEq (.var 4) (.lrange (.var 1)))
  rcra : rzOf p "cramer" ["rows", "b"] ["n", "d", "x", "j", "swapped"] 2 "SingularError" = some (mb_cramer.take 2, .cmp .Eq (.var 3) (.int 0))
  rfra : rzOf p "frac" ["n", "d"] ["g"] 0 "ZeroDivisionError" = some ([], .cmp .Eq (.var 1) (.int 0))
  rinvC : Is p "inverse_of" (canonRz 3 "SingularError")
  rcraC : Is p "cramer" (canonRz 2 "SingularError")
  rfraC : Is p "frac" (canonRz 0 "ZeroDivisionError")
  own : specOf p "SingularError" = some ("Exception.__new__", bmE)
end Mine

namespace Mine
open PySem PyProof.Rows PySem.W PySem.Calls

section
variable {prog : Program} {w : World} {h₀ : Heap} {mg mb : Str → Option Value} {p : Program} {loose : List Str} {mean : ExcName → Option Value}

theorem free_of (T : Top p loose mean mg mb h₀) {x : Str} (h : freeIn p loose x = true) : mg x = none := by
  unfold freeIn at h
  simp only [Bool.and_eq_true, Bool.not_eq_true', List.contains_eq_mem, decide_eq_false_iff_not] at h
  exact T.free x h.1 h.2.1 h.2.2.1 h.2.2.2.1 h.2.2.2.2
theorem wd_of (T : Top p loose mean mg mb h₀) (C : CK p loose) : Wd h₀ mg mb ∧ mg ("ZeroDivisionError" : Str) = none ∧ mb ("ZeroDivisionError" : Str) = some (.type "ZeroDivisionError") := by
  have fr := List.all_eq_true.mp C.free
  refine ⟨⟨T.g, T.b, T.nolimit, fun q hq => ⟨free_of T (fr _ (List.mem_cons_of_mem _ (List.mem_map_of_mem hq))), ?_⟩⟩, free_of T (fr _ List.mem_cons_self), (T.builtins _ (by decide +kernel)).trans (by kernel_rfl)⟩
  simp only [biTable, List.mem_cons, List.not_mem_nil, or_false] at hq
  rcases hq with rfl | rfl | rfl | rfl | rfl | rfl | rfl | rfl | rfl <;> exact (T.builtins _ (by decide +kernel)).trans (by kernel_rfl)

theorem lawOf_inv {d : DefRec} (hd : theRec p "law" = some d) {a b c : List MS} (h : lawOf p = some (a, b, c)) : trB d ["script"] lawLocals (d.body.take 11) = some a ∧ trB d ["script"] lawLocals ((d.body.drop 12).take 2) = some b ∧ trB d ["script"] lawLocals (d.body.drop 16) = some c ∧ storable d.scope "inv" = true ∧ storable d.scope "sol" = true := by
  unfold lawOf at h
  rw [hd] at h
  simp only at h
  split at h <;> try contradiction
  rename_i a' ha
  split at h <;> try contradiction
  rename_i b' hb
  split at h <;> try contradiction
  rename_i c' hc
  split at h <;> try contradiction
  rename_i hs
  rw [Bool.and_eq_true] at hs
  simp only [Option.some.injEq, Prod.mk.injEq] at h
  obtain ⟨rfl, rfl, rfl⟩ := h
  exact ⟨ha, hb, hc, hs.1, hs.2⟩

/-! ## what the table answers -/
theorem tGcd (k : Nat) : SGcd (TT (k + 1)) := gcd_run _
theorem tFrac (k : Nat) : SFrac (TT (k + 2)) := frac_run (tGcd k)
theorem tAdd (k : Nat) : SAdd (TT (k + 3)) := add_run (tFrac k)
theorem tMul (k : Nat) : SMul (TT (k + 3)) := mul_run (tFrac k)
theorem tDiv (k : Nat) : SDiv (TT (k + 3)) := div_run (tFrac k)
theorem tNeg (k : Nat) : SNeg (TT (k + 1)) := neg_run _
theorem tCopy (k : Nat) : SCopy (TT (k + 1)) := copy_run _
theorem tPiv (k : Nat) : SPiv (TT (k + 1)) := piv_run _
theorem tSwap (k : Nat) : SSwap (TT (k + 2)) := swap_run (tCopy k)
theorem tScale (k : Nat) : SScale (TT (k + 4)) := scale_run (tCopy (k + 2)) (tMul k)
theorem tRowAdd (k : Nat) : SRowAdd (TT (k + 4)) := rowadd_run (tCopy (k + 2)) (tMul k) (tAdd k)
theorem tElim (k : Nat) : SElim (TT (k + 5)) := elim_run (tCopy (k + 3)) (tPiv (k + 3)) (tSwap (k + 2)) (tNeg (k + 3)) (tDiv (k + 1)) (tMul (k + 1)) (tRowAdd k)
theorem tRed (k : Nat) : SRed (TT (k + 5)) := red_run (tCopy (k + 3)) (tPiv (k + 3)) (tSwap (k + 2)) (tNeg (k + 3)) (tDiv (k + 1)) (tScale k) (tRowAdd k)
theorem tBar (k : Nat) : SBar (TT (k + 3)) := bar_run (tCopy (k + 1)) (tPiv (k + 1)) (tSwap k)
theorem tLeib (k : Nat) : SLeib (TT (k + 2)) := leib_run (perm_run _) (sign_run _)
theorem tCof (k : Nat) : SCof (TT (k + 1)) := cof_run _
theorem tDet (k : Nat) : SDet (TT (k + 2)) := det_run (tCof k)
theorem tLu (k : Nat) : SLu (TT (k + 5)) := lu_run (tCopy (k + 3)) (tPiv (k + 3)) (tSwap (k + 2)) (tNeg (k + 3)) (tDiv (k + 1)) (tRowAdd k)
theorem tLuH (k : Nat) : SLuH (TT (k + 6)) := luh_run (tLu k) (exact_run _) (pair_run _)
theorem tEnt (k : Nat) : SEnt (TT (k + 2)) := ent_run (cell_run _)

theorem trSL_ex {k : Nat} (W : Wd h₀ mg mb) (TB : TabOK prog w h₀ mg k (TT k)) (d : DefRec) (params locals : List Str) : ∀ s m, trS 12 (mutd 12 d.body) 20 ((params ++ locals).map some) d.scope s = some m → ExOK prog w h₀ k (TT k) NN ((params ++ locals).map some) d.scope s m := trS_ok W TB _ _ _

theorem inv_bad {Φ : Tab} (hI : SIdent Φ) (hR : SRed Φ) {n : Nat} {f : Nat → Nat → Int} {b dd : Nat → Int} (h : Inp n f b dd) (hd : detI n f = 0) :
    ∃ ρ', exSs Φ NN (mb_inverse_of.take 3) (slots [qm n n (parF f dd)] 4) = some (.next ρ') ∧ evT Φ (.cmp .NotEq (.var 4) (.lrange (.var 1))) ρ' = some true := by
  have hn' : n ≤ 64 := by have := h.n3; omega
  obtain ⟨g, ps, hr, e1, e2, e3⟩ := inv_pre hI hR h.n3 (par_sz h)
  have hb := hr.bad h.n3 ((par_det h).mpr hd)
  refine ⟨invRho n (parF f dd) g ps, ?_, ?_⟩
  · simp only [mb_inverse_of, List.take_succ_cons, List.take_zero, exSs, e1, e2, e3]
  · simp only [invRho, evT, evE, List.getElem?_cons_zero, List.getElem?_cons_succ, vm_int, vm_list, lrange_ok hn', cmp_ne_piv, hb, decide_false, Bool.not_false]
theorem cram_bad {Φ : Tab} (hB : SBar Φ) {n : Nat} {f : Nat → Nat → Int} {b dd : Nat → Int} (h : Inp n f b dd) (hd : detI n f = 0) :
    ∃ ρ', exSs Φ NN (mb_cramer.take 2) (slots [im n n f, iv n b] 5) = some (.next ρ') ∧ evT Φ (.cmp .Eq (.var 3) (.int 0)) ρ' = some true := by
  obtain ⟨e1, e2⟩ := cram_pre hB (b := b) h.n3 h.f8
  refine ⟨_, by simp only [mb_cramer, List.take_succ_cons, List.take_zero, exSs, e1, e2]; rfl, ?_⟩
  simp only [evT, evE, List.getElem?_cons_zero, List.getElem?_cons_succ, vm_int, cmp_eq_int, hd, decide_true]

/-- a def of the text that comes to its raise -/
theorem rz_def {k : Nat} {name : Str} {params locals : List Str} {n : Nat} {ms : List MS} {mt : MT} {C : Addr} (T : Top p loose mean mg mb h₀) (W : Wd h₀ mg mb) (TB : TabOK prog w h₀ mg k (TT k)) (h : rzOf p name params locals n "SingularError" = some (ms, mt)) (hC : Is p name (canonRz n "SingularError")) (BP : BindP params) (O : OwnCls "SingularError" C bmE "Exception.__new__" mg h₀) {ds : List D}
    (he : ∃ ρ', exSs (TT k) NN ms (slots ds locals.length) = some (.next ρ') ∧ evT (TT k) mt ρ' = some true) :
    ∃ body sc fa o fd, FnAt h₀ mg name params body sc fa o fd ∧ fnOk params locals sc = true ∧ ∀ A env s' hb X, Room A k → EnvOK env sc → env.scope = sc → Ext h₀ hb → Frame ((params ++ locals).map some) env hb s'.heap X (fun _ => []) (slots ds locals.length) → RaisesAt prog w A env s' ((params ++ locals).map some) hb X body (.ref C) := by
  obtain ⟨d, hd, ho, hg, htr, htt⟩ := rzOf_inv h
  have hb := hC.of hd
  obtain ⟨fa, o, fd, A₀, hf⟩ := fn_at T hd ho BP
  obtain ⟨ρ', e1, e2⟩ := he
  refine ⟨d.body, d.scope, fa, o, fd, A₀, hf, fun A env s' hb' X R EO ES XX F => ?_⟩
  rw [hb]
  exact rz_list (trSL_ex W TB d params locals) _ _ htr R EO ES XX F e1 fun h1 t1 fp1 F1 => rz_own W ((tr_ok W TB 20).2.1 _ _ _ _ htt) R EO XX F1 e2 O PySem.F.excBase_Exception hg (by decide)
theorem rz_frac {k : Nat} (T : Top p loose mean mg mb h₀) (W : Wd h₀ mg mb) (TB : TabOK prog w h₀ mg k (TT k)) (C : CK p loose) (hz : mg ("ZeroDivisionError" : Str) = none) (hz' : mb ("ZeroDivisionError" : Str) = some (.type "ZeroDivisionError")) (i : Int) :
    ∃ body sc fa o fd, FnAt h₀ mg "frac" ["n", "d"] body sc fa o fd ∧ fnOk ["n", "d"] ["g"] sc = true ∧ ∀ A env s' hb X, Room A k → EnvOK env sc → env.scope = sc → Ext h₀ hb → Frame (((["n", "d"] : List Str) ++ (["g"] : List Str)).map some) env hb s'.heap X (fun _ => []) (slots [.int i, .int 0] 1) → RaisesAt prog w A env s' (((["n", "d"] : List Str) ++ (["g"] : List Str)).map some) hb X body (.type "ZeroDivisionError") := by
  obtain ⟨d, hd, ho, hg, htr, htt⟩ := rzOf_inv C.rfra
  have hb := C.rfraC.of hd
  obtain ⟨fa, o, fd, A₀, hf⟩ := fn_at T hd ho bind_n_d
  refine ⟨d.body, d.scope, fa, o, fd, A₀, hf, fun A env s' hb' X R EO ES XX F => ?_⟩
  rw [hb]
  refine rz_list (trSL_ex W TB d ["n", "d"] ["g"]) _ _ htr R EO ES XX F (ρ' := slots [.int i, .int 0] 1) (by rw [exSs]) fun h1 t1 fp1 F1 => rz_builtin W ((tr_ok W TB 20).2.1 _ _ _ _ htt) R EO XX F1 ?_ hz hz' PySem.F.excCall_ZeroDivisionError PySem.F.excRaise_ZeroDivisionError hg (by decide)
  simp only [slots, evT, evE, List.map_cons, List.map_nil, List.cons_append, List.getElem?_cons_zero, List.getElem?_cons_succ, vm_int, cmp_eq_int, decide_true]
end
end Mine

namespace Mine
open PySem PyProof.Rows PySem.W PySem.Calls

section
variable {prog : Program} {w : World} {h₀ : Heap} {mg mb : Str → Option Value} {p : Program} {loose : List Str} {mean : ExcName → Option Value}

/-- a caught call or a plain one: the data that comes back -/
noncomputable def Gives (prog : Program) (w : World) (A : Around) (E1 : Env) (fa : Addr) (ds : List D) (d : D) : Prop :=
  ∀ (s : Shared) (X : Addr → Prop) (vs : List Value) (Q : Value → Shared → Prop), (∀ a, X a → ∃ o, s.heap.get? a = some o) → Reps X s.heap vs ds → (∃ ml, s.heap.Ns E1.locals ml) →
    (∀ v h' tk, Flew E1.locals s.heap h' → (∀ Y, (∀ a, Y a → X a) → Stab Y s.heap h' → Rep Y h' v d) → Q v { s with heap := h', toks := tk }) → wpAny (model prog w) A (call (.ref fa) vs) Q NoE s

theorem Flew.of_ext {L : Addr} {h h' : Heap} (x : Ext h h') : Flew L h h' := ⟨fun b o e _ => x b o e, Heap.UpToSlots.of_keeps x⟩
end

section
variable {prog : Program} {w : World} {h₀ : Heap} {mg mb : Str → Option Value} {p : Program} {loose : List Str} {mean : ExcName → Option Value}

theorem law_body {s : Shared} (T : Top p loose mean mg mb s.heap) (C : CK p loose) {ns : List Int} (hl : ns.length ≤ 63) {l : Addr} {vs : List Value} {nn : Nat} (hL : IsL s.heap l vs.toArray nn) (hr : Reps (fun _ => False) s.heap vs (ns.map .int)) {fa : Addr} (hfa : mg ("law" : Str) = some (.ref fa)) {Q : Value → Shared → Prop}
    (hQ : ∀ h' tk, Ext s.heap h' → Q (.bool true) { s with heap := h', toks := tk }) : wpAny (model prog w) callerA (call (.ref fa) [.ref l]) Q NoE s := by
  obtain ⟨W, hz1, hz2⟩ := wd_of T C
  have TB : ∀ k, TabOK prog w s.heap mg k (TT k) := tab_ok T W C.body fns_bind
  obtain ⟨dl, hdl, okl, gll⟩ := isT_inv C.law
  obtain ⟨fal, ol, fdl, Al, fnl⟩ := fn_at T hdl okl bind_script
  obtain ⟨di, hdi, oki, gli⟩ := isT_inv C.inv
  obtain ⟨fai, oi, fdi, Ai, fni⟩ := fn_at T hdi oki bind_m
  obtain ⟨dc, hdc, okc, glc⟩ := isT_inv C.cra
  obtain ⟨fac, oc, fdc, Ac, fnc⟩ := fn_at T hdc okc bind_a_b
  obtain ⟨dr, hdr, okr, glr⟩ := isT_inv C.ref
  obtain ⟨far, or', fdr, Ar, fnr⟩ := fn_at T hdr okr bind_n
  obtain ⟨Cx, OQ, _⟩ := T.ownAt C.own
  have O := OQ.own
  obtain rfl : fal = fa := by have := Al.g.symm.trans hfa; injection this with this; injection this
  obtain ⟨t1, t2, t3, st1, st2⟩ := lawOf_inv hdl C.lawT
  have R0 : Room callerA 11 := ⟨rfl, by decide +kernel, by decide +kernel⟩
  have hrl : Reps (fun _ => False) s.heap [.ref l] [scr ns] := .cons (.list (fun h => h) hL hr) .nil
  refine enter (X := fun _ => False) (ds := [scr ns]) W Al fnl (by have := R0.dp; omega) (Ext.refl _) (fun a h => h.elim) hrl rfl fun E1 g₁ tk₁ F EO ES hfm => ?_
  have R1 : Room (callerA.deeper E1) 10 := R0.deeper
  have R8 : Room (callerA.deeper E1) 8 := R1.less.less
  have hfr : (callerA.deeper E1).frames = some [E1] := Around.frames_deeper rfl
  generalize callerA.deeper E1 = A1 at *
  -- the law's own run
  obtain ⟨n, f, b, dd, INP, e1⟩ := law_one (cell_run _) (tEnt 6) (pair_run _) (tDet 6) (ints_run _) (tFrac 6) (exact_run _) ns hl (Φ := TT 8)
  have e2 := law_two (Φ := TT 8) (tLeib 6) (tBar 5) (tElim 3) (exact_run _) (tLuH 2) (ns := ns) INP
  have e3 := law_three (Φ := TT 8) (pair_run _) (tCof 7) (exact_run _) (ns := ns) INP
  have hb := C.lawC.of hdl
  rw [hb, canonLaw]
  refine wpAny_noE (run_list (trSL_ex W (TB 8) dl ["script"] lawLocals) _ _ t1 R8 EO ES (Ext.refl _) F e1 fun h1 tk1 fp1 F1 => ?_)
  -- the refusal of nought
  obtain ⟨bf, scf, faf, of', fdf, Af, fnf, Hf⟩ := rz_frac (prog := prog) (w := w) (k := 8) T W (TB 8) C hz1 hz2 (n : Int)
  rw [C.refC.of hdr] at Ar
  refine wpAny_execs_cons (law_unless (Φ := TT 8) (k := 8) (s := { s with heap := h1, toks := tk1 }) (ρ := rho1 ns n f b dd none none) (rs := [(.int (n : Int), .fresh)]) W Ar.g Ar.ob Ar.dt R8 EO (Ext.refl _) F1 (globs_of gll (by simp)) (by decide) rfl (es_cons rfl (ev_var "n" _ 1 rfl) es_nil) rfl rfl (fun vs' h2 t2' Q' x2 rp K => ?_) fun h2 tk2 F2 => ?_)
  · refine catch_builtin_call (Φ := TT 8) (k := 8) (lg := []) (s := { s with heap := h2, toks := t2' }) (E1 := E1) (rs := [(.int (n : Int), .fresh), (.int 0, .fresh)]) W Ar fnr Af fnf R1 ((F1.ext x2).base) (F1.ext x2).aliveY rp rfl hfr ⟨EO.kind, hfm, (F1.ext x2).nsL⟩ F.Ld (globs_of glr (by simp)) (by decide) rfl (es_cons rfl (ev_var "n" _ 0 rfl) (es_cons rfl (ev_int 0 _ _) es_nil)) rfl rfl rfl (globs_of glr (by simp)) (by decide) hz1 hz2 PySem.F.isExc_ZeroDivisionError PySem.F.notTuple_ZeroDivisionError (by rw [isSubtype_type]; kernel_rfl) (fun A env s' hb X R eo es x F => Hf A env s' hb X R eo es x F) fun h6 tk fl => ?_
    exact K h6 tk ((F1.ext x2).flew fl.1 fl.2)
  -- the determinants and LU
  refine run_list (trSL_ex W (TB 8) dl ["script"] lawLocals) _ _ t2 (s := { s with heap := h2, toks := tk2 }) R8 EO ES (Ext.refl _) F2 e2 fun h3 tk3 fp3 F3 => ?_
  -- the inverse
  rw [C.invC.of hdi] at Ai
  refine wpAny_execs_cons (law_assign (Φ := TT 8) (k := 8) (s := { s with heap := h3, toks := tk3 }) (i := 12) (d := invV n f dd) (rs := [(qm n n (parF f dd), .shared)]) W Ai.g Ai.ob Ai.dt R8 EO ES (Ext.refl _) F3 (globs_of gll (by simp)) (by decide) rfl (es_cons rfl (ev_var "parts" _ 11 rfl) es_nil) rfl rfl rfl st1 rfl (fun vs' h4 t4 Q' x4 rp K => ?_) fun h4 tk4 fp4 F4 => ?_)
  · by_cases hd : detI n f = 0
    · have ev : invV n f dd = .str "singular" := by unfold invV; rw [if_pos hd]
      rw [ev] at K
      obtain ⟨bi, sci, fi, oi', fdi', Ai', fni', Hi⟩ := rz_def (prog := prog) (w := w) (k := 8) (ds := [qm n n (parF f dd)]) T W (TB 8) C.rinv C.rinvC bind_m O (inv_bad (ident_run _) (tRed 3) INP hd)
      refine catch_own_call (Φ := TT 8) (k := 8) (lg := ["got"]) (s := { s with heap := h4, toks := t4 }) (E1 := E1) (rs := [(qm n n (parF f dd), .shared)]) W Ai fni Ai' fni' R1 ((F3.ext x4).base) (F3.ext x4).aliveY rp rfl hfr ⟨EO.kind, hfm, (F3.ext x4).nsL⟩ F.Ld (globs_of gli (by simp)) (by decide) rfl (es_cons rfl (ev_var "m" _ 0 rfl) es_nil) rfl rfl rfl (globs_of gli (by simp)) (by decide) O PySem.F.excBase_Exception (fun A env s' hb X R eo es x F => Hi A env s' hb X R eo es x F) rfl fun t h6 tk fl => ?_
      exact K _ h6 tk ((F3.ext x4).flew fl.1 fl.2) (.str _ _)
    · have ev : invV n f dd = qm n n (invF n f dd) := by unfold invV; rw [if_neg hd]
      rw [ev] at K
      have hrun : TT 9 "inverse_of" [qm n n (parF f dd)] = some (qm n n (invF n f dd), true) := (inv_val (ident_run _) (tRed 3) INP).2 hd
      have hc : callD (TT 9) "inverse_of" [(qm n n (parF f dd), .shared)] = some (qm n n (invF n f dd), .fresh) := call_ok hrun rfl
      refine norm_call (Φ := TT 9) (N := NN) (k := 9) (lg := ["got"]) (s := { s with heap := h4, toks := t4 }) (i := 1) (d := qm n n (invF n f dd)) (fr := false) (ms := .assign false 1 (.call "inverse_of" (.cons (.var 0) .nil))) (ρ' := [some ⟨false, qm n n (parF f dd)⟩, some ⟨false, qm n n (invF n f dd)⟩]) W Ai fni R1 ((F3.ext x4).base) (F3.ext x4).aliveY rp rfl (ex_assign false _ _ rfl ?_ rfl rfl (ev_call W (TB 9) _ _ (globs_of gli (by simp)) (by decide) rfl (es_cons rfl (ev_var "m" _ 0 rfl) es_nil))) ?_ rfl rfl fun v h' tk x rr => ?_
      · exact fn_storable fni "got" (by simp)
      · exact xAssign (eCall (eCons (eV rfl rfl) eNil) hc) rfl
      · exact K v h' tk ((F3.ext x4).ext x) rr
  -- the solution
  rw [C.craC.of hdc] at Ac
  refine wpAny_execs_cons (law_assign (Φ := TT 8) (k := 8) (s := { s with heap := h4, toks := tk4 }) (i := 13) (d := solV n f b) (rs := [(im n n f, .shared), (iv n b, .shared)]) W Ac.g Ac.ob Ac.dt R8 EO ES (Ext.refl _) F4 (globs_of gll (by simp)) (by decide) rfl (es_cons rfl (ev_var "a" _ 2 rfl) (es_cons rfl (ev_var "b" _ 3 rfl) es_nil)) rfl rfl rfl st2 rfl (fun vs' h5 t5 Q' x5 rp K => ?_) fun h5 tk5 fp5 F5 => ?_)
  · by_cases hd : detI n f = 0
    · have ev : solV n f b = .str "singular" := by unfold solV; rw [if_pos hd]
      rw [ev] at K
      obtain ⟨bi, sci, fi, oi', fdi', Ai', fni', Hi⟩ := rz_def (prog := prog) (w := w) (k := 8) (ds := [im n n f, iv n b]) T W (TB 8) C.rcra C.rcraC bind_rows_b O (cram_bad (tBar 5) INP hd)
      refine catch_own_call (Φ := TT 8) (k := 8) (lg := ["got"]) (s := { s with heap := h5, toks := t5 }) (E1 := E1) (rs := [(im n n f, .shared), (iv n b, .shared)]) W Ac fnc Ai' fni' R1 ((F4.ext x5).base) (F4.ext x5).aliveY rp rfl hfr ⟨EO.kind, hfm, (F4.ext x5).nsL⟩ F.Ld (globs_of glc (by simp)) (by decide) rfl (es_cons rfl (ev_var "a" _ 0 rfl) (es_cons rfl (ev_var "b" _ 1 rfl) es_nil)) rfl rfl rfl (globs_of glc (by simp)) (by decide) O PySem.F.excBase_Exception (fun A env s' hb X R eo es x F => Hi A env s' hb X R eo es x F) rfl fun t h6 tk fl => ?_
      exact K _ h6 tk ((F4.ext x5).flew fl.1 fl.2) (.str _ _)
    · have ev : solV n f b = .list (tab n fun j => qD (solF n f b j)) := by unfold solV; rw [if_neg hd]
      rw [ev] at K
      have hrun : TT 9 "cramer" [im n n f, iv n b] = some (.list (tab n fun j => qD (solF n f b j)), true) := (sol_val (tBar 5) (tFrac 6) INP).2 hd
      have hc : callD (TT 9) "cramer" [(im n n f, .shared), (iv n b, .shared)] = some (.list (tab n fun j => qD (solF n f b j)), .fresh) := call_ok hrun rfl
      refine norm_call (Φ := TT 9) (N := NN) (k := 9) (lg := ["got"]) (s := { s with heap := h5, toks := t5 }) (i := 2) (d := .list (tab n fun j => qD (solF n f b j))) (fr := false) (ms := .assign false 2 (.call "cramer" (.cons (.var 0) (.cons (.var 1) .nil)))) (ρ' := [some ⟨false, im n n f⟩, some ⟨false, iv n b⟩, some ⟨false, .list (tab n fun j => qD (solF n f b j))⟩]) W Ac fnc R1 ((F4.ext x5).base) (F4.ext x5).aliveY rp rfl (ex_assign false _ _ rfl ?_ rfl rfl (ev_call W (TB 9) _ _ (globs_of glc (by simp)) (by decide) rfl (es_cons rfl (ev_var "a" _ 0 rfl) (es_cons rfl (ev_var "b" _ 1 rfl) es_nil)))) ?_ rfl rfl fun v h' tk x rr => ?_
      · exact fn_storable fnc "got" (by simp)
      · exact xAssign (eCall (eCons (eV rfl rfl) (eCons (eV rfl rfl) eNil)) hc) rfl
      · exact K v h' tk ((F4.ext x5).ext x) rr
  -- the end
  refine trSL_ok (trSL_ex W (TB 8) dl ["script"] lawLocals) _ _ t3 A1 E1 { s with heap := h5, toks := tk5 } s.heap (fun _ => False) fp5 _ _ R8 EO ES (Ext.refl _) F5 e3 _ fun fl h' tk dn => ?_
  obtain ⟨pr, al, v, rfl, rr⟩ := dn
  obtain rfl := rr.rep0.bool_inv
  refine hQ h' tk fun a o e => pr a o (F5.base a o e) ?_ ?_ fun i hi => ?_
  · rintro rfl; rw [F5.Ld] at e; cases e
  · rintro y c hk hc rfl; rw [F5.Cd y _ hc] at e; cases e
  · rw [F5.Fd i a hi] at e; cases e
end
end Mine

namespace Mine
open PySem PyProof.Rows PySem.W PySem.Calls

theorem well_ints {P : Params} {h : Heap} {X : Addr → Prop} : ∀ {ns : List Int} {vs : List Value}, WellAll P h vs (ofPys (ns.map .int)) → Reps X h vs (ns.map .int)
  | [], vs, w => by
    simp only [List.map_nil, ofPys] at w
    cases w
    exact .nil
  | n :: ns, vs, w => by
    simp only [List.map_cons, ofPys, ofPy] at w
    cases w with
    | cons a b =>
      cases a with
      | int i t => exact .cons (.int _ _) (well_ints b)
theorem well_list {P : Params} {h : Heap} {l : Addr} {ns : List Int} (w : Well P h (.ref l) (ofPy (.list (ns.map .int)))) : ∃ vs n, IsL h l vs.toArray n ∧ Reps (fun _ => False) h vs (ns.map .int) := by
  simp only [ofPy] at w
  cases w with
  | list e a => exact ⟨_, _, e, well_ints a⟩

theorem good_true {c : ClaimW} {cl : Str → Option Addr} {mean : ExcName → Option Value} {args : List WData} {s₁ : Shared} {h' : Heap} {tk : Nat} (x : Ext s₁.heap h') (hg : s₁.gens = #[]) (hn : ∀ cls, c.raises args cls = false) (hp : c.post args (.bool true) args = true) :
    GoodWG c cl mean args s₁ (.ok (.ret (.bool true))) { s₁ with heap := h', toks := tk } :=
  GoodW.toG ⟨.inl ⟨.bool true, .bool true, [], rfl, hn, .bool true, hp, fun _ => ⟨.nil, by simp⟩⟩, x, rfl, hg⟩
end Mine

open PySem PySem.W PyProof.Rows
set_option maxHeartbeats 8000000
theorem Mine.wa1 : sreFenced PySem.Challenge.rw_wl_pivot_2u.row.prog.main = true := by kernel_rfl
theorem Mine.wa2 : ((moduleNames PySem.Challenge.rw_wl_pivot_2u.row.prog.main.body).isEmpty || lookedIntoSs (moduleNames PySem.Challenge.rw_wl_pivot_2u.row.prog.main.body) PySem.Challenge.rw_wl_pivot_2u.row.prog.main.body) = true := by kernel_rfl
theorem Mine.wa3 : namesResolve PySem.Challenge.rw_wl_pivot_2u.row.prog = true := by kernel_rfl
theorem Mine.wa4 : (PySem.Challenge.rw_wl_pivot_2u.row.prog.boundNames.all fun n => !worldNames.contains n) = true := by kernel_rfl
theorem Mine.wa5 : noRoadLSs { strict := !(importedModules PySem.Challenge.rw_wl_pivot_2u.row.prog.main.body).all cThrough.contains, foot := none, bare := (["vars", "dir", "locals"] : List Str).filter (readsOut PySem.Challenge.rw_wl_pivot_2u.row.prog PySem.Challenge.rw_wl_pivot_2u.row.prog.main.body) } PySem.Challenge.rw_wl_pivot_2u.row.prog.main.body = true := by kernel_rfl
theorem Mine.wa6 : (namesMeet PySem.Challenge.rw_wl_pivot_2u.row.prog PySem.Challenge.rw_wl_pivot_2u.row.prog.main.body fun _ n => attrL n) = true := by kernel_rfl
theorem Mine.wa : looksOpen PySem.Challenge.rw_wl_pivot_2u.row.prog = true := look_both (look_both (look_both (look_both (look_both Mine.wa1 Mine.wa2) Mine.wa3) Mine.wa4) Mine.wa5) Mine.wa6
theorem Mine.ws1 : PySem.Challenge.rw_wl_pivot_2u.row.partSaid = true := by
  unfold OpenRow.partSaid
  simp only [Bool.and_eq_true]
  repeat' apply And.intro
  · exact Mine.wa
  all_goals kernel_rfl
theorem Mine.ws2 : PySem.Challenge.rw_wl_pivot_2u.row.wellSaid = true := by
  unfold OpenRow.wellSaid
  simp only [Bool.and_eq_true]
  refine ⟨⟨Mine.ws1, ?_⟩, ?_⟩
  all_goals kernel_rfl
theorem Mine.ws3 : noRoadLSs { strict := true, foot := some PySem.Challenge.rw_wl_pivot_2u.bound', writes := PySem.Challenge.rw_wl_pivot_2u.writes, may := PySem.Challenge.rw_wl_pivot_2u.may } PySem.Challenge.rw_wl_pivot_2u.footing = true := by kernel_rfl
theorem Mine.ws4 : (PySem.Challenge.rw_wl_pivot_2u.bound'.all fun n => !builtinNamed n || PySem.Challenge.rw_wl_pivot_2u.about == [n] || !PySem.Challenge.rw_wl_pivot_2u.reads n) = true := by kernel_rfl
theorem Mine.ws5 : (namesMeet PySem.Challenge.rw_wl_pivot_2u.prog PySem.Challenge.rw_wl_pivot_2u.above fun _ n => !PySem.Challenge.rw_wl_pivot_2u.own.contains n) = true := by kernel_rfl
theorem Mine.ws6 : (namesMeet PySem.Challenge.rw_wl_pivot_2u.prog PySem.Challenge.rw_wl_pivot_2u.footing fun sc n => sc.kind == .module || sc.names.lookup n != some .globalExplicit) = true := by kernel_rfl
theorem Mine.wsaid : PySem.Challenge.rw_wl_pivot_2u.wellSaid = true := by
  unfold OpenLaw.wellSaid
  simp only [Bool.and_eq_true]
  repeat' apply And.intro
  · exact Mine.ws2
  all_goals first | with_reducible exact Mine.ws3 | with_reducible exact Mine.ws4 | with_reducible exact Mine.ws5 | with_reducible exact Mine.ws6 | kernel_rfl
theorem PySem.Challenge.cw_wl_pivot_2u_holds : PySem.Challenge.rw_wl_pivot_2u.Holds := by
  w_on
  refine holds_law Mine.wsaid fun said => ?_
  o_head Hook.none
  case hw => w_witness2
  intro w s₀ s₁ mg mb G Y fa o pm cd doc dV kV ho hd hcd hD hmg hg args vals as hpre hlay hrd hwl hlo
  refine Ground.open G ?_
  intro T B D TE TW
  wrow_args hpre hlay hrd hwl hlo
  rename_i ns hs hlay0 hL1 hr1 hl2 as2 as3 l vs as1 hL ra w1 r0 hI hr hcond hcond'
  clear hL ra r0 hI hr hlay0 hr1 hl2 hs hL1 hcond' B D TE TW hd ho hcd hD
  obtain ⟨vs', n', hL, hr⟩ := Mine.well_list w1
  have hlen : ns.length ≤ 63 := by omega
  refine Mine.wpAny_noE (Mine.law_body T ?ck hlen hL hr hmg fun h' tk x => Mine.good_true x hg ?rz ?po)
  case rz => intro cls; rfl
  case po => first | kernel_rfl | wrow_post | decide +kernel
  case ck =>
    refine ⟨?_, by kernel_rfl, by kernel_rfl, by kernel_rfl, by kernel_rfl, by kernel_rfl, by unfold Mine.Is; kernel_rfl, by unfold Mine.Is; kernel_rfl, by unfold Mine.Is; kernel_rfl, by unfold Mine.Is; kernel_rfl, by kernel_rfl, by kernel_rfl, by kernel_rfl, by kernel_rfl, by unfold Mine.Is; kernel_rfl, by unfold Mine.Is; kernel_rfl, by unfold Mine.Is; kernel_rfl, by kernel_rfl⟩
    intro F hF
    simp only [Mine.fns, List.mem_cons, List.not_mem_nil, or_false] at hF
    rcases hF with rfl | rfl | rfl | rfl | rfl | rfl | rfl | rfl | rfl | rfl | rfl | rfl | rfl | rfl | rfl | rfl | rfl | rfl | rfl | rfl | rfl | rfl | rfl | rfl | rfl | rfl | rfl | rfl | rfl | rfl <;> kernel_rfl

