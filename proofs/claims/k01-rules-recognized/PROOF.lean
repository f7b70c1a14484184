import PyProof.Rows.All
import Wide.All
import OpenK.AllK
import Wide.FinOn
import HandS.ForMost
import HandS.IsInst
import HandS.Conv
import HandS.TupAny
import HandS.TupMul
import KE.KeyNested
import KE.KDictKeyed
import HandS.Style
import HandS.Zip
import PySem.Challenge.RW_besidesent_k01_rules_recognized
set_option Elab.async false
set_option linter.all false
set_option maxRecDepth 100000
namespace DL
open PySem L2

/-- data: a tree; a list (or dict) is exclusive (true) or shared (false) -/
inductive D where
  | non
  | bl (b : Bool)
  | int (i : Int)
  | str (x : Str)
  | tup (ds : List D)
  | lst (x : Bool) (ds : List D)
  | dct (x : Bool) (ks : List Key) (ds : List D)
  | dcn (x : Bool) (ks : List D) (ds : List D)
  | opq (v : V)
  | scr (ns : List Int)
mutual
/-- as a key of a dict with tuple keys -/
def D.nk : D → Option NestedKey
  | .non => some .none
  | .bl k => some (.num (if k = true then 1 else 0))
  | .int i => some (.num i)
  | .str x => some (.text x)
  | .tup ds => (D.nks ds).map .tup
  | _ => none
def D.nks : List D → Option (List NestedKey)
  | [] => some []
  | d :: ds => do
    let k ← D.nk d
    let ks ← D.nks ds
    return k :: ks
end
mutual
/-- all is shared -/
@[simp] def D.sh : D → D
  | .tup ds => .tup (D.shs ds)
  | .lst _ ds => .lst false (D.shs ds)
  | .dct _ ks ds => .dct false ks (D.shs ds)
  | .dcn _ ks ds => .dcn false ks (D.shs ds)
  | d => d
@[simp] def D.shs : List D → List D
  | [] => []
  | d :: ds => D.sh d :: D.shs ds
end
mutual
/-- nothing in it is exclusive -/
@[simp] def D.xf : D → Bool
  | .tup ds => D.xfs ds
  | .lst x ds => !x && D.xfs ds
  | .dct x _ _ => !x
  | .dcn x _ _ => !x
  | _ => true
@[simp] def D.xfs : List D → Bool
  | [] => true
  | d :: ds => D.xf d && D.xfs ds
end
mutual
/-- every list, every dict in it is exclusive -/
@[simp] def D.nos : D → Bool
  | .tup ds => D.noss ds
  | .lst x ds => x && D.noss ds
  | .dct x _ ds => x && D.noss ds
  | .dcn x ks ds => x && D.noss ks && D.noss ds
  | _ => true
@[simp] def D.noss : List D → Bool
  | [] => true
  | d :: ds => D.nos d && D.noss ds
end
/-- a base: program, world, written part -/
structure Bs where
  prog : Program
  w : World
  K : PySem.W.Frag

abbrev BX (X : Cx) : Bs := ⟨X.prog, X.w, X.K⟩

/-- a dict with tuple keys, by its entries: the key, the address of its tuple, the value -/
def ndHO (P : Program) (w : World) (a : Addr) (xs : List (NestedKey × Addr × V)) : HO := .ext fun h => xs.length ≤ sizeLine ∧ (a == sysModules) = false ∧ (xs.map (·.1)).Nodup ∧
  ∃ ys : List (NestedKey × Addr × Value), Paired (fun p q => p.1 = q.1 ∧ p.2.1 = q.2.1 ∧ RelV p.2.2 q.2.2) xs ys ∧
    ∃ o es ep, h.get? a = some o ∧ o.ExactDict ∧ o.data = .dict es ep ∧ es.toList = ys.map (entryOfKey (nestedKind P w))
/-- the script: a list of ints that is never written -/
def Scr (K : PySem.W.Frag) (H : Hp) (a : Addr) (ns : List Int) : Prop := (∃ o, H a = some (.frz o (.lst (ns.map V.int)))) ∨ ∀ H' : Hp, SqL K H' a (ns.map V.int)
theorem Scr.sq {K : PySem.W.Frag} {H : Hp} {a : Addr} {ns : List Int} (h : Scr K H a ns) : SqL K H a (ns.map V.int) := by
  rcases h with ⟨o, h⟩ | h
  · exact .inl (.inr ⟨o, h⟩)
  · exact h H

mutual
/-- v denotes d in H; F: the exclusive objects of it; C: what a shared object's address must satisfy -/
inductive Den (b : Bs) (C : Addr → Prop) (H : Hp) : V → D → List Addr → Prop
  | non : Den b C H .non .non []
  | bl (k : Bool) : Den b C H (.bl k) (.bl k) []
  | int (i : Int) : Den b C H (.int i) (.int i) []
  | str (x : Str) : Den b C H (.str x) (.str x) []
  | tup {a : Addr} {vs : List V} {ds : List D} {F : List Addr} : SqT b.K H a vs → Dens b C H vs ds F → Den b C H (.ref a) (.tup ds) F
  | lsts {a : Addr} {vs : List V} {ds : List D} : H a = some (.lst vs) → C a → Dens b C H vs ds [] → Den b C H (.ref a) (.lst false ds) []
  | lstx {a : Addr} {vs : List V} {ds : List D} {F : List Addr} : H a = some (.lst vs) → Dens b C H vs ds F → Den b C H (.ref a) (.lst true ds) (a :: F)
  | dcts {a : Addr} {kvs : List (Key × V)} {ks : List Key} {ds : List D} : Rd H a (.dK kvs) → C a → kvs.map (·.1) = ks → ks.Nodup → Dens b C H (kvs.map (·.2)) ds [] → Den b C H (.ref a) (.dct false ks ds) []
  | dctx {a : Addr} {kvs : List (Key × V)} {ks : List Key} {ds : List D} : H a = some (.dK kvs) → kvs.map (·.1) = ks → ks.Nodup → Dens b C H (kvs.map (·.2)) ds [] → Den b C H (.ref a) (.dct true ks ds) [a]
  | dcns {a : Addr} {xs : List (NestedKey × Addr × V)} {ks ds : List D} : Rd H a (ndHO b.prog b.w a xs) → C a → D.nks ks = some (xs.map (·.1)) → Dens b C H (xs.map fun x => .ref x.2.1) ks [] → Dens b C H (xs.map (·.2.2)) ds [] → Den b C H (.ref a) (.dcn false ks ds) []
  | dcnx {a : Addr} {xs : List (NestedKey × Addr × V)} {ks ds : List D} : H a = some (ndHO b.prog b.w a xs) → D.nks ks = some (xs.map (·.1)) → Dens b C H (xs.map fun x => .ref x.2.1) ks [] → Dens b C H (xs.map (·.2.2)) ds [] → Den b C H (.ref a) (.dcn true ks ds) [a]
  | opq (v : V) : Den b C H v (.opq v) []
  | scr {a : Addr} {ns : List Int} : Scr b.K H a ns → Den b C H (.ref a) (.scr ns) []
inductive Dens (b : Bs) (C : Addr → Prop) (H : Hp) : List V → List D → List Addr → Prop
  | nil : Dens b C H [] [] []
  | cons {v : V} {d : D} {vs : List V} {ds : List D} {F F' : List Addr} : Den b C H v d F → Dens b C H vs ds F' → Dens b C H (v :: vs) (d :: ds) (F ++ F')
end

/-- the heap goes on: what is not in M stands -/
structure Kp (M : Addr → Prop) (H H' : Hp) : Prop where
  keep : ∀ a o, ¬ M a → H a = some o → H' a = some o
  tups : ∀ a xs, H a = some (.tup xs) → H' a = some (.tup xs)
  frz : ∀ a o u, H a = some (.frz o u) → H' a = some (.frz o u)
  live : ∀ a, H a ≠ none → H' a ≠ none

theorem Kp.refl {M : Addr → Prop} {H : Hp} : Kp M H H := ⟨fun _ _ _ h => h, fun _ _ h => h, fun _ _ _ h => h, fun _ h => h⟩
theorem Kp.trans {M : Addr → Prop} {H H1 H2 : Hp} (a : Kp M H H1) (c : Kp M H1 H2) : Kp M H H2 :=
  ⟨fun x o m h => c.keep x o m (a.keep x o m h), fun x xs h => c.tups x xs (a.tups x xs h), fun x o u h => c.frz x o u (a.frz x o u h), fun x h => c.live x (a.live x h)⟩
theorem Kp.mono {M N : Addr → Prop} {H H' : Hp} (a : Kp M H H') (h : ∀ x, M x → N x) : Kp N H H' :=
  ⟨fun x o m e => a.keep x o (fun q => m (h x q)) e, a.tups, a.frz, a.live⟩
/-- M may be widened by what is not there -/
theorem Kp.mono' {M N : Addr → Prop} {H H' : Hp} (a : Kp M H H') (h : ∀ x, M x → H x ≠ none → N x) : Kp N H H' :=
  ⟨fun x o m e => a.keep x o (fun q => m (h x q (by rw [e]; simp))) e, a.tups, a.frz, a.live⟩
theorem Kp.trans' {M N : Addr → Prop} {H H1 H2 : Hp} (a : Kp M H H1) (c : Kp N H1 H2) (h : ∀ x, N x → H x ≠ none → M x) : Kp M H H2 :=
  ⟨fun x o m e => c.keep x o (fun q => m (h x q (by rw [e]; simp))) (a.keep x o m e), fun x xs e => c.tups x xs (a.tups x xs e), fun x o u e => c.frz x o u (a.frz x o u e), fun x e => c.live x (a.live x e)⟩
theorem Kp.of_new {M : Addr → Prop} {H : Hp} {p : Addr} {o : HO} (h : H p = none) : Kp M H (upd H p o) :=
  ⟨fun a u _ e => by rw [upd_ne (ne_of_none e h)]; exact e, fun a xs e => by rw [upd_ne (ne_of_none e h)]; exact e, fun a u z e => by rw [upd_ne (ne_of_none e h)]; exact e,
    fun a e => by unfold upd; split; simp; exact e⟩
theorem Kp.of_upd {M : Addr → Prop} {H : Hp} {p : Addr} {o o' : HO} (m : M p) (h : H p = some o') (mu : Mut (some o')) : Kp M H (upd H p o) :=
  ⟨fun a u n e => by rw [upd_ne (fun z => n (by rw [z]; exact m))]; exact e,
   fun a xs e => by rw [upd_ne (fun z => by subst z; rw [h] at e; cases e; exact mu)]; exact e,
   fun a u z e => by rw [upd_ne (fun q => by subst q; rw [h] at e; cases e; exact mu)]; exact e,
    fun a e => by unfold upd; split; simp; exact e⟩

theorem sqT_kp {K : PySem.W.Frag} {M : Addr → Prop} {H H' : Hp} {a : Addr} {xs : List V} (k : Kp M H H') (h : SqT K H a xs) : SqT K H' a xs := by
  rcases h with (h | ⟨o, h⟩) |  h
  · exact .inl (.inl (k.tups _ _ h))
  · exact .inl (.inr ⟨o, k.frz _ _ _ h⟩)
  · exact .inr h
theorem rd_kp {M : Addr → Prop} {H H' : Hp} {a : Addr} {u : HO} (k : Kp M H H') (m : ¬ M a) (h : Rd H a u) : Rd H' a u := by
  rcases h with h | ⟨o, h⟩
  · exact .inl (k.keep _ _ m h)
  · exact .inr ⟨o, k.frz _ _ _ h⟩
theorem rd_live {H : Hp} {a : Addr} {u : HO} (h : Rd H a u) : H a ≠ none := by
  rcases h with h | ⟨o, h⟩ <;> rw [h] <;> simp

/-- what is denoted stays so -/
theorem Den.kp {b : Bs} {C C' : Addr → Prop} {M : Addr → Prop} {H H' : Hp} (k : Kp M H H') (hC : ∀ a, H a ≠ none → C a → ¬ M a ∧ C' a) :
    ∀ {v : V} {d : D} {F : List Addr}, Den b C H v d F → (∀ a ∈ F, ¬ M a) → Den b C' H' v d F := by
  intro v d F h
  refine Den.rec (b := b) (C := C) (H := H) (motive_1 := fun v d F _ => (∀ a ∈ F, ¬ M a) → Den b C' H' v d F)
    (motive_2 := fun vs ds F _ => (∀ a ∈ F, ¬ M a) → Dens b C' H' vs ds F) ?_ ?_ ?_ ?_ ?_ ?_ ?_ ?_ ?_ ?_ ?_ ?_ ?_ ?_ ?_ h
  · intro _; exact .non
  · intro k _; exact .bl k
  · intro i _; exact .int i
  · intro x _; exact .str x
  · intro a vs ds F h _ ih m; exact .tup (sqT_kp k h) (ih m)
  · intro a vs ds h c _ ih m
    have q := hC a (by rw [h]; simp) c
    exact .lsts (k.keep _ _ q.1 h) q.2 (ih m)
  · intro a vs ds F h _ ih m
    exact .lstx (k.keep _ _ (m a List.mem_cons_self) h) (ih (fun x hx => m x (List.mem_cons_of_mem _ hx)))
  · intro a kvs ks ds h c e nd _ ih m
    have q := hC a (rd_live h) c
    exact .dcts (rd_kp k q.1 h) q.2 e nd (ih m)
  · intro a kvs ks ds h e nd _ ih m
    exact .dctx (k.keep _ _ (m a List.mem_cons_self) h) e nd (ih (fun x hx => by cases hx))
  · intro a xs ks ds h c e _ _ ih1 ih2 m
    have q := hC a (rd_live h) c
    exact .dcns (rd_kp k q.1 h) q.2 e (ih1 m) (ih2 m)
  · intro a xs ks ds h e _ _ ih1 ih2 m
    exact .dcnx (k.keep _ _ (m a List.mem_cons_self) h) e (ih1 (fun x hx => by cases hx)) (ih2 (fun x hx => by cases hx))
  · intro v _; exact .opq v
  · intro a ns h _
    exact .scr (h.imp (fun ⟨o, h⟩ => ⟨o, k.frz _ _ _ h⟩) id)
  · intro _; exact .nil
  · intro v d vs ds F F' _ _ ih1 ih2 m
    exact .cons (ih1 (fun a ha => m a (List.mem_append_left _ ha))) (ih2 (fun a ha => m a (List.mem_append_right _ ha)))
theorem Dens.kp {b : Bs} {C C' : Addr → Prop} {M : Addr → Prop} {H H' : Hp} (k : Kp M H H') (hC : ∀ a, H a ≠ none → C a → ¬ M a ∧ C' a) :
    ∀ {vs : List V} {ds : List D} {F : List Addr}, Dens b C H vs ds F → (∀ a ∈ F, ¬ M a) → Dens b C' H' vs ds F
  | _, _, _, .nil, _ => .nil
  | _, _, _, .cons h t, m => .cons (h.kp k hC fun a ha => m a (List.mem_append_left _ ha)) (Dens.kp k hC t fun a ha => m a (List.mem_append_right _ ha))
theorem Den.imp {b : Bs} {C C' : Addr → Prop} {H : Hp} (hC : ∀ a, H a ≠ none → C a → C' a) {v : V} {d : D} {F : List Addr} (h : Den b C H v d F) : Den b C' H v d F :=
  h.kp (M := fun _ => False) Kp.refl (fun a l c => ⟨id, hC a l c⟩) fun _ _ => id
theorem Dens.imp {b : Bs} {C C' : Addr → Prop} {H : Hp} (hC : ∀ a, H a ≠ none → C a → C' a) {v : List V} {d : List D} {F : List Addr} (h : Dens b C H v d F) : Dens b C' H v d F :=
  h.kp (M := fun _ => False) Kp.refl (fun a l c => ⟨id, hC a l c⟩) fun _ _ => id

/-- the exclusive objects are there -/
theorem Den.lst_inv {b : Bs} {C : Addr → Prop} {H : Hp} {v : V} {x : Bool} {ds : List D} {F : List Addr} (h : Den b C H v (.lst x ds) F) :
    ∃ a vs F', v = .ref a ∧ H a = some (.lst vs) ∧ Dens b C H vs ds F' ∧ (F = if x = true then a :: F' else F') ∧ (x = false → F = [] ∧ C a) := by
  cases h with
  | lsts h c t => exact ⟨_, _, [], rfl, h, t, rfl, fun _ => ⟨rfl, c⟩⟩
  | lstx h t => exact ⟨_, _, _, rfl, h, t, rfl, fun z => by cases z⟩
theorem Den.live {b : Bs} {C : Addr → Prop} {H : Hp} {v : V} {d : D} {F : List Addr} (h : Den b C H v d F) : ∀ a ∈ F, H a ≠ none := by
  refine Den.rec (b := b) (C := C) (H := H) (motive_1 := fun v d F _ => ∀ a ∈ F, H a ≠ none)
    (motive_2 := fun vs ds F _ => ∀ a ∈ F, H a ≠ none) ?_ ?_ ?_ ?_ ?_ ?_ ?_ ?_ ?_ ?_ ?_ ?_ ?_ ?_ ?_ h
  all_goals try (intros; rename_i z; exact absurd z List.not_mem_nil)
  · intro a vs ds F _ _ ih; exact ih
  · intro a vs ds F h _ ih x hx
    rcases List.mem_cons.mp hx with e |  hx
    · rw [e, h]; simp
    · exact ih x hx
  · intro a kvs ks ds h _ _ _ _ x hx
    rcases List.mem_cons.mp hx with e |  hx
    · rw [e, h]; simp
    · cases hx
  · intro a xs ks ds h _ _ _ _ _ x hx
    rcases List.mem_cons.mp hx with e |  hx
    · rw [e, h]; simp
    · cases hx
  · intro v d vs ds F F' _ _ ih1 ih2 x hx
    exact (List.mem_append.mp hx).elim (ih1 x) (ih2 x)
theorem Dens.live {b : Bs} {C : Addr → Prop} {H : Hp} : ∀ {vs : List V} {ds : List D} {F : List Addr}, Dens b C H vs ds F → ∀ a ∈ F, H a ≠ none
  | _, _, _, .nil, a, h => by cases h
  | _, _, _, .cons h t, a, m => (List.mem_append.mp m).elim (h.live a) (Dens.live t a)
theorem Dens.length {b : Bs} {C : Addr → Prop} {H : Hp} : ∀ {vs : List V} {ds : List D} {F : List Addr}, Dens b C H vs ds F → vs.length = ds.length
  | _, _, _, .nil => rfl
  | _, _, _, .cons _ t => congrArg (· + 1) (Dens.length t)

/-- shared from now on -/
theorem Den.sh {b : Bs} {C : Addr → Prop} {H : Hp} {v : V} {d : D} {F : List Addr} (h : Den b C H v d F) : (∀ a ∈ F, C a) → Den b C H v d.sh [] := by
  refine Den.rec (b := b) (C := C) (H := H) (motive_1 := fun v d F _ => (∀ a ∈ F, C a) → Den b C H v d.sh [])
    (motive_2 := fun vs ds F _ => (∀ a ∈ F, C a) → Dens b C H vs (D.shs ds) []) ?_ ?_ ?_ ?_ ?_ ?_ ?_ ?_ ?_ ?_ ?_ ?_ ?_ ?_ ?_ h
  · intro _; exact .non
  · intro k _; exact .bl k
  · intro i _; exact .int i
  · intro x _; exact .str x
  · intro a vs ds F h _ ih m; exact .tup h (ih m)
  · intro a vs ds h c _ ih m; exact .lsts h c (ih m)
  · intro a vs ds F h _ ih m
    exact .lsts h (m a List.mem_cons_self) (ih fun x hx => m x (List.mem_cons_of_mem _ hx))
  · intro a kvs ks ds h c e nd _ ih m; exact .dcts h c e nd (ih m)
  · intro a kvs ks ds h e nd _ ih m; exact .dcts (.inl h) (m a List.mem_cons_self) e nd (ih fun x hx => by cases hx)
  · intro a xs ks ds h c e q _ _ ih2 m; exact .dcns h c e q (ih2 m)
  · intro a xs ks ds h e q _ _ ih2 m; exact .dcns (.inl h) (m a List.mem_cons_self) e q (ih2 fun x hx => by cases hx)
  · intro v _; exact .opq v
  · intro a ns h _; exact .scr h
  · intro _; exact .nil
  · intro v d vs ds F F' _ _ ih1 ih2 m
    exact .cons (F := []) (F' := []) (ih1 fun a ha => m a (List.mem_append_left _ ha)) (ih2 fun a ha => m a (List.mem_append_right _ ha))
theorem Dens.sh {b : Bs} {C : Addr → Prop} {H : Hp} : ∀ {vs : List V} {ds : List D} {F : List Addr}, Dens b C H vs ds F → (∀ a ∈ F, C a) → Dens b C H vs (D.shs ds) []
  | _, _, _, .nil, _ => .nil
  | _, _, _, .cons h t, m => .cons (F := []) (F' := []) (h.sh fun a ha => m a (List.mem_append_left _ ha)) (Dens.sh t fun a ha => m a (List.mem_append_right _ ha))

mutual
theorem Den.xf {b : Bs} {C : Addr → Prop} {H : Hp} : ∀ {d : D} {v : V} {F : List Addr}, Den b C H v d F → d.xf = true → F = []
  | .non, _, _, h, _ => by cases h; rfl
  | .bl _, _, _, h, _ => by cases h; rfl
  | .int _, _, _, h, _ => by cases h; rfl
  | .str _, _, _, h, _ => by cases h; rfl
  | .opq _, _, _, h, _ => by cases h; rfl
  | .scr _, _, _, h, _ => by cases h; rfl
  | .tup ds, _, _, h, e => by
    cases h with | tup _ t => exact Dens.xf t (by simpa [D.xf] using e)
  | .lst x ds, _, _, h, e => by
    cases h with
    | lsts _ _ _ => rfl
    | lstx _ _ => simp [D.xf] at e
  | .dct x ks ds, _, _, h, e => by
    cases h with
    | dcts _ _ _ _ _ => rfl
    | dctx _ _ _ _ => simp [D.xf] at e
  | .dcn x ks ds, _, _, h, e => by
    cases h with
    | dcns _ _ _ _ _ => rfl
    | dcnx _ _ _ _ => simp [D.xf] at e
theorem Dens.xf {b : Bs} {C : Addr → Prop} {H : Hp} : ∀ {ds : List D} {vs : List V} {F : List Addr}, Dens b C H vs ds F → D.xfs ds = true → F = []
  | [], _, _, h, _ => by cases h; rfl
  | d :: ds, _, _, h, e => by
    cases h with
    | cons h t =>
      have e' : d.xf = true ∧ D.xfs ds = true := by simpa [D.xfs] using e
      rw [Den.xf h e'.1, Dens.xf t e'.2]; rfl
end
mutual
theorem Den.nos {b : Bs} {C C' : Addr → Prop} {H : Hp} : ∀ {d : D} {v : V} {F : List Addr}, Den b C H v d F → d.nos = true → Den b C' H v d F
  | .non, _, _, h, _ => by cases h; exact .non
  | .bl _, _, _, h, _ => by cases h; exact .bl _
  | .int _, _, _, h, _ => by cases h; exact .int _
  | .str _, _, _, h, _ => by cases h; exact .str _
  | .opq _, _, _, h, _ => by cases h; exact .opq _
  | .scr _, _, _, h, _ => by cases h with | scr q => exact .scr q
  | .tup ds, _, _, h, e => by
    cases h with | tup q t => exact .tup q (Dens.nos t (by simpa [D.nos] using e))
  | .lst x ds, _, _, h, e => by
    have e' : x = true ∧ D.noss ds = true := by simpa [D.nos] using e
    cases h with
    | lsts _ _ _ => exact absurd e'.1 (by simp)
    | lstx q t => exact .lstx q (Dens.nos t e'.2)
  | .dct x ks ds, _, _, h, e => by
    have e' : x = true ∧ D.noss ds = true := by simpa [D.nos] using e
    cases h with
    | dcts _ _ _ _ _ => exact absurd e'.1 (by simp)
    | dctx q k nd t => exact .dctx q k nd (Dens.nos t e'.2)
  | .dcn x ks ds, _, _, h, e => by
    have e' : (x = true ∧ D.noss ks = true) ∧ D.noss ds = true := by simpa [D.nos] using e
    cases h with
    | dcns _ _ _ _ _ => exact absurd e'.1.1 (by simp)
    | dcnx q k t t2 => exact .dcnx q k (Dens.nos t e'.1.2) (Dens.nos t2 e'.2)
theorem Dens.nos {b : Bs} {C C' : Addr → Prop} {H : Hp} : ∀ {ds : List D} {vs : List V} {F : List Addr}, Dens b C H vs ds F → D.noss ds = true → Dens b C' H vs ds F
  | [], _, _, h, _ => by cases h; exact .nil
  | d :: ds, _, _, h, e => by
    cases h with
    | cons h t =>
      have e' : d.nos = true ∧ D.noss ds = true := by simpa [D.noss] using e
      exact .cons (Den.nos h e'.1) (Dens.nos t e'.2)
end
mutual
theorem D.xf_sh : ∀ d : D, d.sh.xf = true
  | .non => rfl
  | .bl _ => rfl
  | .int _ => rfl
  | .str _ => rfl
  | .opq _ => rfl
  | .scr _ => rfl
  | .tup ds => by simpa [D.sh, D.xf] using D.xfs_shs ds
  | .lst x ds => by simpa [D.sh, D.xf] using D.xfs_shs ds
  | .dct x ks ds => by simp [D.sh, D.xf]
  | .dcn x ks ds => by simp [D.sh, D.xf]
theorem D.xfs_shs : ∀ ds : List D, D.xfs (D.shs ds) = true
  | [] => rfl
  | d :: ds => by simp [D.shs, D.xfs, D.xf_sh d, D.xfs_shs ds]
end
end DL

set_option Elab.async false
set_option linter.all false
set_option maxRecDepth 100000
namespace DL
open PySem L2

abbrev G := List (Option D)
/-- out: it may lean on objects of the callers; bs: on exclusive objects of these slots -/
structure Lv where
  out : Bool
  bs : List Nat
abbrev Lv.or (a b : Lv) : Lv := ⟨a.out || b.out, a.bs ++ b.bs⟩

/-- B: exclusive objects of the callers; T: those of values under way; Fs: those of the slots -/
def Cl (B T : Addr → Prop) (Fs : List (List Addr)) (l : Lv) (a : Addr) : Prop := (B a → l.out = true) ∧ ¬ T a ∧ ∀ (i : Nat) (f : List Addr), Fs[i]? = some f → a ∈ f → i ∈ l.bs

structure Rel (b : Bs) (B T : Addr → Prop) (g : G) (σ : St) (H : Hp) (Fs : List (List Addr)) : Prop where
  lg : σ.length = g.length
  lf : Fs.length = g.length
  at_ : ∀ (i : Nat) (d : D), g[i]? = some (some d) → ∃ v f, σ[i]? = some (some v) ∧ Fs[i]? = some f ∧ Den b (Cl B T Fs ⟨d.xf, []⟩) H v d f
  no : ∀ i : Nat, g[i]? = some none → Fs[i]? = some []
  nd : Fs.flatten.Nodup
  out : ∀ a ∈ Fs.flatten, ¬ B a ∧ ¬ T a
  live : ∀ a, B a ∨ T a → H a ≠ none

theorem nodup_fl {Fs : List (List Addr)} : Fs.flatten.Nodup ↔ (∀ l ∈ Fs, l.Nodup) ∧ Fs.Pairwise fun l l' => ∀ a ∈ l, a ∉ l' := by
  unfold List.Nodup
  rw [List.pairwise_flatten]
  refine and_congr Iff.rfl (iff_of_eq (congrArg (fun R => List.Pairwise R Fs) (funext fun l => funext fun l' => propext ⟨fun h a ha ha' => h a ha a ha' rfl, fun h a ha c hc e => h a ha (e ▸ hc)⟩)))
theorem fs_disj {Fs : List (List Addr)} (h : Fs.flatten.Nodup) {i j : Nat} {f f' : List Addr} (hi : Fs[i]? = some f) (hj : Fs[j]? = some f') (n : i ≠ j) : ∀ a ∈ f, a ∉ f' := by
  intro a ha ha'
  rw [nodup_fl] at h
  have ei := (List.getElem?_eq_some_iff.mp hi).2
  have ej := (List.getElem?_eq_some_iff.mp hj).2
  rcases Nat.lt_or_gt_of_ne n with l | l
  · have q := List.pairwise_iff_getElem.mp h.2 i j (List.getElem?_eq_some_iff.mp hi).1 (List.getElem?_eq_some_iff.mp hj).1 l
    rw [ei, ej] at q
    exact q a ha ha'
  · have q := List.pairwise_iff_getElem.mp h.2 j i (List.getElem?_eq_some_iff.mp hj).1 (List.getElem?_eq_some_iff.mp hi).1 l
    rw [ei, ej] at q
    exact q a ha' ha
theorem fs_mem {Fs : List (List Addr)} {i : Nat} {f : List Addr} (hi : Fs[i]? = some f) {a : Addr} (ha : a ∈ f) : a ∈ Fs.flatten := List.mem_flatten.mpr ⟨f, List.mem_of_getElem? hi, ha⟩
theorem fs_of {Fs : List (List Addr)} {a : Addr} (h : a ∈ Fs.flatten) : ∃ (i : Nat) (f : List Addr), Fs[i]? = some f ∧ a ∈ f := by
  obtain ⟨f, hf, ha⟩ := List.mem_flatten.mp h
  obtain ⟨i, hi⟩ := List.getElem?_of_mem hf
  exact ⟨i, f, hi, ha⟩
theorem fs_one {Fs : List (List Addr)} (h : Fs.flatten.Nodup) {i : Nat} {f : List Addr} (hi : Fs[i]? = some f) : f.Nodup := by
  rw [nodup_fl] at h
  exact h.1 f (List.mem_of_getElem? hi)
theorem fs_set {Fs : List (List Addr)} (h : Fs.flatten.Nodup) {i : Nat} {f : List Addr} (hf : f.Nodup) (hd : ∀ (j : Nat) (f' : List Addr), j ≠ i → Fs[j]? = some f' → ∀ a ∈ f, a ∉ f') : (Fs.set i f).flatten.Nodup := by
  rw [nodup_fl] at h ⊢
  refine ⟨fun l hl => ?_, List.pairwise_iff_getElem.mpr fun p q hp hq l => ?_⟩
  · rcases List.mem_or_eq_of_mem_set hl with e | e
    · exact h.1 l e
    · rw [e]; exact hf
  · rw [List.length_set] at hp hq
    have gp : Fs[p]? = some Fs[p] := List.getElem?_eq_getElem hp
    have gq : Fs[q]? = some Fs[q] := List.getElem?_eq_getElem hq
    rw [List.getElem_set, List.getElem_set]
    by_cases ep : i = p
    · have eq : ¬ i = q := by omega
      rw [if_pos ep, if_neg eq]
      intro a ha ha'
      exact hd q _ (by omega) gq a ha ha'
    · rw [if_neg ep]
      by_cases eq : i = q
      · rw [if_pos eq]
        intro a ha ha'
        exact hd p _ (by omega) gp a ha' ha
      · rw [if_neg eq]
        exact (List.pairwise_iff_getElem.mp h.2) p q hp hq l

/-- behind an expression: the slots of ms may have changed; F: what is exclusive of its value -/
structure Aft (b : Bs) (B T : Addr → Prop) (g g' : G) (σ : St) (ms : List Nat) (H H' : Hp) (Fs Fs' : List (List Addr)) (F : List Addr) : Prop where
  rel : Rel b B (fun a => T a ∨ a ∈ F) g' σ H' Fs'
  nd : F.Nodup
  out : ∀ a ∈ F, ¬ B a ∧ ¬ T a
  src : ∀ a ∈ F, H a = none ∨ ∃ i ∈ ms, ∃ f, Fs[i]? = some f ∧ a ∈ f
  kp : Kp (fun a => ∃ i ∈ ms, ∃ f, Fs[i]? = some f ∧ a ∈ f) H H'
  same : ∀ i : Nat, i ∉ ms → Fs'[i]? = Fs[i]? ∧ g'[i]? = g[i]?
  sub : ∀ (i : Nat) (f f' : List Addr), Fs[i]? = some f → Fs'[i]? = some f' → ∀ a ∈ f', a ∈ f ∨ H a = none
  len : g'.length = g.length

theorem Rel.congr {b : Bs} {B T T' : Addr → Prop} {g : G} {σ : St} {H : Hp} {Fs : List (List Addr)} (h : ∀ a, T a ↔ T' a) (r : Rel b B T g σ H Fs) : Rel b B T' g σ H Fs := by
  have e : T = T' := funext fun a => propext (h a)
  exact e ▸ r

theorem Rel.sl {b : Bs} {B T : Addr → Prop} {g : G} {σ : St} {H : Hp} {Fs : List (List Addr)} (r : Rel b B T g σ H Fs) {i : Nat} {f : List Addr} (hf : Fs[i]? = some f) {a : Addr} (ha : a ∈ f) : H a ≠ none := by
  have li : i < g.length := by rw [← r.lf]; exact (List.getElem?_eq_some_iff.mp hf).1
  cases q : g[i] with
  | none =>
    have z := r.no i (by rw [List.getElem?_eq_getElem li, q])
    rw [hf] at z
    have z' : f = [] := Option.some.inj z
    rw [z'] at ha
    exact absurd ha List.not_mem_nil
  | some d =>
    obtain ⟨v, f2, _, h2, h3⟩ := r.at_ i d (by rw [List.getElem?_eq_getElem li, q])
    rw [hf] at h2
    have z' : f = f2 := Option.some.inj h2
    subst z'
    exact h3.live a ha

abbrev Ex := G → Option (D × G)
abbrev Exs := G → Option (List D × G)
abbrev Tx := G → Option (Bool × G)
/-- the term t does what f says -/
def TEd (b : Bs) (t : TE) (l : Lv) (ms : List Nat) (f : Ex) : Prop := ∀ (B T : Addr → Prop) (g : G) (σ : St) (H : Hp) (Fs : List (List Addr)) (d : D) (g' : G) (Q : VK), Rel b B T g σ H Fs → f g = some (d, g') →
  (∀ v H' Fs' F, Aft b B T g g' σ ms H H' Fs Fs' F → Den b (Cl B (fun a => T a ∨ a ∈ F) Fs' l) H' v d F → Q v H') → t σ H Q
def TAd (b : Bs) (t : TA) (l : Lv) (ms : List Nat) (f : Exs) : Prop := ∀ (B T : Addr → Prop) (g : G) (σ : St) (H : Hp) (Fs : List (List Addr)) (ds : List D) (g' : G) (Q : List V → Hp → Prop), Rel b B T g σ H Fs → f g = some (ds, g') →
  (∀ vs H' Fs' F, Aft b B T g g' σ ms H H' Fs Fs' F → Dens b (Cl B (fun a => T a ∨ a ∈ F) Fs' l) H' vs ds F → Q vs H') → t σ H Q
def TTd (b : Bs) (t : TT) (ms : List Nat) (f : Tx) : Prop := ∀ (B T : Addr → Prop) (g : G) (σ : St) (H : Hp) (Fs : List (List Addr)) (c : Bool) (g' : G) (Q : Bool → Hp → Prop), Rel b B T g σ H Fs → f g = some (c, g') →
  (∀ H' Fs', Aft b B T g g' σ ms H H' Fs Fs' [] → Q c H') → t σ H Q

/-- nothing happens -/
theorem Rel.aft {b : Bs} {B T : Addr → Prop} {g : G} {σ : St} {H : Hp} {Fs : List (List Addr)} (r : Rel b B T g σ H Fs) : Aft b B T g g σ [] H H Fs Fs [] where
  rel := r.congr (by simp)
  nd := List.nodup_nil
  out := by simp
  src := by simp
  kp := Kp.refl
  same := fun _ _ => ⟨rfl, rfl⟩
  sub := fun i f f' h1 h2 a ha => .inl (by rw [h1] at h2; cases h2; exact ha)
  len := rfl

/-- two things, one behind the other; the first one's value keeps F1 -/
theorem Aft.trans {b : Bs} {B T : Addr → Prop} {g g1 g2 : G} {σ : St} {m1 m2 : List Nat} {H H1 H2 : Hp} {Fs Fs1 Fs2 : List (List Addr)} {F1 F2 : List Addr}
    (a : Aft b B T g g1 σ m1 H H1 Fs Fs1 F1) (c : Aft b B (fun x => T x ∨ x ∈ F1) g1 g2 σ m2 H1 H2 Fs1 Fs2 F2) (r0 : Rel b B T g σ H Fs) : Aft b B T g g2 σ (m1 ++ m2) H H2 Fs Fs2 (F1 ++ F2) where
  rel := c.rel.congr fun x => by simp only [List.mem_append]; exact or_assoc
  nd := List.nodup_append.mpr ⟨a.nd, c.nd, fun x hx y hy e => (c.out y hy).2 (.inr (e ▸ hx))⟩
  out := fun x hx => (List.mem_append.mp hx).elim (a.out x) fun h => ⟨(c.out x h).1, fun t => (c.out x h).2 (.inl t)⟩
  src := fun x hx => by
    rcases List.mem_append.mp hx with h | h
    · rcases a.src x h with e | ⟨i, hi, r⟩
      · exact .inl e
      · exact .inr ⟨i, List.mem_append_left _ hi, r⟩
    · rcases c.src x h with e | ⟨i, hi, f, hf, hx⟩
      · left
        by_cases z : H x = none
        · exact z
        · exact absurd e (a.kp.live x z)
      · have li : i < Fs.length := by
          have := (List.getElem?_eq_some_iff.mp hf).1
          rw [a.rel.lf, a.len, ← r0.lf] at this; exact this
        rcases a.sub i Fs[i] f (List.getElem?_eq_getElem li) hf x hx with q | q
        · exact .inr ⟨i, List.mem_append_right _ hi, _, List.getElem?_eq_getElem li, q⟩
        · exact .inl q
  kp := Kp.trans' (a.kp.mono fun x ⟨i, hi, r⟩ => ⟨i, List.mem_append_left _ hi, r⟩) c.kp fun x ⟨i, hi, f, hf, hx⟩ l => by
    have li : i < Fs.length := by
      have := (List.getElem?_eq_some_iff.mp hf).1
      rw [a.rel.lf, a.len, ← r0.lf] at this; exact this
    rcases a.sub i Fs[i] f (List.getElem?_eq_getElem li) hf x hx with q | q
    · exact ⟨i, List.mem_append_right _ hi, _, List.getElem?_eq_getElem li, q⟩
    · exact absurd q l
  same := fun i hi => by
    have h1 := a.same i fun z => hi (List.mem_append_left _ z)
    have h2 := c.same i fun z => hi (List.mem_append_right _ z)
    exact ⟨h2.1.trans h1.1, h2.2.trans h1.2⟩
  sub := fun i f f' h1 h2 x hx => by
    have li : i < Fs1.length := by
      have := (List.getElem?_eq_some_iff.mp h1).1
      rw [r0.lf, ← a.len, ← a.rel.lf] at this; exact this
    rcases c.sub i Fs1[i] f' (List.getElem?_eq_getElem li) h2 x hx with q | q
    · exact a.sub i f _ h1 (List.getElem?_eq_getElem li) x q
    · right
      by_cases z : H x = none
      · exact z
      · exact absurd q (a.kp.live x z)
  len := c.len.trans a.len

/-- a value under way stays while something else is evaluated -/
theorem Aft.carry {b : Bs} {B T : Addr → Prop} {g1 g2 : G} {σ : St} {m2 : List Nat} {H1 H2 : Hp} {Fs1 Fs2 : List (List Addr)} {F1 F2 : List Addr} {l1 : Lv}
    (r1 : Rel b B (fun x => T x ∨ x ∈ F1) g1 σ H1 Fs1) (c : Aft b B (fun x => T x ∨ x ∈ F1) g1 g2 σ m2 H1 H2 Fs1 Fs2 F2) (hd : ∀ i ∈ l1.bs, i ∉ m2) :
    (∀ a, H1 a ≠ none → Cl B (fun x => T x ∨ x ∈ F1) Fs1 l1 a → (¬ ∃ i ∈ m2, ∃ f, Fs1[i]? = some f ∧ a ∈ f) ∧ Cl B (fun x => T x ∨ x ∈ F1 ++ F2) Fs2 l1 a) ∧ ∀ a ∈ F1, ¬ ∃ i ∈ m2, ∃ f, Fs1[i]? = some f ∧ a ∈ f := by
  refine ⟨fun a la ⟨c1, c2, c3⟩ => ⟨fun ⟨i, hi, f, hf, ha⟩ => hd i (c3 i f hf ha) hi, c1, fun z => ?_, fun i f hf ha => ?_⟩, fun a ha ⟨i, hi, f, hf, ha'⟩ => (r1.out a (fs_mem hf ha')).2 (.inr ha)⟩
  · rcases z with z | z
    · exact c2 (.inl z)
    · rcases List.mem_append.mp z with z | z
      · exact c2 (.inr z)
      · rcases c.src a z with e | ⟨i, hi, f, hf, ha⟩
        · exact la e
        · exact hd i (c3 i f hf ha) hi
  · have li : i < Fs1.length := by
      have := (List.getElem?_eq_some_iff.mp hf).1
      rw [c.rel.lf, c.len, ← r1.lf] at this; exact this
    rcases c.sub i Fs1[i] f (List.getElem?_eq_getElem li) hf a ha with q | q
    · exact c3 i _ (List.getElem?_eq_getElem li) q
    · exact absurd q la

@[simp] def xNil : Exs := fun g => some ([], g)
@[simp] def xCons (f : Ex) (r : Exs) : Exs := fun g => do
  let (d, g1) ← f g
  let (ds, g2) ← r g1
  return (d :: ds, g2)
theorem ta_nil {b : Bs} : TAd b tNil ⟨false, []⟩ [] xNil := by
  intro B T g σ H Fs ds g' Q r e h
  obtain ⟨rfl, rfl⟩ : [] = ds ∧ g = g' := by simpa [xNil] using e
  exact h [] H Fs [] r.aft .nil
theorem Cl.or1 {B T : Addr → Prop} {Fs : List (List Addr)} {l1 l2 : Lv} {a : Addr} (h : Cl B T Fs l1 a) : Cl B T Fs (l1.or l2) a :=
  ⟨fun z => by rw [Bool.or_eq_true]; exact .inl (h.1 z), h.2.1, fun i f hf ha => List.mem_append_left _ (h.2.2 i f hf ha)⟩
theorem Cl.or2 {B T : Addr → Prop} {Fs : List (List Addr)} {l1 l2 : Lv} {a : Addr} (h : Cl B T Fs l2 a) : Cl B T Fs (l1.or l2) a :=
  ⟨fun z => by rw [Bool.or_eq_true]; exact .inr (h.1 z), h.2.1, fun i f hf ha => List.mem_append_right _ (h.2.2 i f hf ha)⟩
theorem bind_some {α β : Type} {o : Option α} {f : α → Option β} {y : β} (h : (o >>= f) = some y) : ∃ x, o = some x ∧ f x = some y := by
  cases o with
  | none => cases h
  | some x => exact ⟨x, rfl, h⟩
theorem ta_cons {b : Bs} {t : TE} {t2 : TA} {l1 l2 : Lv} {m1 m2 : List Nat} {f1 : Ex} {f2 : Exs} (h1 : TEd b t l1 m1 f1) (h2 : TAd b t2 l2 m2 f2) (hd : ∀ i ∈ l1.bs, i ∉ m2) : TAd b (tCons t t2) (l1.or l2) (m1 ++ m2) (xCons f1 f2) := by
  intro B T g σ H Fs ds g' Q r e h
  obtain ⟨⟨d, g1⟩, e1, e⟩ := bind_some e
  obtain ⟨⟨ds2, g2⟩, e2, e⟩ := bind_some e
  obtain ⟨rfl, rfl⟩ : d :: ds2 = ds ∧ g2 = g' := by simpa using e
  refine h1 B T g σ H Fs d g1 _ r e1 fun v H1 Fs1 F1 A1 D1 => ?_
  refine h2 B _ g1 σ H1 Fs1 ds2 g2 _ A1.rel e2 fun vs H2 Fs2 F2 A2 D2 => ?_
  have ca := Aft.carry A1.rel A2 hd
  refine h (v :: vs) H2 Fs2 (F1 ++ F2) (A1.trans A2 r) (.cons ((D1.kp A2.kp ca.1 ca.2).imp fun a _ => Cl.or1) (D2.imp fun a _ c => Cl.or2 ⟨c.1, fun z => c.2.1 ?_, c.2.2⟩))
  rcases z with z | z
  · exact .inl (.inl z)
  · rcases List.mem_append.mp z with z | z
    · exact .inl (.inr z)
    · exact .inr z
end DL

set_option Elab.async false
set_option linter.all false
set_option maxRecDepth 100000
namespace DL
open PySem L2

/-- the reading r does what op says, making new things alone -/
def VOp (b : Bs) (op : List D → Option D) (r : List V → Hp → VK → Prop) : Prop := ∀ (C : Addr → Prop) (vs : List V) (ds : List D) (F : List Addr) (d : D) (H : Hp) (Q : VK), Dens b C H vs ds F → F.Nodup → op ds = some d →
  (∀ v H' F', Kp (fun _ => False) H H' → F'.Nodup → (∀ a ∈ F', a ∈ F ∨ H a = none) → Den b (fun a => (C a ∧ H a ≠ none) ∨ ((a ∈ F ∨ H a = none) ∧ a ∉ F')) H' v d F' → Q v H') → r vs H Q

@[simp] def xOp (op : List D → Option D) (f : Exs) : Ex := fun g => do
  let (ds, g') ← f g
  let d ← op ds
  return (d, g')
abbrev CP (C : Addr → Prop) (H : Hp) (F F' : List Addr) : Addr → Prop := fun a => (C a ∧ H a ≠ none) ∨ ((a ∈ F ∨ H a = none) ∧ a ∉ F')
abbrev VQ (b : Bs) (C : Addr → Prop) (F : List Addr) (d : D) (H : Hp) (Q : VK) : Prop :=
  ∀ v H' F', Kp (fun _ => False) H H' → F'.Nodup → (∀ a ∈ F', a ∈ F ∨ H a = none) → Den b (CP C H F F') H' v d F' → Q v H'
/-- behind the operands: an operation that makes new things alone -/
theorem fin_op {b : Bs} {B T : Addr → Prop} {g g1 : G} {σ : St} {ms : List Nat} {H H1 : Hp} {Fs Fs1 : List (List Addr)} {F : List Addr} {l : Lv} {d1 : D} {Q : VK} (A : Aft b B T g g1 σ ms H H1 Fs Fs1 F)
    (hq : ∀ v H' Fs' F, Aft b B T g g1 σ ms H H' Fs Fs' F → Den b (Cl B (fun a => T a ∨ a ∈ F) Fs' l) H' v d1 F → Q v H') : VQ b (Cl B (fun a => T a ∨ a ∈ F) Fs1 l) F d1 H1 Q := by
  intro v H2 F' k nd hs Dv
  have lv := A.rel
  have hF' : ∀ a ∈ F', a ∈ F ∨ H1 a = none := hs
  have dead : ∀ a ∈ F', H1 a ≠ none → a ∈ F := fun a ha l => (hs a ha).resolve_right l
  refine hq v H2 Fs1 F' ⟨⟨lv.lg, lv.lf, fun i d hd => ?_, lv.no, lv.nd, fun a ha => ⟨(lv.out a ha).1, fun z => ?_⟩, fun a ha => ?_⟩, nd, fun a ha => ?_, fun a ha => ?_, ?_, A.same, A.sub, A.len⟩ (Dv.imp fun a l c => ?_)
  · obtain ⟨v, f, h1, h2, h3⟩ := lv.at_ i d hd
    refine ⟨v, f, h1, h2, h3.kp k (fun a la c => ⟨id, c.1, fun z => ?_, c.2.2⟩) fun _ _ => id⟩
    rcases z with z | z
    · exact c.2.1 (.inl z)
    · exact c.2.1 (.inr (dead a z la))
  · rcases z with z | z
    · exact (lv.out a ha).2 (.inl z)
    · obtain ⟨i, f, hf, hm⟩ := fs_of ha
      exact (lv.out a ha).2 (.inr (dead a z (lv.sl hf hm)))
  · rcases ha with ha | ha | ha
    · exact k.live a (lv.live a (.inl ha))
    · exact k.live a (lv.live a (.inr (.inl ha)))
    · exact Dv.live a ha
  · by_cases q : H1 a = none
    · refine ⟨fun z => ?_, fun z => ?_⟩
      · exact lv.live a (.inl z) q
      · exact lv.live a (.inr (.inl z)) q
    · exact A.out a (dead a ha q)
  · by_cases q : H1 a = none
    · left
      by_cases z : H a = none
      · exact z
      · exact absurd q (A.kp.live a z)
    · exact A.src a (dead a ha q)
  · exact Kp.trans' A.kp k fun x z _ => z.elim
  · rcases c with ⟨c, lc⟩ | ⟨c, nc⟩
    · refine ⟨c.1, fun z => ?_, c.2.2⟩
      rcases z with z | z
      · exact c.2.1 (.inl z)
      · exact c.2.1 (.inr (dead a z lc))
    · have live1 : ∀ i f, Fs1[i]? = some f → a ∈ f → H1 a ≠ none := fun i f hf hm => lv.sl hf hm
      rcases c with c | c
      · refine ⟨fun z => absurd z (A.out a c).1, fun z => z.elim (A.out a c).2 nc, fun i f hf hm => ?_⟩
        exact absurd (Or.inr c) (lv.out a (fs_mem hf hm)).2
      · refine ⟨fun z => absurd c (lv.live a (.inl z)), fun z => z.elim (fun z => lv.live a (.inr (.inl z)) c) nc, fun i f hf hm => absurd c (live1 i f hf hm)⟩
theorem te_op {b : Bs} {t : TA} {r : List V → Hp → VK → Prop} {l : Lv} {ms : List Nat} {f : Exs} {op : List D → Option D} (h : TAd b t l ms f) (o : VOp b op r) : TEd b (fun σ H Q => t σ H fun vs H1 => r vs H1 Q) l ms (xOp op f) := by
  intro B T g σ H Fs d g' Q r0 e hq
  obtain ⟨⟨ds, g1⟩, e1, e⟩ := bind_some e
  obtain ⟨d1, e2, e⟩ := bind_some e
  obtain ⟨rfl, rfl⟩ : d1 = d ∧ g1 = g' := by simpa using e
  exact h B T g σ H Fs ds g1 _ r0 e1 fun vs H1 Fs1 F A Dn => o _ vs ds F d1 H1 Q Dn A.nd e2 (fin_op A hq)
end DL

set_option Elab.async false
set_option linter.all false
set_option maxRecDepth 100000
namespace DL
open PySem L2

section
variable {b : Bs} {C : Addr → Prop} {H : Hp}
theorem VQ.flat {F : List Addr} {d : D} {v : V} {Q : VK} (q : VQ b C F d H Q) (e : ∀ C', Den b C' H v d []) : Q v H := q v H [] Kp.refl List.nodup_nil (by simp) (e _)
theorem VQ.bl {F : List Addr} {k : Bool} {Q : VK} (q : VQ b C F (.bl k) H Q) : Q (.bl k) H := q.flat fun _ => .bl k
theorem VQ.int {F : List Addr} {k : Int} {Q : VK} (q : VQ b C F (.int k) H Q) : Q (.int k) H := q.flat fun _ => .int k
theorem VQ.str {F : List Addr} {k : Str} {Q : VK} (q : VQ b C F (.str k) H Q) : Q (.str k) H := q.flat fun _ => .str k
theorem VQ.non {F : List Addr} {Q : VK} (q : VQ b C F .non H Q) : Q .non H := q.flat fun _ => .non
theorem VQ.part {F F0 : List Addr} {d : D} {v : V} {Q : VK} (q : VQ b C F d H Q) (h : Den b C H v d F0) (nd : F0.Nodup) (sub : ∀ a ∈ F0, a ∈ F) : Q v H :=
  q v H F0 Kp.refl nd (fun a ha => .inl (sub a ha)) (h.imp fun a l c => .inl ⟨c, l⟩)
theorem VQ.newl {F F0 : List Addr} {ds : List D} {vs : List V} {Q : VK} (q : VQ b C F (.lst true ds) H Q) (h : Dens b C H vs ds F0) (nd : F0.Nodup) (sub : ∀ a ∈ F0, a ∈ F) {p : Addr} (hp : H p = none) :
    Q (.ref p) (upd H p (.lst vs)) := by
  refine q (.ref p) _ (p :: F0) (Kp.of_new hp) (List.nodup_cons.mpr ⟨fun z => h.live p z hp, nd⟩) (fun a ha => ?_) (.lstx upd_same (h.kp (Kp.of_new (M := fun _ => False) hp) (fun a l c => ⟨id, .inl ⟨c, l⟩⟩) fun _ _ => id))
  rcases List.mem_cons.mp ha with e | e
  · exact .inr (e ▸ hp)
  · exact .inl (sub a e)
theorem VQ.newt {F F0 : List Addr} {ds : List D} {vs : List V} {Q : VK} (q : VQ b C F (.tup ds) H Q) (h : Dens b C H vs ds F0) (nd : F0.Nodup) (sub : ∀ a ∈ F0, a ∈ F) {p : Addr} (hp : H p = none) :
    Q (.ref p) (upd H p (.tup vs)) :=
  q (.ref p) _ F0 (Kp.of_new hp) nd (fun a ha => .inl (sub a ha)) (.tup (SqT.of upd_same) (h.kp (Kp.of_new (M := fun _ => False) hp) (fun a l c => ⟨id, .inl ⟨c, l⟩⟩) fun _ _ => id))
theorem dens1 {vs : List V} {d : D} {F : List Addr} (h : Dens b C H vs [d] F) : ∃ v, vs = [v] ∧ Den b C H v d F := by
  cases h with
  | cons h t => cases t; exact ⟨_, rfl, by rw [List.append_nil]; exact h⟩
theorem dens2 {vs : List V} {d e : D} {F : List Addr} (h : Dens b C H vs [d, e] F) : ∃ v u F1 F2, vs = [v, u] ∧ F = F1 ++ F2 ∧ Den b C H v d F1 ∧ Den b C H u e F2 := by
  cases h with
  | cons h t =>
    obtain ⟨u, rfl, h2⟩ := dens1 t
    exact ⟨_, _, _, _, rfl, rfl, h, h2⟩
theorem Dens.app : ∀ {vs us : List V} {ds es : List D} {F F' : List Addr}, Dens b C H vs ds F → Dens b C H us es F' → Dens b C H (vs ++ us) (ds ++ es) (F ++ F')
  | _, _, _, _, _, _, .nil, h => h
  | _, _, _, _, _, _, .cons h t, h' => by
    rw [List.append_assoc]
    exact .cons h (Dens.app t h')
theorem Dens.at' : ∀ {vs : List V} {ds : List D} {F : List Addr} {i : Nat} {d : D}, Dens b C H vs ds F → F.Nodup → ds[i]? = some d → ∃ v F0, vs[i]? = some v ∧ Den b C H v d F0 ∧ F0.Nodup ∧ ∀ a ∈ F0, a ∈ F
  | _, _, _, _, _, .nil, _, e => by simp at e
  | _, _, _, 0, _, .cons h t, nd, e => by
    simp at e; subst e
    exact ⟨_, _, rfl, h, (List.nodup_append.mp nd).1, fun a ha => List.mem_append_left _ ha⟩
  | _, _, _, i + 1, _, .cons h t, nd, e => by
    obtain ⟨v, F0, h1, h2, h3, h4⟩ := Dens.at' (i := i) t (List.nodup_append.mp nd).2.1 (by simpa using e)
    exact ⟨v, F0, by simpa using h1, h2, h3, fun a ha => List.mem_append_right _ (h4 a ha)⟩
theorem Dens.take : ∀ {vs : List V} {ds : List D} {F : List Addr} (n : Nat), Dens b C H vs ds F → F.Nodup → ∃ F0, Dens b C H (vs.take n) (ds.take n) F0 ∧ F0.Nodup ∧ ∀ a ∈ F0, a ∈ F
  | _, _, _, 0, _, _ => ⟨[], .nil, List.nodup_nil, by simp⟩
  | _, _, _, _ + 1, .nil, _ => ⟨[], .nil, List.nodup_nil, by simp⟩
  | _, _, _, n + 1, .cons h t, nd => by
    obtain ⟨n1, n2, n3⟩ := List.nodup_append.mp nd
    obtain ⟨F0, h1, h2, h3⟩ := Dens.take n t n2
    exact ⟨_, .cons h h1, List.nodup_append.mpr ⟨n1, h2, fun a ha c hc => n3 a ha c (h3 c hc)⟩, fun a ha => (List.mem_append.mp ha).elim (List.mem_append_left _) fun z => List.mem_append_right _ (h3 a z)⟩
theorem Dens.drop : ∀ {vs : List V} {ds : List D} {F : List Addr} (n : Nat), Dens b C H vs ds F → F.Nodup → ∃ F0, Dens b C H (vs.drop n) (ds.drop n) F0 ∧ F0.Nodup ∧ ∀ a ∈ F0, a ∈ F
  | _, _, F, 0, h, nd => ⟨F, h, nd, fun _ ha => ha⟩
  | _, _, _, _ + 1, .nil, _ => ⟨[], .nil, List.nodup_nil, by simp⟩
  | _, _, _, n + 1, .cons h t, nd => by
    obtain ⟨F0, h1, h2, h3⟩ := Dens.drop n t (List.nodup_append.mp nd).2.1
    exact ⟨F0, h1, h2, fun a ha => List.mem_append_right _ (h3 a ha)⟩
theorem Den.tup_inv {v : V} {ds : List D} {F : List Addr} (h : Den b C H v (.tup ds) F) : ∃ a vs, v = .ref a ∧ SqT b.K H a vs ∧ Dens b C H vs ds F := by
  cases h with | tup q t => exact ⟨_, _, rfl, q, t⟩
theorem Den.lstN {v : V} {x : Bool} {ds : List D} {F : List Addr} (h : Den b C H v (.lst x ds) F) (nd : F.Nodup) : ∃ a vs F', v = .ref a ∧ H a = some (.lst vs) ∧ Dens b C H vs ds F' ∧ F'.Nodup ∧ ∀ a ∈ F', a ∈ F := by
  obtain ⟨a, vs, F', e1, e2, e3, e4, e5⟩ := h.lst_inv
  cases x with
  | true =>
    simp only [if_true] at e4
    subst e4
    exact ⟨a, vs, F', e1, e2, e3, (List.nodup_cons.mp nd).2, fun a ha => List.mem_cons_of_mem _ ha⟩
  | false =>
    have e4' : F = F' := by simpa using e4
    subst e4'
    exact ⟨a, vs, F, e1, e2, e3, nd, fun a ha => ha⟩
end

abbrev B2 (f : D → D → Option D) : List D → Option D := fun ds => match ds with
  | [x, y] => f x y
  | _ => none
abbrev B1 (f : D → Option D) : List D → Option D := fun ds => match ds with
  | [x] => f x
  | _ => none
def r2L (r : R2) : List V → Hp → VK → Prop := fun vs H Q => match vs with
  | [x, y] => r x y H Q
  | _ => False
theorem vop2 {b : Bs} {f : D → D → Option D} {r : R2} (h : ∀ (C : Addr → Prop) (H : Hp) (x y : V) (d e z : D) (F1 F2 : List Addr) (Q : VK), Den b C H x d F1 → Den b C H y e F2 → (F1 ++ F2).Nodup → f d e = some z → VQ b C (F1 ++ F2) z H Q → r x y H Q) : VOp b (B2 f) (r2L r) := by
  intro C vs ds F d H Q hd nd e q
  match ds, e with
  | [x, y], e =>
    obtain ⟨v, u, F1, F2, rfl, rfl, h1, h2⟩ := dens2 hd
    exact h C H v u x y d F1 F2 Q h1 h2 nd e q
theorem vop1 {b : Bs} {f : D → Option D} {r : List V → Hp → VK → Prop} (h : ∀ (C : Addr → Prop) (H : Hp) (x : V) (d z : D) (F : List Addr) (Q : VK), Den b C H x d F → F.Nodup → f d = some z → VQ b C F z H Q → r [x] H Q) : VOp b (B1 f) r := by
  intro C vs ds F d H Q hd nd e q
  match ds, e with
  | [x], e =>
    obtain ⟨v, rfl, h1⟩ := dens1 hd
    exact h C H v x d F Q h1 nd e q

@[simp] def dAdd : D → D → Option D
  | .int a, .int c => some (.int (a + c))
  | .str a, .str c => if a.length + c.length ≤ sizeLine then some (.str (a ++ c)) else none
  | .tup a, .tup c => if a.length + c.length ≤ sizeLine then some (.tup (a ++ c)) else none
  | .lst _ a, .lst _ c => if a.length + c.length ≤ sizeLine then some (.lst true (a ++ c)) else none
  | _, _ => none
def rAddD (K : PySem.W.Frag) : R2 := fun x y H Q => (∃ i j, x = .int i ∧ y = .int j ∧ Q (.int (i + j)) H) ∨ (∃ i j, x = .str i ∧ y = .str j ∧ i.length + j.length ≤ sizeLine ∧ Q (.str (i ++ j)) H) ∨ rCatA K x y H Q ∨ rCat x y H Q
theorem op_addD {X : Cx} : OpR X (binaryOp .Add) (rAddD X.K) := op_add.or (op_add_str.or (op_catA.or op_cat))
theorem vop_add {b : Bs} : VOp b (B2 dAdd) (r2L (rAddD b.K)) := vop2 fun C H x y d e z F1 F2 Q h1 h2 nd hz q => by
  match d, e, hz with
  | .int a, .int c, hz =>
    cases h1; cases h2; cases hz
    exact .inl ⟨a, c, rfl, rfl, q.int⟩
  | .str a, .str c, hz =>
    cases h1; cases h2
    simp only [dAdd] at hz
    split at hz
    · cases hz; exact .inr (.inl ⟨a, c, rfl, rfl, by assumption, q.str⟩)
    · cases hz
  | .tup a, .tup c, hz =>
    simp only [dAdd] at hz
    split at hz
    · cases hz
      rename_i hl
      obtain ⟨p1, v1, rfl, s1, t1⟩ := h1.tup_inv
      obtain ⟨p2, v2, rfl, s2, t2⟩ := h2.tup_inv
      have l1 := t1.length
      have l2 := t2.length
      have t12 := t1.app t2
      refine .inr (.inr (.inl ⟨p1, p2, v1, v2, rfl, rfl, s1, s2, by omega, fun e => ?_, fun _ e => ?_, fun _ _ p hp => ?_⟩))
      · subst e
        cases t1
        exact q.part (.tup s2 t2) nd fun a ha => ha
      · subst e
        cases t2
        simp only [List.append_nil] at q nd
        exact q.part (.tup s1 t1) nd fun a ha => ha
      · exact q.newt t12 nd (fun a ha => ha) hp
    · cases hz
  | .lst u a, .lst u' c, hz =>
    simp only [dAdd] at hz
    split at hz
    · cases hz
      rename_i hl
      obtain ⟨n1, n2, n3⟩ := List.nodup_append.mp nd
      obtain ⟨p1, v1, G1, rfl, s1, t1, m1, w1⟩ := h1.lstN n1
      obtain ⟨p2, v2, G2, rfl, s2, t2, m2, w2⟩ := h2.lstN n2
      have l1 := t1.length
      have l2 := t2.length
      refine .inr (.inr (.inr ⟨p1, p2, v1, v2, rfl, rfl, s1, s2, by omega, fun p hp => ?_⟩))
      exact q.newl (t1.app t2) (List.nodup_append.mpr ⟨m1, m2, fun a ha c hc => n3 a (w1 a ha) c (w2 c hc)⟩) (fun a ha => (List.mem_append.mp ha).elim (fun z => List.mem_append_left _ (w1 a z)) fun z => List.mem_append_right _ (w2 a z)) hp
    · cases hz

@[simp] def dSub : D → D → Option D
  | .int a, .int c => some (.int (a - c))
  | _, _ => none
theorem vop_sub {b : Bs} : VOp b (B2 dSub) (r2L (rI0 fun i j => .int (i - j))) := vop2 fun C H x y d e z F1 F2 Q h1 h2 nd hz q => by
  match d, e, hz with
  | .int a, .int c, hz => cases h1; cases h2; cases hz; exact ⟨a, c, rfl, rfl, q.int⟩
/-- one factor below 2^64 -/
def mulOk (a c : Int) : Bool := decide (-(2 ^ 64) < a ∧ a < 2 ^ 64) || decide (-(2 ^ 64) < c ∧ c < 2 ^ 64)
@[simp] def dMul : D → D → Option D
  | .int a, .int c => if mulOk a c = true then some (.int (a * c)) else none
  | _, _ => none
theorem vop_mul {b : Bs} : VOp b (B2 dMul) (r2L (rI CMul fun i j => .int (i * j))) := vop2 fun C H x y d e z F1 F2 Q h1 h2 nd hz q => by
  match d, e, hz with
  | .int a, .int c, hz =>
    cases h1; cases h2
    simp only [dMul] at hz
    split at hz
    · cases hz
      rename_i hm
      refine ⟨a, c, rfl, rfl, ?_, q.int⟩
      rw [mulOk, Bool.or_eq_true, decide_eq_true_eq, decide_eq_true_eq] at hm
      exact hm
    · cases hz
@[simp] def dFdiv : D → D → Option D
  | .int a, .int c => if 0 < c ∧ c < 1073741824 then some (.int (a / c)) else none
  | _, _ => none
theorem vop_fdiv {b : Bs} : VOp b (B2 dFdiv) (r2L (rI CDiv fun i j => .int (i / j))) := vop2 fun C H x y d e z F1 F2 Q h1 h2 nd hz q => by
  match d, e, hz with
  | .int a, .int c, hz =>
    cases h1; cases h2
    simp only [dFdiv] at hz
    split at hz
    · cases hz
      rename_i hm
      exact ⟨a, c, rfl, rfl, hm, q.int⟩
    · cases hz
@[simp] def dMod : D → D → Option D
  | .int a, .int c => if 0 < c then some (.int (a % c)) else none
  | _, _ => none
theorem vop_mod {b : Bs} : VOp b (B2 dMod) (r2L (rI (fun _ j => 0 < j) fun i j => .int (i % j))) := vop2 fun C H x y d e z F1 F2 Q h1 h2 nd hz q => by
  match d, e, hz with
  | .int a, .int c, hz =>
    cases h1; cases h2
    simp only [dMod] at hz
    split at hz
    · cases hz
      rename_i hm
      exact ⟨a, c, rfl, rfl, hm, q.int⟩
    · cases hz
@[simp] def dPow : D → D → Option D
  | .int a, .int c => if 0 ≤ c ∧ c ≤ 1000000 ∧ a.natAbs < 2 ^ 64 then some (.int (a ^ c.toNat)) else none
  | _, _ => none
theorem vop_pow {b : Bs} : VOp b (B2 dPow) (r2L (rI CPow fun i j => .int (i ^ j.toNat))) := vop2 fun C H x y d e z F1 F2 Q h1 h2 nd hz q => by
  match d, e, hz with
  | .int a, .int c, hz =>
    cases h1; cases h2
    simp only [dPow] at hz
    split at hz
    · cases hz
      rename_i hm
      exact ⟨a, c, rfl, rfl, hm, q.int⟩
    · cases hz
@[simp] def dCmp (p : Int → Int → Bool) : D → D → Option D
  | .int a, .int c => some (.bl (p a c))
  | _, _ => none
theorem vop_cmp {b : Bs} (p : Int → Int → Bool) : VOp b (B2 (dCmp p)) (r2L (rI0 fun i j => .bl (p i j))) := vop2 fun C H x y d e z F1 F2 Q h1 h2 nd hz q => by
  match d, e, hz with
  | .int a, .int c, hz => cases h1; cases h2; cases hz; exact ⟨a, c, rfl, rfl, q.bl⟩
abbrev dLt := dCmp fun i j => decide (i < j)
abbrev dLe := dCmp fun i j => decide (i ≤ j)
abbrev dGt := dCmp fun i j => decide (j < i)
abbrev dGe := dCmp fun i j => decide (j ≤ i)

mutual
def D.py : D → Option PyData
  | .non => some .none
  | .bl k => some (.bool k)
  | .int i => some (.int i)
  | .str x => some (.str x)
  | .tup ds => (D.pys ds).map .tuple
  | .lst _ ds => (D.pys ds).map .list
  | _ => none
def D.pys : List D → Option (List PyData)
  | [] => some []
  | d :: ds => do
    let k ← D.py d
    let ks ← D.pys ds
    return k :: ks
end
mutual
theorem den_dp {b : Bs} {C : Addr → Prop} {H : Hp} : ∀ {d : D} {v : V} {F : List Addr} {p : PyData}, Den b C H v d F → d.py = some p → Dp b.K H v p
  | .non, _, _, _, h, e => by cases h; cases e; exact .non
  | .bl k, _, _, _, h, e => by cases h; cases e; exact .bl k
  | .int i, _, _, _, h, e => by cases h; cases e; exact .int i
  | .str x, _, _, _, h, e => by cases h; cases e; exact .str x
  | .tup ds, _, _, _, h, e => by
    cases h with
    | tup q t =>
      obtain ⟨ps, e1, e2⟩ := Option.map_eq_some_iff.mp (show (D.pys ds).map PyData.tuple = some _ from e)
      subst e2
      exact .tup q (dens_dp t e1)
  | .lst x ds, _, _, _, h, e => by
    obtain ⟨a, vs, F', rfl, q, t, _⟩ := h.lst_inv
    obtain ⟨ps, e1, e2⟩ := Option.map_eq_some_iff.mp (show (D.pys ds).map PyData.list = some _ from e)
    subst e2
    exact .lst (SqL.of q) (dens_dp t e1)
theorem dens_dp {b : Bs} {C : Addr → Prop} {H : Hp} : ∀ {ds : List D} {vs : List V} {F : List Addr} {ps : List PyData}, Dens b C H vs ds F → D.pys ds = some ps → DpAll b.K H vs ps
  | [], _, _, _, h, e => by cases h; cases e; exact .nil
  | d :: ds, _, _, _, h, e => by
    cases h with
    | cons h t =>
      obtain ⟨k, e1, e⟩ := bind_some (show (D.py d >>= fun k => D.pys ds >>= fun ks => pure (k :: ks)) = some _ from e)
      obtain ⟨ks, e2, e⟩ := bind_some e
      cases e
      exact .cons (den_dp h e1) (dens_dp t e2)
end
def dEqB (x y : D) : Option Bool := do
  let p ← x.py
  let q ← y.py
  if SeqAt.shaped p = true ∧ SeqAt.shaped q = true then some (PyData.eqv p q) else none
theorem dEqB_some {x y : D} {k : Bool} (h : dEqB x y = some k) : ∃ p q, x.py = some p ∧ y.py = some q ∧ SeqAt.shaped p = true ∧ SeqAt.shaped q = true ∧ PyData.eqv p q = k := by
  obtain ⟨p, e1, h⟩ := bind_some h
  obtain ⟨q, e2, h⟩ := bind_some h
  split at h
  · rename_i hs
    cases h
    exact ⟨p, q, e1, e2, hs.1, hs.2, rfl⟩
  · cases h
def dEq (x y : D) : Option D := (dEqB x y).map .bl
def dNe (x y : D) : Option D := (dEqB x y).map fun k => .bl (!k)
theorem vop_eq {b : Bs} : VOp b (B2 dEq) (r2L (rEqD b.K)) := vop2 fun C H x y d e z F1 F2 Q h1 h2 nd hz q => by
  obtain ⟨k, e1, rfl⟩ := Option.map_eq_some_iff.mp hz
  obtain ⟨p, r, q1, q2, q3, q4, rfl⟩ := dEqB_some e1
  exact ⟨p, r, den_dp h1 q1, den_dp h2 q2, q3, q4, q.bl⟩
theorem vop_ne {b : Bs} : VOp b (B2 dNe) (r2L (rNeD b.K)) := vop2 fun C H x y d e z F1 F2 Q h1 h2 nd hz q => by
  obtain ⟨k, e1, rfl⟩ := Option.map_eq_some_iff.mp hz
  obtain ⟨p, r, q1, q2, q3, q4, rfl⟩ := dEqB_some e1
  exact ⟨p, r, den_dp h1 q1, den_dp h2 q2, q3, q4, q.bl⟩
def dIsN : D → Option D
  | .non => some (.bl true)
  | .opq _ => none
  | _ => some (.bl false)
end DL

set_option Elab.async false
set_option linter.all false
set_option maxRecDepth 100000
namespace DL
open PySem L2

/-- a flat thing -/
@[simp] def D.v : D → Option V
  | .non => some .non
  | .bl k => some (.bl k)
  | .int i => some (.int i)
  | .str x => some (.str x)
  | _ => none
@[simp] def D.vs : List D → Option (List V)
  | [] => some []
  | d :: ds => do
    let k ← D.v d
    let ks ← D.vs ds
    return k :: ks
theorem d_v {b : Bs} {C : Addr → Prop} {H : Hp} {d : D} {v u : V} {F : List Addr} (h : Den b C H v d F) (e : d.v = some u) : v = u ∧ flatV u = true := by
  cases d <;> simp only [D.v, Option.some.injEq, reduceCtorEq] at e <;> subst e <;> cases h <;> exact ⟨rfl, rfl⟩
theorem d_vs {b : Bs} {C : Addr → Prop} {H : Hp} : ∀ {ds : List D} {vs us : List V} {F : List Addr}, Dens b C H vs ds F → D.vs ds = some us → vs = us ∧ us.all flatV = true
  | [], _, _, _, h, e => by cases h; cases e; exact ⟨rfl, rfl⟩
  | d :: ds, _, _, _, h, e => by
    cases h with
    | cons h t =>
      obtain ⟨k, e1, e⟩ := bind_some (show (D.v d >>= fun k => D.vs ds >>= fun ks => pure (k :: ks)) = some _ from e)
      obtain ⟨ks, e2, e⟩ := bind_some e
      cases e
      obtain ⟨rfl, f1⟩ := d_v h e1
      obtain ⟨rfl, f2⟩ := d_vs t e2
      exact ⟨rfl, by simp [f1, f2]⟩
/-- the items of a tuple or a list -/
@[simp] def D.its : D → Option (List D)
  | .tup ds => some ds
  | .lst _ ds => some ds
  | _ => none
@[simp] def kIn (k : Key) (ks : List Key) : Bool := ks.any fun x => decide (x = k)
@[simp] def dInB (x y : D) : Option Bool := match y with
  | .dct _ ks _ => match x with
    | .int i => some (kIn (.inl i) ks)
    | .str s => some (kIn (.inr s) ks)
    | _ => none
  | y => do
    let ds ← y.its
    let v ← x.v
    let vs ← D.vs ds
    return inV v vs
@[simp] def dIn (x y : D) : Option D := (dInB x y).map .bl
@[simp] def dNotIn (x y : D) : Option D := (dInB x y).map fun k => .bl (!k)
def rDIn (K : PySem.W.Frag) (neg : Bool) : R2 := fun y x H Q => ∃ a o, x = .ref a ∧ DGet H a y o ∧ Q (.bl (if neg then !o.isSome else o.isSome)) H
theorem op_dIn {X : Cx} (hu : X.A.units + 1 < cLine) : OpR X (compareOp .In) (rDIn X.K false) := by
  intro pins s σ H y x vy vx Q I ry rx h
  obtain ⟨a, o, rfl, g, q⟩ := h
  cases rx
  exact d_in hu I g ry fun s3 I3 => ⟨.bl o.isSome, H, I3, rfl, q⟩
theorem op_dNotIn {X : Cx} (hu : X.A.units + 1 < cLine) : OpR X (compareOp .NotIn) (rDIn X.K true) := by
  intro pins s σ H y x vy vx Q I ry rx h
  obtain ⟨a, o, rfl, g, q⟩ := h
  cases rx
  exact d_notIn hu I g ry fun s3 I3 => ⟨.bl (!o.isSome), H, I3, rfl, q⟩
abbrev rInA (K : PySem.W.Frag) (neg : Bool) : R2 := fun x y H Q => rIn K neg x y H Q ∨ rDIn K neg x y H Q
theorem op_inD' {X : Cx} (hu : X.A.units + 1 < cLine) : OpR X (compareOp .In) (rInA X.K false) := op_in_seq.or (op_dIn hu)
theorem op_notInD' {X : Cx} (hu : X.A.units + 1 < cLine) : OpR X (compareOp .NotIn) (rInA X.K true) := op_notIn_seq.or (op_dNotIn hu)
theorem valV_mem {k : Key} {kvs : List (Key × V)} : (valV kvs k).isSome = kIn k (kvs.map fun p => p.1) := by
  rw [← valV_any, kIn, List.any_map]
  rfl
theorem Den.dct_inv {b : Bs} {C : Addr → Prop} {H : Hp} {v : V} {x : Bool} {ks : List Key} {ds : List D} {F : List Addr} (h : Den b C H v (.dct x ks ds) F) :
    ∃ a kvs, v = .ref a ∧ Rd H a (.dK kvs) ∧ kvs.map (·.1) = ks ∧ ks.Nodup ∧ Dens b C H (kvs.map (·.2)) ds [] ∧ F = (if x = true then [a] else []) ∧ (x = true → H a = some (.dK kvs)) := by
  cases h with
  | dcts h c e nd t => exact ⟨_, _, rfl, h, e, nd, t, rfl, fun z => by cases z⟩
  | dctx h e nd t => exact ⟨_, _, rfl, .inl h, e, nd, t, rfl, fun _ => h⟩
theorem dInB_run {b : Bs} {C : Addr → Prop} {H : Hp} {x y : D} {vx vy : V} {F1 F2 : List Addr} {k neg : Bool} {Q : VK} (h1 : Den b C H vx x F1) (h2 : Den b C H vy y F2) (e : dInB x y = some k) (q : Q (.bl (if neg then !k else k)) H) : rInA b.K neg vx vy H Q := by
  cases y with
  | dct u ks ds =>
    obtain ⟨a, kvs, rfl, rd, ek, nd, _, _, _⟩ := h2.dct_inv
    refine .inr ?_
    cases x <;> simp only [dInB, Option.some.injEq, reduceCtorEq] at e
    · rename_i i
      cases h1
      refine ⟨a, _, rfl, .inl ⟨kvs, Sum.inl i, rd, rfl, rfl⟩, ?_⟩
      rw [valV_mem, show kvs.map (fun p => p.1) = ks from ek, e]; exact q
    · rename_i s
      cases h1
      refine ⟨a, _, rfl, .inl ⟨kvs, Sum.inr s, rd, rfl, rfl⟩, ?_⟩
      rw [valV_mem, show kvs.map (fun p => p.1) = ks from ek, e]; exact q
  | tup ds =>
    obtain ⟨v, e1, e⟩ := bind_some (show (x.v >>= fun v => D.vs ds >>= fun vs => pure (inV v vs)) = some k from e)
    obtain ⟨vs, e2, e⟩ := bind_some e
    cases e
    obtain ⟨rfl, f1⟩ := d_v h1 e1
    obtain ⟨a, us, rfl, s, t⟩ := h2.tup_inv
    obtain ⟨rfl, f2⟩ := d_vs t e2
    exact .inl ⟨a, us, rfl, .inr s, f1, f2, q⟩
  | lst u ds =>
    obtain ⟨v, e1, e⟩ := bind_some (show (x.v >>= fun v => D.vs ds >>= fun vs => pure (inV v vs)) = some k from e)
    obtain ⟨vs, e2, e⟩ := bind_some e
    cases e
    obtain ⟨rfl, f1⟩ := d_v h1 e1
    obtain ⟨a, us, F', rfl, s, t, _⟩ := h2.lst_inv
    obtain ⟨rfl, f2⟩ := d_vs t e2
    exact .inl ⟨a, us, rfl, .inl (SqL.of s), f1, f2, q⟩
  | _ => cases e
theorem vop_in {b : Bs} : VOp b (B2 dIn) (r2L (rInA b.K false)) := vop2 fun C H x y d e z F1 F2 Q h1 h2 nd hz q => by
  obtain ⟨k, e1, rfl⟩ := Option.map_eq_some_iff.mp hz
  exact dInB_run h1 h2 e1 q.bl
theorem vop_notIn {b : Bs} : VOp b (B2 dNotIn) (r2L (rInA b.K true)) := vop2 fun C H x y d e z F1 F2 Q h1 h2 nd hz q => by
  obtain ⟨k, e1, rfl⟩ := Option.map_eq_some_iff.mp hz
  exact dInB_run h1 h2 e1 q.bl

def kOf : D → Option Key
  | .int i => some (.inl i)
  | .str s => some (.inr s)
  | _ => none
@[simp] def dIx : D → D → Option D
  | .tup ds, .int i => atI ds i
  | .lst _ ds, .int i => atI ds i
  | .str z, .int i => if z.length ≤ sizeLine then (atI z.cps.toList i).map fun c => .str ⟨#[c]⟩ else none
  | _, _ => none
theorem atI_ix {α β : Type} {xs : List α} {ys : List β} {i : Int} {v : α} (l : xs.length = ys.length) (h : atI xs i = some v) : ∃ j : Nat, xs[j]? = some v ∧ ∀ u, ys[j]? = some u → atI ys i = some u := by
  unfold atI at h ⊢
  obtain ⟨j, e1, e2⟩ := Option.bind_eq_some_iff.mp h
  exact ⟨j, e2, fun u hu => by rw [← l, e1]; exact hu⟩
theorem vop_ix {b : Bs} : VOp b (B2 dIx) (r2L (rIx b.K)) := vop2 fun C H x y d e z F1 F2 Q h1 h2 nd hz q => by
  match d, e, hz with
  | .tup ds, .int i, hz =>
    obtain ⟨a, vs, rfl, s, t⟩ := h1.tup_inv
    cases h2
    obtain ⟨j, e1, e2⟩ := atI_ix t.length.symm hz
    rw [List.append_nil] at nd
    obtain ⟨v, F0, g1, g2, g3, g4⟩ := t.at' nd e1
    exact .inr (.inl ⟨a, vs, i, v, rfl, rfl, s, e2 v g1, q.part g2 g3 fun a ha => by rw [List.append_nil]; exact g4 a ha⟩)
  | .lst u ds, .int i, hz =>
    cases h2
    rw [List.append_nil] at nd
    obtain ⟨a, vs, F', rfl, s, t, m, w⟩ := h1.lstN nd
    obtain ⟨j, e1, e2⟩ := atI_ix t.length.symm hz
    obtain ⟨v, F0, g1, g2, g3, g4⟩ := t.at' m e1
    exact .inl ⟨a, vs, i, v, rfl, rfl, SqL.of s, e2 v g1, q.part g2 g3 fun a ha => by rw [List.append_nil]; exact w a (g4 a ha)⟩
  | .str x, .int i, hz =>
    cases h1; cases h2
    simp only [dIx] at hz
    split at hz
    · obtain ⟨c, e1, rfl⟩ := Option.map_eq_some_iff.mp hz
      exact .inr (.inr ⟨x, i, c, rfl, rfl, by assumption, e1, q.str⟩)
    · cases hz

@[simp] def dLen : D → Option D
  | .str x => if x.length ≤ sizeLine then some (.int x.length) else none
  | .tup ds => some (.int ds.length)
  | .lst _ ds => some (.int ds.length)
  | .dct true ks _ => some (.int ks.length)
  | .scr ns => some (.int ns.length)
  | _ => none
def rLenA (K : PySem.W.Frag) : List V → Hp → VK → Prop := fun xs H Q => (∃ x n, xs = [x] ∧ LenV K x H n ∧ Q (.int n) H) ∨ ∃ a kvs, xs = [V.ref a] ∧ H a = some (.dK kvs) ∧ Q (.int kvs.length) H
theorem call_lenA {X : Cx} : CallR X (.builtin "len") (rLenA X.K) := call_len.or call_lenD
theorem vop_len {b : Bs} : VOp b (B1 dLen) (rLenA b.K) := vop1 fun C H x d z F Q h nd hz q => by
  match d, hz with
  | .str s, hz =>
    cases h
    simp only [dLen] at hz
    split at hz
    · cases hz; exact .inl ⟨_, _, rfl, ⟨by assumption, rfl⟩, q.int⟩
    · cases hz
  | .tup ds, hz =>
    cases hz
    obtain ⟨a, vs, rfl, s, t⟩ := h.tup_inv
    exact .inl ⟨_, _, rfl, .inr ⟨vs, s, rfl⟩, by rw [t.length]; exact q.int⟩
  | .lst u ds, hz =>
    cases hz
    obtain ⟨a, vs, F', rfl, s, t, _⟩ := h.lst_inv
    exact .inl ⟨_, _, rfl, .inl ⟨vs, SqL.of s, rfl⟩, by rw [t.length]; exact q.int⟩
  | .scr ns, hz =>
    cases hz
    cases h with
    | scr w => exact .inl ⟨_, _, rfl, .inl ⟨_, w.sq, rfl⟩, by rw [List.length_map]; exact q.int⟩
  | .dct true ks ds, hz =>
    cases hz
    obtain ⟨a, kvs, rfl, _, ek, _, _, _, g⟩ := h.dct_inv
    refine .inr ⟨a, kvs, rfl, g rfl, ?_⟩
    rw [show kvs.length = ks.length by rw [← ek, List.length_map]]
    exact q.int
@[simp] def dTuple : D → Option D
  | .tup ds => some (.tup ds)
  | .lst _ ds => some (.tup ds)
  | _ => none
theorem vop_tuple {b : Bs} : VOp b (B1 dTuple) (fun xs H Q => ∃ p ys, xs = [.ref p] ∧ ((SqL b.K H p ys ∧ ∀ l, H l = none → Q (.ref l) (upd H l (.tup ys))) ∨ (SqT b.K H p ys ∧ Q (.ref p) H))) := vop1 fun C H x d z F Q h nd hz q => by
  match d, hz with
  | .tup ds, hz =>
    cases hz
    obtain ⟨a, vs, rfl, s, t⟩ := h.tup_inv
    exact ⟨a, vs, rfl, .inr ⟨s, q.part (.tup s t) nd fun a ha => ha⟩⟩
  | .lst u ds, hz =>
    cases hz
    obtain ⟨a, vs, F', rfl, s, t, m, w⟩ := h.lstN nd
    exact ⟨a, vs, rfl, .inl ⟨SqL.of s, fun p hp => q.newt t m w hp⟩⟩
def kD : Key → D
  | .inl i => .int i
  | .inr s => .str s
theorem den_key {b : Bs} {C : Addr → Prop} {H : Hp} (k : Key) : Den b C H (kV k) (kD k) [] := by
  cases k with
  | inl i => exact .int i
  | inr s => exact .str s
theorem dens_keys {b : Bs} {C : Addr → Prop} {H : Hp} : ∀ ks : List Key, Dens b C H (ks.map kV) (ks.map kD) []
  | [] => .nil
  | k :: ks => .cons (F := []) (F' := []) (den_key k) (dens_keys ks)
@[simp] def dList : D → Option D
  | .tup ds => some (.lst true ds)
  | .lst _ ds => some (.lst true ds)
  | .dct true ks _ => some (.lst true (ks.map kD))
  | _ => none
abbrev rListA (K : PySem.W.Frag) : List V → Hp → VK → Prop := fun xs H Q => (∃ p ys, xs = [.ref p] ∧ (SqL K H p ys ∨ SqT K H p ys) ∧ ∀ l, H l = none → Q (.ref l) (upd H l (.lst ys))) ∨ rListD xs H Q
theorem call_listA {X : Cx} (hc : X.calm = true) : CallR X (.type "list") (rListA X.K) := call_list_of.or (call_list_dK hc)
theorem vop_list {b : Bs} : VOp b (B1 dList) (rListA b.K) := vop1 fun C H x d z F Q h nd hz q => by
  match d, hz with
  | .tup ds, hz =>
    cases hz
    obtain ⟨a, vs, rfl, s, t⟩ := h.tup_inv
    exact .inl ⟨a, vs, rfl, .inr s, fun p hp => q.newl t nd (fun a ha => ha) hp⟩
  | .lst u ds, hz =>
    cases hz
    obtain ⟨a, vs, F', rfl, s, t, m, w⟩ := h.lstN nd
    exact .inl ⟨a, vs, rfl, .inl (SqL.of s), fun p hp => q.newl t m w hp⟩
  | .dct true ks ds, hz =>
    cases hz
    obtain ⟨a, kvs, rfl, _, ek, _, _, _, g⟩ := h.dct_inv
    refine .inr ⟨a, kvs, rfl, g rfl, fun p hp => ?_⟩
    have e : kvs.map (fun kv => kV kv.1) = ks.map kV := by rw [← ek, List.map_map]; rfl
    rw [e]
    exact q.newl (dens_keys ks) List.nodup_nil (by simp) hp
@[simp] def dInt : D → Option D
  | .int i => some (.int i)
  | .bl k => some (.int (if k then 1 else 0))
  | _ => none
theorem vop_int {b : Bs} : VOp b (B1 dInt) (fun xs H Q => (∃ i, xs = [.int i] ∧ Q (.int i) H) ∨ ∃ k, xs = [.bl k] ∧ Q (.int (if k then 1 else 0)) H) := vop1 fun C H x d z F Q h nd hz q => by
  match d, hz with
  | .int i, hz => cases h; cases hz; exact .inl ⟨_, rfl, q.int⟩
  | .bl k, hz => cases h; cases hz; exact .inr ⟨_, rfl, q.int⟩
@[simp] def D.bls : List D → Option (List Bool)
  | [] => some []
  | .bl k :: ds => (D.bls ds).map (k :: ·)
  | _ :: _ => none
theorem d_bls {b : Bs} {C : Addr → Prop} {H : Hp} : ∀ {ds : List D} {vs : List V} {ks : List Bool} {F : List Addr}, Dens b C H vs ds F → D.bls ds = some ks → vs = ks.map V.bl
  | [], _, _, _, h, e => by cases h; cases e; rfl
  | .bl k :: ds, _, _, _, h, e => by
    cases h with
    | cons h t =>
      cases h
      obtain ⟨r, e1, rfl⟩ := Option.map_eq_some_iff.mp (show (D.bls ds).map (k :: ·) = some _ from e)
      rw [d_bls t e1]; rfl
@[simp] def dAll : D → Option D
  | .lst _ ds => (D.bls ds).map fun ks => .bl (ks.all id)
  | _ => none
@[simp] def dAny : D → Option D
  | .lst _ ds => (D.bls ds).map fun ks => .bl (ks.any id)
  | _ => none
theorem vop_all {b : Bs} : VOp b (B1 dAll) (rAll b.K) := vop1 fun C H x d z F Q h nd hz q => by
  match d, hz with
  | .lst u ds, hz =>
    obtain ⟨ks, e1, rfl⟩ := Option.map_eq_some_iff.mp (show (D.bls ds).map (fun ks => D.bl (ks.all id)) = some z from hz)
    obtain ⟨a, vs, F', rfl, s, t, _⟩ := h.lst_inv
    have e := d_bls t e1
    subst e
    exact ⟨a, ks, rfl, SqL.of s, q.bl⟩
theorem vop_any {b : Bs} : VOp b (B1 dAny) (rAny b.K) := vop1 fun C H x d z F Q h nd hz q => by
  match d, hz with
  | .lst u ds, hz =>
    obtain ⟨ks, e1, rfl⟩ := Option.map_eq_some_iff.mp (show (D.bls ds).map (fun ks => D.bl (ks.any id)) = some z from hz)
    obtain ⟨a, vs, F', rfl, s, t, _⟩ := h.lst_inv
    have e := d_bls t e1
    subst e
    exact ⟨a, ks, rfl, SqL.of s, q.bl⟩
@[simp] def dTup (ds : List D) : Option D := if ds.length ≤ sizeLine then some (.tup ds) else none
@[simp] def dLst (ds : List D) : Option D := if ds.length ≤ sizeLine then some (.lst true ds) else none
theorem vop_tup {b : Bs} : VOp b dTup (fun vs H Q => vs.length ≤ sizeLine ∧ ∀ p, H p = none → Q (.ref p) (upd H p (.tup vs))) := by
  intro C vs ds F d H Q h nd hz q
  unfold dTup at hz
  split at hz
  · cases hz
    exact ⟨by rw [h.length]; assumption, fun p hp => VQ.newt (b := b) (C := C) q h nd (fun a ha => ha) hp⟩
  · cases hz
theorem vop_lst {b : Bs} : VOp b dLst (fun vs H Q => vs.length ≤ sizeLine ∧ ∀ p, H p = none → Q (.ref p) (upd H p (.lst vs))) := by
  intro C vs ds F d H Q h nd hz q
  unfold dLst at hz
  split at hz
  · cases hz
    exact ⟨by rw [h.length]; assumption, fun p hp => VQ.newl (b := b) (C := C) q h nd (fun a ha => ha) hp⟩
  · cases hz
@[simp] def D.tyn : D → Option String
  | .non => some "NoneType"
  | .bl _ => some "bool"
  | .int _ => some "int"
  | .str _ => some "str"
  | .tup _ => some "tuple"
  | .lst _ _ => some "list"
  | .dct true _ _ => some "dict"
  | _ => none
theorem den_ty {b : Bs} {C : Addr → Prop} {H : Hp} {d : D} {v : V} {F : List Addr} {t : String} (h : Den b C H v d F) (e : d.tyn = some t) : TyX b.K H v (.type t) := by
  match d, e with
  | .non, e => cases e; cases h; exact .base .non
  | .bl k, e => cases e; cases h; exact .base (.bl _)
  | .int k, e => cases e; cases h; exact .base (.int _)
  | .str k, e => cases e; cases h; exact .base (.str _)
  | .tup ds, e =>
    cases e
    obtain ⟨a, vs, rfl, s, t⟩ := h.tup_inv
    rcases s with (s | ⟨o, s⟩) | ⟨o, its, n, k1, k2, _⟩
    · exact .base (.tup s)
    · exact .fTuple s
    · exact .kTuple k1 k2
  | .lst x ds, e =>
    cases e
    obtain ⟨a, vs, F', rfl, s, t, _⟩ := h.lst_inv
    exact .base (.lst s)
  | .dct true ks ds, e =>
    cases e
    obtain ⟨a, kvs, rfl, _, _, _, _, _, g⟩ := h.dct_inv
    exact .base (.dK (g rfl))
@[simp] def kitAnyB (t : String) : List D → Option Bool
  | [] => some false
  | .opq (.ty c) :: r => do
    let k ← kitB t c
    let j ← kitAnyB t r
    return k || j
  | _ :: _ => none
@[simp] def dIsi (x c : D) : Option D := match c with
  | .opq (.ty c) => x.tyn.bind fun t => (kitB t c).map .bl
  | _ => none
@[simp] def dIsiT : List D → Option D
  | x :: cs => if cs.length ≤ sizeLine then x.tyn.bind fun t => (kitAnyB t cs).map .bl else none
  | _ => none
def rIsiD (K : PySem.W.Frag) : List V → Hp → VK → Prop := fun vs H Q => match vs with
  | x :: cs => cs.length ≤ sizeLine ∧ ∀ p, H p = none → rIsiT K [x, .ref p] (upd H p (.tup cs)) Q
  | _ => False
theorem kitAny_run {b : Bs} {C : Addr → Prop} {H : Hp} {t : String} : ∀ {cs : List D} {vs : List V} {F : List Addr} {k : Bool}, Dens b C H vs cs F → kitAnyB t cs = some k → ∃ us, Paired ClsV vs us ∧ PySem.W.kitAny b.K (.type t) us = some k
  | [], _, _, _, h, e => by cases h; cases e; exact ⟨[], .nil, rfl⟩
  | .opq (.ty c) :: r, _, _, k, h, e => by
    cases h with
    | cons h tt =>
      cases h
      obtain ⟨j, e1, e⟩ := bind_some (show (kitB t c >>= fun k => kitAnyB t r >>= fun j => pure (k || j)) = some k from e)
      obtain ⟨i, e2, e⟩ := bind_some e
      cases e
      obtain ⟨us, p, q⟩ := kitAny_run tt e2
      refine ⟨.type c :: us, .cons (.ty c) p, kitAny_cons (kit_ty e1) (fun z => ?_) fun z => ?_⟩
      · rw [z]; exact q
      · rw [z]; rfl
theorem vop_isi {b : Bs} : VOp b (B2 dIsi) (rIsi b.K) := by
  intro C vs ds F d H Q hd nd e q
  match ds, e with
  | [x, c], e =>
    obtain ⟨v, u, F1, F2, rfl, rfl, h1, h2⟩ := dens2 hd
    match c, e with
    | .opq (.ty c), e =>
      obtain ⟨t, e1, e⟩ := Option.bind_eq_some_iff.mp (show x.tyn.bind (fun t => (kitB t c).map D.bl) = some d from e)
      obtain ⟨k, e2, rfl⟩ := Option.map_eq_some_iff.mp e
      cases h2
      exact ⟨v, .ty c, .type t, .type c, k, rfl, .ty c, den_ty h1 e1, kit_ty e2, VQ.bl (b := b) (C := C) q⟩
theorem vop_isiT {b : Bs} : VOp b dIsiT (rIsiD b.K) := by
  intro C vs ds F d H Q hd nd e q
  match ds, e with
  | x :: cs, e =>
    cases hd with
    | cons h1 h2 =>
      rename_i v0 vs0 F0 F1
      unfold dIsiT at e
      simp only at e
      split at e
      · rename_i hl
        obtain ⟨t, e1, e⟩ := Option.bind_eq_some_iff.mp e
        obtain ⟨k, e2, rfl⟩ := Option.map_eq_some_iff.mp e
        refine ⟨by rw [h2.length]; exact hl, fun p hp => ?_⟩
        obtain ⟨us, pr, g⟩ := kitAny_run h2 e2
        have h1' := h1.kp (C' := C) (Kp.of_new (M := fun _ => False) (o := .tup vs0) hp) (fun a l c => ⟨id, c⟩) fun _ _ => id
        refine ⟨_, p, _, .type t, us, k, rfl, upd_same, pr, den_ty h1' e1, g, ?_⟩
        exact q (.bl k) _ [] (Kp.of_new hp) List.nodup_nil (by simp) (.bl k)
      · cases e
end DL

set_option Elab.async false
set_option linter.all false
set_option maxRecDepth 100000
namespace DL
open PySem L2

/-- no slot of the one is in the other -/
def djb (xs ys : List Nat) : Bool := xs.all fun i => !ys.contains i
theorem djb_of {xs ys : List Nat} (h : djb xs ys = true) : ∀ i ∈ xs, i ∉ ys := fun i hi hy => by
  have q := List.all_eq_true.mp h i hi
  rw [List.contains_iff_mem.mpr hy] at q
  cases q

theorem Aft.mono {b : Bs} {B T : Addr → Prop} {g g' : G} {σ : St} {ms ms' : List Nat} {H H' : Hp} {Fs Fs' : List (List Addr)} {F : List Addr} (a : Aft b B T g g' σ ms H H' Fs Fs' F) (h : ∀ i ∈ ms, i ∈ ms') : Aft b B T g g' σ ms' H H' Fs Fs' F where
  rel := a.rel
  nd := a.nd
  out := a.out
  src := fun x hx => (a.src x hx).imp id fun ⟨i, hi, r⟩ => ⟨i, h i hi, r⟩
  kp := a.kp.mono fun x ⟨i, hi, r⟩ => ⟨i, h i hi, r⟩
  same := fun i hi => a.same i fun z => hi (h i z)
  sub := a.sub
  len := a.len
theorem Rel.weakT {b : Bs} {B T T' : Addr → Prop} {g : G} {σ : St} {H : Hp} {Fs : List (List Addr)} (h : ∀ a, T' a → T a) (r : Rel b B T g σ H Fs) : Rel b B T' g σ H Fs where
  lg := r.lg
  lf := r.lf
  at_ := fun i d e => by
    obtain ⟨v, f, h1, h2, h3⟩ := r.at_ i d e
    exact ⟨v, f, h1, h2, h3.imp fun a _ c => ⟨c.1, fun z => c.2.1 (h a z), c.2.2⟩⟩
  no := r.no
  nd := r.nd
  out := fun a ha => ⟨(r.out a ha).1, fun z => (r.out a ha).2 (h a z)⟩
  live := fun a ha => r.live a (ha.imp id (h a))
/-- the value is dropped: what was exclusive of it does not matter any more -/
theorem Aft.drop {b : Bs} {B T : Addr → Prop} {g g' : G} {σ : St} {ms : List Nat} {H H' : Hp} {Fs Fs' : List (List Addr)} {F : List Addr} (a : Aft b B T g g' σ ms H H' Fs Fs' F) : Aft b B T g g' σ ms H H' Fs Fs' [] where
  rel := a.rel.weakT fun x z => .inl (z.resolve_right List.not_mem_nil)
  nd := List.nodup_nil
  out := by simp
  src := by simp
  kp := a.kp
  same := a.same
  sub := a.sub
  len := a.len

/-- a name of a slot whose data is shared -/
@[simp] def xV (i : Nat) : Ex := fun g => match g[i]? with
  | some (some d) => if d.xf = true then some (d, g) else none
  | _ => none
/-- .. whose data is exclusive, read -/
@[simp] def xB (i : Nat) : Ex := fun g => match g[i]? with
  | some (some d) => some (d.sh, g)
  | _ => none
/-- .. handed on -/
@[simp] def xM (i : Nat) : Ex := fun g => match g[i]? with
  | some (some d) => if d.xf = true then none else some (d, g.set i none)
  | _ => none
section
variable {b : Bs}
theorem te_v (i : Nat) : TEd b (tVar i) ⟨true, []⟩ [] (xV i) := by
  intro B T g σ H Fs d g' Q r e q
  unfold xV at e
  split at e
  · rename_i d' hd
    split at e
    · rename_i hx
      cases e
      obtain ⟨v, f, h1, h2, h3⟩ := r.at_ i d hd
      refine ⟨v, h1, q v H Fs [] r.aft ?_⟩
      rw [h3.xf hx, hx] at h3
      exact h3.imp fun a _ c => ⟨c.1, fun z => z.elim c.2.1 List.not_mem_nil, c.2.2⟩
    · cases e
  · cases e
theorem te_b (i : Nat) : TEd b (tVar i) ⟨true, [i]⟩ [] (xB i) := by
  intro B T g σ H Fs d g' Q r e q
  unfold xB at e
  split at e
  · rename_i d' hd
    cases e
    obtain ⟨v, f, h1, h2, h3⟩ := r.at_ i d' hd
    refine ⟨v, h1, q v H Fs [] r.aft ((h3.imp (C' := Cl B (fun a => T a ∨ a ∈ ([] : List Addr)) Fs ⟨true, [i]⟩) fun a _ c => ⟨fun _ => rfl, fun z => z.elim c.2.1 List.not_mem_nil, fun j f hj ha => absurd (c.2.2 j f hj ha) List.not_mem_nil⟩).sh fun a ha => ⟨fun _ => rfl, fun z => z.elim (r.out a (fs_mem h2 ha)).2 List.not_mem_nil, fun j f' hj ha' => ?_⟩)⟩
    by_cases ej : j = i
    · rw [ej]; exact List.mem_cons_self
    · exact absurd ha (fs_disj r.nd hj h2 ej a ha')
  · cases e
theorem te_m (i : Nat) : TEd b (tVar i) ⟨false, []⟩ [i] (xM i) := by
  intro B T g σ H Fs d g' Q r e q
  unfold xM at e
  split at e
  · rename_i d' hd
    split at e
    · cases e
    · rename_i hx
      cases e
      have hx' : d.xf = false := by simpa using hx
      obtain ⟨v, f, h1, h2, h3⟩ := r.at_ i d hd
      rw [hx'] at h3
      have li : i < g.length := (List.getElem?_eq_some_iff.mp hd).1
      have lF : i < Fs.length := by rw [r.lf]; exact li
      have dis : ∀ j f', j ≠ i → Fs[j]? = some f' → ∀ a ∈ f, a ∉ f' := fun j f' n hj a ha ha' => fs_disj r.nd h2 hj (Ne.symm n) a ha ha'
      have at' : ∀ j f', (Fs.set i [])[j]? = some f' → f' ≠ [] → j ≠ i ∧ Fs[j]? = some f' := fun j f' hj n => by
        by_cases e : i = j
        · subst e
          rw [List.getElem?_set_self lF] at hj
          exact absurd (Option.some.inj hj).symm n
        · rw [List.getElem?_set_ne e] at hj
          exact ⟨Ne.symm e, hj⟩
      have mem' : ∀ j f' a, (Fs.set i [])[j]? = some f' → a ∈ f' → j ≠ i ∧ Fs[j]? = some f' := fun j f' a hj ha => at' j f' hj (fun z => by rw [z] at ha; exact List.not_mem_nil ha)
      refine ⟨v, h1, q v H (Fs.set i []) f ⟨⟨by rw [List.length_set]; exact r.lg, by rw [List.length_set, List.length_set]; exact r.lf, fun j dj hj => ?_, fun j hj => ?_, fs_set r.nd List.nodup_nil (by simp), fun a ha => ?_, fun a ha => ?_⟩, fs_one r.nd h2, fun a ha => r.out a (fs_mem h2 ha), fun a ha => .inr ⟨i, List.mem_cons_self, f, h2, ha⟩, Kp.refl, fun j hj => ?_, fun j f1 f2 e1 e2 a ha => ?_, by rw [List.length_set]⟩ (h3.imp fun a _ c => ⟨c.1, fun z => z.elim c.2.1 fun z => List.not_mem_nil (c.2.2 i f h2 z), fun j f' hj ha => ?_⟩)⟩
      · have n : i ≠ j := fun z => by
          subst z
          rw [List.getElem?_set_self li] at hj
          cases hj
        rw [List.getElem?_set_ne n] at hj
        obtain ⟨v2, f2, g1, g2, g3⟩ := r.at_ j dj hj
        refine ⟨v2, f2, g1, by rw [List.getElem?_set_ne n]; exact g2, g3.imp fun a _ c => ⟨c.1, fun z => z.elim c.2.1 fun z => List.not_mem_nil (c.2.2 i f h2 z), fun k f' hk ha => c.2.2 k f' (mem' k f' a hk ha).2 ha⟩⟩
      · by_cases n : i = j
        · subst n; exact List.getElem?_set_self lF
        · rw [List.getElem?_set_ne n] at hj ⊢
          exact r.no j hj
      · obtain ⟨j, f', hj, ha'⟩ := fs_of ha
        obtain ⟨n, hj'⟩ := mem' j f' a hj ha'
        refine ⟨(r.out a (fs_mem hj' ha')).1, fun z => z.elim (r.out a (fs_mem hj' ha')).2 fun z => dis j f' n hj' a z ha'⟩
      · rcases ha with ha | ha | ha
        · exact r.live a (.inl ha)
        · exact r.live a (.inr ha)
        · exact h3.live a ha
      · have n : ¬ i = j := fun z => hj (z ▸ List.mem_cons_self)
        rw [List.getElem?_set_ne n, List.getElem?_set_ne n]
        exact ⟨rfl, rfl⟩
      · obtain ⟨n, hj'⟩ := mem' j f2 a e2 ha
        rw [e1] at hj'; cases hj'
        exact .inl ha
      · exact c.2.2 j f' (mem' j f' a hj ha).2 ha
  · cases e
@[simp] def xC (d : D) : Ex := fun g => some (d, g)
theorem te_c {v : V} {d : D} (h : ∀ C H, Den b C H v d []) : TEd b (tC v) ⟨false, []⟩ [] (xC d) := by
  intro B T g σ H Fs d' g' Q r e q
  cases e
  exact q v H Fs [] r.aft (h _ _)
/-- shared from now on -/
@[simp] def xSh (f : Ex) : Ex := fun g => (f g).map fun p => (p.1.sh, p.2)
theorem te_sh {t : TE} {l : Lv} {ms : List Nat} {f : Ex} (h : TEd b t l ms f) : TEd b t l ms (xSh f) := by
  intro B T g σ H Fs d g' Q r e q
  obtain ⟨⟨d0, g0⟩, e1, e2⟩ := Option.map_eq_some_iff.mp e
  cases e2
  refine h B T g σ H Fs d0 g0 Q r e1 fun v H' Fs' F A Dn => q v H' Fs' [] A.drop ?_
  refine (Dn.imp (C' := Cl B (fun a => T a ∨ a ∈ ([] : List Addr)) Fs' l) fun a _ c => ⟨c.1, fun z => c.2.1 (.inl (z.resolve_right List.not_mem_nil)), c.2.2⟩).sh fun a ha => ⟨fun z => absurd z (A.out a ha).1, fun z => z.elim (A.out a ha).2 List.not_mem_nil, fun i f hi hf => absurd (Or.inr ha) (A.rel.out a (fs_mem hi hf)).2⟩
/-- a value without shared lists leans on nothing -/
@[simp] def xNos (f : Ex) : Ex := fun g => match f g with
  | some (d, g') => if d.nos = true then some (d, g') else none
  | none => none
theorem te_nos {t : TE} {l : Lv} {ms : List Nat} {f : Ex} (h : TEd b t l ms f) : TEd b t ⟨false, []⟩ ms (xNos f) := by
  intro B T g σ H Fs d g' Q r e q
  unfold xNos at e
  split at e
  · rename_i d0 g0 e1
    split at e
    · rename_i hn
      cases e
      exact h B T g σ H Fs d g' Q r e1 fun v H' Fs' F A Dn => q v H' Fs' F A (Dn.nos hn)
    · cases e
  · cases e
end

@[simp] def xT (f : Ex) : Tx := fun g => match f g with
  | some (.bl c, g') => some (c, g')
  | _ => none
section
variable {b : Bs}
theorem tt_val {t : TE} {l : Lv} {ms : List Nat} {f : Ex} (h : TEd b t l ms f) : TTd b (fun σ H Q => t σ H fun x H1 => ∃ c, x = .bl c ∧ Q c H1) ms (xT f) := by
  intro B T g σ H Fs c g' Q r e q
  unfold xT at e
  split at e
  · rename_i c0 g0 e1
    cases e
    refine h B T g σ H Fs _ _ _ r e1 fun v H' Fs' F A Dn => ?_
    cases Dn
    exact ⟨c, rfl, q H' Fs' A⟩
  · cases e
@[simp] def xNot (f : Tx) : Tx := fun g => (f g).map fun p => (!p.1, p.2)
theorem tt_not {t : TT} {ms : List Nat} {f : Tx} (h : TTd b t ms f) : TTd b (tNot t) ms (xNot f) := by
  intro B T g σ H Fs c g' Q r e q
  obtain ⟨⟨c0, g0⟩, e1, e2⟩ := Option.map_eq_some_iff.mp e
  cases e2
  exact h B T g σ H Fs c0 g0 _ r e1 q
@[simp] def xAnd (f1 f2 : Tx) : Tx := fun g => match f1 g with
  | some (true, g1) => f2 g1
  | some (false, g1) => some (false, g1)
  | none => none
@[simp] def xOr (f1 f2 : Tx) : Tx := fun g => match f1 g with
  | some (false, g1) => f2 g1
  | some (true, g1) => some (true, g1)
  | none => none
theorem Aft.nil2 {B T : Addr → Prop} {g g1 g2 : G} {σ : St} {m1 m2 : List Nat} {H H1 H2 : Hp} {Fs Fs1 Fs2 : List (List Addr)} {F2 : List Addr}
    (a : Aft b B T g g1 σ m1 H H1 Fs Fs1 []) (c : Aft b B (fun x => T x ∨ x ∈ ([] : List Addr)) g1 g2 σ m2 H1 H2 Fs1 Fs2 F2) (r0 : Rel b B T g σ H Fs) : Aft b B T g g2 σ (m1 ++ m2) H H2 Fs Fs2 F2 := a.trans c r0
theorem tt_and {t1 t2 : TT} {m1 m2 : List Nat} {f1 f2 : Tx} (h1 : TTd b t1 m1 f1) (h2 : TTd b t2 m2 f2) : TTd b (tAnd t1 t2) (m1 ++ m2) (xAnd f1 f2) := by
  intro B T g σ H Fs c g' Q r e q
  unfold xAnd at e
  split at e
  · rename_i g1 e1
    refine h1 B T g σ H Fs _ _ _ r e1 fun H1 Fs1 A => ?_
    rw [if_pos rfl]
    exact h2 B _ g1 σ H1 Fs1 c g' Q A.rel e fun H2 Fs2 A2 => q H2 Fs2 (A.nil2 A2 r)
  · rename_i g1 e1
    cases e
    refine h1 B T g σ H Fs _ _ _ r e1 fun H1 Fs1 A => ?_
    rw [if_neg  Bool.false_ne_true]
    exact q H1 Fs1 (A.mono fun i hi => List.mem_append_left _ hi)
  · cases e
theorem tt_or {t1 t2 : TT} {m1 m2 : List Nat} {f1 f2 : Tx} (h1 : TTd b t1 m1 f1) (h2 : TTd b t2 m2 f2) : TTd b (tOr t1 t2) (m1 ++ m2) (xOr f1 f2) := by
  intro B T g σ H Fs c g' Q r e q
  unfold xOr at e
  split at e
  · rename_i g1 e1
    refine h1 B T g σ H Fs _ _ _ r e1 fun H1 Fs1 A => ?_
    rw [if_neg  Bool.false_ne_true]
    exact h2 B _ g1 σ H1 Fs1 c g' Q A.rel e fun H2 Fs2 A2 => q H2 Fs2 (A.nil2 A2 r)
  · rename_i g1 e1
    cases e
    refine h1 B T g σ H Fs _ _ _ r e1 fun H1 Fs1 A => ?_
    rw [if_pos rfl]
    exact q H1 Fs1 (A.mono fun i hi => List.mem_append_left _ hi)
  · cases e
@[simp] def xIf (c : Tx) (f1 f2 : Ex) : Ex := fun g => match c g with
  | some (true, g1) => f1 g1
  | some (false, g1) => f2 g1
  | none => none
theorem Cl.or1' {B T : Addr → Prop} {Fs : List (List Addr)} {l1 l2 : Lv} {a : Addr} (h : Cl B T Fs l1 a) : Cl B T Fs (l1.or l2) a := h.or1
theorem te_if {tc : TT} {t1 t2 : TE} {mc m1 m2 : List Nat} {l1 l2 : Lv} {c : Tx} {f1 f2 : Ex} (hc : TTd b tc mc c) (h1 : TEd b t1 l1 m1 f1) (h2 : TEd b t2 l2 m2 f2) : TEd b (tIf tc t1 t2) (l1.or l2) (mc ++ (m1 ++ m2)) (xIf c f1 f2) := by
  intro B T g σ H Fs d g' Q r e q
  unfold xIf at e
  split at e
  · rename_i g1 e1
    refine hc B T g σ H Fs _ _ _ r e1 fun H1 Fs1 A => ?_
    rw [if_pos rfl]
    refine h1 B _ g1 σ H1 Fs1 d g' Q A.rel e fun v H2 Fs2 F A2 Dn => q v H2 Fs2 F ((A.nil2 A2 r).mono fun i hi => ?_) (Dn.imp fun a _ c => ?_)
    · rcases List.mem_append.mp hi with z | z
      · exact List.mem_append_left _  z
      · exact List.mem_append_right _ (List.mem_append_left _ z)
    · have c' : Cl B (fun a => T a ∨ a ∈ F) Fs2 l1 a := ⟨c.1, fun z => c.2.1 (z.elim (fun z => .inl (.inl z)) .inr), c.2.2⟩
      exact c'.or1
  · rename_i g1 e1
    refine hc B T g σ H Fs _ _ _ r e1 fun H1 Fs1 A => ?_
    rw [if_neg  Bool.false_ne_true]
    refine h2 B _ g1 σ H1 Fs1 d g' Q A.rel e fun v H2 Fs2 F A2 Dn => q v H2 Fs2 F ((A.nil2 A2 r).mono fun i hi => ?_) (Dn.imp fun a _ c => ?_)
    · rcases List.mem_append.mp hi with z | z
      · exact List.mem_append_left _  z
      · exact List.mem_append_right _ (List.mem_append_right _ z)
    · have c' : Cl B (fun a => T a ∨ a ∈ F) Fs2 l2 a := ⟨c.1, fun z => c.2.1 (z.elim (fun z => .inl (.inl z)) .inr), c.2.2⟩
      exact c'.or2
  · cases e
/-- and, or as values: all but the last True or False -/
@[simp] def xAndV (f1 f2 : Ex) : Ex := fun g => match f1 g with
  | some (.bl true, g1) => f2 g1
  | some (.bl false, g1) => some (.bl false, g1)
  | _ => none
@[simp] def xOrV (f1 f2 : Ex) : Ex := fun g => match f1 g with
  | some (.bl false, g1) => f2 g1
  | some (.bl true, g1) => some (.bl true, g1)
  | _ => none
theorem te_andV {t1 t2 : TE} {m1 m2 : List Nat} {l1 l2 : Lv} {f1 f2 : Ex} (h1 : TEd b t1 l1 m1 f1) (h2 : TEd b t2 l2 m2 f2) : TEd b (tAndV t1 t2) l2 (m1 ++ m2) (xAndV f1 f2) := by
  intro B T g σ H Fs d g' Q r e q
  unfold xAndV at e
  split at e
  · rename_i g1 e1
    refine h1 B T g σ H Fs _ _ _ r e1 fun v H1 Fs1 F A Dn => ?_
    cases Dn
    refine ⟨true, rfl, ?_⟩
    rw [if_pos rfl]
    refine h2 B _ g1 σ H1 Fs1 d g' Q A.rel e fun v H2 Fs2 F A2 Dn => q v H2 Fs2 F (A.nil2 A2 r) (Dn.imp fun a _ c => ⟨c.1, fun z => c.2.1 (z.elim (fun z => .inl (.inl z)) .inr), c.2.2⟩)
  · rename_i g1 e1
    cases e
    refine h1 B T g σ H Fs _ _ _ r e1 fun v H1 Fs1 F A Dn => ?_
    cases Dn
    refine ⟨false, rfl, ?_⟩
    rw [if_neg  Bool.false_ne_true]
    exact q _ H1 Fs1 [] (A.mono fun i hi => List.mem_append_left _ hi) (.bl false)
  · cases e
theorem te_orV {t1 t2 : TE} {m1 m2 : List Nat} {l1 l2 : Lv} {f1 f2 : Ex} (h1 : TEd b t1 l1 m1 f1) (h2 : TEd b t2 l2 m2 f2) : TEd b (tOrV t1 t2) l2 (m1 ++ m2) (xOrV f1 f2) := by
  intro B T g σ H Fs d g' Q r e q
  unfold xOrV at e
  split at e
  · rename_i g1 e1
    refine h1 B T g σ H Fs _ _ _ r e1 fun v H1 Fs1 F A Dn => ?_
    cases Dn
    refine ⟨false, rfl, ?_⟩
    rw [if_neg  Bool.false_ne_true]
    refine h2 B _ g1 σ H1 Fs1 d g' Q A.rel e fun v H2 Fs2 F A2 Dn => q v H2 Fs2 F (A.nil2 A2 r) (Dn.imp fun a _ c => ⟨c.1, fun z => c.2.1 (z.elim (fun z => .inl (.inl z)) .inr), c.2.2⟩)
  · rename_i g1 e1
    cases e
    refine h1 B T g σ H Fs _ _ _ r e1 fun v H1 Fs1 F A Dn => ?_
    cases Dn
    refine ⟨true, rfl, ?_⟩
    rw [if_pos rfl]
    exact q _ H1 Fs1 [] (A.mono fun i hi => List.mem_append_left _ hi) (.bl true)
  · cases e
@[simp] def xNotV (f : Ex) : Ex := fun g => match f g with
  | some (.bl c, g1) => some (.bl (!c), g1)
  | _ => none
theorem te_notV {t : TE} {m : List Nat} {l : Lv} {f : Ex} (h : TEd b t l m f) : TEd b (tNotV t) ⟨false, []⟩ m (xNotV f) := by
  intro B T g σ H Fs d g' Q r e q
  unfold xNotV at e
  split at e
  · rename_i c g1 e1
    cases e
    refine h B T g σ H Fs _ _ _ r e1 fun v H1 Fs1 F A Dn => ?_
    cases Dn
    exact ⟨c, rfl, q _ H1 Fs1 [] A (.bl _)⟩
  · cases e
end
end DL

set_option Elab.async false
set_option linter.all false
set_option maxRecDepth 100000
namespace DL
open PySem L2

/-- contexts that are alike: one def's body, or one block's -/
structure Fam where
  P : Program
  w : World
  K : PySem.W.Frag
  mg : Str → Option Value
  base : Heap
  N : List Str
  sc : Scope
  k : Nat
  mem : Cx → Prop
  pr : ∀ X, mem X → X.prog = P
  ww : ∀ X, mem X → X.w = w
  kk : ∀ X, mem X → X.K = K
  mm : ∀ X, mem X → X.mg = mg
  bb : ∀ X, mem X → X.base = base
  nn : ∀ X, mem X → X.N = N
  ss : ∀ X, mem X → X.env.scope = sc
  rr : ∀ X, mem X → Room k X.A
  cc : ∀ X, mem X → X.calm = true
  po : ∀ X, mem X → PassesOwn (model X.prog X.w) X.A X.env X.xe
  nd : N.Nodup
abbrev Fam.b (φ : Fam) : Bs := ⟨φ.P, φ.w, φ.K⟩
theorem Fam.hu {φ : Fam} {X : Cx} (h : φ.mem X) : X.A.units + 64 < cLine := (φ.rr X h).units

def PEd (φ : Fam) (e : Expr) (l : Lv) (ms : List Nat) (f : Ex) : Prop := ∃ t, (∀ X, φ.mem X → PE X e t) ∧ TEd φ.b t l ms f
def PAd (φ : Fam) (es : List Expr) (l : Lv) (ms : List Nat) (f : Exs) : Prop := ∃ t, (∀ X, φ.mem X → PA X es t) ∧ TAd φ.b t l ms f
def PTd (φ : Fam) (e : Expr) (ms : List Nat) (f : Tx) : Prop := ∃ t, (∀ X, φ.mem X → PT X e t) ∧ TTd φ.b t ms f
def PWd (φ : Fam) (e : Expr) (ms : List Nat) (f : Tx) : Prop := ∃ t, (∀ X, φ.mem X → PW X e t) ∧ TTd φ.b t ms f

/-- a text that is no odd name -/
structure Pn (x : Str) : Prop where
  d : (x == ("__debug__" : Str)) = false
  c : (x == ("__classdict__" : Str)) = false
  n : x ≠ "__name__"
/-- a name that is read -/
structure Nm (φ : Fam) (i : Nat) (x : Str) : Prop where
  n : φ.N[i]? = some x
  v : Vis φ.sc x
  p : Pn x
/-- a name of the module -/
structure Gn (φ : Fam) (x : Str) : Prop where
  g : φ.sc.names.lookup x = some .globalImplicit
  p : Pn x
/-- data of the module -/
structure GlD (b : Bs) (mg : Str → Option Value) (x : Str) (d : D) : Prop where
  ex : ∃ u v, mg x = some u ∧ RelV v u ∧ ∀ C H, Den b C H v d []
/-- a built-in thing, whose name the module has not -/
structure Bi (mg : Str → Option Value) (x : Str) (u : Value) : Prop where
  m : mg x = none
  v : bootBuiltins x = some u

section
variable {φ : Fam} {pos : Pos}
theorem Nm.X {i : Nat} {x : Str} (h : Nm φ i x) (X : Cx) (hX : φ.mem X) : PE X (.Name x pos) (tVar i) := pe_var (by rw [φ.nn X hX]; exact h.n) (by rw [φ.ss X hX]; exact h.v) h.p.d h.p.c
theorem Gn.X {x : Str} (h : Gn φ x) (X : Cx) (hX : φ.mem X) : Gl X x := by
  show X.env.scope.names.lookup x = _
  rw [φ.ss X hX]; exact h.g
theorem ped_v {i : Nat} {x : Str} (h : Nm φ i x) : PEd φ (.Name x pos) ⟨true, []⟩ [] (xV i) := ⟨_, h.X, te_v i⟩
theorem ped_b {i : Nat} {x : Str} (h : Nm φ i x) : PEd φ (.Name x pos) ⟨true, [i]⟩ [] (xB i) := ⟨_, h.X, te_b i⟩
theorem ped_m {i : Nat} {x : Str} (h : Nm φ i x) : PEd φ (.Name x pos) ⟨false, []⟩ [i] (xM i) := ⟨_, h.X, te_m i⟩
theorem ped_glob {x : Str} {d : D} (hg : Gn φ x) (h : GlD φ.b φ.mg x d) : PEd φ (.Name x pos) ⟨false, []⟩ [] (xC d) := by
  obtain ⟨u, v, h1, h2, h3⟩ := h.ex
  exact ⟨_, fun X hX => pe_glob (hg.X X hX) (by rw [φ.mm X hX]; exact h1) h2 hg.p.d, te_c h3⟩
theorem ped_type {x : Str} {T : String} (hg : Gn φ x) (h : Bi φ.mg x (.type T)) : PEd φ (.Name x pos) ⟨false, []⟩ [] (xC (.opq (.ty T))) :=
  ⟨_, fun X hX => pe_bltn (v := .ty T) (hg.X X hX) (by rw [φ.mm X hX]; exact h.m) h.v rfl hg.p.n hg.p.d, te_c fun _ _ => .opq _⟩
theorem ped_int {i : Int} {j} : PEd φ (.Constant (.int i) j pos) ⟨false, []⟩ [] (xC (.int i)) := ⟨_, fun _ _ => pe_int, te_c fun _ _ => .int i⟩
theorem ped_bl {k : Bool} {j} : PEd φ (.Constant (.bool k) j pos) ⟨false, []⟩ [] (xC (.bl k)) := ⟨_, fun _ _ => pe_bl, te_c fun _ _ => .bl k⟩
theorem ped_str {k : Str} {j} : PEd φ (.Constant (.str k) j pos) ⟨false, []⟩ [] (xC (.str k)) := ⟨_, fun _ _ => pe_str, te_c fun _ _ => .str k⟩
theorem ped_non {j} : PEd φ (.Constant .none j pos) ⟨false, []⟩ [] (xC .non) := ⟨_, fun _ _ => pe_non, te_c fun _ _ => .non⟩
theorem PEd.sh {e : Expr} {l : Lv} {ms : List Nat} {f : Ex} (h : PEd φ e l ms f) : PEd φ e l ms (xSh f) := let ⟨t, h1, h2⟩ := h; ⟨t, h1, te_sh h2⟩
theorem PEd.nos {e : Expr} {l : Lv} {ms : List Nat} {f : Ex} (h : PEd φ e l ms f) : PEd φ e ⟨false, []⟩ ms (xNos f) := let ⟨t, h1, h2⟩ := h; ⟨t, h1, te_nos h2⟩
/-- never asked -/
theorem ped_never {e : Expr} : PEd φ e ⟨false, []⟩ [] (fun _ => none) := ⟨fun _ _ _ => False, fun _ _ => ⟨fun _ _ _ _ _ _ h => h.elim⟩, fun _ _ _ _ _ _ _ _ _ _ e _ => by cases e⟩

theorem pad_nil : PAd φ [] ⟨false, []⟩ [] xNil := ⟨_, fun _ _ => pa_nil, ta_nil⟩
theorem pad_cons {e : Expr} {es : List Expr} {l1 l2 : Lv} {m1 m2 : List Nat} {f1 : Ex} {f2 : Exs} (h : PEd φ e l1 m1 f1) (hr : PAd φ es l2 m2 f2) (hs : ∀ env, starEach (e :: es) env = (false, eval e env) :: starEach es env) (hd : djb l1.bs m2 = true) :
    PAd φ (e :: es) (l1.or l2) (m1 ++ m2) (xCons f1 f2) := let ⟨_, h1, h2⟩ := h; let ⟨_, g1, g2⟩ := hr; ⟨_, fun X hX => pa_cons (h1 X hX) (g1 X hX) (hs X.env), ta_cons h2 g2 (djb_of hd)⟩

/-- two operands -/
abbrev x2 (op : D → D → Option D) (f1 f2 : Ex) : Ex := xOp (B2 op) (xCons f1 (xCons f2 xNil))
abbrev x1 (op : D → Option D) (f : Ex) : Ex := xOp (B1 op) (xCons f xNil)
abbrev Lv.two (l1 l2 : Lv) : Lv := l1.or (l2.or ⟨false, []⟩)
abbrev ms2 (m1 m2 : List Nat) : List Nat := m1 ++ (m2 ++ [])
theorem te_two {b : Bs} {ta tb : TE} {l1 l2 : Lv} {m1 m2 : List Nat} {f1 f2 : Ex} {op : D → D → Option D} {r : R2} (h1 : TEd b ta l1 m1 f1) (h2 : TEd b tb l2 m2 f2) (o : VOp b (B2 op) (r2L r)) (hd : djb l1.bs m2 = true) : TEd b (tOp r ta tb) (l1.two l2) (ms2 m1 m2) (x2 op f1 f2) :=
  te_op (ta_cons h1 (ta_cons h2 ta_nil fun _ _ => List.not_mem_nil) fun i hi hm => djb_of hd i hi (by simpa using hm)) o
theorem te_one {b : Bs} {ta : TE} {l : Lv} {m : List Nat} {f : Ex} {op : D → Option D} {r : List V → Hp → VK → Prop} (h : TEd b ta l m f) (o : VOp b (B1 op) r) : TEd b (tCB r (tCons ta tNil)) (l.or ⟨false, []⟩) (m ++ []) (x1 op f) :=
  te_op (ta_cons h ta_nil fun _ _ => List.not_mem_nil) o

/-- an operator's rule: what it means -/
structure OpD (φ : Fam) (op : Operator) (o : D → D → Option D) : Prop where
  ex : ∃ r, (∀ X, φ.mem X → OpR X (binaryOp op) r) ∧ VOp φ.b (B2 o) (r2L r)
structure CmpD (φ : Fam) (op : CmpOp) (o : D → D → Option D) : Prop where
  ex : ∃ r, (∀ X, φ.mem X → OpR X (compareOp op) r) ∧ VOp φ.b (B2 o) (r2L r)
theorem od_add : OpD φ .Add dAdd := ⟨_, fun X hX => by rw [show φ.b.K = X.K from (φ.kk X hX).symm]; exact op_addD, vop_add⟩
theorem od_sub : OpD φ .Sub dSub := ⟨_, fun _ _ => op_sub, vop_sub⟩
theorem od_mul : OpD φ .Mult dMul := ⟨_, fun _ _ => op_mul, vop_mul⟩
theorem od_fdiv : OpD φ .FloorDiv dFdiv := ⟨_, fun _ _ => op_fdiv, vop_fdiv⟩
theorem od_mod : OpD φ .Mod dMod := ⟨_, fun _ _ => op_mod, vop_mod⟩
theorem od_pow : OpD φ .Pow dPow := ⟨_, fun _ _ => op_pow, vop_pow⟩
theorem cd_lt : CmpD φ .Lt dLt := ⟨_, fun _ _ => op_lt, vop_cmp _⟩
theorem cd_le : CmpD φ .LtE dLe := ⟨_, fun _ _ => op_le, vop_cmp _⟩
theorem cd_gt : CmpD φ .Gt dGt := ⟨_, fun _ _ => op_gt, vop_cmp _⟩
theorem cd_ge : CmpD φ .GtE dGe := ⟨_, fun _ _ => op_ge, vop_cmp _⟩
theorem cd_eq : CmpD φ .Eq dEq := ⟨_, fun X hX => by rw [show φ.b.K = X.K from (φ.kk X hX).symm]; exact op_eqD (φ.hu hX), vop_eq⟩
theorem cd_ne : CmpD φ .NotEq dNe := ⟨_, fun X hX => by rw [show φ.b.K = X.K from (φ.kk X hX).symm]; exact op_neD (φ.hu hX), vop_ne⟩
theorem cd_in : CmpD φ .In dIn := ⟨_, fun X hX => by rw [show φ.b.K = X.K from (φ.kk X hX).symm]; exact op_inD' (by have := φ.hu hX; omega), vop_in⟩
theorem cd_notIn : CmpD φ .NotIn dNotIn := ⟨_, fun X hX => by rw [show φ.b.K = X.K from (φ.kk X hX).symm]; exact op_notInD' (by have := φ.hu hX; omega), vop_notIn⟩
/-- is None -/
@[simp] def dIsNB : D → Option Bool
  | .opq _ => none
  | .non => some true
  | _ => some false
theorem den_non {b : Bs} {C : Addr → Prop} {H : Hp} {d : D} {v : V} {F : List Addr} {k : Bool} (h : Den b C H v d F) (e : dIsNB d = some k) : decide (v = .non) = k := by
  cases h <;> simp only [dIsNB, Option.some.injEq, reduceCtorEq] at e <;> subst e <;> simp
@[simp] def dIs (neg : Bool) (x y : D) : Option D := match y with
  | .non => (dIsNB x).map fun k => .bl (if neg then !k else k)
  | _ => none
theorem vop_isN {b : Bs} : VOp b (B2 (dIs false)) (r2L fun x y H Q => y = .non ∧ Q (.bl (decide (x = .non))) H) := vop2 fun C H x y d e z F1 F2 Q h1 h2 nd hz q => by
  match e, hz with
  | .non, hz =>
    obtain ⟨k, e1, rfl⟩ := Option.map_eq_some_iff.mp (show (dIsNB d).map (fun k => D.bl (if false then !k else k)) = some z from hz)
    cases h2
    refine ⟨rfl, ?_⟩
    rw [den_non h1 e1]
    exact q.bl
theorem vop_notN {b : Bs} : VOp b (B2 (dIs true)) (r2L fun x y H Q => y = .non ∧ Q (.bl (!decide (x = .non))) H) := vop2 fun C H x y d e z F1 F2 Q h1 h2 nd hz q => by
  match e, hz with
  | .non, hz =>
    obtain ⟨k, e1, rfl⟩ := Option.map_eq_some_iff.mp (show (dIsNB d).map (fun k => D.bl (if true then !k else k)) = some z from hz)
    cases h2
    refine ⟨rfl, ?_⟩
    rw [den_non h1 e1]
    exact q.bl
theorem cd_is : CmpD φ .Is (dIs false) := ⟨_, fun _ _ => op_isN, vop_isN⟩
theorem cd_isnot : CmpD φ .IsNot (dIs true) := ⟨_, fun _ _ => op_notN, vop_notN⟩
section
variable {a c : Expr} {rest : List Expr} {l l1 l2 : Lv} {ms m1 m2 : List Nat} {f f1 f2 : Ex} {t1 t2 : Tx}
theorem ped_op {op : Operator} {o : D → D → Option D} (k : OpD φ op o) (h1 : PEd φ a l1 m1 f1) (h2 : PEd φ c l2 m2 f2) (hd : djb l1.bs m2 = true) : PEd φ (.BinOp a op c pos) (l1.two l2) (ms2 m1 m2) (x2 o f1 f2) :=
  let ⟨_, ho, v⟩ := k.ex; let ⟨_, p1, t1⟩ := h1; let ⟨_, p2, t2⟩ := h2; ⟨_, fun X hX => pe_op (ho X hX) (p1 X hX) (p2 X hX), te_two t1 t2 v hd⟩
theorem ped_cd {op : CmpOp} {o : D → D → Option D} (k : CmpD φ op o) (h1 : PEd φ a l1 m1 f1) (h2 : PEd φ c l2 m2 f2) (hd : djb l1.bs m2 = true) (hm : behindInMarks op c = false) : PEd φ (.Compare a [op] [c] pos) (l1.two l2) (ms2 m1 m2) (x2 o f1 f2) :=
  let ⟨_, ho, v⟩ := k.ex; let ⟨_, p1, t1⟩ := h1; let ⟨_, p2, t2⟩ := h2; ⟨_, fun X hX => pe_cmpR (ho X hX) (p1 X hX) (p2 X hX) hm, te_two t1 t2 v hd⟩
theorem ptd_cd {op : CmpOp} {o : D → D → Option D} (k : CmpD φ op o) (h1 : PEd φ a l1 m1 f1) (h2 : PEd φ c l2 m2 f2) (hd : djb l1.bs m2 = true) (hm : behindInMarks op c = false) : PTd φ (.Compare a [op] [c] pos) (ms2 m1 m2) (xT (x2 o f1 f2)) :=
  let ⟨_, ho, v⟩ := k.ex; let ⟨_, p1, t1⟩ := h1; let ⟨_, p2, t2⟩ := h2; ⟨_, fun X hX => pt_cmpR (ho X hX) (p1 X hX) (p2 X hX) hm, tt_val (te_two t1 t2 v hd)⟩
theorem ptd_val (h : PEd φ a l ms f) (he : ∀ env whole, isTrue a env whole = (do let v ← whole; standAt a.pos; holding [v] (truthy v))) : PTd φ a ms (xT f) := let ⟨_, p, t⟩ := h; ⟨_, fun X hX => pt_val (p X hX) (he X.env), tt_val t⟩
theorem ptd_not (h : PTd φ a ms t1) : PTd φ (.UnaryOp .Not a pos) ms (xNot t1) := let ⟨_, p, t⟩ := h; ⟨_, fun X hX => pt_not (p X hX), tt_not t⟩
theorem pwd_and1 (h : PTd φ a ms t1) : PWd φ (.BoolOp .And [a] pos) ms t1 := let ⟨_, p, t⟩ := h; ⟨_, fun X hX => pw_and1 (p X hX), t⟩
theorem pwd_or1 (h : PTd φ a ms t1) : PWd φ (.BoolOp .Or [a] pos) ms t1 := let ⟨_, p, t⟩ := h; ⟨_, fun X hX => pw_or1 (p X hX), t⟩
theorem pwd_and (h : PTd φ a m1 t1) (hr : PWd φ (.BoolOp .And (c :: rest) pos) m2 t2) : PWd φ (.BoolOp .And (a :: c :: rest) pos) (m1 ++ m2) (xAnd t1 t2) := let ⟨_, p, t⟩ := h; let ⟨_, p2, t2⟩ := hr; ⟨_, fun X hX => pw_and (p X hX) (p2 X hX), tt_and t t2⟩
theorem pwd_or (h : PTd φ a m1 t1) (hr : PWd φ (.BoolOp .Or (c :: rest) pos) m2 t2) : PWd φ (.BoolOp .Or (a :: c :: rest) pos) (m1 ++ m2) (xOr t1 t2) := let ⟨_, p, t⟩ := h; let ⟨_, p2, t2⟩ := hr; ⟨_, fun X hX => pw_or (p X hX) (p2 X hX), tt_or t t2⟩
theorem PWd.pt (h : PWd φ a ms t1) : PTd φ a ms t1 := let ⟨_, p, t⟩ := h; ⟨_, fun X hX => (p X hX).pt, t⟩
theorem ped_not (h : PEd φ a l ms f) : PEd φ (.UnaryOp .Not a pos) ⟨false, []⟩ ms (xNotV f) := let ⟨_, p, t⟩ := h; ⟨_, fun X hX => pe_not (p X hX), te_notV t⟩
theorem ped_one {op} (h : PEd φ a l ms f) : PEd φ (.BoolOp op [a] pos) l ms f := let ⟨_, p, t⟩ := h; ⟨_, fun X hX => pe_one (p X hX), t⟩
theorem ped_and (h : PEd φ a l1 m1 f1) (hr : PEd φ (.BoolOp .And (c :: rest) pos) l2 m2 f2) : PEd φ (.BoolOp .And (a :: c :: rest) pos) l2 (m1 ++ m2) (xAndV f1 f2) := let ⟨_, p, t⟩ := h; let ⟨_, p2, t2⟩ := hr; ⟨_, fun X hX => pe_and (p X hX) (p2 X hX), te_andV t t2⟩
theorem ped_or (h : PEd φ a l1 m1 f1) (hr : PEd φ (.BoolOp .Or (c :: rest) pos) l2 m2 f2) : PEd φ (.BoolOp .Or (a :: c :: rest) pos) l2 (m1 ++ m2) (xOrV f1 f2) := let ⟨_, p, t⟩ := h; let ⟨_, p2, t2⟩ := hr; ⟨_, fun X hX => pe_or (p X hX) (p2 X hX), te_orV t t2⟩
theorem ped_if (hc : PTd φ a ms t1) (h1 : PEd φ c l1 m1 f1) {e : Expr} (h2 : PEd φ e l2 m2 f2) : PEd φ (.IfExp a c e pos) (l1.or l2) (ms ++ (m1 ++ m2)) (xIf t1 f1 f2) := let ⟨_, p, t⟩ := hc; let ⟨_, p1, t1⟩ := h1; let ⟨_, p2, t2⟩ := h2; ⟨_, fun X hX => pe_ifExp (p X hX) (p1 X hX) (p2 X hX), te_if t t1 t2⟩
end

structure BltD (φ : Fam) (id : String) (o : List D → Option D) : Prop where
  ex : ∃ r, (∀ X, φ.mem X → CallR X (.builtin id) r) ∧ VOp φ.b o r
structure TyD (φ : Fam) (T : String) (o : List D → Option D) : Prop where
  ex : ∃ r, (∀ X, φ.mem X → CallR X (.type T) r) ∧ VOp φ.b o r
theorem bd_len : BltD φ "len" (B1 dLen) := ⟨_, fun X hX => by rw [show φ.b.K = X.K from (φ.kk X hX).symm]; exact call_lenA, vop_len⟩
theorem bd_all : BltD φ "all" (B1 dAll) := ⟨_, fun X hX => by rw [show φ.b.K = X.K from (φ.kk X hX).symm]; exact cr_all (φ.cc X hX), vop_all⟩
theorem bd_any : BltD φ "any" (B1 dAny) := ⟨_, fun X hX => by rw [show φ.b.K = X.K from (φ.kk X hX).symm]; exact cr_any (φ.cc X hX), vop_any⟩
theorem bd_isi : BltD φ "isinstance" (B2 dIsi) := ⟨_, fun X hX => by rw [show φ.b.K = X.K from (φ.kk X hX).symm]; exact call_isi, vop_isi⟩
theorem td_tuple : TyD φ "tuple" (B1 dTuple) := ⟨_, fun X hX => by rw [show φ.b.K = X.K from (φ.kk X hX).symm]; exact call_tuple_of, vop_tuple⟩
theorem td_list : TyD φ "list" (B1 dList) := ⟨_, fun X hX => by rw [show φ.b.K = X.K from (φ.kk X hX).symm]; exact call_listA (φ.cc X hX), vop_list⟩
theorem td_int : TyD φ "int" (B1 dInt) := ⟨_, fun _ _ => call_int1, vop_int⟩
section
variable {x : Str} {p : Pos} {e : Expr} {es : List Expr} {l : Lv} {ms : List Nat} {f : Exs} {o : List D → Option D}
theorem ped_callB {id : String} (k : BltD φ id o) (hg : Gn φ x) (h : Bi φ.mg x (.builtin id)) (ha : PAd φ (e :: es) l ms f) (he : ∀ env, starEach (e :: es) env = (false, eval e env) :: starEach es env) (hpl : ∀ env, (backTo pos (starEach es env)).any (·.1) = false) :
    PEd φ (.Call (.Name x p) (e :: es) [] pos) l ms (xOp o f) := let ⟨_, k1, k2⟩ := k.ex; let ⟨_, q, t⟩ := ha; ⟨_, fun X hX => pe_callB (k1 X hX) (hg.X X hX) (by rw [φ.mm X hX]; exact h.m) h.v (q X hX) hg.p.n hg.p.d (he X.env) (hpl X.env), te_op t k2⟩
theorem ped_callT {T : String} (k : TyD φ T o) (hg : Gn φ x) (h : Bi φ.mg x (.type T)) (ha : PAd φ (e :: es) l ms f) (he : ∀ env, starEach (e :: es) env = (false, eval e env) :: starEach es env) (hpl : ∀ env, (backTo pos (starEach es env)).any (·.1) = false) :
    PEd φ (.Call (.Name x p) (e :: es) [] pos) l ms (xOp o f) := let ⟨_, k1, k2⟩ := k.ex; let ⟨_, q, t⟩ := ha; ⟨_, fun X hX => pe_callTy (k1 X hX) (hg.X X hX) (by rw [φ.mm X hX]; exact h.m) h.v (q X hX) hg.p.n hg.p.d (he X.env) (hpl X.env), te_op t k2⟩
/-- isinstance(x, (c1, c2, ..)) -/
theorem ped_isiT {l1 l2 : Lv} {m1 m2 : List Nat} {f1 : Ex} {f2 : Exs} {kt : Nat} {pt : Pos} (hg : Gn φ x) (h : Bi φ.mg x (.builtin "isinstance")) (ha : PEd φ e l1 m1 f1) (hb : PAd φ es l2 m2 f2) (hd : djb l1.bs m2 = true) (he : ∀ env, starEach [e, .Tuple es kt pt] env = (false, eval e env) :: starEach [.Tuple es kt pt] env)
    (he2 : ∀ env, starEach [.Tuple es kt pt] env = (false, eval (.Tuple es kt pt) env) :: starEach [] env) (hpl : ∀ env, (backTo pos (starEach [.Tuple es kt pt] env)).any (·.1) = false) :
    PEd φ (.Call (.Name x p) [e, .Tuple es kt pt] [] pos) (l1.or l2) (m1 ++ m2) (xOp dIsiT (xCons f1 f2)) := by
  obtain ⟨ta, p1, t1⟩ := ha
  obtain ⟨tb, p2, t2⟩ := hb
  have q := te_op (ta_cons t1 t2 (djb_of hd)) (vop_isiT (b := φ.b))
  refine ⟨_, fun X hX => ?_, q⟩
  rw [show φ.b.K = X.K from (φ.kk X hX).symm]
  exact pe_callB call_isiT (hg.X X hX) (by rw [φ.mm X hX]; exact h.m) h.v (pa_cons (p1 X hX) (pa_cons (pe_tup (p2 X hX)) pa_nil (he2 X.env)) (he X.env)) hg.p.n hg.p.d (he X.env) (hpl X.env)
end

section
variable {es : List Expr} {l l1 l2 l3 : Lv} {ms m1 m2 m3 : List Nat} {fs : Exs} {f1 f2 f3 : Ex} {a c e : Expr}
theorem ped_tup {k : Nat} (h : PAd φ es l ms fs) : PEd φ (.Tuple es k pos) l ms (xOp dTup fs) := let ⟨_, p, t⟩ := h; ⟨_, fun X hX => pe_tup (p X hX), te_op t vop_tup⟩
theorem ped_lst (h : PAd φ es l ms fs) : PEd φ (.List es pos) l ms (xOp dLst fs) := let ⟨_, p, t⟩ := h; ⟨_, fun X hX => pe_lst (p X hX), te_op t vop_lst⟩
theorem ped_ix (h1 : PEd φ a l1 m1 f1) (h2 : PEd φ c l2 m2 f2) (hd : djb l1.bs m2 = true) (hs : PlainIx c) : PEd φ (.Subscript a c pos) (l1.two l2) (ms2 m1 m2) (x2 dIx f1 f2) :=
  let ⟨_, p1, t1⟩ := h1; let ⟨_, p2, t2⟩ := h2; ⟨_, fun X hX => pe_ix (by rw [show φ.b.K = X.K from (φ.kk X hX).symm]; exact ix_seq) (p1 X hX) (p2 X hX) hs, te_two t1 t2 vop_ix hd⟩
end
end
end DL

set_option Elab.async false
set_option linter.all false
set_option maxRecDepth 100000
namespace DL
open PySem L2

abbrev Ox := G → Option (Option Int × G)
def TOd (b : Bs) (t : TO) (ms : List Nat) (f : Ox) : Prop := ∀ (B T : Addr → Prop) (g : G) (σ : St) (H : Hp) (Fs : List (List Addr)) (o : Option Int) (g' : G) (Q : Option Int → Hp → Prop), Rel b B T g σ H Fs → f g = some (o, g') →
  (∀ H' Fs', Aft b B T g g' σ ms H H' Fs Fs' [] → Q o H') → t σ H Q
@[simp] def xNo : Ox := fun g => some (none, g)
@[simp] def xPart (f : Ex) : Ox := fun g => match f g with
  | some (.int i, g') => some (some i, g')
  | _ => none
section
variable {b : Bs}
theorem to_no : TOd b tNoPart [] xNo := by
  intro B T g σ H Fs o g' Q r e q
  cases e
  exact q H Fs r.aft
theorem to_part {t : TE} {l : Lv} {ms : List Nat} {f : Ex} (h : TEd b t l ms f) : TOd b (tPart t) ms (xPart f) := by
  intro B T g σ H Fs o g' Q r e q
  unfold xPart at e
  split at e
  · rename_i i g0 e1
    cases e
    refine h B T g σ H Fs _ _ _ r e1 fun v H' Fs' F A Dn => ?_
    cases Dn
    exact ⟨i, rfl, q H' Fs' A⟩
  · cases e
def cutL {α : Type} (xs : List α) (lo hi : Option Int) : List α := (xs.drop (HT.sIx xs.length 0 lo)).take (HT.sIx xs.length xs.length hi - HT.sIx xs.length 0 lo)
@[simp] def dCut (d : D) (lo hi : Option Int) : Option D := match d with
  | .tup ds => some (.tup (cutL ds lo hi))
  | .lst _ ds => some (.lst true (cutL ds lo hi))
  | .scr ns => some (.lst true (cutL (ns.map D.int) lo hi))
  | .str z => if z.length ≤ sizeLine then some (.str (cutS z lo hi)) else none
  | _ => none
def rCut (K : PySem.W.Frag) : V → Option Int → Option Int → Hp → VK → Prop := fun x lo hi H Q => rSlL K x lo hi H Q ∨ rSlA K x lo hi H Q ∨ rSlS x lo hi H Q
theorem sl_cut {X : Cx} : SlR X (rCut X.K) := sl_list.or (sl_tupA.or sl_str)
theorem dens_ints {C : Addr → Prop} {H : Hp} : ∀ ns : List Int, Dens b C H (ns.map V.int) (ns.map D.int) []
  | [] => .nil
  | n :: ns => .cons (F := []) (F' := []) (.int n) (dens_ints ns)
theorem Dens.cut {C : Addr → Prop} {H : Hp} {vs : List V} {ds : List D} {F : List Addr} (lo hi : Option Int) (h : Dens b C H vs ds F) (nd : F.Nodup) : ∃ F0, Dens b C H (cutV vs lo hi) (cutL ds lo hi) F0 ∧ F0.Nodup ∧ ∀ a ∈ F0, a ∈ F := by
  unfold cutV cutL
  rw [h.length]
  obtain ⟨F1, h1, n1, s1⟩ := h.drop (HT.sIx ds.length 0 lo) nd
  obtain ⟨F2, h2, n2, s2⟩ := h1.take (HT.sIx ds.length ds.length hi - HT.sIx ds.length 0 lo) n1
  exact ⟨F2, h2, n2, fun a ha => s1 a (s2 a ha)⟩
theorem cut_all {α : Type} {xs : List α} {lo hi : Option Int} (h : HT.sIx xs.length 0 lo = 0 ∧ HT.sIx xs.length xs.length hi = xs.length) : cutL xs lo hi = xs := by
  unfold cutL
  rw [h.1, h.2]
  simp
theorem vcut {C : Addr → Prop} {H : Hp} {v : V} {d z : D} {F : List Addr} {lo hi : Option Int} {Q : VK} (h : Den b C H v d F) (nd : F.Nodup) (e : dCut d lo hi = some z) (q : VQ b C F z H Q) : rCut b.K v lo hi H Q := by
  match d, e with
  | .tup ds, e =>
    cases e
    obtain ⟨a, vs, rfl, s, t⟩ := h.tup_inv
    refine .inr (.inl ⟨a, vs, rfl, s, fun w => ?_, fun _ p hp => ?_⟩)
    · rw [t.length] at w
      rw [cut_all w] at q
      exact q.part (.tup s t) nd fun a ha => ha
    · obtain ⟨F0, t0, n0, s0⟩ := t.cut lo hi nd
      exact q.newt t0 n0 s0 hp
  | .lst u ds, e =>
    cases e
    obtain ⟨a, vs, F', rfl, s, t, m, w⟩ := h.lstN nd
    obtain ⟨F0, t0, n0, s0⟩ := t.cut lo hi m
    exact .inl ⟨a, vs, rfl, SqL.of s, fun p hp => q.newl t0 n0 (fun a ha => w a (s0 a ha)) hp⟩
  | .scr ns, e =>
    cases e
    cases h with
    | scr w =>
      obtain ⟨F0, t0, n0, s0⟩ := (dens_ints (b := b) (C := C) (H := H) ns).cut lo hi List.nodup_nil
      exact .inl ⟨_, _, rfl, w.sq, fun p hp => q.newl t0 n0 (fun a ha => s0 a ha) hp⟩
  | .str x, e =>
    cases h
    simp only [dCut] at e
    split at e
    · cases e
      exact .inr (.inr ⟨x, rfl, by assumption, q.str⟩)
    · cases e
@[simp] def xCut (f : Ex) (lo hi : Ox) : Ex := fun g => do
  let (d, g1) ← f g
  let (l, g2) ← lo g1
  let (h, g3) ← hi g2
  let z ← dCut d l h
  return (z, g3)
theorem te_cut {t : TE} {tl th : TO} {l : Lv} {ms ml mh : List Nat} {f : Ex} {lo hi : Ox} (h : TEd b t l ms f) (hl : TOd b tl ml lo) (hh : TOd b th mh hi) (d1 : djb l.bs (ml ++ mh) = true) : TEd b (tSl (rCut b.K) t tl th) l (ms ++ (ml ++ mh)) (xCut f lo hi) := by
  intro B T g σ H Fs d g' Q r e q
  obtain ⟨⟨x, g1⟩, e1, e⟩ := bind_some e
  obtain ⟨⟨l0, g2⟩, e2, e⟩ := bind_some e
  obtain ⟨⟨h0, g3⟩, e3, e⟩ := bind_some e
  obtain ⟨z, e4, e⟩ := bind_some e
  have eg : g3 = g' := by simpa using congrArg (fun o => o.map Prod.snd) e
  have ez : z = d := by simpa using congrArg (fun o => o.map Prod.fst) e
  subst eg ez
  refine h B T g σ H Fs x g1 _ r e1 fun v H1 Fs1 F A Dn => ?_
  refine hl B _ g1 σ H1 Fs1 l0 g2 _ A.rel e2 fun H2 Fs2 A2 => ?_
  refine hh B _ g2 σ H2 Fs2 h0 g3 _ A2.rel e3 fun H3 Fs3 A3 => ?_
  have A23 := A2.nil2 A3 A.rel
  have ca := Aft.carry A.rel A23 (djb_of d1)
  have Dn3 := Dn.kp A23.kp ca.1 ca.2
  have A13 := A.trans A23 r
  simp only [List.append_nil] at A13 Dn3
  exact vcut Dn3 A.nd e4 (fin_op A13 q)
end
def POd (φ : Fam) (e : Option Expr) (ms : List Nat) (f : Ox) : Prop := ∃ t, (∀ X, φ.mem X → PO X e t) ∧ TOd φ.b t ms f
section
variable {φ : Fam} {pos p2 : Pos} {a e : Expr} {lo hi : Option Expr} {l : Lv} {ms ml mh : List Nat} {f : Ex} {fl fh : Ox}
theorem pod_no : POd φ none [] xNo := ⟨_, fun _ _ => po_none, to_no⟩
theorem pod_some (h : PEd φ e l ms f) : POd φ (some e) ms (xPart f) := let ⟨_, p, t⟩ := h; ⟨_, fun X hX => po_some (p X hX), to_part t⟩
theorem ped_cut (h : PEd φ a l ms f) (hl : POd φ lo ml fl) (hh : POd φ hi mh fh) (d : djb l.bs (ml ++ mh) = true) : PEd φ (.Subscript a (.Slice lo hi none p2) pos) l (ms ++ (ml ++ mh)) (xCut f fl fh) :=
  let ⟨_, p, t⟩ := h; let ⟨_, p1, t1⟩ := hl; let ⟨_, p2, t2⟩ := hh; ⟨_, fun X hX => pe_slice (by rw [show φ.b.K = X.K from (φ.kk X hX).symm]; exact sl_cut) (p X hX) (p1 X hX) (p2 X hX), te_cut t t1 t2 d⟩
end
end DL

set_option Elab.async false
set_option linter.all false
set_option maxRecDepth 100000
namespace DL
open PySem L2

inductive Fl where
  | nx (g : G)
  | rt (d : D) (g : G)
  | bk (g : G)
  | ct (g : G)
abbrev Sx := G → Option Fl

/-- behind a statement -/
structure SAft (b : Bs) (B T : Addr → Prop) (pr : List Nat) (g g' : G) (σ σ' : St) (H H' : Hp) (Fs Fs' : List (List Addr)) (F : List Addr) : Prop where
  rel : Rel b B (fun a => T a ∨ a ∈ F) g' σ' H' Fs'
  nd : F.Nodup
  out : ∀ a ∈ F, ¬ B a ∧ ¬ T a
  src : ∀ a ∈ F, H a = none ∨ a ∈ Fs.flatten
  kp : Kp (fun a => a ∈ Fs.flatten) H H'
  sub : ∀ a ∈ Fs'.flatten, a ∈ Fs.flatten ∨ H a = none
  pr : ∀ i ∈ pr, σ'[i]? = σ[i]?
  len : g'.length = g.length

theorem Aft.st {b : Bs} {B T : Addr → Prop} {pr : List Nat} {g g' : G} {σ : St} {ms : List Nat} {H H' : Hp} {Fs Fs' : List (List Addr)} {F : List Addr} (a : Aft b B T g g' σ ms H H' Fs Fs' F) (r0 : Rel b B T g σ H Fs) : SAft b B T pr g g' σ σ H H' Fs Fs' F where
  rel := a.rel
  nd := a.nd
  out := a.out
  src := fun x hx => (a.src x hx).imp id fun ⟨i, _, f, hf, h⟩ => fs_mem hf h
  kp := a.kp.mono fun x ⟨i, _, f, hf, h⟩ => fs_mem hf h
  sub := fun x hx => by
    obtain ⟨i, f, hf, h⟩ := fs_of hx
    have li : i < Fs.length := by
      have := (List.getElem?_eq_some_iff.mp hf).1
      rw [a.rel.lf, a.len, ← r0.lf] at this; exact this
    rcases a.sub i Fs[i] f (List.getElem?_eq_getElem li) hf x h with q | q
    · exact .inl (fs_mem (List.getElem?_eq_getElem li) q)
    · exact .inr q
  pr := fun _ _ => rfl
  len := a.len
theorem SAft.trans {b : Bs} {B T : Addr → Prop} {pr : List Nat} {g g1 g2 : G} {σ σ1 σ2 : St} {H H1 H2 : Hp} {Fs Fs1 Fs2 : List (List Addr)} {F : List Addr}
    (a : SAft b B T pr g g1 σ σ1 H H1 Fs Fs1 []) (c : SAft b B T pr g1 g2 σ1 σ2 H1 H2 Fs1 Fs2 F) : SAft b B T pr g g2 σ σ2 H H2 Fs Fs2 F where
  rel := c.rel
  nd := c.nd
  out := c.out
  src := fun x hx => by
    have dead : H1 x = none → H x = none := fun e => by
      by_cases z : H x = none
      · exact z
      · exact absurd e (a.kp.live x z)
    rcases c.src x hx with e | e
    · exact .inl (dead e)
    · exact (a.sub x e).symm
  kp := Kp.trans' a.kp c.kp fun x hx l => (a.sub x hx).resolve_right l
  sub := fun x hx => by
    have dead : H1 x = none → H x = none := fun e => by
      by_cases z : H x = none
      · exact z
      · exact absurd e (a.kp.live x z)
    rcases c.sub x hx with e | e
    · exact a.sub x e
    · exact .inr (dead e)
  pr := fun i hi => (c.pr i hi).trans (a.pr i hi)
  len := c.len.trans a.len
theorem Rel.nilT {b : Bs} {B T : Addr → Prop} {g : G} {σ : St} {H : Hp} {Fs : List (List Addr)} (r : Rel b B (fun a => T a ∨ a ∈ ([] : List Addr)) g σ H Fs) : Rel b B T g σ H Fs := r.congr (by simp)
theorem Rel.toNil {b : Bs} {B T : Addr → Prop} {g : G} {σ : St} {H : Hp} {Fs : List (List Addr)} (r : Rel b B T g σ H Fs) : Rel b B (fun a => T a ∨ a ∈ ([] : List Addr)) g σ H Fs := r.congr (by simp)
theorem Rel.saft {b : Bs} {B T : Addr → Prop} {pr : List Nat} {g : G} {σ : St} {H : Hp} {Fs : List (List Addr)} (r : Rel b B T g σ H Fs) : SAft b B T pr g g σ σ H H Fs Fs [] := r.aft.st r

/-- what is wanted behind: of the way that it ends -/
def Post (b : Bs) (B T : Addr → Prop) (pr : List Nat) (g : G) (σ : St) (H : Hp) (Fs : List (List Addr)) (fl : Fl) (D : Ends) : Prop := match fl with
  | .nx g' => ∀ σ' H' Fs', SAft b B T pr g g' σ σ' H H' Fs Fs' [] → D.nx σ' H'
  | .bk g' => ∀ σ' H' Fs', SAft b B T pr g g' σ σ' H H' Fs Fs' [] → D.bk σ' H'
  | .ct g' => ∀ σ' H' Fs', SAft b B T pr g g' σ σ' H H' Fs Fs' [] → D.ct σ' H'
  | .rt d g' => ∀ v σ' H' Fs' F, SAft b B T pr g g' σ σ' H H' Fs Fs' F → Den b (Cl B (fun a => T a ∨ a ∈ F) Fs' ⟨false, []⟩) H' v d F → D.rt v H'
def TSd (b : Bs) (t : TS) (pr : List Nat) (f : Sx) : Prop := ∀ (B T : Addr → Prop) (g : G) (σ : St) (H : Hp) (Fs : List (List Addr)) (fl : Fl) (D : Ends), Rel b B T g σ H Fs → f g = some fl → Post b B T pr g σ H Fs fl D → t D σ H
def PSd (φ : Fam) (pr : List Nat) (st : Stmt) (f : Sx) : Prop := ∃ t, (∀ X, φ.mem X → PS X st t) ∧ TSd φ.b t pr f
def PSsd (φ : Fam) (pr : List Nat) (st : List Stmt) (f : Sx) : Prop := ∃ t, (∀ X, φ.mem X → PSs X st t) ∧ TSd φ.b t pr f

section
variable {b : Bs} {pr : List Nat}
theorem Post.after {B T : Addr → Prop} {g g1 : G} {σ σ1 : St} {H H1 : Hp} {Fs Fs1 : List (List Addr)} {fl : Fl} {D : Ends} (a : SAft b B T pr g g1 σ σ1 H H1 Fs Fs1 []) (p : Post b B T pr g σ H Fs fl D) : Post b B T pr g1 σ1 H1 Fs1 fl D := by
  cases fl with
  | nx g' => exact fun σ' H' Fs' c => p σ' H' Fs' (a.trans c)
  | bk g' => exact fun σ' H' Fs' c => p σ' H' Fs' (a.trans c)
  | ct g' => exact fun σ' H' Fs' c => p σ' H' Fs' (a.trans c)
  | rt d g' => exact fun v σ' H' Fs' F c => p v σ' H' Fs' F (a.trans c)
@[simp] def sNil : Sx := fun g => some (.nx g)
@[simp] def sSeq (f1 f2 : Sx) : Sx := fun g => match f1 g with
  | some (.nx g1) => f2 g1
  | r => r
theorem ts_nil : TSd b tNext pr sNil := by
  intro B T g σ H Fs fl D r e p
  cases e
  exact p σ H Fs r.saft
theorem ts_seq {t1 t2 : TS} {f1 f2 : Sx} (h1 : TSd b t1 pr f1) (h2 : TSd b t2 pr f2) : TSd b (tSeq t1 t2) pr (sSeq f1 f2) := by
  intro B T g σ H Fs fl D r e p
  unfold sSeq at e
  split at e
  · rename_i g1 e1
    exact h1 B T g σ H Fs (.nx g1) _ r e1 fun σ1 H1 Fs1 a => h2 B T g1 σ1 H1 Fs1 fl D a.rel.nilT e (p.after a)
  · rename_i e1
    refine h1 B T g σ H Fs fl _ r e ?_
    cases fl with
    | nx g' => exact absurd e (e1 g')
    | bk g' => exact p
    | ct g' => exact p
    | rt d g' => exact p
@[simp] def sBreak : Sx := fun g => some (.bk g)
@[simp] def sCont : Sx := fun g => some (.ct g)
theorem ts_break : TSd b tBreak pr sBreak := by
  intro B T g σ H Fs fl D r e p
  cases e
  exact p σ H Fs r.saft
theorem ts_cont : TSd b tCont pr sCont := by
  intro B T g σ H Fs fl D r e p
  cases e
  exact p σ H Fs r.saft
@[simp] def sIf (c : Tx) (f1 f2 : Sx) : Sx := fun g => match c g with
  | some (true, g1) => f1 g1
  | some (false, g1) => f2 g1
  | none => none
theorem ts_if {tc : TT} {ms : List Nat} {c : Tx} {t1 t2 : TS} {f1 f2 : Sx} (hc : TTd b tc ms c) (h1 : TSd b t1 pr f1) (h2 : TSd b t2 pr f2) : TSd b (tIfS tc t1 t2) pr (sIf c f1 f2) := by
  intro B T g σ H Fs fl D r e p
  unfold sIf at e
  split at e
  · rename_i g1 e1
    refine hc B T g σ H Fs _ _ _ r e1 fun H1 Fs1 a => ?_
    rw [if_pos rfl]
    exact h1 B T g1 σ H1 Fs1 fl D a.rel.nilT e (p.after (a.st r))
  · rename_i g1 e1
    refine hc B T g σ H Fs _ _ _ r e1 fun H1 Fs1 a => ?_
    rw [if_neg  Bool.false_ne_true]
    exact h2 B T g1 σ H1 Fs1 fl D a.rel.nilT e (p.after (a.st r))
  · cases e
@[simp] def sExpr (f : Ex) : Sx := fun g => (f g).map fun p => .nx p.2
theorem ts_expr {t : TE} {l : Lv} {ms : List Nat} {f : Ex} (h : TEd b t l ms f) : TSd b (tDrop t) pr (sExpr f) := by
  intro B T g σ H Fs fl D r e p
  obtain ⟨⟨d, g1⟩, e1, rfl⟩ := Option.map_eq_some_iff.mp e
  exact h B T g σ H Fs d g1 _ r e1 fun v H1 Fs1 F a _ => p σ H1 Fs1 (a.drop.st r)
/-- what may be returned -/
@[simp] def okr (l : Lv) (d : D) : Bool := (!l.out && l.bs.isEmpty) || d.nos
@[simp] def sRet (l : Lv) (f : Ex) : Sx := fun g => match f g with
  | some (d, g1) => if okr l d = true then some (.rt d g1) else none
  | none => none
theorem ts_ret {t : TE} {l : Lv} {ms : List Nat} {f : Ex} (h : TEd b t l ms f) : TSd b (tRet t) pr (sRet l f) := by
  intro B T g σ H Fs fl D r e p
  unfold sRet at e
  split at e
  · rename_i d g1 e1
    split at e
    · rename_i ok
      cases e
      refine h B T g σ H Fs d g1 _ r e1 fun v H1 Fs1 F a Dn => p v σ H1 Fs1 F (a.st r) ?_
      rw [okr, Bool.or_eq_true, Bool.and_eq_true] at ok
      rcases ok with ⟨o1, o2⟩ | o
      · refine Dn.imp fun x _ c => ⟨fun z => ?_, c.2.1, fun i f hf hx => ?_⟩
        · have := c.1 z
          rw [this] at o1; cases o1
        · have := c.2.2 i f hf hx
          rw [List.isEmpty_iff.mp o2] at this; exact this
      · exact Dn.nos o
    · cases e
  · cases e
@[simp] def sRetN : Sx := fun g => some (.rt .non g)
theorem ts_retN : TSd b tRetN pr sRetN := by
  intro B T g σ H Fs fl D r e p
  cases e
  exact p .non σ H Fs [] r.saft .non
@[simp] def sNever : Sx := fun _ => none
theorem ts_never : TSd b tNever pr sNever := fun B T g σ H Fs fl D r e p => by cases e

/-- what may be kept in a slot -/
@[simp] def okb (l : Lv) (d : D) : Bool := (l.bs.isEmpty && (d.xf || !l.out)) || d.nos
/-- a value is kept in slot i -/
theorem Rel.keep {B T : Addr → Prop} {g : G} {σ : St} {H : Hp} {Fs : List (List Addr)} {F : List Addr} {l : Lv} {v : V} {d : D} {i : Nat} (r : Rel b B (fun a => T a ∨ a ∈ F) g σ H Fs) (h : Den b (Cl B (fun a => T a ∨ a ∈ F) Fs l) H v d F)
    (nd : F.Nodup) (out : ∀ a ∈ F, ¬ B a ∧ ¬ T a) (ok : okb l d = true) (hi : i < g.length) : Rel b B T (g.set i (some d)) (σ.set i (some v)) H (Fs.set i F) := by
  have lF : i < Fs.length := by rw [r.lf]; exact hi
  have ls : i < σ.length := by rw [r.lg]; exact hi
  have get' : ∀ j f, (Fs.set i F)[j]? = some f → (j = i ∧ f = F) ∨ (j ≠ i ∧ Fs[j]? = some f) := fun j f hj => by
    by_cases n : i = j
    · subst n
      rw [List.getElem?_set_self lF] at hj
      exact .inl ⟨rfl, (Option.some.inj hj).symm⟩
    · rw [List.getElem?_set_ne n] at hj
      exact .inr ⟨Ne.symm n, hj⟩
  refine ⟨by rw [List.length_set, List.length_set]; exact r.lg, by rw [List.length_set, List.length_set]; exact r.lf, fun j dj hj => ?_, fun j hj => ?_, fs_set r.nd nd fun j f n hj a ha ha' => (r.out a (fs_mem hj ha')).2 (.inr ha), fun a ha => ?_, fun a ha => r.live a (ha.imp id .inl)⟩
  · by_cases n : i = j
    · subst n
      rw [List.getElem?_set_self hi] at hj
      cases hj
      refine ⟨v, F, List.getElem?_set_self ls, List.getElem?_set_self lF, ?_⟩
      rw [okb, Bool.or_eq_true, Bool.and_eq_true, Bool.or_eq_true] at ok
      rcases ok with ⟨o1, o2⟩ | o
      · refine h.imp fun a _ c => ⟨fun z => ?_, fun z => c.2.1 (.inl z), fun j f hj ha => ?_⟩
        · have := c.1 z
          rcases o2 with o2 | o2
          · exact o2
          · rw [this] at o2; cases o2
        · rcases get' j f hj with ⟨_, q⟩ | ⟨_, q⟩
          · subst q; exact absurd (Or.inr ha) c.2.1
          · have := c.2.2 j f q ha
            rw [List.isEmpty_iff.mp o1] at this; exact this
      · exact h.nos o
    · rw [List.getElem?_set_ne n] at hj
      obtain ⟨v2, f2, h1, h2, h3⟩ := r.at_ j dj hj
      refine ⟨v2, f2, by rw [List.getElem?_set_ne n]; exact h1, by rw [List.getElem?_set_ne n]; exact h2, h3.imp fun a _ c => ⟨c.1, fun z => c.2.1 (.inl z), fun k f hk ha => ?_⟩⟩
      rcases get' k f hk with ⟨_, q⟩ | ⟨_, q⟩
      · subst q; exact absurd (Or.inr ha) c.2.1
      · exact c.2.2 k f q ha
  · have n : i ≠ j := fun z => by
      subst z
      rw [List.getElem?_set_self hi] at hj
      cases hj
    rw [List.getElem?_set_ne n] at hj ⊢
    exact r.no j hj
  · obtain ⟨j, f, hj, ha'⟩ := fs_of ha
    rcases get' j f hj with ⟨_, q⟩ | ⟨_, q⟩
    · subst q; exact out a ha'
    · have := r.out a (fs_mem q ha')
      exact ⟨this.1, fun z => this.2 (.inl z)⟩
abbrev Gx := D → G → Option G
/-- the target takes data of level l; iz: the slots that it sets -/
def TGd (b : Bs) (t : TG) (l : Lv) (iz : List Nat) (f : Gx) : Prop := ∀ (B T : Addr → Prop) (g : G) (σ : St) (H : Hp) (Fs : List (List Addr)) (F : List Addr) (v : V) (d : D) (g' : G) (Q : St → Hp → Prop),
  Rel b B (fun a => T a ∨ a ∈ F) g σ H Fs → Den b (Cl B (fun a => T a ∨ a ∈ F) Fs l) H v d F → F.Nodup → (∀ a ∈ F, ¬ B a ∧ ¬ T a) → f d g = some g' →
  (∀ σ' Fs', Rel b B T g' σ' H Fs' → g'.length = g.length → (∀ i : Nat, i ∉ iz → σ'[i]? = σ[i]? ∧ g'[i]? = g[i]? ∧ Fs'[i]? = Fs[i]?) → (∀ (i : Nat) (f' : List Addr), Fs'[i]? = some f' → ∀ a ∈ f', a ∈ F ∨ ∃ f, Fs[i]? = some f ∧ a ∈ f) → Q σ' H) → t v σ H Q
abbrev Gxs := List D → G → Option G
def TGsd (b : Bs) (t : TGs) (l : Lv) (iz : List Nat) (f : Gxs) : Prop := ∀ (B T : Addr → Prop) (g : G) (σ : St) (H : Hp) (Fs : List (List Addr)) (F : List Addr) (vs : List V) (ds : List D) (g' : G) (Q : St → Hp → Prop),
  Rel b B (fun a => T a ∨ a ∈ F) g σ H Fs → Dens b (Cl B (fun a => T a ∨ a ∈ F) Fs l) H vs ds F → F.Nodup → (∀ a ∈ F, ¬ B a ∧ ¬ T a) → f ds g = some g' →
  (∀ σ' Fs', Rel b B T g' σ' H Fs' → g'.length = g.length → (∀ i : Nat, i ∉ iz → σ'[i]? = σ[i]? ∧ g'[i]? = g[i]? ∧ Fs'[i]? = Fs[i]?) → (∀ (i : Nat) (f' : List Addr), Fs'[i]? = some f' → ∀ a ∈ f', a ∈ F ∨ ∃ f, Fs[i]? = some f ∧ a ∈ f) → Q σ' H) → t vs σ H Q
@[simp] def gN (l : Lv) (i : Nat) : Gx := fun d g => if okb l d = true ∧ i < g.length then some (g.set i (some d)) else none
/-- shared from now on -/
@[simp] def gNs (l : Lv) (i : Nat) : Gx := fun d g => gN l i d.sh g
theorem fs_set_sub {Fs : List (List Addr)} {i : Nat} {F : List Addr} : ∀ (j : Nat) (f' : List Addr), (Fs.set i F)[j]? = some f' → ∀ a ∈ f', a ∈ F ∨ ∃ f, Fs[j]? = some f ∧ a ∈ f := fun j f' hj a ha => by
  by_cases n : i = j
  · subst n
    have li : i < Fs.length := by
      have := (List.getElem?_eq_some_iff.mp hj).1
      rw [List.length_set] at this; exact this
    rw [List.getElem?_set_self li] at hj
    cases hj
    exact .inl ha
  · rw [List.getElem?_set_ne n] at hj
    exact .inr ⟨f', hj, ha⟩
theorem tg_n {l : Lv} {i : Nat} : TGd b (gName i) l [i] (gN l i) := by
  intro B T g σ H Fs F v d g' Q r h nd out e q
  unfold gN at e
  split at e
  · rename_i c
    cases e
    refine q _ (Fs.set i F) (r.keep h nd out c.1 c.2) (by rw [List.length_set]) (fun j hj => ?_) fs_set_sub
    have n : i ≠ j := fun z => hj (z ▸ List.mem_cons_self)
    exact ⟨by rw [List.getElem?_set_ne n], by rw [List.getElem?_set_ne n], by rw [List.getElem?_set_ne n]⟩
  · cases e
theorem Rel.shT {B T : Addr → Prop} {g : G} {σ : St} {H : Hp} {Fs : List (List Addr)} {F : List Addr} {l : Lv} {v : V} {d : D} (r : Rel b B (fun a => T a ∨ a ∈ F) g σ H Fs) (h : Den b (Cl B (fun a => T a ∨ a ∈ F) Fs l) H v d F) (out : ∀ a ∈ F, ¬ B a ∧ ¬ T a) :
    Rel b B (fun a => T a ∨ a ∈ ([] : List Addr)) g σ H Fs ∧ Den b (Cl B (fun a => T a ∨ a ∈ ([] : List Addr)) Fs l) H v d.sh [] := by
  refine ⟨r.weakT fun a z => .inl (z.resolve_right List.not_mem_nil), ?_⟩
  refine (h.imp (C' := Cl B (fun a => T a ∨ a ∈ ([] : List Addr)) Fs l) fun a _ c => ⟨c.1, fun z => c.2.1 (.inl (z.resolve_right List.not_mem_nil)), c.2.2⟩).sh fun a ha => ⟨fun z => absurd z (out a ha).1, fun z => z.elim (out a ha).2 List.not_mem_nil, fun i f hi hf => absurd (Or.inr ha) (r.out a (fs_mem hi hf)).2⟩
theorem tg_ns {l : Lv} {i : Nat} : TGd b (gName i) l [i] (gNs l i) := by
  intro B T g σ H Fs F v d g' Q r h nd out e q
  obtain ⟨r', h'⟩ := r.shT h out
  exact tg_n B T g σ H Fs [] v d.sh g' Q r' h' List.nodup_nil (by simp) e fun σ' Fs' a1 a2 a3 a4 => q σ' Fs' a1 a2 a3 fun i f' hi a ha => .inr ((a4 i f' hi a ha).resolve_left List.not_mem_nil)
@[simp] def gT (f : Gxs) : Gx := fun d g => match d with
  | .tup ds => f ds g
  | _ => none
@[simp] def gsNil : Gxs := fun ds g => match ds with
  | [] => some g
  | _ => none
@[simp] def gsCons (f : Gx) (r : Gxs) : Gxs := fun ds g => match ds with
  | d :: ds => do
    let g1 ← f d g
    r ds g1
  | [] => none
theorem tgs_nil {l : Lv} : TGsd b gNil l [] gsNil := by
  intro B T g σ H Fs F vs ds g' Q r h nd out e q
  cases h with
  | nil =>
    cases e
    exact ⟨rfl, q σ Fs r.nilT rfl (fun _ _ => ⟨rfl, rfl, rfl⟩) fun i f' hi a ha => .inr ⟨f', hi, ha⟩⟩
  | cons _ _ => cases e
/-- the first of several values is kept, the others are still under way -/
theorem tgs_cons {t : TG} {u : TGs} {l : Lv} {i1 i2 : List Nat} {f : Gx} {r : Gxs} (h1 : TGd b t l i1 f) (h2 : TGsd b u l i2 r) : TGsd b (gCons t u) l (i1 ++ i2) (gsCons f r) := by
  intro B T g σ H Fs F vs ds g' Q r0 h nd out e q
  cases h with
  | nil => cases e
  | @cons v d vs ds F1 F2 h t2 =>
    obtain ⟨g1, e1, e⟩ := bind_some (show (f d g >>= fun g1 => r ds g1) = some g' from e)
    refine ⟨v, vs, rfl, ?_⟩
    obtain ⟨n1, n2, n3⟩ := List.nodup_append.mp nd
    have sw : ∀ a, (T a ∨ a ∈ F1 ++ F2) ↔ ((T a ∨ a ∈ F2) ∨ a ∈ F1) := fun a => by
      rw [List.mem_append]
      constructor
      · rintro (z | z | z)
        · exact .inl (.inl z)
        · exact .inr z
        · exact .inl (.inr z)
      · rintro ((z | z) | z)
        · exact .inl z
        · exact .inr (.inr z)
        · exact .inr (.inl z)
    refine h1 B (fun a => T a ∨ a ∈ F2) g σ H Fs F1 v d g1 _ (r0.congr sw) (h.imp fun a _ c => ⟨c.1, fun z => c.2.1 ((sw a).mpr z), c.2.2⟩) n1 (fun a ha => ⟨(out a (List.mem_append_left _ ha)).1, fun z => z.elim (out a (List.mem_append_left _ ha)).2 fun z => n3 a ha a z rfl⟩) e1 fun σ1 Fs1 r1 lg pr1 sub1 => ?_
    refine h2 B T g1 σ1 H Fs1 F2 vs ds g' Q r1 (t2.imp fun a la c => ⟨c.1, fun z => c.2.1 ((sw a).mpr (.inl z)), fun i f hi ha => ?_⟩) n2 (fun a ha => out a (List.mem_append_right _ ha)) e fun σ2 Fs2 r2 lg2 pr2 sub2 => q σ2 Fs2 r2 (lg2.trans lg) (fun i hi => let u := pr2 i fun z => hi (List.mem_append_right _ z); let w := pr1 i fun z => hi (List.mem_append_left _ z); ⟨u.1.trans w.1, u.2.1.trans w.2.1, u.2.2.trans w.2.2⟩) fun i f' hi a ha => ?_
    · rcases sub2 i f' hi a ha with z | ⟨f0, hf, z⟩
      · exact .inl (List.mem_append_right _ z)
      · rcases sub1 i f0 hf a z with z | z
        · exact .inl (List.mem_append_left _ z)
        · exact .inr z
    · rcases sub1 i f hi a ha with z | ⟨f0, hf, z⟩
      · exact absurd (Or.inr (List.mem_append_left _ z)) c.2.1
      · exact c.2.2 i f0 hf z
theorem tg_t {K : PySem.W.Frag} {n : Nat} {t : TGs} {l : Lv} {iz : List Nat} {f : Gxs} (hK : b.K = K) (h : TGsd b t l iz f) (hn : ∀ ds g g', f ds g = some g' → ds.length = n) : TGd b (gTup K n t) l iz (gT f) := by
  subst hK
  intro B T g σ H Fs F v d g' Q r h0 nd out e q
  unfold gT at e
  split at e
  · obtain ⟨a, vs, rfl, s, t2⟩ := h0.tup_inv
    exact ⟨a, vs, rfl, s, by rw [t2.length]; exact hn _ _ _ e, h B T g σ H Fs F vs _ g' Q r t2 nd out e q⟩
  · cases e
theorem gs_len0 : ∀ ds g g', gsNil ds g = some g' → ds.length = 0 := fun ds g g' e => by
  cases ds with
  | nil => rfl
  | cons _ _ => cases e
theorem gs_len {f : Gx} {r : Gxs} {n : Nat} (h : ∀ ds g g', r ds g = some g' → ds.length = n) : ∀ ds g g', gsCons f r ds g = some g' → ds.length = n + 1 := fun ds g g' e => by
  cases ds with
  | nil => cases e
  | cons d ds =>
    obtain ⟨g1, _, e⟩ := bind_some (show (f d g >>= fun g1 => r ds g1) = some g' from e)
    rw [List.length_cons, h _ _ _ e]
/-- target = value -/
@[simp] def sAsg (f : Ex) (t : Gx) : Sx := fun g => do
  let (d, g1) ← f g
  let g2 ← t d g1
  return .nx g2
theorem fs_flat_sub {Fs Fs' : List (List Addr)} {F : List Addr} (h : ∀ (i : Nat) (f' : List Addr), Fs'[i]? = some f' → ∀ a ∈ f', a ∈ F ∨ ∃ f, Fs[i]? = some f ∧ a ∈ f) : ∀ a ∈ Fs'.flatten, a ∈ Fs.flatten ∨ a ∈ F := fun a ha => by
  obtain ⟨i, f', hi, ha⟩ := fs_of ha
  rcases h i f' hi a ha with z | ⟨f, hf, z⟩
  · exact .inr z
  · exact .inl (fs_mem hf z)
/-- an expression's end, then its value kept by a target -/
theorem SAft.keep {B T : Addr → Prop} {g g1 g2 : G} {σ σ1 σ2 : St} {H H1 : Hp} {Fs Fs1 Fs2 : List (List Addr)} {F : List Addr} (a : SAft b B T pr g g1 σ σ1 H H1 Fs Fs1 F) (r2 : Rel b B T g2 σ2 H1 Fs2) (lg : g2.length = g1.length) (p2 : ∀ i ∈ pr, σ2[i]? = σ1[i]?)
    (sub : ∀ (i : Nat) (f' : List Addr), Fs2[i]? = some f' → ∀ a ∈ f', a ∈ F ∨ ∃ f, Fs1[i]? = some f ∧ a ∈ f) : SAft b B T pr g g2 σ σ2 H H1 Fs Fs2 [] where
  rel := r2.toNil
  nd := List.nodup_nil
  out := by simp
  src := by simp
  kp := a.kp
  sub := fun x hx => by
    rcases fs_flat_sub sub x hx with z | z
    · exact a.sub x z
    · exact (a.src x z).symm
  pr := fun i hi => (p2 i hi).trans (a.pr i hi)
  len := lg.trans a.len
theorem ts_asg {t : TE} {tg : TG} {l : Lv} {ms iz : List Nat} {f : Ex} {k : Gx} (h : TEd b t l ms f) (ht : TGd b tg l iz k) (hp : djb pr iz = true) : TSd b (tAsg t tg) pr (sAsg f k) := by
  intro B T g σ H Fs fl D r e p
  obtain ⟨⟨d, g1⟩, e1, e⟩ := bind_some e
  obtain ⟨g2, e2, e⟩ := bind_some e
  cases e
  refine h B T g σ H Fs d g1 _ r e1 fun v H1 Fs1 F a Dn => ?_
  exact ht B T g1 σ H1 Fs1 F v d g2 _ a.rel Dn a.nd a.out e2 fun σ2 Fs2 r2 lg p2 sub => p σ2 H1 Fs2 ((a.st r).keep r2 lg (fun i hi => (p2 i (djb_of hp i hi)).1) sub)
end
end DL

set_option Elab.async false
set_option linter.all false
set_option maxRecDepth 100000
namespace DL
open PySem L2

/-- only the slots of mt -/
def maskG (mt : List Nat) (g : G) : G := g.mapIdx fun i o => if mt.contains i = true then o else none
/-- a def's promise: n parameters, those of mt may be changed; m: from the arguments to the answer and the parameters behind -/
def spD (b : Bs) (n : Nat) (mt : List Nat) (m : List D → Option (D × G)) : Sp := fun vs H Q _ => ∃ (B T : Addr → Prop) (ds : List D) (Fs : List (List Addr)) (d : D) (g' : G),
  ds.length = n ∧ Rel b B T (ds.map some) (vs.map some) H Fs ∧ m ds = some (d, g') ∧
  ∀ v H' Fs' F, Rel b B (fun a => T a ∨ a ∈ F) (maskG mt g') (vs.map some) H' Fs' → F.Nodup → (∀ a ∈ F, ¬ B a ∧ ¬ T a) → (∀ a ∈ F, H a = none ∨ a ∈ Fs.flatten) → Kp (fun a => a ∈ Fs.flatten) H H' → (∀ a ∈ Fs'.flatten, a ∈ Fs.flatten ∨ H a = none) → g'.length = n →
    Den b (Cl B (fun a => T a ∨ a ∈ F) Fs' ⟨false, []⟩) H' v d F → Q v H'
/-- a def by its body: n parameters, k further names -/
@[simp] def fnD (n k : Nat) (f : Sx) : List D → Option (D × G) := fun ds => if ds.length = n then match f (ds.map some ++ List.replicate k none) with
  | some (.rt d g) => some (d, g.take ds.length)
  | some (.nx g) => some (.non, g.take ds.length)
  | _ => none
else none
theorem fnD_len {n k : Nat} {f : Sx} {ds : List D} {r : D × G} (h : fnD n k f ds = some r) : ds.length = n := by
  unfold fnD at h
  split at h
  · assumption
  · cases h

section
variable {b : Bs}
theorem Rel.start {B T : Addr → Prop} {ds : List D} {vs : List V} {H : Hp} {Fs : List (List Addr)} (k : Nat) (r : Rel b B T (ds.map some) (vs.map some) H Fs) : Rel b B T (ds.map some ++ List.replicate k none) (vs.map some ++ List.replicate k none) H (Fs ++ List.replicate k []) := by
  have l1 : vs.length = ds.length := by have := r.lg; rwa [List.length_map, List.length_map] at this
  have l2 : Fs.length = ds.length := by have := r.lf; rwa [List.length_map] at this
  have fl : (Fs ++ List.replicate k []).flatten = Fs.flatten := by rw [List.flatten_append]; simp
  have get' : ∀ (i : Nat) f, (Fs ++ List.replicate k [])[i]? = some f → f ≠ [] → Fs[i]? = some f := fun i f h n => by
    by_cases l : i < Fs.length
    · rwa [List.getElem?_append_left l] at h
    · rw [List.getElem?_append_right (by omega), List.getElem?_replicate] at h
      split at h
      · exact absurd (Option.some.inj h).symm n
      · cases h
  refine ⟨by simp [l1], by simp [l2], fun i d h => ?_, fun i h => ?_, by rw [fl]; exact r.nd, by rw [fl]; exact r.out, r.live⟩
  · have l : i < ds.length := by
      by_cases l : i < ds.length
      · exact l
      · rw [List.getElem?_append_right (by rw [List.length_map]; omega), List.getElem?_replicate] at h
        split at h <;> cases h
    rw [List.getElem?_append_left (by rw [List.length_map]; exact l)] at h
    obtain ⟨v, f, h1, h2, h3⟩ := r.at_ i d h
    refine ⟨v, f, by rw [List.getElem?_append_left (by rw [List.length_map]; omega)]; exact h1, by rw [List.getElem?_append_left (by omega)]; exact h2, h3.imp fun a _ c => ⟨c.1, c.2.1, fun j f' hj ha => c.2.2 j f' (get' j f' hj fun z => by rw [z] at ha; cases ha) ha⟩⟩
  · by_cases l : i < ds.length
    · rw [List.getElem?_append_left (by rw [List.length_map]; exact l), List.getElem?_map, List.getElem?_eq_getElem l] at h
      cases h
    · rw [List.getElem?_append_right (by rw [List.length_map]; omega), List.getElem?_replicate] at h
      rw [List.getElem?_append_right (by omega), List.getElem?_replicate]
      rw [List.length_map] at h
      rw [l2]
      split at h
      · rename_i q; rw [if_pos q]
      · cases h
theorem mem_fl_take {Fs : List (List Addr)} {n : Nat} {a : Addr} (h : a ∈ (Fs.take n).flatten) : a ∈ Fs.flatten := by
  obtain ⟨f, hf, ha⟩ := List.mem_flatten.mp h
  exact List.mem_flatten.mpr ⟨f, List.mem_of_mem_take hf, ha⟩
/-- behind the body: the parameters that may be changed, as they stand in the caller's arguments -/
theorem Rel.masked {B T : Addr → Prop} {g : G} {σ : St} {H : Hp} {Fs : List (List Addr)} {vs : List V} {n : Nat} (mt : List Nat) (r : Rel b B T g σ H Fs) (hn : vs.length = n) (hg : n ≤ g.length) (hs : ∀ i ∈ mt, i < n → σ[i]? = (vs.map some)[i]?) :
    ∃ Fs', Rel b B T (maskG mt (g.take n)) (vs.map some) H Fs' ∧ (∀ a ∈ Fs'.flatten, a ∈ Fs.flatten) ∧ ∀ (i : Nat) (f : List Addr), Fs'[i]? = some f → f ≠ [] → Fs[i]? = some f := by
  refine ⟨(Fs.take n).mapIdx fun i f => if mt.contains i = true then f else [], ?_⟩
  have lF : n ≤ Fs.length := by rw [r.lf]; exact hg
  have get' : ∀ (i : Nat) f, ((Fs.take n).mapIdx fun i f => if mt.contains i = true then f else [])[i]? = some f → f ≠ [] → Fs[i]? = some f ∧ mt.contains i = true ∧ i < n := fun i f h ne => by
    rw [List.getElem?_mapIdx] at h
    obtain ⟨f0, h1, h2⟩ := Option.map_eq_some_iff.mp h
    have l : i < n := by
      have := (List.getElem?_eq_some_iff.mp h1).1
      rw [List.length_take] at this; omega
    rw [List.getElem?_take_of_lt l] at h1
    by_cases c : mt.contains i = true
    · rw [if_pos c] at h2
      exact ⟨h2 ▸ h1, c, l⟩
    · rw [if_neg c] at h2
      exact absurd h2.symm ne
  have sub : ∀ a ∈ ((Fs.take n).mapIdx fun i f => if mt.contains i = true then f else []).flatten, a ∈ Fs.flatten := fun a ha => by
    obtain ⟨i, f, hi, ha⟩ := fs_of ha
    exact fs_mem (get' i f hi fun z => by rw [z] at ha; cases ha).1 ha
  refine ⟨⟨by simp [maskG, hn]; omega, by simp [maskG]; omega, fun i d h => ?_, fun i h => ?_, ?_, fun a ha => r.out a (sub a ha), r.live⟩, sub, fun i f h ne => (get' i f h ne).1⟩
  · unfold maskG at h
    rw [List.getElem?_mapIdx] at h
    obtain ⟨o, h1, h2⟩ := Option.map_eq_some_iff.mp h
    have l : i < n := by
      have := (List.getElem?_eq_some_iff.mp h1).1
      rw [List.length_take] at this; omega
    rw [List.getElem?_take_of_lt l] at h1
    by_cases c : mt.contains i = true
    · rw [if_pos c] at h2
      subst h2
      obtain ⟨v, f, q1, q2, q3⟩ := r.at_ i d h1
      refine ⟨v, f, by rw [← hs i (List.contains_iff_mem.mp c) l]; exact q1, ?_, q3.imp fun a _ c => ⟨c.1, c.2.1, fun j f' hj ha => c.2.2 j f' (get' j f' hj fun z => by rw [z] at ha; cases ha).1 ha⟩⟩
      rw [List.getElem?_mapIdx, List.getElem?_take_of_lt l, q2, Option.map_some, if_pos c]
    · rw [if_neg c] at h2; cases h2
  · unfold maskG at h
    rw [List.getElem?_mapIdx] at h
    obtain ⟨o, h1, h2⟩ := Option.map_eq_some_iff.mp h
    have l : i < n := by
      have := (List.getElem?_eq_some_iff.mp h1).1
      rw [List.length_take] at this; omega
    rw [List.getElem?_take_of_lt l] at h1
    rw [List.getElem?_mapIdx, List.getElem?_take_of_lt l, List.getElem?_eq_getElem (show i < Fs.length by omega), Option.map_some]
    by_cases c : mt.contains i = true
    · rw [if_pos c] at h2 ⊢
      subst h2
      have := r.no i h1
      rw [List.getElem?_eq_getElem (show i < Fs.length by omega)] at this
      exact this
    · rw [if_neg c]
  · rw [nodup_fl]
    refine ⟨fun l hl => ?_, List.pairwise_iff_getElem.mpr fun p q hp hq l a ha ha' => ?_⟩
    · obtain ⟨i, hi⟩ := List.getElem?_of_mem hl
      by_cases z : l = []
      · rw [z]; exact List.nodup_nil
      · exact fs_one r.nd (get' i l hi z).1
    · have gp := get' p _ (List.getElem?_eq_getElem hp) fun z => by rw [z] at ha; cases ha
      have gq := get' q _ (List.getElem?_eq_getElem hq) fun z => by rw [z] at ha'; cases ha'
      exact fs_disj r.nd gp.1 gq.1 (Nat.ne_of_lt l) a ha ha'
end

section
variable {P : Program} {w : World} {K : PySem.W.Frag} {mg : Str → Option Value} {base :  Heap}
/-- the contexts of a def's body -/
def defFam (P : Program) (w : World) (K : PySem.W.Frag) (mg : Str → Option Value) (base : Heap) (N : List Str) (sc : Scope) (k : Nat) (nd : N.Nodup) : Fam where
  P := P
  w := w
  K := K
  mg := mg
  base := base
  N := N
  sc := sc
  k := k
  mem X := X.prog = P ∧ X.w = w ∧ X.K = K ∧ X.mg = mg ∧ X.base = base ∧ X.N = N ∧ X.env.scope = sc ∧ Room k X.A ∧ X.calm = true ∧ X.fn = (fun _ => true) ∧ PassesOwn (model X.prog X.w) X.A X.env X.xe
  pr _ h := h.1
  ww _ h := h.2.1
  kk _ h := h.2.2.1
  mm _ h := h.2.2.2.1
  bb _ h := h.2.2.2.2.1
  nn _ h := h.2.2.2.2.2.1
  ss _ h := h.2.2.2.2.2.2.1
  rr _ h := h.2.2.2.2.2.2.2.1
  cc _ h := h.2.2.2.2.2.2.2.2.1
  po _ h := h.2.2.2.2.2.2.2.2.2.2
  nd := nd
/-- THE RULE for a def -/
theorem fn_ok {x qual : Str} {st : Stmt} {f : Addr} {fd : FuncData} {N ps : List Str} {k n : Nat} {mt : List Nat} {fb : Sx} (F : Fun K x qual st f fd) (S : FnScope N ps (defScope st)) (hn : ps.length = n)
    (hb : PSsd (defFam P w K mg base N (defScope st) k S.nd) mt (defBody st) fb) :
    FnOk P w K mg base CX0 (k + 1) f fd ps (spD ⟨P, w, K⟩ n mt (fnD n (N.length - n) fb)) := by
  obtain ⟨t, p, q⟩ := hb
  refine F.ok S (fun vs H Q E h => ?_) (fun cdv A outer s H vs Q E hr h => ?_)
  · obtain ⟨B, T, ds, Fs, d, g', h1, h2, _⟩ := h
    have := h2.lg
    rw [List.length_map, List.length_map] at this
    omega
  · obtain ⟨B, T, ds, Fs, d, g', h1, h2, h3, h4⟩ := h
    have lv : vs.length = n := by
      have := h2.lg
      rw [List.length_map, List.length_map] at this
      omega
    refine ⟨t, p (cxOf CX0 P w K mg base N qual (defScope st) f cdv A outer s H E).nox ⟨rfl, rfl, rfl, rfl, rfl, rfl, rfl, hr, rfl, rfl, PassesOwn.never⟩, ?_⟩
    have r0 := h2.start (N.length - n)
    have st0 : L2.start N vs = vs.map some ++ List.replicate (N.length - n) none := by unfold L2.start; rw [lv]
    rw [st0]
    unfold fnD at h3
    rw [if_pos h1] at h3
    have fin : ∀ {d0 : D} {g0 : G} {v : V} {σ' : St} {H' : Hp} {Fs' : List (List Addr)} {F : List Addr}, SAft ⟨P, w, K⟩ B T mt (ds.map some ++ List.replicate (N.length - n) none) g0 (vs.map some ++ List.replicate (N.length - n) none) σ' H H' (Fs ++ List.replicate (N.length - n) []) Fs' F →
        Den ⟨P, w, K⟩ (Cl B (fun a => T a ∨ a ∈ F) Fs' ⟨false, []⟩) H' v d0 F → d0 = d → g0.take ds.length = g' → Q v H' := by
      intro d0 g0 v σ' H' Fs' F a Dn e1 e2
      subst e1 e2
      have fl : (Fs ++ List.replicate (N.length - n) []).flatten = Fs.flatten := by rw [List.flatten_append]; simp
      have lg0 : g0.length = ds.length + (N.length - n) := by rw [a.len]; simp
      obtain ⟨Fs2, m1, m2, m3⟩ := a.rel.masked mt (vs := vs) (n := ds.length) (by omega) (by omega) fun i hi l => by
        rw [a.pr i hi, List.getElem?_append_left (by rw [List.length_map]; omega)]
      refine h4 v H' Fs2 F m1 a.nd a.out (fun x hx => ?_) (a.kp.mono fun x hx => by rw [fl] at hx; exact hx) (fun x hx => ?_) (by rw [List.length_take]; omega) (Dn.imp fun x _ c => ⟨c.1, c.2.1, fun i f hi hx => c.2.2 i f (m3 i f hi fun z => by rw [z] at hx; cases hx) hx⟩)
      · have := a.src x hx
        rwa [fl] at this
      · have := a.sub x (m2 x hx)
        rwa [fl] at this
    split at h3
    · rename_i d0 g0 e
      cases h3
      exact q B T _ _ H _ (.rt d g0) _ r0 e fun v σ' H' Fs' F a Dn => fin a Dn rfl rfl
    · rename_i g0 e
      cases h3
      exact q B T _ _ H _ (.nx g0) _ r0 e fun σ' H' Fs' a => fin a .non rfl rfl
    · cases h3
/-- a def that stands in the module -/
structure FnD (P : Program) (w : World) (K : PySem.W.Frag) (mg : Str → Option Value) (base : Heap) (x : Str) (k n : Nat) (mt : List Nat) (m : List D → Option (D × G)) : Prop where
  len : ∀ ds r, m ds = some r → ds.length = n
  ex : ∃ (f : Addr) (fd : FuncData) (ps : List Str), mg x = some (.ref f) ∧ PySem.W.keepIn K (.ref f) = true ∧ Binds K fd ps [] ∧ FnOk P w K mg base CX0 k f fd ps (spD ⟨P, w, K⟩ n mt m)
end

@[simp] def xCall (m : List D → Option (D × G)) (f : Exs) : Ex := fun g => do
  let (ds, g1) ← f g
  let (d, _) ← m (D.shs ds)
  return (d, g1)
theorem D.xfs_get : ∀ {ds : List D} {i : Nat} {d : D}, D.xfs ds = true → ds[i]? = some d → d.xf = true
  | [], _, _, _, h => by simp at  h
  | d :: ds, 0, _, e, h => by
    simp at h; subst h
    have e' : d.xf = true ∧ D.xfs ds = true := by simpa [D.xfs] using e
    exact e'.1
  | d :: ds, i + 1, _, e, h => by
    have e' : d.xf = true ∧ D.xfs ds = true := by simpa [D.xfs] using e
    exact D.xfs_get e'.2 (by simpa using h)
theorem D.shs_length : ∀ ds : List D, (D.shs ds).length = ds.length
  | [] => rfl
  | d :: ds => by simp [D.shs, D.shs_length ds]
theorem Dens.get0 {b : Bs} {C : Addr → Prop} {H : Hp} : ∀ {vs : List V} {ds : List D} {i : Nat} {d : D}, Dens b C H vs ds [] → ds[i]? = some d → ∃ v, vs[i]? = some v ∧ Den b C H v d []
  | _, _, i, d, h, e => by
    obtain ⟨v, F0, h1, h2, _, h4⟩ := h.at' List.nodup_nil e
    have : F0 = [] := List.eq_nil_iff_forall_not_mem.mpr fun a ha => List.not_mem_nil (h4 a ha)
    subst this
    exact ⟨v, h1, h2⟩
theorem te_call {b : Bs} {t : TA} {l : Lv} {ms : List Nat} {f : Exs} {n : Nat} {m : List D → Option (D × G)} (h : TAd b t l ms f) (hn : ∀ ds r, m ds = some r → ds.length = n) : TEd b (tCall (spD b n [] m) [] E0 t) ⟨false, []⟩ ms (xCall m f) := by
  intro B T g σ H Fs d g' Q r e hq
  obtain ⟨⟨ds, g1⟩, e1, e⟩ := bind_some e
  obtain ⟨⟨d1, g2⟩, e2, e⟩ := bind_some e
  cases e
  refine h B T g σ H Fs ds g' _ r e1 fun vs H1 Fs1 F A Dn => ?_
  rw [List.append_nil]
  have A' := A.drop
  have Dn' : Dens b (Cl B T Fs1 l) H1 vs (D.shs ds) [] := (Dn.imp (C' := Cl B T Fs1 l) fun a _ c => ⟨c.1, fun z => c.2.1 (.inl z), c.2.2⟩).sh fun a ha => ⟨fun z => absurd z (A.out a ha).1, (A.out a ha).2, fun i f hi hf => absurd (Or.inr ha) (A.rel.out a (fs_mem hi hf)).2⟩
  have xf : D.xfs (D.shs ds) = true := D.xfs_shs ds
  have hl := hn _ _ e2
  have lvs : vs.length = (D.shs ds).length := Dn'.length
  refine ⟨fun a => B a ∨ a ∈ Fs1.flatten, T, D.shs ds, List.replicate n [], d, g2, hl, ⟨by rw [List.length_map, List.length_map]; exact lvs, by rw [List.length_replicate, List.length_map]; exact hl.symm, fun i d hd => ?_, fun i hi => ?_, by simp, by simp, fun a ha => ?_⟩, e2, fun v H' Fs' F0 r2 nd out src kp sub _ Dv => ?_⟩
  · rw [List.getElem?_map] at hd
    obtain ⟨d0, hd0, e0⟩ := Option.map_eq_some_iff.mp hd
    cases e0
    obtain ⟨v, h1, h2⟩ := Dn'.get0 hd0
    have li : i < n := by rw [← hl]; exact (List.getElem?_eq_some_iff.mp hd0).1
    refine ⟨v, [], by rw [List.getElem?_map, h1]; rfl, by rw [List.getElem?_replicate, if_pos li], h2.imp fun a _ c => ⟨fun _ => D.xfs_get xf hd0, c.2.1, fun j f hj ha => ?_⟩⟩
    rw [List.getElem?_replicate] at hj
    split at hj
    · cases hj; cases ha
    · cases hj
  · rw [List.getElem?_map] at hi
    cases q : (D.shs ds)[i]? with
    | none => rw [q] at hi; cases hi
    | some d => rw [q] at hi; cases hi
  · rcases ha with (ha | ha) | ha
    · exact A.rel.live a (.inl ha)
    · obtain ⟨i, f, hi, hf⟩ := fs_of ha
      exact A.rel.sl hi hf
    · exact A.rel.live a (.inr (.inl ha))
  · have kp0 : Kp (fun _ => False) H1 H' := kp.mono fun a ha => by simp at ha
    have src0 : ∀ a ∈ F0, H1 a = none := fun a ha => (src a ha).resolve_right (by simp)
    exact fin_op (l := ⟨false, []⟩) A' hq v H' F0 kp0 nd (fun a ha => .inr (src0 a ha)) (Dv.imp fun a la c => by
      by_cases z : H1 a = none
      · exact .inr ⟨.inr z, fun q => c.2.1 (.inr q)⟩
      · refine .inl ⟨⟨fun q => ?_, fun q => c.2.1 (q.elim .inl fun q => absurd q List.not_mem_nil), fun i f hi hf => ?_⟩, z⟩
        · have := c.1 (.inl q); cases this
        · have := c.1 (.inr (fs_mem hi hf)); cases this)
end DL

set_option Elab.async false
set_option linter.all false
set_option maxRecDepth 100000
namespace DL
open PySem L2

/-- items: a plain one, or a new tuple of some -/
inductive IDens (b : Bs) (C : Addr → Prop) (H : Hp) : List (Bool × List V) → List D → List Addr → Prop
  | nil : IDens b C H [] [] []
  | one {v : V} {d : D} {its : List (Bool × List V)} {ds : List D} {F F' : List Addr} : Den b C H v d F → IDens b C H its ds F' → IDens b C H ((true, [v]) :: its) (d :: ds) (F ++ F')
  | tup {vs : List V} {cs : List D} {its : List (Bool × List V)} {ds : List D} {F F' : List Addr} : Dens b C H vs cs F → IDens b C H its ds F' → IDens b C H ((false, vs) :: its) (.tup cs :: ds) (F ++ F')
theorem IDens.kp {b : Bs} {C C' : Addr → Prop} {M : Addr → Prop} {H H' : Hp} (k : Kp M H H') (hC : ∀ a, H a ≠ none → C a → ¬ M a ∧ C' a) :
    ∀ {its : List (Bool × List V)} {ds : List D} {F : List Addr}, IDens b C H its ds F → (∀ a ∈ F, ¬ M a) → IDens b C' H' its ds F
  | _, _, _, .nil, _ => .nil
  | _, _, _, .one h t, m => .one (h.kp k hC fun a ha => m a (List.mem_append_left _ ha)) (IDens.kp k hC t fun a ha => m a (List.mem_append_right _ ha))
  | _, _, _, .tup h t, m => .tup (h.kp k hC fun a ha => m a (List.mem_append_left _ ha)) (IDens.kp k hC t fun a ha => m a (List.mem_append_right _ ha))
theorem IDens.live {b : Bs} {C : Addr → Prop} {H : Hp} : ∀ {its : List (Bool × List V)} {ds : List D} {F : List Addr}, IDens b C H its ds F → ∀ a ∈ F, H a ≠ none
  | _, _, _, .nil, a, h => by cases h
  | _, _, _, .one h t, a, m => (List.mem_append.mp m).elim (h.live a) (IDens.live t a)
  | _, _, _, .tup h t, a, m => (List.mem_append.mp m).elim (h.live a) (IDens.live t a)
theorem IDens.length {b : Bs} {C : Addr → Prop} {H : Hp} : ∀ {its : List (Bool × List V)} {ds : List D} {F : List Addr}, IDens b C H its ds F → its.length = ds.length
  | _, _, _, .nil => rfl
  | _, _, _, .one _ t => congrArg (· + 1) (IDens.length t)
  | _, _, _, .tup _ t => congrArg (· + 1) (IDens.length t)
theorem IDens.plain {b : Bs} {C : Addr → Prop} {H : Hp} : ∀ {vs : List V} {ds : List D} {F : List Addr}, Dens b C H vs ds F → IDens b C H (vs.map fun v => (true, [v])) ds F
  | _, _, _, .nil => .nil
  | _, _, _, .cons h t => .one h (IDens.plain t)
/-- the iterator J gives the items ds; Fb: exclusive of the walked thing itself, F0: of the items -/
structure ItOk (b : Bs) (C : Addr → Prop) (J : It) (H : Hp) (its : List (Bool × List V)) (ds : List D) (Fb F0 : List Addr) (src : Hp → Prop) (S : Addr → Prop) : Prop where
  dens : IDens b C H its ds F0
  sl : ∀ a, S a → H a ≠ none ∧ (a ∈ Fb ∨ C a)
  st : ∀ (M : Addr → Prop) H1 H2, Kp M H1 H2 → (∀ a, S a → ¬ M a) → src H1 → src H2
  s0 : src H
  go : ∀ H1 i, src H1 → i < its.length → J.go i H1
  stop : ∀ H1 i, src H1 → its.length ≤ i → J.stop i H1
  yld : ∀ H1 (i : Nat) x H2 it, src H1 → its[i]? = some it → J.yld i H1 x H2 → (it.1 = true ∧ it.2 = [x] ∧ H2 = H1) ∨ (it.1 = false ∧ ∃ T, x = .ref T ∧ H1 T = none ∧ H2 = upd H1 T (.tup it.2))
abbrev Ix := G → Option (List D × G)
def TId (b : Bs) (wi : TI) (l : Lv) (ms : List Nat) (f : Ix) : Prop := ∀ (B T : Addr → Prop) (g : G) (σ : St) (H : Hp) (Fs : List (List Addr)) (ds : List D) (g' : G) (R : It → Hp → Prop), Rel b B T g σ H Fs → f g = some (ds, g') →
  (∀ J H' Fs' Fb F0 its src S, Aft b B T g g' σ ms H H' Fs Fs' (Fb ++ F0) → ItOk b (Cl B (fun a => T a ∨ a ∈ Fb ++ F0) Fs' l) J H' its ds Fb F0 src S → R J H') → wi σ H R

/-- one turn after another -/
@[simp] def forD (gt : Gx) (fb : Sx) : List D → Sx
  | [], g => some (.nx g)
  | d :: ds, g => match gt d g with
    | some g1 => match fb g1 with
      | some (.nx g2) => forD gt fb ds g2
      | some (.ct g2) => forD gt fb ds g2
      | some (.bk g2) => some (.nx g2)
      | some (.rt d g2) => some (.rt d g2)
      | none => none
    | none => none
@[simp] def sFor (fi : Ix) (gt : Gx) (fb : Sx) : Sx := fun g => match fi g with
  | some (ds, g1) => forD gt fb ds g1
  | none => none
section
variable {b : Bs} {pr : List Nat}
theorem SAft.weakT {B T T' : Addr → Prop} {g g' : G} {σ σ' : St} {H H' : Hp} {Fs Fs' : List (List Addr)} {F : List Addr} (h : ∀ a, T' a → T a) (a : SAft b B T pr g g' σ σ' H H' Fs Fs' F) : SAft b B T' pr g g' σ σ' H H' Fs Fs' F where
  rel := a.rel.weakT fun x z => z.imp (h x) id
  nd := a.nd
  out := fun x hx => ⟨(a.out x hx).1, fun z => (a.out x hx).2 (h x z)⟩
  src := a.src
  kp := a.kp
  sub := a.sub
  pr := a.pr
  len := a.len
theorem Post.weakT {B T T' : Addr → Prop} {g : G} {σ : St} {H : Hp} {Fs : List (List Addr)} {fl : Fl} {D : Ends} (h : ∀ a, T' a → T a) (p : Post b B T' pr g σ H Fs fl D) : Post b B T pr g σ H Fs fl D := by
  cases fl with
  | nx g' => exact fun σ' H' Fs' c => p σ' H' Fs' (c.weakT h)
  | bk g' => exact fun σ' H' Fs' c => p σ' H' Fs' (c.weakT h)
  | ct g' => exact fun σ' H' Fs' c => p σ' H' Fs' (c.weakT h)
  | rt d g' => exact fun v σ' H' Fs' F c Dn => p v σ' H' Fs' F (c.weakT h) (Dn.imp fun a _ q => ⟨q.1, fun z => q.2.1 (z.imp (h a) id), q.2.2⟩)
/-- what holds between two turns -/
structure Mid (b : Bs) (B T : Addr → Prop) (pr : List Nat) (its : List (Bool × List V)) (Fb : List Addr) (src : Hp → Prop) (S : Addr → Prop) (out : Bool) (g0 : G) (σ0 : St) (H0 : Hp) (Fs0 : List (List Addr)) (i : Nat) (ds : List D) (g : G) (σ : St) (H : Hp) (Fs : List (List Addr)) (Fi : List Addr) : Prop where
  sa : SAft b B T pr g0 g σ0 σ H0 H Fs0 Fs []
  rel : Rel b B (fun a => T a ∨ a ∈ Fb ++ Fi) g σ H Fs
  nd : (Fb ++ Fi).Nodup
  outs : ∀ a ∈ Fb ++ Fi, ¬ B a ∧ ¬ T a
  dens : IDens b (Cl B (fun a => T a ∨ a ∈ Fb ++ Fi) Fs ⟨out, []⟩) H (its.drop i) ds Fi
  sl : ∀ a, S a → H a ≠ none ∧ a ∉ Fs.flatten ∧ a ∉ Fi
  s0 : src H
  srcs : ∀ a ∈ Fb ++ Fi, H0 a = none ∨ a ∈ Fs0.flatten
theorem Lv.eta {l : Lv} (h : l.bs = []) : l = ⟨l.out, []⟩ := by cases l; cases h; rfl
theorem ts_for {wi : TI} {tg : TG} {tb : TS} {l : Lv} {ms iz : List Nat} {fi : Ix} {gt : Gx} {fb : Sx} (hi : TId b wi l ms fi) (ht : TGd b tg ⟨l.out, []⟩ iz gt) (hb : TSd b tb pr fb) (hl : l.bs = []) (hp : djb pr iz = true) : TSd b (tFor wi tg tb) pr (sFor fi gt fb) := by
  intro B T g σ H Fs fl D r e p
  unfold sFor at e
  split at e
  case h_2 => cases e
  rename_i ds0 g1 e1
  refine hi B T g σ H Fs ds0 g1 _ r e1 fun J H1 Fs1 Fb F0 its src S A ok => ?_
  have eta := Lv.eta hl
  rw [eta] at ok
  have lenI : its.length = ds0.length := ok.dens.length
  refine ⟨fun i m σ2 H2 => m = its.length - i ∧ i ≤ its.length ∧ ∃ ds2 g2 Fs2 Fi, Mid b B T pr its Fb src S l.out g σ H Fs i ds2 g2 σ2 H2 Fs2 Fi ∧ forD gt fb ds2 g2 = some fl, ⟨its.length, by omega, Nat.zero_le _, ds0, g1, Fs1, F0, ⟨A.drop.st r, A.rel, A.nd, A.out, by simpa using ok.dens, fun a ha => ?_, ok.s0, (A.st (pr := pr) r).src⟩, e⟩, ?_⟩
  · obtain ⟨h1, h2⟩ := ok.sl a ha
    refine ⟨h1, fun z => ?_, fun z => ?_⟩
    · obtain ⟨j, f, hj, hf⟩ := fs_of z
      rcases h2 with h2 | h2
      · exact (A.rel.out a z).2 (.inr (List.mem_append_left _ h2))
      · exact absurd (h2.2.2 j f hj hf) List.not_mem_nil
    · rcases h2 with h2 | h2
      · exact (List.nodup_append.mp A.nd).2.2 a h2 a z rfl
      · exact h2.2.1 (.inr (List.mem_append_right _ z))
  rintro i m σ2 H2 ⟨rfl, hi2, ds2, g2, Fs2, Fi, M, e2⟩
  by_cases hlt : i < its.length
  · refine .inr ⟨ok.go H2 i M.s0 hlt, ?_⟩
    obtain ⟨it, hit⟩ : ∃ it, its[i]? = some it := ⟨_, List.getElem?_eq_getElem hlt⟩
    have hdrop : its.drop i = it :: its.drop (i + 1) := by
      rw [List.drop_eq_getElem_cons  hlt]
      have := List.getElem?_eq_getElem hlt
      rw [hit] at this
      rw [Option.some.inj this]
    have md := M.dens
    rw [hdrop] at md
    -- the item's data, what is exclusive of it, and the rest
    have split : ∃ d ds3 Fx Fr, ds2 = d :: ds3 ∧ Fi = Fx ++ Fr ∧ IDens b (Cl B (fun a => T a ∨ a ∈ Fb ++ Fi) Fs2 ⟨l.out, []⟩) H2 (its.drop (i + 1)) ds3 Fr ∧
        ∀ x H3, J.yld i H2 x H3 → Kp (fun _ => False) H2 H3 ∧ Den b (Cl B (fun a => T a ∨ a ∈ Fb ++ Fi) Fs2 ⟨l.out, []⟩) H3 x d Fx := by
      cases md with
      | @one v d _ ds3 Fx Fr h t =>
        refine ⟨d, ds3, Fx, Fr, rfl, rfl, t, fun x H3 y => ?_⟩
        rcases ok.yld H2 i x H3 _ M.s0 hit y with ⟨_, q2, q3⟩ | ⟨q, _⟩
        · simp only [List.cons.injEq, and_true] at q2
          subst q2 q3
          exact ⟨Kp.refl, h⟩
        · cases q
      | @tup vs cs _ ds3 Fx Fr h t =>
        refine ⟨.tup cs, ds3, Fx, Fr, rfl, rfl, t, fun x H3 y => ?_⟩
        rcases ok.yld H2 i x H3 _ M.s0 hit y with ⟨q, _⟩ | ⟨_, Tt, q1, q2, q3⟩
        · cases q
        · subst q1 q3
          exact ⟨Kp.of_new q2, .tup (SqT.of upd_same) (h.kp (Kp.of_new (M := fun _ => False) q2) (fun a la c => ⟨id, c⟩) fun _ _ => id)⟩
    obtain ⟨d, ds3, Fx, Fr, rfl, rfl, rest, item⟩ := split
    have swp : ∀ a, (T a ∨ a ∈ Fb ++ (Fx ++ Fr)) ↔ ((T a ∨ a ∈ Fb ++ Fr) ∨ a ∈ Fx) := fun a => by
      simp only [List.mem_append]
      constructor
      · rintro (z | z | z | z)
        · exact .inl (.inl z)
        · exact .inl (.inr (.inl z))
        · exact .inr z
        · exact .inl (.inr (.inr z))
      · rintro ((z | z | z) | z)
        · exact .inl z
        · exact .inr (.inl z)
        · exact .inr (.inr (.inr z))
        · exact .inr (.inr (.inl z))
    obtain ⟨nb, nx0, nbx⟩ := List.nodup_append.mp M.nd
    obtain ⟨nx, nr, nxr⟩ := List.nodup_append.mp nx0
    have e3 := e2
    unfold forD at e3
    cases eg : gt d g2 with
    | none => rw [eg] at e3; cases e3
    | some g3 =>
    rw [eg] at e3
    simp only at e3
    cases efl : fb g3 with
    | none => rw [efl] at e3; cases e3
    | some fl3 =>
    rw [efl] at e3
    let Nn : St → Hp → Prop := fun σ' H' => ∃ g4 Fs4, Mid b B T pr its Fb src S l.out g σ H Fs (i + 1) ds3 g4 σ' H' Fs4 Fr ∧ forD gt fb ds3 g4 = some fl
    refine ⟨Nn, fun σ' H' ⟨g4, Fs4, M4, e4⟩ => ⟨its.length - (i + 1), by omega, rfl, hlt, ds3, g4, Fs4, Fr, M4, e4⟩, fun x H3 y => ?_⟩
    obtain ⟨k3, Dx⟩ := item x H3 y
    have k3f : ∀ {N : Addr → Prop}, Kp N H2 H3 := fun {N} => k3.mono fun _ z => z.elim
    -- the state at H3
    have rel3 : Rel b B (fun a => T a ∨ a ∈ Fb ++ (Fx ++ Fr)) g2 σ2 H3 Fs2 := ⟨M.rel.lg, M.rel.lf, fun j dj hj => by
        obtain ⟨v, f, h1, h2, h3⟩ := M.rel.at_ j dj hj
        exact ⟨v, f, h1, h2, h3.kp k3 (fun a _ c => ⟨id, c⟩) fun _ _ => id⟩, M.rel.no, M.rel.nd, M.rel.out, fun a ha => k3.live a (M.rel.live a ha)⟩
    refine ht B (fun a => T a ∨ a ∈ Fb ++ Fr) g2 σ2 H3 Fs2 Fx x d g3 _ (rel3.congr swp) (Dx.imp fun a _ c => ⟨c.1, fun z => c.2.1 ((swp a).mpr z), c.2.2⟩) nx (fun a ha => ⟨(M.outs a (List.mem_append_right _ (List.mem_append_left _ ha))).1, fun z => ?_⟩) eg fun σ3 Fs3 r3 lg3 p3 sub3 => ?_
    · rcases z with z | z
      · exact (M.outs a (List.mem_append_right _ (List.mem_append_left _ ha))).2 z
      · rcases List.mem_append.mp z with z | z
        · exact nbx a z a (List.mem_append_left _ ha) rfl
        · exact nxr a ha a z rfl
    -- behind the target
    have flat3 := fs_flat_sub sub3
    have sa3 : SAft b B T pr g g3 σ σ3 H H3 Fs Fs3 [] := by
      refine ⟨(r3.weakT fun a z => .inl (z.resolve_right List.not_mem_nil)), List.nodup_nil, by simp, by simp, Kp.trans' M.sa.kp k3 (fun _ z _ => z.elim), fun a ha => ?_, fun j hj => (p3 j (djb_of hp j hj)).1.trans (M.sa.pr j hj), lg3.trans M.sa.len⟩
      rcases flat3 a ha with z | z
      · exact M.sa.sub a z
      · exact (M.srcs a (List.mem_append_right _ (List.mem_append_left _ z))).symm
    -- the body's end goes on
    have s3 : src H3 := ok.st (fun _ => False) H2 H3 k3 (fun _ _ => id) M.s0
    have again : ∀ {g4 : G} {σ4 : St} {H4 : Hp} {Fs4 : List (List Addr)}, SAft b B (fun a => T a ∨ a ∈ Fb ++ Fr) pr g3 g4 σ3 σ4 H3 H4 Fs3 Fs4 [] → Mid b B T pr its Fb src S l.out g σ H Fs (i + 1) ds3 g4 σ4 H4 Fs4 Fr := by
      intro g4 σ4 H4 Fs4 c
      have subF : ∀ a, a ∈ Fb ++ Fr → a ∈ Fb ++ (Fx ++ Fr) := fun a ha => (List.mem_append.mp ha).elim (List.mem_append_left _) fun z => List.mem_append_right _ (List.mem_append_right _ z)
      have key : ∀ a, H3 a ≠ none → Cl B (fun a => T a ∨ a ∈ Fb ++ (Fx ++ Fr)) Fs2 ⟨l.out, []⟩ a → a ∉ Fs3.flatten := fun a la c1 z => by
        obtain ⟨j, f, hj, hf⟩ := fs_of z
        rcases sub3 j f hj a hf with z | ⟨f0, h0, z⟩
        · exact c1.2.1 (.inr (List.mem_append_right _ (List.mem_append_left _ z)))
        · exact absurd (c1.2.2 j f0 h0 z) List.not_mem_nil
      refine ⟨sa3.trans (c.weakT fun a z => .inl z), c.rel.nilT, List.nodup_append.mpr ⟨nb, nr, fun a ha x hx => nbx a ha x (List.mem_append_right _ hx)⟩, fun a ha => M.outs a (subF a ha), ?_, fun a ha => ?_, ?_, fun a ha => M.srcs a (subF a ha)⟩
      · have d3 := rest.kp (C' := Cl B (fun a => T a ∨ a ∈ Fb ++ (Fx ++ Fr)) Fs2 ⟨l.out, []⟩) k3 (fun a _ c => ⟨id, c⟩) (fun _ _ => id)
        refine d3.kp c.kp (fun a la c1 => ⟨key a la c1, c1.1, fun z => c1.2.1 (z.imp id (subF a)), fun j f hj hf => ?_⟩) fun a ha z => (r3.out a z).2 (.inr (List.mem_append_right _ ha))
        rcases c.sub a (fs_mem hj hf) with z | z
        · exact absurd z (key a la c1)
        · exact absurd z la
      · obtain ⟨h1, h2, h3⟩ := M.sl a ha
        have l3 := k3.live a h1
        refine ⟨c.kp.live a l3, fun z => ?_, fun z => h3 (List.mem_append_right _ z)⟩
        rcases c.sub a z with z | z
        · rcases flat3 a z with z | z
          · exact h2 z
          · exact h3 (List.mem_append_left _ z)
        · exact l3 z
      · refine ok.st _ H3 H4 c.kp (fun a ha z => ?_) s3
        obtain ⟨h1, h2, h3⟩ := M.sl a ha
        rcases flat3 a z with z | z
        · exact h2 z
        · exact h3 (List.mem_append_left _ z)
    refine hb B (fun a => T a ∨ a ∈ Fb ++ Fr) g3 σ3 H3 Fs3 fl3 _ r3 efl ?_
    cases fl3 with
    | nx g4 => exact fun σ4 H4 Fs4 c => ⟨g4, Fs4, again c, e3⟩
    | ct g4 => exact fun σ4 H4 Fs4 c => ⟨g4, Fs4, again c, e3⟩
    | bk g4 =>
      cases e3
      exact fun σ4 H4 Fs4 c => p σ4 H4 Fs4 (sa3.trans (c.weakT fun a z => .inl z))
    | rt d4 g4 =>
      cases e3
      exact fun v σ4 H4 Fs4 F c Dn => p v σ4 H4 Fs4 F (sa3.trans (c.weakT fun a z => .inl z)) (Dn.imp fun a _ q => ⟨q.1, fun z => q.2.1 (z.imp .inl id), q.2.2⟩)
  · have ei : i = its.length := by omega
    subst ei
    refine .inl ⟨ok.stop H2 _ M.s0 (Nat.le_refl _), ?_⟩
    have : ds2 = [] := by
      have h := M.dens.length
      rw [List.drop_of_length_le (Nat.le_refl _)] at h
      exact List.eq_nil_of_length_eq_zero h.symm
    subst this
    cases e2
    exact p σ2 H2 Fs2 M.sa
/-- while: at most n turns -/
def whileD (ct : Tx) (fb : Sx) : Nat → Sx
  | 0, _ => none
  | n + 1, g => match ct g with
    | some (true, g1) => match fb g1 with
      | some (.nx g2) => whileD ct fb n g2
      | some (.ct g2) => whileD ct fb n g2
      | some (.bk g2) => some (.nx g2)
      | some (.rt d g2) => some (.rt d g2)
      | none => none
    | some (false, g1) => some (.nx g1)
    | none => none
theorem ts_while {tc : TT} {tb : TS} {ms : List Nat} {ct : Tx} {fb : Sx} (n : Nat) (hc : TTd b tc ms ct) (hb : TSd b tb pr fb) : TSd b (tWhile tc tb) pr (whileD ct fb n) := by
  intro B T g σ H Fs fl D r e p
  refine ⟨fun m σ2 H2 => ∃ g2 Fs2, SAft b B T pr g g2 σ σ2 H H2 Fs Fs2 [] ∧ whileD ct fb m g2 = some fl, ⟨n, g, Fs, r.saft, e⟩, ?_⟩
  rintro m σ2 H2 ⟨g2, Fs2, sa, e2⟩
  cases m with
  | zero => cases e2
  | succ m =>
    unfold whileD at e2
    cases ec : ct g2 with
    | none => rw [ec] at e2; cases e2
    | some cg =>
      obtain ⟨c, g3⟩ := cg
      rw [ec] at e2
      refine hc B T g2 σ2 H2 Fs2 c g3 _ sa.rel.nilT ec fun H3 Fs3 A => ?_
      have sa3 := sa.trans (A.st sa.rel.nilT)
      cases c with
      | false =>
        cases e2
        rw [if_neg  Bool.false_ne_true]
        exact p σ2 H3 Fs3 sa3
      | true =>
        rw [if_pos rfl]
        cases ef : fb g3 with
        | none => simp only [ef] at e2; cases e2
        | some fl3 =>
          simp only [ef] at e2
          refine ⟨fun σ' H' => ∃ g4 Fs4, SAft b B T pr g g4 σ σ' H H' Fs Fs4 [] ∧ whileD ct fb m g4 = some fl, fun σ' H' h => ⟨m, Nat.lt_succ_self m, h⟩, ?_⟩
          refine hb B T g3 σ2 H3 Fs3 fl3 _ sa3.rel.nilT ef ?_
          cases fl3 with
          | nx g4 => exact fun σ4 H4 Fs4 c => ⟨g4, Fs4, sa3.trans c, e2⟩
          | ct g4 => exact fun σ4 H4 Fs4 c => ⟨g4, Fs4, sa3.trans c, e2⟩
          | bk g4 =>
            cases e2
            exact fun σ4 H4 Fs4 c => p σ4 H4 Fs4 (sa3.trans c)
          | rt d4 g4 =>
            cases e2
            exact fun v σ4 H4 Fs4 F c Dn => p v σ4 H4 Fs4 F (sa3.trans c) Dn
end

section
variable {b : Bs}
abbrev xIts (f : Ex) : Ix := fun g => match f g with
  | some (d, g') => d.its.map fun ds => (ds, g')
  | none => none
/-- the items of a list -/
@[simp] def xItl (f : Ex) : Ix := fun g => match f g with
  | some (.lst _ ds, g') => some (ds, g')
  | _ => none
@[simp] def xItt (f : Ex) : Ix := fun g => match f g with
  | some (.tup ds, g') => some (ds, g')
  | _ => none
theorem map_plain {vs : List V} {i : Nat} {it : Bool × List V} (h : (vs.map fun v => (true, [v]))[i]? = some it) : ∃ v, vs[i]? = some v ∧ it = (true, [v]) := by
  rw [List.getElem?_map] at h
  obtain ⟨v, h1, h2⟩ := Option.map_eq_some_iff.mp h
  exact ⟨v, h1, h2.symm⟩
theorem ti_list {t : TE} {l : Lv} {ms : List Nat} {f : Ex} {K : PySem.W.Frag} (hK : b.K = K) (h : TEd b t l ms f) : TId b (iList K t) l ms (xItl f) := by
  subst hK
  intro B T g σ H Fs ds g' R r e q
  unfold xItl at e
  split at e
  · rename_i x ds0 g0 e1
    cases e
    refine h B T g σ H Fs _ _ _ r e1 fun v H1 Fs1 F A Dn => ?_
    obtain ⟨a, vs, F', rfl, s, t, e4, e5⟩ := Dn.lst_inv
    refine ⟨a, rfl, ⟨vs, SqL.of s⟩, ?_⟩
    have eqF : F = (if x = true then [a] else []) ++ F' := by
      rw [e4]; cases x <;> rfl
    have e5' : x = false → Cl B (fun a => T a ∨ a ∈ F) Fs1 l a := fun z => (e5 z).2
    clear e4 e5
    subst eqF
    refine q _ H1 Fs1 _ F' (vs.map fun v => (true, [v])) (fun H => H a = some (.lst vs)) (fun c => c = a) A ⟨IDens.plain t, fun c hc => ?_, fun M H1 H2 k hs h => k.keep a _ (hs a rfl) h, s, fun H1 i h1 h2 => ?_, fun H1 i h1 h2 => ?_, fun H1 i x2 H2 it h1 h2 y => ?_⟩
    · subst hc
      refine ⟨by rw [s]; simp, ?_⟩
      cases x with
      | true => exact .inl (by simp)
      | false => exact .inr (e5' rfl)
    · rw [List.length_map] at h2
      exact ⟨vs, vs[i], SqL.of h1, List.getElem?_eq_getElem h2⟩
    · rw [List.length_map] at h2
      exact ⟨vs, SqL.of h1, h2⟩
    · obtain ⟨v, q1, q2⟩ := map_plain h2
      subst q2
      obtain ⟨y1, y2⟩ := y
      have := y2 vs (SqL.of h1)
      rw [q1] at this
      exact .inl ⟨rfl, by rw [Option.some.inj this], y1⟩
  · cases e
theorem ti_tup {t : TE} {l : Lv} {ms : List Nat} {f : Ex} {K : PySem.W.Frag} (hK : b.K = K) (h : TEd b t l ms f) : TId b (iTup K t) l ms (xItt f) := by
  subst hK
  intro B T g σ H Fs ds g' R r e q
  unfold xItt at e
  split at e
  · rename_i ds0 g0 e1
    cases e
    refine h B T g σ H Fs _ _ _ r e1 fun v H1 Fs1 F A Dn => ?_
    obtain ⟨a, vs, rfl, s, t⟩ := Dn.tup_inv
    refine ⟨a, rfl, ⟨vs, s⟩, ?_⟩
    refine q _ H1 Fs1 [] F (vs.map fun v => (true, [v])) (fun H => SqT b.K H a vs) (fun _ => False) A ⟨IDens.plain t, fun c hc => hc.elim, fun M H1 H2 k hs h => sqT_kp k h, s, fun H1 i h1 h2 => ?_, fun H1 i h1 h2 => ?_, fun H1 i x2 H2 it h1 h2 y => ?_⟩
    · rw [List.length_map] at h2
      exact ⟨vs, vs[i], h1, List.getElem?_eq_getElem h2⟩
    · rw [List.length_map] at h2
      exact ⟨vs, h1, h2⟩
    · obtain ⟨v, q1, q2⟩ := map_plain h2
      subst q2
      obtain ⟨y1, y2⟩ := y
      have := y2 vs h1
      rw [q1] at this
      exact .inl ⟨rfl, by rw [Option.some.inj this], y1⟩
  · cases e
/-- range(n) -/
@[simp] def xRg1 (f : Exs) : Ix := fun g => match f g with
  | some ([.int j], g') => if -(2 ^ 62) ≤ j ∧ j < 2 ^ 62 then some ((List.range j.toNat).map fun (i : Nat) => .int i, g') else none
  | _ => none
theorem idens_ints {C : Addr → Prop} {H : Hp} : ∀ ns : List Nat, IDens b C H (ns.map fun (i : Nat) => (true, [V.int i])) (ns.map fun (i : Nat) => D.int i) []
  | [] => .nil
  | n :: ns => .one (F := []) (F' := []) (.int n) (idens_ints ns)
theorem ti_rg1 {t : TA} {l : Lv} {ms : List Nat} {f : Exs} (h : TAd b t l ms f) : TId b (iRng1 t) ⟨false, []⟩ ms (xRg1 f) := by
  intro B T g σ H Fs ds g' R r e q
  unfold xRg1 at e
  split at e
  · rename_i j g0 e1
    split at e
    · rename_i hj
      cases e
      refine h B T g σ H Fs _ _ _ r e1 fun vs H1 Fs1 F A Dn => ?_
      obtain ⟨v, rfl, hd⟩ := dens1 Dn
      cases hd
      refine ⟨j, rfl, hj.1, hj.2, ?_⟩
      refine q _ H1 Fs1 [] [] _ (fun _ => True) (fun _ => False) A ⟨idens_ints _, fun c hc => hc.elim, fun _ _ _ _ _ _ => trivial, trivial, fun H1 i h1 h2 => ?_, fun H1 i h1 h2 => ?_, fun H1 i x2 H2 it h1 h2 y => ?_⟩
      · rw [List.length_map, List.length_range] at h2
        exact h2
      · rw [List.length_map, List.length_range] at h2
        exact h2
      · rw [List.getElem?_map] at h2
        obtain ⟨k, h3, h4⟩ := Option.map_eq_some_iff.mp h2
        obtain ⟨y1, y2⟩ := y
        have hk : k = i := by
          have := List.getElem?_eq_some_iff.mp h3
          obtain ⟨_, this⟩ := this
          rw [List.getElem_range] at this; exact this.symm
        subst hk h4
        refine .inl ⟨rfl, ?_, y1⟩
        rw [y2, Int.zero_add]
    · cases e
  · cases e
end
end DL

set_option Elab.async false
set_option linter.all false
set_option maxRecDepth 100000
namespace DL
open PySem L2

@[simp] def wipeL {α : Type} (x : α) (l : List α) : List Nat → List α
  | [] => l
  | v :: vs => (wipeL x l vs).set v x
theorem wipe_eq (σ : St) : ∀ vs : List Nat, wipe σ vs = wipeL none σ vs
  | [] => rfl
  | v :: vs => by show (wipe σ vs).set v none = _; rw [wipe_eq σ vs]; rfl
theorem wipeL_len {α : Type} {x : α} {l : List α} : ∀ vs : List Nat, (wipeL x l vs).length = l.length
  | [] => rfl
  | v :: vs => by show ((wipeL x l vs).set v x).length = _; rw [List.length_set, wipeL_len vs]
theorem wipeL_out {α : Type} {x : α} {l : List α} {i : Nat} : ∀ {vs : List Nat}, i ∉ vs → (wipeL x l vs)[i]? = l[i]?
  | [], _ => rfl
  | v :: vs, h => by
    show ((wipeL x l vs).set v x)[i]? = _
    rw [List.getElem?_set_ne (fun z => h (by rw [z]; exact List.mem_cons_self)), wipeL_out fun z => h (List.mem_cons_of_mem _ z)]
theorem wipeL_in {α : Type} {x : α} {l : List α} {i : Nat} : ∀ {vs : List Nat}, i ∈ vs → i < l.length → (wipeL x l vs)[i]? = some x
  | v :: vs, h, hi => by
    show ((wipeL x l vs).set v x)[i]? = _
    by_cases e : v = i
    · subst e
      rw [List.getElem?_set_self (by rw [wipeL_len]; exact hi)]
    · rw [List.getElem?_set_ne e, wipeL_in ((List.mem_cons.mp h).resolve_left fun z => e z.symm) hi]
theorem wipeL_ext {α : Type} {x : α} {l l' : List α} {vs : List Nat} (hl : l'.length = l.length) (h : ∀ i, i ∉ vs → l'[i]? = l[i]?) : wipeL x l' vs = wipeL x l vs := by
  apply List.ext_getElem?
  intro i
  by_cases hv : i ∈ vs
  · by_cases hi : i < l.length
    · rw [wipeL_in hv hi, wipeL_in hv (by omega)]
    · rw [List.getElem?_eq_none (by rw [wipeL_len]; omega), List.getElem?_eq_none (by rw [wipeL_len]; omega)]
  · rw [wipeL_out hv, wipeL_out hv, h i hv]
theorem Rel.unset {b : Bs} {B T : Addr → Prop} {g : G} {σ : St} {H : Hp} {Fs : List (List Addr)} (i : Nat) (r : Rel b B T g σ H Fs) : Rel b B T (g.set i none) (σ.set i none) H (Fs.set i []) := by
  have get' : ∀ (j : Nat) (f : List Addr), (Fs.set i [])[j]? = some f → f ≠ [] → Fs[j]? = some f := fun j f hj n => by
    by_cases e : i = j
    · subst e
      by_cases l : i < Fs.length
      · rw [List.getElem?_set_self l] at hj
        exact absurd (Option.some.inj hj).symm n
      · rw [List.getElem?_eq_none (by rw [List.length_set]; omega)] at hj; cases hj
    · rwa [List.getElem?_set_ne e] at hj
  have mem' : ∀ (j : Nat) (f : List Addr) a, (Fs.set i [])[j]? = some f → a ∈ f → Fs[j]? = some f := fun j f a hj ha => get' j f hj fun z => by rw [z] at ha; exact List.not_mem_nil ha
  refine ⟨by rw [List.length_set, List.length_set]; exact r.lg, by rw [List.length_set, List.length_set]; exact r.lf, fun j d hj => ?_, fun j hj => ?_, fs_set r.nd List.nodup_nil (by simp), fun a ha => ?_, r.live⟩
  · by_cases e : i = j
    · subst e
      by_cases l : i < g.length
      · rw [List.getElem?_set_self l] at hj; cases hj
      · rw [List.getElem?_eq_none (by rw [List.length_set]; omega)] at hj; cases hj
    · rw [List.getElem?_set_ne e] at hj
      obtain ⟨v, f, h1, h2, h3⟩ := r.at_ j d hj
      exact ⟨v, f, by rw [List.getElem?_set_ne e]; exact h1, by rw [List.getElem?_set_ne e]; exact h2, h3.imp fun a _ c => ⟨c.1, c.2.1, fun k f' hk ha => c.2.2 k f' (mem' k f' a hk ha) ha⟩⟩
  · by_cases e : i = j
    · subst e
      by_cases l : i < Fs.length
      · rw [List.getElem?_set_self l]
      · rw [List.getElem?_eq_none (by rw [List.length_set, ← r.lf]; omega)] at hj; cases hj
    · rw [List.getElem?_set_ne e] at hj ⊢
      exact r.no j hj
  · obtain ⟨j, f, hj, ha⟩ := fs_of ha
    exact r.out a (fs_mem (mem' j f a hj ha) ha)
theorem Rel.wiped {b : Bs} {B T : Addr → Prop} {g : G} {σ : St} {H : Hp} {Fs : List (List Addr)} (r : Rel b B T g σ H Fs) : ∀ vs : List Nat, Rel b B T (wipeL none g vs) (wipeL none σ vs) H (wipeL [] Fs vs)
  | [] => r
  | v :: vs => (r.wiped vs).unset v

/-- the names of the block itself: nothing exclusive stands there -/
@[simp] def ownOk (vs : List Nat) (g : G) : Bool := vs.all fun v => match g[v]? with
  | some (some d) => d.xf
  | some none => true
  | none => false
@[simp] def backL (g0 : G) (g : G) : List Nat → G
  | [] => g
  | v :: vs => (backL g0 g vs).set v (g0[v]?.join)
theorem backL_len {g0 g : G} : ∀ vs : List Nat, (backL g0 g vs).length = g.length
  | [] => rfl
  | v :: vs => by show ((backL g0 g vs).set v _).length = _; rw [List.length_set, backL_len vs]
theorem backL_out {g0 g : G} {i : Nat} : ∀ {vs : List Nat}, i ∉ vs → (backL g0 g vs)[i]? = g[i]?
  | [], _ => rfl
  | v :: vs, h => by
    show ((backL g0 g vs).set v _)[i]? = _
    rw [List.getElem?_set_ne (fun z => h (by rw [z]; exact List.mem_cons_self)), backL_out fun z => h (List.mem_cons_of_mem _ z)]
theorem backL_in {g0 g : G} {i : Nat} : ∀ {vs : List Nat}, i ∈ vs → i < g.length → (backL g0 g vs)[i]? = some (g0[i]?.join)
  | v :: vs, h, hi => by
    show ((backL g0 g vs).set v _)[i]? = _
    by_cases e : v = i
    · subst e
      rw [List.getElem?_set_self (by rw [backL_len]; exact hi)]
    · rw [List.getElem?_set_ne e, backL_in ((List.mem_cons.mp h).resolve_left fun z => e z.symm) hi]
/-- the turns of a comprehension -/
@[simp] def lcD (gt : Gx) (ct : Tx) (fe : Ex) (vs : List Nat) : List D → List D → G → Option (List D × G)
  | [], acc, g => some (acc, g)
  | d :: ds, acc, g => match gt d g with
    | some g1 => match ct g1 with
      | some (true, g2) => match fe g2 with
        | some (y, g3) => if acc.length < sizeLine then lcD gt ct fe vs ds (acc ++ [y]) (wipeL none g3 vs) else none
        | none => none
      | some (false, g2) => lcD gt ct fe vs ds acc (wipeL none g2 vs)
      | none => none
    | none => none
@[simp] def xLc (fi : Ix) (gt : Gx) (ct : Tx) (fe : Ex) (vs : List Nat) : Ex := fun g => match fi g with
  | some (ds, g1) => if ownOk vs g1 = true then match lcD gt ct fe vs ds [] (wipeL none g1 vs) with
    | some (acc, g2) => some (.lst true acc, backL g1 g2 vs)
    | none => none else none
  | none => none
/-- between two turns -/
structure LMid (b : Bs) (B T : Addr → Prop) (its : List (Bool × List V)) (Fb : List Addr) (src : Hp → Prop) (S : Addr → Prop) (out : Bool) (le : Lv) (mz vs : List Nat) (Dl : Addr) (g0 : G) (σw : St) (H0 : Hp) (Fs0 : List (List Addr)) (i : Nat) (ds acc : List D) (g : G) (H : Hp) (Fs : List (List Addr)) (Fi Fa : List Addr) (avs : List V) : Prop where
  rel : Rel b B (fun a => T a ∨ a ∈ Fb ++ (Fi ++ (Dl :: Fa))) g σw H Fs
  nd : (Fb ++ (Fi ++ (Dl :: Fa))).Nodup
  outs : ∀ a ∈ Fb ++ (Fi ++ (Dl :: Fa)), ¬ B a ∧ ¬ T a
  srcs : ∀ a ∈ Fb ++ (Fi ++ (Dl :: Fa)), H0 a = none ∨ ∃ i ∈ mz, ∃ f, Fs0[i]? = some f ∧ a ∈ f
  kp : Kp (fun a => ∃ i ∈ mz, ∃ f, Fs0[i]? = some f ∧ a ∈ f) H0 H
  same : ∀ i : Nat, i ∉ mz → i ∉ vs → Fs[i]? = Fs0[i]? ∧ g[i]? = g0[i]?
  own : ∀ i ∈ vs, i < g0.length → g[i]? = some none
  sub : ∀ (i : Nat) (f f' : List Addr), Fs0[i]? = some f → Fs[i]? = some f' → ∀ a ∈ f', a ∈ f ∨ H0 a = none
  len : g.length = g0.length
  dens : IDens b (Cl B (fun a => T a ∨ a ∈ Fb ++ (Fi ++ (Dl :: Fa))) Fs ⟨out, []⟩) H (its.drop i) ds Fi
  hD : H Dl = some (.lst avs)
  dacc : Dens b (Cl B (fun a => T a ∨ a ∈ Fb ++ (Fi ++ (Dl :: Fa))) Fs le) H avs acc Fa
  sl : ∀ a, S a → H a ≠ none ∧ a ∉ Fs.flatten ∧ a ∉ Fi ++ (Dl :: Fa)
  s0 : src H
theorem Rel.step {b : Bs} {B T T' M : Addr → Prop} {g : G} {σ : St} {H H' : Hp} {Fs : List (List Addr)} (r : Rel b B T g σ H Fs) (k : Kp M H H') (hM : ∀ a, M a → T a) (hT : ∀ a, T' a → H' a ≠ none ∧ (T a ∨ H a = none)) : Rel b B T' g σ H' Fs where
  lg := r.lg
  lf := r.lf
  at_ := fun i d hd => by
    obtain ⟨v, f, h1, h2, h3⟩ := r.at_ i d hd
    refine ⟨v, f, h1, h2, h3.kp k (fun a la c => ⟨fun z => c.2.1 (hM a z), c.1, fun z => ?_, c.2.2⟩) fun a ha z => (r.out a (fs_mem h2 ha)).2 (hM a z)⟩
    rcases (hT a z).2 with z | z
    · exact c.2.1 z
    · exact la z
  no := r.no
  nd := r.nd
  out := fun a ha => ⟨(r.out a ha).1, fun z => by
    obtain ⟨i, f, hf, hm⟩ := fs_of ha
    rcases (hT a z).2 with z | z
    · exact (r.out a ha).2 z
    · exact r.sl hf hm z⟩
  live := fun a ha => ha.elim (fun z => k.live a (r.live a (.inl z))) fun z => (hT a z).1
theorem wipeF_sub {Fs : List (List Addr)} {vs : List Nat} {i : Nat} {f : List Addr} (h : (wipeL [] Fs vs)[i]? = some f) {a : Addr} (ha : a ∈ f) : Fs[i]? = some f ∧ i ∉ vs := by
  by_cases hv : i ∈ vs
  · by_cases hi : i < Fs.length
    · rw [wipeL_in hv hi] at h
      have : ([] : List Addr) = f := Option.some.inj h
      rw [← this] at ha; exact absurd ha List.not_mem_nil
    · rw [List.getElem?_eq_none (by rw [wipeL_len]; omega)] at h; cases h
  · rw [wipeL_out hv] at h; exact ⟨h, hv⟩
section
variable {b : Bs}
theorem te_lc {wi : TI} {tg : TG} {tt : TT} {te : TE} {l le : Lv} {ms mc me iz vs : List Nat} {fi : Ix} {gt : Gx} {ct : Tx} {fe : Ex} (hi : TId b wi l ms fi) (ht : TGd b tg ⟨l.out, []⟩ iz gt) (hc : TTd b tt mc ct) (he : TEd b te le me fe)
    (hl : l.bs = []) (hiz : ∀ i ∈ iz, i ∈ vs) (hdis : djb vs (ms ++ (mc ++ me)) = true) (hle : djb le.bs (mc ++ me) = true) (hlv : djb le.bs vs = true) : TEd b (tLc wi tg tt te vs) le (ms ++ (mc ++ me)) (xLc fi gt ct fe vs) := by
  intro B T g σ H Fs d g' Q r e q
  unfold xLc at e
  split at e
  case h_2 => cases e
  rename_i ds0 g1 e1
  split at e
  case isFalse => cases e
  rename_i hown
  split at e
  case h_2 => cases e
  rename_i acc g2 e2
  cases e
  refine hi B T g σ H Fs ds0 g1 _ r e1 fun J H1 Fs1 Fb F0 its src S A ok => fun Dl hDl => ?_
  rw [Lv.eta hl] at ok
  have lenI : its.length = ds0.length := ok.dens.length
  have dv := djb_of hdis
  have dle := djb_of hle
  -- the block's own names stand for nothing exclusive
  have own1 : ∀ v ∈ vs, v < g1.length → Fs1[v]? = some [] := fun v hv lv => by
    have h := List.all_eq_true.mp hown v hv
    rw [List.getElem?_eq_getElem lv] at h
    cases z : g1[v] with
    | none => exact A.rel.no v (by rw [List.getElem?_eq_getElem lv, z])
    | some dd =>
      rw [z] at h
      obtain ⟨v1, f, _, h2, h3⟩ := A.rel.at_ v dd (by rw [List.getElem?_eq_getElem lv, z])
      rw [h2, h3.xf h]
  have wF : wipeL [] Fs1 vs = Fs1 := by
    apply List.ext_getElem?
    intro i
    by_cases hv : i ∈ vs
    · by_cases hi : i < Fs1.length
      · rw [wipeL_in hv hi, own1 i hv (by rw [← A.rel.lf]; exact hi)]
      · rw [List.getElem?_eq_none (by rw [wipeL_len]; omega), List.getElem?_eq_none (by omega)]
    · rw [wipeL_out hv]
  have nDF : ∀ a ∈ Fb ++ F0, a ≠ Dl := fun a ha z => A.rel.live a (.inr (.inr ha)) (z ▸ hDl)
  have kD : ∀ {M : Addr → Prop}, Kp M H1 (upd H1 Dl (.lst [])) := fun {M} => Kp.of_new hDl
  have dead : H Dl = none := by
    by_cases z : H Dl = none
    · exact z
    · exact absurd hDl (A.kp.live Dl z)
  refine ⟨fun i m Hc => m = its.length - i ∧ i ≤ its.length ∧ ∃ ds2 acc2 gc Fsc Fi Fa avs, LMid b B T its Fb src S l.out le (ms ++ (mc ++ me)) vs Dl g (wipeL none σ vs) H Fs i ds2 acc2 gc Hc Fsc Fi Fa avs ∧ lcD gt ct fe vs ds2 acc2 gc = some (acc, g2),
    ⟨its.length, by omega, Nat.zero_le _, ds0, [], wipeL none g1 vs, Fs1, F0, [], [], ⟨?_, ?_, fun a ha => ?_, fun a ha => ?_, ?_, fun i h1 h2 => ?_, fun i h1 h2 => ?_, A.sub, by rw [wipeL_len]; exact A.len, ?_, upd_same, .nil, fun a ha => ?_, ?_⟩, e2⟩, ?_⟩
  · have w := (A.rel.step (T' := fun a => T a ∨ a ∈ Fb ++ (F0 ++ [Dl])) (kD (M := fun _ => False)) (fun _ z => z.elim) (fun a z => ?_)).wiped vs
    · rw [wF] at w; exact w
    · have : T a ∨ a ∈ Fb ++ F0 ∨ a = Dl := by
        simp only [List.mem_append, List.mem_singleton] at z ⊢
        rcases z with z | z | z | z
        · exact .inl z
        · exact .inr (.inl (.inl z))
        · exact .inr (.inl (.inr z))
        · exact .inr (.inr z)
      rcases this with z | z | z
      · exact ⟨kD (M := fun _ => False) |>.live a (A.rel.live a (.inr (.inl z))), .inl (.inl z)⟩
      · exact ⟨kD (M := fun _ => False) |>.live a (A.rel.live a (.inr (.inr z))), .inl (.inr z)⟩
      · subst z; exact ⟨by rw [upd_same]; simp, .inr hDl⟩
  · rw [← List.append_assoc]
    exact List.nodup_append.mpr ⟨A.nd, by simp, fun a ha c hc => by rw [List.mem_singleton] at hc; rw [hc]; exact nDF a ha⟩
  · rw [← List.append_assoc] at ha
    rcases List.mem_append.mp ha with z | z
    · exact A.out a z
    · rw [List.mem_singleton] at z
      subst z
      exact ⟨fun z => A.rel.live a (.inl z) hDl, fun z => A.rel.live a (.inr (.inl z)) hDl⟩
  · rw [← List.append_assoc] at ha
    rcases List.mem_append.mp ha with z | z
    · exact (A.src a z).imp id fun ⟨i, h, x⟩ => ⟨i, List.mem_append_left _ h, x⟩
    · rw [List.mem_singleton] at z
      subst z; exact .inl dead
  · exact Kp.trans' (A.kp.mono fun a ⟨i, h, x⟩ => ⟨i, List.mem_append_left _ h, x⟩) (kD (M := fun _ => False)) fun _ z _ => z.elim
  · have h3 := A.same i fun z => h1 (List.mem_append_left _ z)
    exact ⟨h3.1, by rw [wipeL_out h2]; exact h3.2⟩
  · exact wipeL_in h1 (by rw [A.len]; exact h2)
  · rw [List.drop_zero]
    refine ok.dens.kp (kD (M := fun _ => False)) (fun a la c => ⟨id, c.1, fun z => c.2.1 ?_, c.2.2⟩) fun _ _ => id
    rcases z with z | z
    · exact .inl z
    · rw [← List.append_assoc] at z
      rcases List.mem_append.mp z with z | z
      · exact .inr z
      · rw [List.mem_singleton] at z
        subst z; exact absurd hDl la
  · obtain ⟨h1, h2⟩ := ok.sl a ha
    refine ⟨(kD (M := fun _ => False)).live a h1, fun z => ?_, fun z => ?_⟩
    · obtain ⟨j, f, hj, hf⟩ := fs_of z
      rcases h2 with h2 | h2
      · exact (A.rel.out a z).2 (.inr (List.mem_append_left _ h2))
      · exact absurd (h2.2.2 j f hj hf) List.not_mem_nil
    · rcases List.mem_append.mp z with z | z
      · rcases h2 with h2 | h2
        · exact (List.nodup_append.mp A.nd).2.2 a h2 a z rfl
        · exact h2.2.1 (.inr (List.mem_append_right _ z))
      · rw [List.mem_singleton] at z
        subst z; exact h1 hDl
  · exact ok.st (fun _ => False) _ _ kD (fun _ _ => id) ok.s0
  rintro i m Hc ⟨rfl, hi2, ds2, acc2, gc, Fsc, Fi, Fa, avs, M, e3⟩
  by_cases hlt : i < its.length
  · refine .inr ⟨ok.go Hc i M.s0 hlt, ?_⟩
    obtain ⟨it, hit⟩ : ∃ it, its[i]? = some it := ⟨_, List.getElem?_eq_getElem hlt⟩
    have hdrop : its.drop i = it :: its.drop (i + 1) := by
      rw [List.drop_eq_getElem_cons  hlt]
      have h := List.getElem?_eq_getElem hlt
      rw [hit] at h
      rw [Option.some.inj h]
    have md := M.dens
    rw [hdrop] at md
    have split : ∃ d ds3 Fx Fr, ds2 = d :: ds3 ∧ Fi = Fx ++ Fr ∧ IDens b (Cl B (fun a => T a ∨ a ∈ Fb ++ (Fi ++ (Dl :: Fa))) Fsc ⟨l.out, []⟩) Hc (its.drop (i + 1)) ds3 Fr ∧
        ∀ x H3, J.yld i Hc x H3 → Kp (fun _ => False) Hc H3 ∧ Den b (Cl B (fun a => T a ∨ a ∈ Fb ++ (Fi ++ (Dl :: Fa))) Fsc ⟨l.out, []⟩) H3 x d Fx := by
      cases md with
      | @one v d _ ds3 Fx Fr h t =>
        refine ⟨d, ds3, Fx, Fr, rfl, rfl, t, fun x H3 y => ?_⟩
        rcases ok.yld Hc i x H3 _ M.s0 hit y with ⟨_, q2, q3⟩ | ⟨q, _⟩
        · simp only [List.cons.injEq, and_true] at q2
          subst q2 q3
          exact ⟨Kp.refl, h⟩
        · cases q
      | @tup us cs _ ds3 Fx Fr h t =>
        refine ⟨.tup cs, ds3, Fx, Fr, rfl, rfl, t, fun x H3 y => ?_⟩
        rcases ok.yld Hc i x H3 _ M.s0 hit y with ⟨q, _⟩ | ⟨_, Tt, q1, q2, q3⟩
        · cases q
        · subst q1 q3
          exact ⟨Kp.of_new q2, .tup (SqT.of upd_same) (h.kp (Kp.of_new (M := fun _ => False) q2) (fun a la c => ⟨id, c⟩) fun _ _ => id)⟩
    obtain ⟨d, ds3, Fx, Fr, rfl, rfl, rest, item⟩ := split
    -- what is under way behind the target
    let R : List Addr := Fb ++ (Fr ++ (Dl :: Fa))
    have swp : ∀ a, (T a ∨ a ∈ Fb ++ ((Fx ++ Fr) ++ (Dl :: Fa))) ↔ ((T a ∨ a ∈ R) ∨ a ∈ Fx) := fun a => by
      simp only [R, List.mem_append]
      constructor
      · rintro (z | z | (z | z) | z)
        · exact .inl (.inl z)
        · exact .inl (.inr (.inl z))
        · exact .inr z
        · exact .inl (.inr (.inr (.inl z)))
        · exact .inl (.inr (.inr (.inr z)))
      · rintro ((z | z | z | z) | z)
        · exact .inl z
        · exact .inr (.inl z)
        · exact .inr (.inr (.inl (.inr z)))
        · exact .inr (.inr (.inr z))
        · exact .inr (.inr (.inl (.inl z)))
    have subR : ∀ a, a ∈ R → a ∈ Fb ++ ((Fx ++ Fr) ++ (Dl :: Fa)) := fun a ha => by
      simp only [R, List.mem_append] at ha ⊢
      rcases ha with z | z | z
      · exact .inl z
      · exact .inr (.inl (.inr z))
      · exact .inr (.inr z)
    obtain ⟨nb, n1, nb1⟩ := List.nodup_append.mp M.nd
    obtain ⟨nxr, nda, nxa⟩ := List.nodup_append.mp n1
    obtain ⟨nx, nr, nxr'⟩ := List.nodup_append.mp nxr
    have ndR : R.Nodup := List.nodup_append.mpr ⟨nb, List.nodup_append.mpr ⟨nr, nda, fun a ha c hc => nxa a (List.mem_append_right _ ha) c hc⟩, fun a ha c hc => nb1 a ha c (by
      rcases List.mem_append.mp hc with z | z
      · exact List.mem_append_left _ (List.mem_append_right _ z)
      · exact List.mem_append_right _ z)⟩
    have xR : ∀ a ∈ Fx, a ∉ R := fun a ha z => by
      rcases List.mem_append.mp z with z | z
      · exact nb1 a z a (List.mem_append_left _ (List.mem_append_left _ ha)) rfl
      · rcases List.mem_append.mp z with z | z
        · exact nxr' a ha a z rfl
        · exact nxa a (List.mem_append_left _ ha) a z rfl
    have xO : ∀ a ∈ Fx, ¬ B a ∧ ¬ T a := fun a ha => M.outs a (List.mem_append_right _ (List.mem_append_left _ (List.mem_append_left _ ha)))
    unfold lcD at e3
    cases eg : gt d gc with
    | none => rw [eg] at e3; cases e3
    | some g3 =>
    rw [eg] at e3
    simp only at e3
    cases ec : ct g3 with
    | none => rw [ec] at e3; cases e3
    | some cg =>
    obtain ⟨c, g4⟩ := cg
    rw [ec] at e3
    let Nx : Hp → Prop := fun H' => ∃ acc3 g5 Fs5 Fa5 avs5, LMid b B T its Fb src S l.out le (ms ++ (mc ++ me)) vs Dl g (wipeL none σ vs) H Fs (i + 1) ds3 acc3 g5 H' Fs5 Fr Fa5 avs5 ∧ lcD gt ct fe vs ds3 acc3 g5 = some (acc, g2)
    refine ⟨Nx, fun H' ⟨acc3, g5, Fs5, Fa5, avs5, M5, e5⟩ => ⟨its.length - (i + 1), by omega, rfl, hlt, ds3, acc3, g5, Fs5, Fr, Fa5, avs5, M5, e5⟩, fun x H3 y => ?_⟩
    obtain ⟨k3, Dx⟩ := item x H3 y
    have rel3 : Rel b B (fun a => T a ∨ a ∈ Fb ++ ((Fx ++ Fr) ++ (Dl :: Fa))) gc (wipeL none σ vs) H3 Fsc := M.rel.step k3 (fun _ z => z.elim) fun a z => ⟨k3.live a (M.rel.live a (.inr z)), .inl z⟩
    rw [wipe_eq σ vs]
    refine ht B (fun a => T a ∨ a ∈ R) gc _ H3 Fsc Fx x d g3 _ (rel3.congr swp) (Dx.imp fun a _ c => ⟨c.1, fun z => c.2.1 ((swp a).mpr z), c.2.2⟩) nx (fun a ha => ⟨(xO a ha).1, fun z => z.elim (xO a ha).2 (xR a ha)⟩) eg fun σ3 Fs3 r3 lg3 p3 sub3 => ?_
    have lsig : σ3.length = (wipeL none σ vs).length := by
      have h1 := r3.lg
      have h2 := M.rel.lg
      omega
    have wsig : wipeL none σ3 vs = wipeL none σ vs := by
      rw [wipeL_ext lsig (vs := vs) fun j hj => (p3 j fun z => hj (hiz j z)).1]
      apply List.ext_getElem?
      intro j
      by_cases hv : j ∈ vs
      · by_cases hj : j < σ.length
        · rw [wipeL_in hv (by rw [wipeL_len]; exact hj), wipeL_in hv hj]
        · rw [List.getElem?_eq_none (by rw [wipeL_len, wipeL_len]; omega), List.getElem?_eq_none (by rw [wipeL_len]; omega)]
      · rw [wipeL_out hv]
    refine ⟨by rw [wipe_eq]; exact wsig, ?_⟩
    have k3f : Kp (fun a => ∃ i ∈ ms ++ (mc ++ me), ∃ f, Fs[i]? = some f ∧ a ∈ f) H H3 := Kp.trans' M.kp k3 fun _ z _ => z.elim
    have s3 : src H3 := ok.st (fun _ => False) Hc H3 k3 (fun _ _ => id) M.s0
    have dead3 : ∀ a, H3 a = none → H a = none := fun a z => by
      by_cases w : H a = none
      · exact w
      · exact absurd z (k3f.live a w)
    have hD3 : H3 Dl = some (.lst avs) := k3.keep Dl _ id M.hD
    have lenF : Fs.length = Fsc.length := by rw [r.lf, M.rel.lf, M.len]
    -- a slot's exclusive things behind the target
    have in3 : ∀ (j : Nat) f, Fs3[j]? = some f → ∀ a ∈ f, (j ∈ vs ∧ a ∈ Fx) ∨ Fsc[j]? = some f := fun j f hj a ha => by
      by_cases hv : j ∈ iz
      · rcases sub3 j f hj a ha with z | ⟨f0, h0, z⟩
        · exact .inl ⟨hiz j hv, z⟩
        · have lj : j < g.length := by rw [← r.lf, lenF]; exact (List.getElem?_eq_some_iff.mp h0).1
          have := M.rel.no j (M.own j (hiz j hv) lj)
          rw [h0] at this
          have e0 : f0 = [] := Option.some.inj this
          rw [e0] at z; exact absurd z List.not_mem_nil
      · exact .inr (by rw [← (p3 j hv).2.2]; exact hj)
    -- the turn's end: from behind the element (or the test) to between two turns
    have close : ∀ {gx : G} {Hx : Hp} {Fsx : List (List Addr)} {Fy : List Addr}, Aft b B (fun a => T a ∨ a ∈ R) g3 gx σ3 (mc ++ me) H3 Hx Fs3 Fsx Fy → ∀ {Hz : Hp} {avs' : List V} {acc' : List D} {Fa' : List Addr}, Kp (fun a => a = Dl) Hx Hz → Hz Dl = some (.lst avs') → Fa' = Fa ++ Fy →
        Dens b (Cl B (fun a => (T a ∨ a ∈ R) ∨ a ∈ Fy) Fsx le) Hz avs' acc' Fa' → LMid b B T its Fb src S l.out le (ms ++ (mc ++ me)) vs Dl g (wipeL none σ vs) H Fs (i + 1) ds3 acc' (wipeL none gx vs) Hz (wipeL [] Fsx vs) Fr Fa' avs' := by
      intro gx Hx Fsx Fy A5 Hz avs' acc' Fa' kz hz eFa da
      subst eFa
      have mem5 : ∀ a, (T a ∨ a ∈ Fb ++ (Fr ++ (Dl :: (Fa ++ Fy)))) ↔ ((T a ∨ a ∈ R) ∨ a ∈ Fy) := fun a => by
        simp only [R, List.mem_append, List.mem_cons]
        constructor
        · rintro (z | z | z | z | z | z)
          · exact .inl (.inl z)
          · exact .inl (.inr (.inl z))
          · exact .inl (.inr (.inr (.inl z)))
          · exact .inl (.inr (.inr (.inr (.inl z))))
          · exact .inl (.inr (.inr (.inr (.inr z))))
          · exact .inr z
        · rintro ((z | z | z | z | z) | z)
          · exact .inl z
          · exact .inr (.inl z)
          · exact .inr (.inr (.inl z))
          · exact .inr (.inr (.inr (.inl z)))
          · exact .inr (.inr (.inr (.inr (.inl z))))
          · exact .inr (.inr (.inr (.inr (.inr z))))
      have DR : Dl ∈ R := List.mem_append_right _ (List.mem_append_right _ List.mem_cons_self)
      have eqR : Fb ++ (Fr ++ (Dl :: (Fa ++ Fy))) = R ++ Fy := by simp [R]
      have relz : Rel b B (fun a => T a ∨ a ∈ Fb ++ (Fr ++ (Dl :: (Fa ++ Fy)))) gx σ3 Hz Fsx := (A5.rel.congr fun a => (mem5 a).symm).step kz (fun a z => (mem5 a).mpr (.inl (.inr (z ▸ DR)))) fun a z => ⟨kz.live a (A5.rel.live a (.inr ((mem5 a).mp z))), .inl z⟩
      have relw := relz.wiped vs
      rw [wsig] at relw
      -- a slot behind all
      have inx : ∀ (j : Nat) f, Fsx[j]? = some f → j ∉ vs → ∀ f0, Fs[j]? = some f0 → ∀ a ∈ f, a ∈ f0 ∨ H a = none := fun j f hj hv f0 h0 a ha => by
        have lj : j < Fs3.length := by
          have h1 := (List.getElem?_eq_some_iff.mp hj).1
          rw [A5.rel.lf, A5.len, ← r3.lf] at h1; exact h1
        rcases A5.sub j _ f (List.getElem?_eq_getElem lj) hj a ha with z | z
        · rcases in3 j _ (List.getElem?_eq_getElem lj) a z with ⟨hv', _⟩ | hc
          · exact absurd hv' hv
          · exact M.sub j f0 _ h0 hc a z
        · exact .inr (dead3 a z)
      have bad : ∀ a, H3 a ≠ none → Cl B (fun a => T a ∨ a ∈ Fb ++ ((Fx ++ Fr) ++ (Dl :: Fa))) Fsc ⟨l.out, []⟩ a → ∀ (j : Nat) f, Fs3[j]? = some f → a ∉ f := fun a _ c j f hj ha => by
        rcases in3 j f hj a ha with ⟨_, z⟩ | z
        · exact c.2.1 (.inr (List.mem_append_right _ (List.mem_append_left _ (List.mem_append_left _ z))))
        · exact absurd (c.2.2 j f z ha) List.not_mem_nil
      refine ⟨relw, ?_, fun a ha => ?_, fun a ha => ?_, ?_, fun j h1 h2 => ?_, fun j h1 h2 => ?_, fun j f f' h1 h2 a ha => ?_, ?_, ?_, hz, ?_, fun a ha => ?_, ?_⟩
      · rw [eqR]
        exact List.nodup_append.mpr ⟨ndR, A5.nd, fun a ha c hc z => (A5.out c hc).2 (.inr (z ▸ ha))⟩
      · rw [eqR] at ha
        rcases List.mem_append.mp ha with z | z
        · exact M.outs a (subR a z)
        · exact ⟨(A5.out a z).1, fun w => (A5.out a z).2 (.inl w)⟩
      · rw [eqR] at ha
        rcases List.mem_append.mp ha with z | z
        · exact M.srcs a (subR a z)
        · rcases A5.src a z with w | ⟨j, hj, f, hf, w⟩
          · exact .inl (dead3 a w)
          · rcases in3 j f hf a w with ⟨hv, _⟩ | hc
            · exact absurd (List.mem_append_right _ hj) (dv j hv)
            · have lj : j < Fs.length := by rw [lenF]; exact (List.getElem?_eq_some_iff.mp hc).1
              rcases M.sub j _ f (List.getElem?_eq_getElem lj) hc a w with u | u
              · exact .inr ⟨j, List.mem_append_right _ hj, _, List.getElem?_eq_getElem lj, u⟩
              · exact .inl u
      · refine Kp.trans' (Kp.trans' k3f A5.kp fun a ⟨j, hj, f, hf, w⟩ la => ?_) kz fun a ea la => absurd dead (ea ▸ la)
        rcases in3 j f hf a w with ⟨hv, _⟩ | hc
        · exact absurd (List.mem_append_right _ hj) (dv j hv)
        · have lj : j < Fs.length := by rw [lenF]; exact (List.getElem?_eq_some_iff.mp hc).1
          rcases M.sub j _ f (List.getElem?_eq_getElem lj) hc a w with u | u
          · exact ⟨j, List.mem_append_right _ hj, _, List.getElem?_eq_getElem lj, u⟩
          · exact absurd u la
      · have h3 := A5.same j fun z => h1 (List.mem_append_right _ z)
        have h4 := p3 j fun z => h2 (hiz j z)
        have h5 := M.same j h1 h2
        rw [wipeL_out h2, wipeL_out h2]
        exact ⟨h3.1.trans (h4.2.2.trans h5.1), h3.2.trans (h4.2.1.trans h5.2)⟩
      · refine wipeL_in h1 ?_
        rw [A5.len, lg3, M.len]; exact h2
      · obtain ⟨h3, h4⟩ := wipeF_sub h2 ha
        exact inx j f' h3 h4 f h1 a ha
      · rw [wipeL_len, A5.len, lg3, M.len]
      · have d3 := rest.kp (C' := Cl B (fun a => T a ∨ a ∈ Fb ++ ((Fx ++ Fr) ++ (Dl :: Fa))) Fsc ⟨l.out, []⟩) k3 (fun a _ c => ⟨id, c⟩) (fun _ _ => id)
        have d5 := d3.kp (C' := Cl B (fun a => T a ∨ a ∈ Fb ++ (Fr ++ (Dl :: (Fa ++ Fy)))) Fsx ⟨l.out, []⟩) A5.kp (fun a la c => ⟨fun ⟨j, _, f, hf, w⟩ => bad a la c j f hf w, c.1, fun z => ?_, fun j f hf w => ?_⟩) fun a ha ⟨j, _, f, hf, w⟩ => (r3.out a (fs_mem hf w)).2 (.inr (List.mem_append_right _ (List.mem_append_left _ ha)))
        · refine d5.kp kz (fun a la c => ⟨fun z => c.2.1 ((mem5 a).mpr (.inl (.inr (z ▸ DR)))), c.1, c.2.1, fun j f hf w => c.2.2 j f (wipeF_sub hf w).1 w⟩) fun a ha z => nxa a (List.mem_append_right _ ha) a (z ▸ List.mem_cons_self) rfl
        · rcases (mem5 a).mp z with (z | z) | z
          · exact c.2.1 (.inl z)
          · exact c.2.1 (.inr (subR a z))
          · rcases A5.src a z with w | ⟨j, _, f, hf, w⟩
            · exact la w
            · exact bad a la c j f hf w
        · have lj : j < Fs3.length := by
            have h1 := (List.getElem?_eq_some_iff.mp hf).1
            rw [A5.rel.lf, A5.len, ← r3.lf] at h1; exact h1
          rcases A5.sub j _ f (List.getElem?_eq_getElem lj) hf a w with z | z
          · exact absurd z (bad a la c j _ (List.getElem?_eq_getElem lj))
          · exact absurd z la
      · exact da.imp fun a _ c => ⟨c.1, fun z => c.2.1 ((mem5 a).mp z), fun j f hf w => c.2.2 j f (wipeF_sub hf w).1 w⟩
      · obtain ⟨h1, h2, h3⟩ := M.sl a ha
        have l3 := k3.live a h1
        have n3 : ∀ (j : Nat) f, Fs3[j]? = some f → a ∉ f := fun j f hj w => by
          rcases in3 j f hj a w with ⟨_, z⟩ | z
          · exact h3 (List.mem_append_left _ (List.mem_append_left _ z))
          · exact h2 (fs_mem z w)
        refine ⟨kz.live a (A5.kp.live a l3), fun z => ?_, fun z => ?_⟩
        · obtain ⟨j, f, hj, w⟩ := fs_of z
          have hj' := (wipeF_sub hj w).1
          have lj : j < Fs3.length := by
            have q1 := (List.getElem?_eq_some_iff.mp hj').1
            rw [A5.rel.lf, A5.len, ← r3.lf] at q1; exact q1
          rcases A5.sub j _ f (List.getElem?_eq_getElem lj) hj' a w with z | z
          · exact n3 j _ (List.getElem?_eq_getElem lj) z
          · exact l3 z
        · rcases List.mem_append.mp z with z | z
          · exact h3 (List.mem_append_left _ (List.mem_append_right _ z))
          · rcases List.mem_cons.mp z with z |  z
            · exact h3 (List.mem_append_right _ (z ▸ List.mem_cons_self))
            · rcases List.mem_append.mp z with z | z
              · exact h3 (List.mem_append_right _ (List.mem_cons_of_mem _ z))
              · rcases A5.src a z with w | ⟨j, _, f, hf, w⟩
                · exact l3 w
                · exact n3 j f hf w
      · refine ok.st (fun a => a = Dl) Hx Hz kz (fun a ha z => ?_) (ok.st _ H3 Hx A5.kp (fun a ha ⟨j, _, f, hf, w⟩ => ?_) s3)
        · exact (M.sl a ha).2.2 (List.mem_append_right _ (z ▸ List.mem_cons_self))
        · rcases in3 j f hf a w with ⟨_, z⟩ | z
          · exact (M.sl a ha).2.2 (List.mem_append_left _ (List.mem_append_left _ z))
          · exact (M.sl a ha).2.1 (fs_mem z w)
    -- what is made so far, behind the element
    have carryA : ∀ {gx : G} {Hx : Hp} {Fsx : List (List Addr)} {Fy : List Addr}, Aft b B (fun a => T a ∨ a ∈ R) g3 gx σ3 (mc ++ me) H3 Hx Fs3 Fsx Fy → Dens b (Cl B (fun a => (T a ∨ a ∈ R) ∨ a ∈ Fy) Fsx le) Hx avs acc2 Fa ∧ Hx Dl = some (.lst avs) := by
      intro gx Hx Fsx Fy A5
      have DR : Dl ∈ R := List.mem_append_right _ (List.mem_append_right _ List.mem_cons_self)
      have notM : ∀ a ∈ R, ¬ ∃ j ∈ mc ++ me, ∃ f, Fs3[j]? = some f ∧ a ∈ f := fun a ha ⟨j, _, f, hf, w⟩ => (r3.out a (fs_mem hf w)).2 (.inr ha)
      have d3 := M.dacc.kp (C' := Cl B (fun a => T a ∨ a ∈ Fb ++ ((Fx ++ Fr) ++ (Dl :: Fa))) Fsc le) k3 (fun a _ c => ⟨id, c⟩) (fun _ _ => id)
      have bad : ∀ a, Cl B (fun a => T a ∨ a ∈ Fb ++ ((Fx ++ Fr) ++ (Dl :: Fa))) Fsc le a → ∀ (j : Nat) f, j ∈ mc ++ me → Fs3[j]? = some f → a ∉ f := fun a c j f hm hj ha => by
        rcases in3 j f hj a ha with ⟨_, z⟩ | z
        · exact c.2.1 (.inr (List.mem_append_right _ (List.mem_append_left _ (List.mem_append_left _ z))))
        · exact dle j (c.2.2 j f z ha) hm
      refine ⟨d3.kp A5.kp (fun a la c => ⟨fun ⟨j, hm, f, hf, w⟩ => bad a c j f hm hf w, c.1, fun z => ?_, fun j f hf w => ?_⟩) fun a ha => notM a (List.mem_append_right _ (List.mem_append_right _ (List.mem_cons_of_mem _ ha))), A5.kp.keep Dl _ (notM Dl DR) hD3⟩
      · rcases z with (z | z) | z
        · exact c.2.1 (.inl z)
        · exact c.2.1 (.inr (subR a z))
        · rcases A5.src a z with w | ⟨j, hm, f, hf, w⟩
          · exact la w
          · exact bad a c j f hm hf w
      · have lj : j < Fs3.length := by
          have h1 := (List.getElem?_eq_some_iff.mp hf).1
          rw [A5.rel.lf, A5.len, ← r3.lf] at h1; exact h1
        rcases A5.sub j _ f (List.getElem?_eq_getElem lj) hf a w with z | z
        · rcases in3 j _ (List.getElem?_eq_getElem lj) a z with ⟨_, z⟩ | hc
          · exact absurd (Or.inr (List.mem_append_right _ (List.mem_append_left _ (List.mem_append_left _ z)))) c.2.1
          · exact c.2.2 j _ hc z
        · exact absurd z la
    refine hc B (fun a => T a ∨ a ∈ R) g3 σ3 H3 Fs3 c g4 _ r3 ec fun H4 Fs4 A4 => ?_
    cases c with
    | false =>
      rw [if_neg  Bool.false_ne_true]
      have A4' : Aft b B (fun a => T a ∨ a ∈ R) g3 g4 σ3 (mc ++ me) H3 H4 Fs3 Fs4 [] := A4.mono fun j hj => List.mem_append_left _ hj
      obtain ⟨da, hd⟩ := carryA A4'
      exact ⟨acc2, _, _, Fa, avs, close A4' Kp.refl hd (by simp) da, e3⟩
    | true =>
      rw [if_pos rfl]
      cases ee : fe g4 with
      | none => simp only [ee] at e3; cases e3
      | some yg =>
      obtain ⟨yd, g5⟩ := yg
      simp only [ee] at e3
      split at e3
      case isFalse => cases e3
      rename_i hz
      refine he B _ g4 σ3 H4 Fs4 yd g5 _ A4.rel ee fun yv H5 Fs5 Fy A5 Dy => ?_
      have A45 := A4.nil2 A5 r3
      obtain ⟨da, hd⟩ := carryA A45
      have lacc := da.length
      refine ⟨avs, hd, by omega, acc2 ++ [yd], _, _, Fa ++ Fy, avs ++ [yv], close A45 (Kp.of_upd rfl hd trivial) upd_same rfl ?_, e3⟩
      have DR : Dl ∈ R := List.mem_append_right _ (List.mem_append_right _ List.mem_cons_self)
      have kU : Kp (fun a => a = Dl) H5 (upd H5 Dl (.lst (avs ++ [yv]))) := Kp.of_upd rfl hd trivial
      have one : Dens b (Cl B (fun a => (T a ∨ a ∈ R) ∨ a ∈ Fy) Fs5 le) H5 [yv] [yd] Fy := by
        have := Dens.cons (Dy.imp (C' := Cl B (fun a => (T a ∨ a ∈ R) ∨ a ∈ Fy) Fs5 le) fun a _ c => ⟨c.1, fun z => c.2.1 (z.elim (fun z => .inl (.inl z)) .inr), c.2.2⟩) Dens.nil
        rwa [List.append_nil] at this
      refine (da.app one).kp kU (fun a la c => ⟨fun z => c.2.1 (.inl (.inr (z ▸ DR))), c⟩) fun a ha z => ?_
      rcases List.mem_append.mp ha with w | w
      · exact (List.nodup_cons.mp nda).1 (z ▸ w)
      · exact (A45.out a w).2 (.inr (z ▸ DR))
  · have ei : i = its.length := by omega
    subst ei
    refine .inl ⟨ok.stop Hc _ M.s0 (Nat.le_refl _), ?_⟩
    have : ds2 = [] := by
      have h := M.dens.length
      rw [List.drop_of_length_le (Nat.le_refl _)] at h
      exact List.eq_nil_of_length_eq_zero h.symm
    subst this
    cases e3
    have eFi : Fi = [] := by
      have h := M.dens
      rw [List.drop_of_length_le (Nat.le_refl _)] at h
      cases h
      rfl
    subst eFi
    have sub2 : ∀ a, a ∈ Dl :: Fa → a ∈ Fb ++ ([] ++ (Dl :: Fa)) := fun a ha => List.mem_append_right _ ha
    have lenF : Fs.length = Fsc.length := by rw [r.lf, M.rel.lf, M.len]
    have gi : ∀ i ∈ vs, g1[i]? = g[i]? ∧ Fs1[i]? = Fs[i]? := fun i hv =>
      have h := A.same i fun z => dv i hv (List.mem_append_left _ z)
      ⟨h.2, h.1⟩
    have ownF : ∀ i ∈ vs, i < g.length → Fsc[i]? = some [] := fun i hv hi => M.rel.no i (M.own i hv hi)
    refine q (.ref Dl) Hc Fsc (Dl :: Fa) ⟨⟨?_, ?_, fun i d hd => ?_, fun i hd => ?_, M.rel.nd, fun a ha => ?_, fun a ha => ?_⟩, (List.nodup_append.mp M.nd).2.1, fun a ha => M.outs a (sub2 a ha), fun a ha => M.srcs a (sub2 a ha), M.kp, fun i hi => ?_, M.sub, ?_⟩ (.lstx M.hD (M.dacc.imp fun a _ c => ⟨c.1, fun z => c.2.1 (z.imp id (sub2 a)), c.2.2⟩))
    · rw [backL_len, M.len]; exact r.lg
    · rw [backL_len]; exact M.rel.lf
    · have li : i < g.length := by
        have := (List.getElem?_eq_some_iff.mp hd).1
        rw [backL_len, M.len] at this; exact this
      by_cases hv : i ∈ vs
      · rw [backL_in hv (by rw [M.len]; exact li), (gi i hv).1] at hd
        have hd' : g[i]? = some (some d) := by
          cases z : g[i]? with
          | none => rw [z] at hd; cases hd
          | some o => rw [z] at hd; exact hd
        obtain ⟨v, f, h1, h2, h3⟩ := r.at_ i d hd'
        have hx : d.xf = true := by
          have h := List.all_eq_true.mp hown i hv
          rw [(gi i hv).1, hd'] at h
          exact h
        rw [h3.xf hx] at h3
        rw [hx] at h3
        refine ⟨v, [], h1, ownF i hv li, ?_⟩
        rw [hx]
        refine h3.kp M.kp (fun a la c => ⟨fun ⟨j, _, f, hf, w⟩ => absurd (c.2.2 j f hf w) List.not_mem_nil, c.1, fun z => ?_, fun j f hf w => ?_⟩) fun a ha => absurd ha List.not_mem_nil
        · rcases z with z | z
          · exact c.2.1 z
          · rcases M.srcs a (sub2 a z) with w | ⟨j, _, f, hf, w⟩
            · exact la w
            · exact absurd (c.2.2 j f hf w) List.not_mem_nil
        · have lj : j < Fs.length := by rw [lenF]; exact (List.getElem?_eq_some_iff.mp hf).1
          rcases M.sub j _ f (List.getElem?_eq_getElem lj) hf a w with z | z
          · exact c.2.2 j _ (List.getElem?_eq_getElem lj) z
          · exact absurd z la
      · rw [backL_out hv] at hd
        obtain ⟨v, f, h1, h2, h3⟩ := M.rel.at_ i d hd
        rw [wipeL_out hv] at h1
        exact ⟨v, f, h1, h2, h3.imp fun a _ c => ⟨c.1, fun z => c.2.1 (z.imp id (sub2 a)), c.2.2⟩⟩
    · have li : i < g.length := by
        have := (List.getElem?_eq_some_iff.mp hd).1
        rw [backL_len, M.len] at this; exact this
      by_cases hv : i ∈ vs
      · exact ownF i hv li
      · rw [backL_out hv] at hd
        exact M.rel.no i hd
    · exact ⟨(M.rel.out a ha).1, fun z => (M.rel.out a ha).2 (z.imp id (sub2 a))⟩
    · exact M.rel.live a (ha.imp id fun z => z.imp id (sub2 a))
    · by_cases hv : i ∈ vs
      · by_cases li : i < g.length
        · have h2 := own1 i hv (by rw [A.len]; exact li)
          rw [(gi i hv).2] at h2
          refine ⟨(ownF i hv li).trans h2.symm, ?_⟩
          rw [backL_in hv (by rw [M.len]; exact li), (gi i hv).1, List.getElem?_eq_getElem li]
          rfl
        · rw [List.getElem?_eq_none (by rw [← lenF, r.lf]; omega), List.getElem?_eq_none (by rw [r.lf]; omega), List.getElem?_eq_none (by rw [backL_len, M.len]; omega), List.getElem?_eq_none (by omega)]
          exact ⟨rfl, rfl⟩
      · have h := M.same i hi hv
        rw [backL_out hv]
        exact h
    · rw [backL_len, M.len]
end
end DL

set_option Elab.async false
set_option linter.all false
set_option maxRecDepth 100000
namespace DL
open PySem L2

/-- u, which denotes e, stands in v (that denotes d) at the path -/
def VAt (H : Hp) : List Nat → V → D → V → D → Prop
  | [], v, d, u, e => u = v ∧ e = d
  | k :: p, v, d, u, e => ∃ a vs ds v1 d1, v = .ref a ∧ d = .lst true ds ∧ H a = some (.lst vs) ∧ vs[k]? = some v1 ∧ ds[k]? = some d1 ∧ VAt H p v1 d1 u e
@[simp] def D.put : List Nat → D → D → D
  | [], n, _ => n
  | k :: p, n, .lst x ds => match ds[k]? with
    | some e => .lst x (ds.set k (D.put p n e))
    | none => .lst x ds
  | _ :: _, _, d => d
@[simp] def D.get : List Nat → D → Option D
  | [], d => some d
  | k :: p, .lst true ds => match ds[k]? with
    | some e => D.get p e
    | none => none
  | _ :: _, _ => none
theorem D.put_xf {ds : List D} : ∀ {p : List Nat} {n d : D}, D.get p d = some (.lst true ds) → n.xf = false → (D.put p n d).xf = false
  | [], _, _, _, h => h
  | k :: p, n, d, hg, h => by
    match d, hg with
    | .lst true ds', hg =>
      show (match ds'[k]? with | some e => D.lst true (ds'.set k (D.put p n e)) | none => D.lst true ds').xf = false
      split <;> simp [D.xf]
theorem VAt.get {H : Hp} : ∀ {p : List Nat} {v u : V} {d e : D}, VAt H p v d u e → D.get p d = some e
  | [], _, _, _, _, h => by obtain ⟨_, rfl⟩ := h; rfl
  | k :: p, _, _, _, _, h => by
    obtain ⟨a, vs, ds, v1, d1, rfl, rfl, _, _, h2, h3⟩ := h
    show (match ds[k]? with | some e => D.get p e | none => none) = _
    rw [h2]
    exact VAt.get h3
section
variable {b : Bs} {C : Addr → Prop} {H : Hp}
theorem Dens.split : ∀ {vs : List V} {ds : List D} {F : List Addr} {k : Nat} {v : V} {d : D}, Dens b C H vs ds F → vs[k]? = some v → ds[k]? = some d →
    ∃ Fa F1 Fb, F = Fa ++ (F1 ++ Fb) ∧ Den b C H v d F1 ∧ ∀ (C' : Addr → Prop) (H' : Hp) (v' : V) (d' : D) (F1' : List Addr), (∀ v d F0, Den b C H v d F0 → (∀ a ∈ F0, a ∈ Fa ++ Fb) → Den b C' H' v d F0) → Den b C' H' v' d' F1' → Dens b C' H' (vs.set k v') (ds.set k d') (Fa ++ (F1' ++ Fb))
  | _, _, _, k, _, _, .nil, e, _ => by simp at e
  | _, _, _, 0, _, _, @Dens.cons _ _ _ v0 d0 vs ds F F' h t, e1, e2 => by
    simp at e1 e2; subst e1 e2
    refine ⟨[], F, F', rfl, h, fun C' H' v' d' F1' st h' => ?_⟩
    show Dens b C' H' (v' :: vs) (d' :: ds) (F1' ++ F')
    refine .cons h' ?_
    have all : ∀ {vs : List V} {ds : List D} {F0 : List Addr}, Dens b C H vs ds F0 → (∀ a ∈ F0, a ∈ [] ++ F') → Dens b C' H' vs ds F0 := by
      intro vs ds F0 h
      induction vs generalizing ds F0 with
      | nil => intro _; cases h; exact .nil
      | cons v vs ih =>
        intro m
        cases h with
        | cons h t => exact .cons (st _ _ _ h fun a ha => m a (List.mem_append_left _ ha)) (ih t fun a ha => m a (List.mem_append_right _ ha))
    exact all t fun a ha => ha
  | _, _, _, k + 1, v, d, @Dens.cons _ _ _ v0 d0 vs ds F F' h t, e1, e2 => by
    obtain ⟨Fa, F1, Fb, rfl, h1, h2⟩ := Dens.split (k := k) t (by simpa using e1) (by simpa using e2)
    refine ⟨F ++ Fa, F1, Fb, by simp, h1, fun C' H' v' d' F1' st h' => ?_⟩
    rw [List.append_assoc]
    exact .cons (st _ _ _ h fun a ha => by simp [ha]) (h2 C' H' v' d' F1' (fun v d F0 q m => st v d F0 q fun a ha => by
      rcases List.mem_append.mp (m a ha) with z | z
      · simp [z]
      · simp [z]) h')
theorem Den.focus {ds0 : List D} : ∀ {p : List Nat} {v u : V} {d : D} {F : List Addr}, Den b C H v d F → VAt H p v d u (.lst true ds0) →
    ∃ a us Fa Fd Fb, u = .ref a ∧ H a = some (.lst us) ∧ F = Fa ++ ((a :: Fd) ++ Fb) ∧ Dens b C H us ds0 Fd ∧
      ∀ (C' : Addr → Prop) (H' : Hp) (us' : List V) (ds' : List D) (Fd' : List Addr), (∀ v d F0, Den b C H v d F0 → (∀ x ∈ F0, x ∈ Fa ++ Fb) → Den b C' H' v d F0) → (∀ x o, x ∈ Fa ++ Fb → H x = some o → H' x = some o) → H' a = some (.lst us') → Dens b C' H' us' ds' Fd' →
        Den b C' H' v (D.put p (.lst true ds') d) (Fa ++ ((a :: Fd') ++ Fb))
  | [], v, u, d, F, h, w => by
    obtain ⟨rfl, rfl⟩ := w
    cases h with
    | @lstx a us _ Fd q t =>
      exact ⟨a, us, [], Fd, [], rfl, q, by simp, t, fun C' H' us' ds' Fd' _ _ q' t' => by simpa [D.put] using Den.lstx q' t'⟩
  | k :: p, v, u, d, F, h, w => by
    obtain ⟨a0, vs, ds, v1, d1, rfl, rfl, q, e1, e2, w⟩ := w
    cases h with
    | @lstx _ vs2 _ F2 q2 t =>
      rw [q] at q2
      have ev : vs = vs2 := by injection q2 with q2; injection q2
      subst ev
      obtain ⟨Ga, G1, Gb, rfl, h1, rep⟩ := t.split e1 e2
      obtain ⟨a, us, Fa, Fd, Fb, rfl, qa, rfl, ta, fo⟩ := Den.focus h1 w
      refine ⟨a, us, a0 :: (Ga ++ Fa), Fd, Fb ++ Gb, rfl, qa, by simp, ta, fun C' H' us' ds' Fd' st kx qa' ta' => ?_⟩
      have hd := fo C' H' us' ds' Fd' (fun v d F0 hq m => st v d F0 hq fun x hx => by
        rcases List.mem_append.mp (m x hx) with z | z
        · simp [z]
        · simp [z]) (fun x o hx => kx x o (by
        rcases List.mem_append.mp hx with z | z
        · simp [z]
        · simp [z])) qa' ta'
      have hr := rep C' H' v1 _ _ (fun v d F0 hq m => st v d F0 hq fun x hx => by
        rcases List.mem_append.mp (m x hx) with z | z
        · simp [z]
        · simp [z]) hd
      have es : vs.set k v1 = vs := by
        apply List.ext_getElem?
        intro j
        by_cases e : k = j
        · subst e
          have lk := (List.getElem?_eq_some_iff.mp e1).1
          rw [List.getElem?_set_self lk, e1]
        · rw [List.getElem?_set_ne e]
      rw [es] at hr
      show Den b C' H' (.ref a0) (match ds[k]? with | some e => D.lst true (ds.set k (D.put p (.lst true ds') e)) | none => D.lst true ds) _
      rw [e2]
      have := Den.lstx (kx a0 _ (by simp) q) hr
      simpa using this
theorem VAt.kp {M : Addr → Prop} {H' : Hp} (k : Kp M H H') : ∀ {p : List Nat} {v u : V} {d e : D} {F : List Addr}, Den b C H v d F → (∀ a ∈ F, ¬ M a) → VAt H p v d u e → VAt H' p v d u e
  | [], _, _, _, _, _, _, _, h => h
  | i :: p, _, _, _, _, _, hd, m, h => by
    obtain ⟨a, vs, ds, v1, d1, rfl, rfl, q, e1, e2, h⟩ := h
    cases hd with
    | lstx q2 t =>
      rw [q] at q2
      injection q2 with q2; injection q2 with q2
      subst q2
      obtain ⟨Ga, G1, Gb, rfl, h1, _⟩ := t.split e1 e2
      exact ⟨a, vs, ds, v1, d1, rfl, rfl, k.keep _ _ (m a List.mem_cons_self) q, e1, e2, VAt.kp k h1 (fun x hx => m x (by simp [hx])) h⟩
end

/-- a place in slot i: its path -/
abbrev Px := G → Option (List Nat × G)
def TPd (b : Bs) (t : TE) (i : Nat) (f : Px) : Prop := ∀ (B T : Addr → Prop) (g : G) (σ : St) (H : Hp) (Fs : List (List Addr)) (p : List Nat) (g' : G) (Q : VK), Rel b B T g σ H Fs → f g = some (p, g') →
  (∀ u H' v d e, Aft b B T g g' σ [] H H' Fs Fs [] → g' = g → σ[i]? = some (some v) → g[i]? = some (some d) → VAt H' p v d u e → Q u H') → t σ H Q
@[simp] def xP (i : Nat) : Px := fun g => match g[i]? with
  | some (some _) => some ([], g)
  | _ => none
@[simp] def nodeAt (i : Nat) (p : List Nat) (g : G) : Option (List D) := match g[i]? with
  | some (some d) => match D.get p d with
    | some (.lst true ds) => some ds
    | _ => none
  | _ => none
@[simp] def xPs (i : Nat) (f : Px) (e : Ex) : Px := fun g => match f g with
  | some (p, g1) => match e g1 with
    | some (.int k, g2) => match nodeAt i p g2 with
      | some ds => (ixN ds.length k).map fun j => (p ++ [j], g2)
      | none => none
    | _ => none
  | none => none
section
variable {b : Bs}
theorem tp_n (i : Nat) : TPd b (tVar i) i (xP i) := by
  intro B T g σ H Fs p g' Q r e q
  unfold xP at e
  split at e
  · rename_i d hd
    cases e
    obtain ⟨v, f, h1, h2, h3⟩ := r.at_ i d hd
    exact ⟨v, h1, q v H v d d r.aft rfl h1 hd ⟨rfl, rfl⟩⟩
  · cases e
theorem VAt.snoc {H : Hp} {k : Nat} {a : Addr} {us : List V} {ds : List D} {u' : V} {e' : D} : ∀ {p : List Nat} {v u : V} {d : D}, VAt H p v d u (.lst true ds) → u = .ref a → H a = some (.lst us) → us[k]? = some u' → ds[k]? = some e' → VAt H (p ++ [k]) v d u' e'
  | [], v, u, d, h, eu, q, e1, e2 => by
    obtain ⟨rfl, rfl⟩ := h
    exact ⟨a, us, ds, u', e', eu, rfl, q, e1, e2, rfl, rfl⟩
  | j :: p, v, u, d, h, eu, q, e1, e2 => by
    obtain ⟨a0, vs, ds0, v1, d1, rfl, rfl, q0, f1, f2, h⟩ := h
    exact ⟨a0, vs, ds0, v1, d1, rfl, rfl, q0, f1, f2, VAt.snoc h eu q e1 e2⟩
/-- nothing is mutated: the slots' exclusive things are the same lists -/
theorem Aft.sameFs {B T : Addr → Prop} {g g' : G} {σ : St} {H H' : Hp} {Fs Fs' : List (List Addr)} {F : List Addr} (a : Aft b B T g g' σ [] H H' Fs Fs' F) : Fs' = Fs ∧ g' = g :=
  ⟨List.ext_getElem? fun i => (a.same i List.not_mem_nil).1, List.ext_getElem? fun i => (a.same i List.not_mem_nil).2⟩
theorem tp_s {t te : TE} {i : Nat} {f : Px} {l : Lv} {e : Ex} {K : PySem.W.Frag} (hK : b.K = K) (h : TPd b t i f) (he : TEd b te l [] e) : TPd b (tOp (rIx K) t te) i (xPs i f e) := by
  subst hK
  intro B T g σ H Fs p g' Q r e0 q
  unfold xPs at e0
  split at e0
  case h_2 => cases e0
  rename_i p0 g1 e1
  split at e0
  case h_2 => cases e0
  rename_i k g2 e2
  split at e0
  case h_2 => cases e0
  rename_i ds e3
  obtain ⟨j, ej, e4⟩ := Option.map_eq_some_iff.mp e0
  cases e4
  refine h B T g σ H Fs p0 g1 _ r e1 fun u H1 v d e A eg hv hd w => ?_
  subst eg
  refine he B _ g1 σ H1 Fs _ _ _ A.rel e2 fun x H2 Fs2 F2 A2 D2 => ?_
  cases D2
  obtain ⟨rfl, rfl⟩ := A2.sameFs
  obtain ⟨v', f', h1, h2, h3⟩ := A.rel.at_ i d hd
  rw [hv] at h1
  cases h1
  have w2 : VAt H2 p0 v d u e := w.kp A2.kp h3 fun a _ ⟨j, hj, _⟩ => List.not_mem_nil hj
  unfold nodeAt at e3
  rw [hd] at e3
  simp only [w2.get] at e3
  split at e3
  case h_2 => cases e3
  rename_i ds' ee
  cases e3
  cases ee
  obtain ⟨v2, f2, k1, k2, k3⟩ := A2.rel.at_ i d hd
  rw [hv] at k1
  cases k1
  obtain ⟨a, us, Fa, Fd, Fb, rfl, qa, _, ta, _⟩ := k3.focus w2
  have lu := ta.length
  have lj : j < ds.length := (ixN_seq ej).2.1
  refine .inl ⟨a, us, k, us[j], rfl, rfl, SqL.of qa, ?_, ?_⟩
  · have ej' : ixN us.length k = some j := by rw [lu]; exact ej
    unfold atI
    rw [ej']
    exact List.getElem?_eq_getElem (by omega)
  · exact q _ H2 v d ds[j] (A.nil2 A2 r) rfl hv hd (w2.snoc rfl qa (List.getElem?_eq_getElem (by omega)) (List.getElem?_eq_getElem lj))
/-- a slot's thing at address a is written; Fx: what was under way and is in it now -/
theorem Rel.store {B T : Addr → Prop} {g : G} {σ : St} {H : Hp} {Fs : List (List Addr)} {Fx : List Addr} {i : Nat} {p : List Nat} {v u : V} {d : D} {ds : List D} (r : Rel b B (fun a => T a ∨ a ∈ Fx) g σ H Fs) (hv : σ[i]? = some (some v)) (hd : g[i]? = some (some d)) (w : VAt H p v d u (.lst true ds))
    (nx : Fx.Nodup) (ox : ∀ a ∈ Fx, ¬ B a ∧ ¬ T a) :
    ∃ a us Fd, u = .ref a ∧ H a = some (.lst us) ∧ Dens b (Cl B (fun a => T a ∨ a ∈ Fx) Fs ⟨false, []⟩) H us ds Fd ∧ (Fd ++ Fx).Nodup ∧ a ∉ Fd ++ Fx ∧ (∃ f, Fs[i]? = some f ∧ a ∈ f) ∧ ∀ us' ds' Fd', Dens b (Cl B (fun a => T a ∨ a ∈ Fx) Fs ⟨false, []⟩) H us' ds' Fd' → Fd'.Nodup → (∀ x ∈ Fd', x ∈ Fd ∨ x ∈ Fx) →
      ∃ Fs', Rel b B T (g.set i (some (D.put p (.lst true ds') d))) σ (upd H a (.lst us')) Fs' ∧ (∀ (j : Nat) (f' : List Addr), Fs'[j]? = some f' → ∀ x ∈ f', x ∈ Fx ∨ ∃ f, Fs[j]? = some f ∧ x ∈ f) ∧ (∀ j, j ≠ i → Fs'[j]? = Fs[j]?) ∧ Kp (fun x => x = a) H (upd H a (.lst us')) := by
  obtain ⟨v', f, h1, h2, h3⟩ := r.at_ i d hd
  rw [hv] at h1
  cases h1
  have hx : d.xf = false := by
    cases p with
    | nil =>
      obtain ⟨_, e⟩ := w
      rw [← e]; rfl
    | cons k p =>
      obtain ⟨_, _, _, _, _, _, e, _⟩ := w
      rw [e]; rfl
  rw [hx] at h3
  obtain ⟨a, us, Fa, Fd, Fb, rfl, qa, rfl, ta, fo⟩ := h3.focus w
  have nf := fs_one r.nd h2
  have offx : ∀ x ∈ Fa ++ ((a :: Fd) ++ Fb), x ∉ Fx := fun x hx z => (r.out x (fs_mem h2 hx)).2 (.inr z)
  have nf' : (Fa ++ (a :: (Fd ++ Fb))).Nodup := nf
  obtain ⟨n1, n2, n3⟩ := List.nodup_append.mp nf'
  obtain ⟨n4, n5⟩ := List.nodup_cons.mp n2
  obtain ⟨n6, n7, n8⟩ := List.nodup_append.mp n5
  have aFd : a ∉ Fd ++ Fx := fun z => by
    rcases List.mem_append.mp z with z | z
    · exact n4 (List.mem_append_left _ z)
    · exact offx a (by simp) z
  have lF : i < Fs.length := (List.getElem?_eq_some_iff.mp h2).1
  have lg : i < g.length := by rw [← r.lf]; exact lF
  refine ⟨a, us, Fd, rfl, qa, ta, List.nodup_append.mpr ⟨n6, nx, fun x hx y hy e => offx x (by simp [hx]) (e ▸ hy)⟩, aFd, ⟨_, h2, by simp⟩, fun us' ds' Fd' td nd sd => ?_⟩
  have kU : Kp (fun x => x = a) H (upd H a (.lst us')) := Kp.of_upd rfl qa trivial
  have aIn : a ∈ Fa ++ ((a :: Fd) ++ Fb) := by simp
  have notA : a ∉ Fa ++ Fb := fun z => by
    rcases List.mem_append.mp z with z | z
    · exact n3 a z a List.mem_cons_self rfl
    · exact n4 (List.mem_append_right _ z)
  -- what leans on the rest stands
  have cl : ∀ x, H x ≠ none → ∀ (l : Lv), l.bs = [] → Cl B (fun a => T a ∨ a ∈ Fx) Fs l x → x ≠ a := fun x _ l hl c e => by
    have := c.2.2 i _ h2 (e ▸ aIn)
    rw [hl] at this; exact List.not_mem_nil this
  let F' : List Addr := Fa ++ ((a :: Fd') ++ Fb)
  have subF : ∀ x ∈ F', x ∈ Fx ∨ x ∈ Fa ++ ((a :: Fd) ++ Fb) := fun x hx => by
    rcases List.mem_append.mp hx with z | z
    · exact .inr (List.mem_append_left _ z)
    · rcases List.mem_append.mp z with z | z
      · rcases List.mem_cons.mp z with z |  z
        · rw [z]; exact .inr (by simp)
        · rcases sd x z with w | w
          · exact .inr (by simp [w])
          · exact .inl w
      · exact .inr (by simp [z])
  have get' : ∀ (j : Nat) f, (Fs.set i F')[j]? = some f → (j = i ∧ f = F') ∨ (j ≠ i ∧ Fs[j]? = some f) := fun j f hj => by
    by_cases n : i = j
    · subst n
      rw [List.getElem?_set_self lF] at hj
      exact .inl ⟨rfl, (Option.some.inj hj).symm⟩
    · rw [List.getElem?_set_ne n] at hj
      exact .inr ⟨Ne.symm n, hj⟩
  have clw : ∀ (l : Lv), l.bs = [] → ∀ x, H x ≠ none → Cl B (fun a => T a ∨ a ∈ Fx) Fs l x → ¬ x = a ∧ Cl B T (Fs.set i F') l x := fun l hl x lx c => ⟨cl x lx l hl c, c.1, fun z => c.2.1 (.inl z), fun j f hj hxf => by
    rcases get' j f hj with ⟨_, e⟩ | ⟨_, e⟩
    · subst e
      rcases subF x hxf with z | z
      · exact absurd (Or.inr z) c.2.1
      · have := c.2.2 i _ h2 z
        rw [hl] at this; exact absurd this List.not_mem_nil
    · exact c.2.2 j f e hxf⟩
  have tdk : Dens b (Cl B T (Fs.set i F') ⟨false, []⟩) (upd H a (.lst us')) us' ds' Fd' := td.kp kU (clw ⟨false, []⟩ rfl) fun x hx e => aFd (List.mem_append.mpr ((sd x hx).imp (fun z => e ▸ z) fun z => e ▸ z))
  have new : Den b (Cl B T (Fs.set i F') ⟨false, []⟩) (upd H a (.lst us')) v (D.put p (.lst true ds') d) F' := by
    exact fo _ _ us' ds' Fd' (fun v0 d0 F0 q m => q.kp kU (clw ⟨false, []⟩ rfl) fun x hx e => notA (e ▸ m x hx)) (fun x o hx e => kU.keep x o (fun z => notA (z ▸ hx)) e) upd_same tdk
  have nF' : F'.Nodup := by
    refine List.nodup_append.mpr ⟨n1, ?_, fun x hx y hy e => ?_⟩
    · show (a :: (Fd' ++ Fb)).Nodup
      refine List.nodup_cons.mpr ⟨fun z => ?_, List.nodup_append.mpr ⟨nd, n7, fun x hx y hy e => ?_⟩⟩
      · rcases List.mem_append.mp z with z | z
        · exact aFd (List.mem_append.mpr (sd a z))
        · exact n4 (List.mem_append_right _ z)
      · subst e
        rcases sd x hx with z | z
        · exact n8 x z x hy rfl
        · exact offx x (by simp [hy]) z
    · subst e
      rcases List.mem_append.mp hy with z | z
      · rcases List.mem_cons.mp z with z |  z
        · exact n3 x hx a List.mem_cons_self z
        · rcases sd x z with z | z
          · exact n3 x hx x (List.mem_cons_of_mem _ (List.mem_append_left _ z)) rfl
          · exact offx x (by simp [hx]) z
      · exact n3 x hx x (List.mem_cons_of_mem _ (List.mem_append_right _ z)) rfl
  refine ⟨Fs.set i F', ⟨by rw [List.length_set]; exact r.lg, by rw [List.length_set, List.length_set]; exact r.lf, fun j dj hj => ?_, fun j hj => ?_, fs_set r.nd nF' fun j f' n hj x hx hx' => ?_, fun x hx => ?_, fun x hx => kU.live x (r.live x (hx.imp id .inl))⟩, fun j f' hj x hx => ?_, fun j n => List.getElem?_set_ne (Ne.symm n), kU⟩
  · by_cases n : i = j
    · subst n
      rw [List.getElem?_set_self lg] at hj
      cases hj
      have e2 : (D.put p (.lst true ds') d).xf = false := D.put_xf w.get rfl
      exact ⟨v, F', hv, List.getElem?_set_self lF, by rw [e2]; exact new⟩
    · rw [List.getElem?_set_ne n] at hj
      obtain ⟨v2, f2, k1, k2, k3⟩ := r.at_ j dj hj
      exact ⟨v2, f2, k1, by rw [List.getElem?_set_ne n]; exact k2, k3.kp kU (clw _ rfl) fun x hx e => fs_disj r.nd k2 h2 (Ne.symm n) x hx (e ▸ aIn)⟩
  · have n : i ≠ j := fun z => by
      subst z
      rw [List.getElem?_set_self lg] at hj
      cases hj
    rw [List.getElem?_set_ne n] at hj ⊢
    exact r.no j hj
  · rcases subF x hx with z | z
    · exact (r.out x (fs_mem hj hx')).2 (.inr z)
    · exact fs_disj r.nd h2 hj (Ne.symm n) x z hx'
  · obtain ⟨j, f, hj, hxf⟩ := fs_of hx
    rcases get' j f hj with ⟨_, e⟩ | ⟨_, e⟩
    · subst e
      rcases subF x hxf with z | z
      · exact ox x z
      · have := r.out x (fs_mem h2 z)
        exact ⟨this.1, fun z => this.2 (.inl z)⟩
    · have := r.out x (fs_mem e hxf)
      exact ⟨this.1, fun z => this.2 (.inl z)⟩
  · rcases get' j f' hj with ⟨e1, e⟩ | ⟨_, e⟩
    · subst e e1
      rcases subF x hx with z | z
      · exact .inl z
      · exact .inr ⟨_, h2, z⟩
    · exact .inr ⟨f', e, hx⟩
end
end DL

set_option Elab.async false
set_option linter.all false
set_option maxRecDepth 100000
namespace DL
open PySem L2

section
variable {b : Bs} {pr : List Nat}
theorem Aft.congrT {B T T' : Addr → Prop} {g g' : G} {σ : St} {ms : List Nat} {H H' : Hp} {Fs Fs' : List (List Addr)} {F : List Addr} (a : Aft b B T g g' σ ms H H' Fs Fs' F) (h : ∀ x, T x ↔ T' x) : Aft b B T' g g' σ ms H H' Fs Fs' F := by
  have e : T = T' := funext fun x => propext (h x)
  exact e ▸ a
theorem okr_den {C : Addr → Prop} {B T : Addr → Prop} {Fs : List (List Addr)} {l : Lv} {H : Hp} {v : V} {d : D} {F : List Addr} (ok : okr l d = true) (h : Den b (Cl B T Fs l) H v d F) : Den b (Cl B T Fs ⟨false, []⟩) H v d F := by
  rw [okr, Bool.or_eq_true, Bool.and_eq_true] at ok
  rcases ok with ⟨o1, o2⟩ | o
  · refine h.imp fun x _ c => ⟨fun z => ?_, c.2.1, fun i f hf hx => ?_⟩
    · have := c.1 z
      rw [this] at o1; cases o1
    · have := c.2.2 i f hf hx
      rw [List.isEmpty_iff.mp o2] at this; exact this
  · exact h.nos o
theorem Dens.setAt {C : Addr → Prop} {H : Hp} {us : List V} {ds : List D} {Fd Fx : List Addr} {j : Nat} {v : V} {d : D} (h : Dens b C H us ds Fd) (hx : Den b C H v d Fx) (nd : (Fd ++ Fx).Nodup) (hj : j < ds.length) :
    ∃ Fd', Dens b C H (us.set j v) (ds.set j d) Fd' ∧ Fd'.Nodup ∧ ∀ x ∈ Fd', x ∈ Fd ∨ x ∈ Fx := by
  have lu := h.length
  obtain ⟨Fa, F1, Fb, rfl, _, h2⟩ := h.split (k := j) (List.getElem?_eq_getElem (by omega)) (List.getElem?_eq_getElem hj)
  obtain ⟨n1, n2, n3⟩ := List.nodup_append.mp nd
  obtain ⟨m1, m2, m3⟩ := List.nodup_append.mp n1
  obtain ⟨k1, k2, k3⟩ := List.nodup_append.mp m2
  refine ⟨_, h2 C H v d Fx (fun _ _ _ q _ => q) hx, List.nodup_append.mpr ⟨m1, List.nodup_append.mpr ⟨n2, k2, fun a ha c hc e => n3 c (by simp [hc]) a ha e.symm⟩, fun a ha c hc e => ?_⟩, fun x hx => ?_⟩
  · rcases List.mem_append.mp hc with z | z
    · exact n3 a (by simp [ha]) c z e
    · exact m3 a ha c (by simp [z]) e
  · rcases List.mem_append.mp hx with z | z
    · exact .inl (by simp [z])
    · rcases List.mem_append.mp z with z | z
      · exact .inr z
      · exact .inl (by simp [z])
@[simp] def putSlot (i : Nat) (p : List Nat) (ds : List D) (g : G) : Option G := match g[i]? with
  | some (some d) => some (g.set i (some (D.put p (.lst true ds) d)))
  | _ => none
/-- place[k] = value -/
@[simp] def sStore (l : Lv) (i : Nat) (fe : Ex) (fp : Px) (fi : Ex) : Sx := fun g => match fe g with
  | some (x, g1) => if okr l x = true then match fp g1 with
    | some (p, g2) => match fi g2 with
      | some (.int k, g3) => match nodeAt i p g3 with
        | some ds => match ixN ds.length k with
          | some j => (putSlot i p (ds.set j x) g3).map .nx
          | none => none
        | none => none
      | _ => none
    | none => none else none
  | none => none
theorem nodeAt_some {i : Nat} {p : List Nat} {g : G} {ds : List D} (h : nodeAt i p g = some ds) : ∃ d, g[i]? = some (some d) ∧ D.get p d = some (.lst true ds) := by
  unfold nodeAt at h
  split at h
  · rename_i d hd
    split at h
    · rename_i ds' e
      cases h
      exact ⟨d, hd, e⟩
    · cases h
  · cases h
theorem SAft.put {B T : Addr → Prop} {g g1 g4 : G} {σ : St} {ms : List Nat} {H H1 H3 H4 : Hp} {Fs Fs1 Fs4 : List (List Addr)} {Fx : List Addr} {a : Addr} (A : Aft b B T g g1 σ ms H H1 Fs Fs1 Fx) (r0 : Rel b B T g σ H Fs) (k3 : Kp (fun _ => False) H1 H3) (r4 : Rel b B T g4 σ H4 Fs4)
    (sub : ∀ (j : Nat) (f' : List Addr), Fs4[j]? = some f' → ∀ x ∈ f', x ∈ Fx ∨ ∃ f, Fs1[j]? = some f ∧ x ∈ f) (k4 : Kp (fun x => x = a) H3 H4) (ha : a ∈ Fs1.flatten) (lg : g4.length = g1.length) : SAft b B T pr g g4 σ σ H H4 Fs Fs4 [] where
  rel := r4.toNil
  nd := List.nodup_nil
  out := by simp
  src := by simp
  kp := by
    have s := A.st (pr := pr) r0
    refine Kp.trans' (Kp.trans' s.kp k3 fun _ z _ => z.elim) k4 fun x e l => ?_
    rw [e]
    exact (s.sub a ha).resolve_right fun z => l (e ▸ z)
  sub := fun x hx => by
    have s := A.st (pr := pr) r0
    rcases fs_flat_sub sub x hx with z | z
    · exact s.sub x z
    · exact (s.src x z).symm
  pr := fun _ _ => rfl
  len := lg.trans A.len
theorem ts_store {te tp ti : TE} {l li : Lv} {me : List Nat} {fe fi : Ex} {i : Nat} {fp : Px} (he : TEd b te l me fe) (hp : TPd b tp i fp) (hi : TEd b ti li [] fi) : TSd b (tAsg te (gSub tp ti rSetL)) pr (sStore l i fe fp fi) := by
  intro B T g σ H Fs fl D r e p
  unfold sStore at e
  split at e
  case h_2 => cases e
  rename_i x g1 e1
  split at e
  case isFalse => cases e
  rename_i ok
  split at e
  case h_2 => cases e
  rename_i pt g2 e2
  split at e
  case h_2 => cases e
  rename_i k g3 e3
  split at e
  case h_2 => cases e
  rename_i ds e4
  split at e
  case h_2 => cases e
  rename_i j ej
  obtain ⟨g4, e5, rfl⟩ := Option.map_eq_some_iff.mp e
  refine he B T g σ H Fs x g1 _ r e1 fun xv H1 Fs1 Fx A Dx => ?_
  refine hp B _ g1 σ H1 Fs1 pt g2 _ A.rel e2 fun u H2 v d e A2 eg hv hd w => ?_
  subst eg
  refine hi B _ g2 σ H2 Fs1 _ _ _ A2.rel e3 fun kv H3 Fs3 F3 A3 D3 => ?_
  cases D3
  obtain ⟨rfl, rfl⟩ := A3.sameFs
  have A23 := A2.nil2 A3 A.rel
  obtain ⟨v', f', h1, h2, h3⟩ := A2.rel.at_ i d hd
  rw [hv] at h1
  cases h1
  have w3 : VAt H3 pt v d u e := w.kp A3.kp h3 fun a _ ⟨j, hj, _⟩ => List.not_mem_nil hj
  obtain ⟨d', q1, q2⟩ := nodeAt_some e4
  rw [hd] at q1
  cases q1
  rw [w3.get] at q2
  cases q2
  have k13 : Kp (fun _ => False) H1 H3 := A23.kp.mono fun a ⟨j, hj, _⟩ => List.not_mem_nil hj
  have r3 : Rel b B (fun a => T a ∨ a ∈ Fx) g3 σ H3 Fs3 := A23.rel.nilT
  have Dx3 := (okr_den (C := fun _ => True) ok Dx).kp (C' := Cl B (fun a => T a ∨ a ∈ Fx) Fs3 ⟨false, []⟩) k13 (fun a _ c => ⟨id, c⟩) fun _ _ => id
  obtain ⟨a, us, Fd, rfl, qa, td, nd, na, ⟨f, hf, haf⟩, st⟩ := r3.store hv hd w3 A.nd A.out
  have lj := (ixN_seq ej).2.1
  have lu := td.length
  obtain ⟨Fd', t1, t2, t3⟩ := td.setAt Dx3 nd lj
  obtain ⟨Fs4, r4, s4, _, k4⟩ := st _ _ _ t1 t2 t3
  refine ⟨a, us, k, j, rfl, rfl, qa, by rw [lu]; exact ej, ?_⟩
  unfold putSlot at e5
  rw [hd] at e5
  cases e5
  exact p σ _ Fs4 (SAft.put A r k13 r4 s4 k4 (fs_mem hf haf) (by rw [List.length_set]))
/-- place.append(e), as a statement -/
@[simp] def sApp (l : Lv) (i : Nat) (fp : Px) (fe : Ex) : Sx := fun g => match fp g with
  | some (p, g1) => match nodeAt i p g1 with
    | some _ => match fe g1 with
      | some (x, g2) => if okr l x = true then match nodeAt i p g2 with
        | some ds => if ds.length < sizeLine then (putSlot i p (ds ++ [x]) g2).map .nx else none
        | none => none else none
      | none => none
    | none => none
  | none => none
theorem ts_app {te tp : TE} {l : Lv} {me : List Nat} {fe : Ex} {i : Nat} {fp : Px} {K : PySem.W.Frag} (hK : b.K = K) (hp : TPd b tp i fp) (he : TEd b te l me fe) (hd : djb [i] me = true) : TSd b (tDrop (tBM K "list" rAppend tp (tCons te tNil))) pr (sApp l i fp fe) := by
  subst hK
  intro B T g σ H Fs fl D r e p
  unfold sApp at e
  split at e
  case h_2 => cases e
  rename_i pt g1 e1
  split at e
  case h_2 => cases e
  rename_i ds0 e0
  split at e
  case h_2 => cases e
  rename_i x g2 e2
  split at e
  case isFalse => cases e
  rename_i ok
  split at e
  case h_2 => cases e
  rename_i ds e4
  split at e
  case isFalse => cases e
  rename_i hz
  obtain ⟨g4, e5, rfl⟩ := Option.map_eq_some_iff.mp e
  refine hp B T g σ H Fs pt g1 _ r e1 fun u H1 v d e A1 eg hv hd1 w => ?_
  subst eg
  have r1 : Rel b B T g1 σ H1 Fs := A1.rel.nilT
  obtain ⟨v', f', h1, h2, h3⟩ := r1.at_ i d hd1
  rw [hv] at h1
  cases h1
  obtain ⟨d', q1, q2⟩ := nodeAt_some e0
  rw [hd1] at q1
  cases q1
  rw [w.get] at q2
  cases q2
  obtain ⟨a, us, Fa, Fd0, Fb, rfl, qa, ef, _, _⟩ := h3.focus w
  refine ⟨.inl ⟨rfl, us, .inl (.inl qa)⟩, ?_⟩
  refine he B T g1 σ H1 Fs x g2 _ r1 e2 fun xv H2 Fs2 Fx A2 Dx => ?_
  have ni : i ∉ me := djb_of hd i List.mem_cons_self
  obtain ⟨sF, sg⟩ := A2.same i ni
  have w2 : VAt H2 pt v d (.ref a) (.lst true ds0) := w.kp A2.kp h3 fun c hc ⟨j, hj, f, hf, hcf⟩ => fs_disj r1.nd h2 hf (fun z => ni (z ▸ hj)) c hc hcf
  obtain ⟨d', q1, q2⟩ := nodeAt_some e4
  rw [sg, hd1] at q1
  cases q1
  rw [w.get] at q2
  cases q2
  obtain ⟨a', us', Fd, ea, qa', td, nd, na, ⟨f, hf, haf⟩, st⟩ := A2.rel.store hv (sg.trans hd1) w2 A2.nd A2.out
  cases ea
  have lu := td.length
  have Dx' := okr_den (C := fun _ => True) ok Dx
  have one : Dens b (Cl B (fun a => T a ∨ a ∈ Fx) Fs2 ⟨false, []⟩) H2 [xv] [x] Fx := by
    have := Dens.cons Dx' Dens.nil
    rwa [List.append_nil] at this
  obtain ⟨Fs4, r4, s4, _, k4⟩ := st _ _ _ (td.app one) nd fun x hx => List.mem_append.mp hx
  refine ⟨a, us', xv, rfl, rfl, qa', by omega, ?_⟩
  unfold putSlot at e5
  rw [sg, hd1] at e5
  cases e5
  have A12 := A1.nil2 (A2.congrT (T' := fun x => T x ∨ x ∈ ([] : List Addr)) fun x => by simp) r
  exact p σ _ Fs4 (SAft.put A12 r Kp.refl r4 s4 k4 (fs_mem hf haf) (by rw [List.length_set]))
/-- a, b = e1, e2 with plain names: from the left to the right -/
@[simp] def sPar (l : Lv) (i j : Nat) (f : Exs) : Sx := fun g => match f g with
  | some ([x, y], g1) => match gN l i x g1 with
    | some g2 => (gN l j y g2).map .nx
    | none => none
  | _ => none
theorem tgs2 {l : Lv} {i j : Nat} : TGsd b (gCons (gName i) (gCons (gName j) gNil)) l ([i] ++ ([j] ++ [])) (gsCons (gN l i) (gsCons (gN l j) gsNil)) := tgs_cons tg_n (tgs_cons tg_n tgs_nil)
theorem ts_par {t : TA} {l : Lv} {ms : List Nat} {f : Exs} {i j : Nat} (h : TAd b t l ms f) (hp : djb pr [i, j] = true) : TSd b (tPar i j t) pr (sPar l i j f) := by
  intro B T g σ H Fs fl D r e p
  unfold sPar at e
  split at e
  case h_2 => cases e
  rename_i x y g1 e1
  split at e
  case h_2 => cases e
  rename_i g2 e2
  obtain ⟨g3, e3, rfl⟩ := Option.map_eq_some_iff.mp e
  refine h B T g σ H Fs [x, y] g1 _ r e1 fun vs H1 Fs1 F a Dn => ?_
  have e4 : gsCons (gN l i) (gsCons (gN l j) gsNil) [x, y] g1 = some g3 := by
    show (gN l i x g1 >>= fun g2 => gsCons (gN l j) gsNil [y] g2) = _
    rw [e2]
    show (gN l j y g2 >>= fun g3 => gsNil [] g3) = _
    rw [e3]; rfl
  obtain ⟨v, u, F1, F2, rfl, _, _, _⟩ := dens2 Dn
  have q := tgs2 (b := b) B T g1 σ H1 Fs1 F [v, u] [x, y] g3 (fun σ2 H2 => D.nx σ2 H2) a.rel Dn a.nd a.out e4 fun σ2 Fs2 r2 lg p2 sub => p σ2 H1 Fs2 ((a.st r).keep r2 lg (fun k hk => (p2 k (by
    have := djb_of hp k hk
    simpa using this)).1) sub)
  obtain ⟨v', r', ev, q⟩ := q
  cases ev
  obtain ⟨u', r', eu, q⟩ := q
  cases eu
  exact ⟨v, u, rfl, q.2⟩
end
end DL

set_option Elab.async false
set_option linter.all false
set_option maxRecDepth 100000
namespace DL
open PySem L2

/-- the arguments: the slot's own value (true), or shared data -/
inductive DensM (b : Bs) (C : Addr → Prop) (H : Hp) (vj : V) : List Bool → List V → List D → Prop
  | nil : DensM b C H vj [] [] []
  | m {as : List Bool} {vs : List V} {ds : List D} : DensM b C H vj as vs ds → DensM b C H vj (true :: as) (vj :: vs) (.non :: ds)
  | p {v : V} {d : D} {as : List Bool} {vs : List V} {ds : List D} : Den b C H v d [] → d.xf = true → DensM b C H vj as vs ds → DensM b C H vj (false :: as) (v :: vs) (d :: ds)
theorem DensM.kp {b : Bs} {C C' : Addr → Prop} {M : Addr → Prop} {H H' : Hp} {vj : V} (k : Kp M H H') (hC : ∀ a, H a ≠ none → C a → ¬ M a ∧ C' a) : ∀ {as : List Bool} {vs : List V} {ds : List D}, DensM b C H vj as vs ds → DensM b C' H' vj as vs ds
  | _, _, _, .nil => .nil
  | _, _, _, .m t => .m (DensM.kp k hC t)
  | _, _, _, .p h x t => .p (h.kp k hC fun a ha => absurd ha List.not_mem_nil) x (DensM.kp k hC t)
@[simp] def fillM (dj : D) : List Bool → List D → List D
  | true :: as, _ :: ds => dj :: fillM dj as ds
  | false :: as, d :: ds => d :: fillM dj as ds
  | _, _ => []
theorem DensM.facts {b : Bs} {C : Addr → Prop} {H : Hp} {vj : V} (dj : D) : ∀ {as : List Bool} {vs : List V} {ds : List D}, DensM b C H vj as vs ds → vs.length = as.length ∧ (fillM dj as ds).length = as.length ∧
    ∀ i : Nat, (as[i]? = some true → vs[i]? = some vj ∧ (fillM dj as ds)[i]? = some dj) ∧ (as[i]? = some false → ∃ v d, vs[i]? = some v ∧ (fillM dj as ds)[i]? = some d ∧ Den b C H v d [] ∧ d.xf = true)
  | _, _, _, .nil => ⟨rfl, rfl, fun i => ⟨fun h => by simp at h, fun h => by simp at h⟩⟩
  | _, _, _, .m t => by
    obtain ⟨h1, h2, h3⟩ := DensM.facts dj t
    refine ⟨by simp [h1], by simp [fillM, h2], fun i => ?_⟩
    cases i with
    | zero => exact ⟨fun _ => ⟨rfl, rfl⟩, fun h => by simp at h⟩
    | succ i => simpa [fillM] using h3 i
  | _, _, _, .p h x t => by
    obtain ⟨h1, h2, h3⟩ := DensM.facts dj t
    refine ⟨by simp [h1], by simp [fillM, h2], fun i => ?_⟩
    cases i with
    | zero => exact ⟨fun h => by simp at h, fun _ => ⟨_, _, rfl, rfl, h, x⟩⟩
    | succ i => simpa [fillM] using h3 i
def TMd (b : Bs) (t : TA) (j : Nat) (as : List Bool) (l : Lv) (ms : List Nat) (f : Exs) : Prop := ∀ (B T : Addr → Prop) (g : G) (σ : St) (H : Hp) (Fs : List (List Addr)) (ds : List D) (g' : G) (vj : V) (Q : List V → Hp → Prop), Rel b B T g σ H Fs → σ[j]? = some (some vj) → f g = some (ds, g') →
  (∀ vs H' Fs', Aft b B T g g' σ ms H H' Fs Fs' [] → DensM b (Cl B T Fs' l) H' vj as vs ds → Q vs H') → t σ H Q
@[simp] def xMM (r : Exs) : Exs := fun g => (r g).map fun p => (.non :: p.1, p.2)
@[simp] def xMP (f : Ex) (r : Exs) : Exs := fun g => match f g with
  | some (d, g1) => (r g1).map fun p => (d.sh :: p.1, p.2)
  | none => none
section
variable {b : Bs}
theorem tm_nil {j : Nat} : TMd b tNil j [] ⟨false, []⟩ [] xNil := by
  intro B T g σ H Fs ds g' vj Q r hv e h
  obtain ⟨rfl, rfl⟩ : [] = ds ∧ g = g' := by simpa [xNil] using e
  exact h [] H Fs r.aft .nil
theorem tm_m {t : TA} {j : Nat} {as : List Bool} {l : Lv} {ms : List Nat} {r : Exs} (h : TMd b t j as l ms r) : TMd b (tCons (tVar j) t) j (true :: as) l ms (xMM r) := by
  intro B T g σ H Fs ds g' vj Q r0 hv e q
  obtain ⟨⟨ds0, g0⟩, e1, e2⟩ := Option.map_eq_some_iff.mp e
  cases e2
  exact ⟨vj, hv, h B T g σ H Fs ds0 g0 vj _ r0 hv e1 fun vs H1 Fs1 A Dn => q _ H1 Fs1 A (.m Dn)⟩
theorem tm_p {te : TE} {t : TA} {j : Nat} {as : List Bool} {l1 l2 : Lv} {m1 m2 : List Nat} {f : Ex} {r : Exs} (h1 : TEd b te l1 m1 f) (h2 : TMd b t j as l2 m2 r) (hd : ∀ i ∈ l1.bs, i ∉ m2) : TMd b (tCons te t) j (false :: as) (l1.or l2) (m1 ++ m2) (xMP f r) := by
  intro B T g σ H Fs ds g' vj Q r0 hv e q
  unfold xMP at e
  split at e
  case h_2 => cases e
  rename_i d g1 e1
  obtain ⟨⟨ds0, g0⟩, e2, e3⟩ := Option.map_eq_some_iff.mp e
  cases e3
  refine te_sh h1 B T g σ H Fs d.sh g1 _ r0 (by unfold xSh; rw [e1]; rfl) fun v H1 Fs1 F A Dn => ?_
  have eF := Dn.xf (D.xf_sh d)
  subst eF
  refine h2 B _ g1 σ H1 Fs1 ds0 g0 vj _ A.rel hv e2 fun vs H2 Fs2 A2 D2 => ?_
  have ca := Aft.carry (F1 := []) A.rel A2 hd
  refine q _ H2 Fs2 (A.nil2 A2 r0) (.p ((Dn.kp A2.kp ca.1 ca.2).imp fun a _ c => Cl.or1 ⟨c.1, fun z => c.2.1 (.inl z), c.2.2⟩) (D.xf_sh d) (D2.kp Kp.refl (M := fun _ => False) fun a _ c => ⟨id, Cl.or2 ⟨c.1, fun z => c.2.1 (.inl z), c.2.2⟩⟩))
/-- the call: slot j is the pos-th argument -/
@[simp] def xCallM (m : List D → Option (D × G)) (j pos : Nat) (as : List Bool) (f : Exs) : Ex := fun g => if (g[j]?.join).isSome = true then match f g with
  | some (ds, g1) => match g1[j]? with
    | some (some dj) => if dj.xf = true then none else match m (fillM dj as ds) with
      | some (d, gp) => match gp[pos]? with
        | some (some dj') => if dj'.xf = true then none else some (d, g1.set j (some dj'))
        | _ => none
      | none => none
    | _ => none
  | none => none else none
theorem as_true {pos k : Nat} {i : Nat} : (List.replicate pos false ++ true :: List.replicate k false)[i]? = some true ↔ i = pos := by
  by_cases h : i < pos
  · rw [List.getElem?_append_left (by simpa using h), List.getElem?_replicate, if_pos h]
    constructor
    · intro e; cases e
    · intro e; omega
  · rw [List.getElem?_append_right (by simpa using Nat.le_of_not_lt h), List.length_replicate]
    by_cases e : i = pos
    · subst e; simp
    · obtain ⟨n, hn⟩ : ∃ n, i - pos = n + 1 := ⟨i - pos - 1, by omega⟩
      rw [hn, List.getElem?_cons_succ, List.getElem?_replicate]
      constructor
      · intro h; split at h <;> cases h
      · intro h; exact absurd h e
theorem as_false {pos k : Nat} {i : Nat} (hi : i < pos + 1 + k) (h : i ≠ pos) : (List.replicate pos false ++ true :: List.replicate k false)[i]? = some false := by
  by_cases l : i < pos
  · rw [List.getElem?_append_left (by simpa using l), List.getElem?_replicate, if_pos l]
  · rw [List.getElem?_append_right (by simpa using Nat.le_of_not_lt l), List.length_replicate]
    obtain ⟨n, hn⟩ : ∃ n, i - pos = n + 1 := ⟨i - pos - 1, by omega⟩
    rw [hn, List.getElem?_cons_succ, List.getElem?_replicate, if_pos (by omega)]
theorem te_callM {t : TA} {l : Lv} {ms : List Nat} {f : Exs} {j pos k n : Nat} {m : List D → Option (D × G)} (h : TMd b t j (List.replicate pos false ++ true :: List.replicate k false) l ms f) (hn : n = pos + 1 + k) (hl : djb l.bs [j] = true) : TEd b (tCall (spD b n [pos] m) [] E0 t) ⟨false, []⟩ (ms ++ [j]) (xCallM m j pos (List.replicate pos false ++ true :: List.replicate k false) f) := by
  intro B T g σ H Fs d g' Q r e hq
  generalize has : List.replicate pos false ++ true :: List.replicate k false = as at h e
  have lenA : as.length = n := by rw [← has]; simp; omega
  have aT : ∀ {i : Nat}, as[i]? = some true ↔ i = pos := fun {i} => by rw [← has]; exact as_true
  have aF : ∀ {i : Nat}, i < n → i ≠ pos → as[i]? = some false := fun {i} h1 h2 => by rw [← has]; exact as_false (by omega) h2
  have hpos : pos < n := by omega
  unfold xCallM at e
  split at e
  case isFalse => cases e
  rename_i hsome
  split at e
  case h_2 => cases e
  rename_i ds g1 e1
  split at e
  case h_2 => cases e
  rename_i dj hdj
  split at e
  case isTrue => cases e
  rename_i hx
  split at e
  case h_2 => cases e
  rename_i d0 gp e2
  split at e
  case h_2 => cases e
  rename_i dj' hgp
  split at e
  case isTrue => cases e
  rename_i hx'
  cases e
  have hx1 : dj.xf = false := by simpa using hx
  have hx2 : dj'.xf = false := by simpa using hx'
  obtain ⟨vj, hv⟩ : ∃ vj, σ[j]? = some (some vj) := by
    cases q : g[j]? with
    | none => rw [q] at hsome; cases hsome
    | some o =>
      cases o with
      | none => rw [q] at hsome; cases hsome
      | some d1 =>
        obtain ⟨v, f, h1, _⟩ := r.at_ j d1 q
        exact ⟨v, h1⟩
  refine h B T g σ H Fs ds g1 vj _ r hv e1 fun vs H1 Fs1 A Dn => ?_
  rw [List.append_nil]
  have r1 : Rel b B T g1 σ H1 Fs1 := A.rel.nilT
  obtain ⟨v2, fj, k1, k2, k3⟩ := r1.at_ j dj hdj
  rw [hv] at k1
  cases k1
  rw [hx1] at k3
  obtain ⟨lv, lf, fx⟩ := Dn.facts dj
  have jl : j ∉ l.bs := fun z => djb_of hl j z List.mem_cons_self
  have hfl : (as.map fun c => if c = true then fj else []).flatten = fj := by
    rw [← has]; simp
  have fc : ∀ (i : Nat) f, (as.map fun c => if c = true then fj else [])[i]? = some f → ∀ a ∈ f, a ∈ fj := fun i f hf a ha => by
    rw [List.getElem?_map] at hf
    obtain ⟨c, _, hc⟩ := Option.map_eq_some_iff.mp hf
    cases c with
    | true => simp only [if_true] at hc; rw [hc]; exact ha
    | false => simp only [Bool.false_eq_true, if_false] at hc; rw [← hc] at ha; exact absurd ha List.not_mem_nil
  have deadH : ∀ a, H1 a = none → H a = none := fun a z => by
    by_cases w : H a = none
    · exact w
    · exact absurd z (A.kp.live a w)
  have ljF : j < Fs.length := by
    have := (List.getElem?_eq_some_iff.mp k2).1
    rw [A.rel.lf, A.len, ← r.lf] at this; exact this
  have ljF1 : j < Fs1.length := (List.getElem?_eq_some_iff.mp k2).1
  have ljg : j < g1.length := by rw [← r1.lf]; exact ljF1
  refine ⟨fun a => B a ∨ ∃ i f, i ≠ j ∧ Fs1[i]? = some f ∧ a ∈ f, T, fillM dj as ds, as.map fun c => if c = true then fj else [], d, gp, lf.trans lenA, ⟨by rw [List.length_map, List.length_map]; omega, by rw [List.length_map, List.length_map]; omega, fun i d1 hd => ?_, fun i hi => ?_, by rw [hfl]; exact fs_one r1.nd k2, fun a ha => ?_, fun a ha => ?_⟩, e2, fun v H' Fs' F rel' nd out src kp sub lg Dv => ?_⟩
  · rw [List.getElem?_map] at hd
    obtain ⟨d2, hd2, e0⟩ := Option.map_eq_some_iff.mp hd
    cases e0
    have li : i < n := by
      have := (List.getElem?_eq_some_iff.mp hd2).1
      omega
    by_cases ei : i = pos
    · obtain ⟨q1, q2⟩ := (fx i).1 (aT.mpr ei)
      rw [q2] at hd2
      cases hd2
      refine ⟨vj, fj, by rw [List.getElem?_map, q1]; rfl, by rw [List.getElem?_map, aT.mpr ei]; rfl, k3.imp fun a _ c => ⟨fun z => ?_, c.2.1, fun i' f hf ha => absurd (c.2.2 j fj k2 (fc i' f hf a ha)) List.not_mem_nil⟩⟩
      rcases z with z | ⟨i', f, _, hf, ha⟩
      · have := c.1 z; cases this
      · exact absurd (c.2.2 i' f hf ha) List.not_mem_nil
    · obtain ⟨v3, d3, q1, q2, q3, q4⟩ := (fx i).2 (aF li ei)
      rw [q2] at hd2
      cases hd2
      exact ⟨v3, [], by rw [List.getElem?_map, q1]; rfl, by rw [List.getElem?_map, aF li ei]; rfl, q3.imp fun a _ c => ⟨fun _ => q4, c.2.1, fun i' f hf ha => absurd (c.2.2 j fj k2 (fc i' f hf a ha)) jl⟩⟩
  · rw [List.getElem?_map] at hi
    obtain ⟨_, _, e0⟩ := Option.map_eq_some_iff.mp hi
    cases e0
  · rw [hfl] at ha
    refine ⟨fun z => ?_, (r1.out a (fs_mem k2 ha)).2⟩
    rcases z with z | ⟨i', f, ni, hf, hm⟩
    · exact (r1.out a (fs_mem k2 ha)).1 z
    · exact fs_disj r1.nd hf k2 ni a hm ha
  · rcases ha with (ha | ⟨i', f, _, hf, hm⟩) | ha
    · exact r1.live a (.inl ha)
    · exact r1.sl hf hm
    · exact r1.live a (.inr ha)
  -- behind the call
  rw [hfl] at src kp sub
  have mg : (maskG [pos] gp)[pos]? = some (some dj') := by
    unfold maskG
    rw [List.getElem?_mapIdx, hgp]
    simp
  obtain ⟨v4, f', g1', g2', g3'⟩ := rel'.at_ pos dj' mg
  have hvp : (vs.map some)[pos]? = some (some vj) := by rw [List.getElem?_map, ((fx pos).1 (aT.mpr rfl)).1]; rfl
  rw [hvp] at g1'
  cases g1'
  rw [hx2] at g3'
  have subf : ∀ a ∈ f', a ∈ fj ∨ H1 a = none := fun a ha => sub a (fs_mem g2' ha)
  have get' : ∀ (i : Nat) f, (Fs1.set j f')[i]? = some f → (i = j ∧ f = f') ∨ (i ≠ j ∧ Fs1[i]? = some f) := fun i f hi => by
    by_cases e : j = i
    · subst e
      rw [List.getElem?_set_self ljF1] at hi
      exact .inl ⟨rfl, (Option.some.inj hi).symm⟩
    · rw [List.getElem?_set_ne e] at hi
      exact .inr ⟨Ne.symm e, hi⟩
  have clT : ∀ a, Cl (fun a => B a ∨ ∃ i f, i ≠ j ∧ Fs1[i]? = some f ∧ a ∈ f) (fun a => T a ∨ a ∈ F) Fs' ⟨false, []⟩ a → Cl B (fun a => T a ∨ a ∈ F) (Fs1.set j f') ⟨false, []⟩ a := fun a c => ⟨fun z => c.1 (.inl z), c.2.1, fun i f hf ha => by
    rcases get' i f hf with ⟨_, e⟩ | ⟨ni, e⟩
    · subst e; exact absurd (c.2.2 pos _ g2' ha) List.not_mem_nil
    · have := c.1 (.inr ⟨i, f, ni, e, ha⟩); cases this⟩
  have relN : Rel b B (fun a => T a ∨ a ∈ F) (g1.set j (some dj')) σ H' (Fs1.set j f') := by
    refine ⟨by rw [List.length_set]; exact r1.lg, by rw [List.length_set, List.length_set]; exact r1.lf, fun i d1 hd => ?_, fun i hi => ?_, fs_set r1.nd (fs_one rel'.nd g2') fun i f ni hf a ha hm => ?_, fun a ha => ?_, fun a ha => ?_⟩
    · by_cases e : j = i
      · subst e
        rw [List.getElem?_set_self ljg] at hd
        cases hd
        exact ⟨vj, f', hv, List.getElem?_set_self ljF1, by rw [hx2]; exact g3'.imp fun a _ c => clT a c⟩
      · rw [List.getElem?_set_ne e] at hd
        obtain ⟨v5, f5, q1, q2, q3⟩ := r1.at_ i d1 hd
        refine ⟨v5, f5, q1, by rw [List.getElem?_set_ne e]; exact q2, q3.kp kp (fun a la c => ⟨fun z => List.not_mem_nil (c.2.2 j fj k2 z), c.1, fun z => ?_, fun i' f hf ha => ?_⟩) fun a ha z => fs_disj r1.nd q2 k2 (Ne.symm e) a ha z⟩
        · rcases z with z | z
          · exact c.2.1 z
          · rcases src a z with w | w
            · exact la w
            · exact List.not_mem_nil (c.2.2 j fj k2 w)
        · rcases get' i' f hf with ⟨_, e'⟩ | ⟨_, e'⟩
          · subst e'
            rcases subf a ha with w | w
            · exact absurd (c.2.2 j fj k2 w) List.not_mem_nil
            · exact absurd w la
          · exact c.2.2 i' f e' ha
    · have ne : j ≠ i := fun z => by
        subst z
        rw [List.getElem?_set_self ljg] at hi
        cases hi
      rw [List.getElem?_set_ne ne] at hi ⊢
      exact r1.no i hi
    · rcases subf a ha with w | w
      · exact fs_disj r1.nd k2 hf (Ne.symm ni) a w hm
      · exact r1.sl hf hm w
    · obtain ⟨i, f, hi, hm⟩ := fs_of ha
      rcases get' i f hi with ⟨_, e⟩ | ⟨ni, e⟩
      · subst e
        have := rel'.out a (fs_mem g2' hm)
        exact ⟨fun z => this.1 (.inl z), this.2⟩
      · have := r1.out a (fs_mem e hm)
        refine ⟨this.1, fun z => z.elim this.2 fun z => ?_⟩
        rcases src a z with w | w
        · exact r1.sl e hm w
        · exact fs_disj r1.nd k2 e (Ne.symm ni) a w hm
    · rcases ha with ha | ha | ha
      · exact kp.live a (r1.live a (.inl ha))
      · exact kp.live a (r1.live a (.inr ha))
      · exact Dv.live a ha
  have back : ∀ a ∈ fj, a ∈ Fs[j] ∨ H a = none := fun a ha => A.sub j _ fj (List.getElem?_eq_getElem ljF) k2 a ha
  refine hq v H' (Fs1.set j f') F ⟨relN, nd, fun a ha => ⟨fun z => (out a ha).1 (.inl z), (out a ha).2⟩, fun a ha => ?_, ?_, fun i hi => ?_, fun i f f2 h1 h2 a ha => ?_, by rw [List.length_set]; exact A.len⟩ (Dv.imp fun a _ c => clT a c)
  · rcases src a ha with w | w
    · exact .inl (deadH a w)
    · rcases back a w with u | u
      · exact .inr ⟨j, List.mem_append_right _ List.mem_cons_self, _, List.getElem?_eq_getElem ljF, u⟩
      · exact .inl u
  · refine Kp.trans' (A.kp.mono fun a ⟨i, hi, x⟩ => ⟨i, List.mem_append_left _ hi, x⟩) kp fun a ha la => ?_
    exact ⟨j, List.mem_append_right _ List.mem_cons_self, _, List.getElem?_eq_getElem ljF, (back a ha).resolve_right la⟩
  · have ne : j ≠ i := fun z => hi (List.mem_append_right _ (z ▸ List.mem_cons_self))
    rw [List.getElem?_set_ne ne, List.getElem?_set_ne ne]
    exact A.same i fun z => hi (List.mem_append_left _ z)
  · rcases get' i f2 h2 with ⟨e, e'⟩ | ⟨_, e⟩
    · subst e e'
      rcases subf a ha with w | w
      · exact A.sub i f fj h1 k2 a w
      · exact .inr (deadH a w)
    · exact A.sub i f f2 h1 e a ha
end
end DL

set_option Elab.async false
set_option linter.all false
set_option maxRecDepth 100000
namespace DL
open PySem L2

/-- the contexts of a block in φ's ones -/
def blkFam (φ : Fam) (scope : Scope) : Fam where
  P := φ.P
  w := φ.w
  K := φ.K
  mg := φ.mg
  base := φ.base
  N := φ.N
  sc := relS scope φ.sc
  k := φ.k
  mem Y := ∃ (X : Cx) (s : Shared) (H : Hp) (C : Addr) (cl : List (Str × Addr)) (fp : List Addr), φ.mem X ∧ Y = X.blk s H scope (compEnvC scope cl C X.env) fp
  pr := by rintro _ ⟨X, _, _, _, _, _, h, rfl⟩; exact φ.pr X h
  ww := by rintro _ ⟨X, _, _, _, _, _, h, rfl⟩; exact φ.ww X h
  kk := by rintro _ ⟨X, _, _, _, _, _, h, rfl⟩; exact φ.kk X h
  mm := by rintro _ ⟨X, _, _, _, _, _, h, rfl⟩; exact φ.mm X h
  bb := by rintro _ ⟨X, _, _, _, _, _, h, rfl⟩; exact φ.bb X h
  nn := by rintro _ ⟨X, _, _, _, _, _, h, rfl⟩; exact φ.nn X h
  ss := by rintro _ ⟨X, _, _, _, _, _, h, rfl⟩; show relS scope X.env.scope = _; rw [φ.ss X h]
  rr := by rintro _ ⟨X, _, _, _, _, _, h, rfl⟩; exact φ.rr X h
  cc := by rintro _ ⟨X, _, _, _, _, _, h, rfl⟩; exact φ.cc X h
  po := by rintro _ ⟨X, _, _, _, _, _, h, rfl⟩; exact PassesOwn.never
  nd := φ.nd
/-- a name that is stored -/
structure Lc (φ : Fam) (i : Nat) (x : Str) : Prop where
  n : φ.N[i]? = some x
  l : Loc φ.sc x
  f : ∀ X, φ.mem X → X.fn x = true ∨ X.env.scope.names.lookup x = some .local
theorem lc_def {P : Program} {w : World} {K : PySem.W.Frag} {mg : Str → Option Value} {base : Heap} {N : List Str} {sc : Scope} {k : Nat} {nd : N.Nodup} {i : Nat} {x : Str} (n : N[i]? = some x) (l : Loc sc x) : Lc (defFam P w K mg base N sc k nd) i x :=
  ⟨n, l, fun X h => .inl (by rw [h.2.2.2.2.2.2.2.2.2.1])⟩
theorem lc_blk {φ : Fam} {scope : Scope} {i : Nat} {x : Str} (n : φ.N[i]? = some x) (l : (relS scope φ.sc).names.lookup x = some .local) : Lc (blkFam φ scope) i x :=
  ⟨n, .inl l, fun X h => .inr (by rw [(blkFam φ scope).ss X h]; exact l)⟩

def PGd (φ : Fam) (tg : Expr) (l : Lv) (iz : List Nat) (f : Gx) : Prop := ∃ t, (∀ X, φ.mem X → PG X tg t) ∧ TGd φ.b t l iz f
def PGsd (φ : Fam) (tg : List Expr) (l : Lv) (iz : List Nat) (f : Gxs) : Prop := ∃ t, (∀ X, φ.mem X → PGs X tg t) ∧ TGsd φ.b t l iz f
section
variable {φ : Fam} {pos p1 p2 p3 : Pos} {x y : Str} {i j : Nat} {l l1 l2 le : Lv} {iz iz2 ms m1 m2 mc me pr : List Nat} {e : Expr} {es : List Expr} {f : Gx} {fs : Gxs} {v fe : Ex} {vs : Exs} {c : Tx}
theorem pgd_n (h : Lc φ i x) : PGd φ (.Name x pos) l [i] (gN l i) := ⟨_, fun X hX => pg_name (by rw [φ.nn X hX]; exact φ.nd) (by rw [φ.nn X hX]; exact h.n) (by rw [φ.ss X hX]; exact h.l) (h.f X hX), tg_n⟩
theorem pgd_ns (h : Lc φ i x) : PGd φ (.Name x pos) l [i] (gNs l i) := ⟨_, fun X hX => pg_name (by rw [φ.nn X hX]; exact φ.nd) (by rw [φ.nn X hX]; exact h.n) (by rw [φ.ss X hX]; exact h.l) (h.f X hX), tg_ns⟩
theorem pgsd_nil : PGsd φ [] l [] gsNil := ⟨_, fun _ _ => pgs_nil, tgs_nil⟩
theorem pgsd_cons (h : PGd φ e l iz f) (hr : PGsd φ es l iz2 fs) (hs : ∀ env, (assignEach (e :: es) env).map (·.2) = assign e env :: (assignEach es env).map (·.2)) : PGsd φ (e :: es) l (iz ++ iz2) (gsCons f fs) :=
  let ⟨_, p, t⟩ := h; let ⟨_, q, u⟩ := hr; ⟨_, fun X hX => pgs_cons (p X hX) (q X hX) (hs X.env), tgs_cons t u⟩
theorem pgd_t {k n : Nat} (h : PGsd φ es l iz fs) (hn : ∀ ds g g', fs ds g = some g' → ds.length = n) (h1 : ∀ env, (assignEach es env).length = n) (h2 : ∀ env, (assignEach es env).findIdx? (·.1) = none) : PGd φ (.Tuple es k pos) l iz (gT fs) :=
  let ⟨_, p, t⟩ := h; ⟨_, fun X hX => by rw [show φ.b.K = X.K from (φ.kk X hX).symm]; exact pg_tup (φ.cc X hX) (p X hX) (h1 X.env) (h2 X.env), tg_t rfl t hn⟩

def PId (φ : Fam) (tg e : Expr) (l : Lv) (ms : List Nat) (f : Ix) : Prop := ∃ t, (∀ X, φ.mem X → PI X tg e t) ∧ TId φ.b t l ms f
variable {tg : Expr} {fi : Ix}
theorem pid_list (h : PEd φ e l ms v) : PId φ tg e l ms (xItl v) := let ⟨_, p, t⟩ := h; ⟨_, fun X hX => by rw [show φ.b.K = X.K from (φ.kk X hX).symm]; exact pi_list (p X hX), ti_list rfl t⟩
theorem pid_tup (h : PEd φ e l ms v) : PId φ tg e l ms (xItt v) := let ⟨_, p, t⟩ := h; ⟨_, fun X hX => by rw [show φ.b.K = X.K from (φ.kk X hX).symm]; exact pi_tup (p X hX), ti_tup rfl t⟩
theorem pid_rg1 {a : Expr} (hg : Gn φ "range") (hm : φ.mg "range" = none) (h : PAd φ [a] l ms vs) (hs : ∀ env, starEach [a] env = [(false, eval a env)]) : PId φ tg (.Call (.Name "range" p1) [a] [] pos) ⟨false, []⟩ ms (xRg1 vs) :=
  let ⟨_, p, t⟩ := h; ⟨_, fun X hX => pi_range1 (hg.X X hX) (by rw [φ.mm X hX]; exact hm) (p X hX) (hs X.env), ti_rg1 t⟩

variable {m : List D → Option (D × G)} {k n : Nat}
theorem ped_call (F : FnD φ.P φ.w φ.K φ.mg φ.base x k n [] m) (hk : k ≤ φ.k) (hg : Gn φ x) (ha : PAd φ (e :: es) l ms vs) (he : ∀ env, starEach (e :: es) env = (false, eval e env) :: starEach es env) (hpl : ∀ env, (backTo pos (starEach es env)).any (·.1) = false) :
    PEd φ (.Call (.Name x p1) (e :: es) [] pos) ⟨false, []⟩ ms (xCall m vs) := by
  obtain ⟨f, fd, ps, hm, hkp, hb, Fk⟩ := F.ex
  obtain ⟨t, q, u⟩ := ha
  refine ⟨_, fun X hX => ?_, te_call u F.len⟩
  refine pe_call (fd := fd) (ps := ps) ?_ (φ.rr X hX) (hg.X X hX) (by rw [φ.mm X hX]; exact hm) (by rw [φ.kk X hX]; exact hkp) (by rw [φ.kk X hX]; exact hb) .nil pass0 (q X hX) hg.p.d (he X.env) (hpl X.env)
  rw [φ.pr X hX, φ.ww X hX, φ.kk X hX, φ.mm X hX, φ.bb X hX]
  exact Fk.mono hk
theorem ped_call0 (F : FnD φ.P φ.w φ.K φ.mg φ.base x k n [] m) (hk : k ≤ φ.k) (hg : Gn φ x) : PEd φ (.Call (.Name x p1) [] [] pos) ⟨false, []⟩ [] (xCall m xNil) := by
  obtain ⟨f, fd, ps, hm, hkp, hb, Fk⟩ := F.ex
  refine ⟨_, fun X hX => ?_, te_call ta_nil F.len⟩
  refine pe_call0 (fd := fd) (ps := ps) ?_ (φ.rr X hX) (hg.X X hX) (by rw [φ.mm X hX]; exact hm) (by rw [φ.kk X hX]; exact hkp) (by rw [φ.kk X hX]; exact hb) .nil pass0 hg.p.d
  rw [φ.pr X hX, φ.ww X hX, φ.kk X hX, φ.mm X hX, φ.bb X hX]
  exact Fk.mono hk
/-- arguments, of which slot j is one -/
def PMd (φ : Fam) (es : List Expr) (j : Nat) (as : List Bool) (l : Lv) (ms : List Nat) (f : Exs) : Prop := ∃ t, (∀ X, φ.mem X → PA X es t) ∧ TMd φ.b t j as l ms f
variable {as : List Bool}
theorem pmd_nil : PMd φ [] j [] ⟨false, []⟩ [] xNil := ⟨_, fun _ _ => pa_nil, tm_nil⟩
theorem pmd_m (h : Nm φ j x) (hr : PMd φ es j as l ms vs) (hs : ∀ env, starEach (.Name x pos :: es) env = (false, eval (.Name x pos) env) :: starEach es env) : PMd φ (.Name x pos :: es) j (true :: as) l ms (xMM vs) :=
  let ⟨_, p, t⟩ := hr; ⟨_, fun X hX => pa_cons (h.X X hX) (p X hX) (hs X.env), tm_m t⟩
theorem pmd_p (h : PEd φ e l1 m1 v) (hr : PMd φ es j as l2 m2 vs) (hs : ∀ env, starEach (e :: es) env = (false, eval e env) :: starEach es env) (hd : djb l1.bs m2 = true) : PMd φ (e :: es) j (false :: as) (l1.or l2) (m1 ++ m2) (xMP v vs) :=
  let ⟨_, p, t⟩ := hr; let ⟨_, q, u⟩ := h; ⟨_, fun X hX => pa_cons (q X hX) (p X hX) (hs X.env), tm_p u t (djb_of hd)⟩
theorem ped_callM {pp kk : Nat} (F : FnD φ.P φ.w φ.K φ.mg φ.base x k n [pp] m) (hk : k ≤ φ.k) (hg : Gn φ x) (ha : PMd φ (e :: es) j (List.replicate pp false ++ true :: List.replicate kk false) l ms vs) (hn : n = pp + 1 + kk) (hl : djb l.bs [j] = true)
    (he : ∀ env, starEach (e :: es) env = (false, eval e env) :: starEach es env) (hpl : ∀ env, (backTo pos (starEach es env)).any (·.1) = false) :
    PEd φ (.Call (.Name x p1) (e :: es) [] pos) ⟨false, []⟩ (ms ++ [j]) (xCallM m j pp (List.replicate pp false ++ true :: List.replicate kk false) vs) := by
  obtain ⟨f, fd, ps, hm, hkp, hb, Fk⟩ := F.ex
  obtain ⟨t, q, u⟩ := ha
  refine ⟨_, fun X hX => ?_, te_callM u hn hl⟩
  refine pe_call (fd := fd) (ps := ps) ?_ (φ.rr X hX) (hg.X X hX) (by rw [φ.mm X hX]; exact hm) (by rw [φ.kk X hX]; exact hkp) (by rw [φ.kk X hX]; exact hb) .nil pass0 (q X hX) hg.p.d (he X.env) (hpl X.env)
  rw [φ.pr X hX, φ.ww X hX, φ.kk X hX, φ.mm X hX, φ.bb X hX]
  exact Fk.mono hk

def PTsd (φ : Fam) (es : List Expr) (ms : List Nat) (f : Tx) : Prop := ∃ t, (∀ X, φ.mem X → PTs X es t) ∧ TTd φ.b t ms f
@[simp] def xYes : Tx := fun g => some (true, g)
theorem ptsd_nil : PTsd φ [] [] xYes := ⟨_, fun _ _ => pts_nil, fun B T g σ H Fs c g' Q r e q => by cases e; exact q H Fs r.aft⟩
theorem ptsd_one (h : PTd φ e ms c) : PTsd φ [e] ms c := let ⟨_, p, t⟩ := h; ⟨_, fun X hX => pts_one (p X hX), t⟩
section
variable {elt iter : Expr} {ifs : List Expr} {scope : Scope} {own : List (Str × Nat)}
theorem ped_lc (hi : PId φ tg iter l ms fi) (ok : blkC φ.N φ.sc scope own = true) (hg : PGd (blkFam φ scope) tg ⟨l.out, []⟩ iz f) (ht : PTsd (blkFam φ scope) ifs mc c) (he : PEd (blkFam φ scope) elt le me fe)
    (hs : ∀ env x, foldedSetIterable iter env x = pure x) (hl : l.bs = []) (hiz : iz.all (fun i => (own.map (·.2)).contains i) = true) (hdis : djb (own.map (·.2)) (ms ++ (mc ++ me)) = true) (hle : djb le.bs (mc ++ me) = true) (hlv : djb le.bs (own.map (·.2)) = true) :
    PEd φ (.ListComp elt [⟨tg, iter, ifs, 0⟩] scope pos) le (ms ++ (mc ++ me)) (xLc fi f c fe (own.map (·.2))) := by
  obtain ⟨_, p1, t1⟩ := hi
  obtain ⟨_, p2, t2⟩ := hg
  obtain ⟨_, p3, t3⟩ := ht
  obtain ⟨_, p4, t4⟩ := he
  exact ⟨_, fun X hX => pe_lc (φ.cc X hX) (by rw [φ.nn X hX]; exact φ.nd) (p1 X hX) (by rw [φ.nn X hX, φ.ss X hX]; exact blkOk_by ok) (fun s H C cl fp => p2 _ ⟨X, s, H, C, cl, fp, hX, rfl⟩) (fun s H C cl fp => p3 _ ⟨X, s, H, C, cl, fp, hX, rfl⟩)
    (fun s H C cl fp => p4 _ ⟨X, s, H, C, cl, fp, hX, rfl⟩) (hs X.env), te_lc t1 t2 t3 t4 hl (fun i hi => List.contains_iff_mem.mp (List.all_eq_true.mp hiz i hi)) hdis hle hlv⟩
/-- name = [..] on one line -/
theorem psd_setLc {iz2 : List Nat} {G2 : Gx} (hi : PId φ tg iter l ms fi) (ok : blkC φ.N φ.sc scope own = true) (hg : PGd (blkFam φ scope) tg ⟨l.out, []⟩ iz f) (ht : PTsd (blkFam φ scope) ifs mc c) (he : PEd (blkFam φ scope) elt le me fe)
    (hs : ∀ env x, foldedSetIterable iter env x = pure x) (hl : l.bs = []) (hiz : iz.all (fun i => (own.map (·.2)).contains i) = true) (hdis : djb (own.map (·.2)) (ms ++ (mc ++ me)) = true) (hle : djb le.bs (mc ++ me) = true) (hlv : djb le.bs (own.map (·.2)) = true)
    (n : φ.N[i]? = some y) (hk : φ.sc.kind = .function) (hyl : φ.sc.names.lookup y = some .local) (hln : (p2.line == pos.line) = true) (ha : (scope.names.any fun (n, k) => n == y && (k == .local || k == .cell)) = false) (tg2 : TGd φ.b (gName i) le iz2 G2) (hp : djb pr iz2 = true) :
    PSd φ pr (.Assign [.Name y p2] (.ListComp elt [⟨tg, iter, ifs, 0⟩] scope pos) p3) (sAsg (xLc fi f c fe (own.map (·.2))) G2) := by
  obtain ⟨_, p1, t1⟩ := hi
  obtain ⟨_, q2, t2⟩ := hg
  obtain ⟨_, q3, t3⟩ := ht
  obtain ⟨_, q4, t4⟩ := he
  exact ⟨_, fun X hX => ps_setLc (φ.cc X hX) (by rw [φ.nn X hX]; exact φ.nd) (by rw [φ.nn X hX]; exact n) (by rw [φ.ss X hX]; exact hyl) (sw_true (by rw [φ.ss X hX]; exact hk) (by rw [φ.ss X hX]; exact hyl) hln ha) (p1 X hX) (by rw [φ.nn X hX, φ.ss X hX]; exact blkOk_by ok) (fun s H C cl fp => q2 _ ⟨X, s, H, C, cl, fp, hX, rfl⟩) (fun s H C cl fp => q3 _ ⟨X, s, H, C, cl, fp, hX, rfl⟩)
    (fun s H C cl fp => q4 _ ⟨X, s, H, C, cl, fp, hX, rfl⟩) (hs X.env), ts_asg (te_lc t1 t2 t3 t4 hl (fun i hi => List.contains_iff_mem.mp (List.all_eq_true.mp hiz i hi)) hdis hle hlv) tg2 hp⟩
end

variable {st : Stmt} {rest : List Stmt} {a b : List Stmt} {s1 s2 : Sx}
theorem pssd_nil : PSsd φ pr [] sNil := ⟨_, fun _ _ => pss_nil, ts_nil⟩
theorem pssd_cons (h : PSd φ pr st s1) (hr : PSsd φ pr rest s2) : PSsd φ pr (st :: rest) (sSeq s1 s2) := let ⟨_, p, t⟩ := h; let ⟨_, q, u⟩ := hr; ⟨_, fun X hX => pss_cons (p X hX) (q X hX), ts_seq t u⟩
theorem pssd_one (h : PSd φ pr st s1) : PSsd φ pr [st] s1 := let ⟨_, p, t⟩ := h; ⟨_, fun X hX => pss_one (p X hX), t⟩
theorem pssd_never : PSsd φ pr rest sNever := ⟨_, fun _ _ => pss_never, ts_never⟩
theorem psd_never : PSd φ pr st sNever := ⟨_, fun _ _ => ps_never, ts_never⟩
theorem psd_expr (h : PEd φ e l ms v) (hs : ∀ env, swapsWith e none pos.line env = pure false) : PSd φ pr (.Expr e pos) (sExpr v) := let ⟨_, p, t⟩ := h; ⟨_, fun X hX => ps_expr (p X hX) (hs X.env), ts_expr t⟩
theorem psd_ret (h : PEd φ e l ms v) : PSd φ pr (.Return (some e) pos) (sRet l v) := let ⟨_, p, t⟩ := h; ⟨_, fun X hX => ps_ret (p X hX), ts_ret t⟩
theorem psd_retN : PSd φ pr (.Return none pos) sRetN := ⟨_, fun _ _ => ps_retN, ts_retN⟩
theorem psd_if (hc : PTd φ e ms c) (h1 : PSsd φ pr a s1) (h2 : PSsd φ pr b s2) : PSd φ pr (.If e a b pos) (sIf c s1 s2) := let ⟨_, p, t⟩ := hc; let ⟨_, q, u⟩ := h1; let ⟨_, q2, u2⟩ := h2; ⟨_, fun X hX => ps_if (p X hX) (q X hX) (q2 X hX), ts_if t u u2⟩
theorem psd_break : PSd φ pr (.Break pos) sBreak := ⟨_, fun _ _ => ps_break, ts_break⟩
theorem psd_cont : PSd φ pr (.Continue pos) sCont := ⟨_, fun _ _ => ps_continue, ts_cont⟩
theorem psd_pass : PSd φ pr (.Pass pos) sNil := ⟨_, fun _ _ => ps_pass, ts_nil⟩
/-- name = e -/
theorem psd_set (h : PEd φ e l ms v) (hx : Lc φ i x) (hs : ∀ X, φ.mem X → swapsWith e (some (.Name x p1)) pos.line X.env = pure false) (hp : djb pr [i] = true) : PSd φ pr (.Assign [.Name x p1] e pos) (sAsg v (gN l i)) :=
  let ⟨_, p, t⟩ := h; ⟨_, fun X hX => ps_set (by rw [φ.nn X hX]; exact φ.nd) (by rw [φ.nn X hX]; exact hx.n) (by rw [φ.ss X hX]; exact hx.l) (p X hX) (hs X hX) (hx.f X hX), ts_asg t tg_n hp⟩
theorem psd_setS (h : PEd φ e l ms v) (hx : Lc φ i x) (hs : ∀ X, φ.mem X → swapsWith e (some (.Name x p1)) pos.line X.env = pure false) (hp : djb pr [i] = true) : PSd φ pr (.Assign [.Name x p1] e pos) (sAsg v (gNs l i)) :=
  let ⟨_, p, t⟩ := h; ⟨_, fun X hX => ps_set (by rw [φ.nn X hX]; exact φ.nd) (by rw [φ.nn X hX]; exact hx.n) (by rw [φ.ss X hX]; exact hx.l) (p X hX) (hs X hX) (hx.f X hX), ts_asg t tg_ns hp⟩
/-- target = e -/
theorem psd_asg (h : PEd φ e l ms v) (hg : PGd φ tg l iz f) (hp : djb pr iz = true) (hs : ∀ X, φ.mem X → swapsWithSole [tg] e pos.line X.env = pure false) (hw : ∀ X, φ.mem X → swappedStores [tg] e X.env = pure none) (h1 : ∀ env, (assignEach [tg] env).map (·.2) = [assign tg env]) : PSd φ pr (.Assign [tg] e pos) (sAsg v f) :=
  let ⟨_, p, t⟩ := h; let ⟨_, q, u⟩ := hg; ⟨_, fun X hX => ps_asg (p X hX) (q X hX) (hs X hX) (hw X hX) (h1 X.env), ts_asg t u hp⟩
/-- a, b = e1, e2 -/
theorem psd_par {e1 e2 : Expr} {kt k2 : Nat} {pt pt2 : Pos} (h : PAd φ [e1, e2] l ms vs) (hi : φ.N[i]? = some x) (hj : φ.N[j]? = some y) (hij : i ≠ j) (hx : φ.sc.names.lookup x = some .local) (hy : φ.sc.names.lookup y = some .local)
    (hw : ∀ env, env.scope = φ.sc → swappedStores [.Tuple [.Name x p1, .Name y p2] kt pt] (.Tuple [e1, e2] k2 pt2) env = pure (some [x, y])) (hs : ∀ env, swapsWithSole [.Tuple [.Name x p1, .Name y p2] kt pt] (.Tuple [e1, e2] k2 pt2) pos.line env = pure false) (hp : djb pr [i, j] = true) :
    PSd φ pr (.Assign [.Tuple [.Name x p1, .Name y p2] kt pt] (.Tuple [e1, e2] k2 pt2) pos) (sPar l i j vs) :=
  let ⟨_, p, t⟩ := h; ⟨_, fun X hX => ps_par (φ.cc X hX) (by rw [φ.nn X hX]; exact φ.nd) (by rw [φ.nn X hX]; exact hi) (by rw [φ.nn X hX]; exact hj) hij (by rw [φ.ss X hX]; exact hx) (by rw [φ.ss X hX]; exact hy) (p X hX) (hw X.env (φ.ss X hX)) (hs X.env), ts_par t hp⟩
/-- places -/
def PPd (φ : Fam) (e : Expr) (i : Nat) (f : Px) : Prop := ∃ t, (∀ X, φ.mem X → PE X e t) ∧ TPd φ.b t i f
variable {fp : Px} {e2 : Expr} {v2 : Ex}
theorem ppd_n (h : Nm φ i x) : PPd φ (.Name x pos) i (xP i) := ⟨_, h.X, tp_n i⟩
theorem ppd_s (h : PPd φ e i fp) (h2 : PEd φ e2 l [] v2) (hs : PlainIx e2) : PPd φ (.Subscript e e2 pos) i (xPs i fp v2) := let ⟨_, p, t⟩ := h; let ⟨_, q, u⟩ := h2; ⟨_, fun X hX => pe_ix (by rw [show φ.b.K = X.K from (φ.kk X hX).symm]; exact ix_seq) (p X hX) (q X hX) hs, tp_s rfl t u⟩
/-- place[k] = e -/
theorem psd_store {e3 : Expr} {li : Lv} (h : PEd φ e3 l ms v) (hp : PPd φ e i fp) (h2 : PEd φ e2 li [] v2) (hs : ∀ env, swapsWithSole [.Subscript e e2 p1] e3 pos.line env = pure false) (hw : ∀ env, swappedStores [.Subscript e e2 p1] e3 env = pure none) (h1 : ∀ env, (assignEach [.Subscript e e2 p1] env).map (·.2) = [assign (.Subscript e e2 p1) env])
    (ha : ∀ env v, assign (.Subscript e e2 p1) env v = (do
      let ov ← holding [v] (eval e env)
      let iv ← holding [v, ov] (eval e2 env)
      standAt p1
      holding [v, ov, iv] (setItem ov iv  v)
      release [v, ov, iv] [])) : PSd φ pr (.Assign [.Subscript e e2 p1] e3 pos) (sStore l i v fp v2) :=
  let ⟨_, p, t⟩ := h; let ⟨_, q, u⟩ := hp; let ⟨_, q2, u2⟩ := h2; ⟨_, fun X hX => ps_asg (p X hX) (pg_sub (q X hX) (q2 X hX) set_list (ha X.env)) (hs X.env) (hw X.env) (h1 X.env), ts_store t u u2⟩
/-- place.append(e) -/
theorem psd_app {e3 : Expr} {apos cpos : Pos} (hp : PPd φ e i fp) (h : PEd φ e3 l ms v) (hd : djb [i] ms = true) (hs0 : ∀ env, starEach [e3] env = (false, eval e3 env) :: starEach [] env)
    (hbase : ∀ env, attributeBase e "append" env (eval e env) = eval e env)
    (hfew : ∀ env, ((backTo cpos (starEach [e3] env)).all (fun x => !x.1) && (backToKw cpos (keywordEach [] env)).all (fun x => x.1.isSome)
      && decide (([e3] : List Expr).length + ([] : List Keyword).length + (if ([] : List Keyword).isEmpty then 0 else 1) < 30)) = true)
    (hline : (apos.endLine == cpos.line) = true) (hplain : ∀ env, (backTo cpos (starEach [] env)).any (·.1) = false) (hs : ∀ env, swapsWith (.Call (.Attribute e "append" apos) [e3] [] cpos) none pos.line env = pure false) :
    PSd φ pr (.Expr (.Call (.Attribute e "append" apos) [e3] [] cpos) pos) (sApp l i fp v) :=
  let ⟨_, p, t⟩ := hp; let ⟨_, q, u⟩ := h; ⟨_, fun X hX => by
    rw [show φ.b.K = X.K from (φ.kk X hX).symm]
    exact ps_expr (pe_bm PySem.F.plainAttrs_list PySem.F.slot_list_append PySem.F.type_list_append mt_append (p X hX) (pa_cons (q X hX) pa_nil (hs0 X.env)) (hbase X.env) (hfew X.env) hline (hs0 X.env) (hplain X.env)) (hs X.env), ts_app rfl t u hd⟩
theorem psd_for {iter : Expr} {body : List Stmt} (hi : PId φ tg iter l ms fi) (hg : PGd φ tg ⟨l.out, []⟩ iz f) (hb : PSsd φ pr body s1) (hl : l.bs = []) (hp : djb pr iz = true) (hs : ∀ env x, foldedSetIterable iter env x = pure x) : PSd φ pr (.For tg iter body [] pos) (sFor fi f s1) :=
  let ⟨_, p, t⟩ := hi; let ⟨_, q, u⟩ := hg; let ⟨_, r, w⟩ := hb; ⟨_, fun X hX => ps_for (φ.po X hX) (φ.cc X hX) (p X hX) (q X hX) (r X hX) (hs X.env), ts_for t u w hl hp⟩
theorem psd_while {body : List Stmt} (n : Nat) (hc : PTd φ e ms c) (hb : PSsd φ pr body s1) : PSd φ pr (.While e body [] pos) (whileD c s1 n) :=
  let ⟨_, p, t⟩ := hc; let ⟨_, r, w⟩ := hb; ⟨_, fun X hX => ps_while (φ.po X hX) (p X hX) (r X hX), ts_while n t w⟩
end
end DL

set_option Elab.async false
set_option linter.all false
set_option maxRecDepth 100000
namespace DL
open PySem L2 PyProof.Rows
theorem tuple_mul1 (l : Addr) (items : Array Value) (n : Nat) (dd : Option Addr) (sl : Array (Option Value)) (x : Int) (u : Tok) (c0 : (decide (x < -(2 ^ 63)) || decide (x ≥ 2 ^ 63)) = false) (c1 : (items.isEmpty || x == 1) = true) :
    Meets (Builtin.«tuple.__mul__» ⟨[.ref l, .int x u], []⟩) (fun _ R s => s.heap.get? l = some { cls := .type "tuple", dict := dd, data := .seq items n, slots := sl } ∧ R (.ok (.ret (Value.ref l))) s) :=
  .of_wp fun prog w A R s h =>  by
    obtain ⟨hp, g, d, tk, os⟩ :=  s
    obtain ⟨hl, h⟩ := h
    have f1 := AutoSeq1.idx_int
    wp_walk using wpAny_loadPart'  hl
    repeat (first
      | (refine wpAny_ite_false (decide_eq_false (by rw [c0]; exact Bool.false_ne_true)) ?_; wp_walk using wpAny_loadPart'  hl)
      | (refine wpAny_ite_true (decide_eq_true c1) ?_; wp_walk using wpAny_loadPart' hl))
    exact ⟨_, rfl, h⟩
theorem tuple_mul0 (l : Addr) (items : Array Value) (n : Nat) (dd : Option Addr) (sl : Array (Option Value)) (x : Int) (u : Tok) (c0 : (decide (x < -(2 ^ 63)) || decide (x ≥ 2 ^ 63)) = false) (c1 : (items.isEmpty || x == 1) = false) (c2 : (decide (x ≤ 0) || items.isEmpty) = true) :
    Meets (Builtin.«tuple.__mul__» ⟨[.ref l, .int x u], []⟩) (fun _ R s => s.heap.get? l = some { cls := .type "tuple", dict := dd, data := .seq items n, slots := sl }  ∧
      R (.ok (.ret (Value.ref s.heap.objs.size))) { s with heap := s.heap.push { cls := Value.type "tuple", data := Data.seq #[] }, toks := s.toks }) :=
  .of_wp fun prog w A R s h =>  by
    obtain ⟨hp, g, d, tk, os⟩ :=  s
    obtain ⟨hl, h⟩ := h
    have f1 := AutoSeq1.idx_int
    wp_walk using wpAny_loadPart'  hl
    repeat (first
      | (refine wpAny_ite_false (decide_eq_false (by rw [c0]; exact Bool.false_ne_true)) ?_; wp_walk using wpAny_loadPart'  hl)
      | (refine wpAny_ite_false (decide_eq_false (by rw [c1]; exact Bool.false_ne_true)) ?_; wp_walk using wpAny_loadPart'  hl)
      | (refine wpAny_ite_true (decide_eq_true c2) ?_; wp_walk using wpAny_loadPart' hl))
    exact ⟨_, rfl, h⟩
def rRep1 (K : PySem.W.Frag) : R2 := fun x y H Q => ∃ l k xs, x = .ref l ∧ y = .int k ∧ SqT K H l xs ∧ (xs = [] ∨ k = 1) ∧ 0 ≤ k ∧ k ≤ 1000 ∧ Q (.ref l) H
def rRep0 (K : PySem.W.Frag) : R2 := fun x y H Q => ∃ l xs, x = .ref l ∧ y = .int 0 ∧ SqT K H l xs ∧ xs ≠ [] ∧ ∀ p, H p = none → Q (.ref p) (upd H p (.tup []))
section
variable {X : Cx}
theorem op_rep1 : OpR X (binaryOp .Mult) (rRep1 X.K) := by
  intro pins s σ H x y v u Q I rx ry  h
  obtain ⟨l, k, xs, rfl, rfl, hT, hne, h1, h2, q⟩ := h
  cases rx
  obtain ⟨t, rfl⟩ := ry
  obtain ⟨its, r, ⟨⟨cls, dd, data, sl⟩, ho, hc, n, hd⟩, hs⟩ := I.tuple  hT
  simp only at hc hd
  subst hc hd
  have c0 : (decide (k < -(2 ^ 63)) || decide (k ≥ 2 ^ 63)) = false :=  by
    rw [decide_eq_false (by omega), decide_eq_false (by omega)] <;>  rfl
  have c1 : (its.toArray.isEmpty || k == 1) = true := by
    rcases hne with hne | hne
    · have : its = [] := List.eq_nil_of_length_eq_zero (by rw [← r.length, hne]; rfl)
      rw [this]; rfl
    · rw [hne]; simp
  exact wpAny_binaryOp_repeat_ref (T := "tuple") (U := "int") (by decide) ⟨_, ho, rfl⟩ (fun s' => typeIs_int s' k t) noFill_tuple_mul F.fills_int_mul F.slot_int_rmul repeat_tuple F.slot_int_index.lookup
    (call_meets F.slot_int_rmul (typeIs_int s k t) F.entry_int_rmul (F.args_int_rmul_2 _ _) (int_rmul_tuple k t l its.toArray n dd  sl)
      ⟨ho, rfl, ⟨_, ho, rfl⟩, call_meets F.slot_tuple_mul ⟨_, ho, rfl⟩ F.entry_tuple_mul (F.args_tuple_mul_2 _ _) (tuple_mul1 l its.toArray n dd sl k t c0 c1) ⟨ho, .ref l, H, I, rfl, q⟩⟩)
theorem op_rep0 : OpR X (binaryOp .Mult) (rRep0 X.K) := by
  intro pins s σ H x y v u Q I rx ry  h
  obtain ⟨l, xs, rfl, rfl, hT, hne, q⟩ := h
  cases rx
  obtain ⟨t, rfl⟩ := ry
  obtain ⟨its, r, ⟨⟨cls, dd, data, sl⟩, ho, hc, n, hd⟩, hs⟩ := I.tuple  hT
  simp only at hc hd
  subst hc hd
  have c0 : (decide ((0 : Int) < -(2 ^ 63)) || decide ((0 : Int) ≥ 2 ^ 63)) = false := by decide
  have hn : its ≠ [] := fun e => hne (List.eq_nil_of_length_eq_zero (by rw [r.length, e]; rfl))
  have hi : its.toArray.isEmpty = false :=  by
    cases its with
    | nil => exact absurd rfl hn
    | cons a b => rfl
  have c1 : (its.toArray.isEmpty || (0 : Int) == 1) = false := by rw [hi]; rfl
  have c2 : (decide ((0 : Int) ≤ 0) || its.toArray.isEmpty) = true := by rw [hi]; rfl
  refine wpAny_binaryOp_repeat_ref (T := "tuple") (U := "int") (by decide) ⟨_, ho, rfl⟩ (fun s' => typeIs_int s' 0 t) noFill_tuple_mul F.fills_int_mul F.slot_int_rmul repeat_tuple F.slot_int_index.lookup
    (call_meets F.slot_int_rmul (typeIs_int s 0 t) F.entry_int_rmul (F.args_int_rmul_2 _ _) (int_rmul_tuple 0 t l its.toArray n dd sl)
      ⟨ho, rfl, ⟨_, ho, rfl⟩, call_meets F.slot_tuple_mul ⟨_, ho, rfl⟩ F.entry_tuple_mul (F.args_tuple_mul_2 _ _) (tuple_mul0 l its.toArray n dd sl 0 t c0 c1 c2) ⟨ho, ?_⟩⟩)
  refine ⟨.ref s.heap.objs.size, _, I.laid (t' := s.toks) (o := .tup []) (fun b ob q => Heap.get?_push_of_some _ q) (Nat.le_refl _) ?_, rfl, q _ (I.hok.fresh (Nat.le_refl _))⟩
  exact ⟨Nat.zero_le _, [], .nil, IsTup.new _ _⟩
end
@[simp] def dMulA : D → D → Option D
  | .tup ds, .int k => if (0 ≤ k ∧ k ≤ 1000 ∧ ds.length ≤ 1000) ∧ D.xfs ds = true then some (.tup (List.replicate k.toNat ds).flatten) else none
  | a, c => dMul a c
theorem Dens.rep {b : Bs} {C : Addr → Prop} {H : Hp} {vs : List V} {ds : List D} (h : Dens b C H vs ds []) : ∀ n : Nat, Dens b C H (List.replicate n vs).flatten (List.replicate n ds).flatten []
  | 0 => .nil
  | n + 1 => by
    rw [List.replicate_succ, List.replicate_succ, List.flatten_cons,  List.flatten_cons]
    have := h.app (Dens.rep h n)
    rwa [List.append_nil] at this
abbrev rMulA (K : PySem.W.Frag) : R2 := fun x y H Q => (rRep1 K x y H Q ∨ (rRep0 K x y H Q ∨ rRepT K x y H Q)) ∨ rI CMul (fun i j => .int (i * j)) x y H Q
theorem vop_mulA {b : Bs} : VOp b (B2 dMulA) (r2L (rMulA b.K)) := vop2 fun C H x y d e z F1 F2 Q h1 h2 nd hz q => by
  by_cases hi : ∃ ds k, d = .tup ds ∧ e = .int k
  · obtain ⟨ds, k, rfl, rfl⟩ := hi
    cases h2
    simp only [dMulA] at hz
    split at hz
    · rename_i hc
      cases hz
      obtain ⟨⟨c1, c2, c3⟩, c4⟩ := hc
      obtain ⟨a, vs, rfl, s, t⟩ := h1.tup_inv
      have eF : F1 = [] := Dens.xf t c4
      subst eF
      by_cases hn : vs = [] ∨ k = 1
      · refine .inl (.inl ⟨a, k, vs, rfl, rfl, s, hn, c1, c2, ?_⟩)
        have : (List.replicate k.toNat ds).flatten = ds := by
          rcases hn with hn | hn
          · have : ds = [] := List.eq_nil_of_length_eq_zero (by rw [← t.length, hn]; rfl)
            rw [this]; simp
          · rw [hn]; simp
        rw [this] at q
        exact q.part (.tup s t) nd fun a ha => ha
      · by_cases h0 : k = 0
        · subst h0
          exact .inl (.inr (.inl ⟨a, vs, rfl, rfl, s, fun e => hn (.inl e), fun p hp => q.newt .nil nd (fun a ha => ha) hp⟩))
        · refine .inl (.inr (.inr ⟨a, k, vs, rfl, rfl, s, fun e => hn (.inl e), ?_, c2, by rw [t.length]; exact c3, fun p hp => ?_⟩))
          · have : k ≠ 1 := fun e => hn (.inr e)
            omega
          · exact q.newt (t.rep k.toNat) nd (fun a ha => ha) hp
    · cases hz
  · have hz' : dMul d e = some z := by
      unfold dMulA at hz
      split at hz
      · exact absurd ⟨_, _, rfl, rfl⟩ hi
      · exact hz
    have := vop_mul (b := b) C [x, y] [d, e] (F1 ++ (F2 ++ [])) z H Q (.cons h1 (.cons h2 .nil)) (by rw [List.append_nil]; exact nd) hz' (by rw [List.append_nil]; exact q)
    exact .inr this
theorem od_mulA {φ : Fam} : OpD φ .Mult dMulA := ⟨_, fun X hX => by rw [show φ.b.K = X.K from (φ.kk X hX).symm]; exact (op_rep1.or (op_rep0.or op_repT)).or op_mul, vop_mulA⟩
end DL

set_option Elab.async false
set_option linter.all false
set_option maxRecDepth 100000
namespace DL
open PySem L2

@[simp] def enumD : Nat → List D → List D
  | _, [] => []
  | i, d :: ds => .tup [.int i, d] :: enumD (i + 1) ds
def enumV : Nat → List V → List (Bool × List V)
  | _, [] => []
  | i, v :: vs => (false, [.int i, v]) :: enumV (i + 1) vs
theorem enumV_len : ∀ (i : Nat) (vs : List V), (enumV i vs).length = vs.length
  | _, [] => rfl
  | i, v :: vs => congrArg (· + 1) (enumV_len (i + 1) vs)
theorem enumV_get : ∀ (i : Nat) (vs : List V) (j : Nat) (it : Bool × List V), (enumV i vs)[j]? = some it → ∃ v, vs[j]? = some v ∧ it = (false, [.int ((i + j : Nat) : Int), v])
  | _, [], _, _, h => by cases h
  | i, v :: vs, 0, it, h => ⟨v, rfl, (Option.some.inj h).symm⟩
  | i, v :: vs, j + 1, it, h => by
    obtain ⟨u, h1, h2⟩ := enumV_get (i + 1) vs j it h
    exact ⟨u, h1, by rw [h2, show i + 1 + j = i + (j + 1) by omega]⟩
theorem IDens.enum {b : Bs} {C : Addr → Prop} {H : Hp} : ∀ {vs : List V} {ds : List D} {F : List Addr} (i : Nat), Dens b C H vs ds F → IDens b C H (enumV i vs) (enumD i ds) F
  | _, _, _, _, .nil => .nil
  | _, _, _, i, .cons (v := v) (d := d) (F := F1) (F' := F2) h t => by
    have q : Dens b C H [V.int i, v] [D.int i, d] F1 := by
      have := Dens.cons (Den.int (b := b) (C := C) (H := H) (i : Int)) (Dens.cons h Dens.nil)
      rwa [List.append_nil, List.nil_append] at this
    exact .tup q (IDens.enum (i + 1) t)
@[simp] def xEnum (f : Exs) : Ix := fun g => match f g with
  | some ([.lst _ ds], g') => some (enumD 0 ds, g')
  | _ => none
section
variable {b : Bs}
theorem ti_enum {t : TA} {l : Lv} {ms : List Nat} {f : Exs} {K : PySem.W.Frag} (hK : b.K = K) (h : TAd b t l ms f) : TId b (iEnum K t) l ms (xEnum f) := by
  subst hK
  intro B T g σ H Fs ds g' R r e q
  unfold xEnum at e
  split at e
  · rename_i x ds0 g0 e1
    cases e
    refine h B T g σ H Fs _ _ _ r e1 fun us H1 Fs1 F A Dl => ?_
    obtain ⟨v, rfl, Dn⟩ := dens1 Dl
    obtain ⟨a, vs, F', rfl, s, t, e4, e5⟩ := Dn.lst_inv
    refine ⟨a, vs, rfl, SqL.of s, ?_⟩
    have eqF : F = (if x = true then [a] else []) ++ F' := by
      rw [e4]; cases x <;> rfl
    have e5' : x = false → Cl B (fun a => T a ∨ a ∈ F) Fs1 l a := fun z => (e5 z).2
    clear e4 e5
    subst eqF
    refine q _ H1 Fs1 _ F' (enumV 0 vs) (fun H => H a = some (.lst vs)) (fun c => c = a) A ⟨IDens.enum 0 t, fun c hc => ?_, fun M H1 H2 k hs h => k.keep a _ (hs a rfl) h, s, fun H1 i h1 h2 => ?_, fun H1 i h1 h2 => ?_, fun H1 i x2 H2 it h1 h2 y => ?_⟩
    · subst hc
      refine ⟨by rw [s]; simp, ?_⟩
      cases x with
      | true => exact .inl (by simp)
      | false => exact .inr (e5' rfl)
    · rw [enumV_len] at h2
      exact ⟨vs, vs[i], SqL.of h1, List.getElem?_eq_getElem h2⟩
    · rw [enumV_len] at h2
      exact ⟨vs, SqL.of h1, h2⟩
    · obtain ⟨v, q1, q2⟩ := enumV_get 0 vs i it h2
      subst q2
      obtain ⟨Tt, w, y1, y2, y3, y4⟩ := y
      have := y4 vs (SqL.of h1)
      rw [q1] at this
      cases this
      rw [Nat.zero_add]
      exact .inr ⟨rfl, Tt, y1, y2, y3⟩
  · cases e
end

@[simp] def zipD : List D → List D → List D
  | x :: xs, y :: ys => .tup [x, y] :: zipD xs ys
  | _, _ => []
def zipV : List V → List V → List (Bool × List V)
  | x :: xs, y :: ys => (false, [x, y]) :: zipV xs ys
  | _, _ => []
theorem zipV_len : ∀ (xs ys : List V), (zipV xs ys).length = min xs.length ys.length
  | [], ys => by simp [zipV]
  | x :: xs, [] => by simp [zipV]
  | x :: xs, y :: ys => by
    have := zipV_len xs ys
    simp only [zipV, List.length_cons, this]
    omega
theorem zipV_get : ∀ (xs ys : List V) (j : Nat) (it : Bool × List V), (zipV xs ys)[j]? = some it → ∃ x y, xs[j]? = some x ∧ ys[j]? = some y ∧ it = (false, [x, y])
  | [], _, _, _, h => by simp [zipV] at h
  | _ :: _, [], _, _, h => by simp [zipV] at h
  | x :: xs, y :: ys, 0, it, h => ⟨x, y, rfl, rfl, (Option.some.inj h).symm⟩
  | x :: xs, y :: ys, j + 1, it, h => zipV_get xs ys j it h
theorem Dens.cons0 {b : Bs} {C : Addr → Prop} {H : Hp} {v : V} {d : D} {vs : List V} {ds : List D} (h : Dens b C H (v :: vs) (d :: ds) []) : Den b C H v d [] ∧ Dens b C H vs ds [] := by
  generalize hF : ([] : List Addr) = F at h
  cases h with
  | cons h1 h2 =>
    obtain ⟨a, c⟩ := List.append_eq_nil_iff.mp hF.symm
    subst a c
    exact ⟨h1, h2⟩
/-- only things without exclusive objects are zipped -/
theorem IDens.zip {b : Bs} {C : Addr → Prop} {H : Hp} : ∀ {xs ys : List V} {ds es : List D}, Dens b C H xs ds [] → Dens b C H ys es [] → IDens b C H (zipV xs ys) (zipD ds es) []
  | [], ys, ds, es, h1, h2 => by
    cases h1
    cases es <;> exact .nil
  | x :: xs, [], ds, es, h1, h2 => by
    cases h2
    cases ds with
    | nil => exact .nil
    | cons d ds => exact .nil
  | x :: xs, y :: ys, d :: ds, e :: es, h1, h2 => by
    obtain ⟨a1, a2⟩ := h1.cons0
    obtain ⟨b1, b2⟩ := h2.cons0
    have q : Dens b C H [x, y] [d, e] [] := Dens.cons (F := []) (F' := []) a1 (Dens.cons (F := []) (F' := []) b1 .nil)
    exact IDens.tup (F := []) (F' := []) q (IDens.zip a2 b2)
  | x :: xs, y :: ys, [], es, h1, h2 => by cases h1
  | x :: xs, y :: ys, d :: ds, [], h1, h2 => by cases h2
@[simp] def xZip (f : Exs) : Ix := fun g => match f g with
  | some ([.lst false ds, .lst false es], g') => some (zipD ds es, g')
  | some ([.tup ds, .tup es], g') => if D.xfs ds = true ∧ D.xfs es = true then some (zipD ds es, g') else none
  | _ => none
section
variable {b : Bs}
theorem ti_zip {t : TA} {l : Lv} {ms : List Nat} {f : Exs} {K : PySem.W.Frag} (hK : b.K = K) (h : TAd b t l ms f) : TId b (RZ.iZipA K t) l ms (xZip f) := by
  subst hK
  intro B T g σ H Fs ds g' R r e q
  unfold xZip at e
  split at e
  · rename_i ds0 es0 g0 e1
    cases e
    refine h B T g σ H Fs _ _ _ r e1 fun us H1 Fs1 F A Dn => ?_
    obtain ⟨v, u, F1, F2, rfl, rfl, d1, d2⟩ := dens2 Dn
    obtain ⟨a, xs, Fa, rfl, sa, ta, ea, oa⟩ := d1.lst_inv
    obtain ⟨c, ys, Fc, rfl, sc, tc, ec, oc⟩ := d2.lst_inv
    obtain ⟨z1, oa⟩ := oa rfl
    obtain ⟨z2, oc⟩ := oc rfl
    simp only [Bool.false_eq_true, if_false] at ea ec
    subst z1 z2
    subst ea ec
    refine ⟨a, c, xs, ys, rfl, .inl ⟨SqL.of sa, SqL.of sc, ?_⟩⟩
    refine q _ H1 Fs1 [] [] (zipV xs ys) (fun H => H a = some (.lst xs) ∧ H c = some (.lst ys)) (fun z => z = a ∨ z = c) A ⟨IDens.zip ta tc, fun z hz => ?_, fun M H1 H2 k hs h => ⟨k.keep a _ (hs a (.inl rfl)) h.1, k.keep c _ (hs c (.inr rfl)) h.2⟩, ⟨sa, sc⟩, fun H1 i h1 h2 => ?_, fun H1 i h1 h2 => ?_, fun H1 i x2 H2 it h1 h2 y => ?_⟩
    · rcases hz with hz | hz
      · subst hz; exact ⟨by rw [sa]; simp, .inr oa⟩
      · subst hz; exact ⟨by rw [sc]; simp, .inr oc⟩
    · rw [zipV_len] at h2
      exact ⟨xs, ys, xs[i], ys[i], SqL.of h1.1, SqL.of h1.2, List.getElem?_eq_getElem (by omega), List.getElem?_eq_getElem (by omega)⟩
    · rw [zipV_len] at h2
      exact ⟨xs, ys, SqL.of h1.1, SqL.of h1.2, by omega⟩
    · obtain ⟨x, y', q1, q2, q3⟩ := zipV_get xs ys i it h2
      subst q3
      obtain ⟨Tt, w1, w2, y1, y2, y3, y4, y5⟩ := y
      have e1 := y4 xs (SqL.of h1.1)
      have e2 := y5 ys (SqL.of h1.2)
      rw [q1] at e1
      rw [q2] at e2
      cases e1; cases e2
      exact .inr ⟨rfl, Tt, y1, y2, y3⟩
  · rename_i ds0 es0 g0 e1
    split at e
    · rename_i hx
      cases e
      refine h B T g σ H Fs _ _ _ r e1 fun us H1 Fs1 F A Dn => ?_
      obtain ⟨v, u, F1, F2, rfl, rfl, d1, d2⟩ := dens2 Dn
      obtain ⟨a, xs, rfl, sa, ta⟩ := d1.tup_inv
      obtain ⟨c, ys, rfl, sc, tc⟩ := d2.tup_inv
      have z1 := Dens.xf ta hx.1
      have z2 := Dens.xf tc hx.2
      subst z1 z2
      refine ⟨a, c, xs, ys, rfl, .inr ⟨sa, sc, ?_⟩⟩
      refine q _ H1 Fs1 [] [] (zipV xs ys) (fun H => SqT b.K H a xs ∧ SqT b.K H c ys) (fun _ => False) A ⟨IDens.zip ta tc, fun z hz => hz.elim, fun M H1 H2 k hs h => ⟨sqT_kp k h.1, sqT_kp k h.2⟩, ⟨sa, sc⟩, fun H1 i h1 h2 => ?_, fun H1 i h1 h2 => ?_, fun H1 i x2 H2 it h1 h2 y => ?_⟩
      · rw [zipV_len] at h2
        exact ⟨xs, ys, xs[i], ys[i], h1.1, h1.2, List.getElem?_eq_getElem (by omega), List.getElem?_eq_getElem (by omega)⟩
      · rw [zipV_len] at h2
        exact ⟨xs, ys, h1.1, h1.2, by omega⟩
      · obtain ⟨x, y', q1, q2, q3⟩ := zipV_get xs ys i it h2
        subst q3
        obtain ⟨Tt, w1, w2, y1, y2, y3, y4, y5⟩ := y
        have e1 := y4 xs h1.1
        have e2 := y5 ys h1.2
        rw [q1] at e1
        rw [q2] at e2
        cases e1; cases e2
        exact .inr ⟨rfl, Tt, y1, y2, y3⟩
    · cases e
  · cases e
end
section
variable {φ : Fam} {pos p1 p2 : Pos} {e e2 : Expr} {elts : List Expr} {kk : Nat} {l : Lv} {ms : List Nat} {vs : Exs}
theorem pid_enum (hg : Gn φ "enumerate") (hm : φ.mg "enumerate" = none) (h : PAd φ [e] l ms vs) (hs : ∀ env, starEach [e] env = [(false, eval e env)]) : PId φ (.Tuple elts kk p2) (.Call (.Name "enumerate" p1) [e] [] pos) l ms (xEnum vs) :=
  let ⟨_, p, t⟩ := h; ⟨_, fun X hX => by rw [show φ.b.K = X.K from (φ.kk X hX).symm]; exact pi_enum (hg.X X hX) (by rw [φ.mm X hX]; exact hm) (p X hX) (hs X.env), ti_enum rfl t⟩
theorem pid_zip (hg : Gn φ "zip") (hm : φ.mg "zip" = none) (h : PAd φ [e, e2] l ms vs) (hs : ∀ env, starEach [e, e2] env = (false, eval e env) :: starEach [e2] env) (hpl : ∀ env, (backTo pos (starEach [e2] env)).any (·.1) = false) : PId φ (.Tuple elts kk p2) (.Call (.Name "zip" p1) [e, e2] [] pos) l ms (xZip vs) :=
  let ⟨_, p, t⟩ := h; ⟨_, fun X hX => by rw [show φ.b.K = X.K from (φ.kk X hX).symm]; exact RZ.pi_zipA (hg.X X hX) (by rw [φ.mm X hX]; exact hm) (p X hX) (hs X.env) (hpl X.env), ti_zip rfl t⟩
end

@[simp] def frzG (i : Nat) (g : G) : G := match g[i]? with
  | some (some d) => g.set i (some d.sh)
  | _ => g
@[simp] def sFrz (i : Nat) (f : Sx) : Sx := fun g => f (frzG i g)
theorem Rel.frz {b : Bs} {B T : Addr → Prop} {g : G} {σ : St} {H : Hp} {Fs : List (List Addr)} {i : Nat} {d : D} (r : Rel b B T g σ H Fs) (h : g[i]? = some (some d)) : Rel b B T (g.set i (some d.sh)) σ H (Fs.set i []) := by
  obtain ⟨v, f, h1, h2, h3⟩ := r.at_ i d h
  have li : i < g.length := (List.getElem?_eq_some_iff.mp h).1
  have lF : i < Fs.length := by rw [r.lf]; exact li
  have mem' : ∀ (j : Nat) f' a, (Fs.set i [])[j]? = some f' → a ∈ f' → j ≠ i ∧ Fs[j]? = some f' := fun j f' a hj ha => by
    by_cases e : i = j
    · subst e
      rw [List.getElem?_set_self lF] at hj
      cases hj; cases ha
    · rw [List.getElem?_set_ne e] at hj
      exact ⟨Ne.symm e, hj⟩
  refine ⟨by rw [List.length_set]; exact r.lg, by rw [List.length_set, List.length_set]; exact r.lf, fun j dj hj => ?_, fun j hj => ?_, fs_set r.nd List.nodup_nil (by simp), fun a ha => ?_, r.live⟩
  · by_cases n : i = j
    · subst n
      rw [List.getElem?_set_self li] at hj
      cases hj
      refine ⟨v, [], h1, List.getElem?_set_self lF, ?_⟩
      rw [D.xf_sh]
      refine (h3.imp (C' := Cl B T (Fs.set i []) ⟨true, []⟩) fun a la c => ⟨fun _ => rfl, c.2.1, fun k f' hk ha => absurd (c.2.2 k f' (mem' k f' a hk ha).2 ha) List.not_mem_nil⟩).sh fun a ha => ⟨fun _ => rfl, (r.out a (fs_mem h2 ha)).2, fun k f' hk hm => ?_⟩
      obtain ⟨n, hk'⟩ := mem' k f' a hk hm
      exact absurd hm (fs_disj r.nd h2 hk' (Ne.symm n) a ha)
    · rw [List.getElem?_set_ne n] at hj
      obtain ⟨v2, f2, g1, g2, g3⟩ := r.at_ j dj hj
      exact ⟨v2, f2, g1, by rw [List.getElem?_set_ne n]; exact g2, g3.imp fun a _ c => ⟨c.1, c.2.1, fun k f' hk ha => c.2.2 k f' (mem' k f' a hk ha).2 ha⟩⟩
  · by_cases n : i = j
    · subst n; exact List.getElem?_set_self lF
    · rw [List.getElem?_set_ne n] at hj ⊢
      exact r.no j hj
  · obtain ⟨j, f', hj, hm⟩ := fs_of ha
    exact r.out a (fs_mem (mem' j f' a hj hm).2 hm)
theorem ts_frz {b : Bs} {pr : List Nat} {t : TS} {f : Sx} (i : Nat) (h : TSd b t pr f) : TSd b t pr (sFrz i f) := by
  intro B T g σ H Fs fl D r e p
  unfold sFrz frzG at e
  split at e
  · rename_i d hd
    have lF : i < Fs.length := by rw [r.lf]; exact (List.getElem?_eq_some_iff.mp hd).1
    have sub : ∀ a, a ∈ (Fs.set i []).flatten → a ∈ Fs.flatten := fun a ha => by
      obtain ⟨j, f', hj, hm⟩ := fs_of ha
      by_cases n : i = j
      · subst n
        rw [List.getElem?_set_self lF] at hj
        cases hj; cases hm
      · rw [List.getElem?_set_ne n] at hj
        exact fs_mem hj hm
    have w : ∀ {g' : G} {σ' : St} {H' : Hp} {Fs' : List (List Addr)} {F : List Addr}, SAft b B T pr (g.set i (some d.sh)) g' σ σ' H H' (Fs.set i []) Fs' F → SAft b B T pr g g' σ σ' H H' Fs Fs' F := fun c =>
      ⟨c.rel, c.nd, c.out, fun a ha => (c.src a ha).imp id (sub a), c.kp.mono sub, fun a ha => (c.sub a ha).imp (sub a) id, c.pr, by rw [c.len, List.length_set]⟩
    refine h B T _ σ H _ fl D (r.frz hd) e ?_
    cases fl with
    | nx g' => exact fun σ' H' Fs' c => p σ' H' Fs' (w c)
    | bk g' => exact fun σ' H' Fs' c => p σ' H' Fs' (w c)
    | ct g' => exact fun σ' H' Fs' c => p σ' H' Fs' (w c)
    | rt d g' => exact fun v σ' H' Fs' F c => p v σ' H' Fs' F (w c)
  · exact h B T g σ H Fs fl D r e p
theorem pssd_frz {φ : Fam} {pr : List Nat} {st : List Stmt} {f : Sx} (i : Nat) (h : PSsd φ pr st f) : PSsd φ pr st (sFrz i f) := let ⟨_, p, t⟩ := h; ⟨_, p, ts_frz i t⟩

/-- a def under its name -/
structure HasDef (K : PySem.W.Frag) (mg : Str → Option Value) (x : Str) (st : Stmt) : Prop where
  ex : ∃ (f : Addr) (fd : FuncData), mg x = some (.ref f) ∧ L2.Fun K x x st f fd
end DL

set_option Elab.async false
set_option linter.all false
set_option maxRecDepth 100000
namespace DL
open PySem L2

mutual
/-- data of the module, by its values -/
inductive KDen (K : PySem.W.Frag) : Value → D → Prop
  | non : KDen K .none .non
  | bl (k : Bool) : KDen K (.bool k) (.bl k)
  | int (i : Int) (t : Tok) : KDen K (.int i t) (.int i)
  | str (x : Str) (t : Tok) : KDen K (.str x t) (.str x)
  | tup {a : Addr} {oc : Option Addr} {its : List Value} {n : Nat} {sl : Array (Option Value)} {ds : List D} : K.lookup a = some ⟨.type "tuple", oc, .seq its.toArray n, sl⟩ → its.length ≤ sizeLine → KDens K its ds → KDen K (.ref a) (.tup ds)
/-- several -/
inductive KDens (K : PySem.W.Frag) : List Value → List D → Prop
  | nil : KDens K [] []
  | cons {v : Value} {d : D} {vs : List Value} {ds : List D} : KDen K v d → KDens K vs ds → KDens K (v :: vs) (d :: ds)
end
theorem KDen.den {P : Program} {w : World} {K : PySem.W.Frag} {u : Value} {d : D} (h : KDen K u d) : ∃ v, RelV v u ∧ ∀ C H, Den ⟨P, w, K⟩ C H v d [] := by
  refine KDen.rec (K := K) (motive_1 := fun u d _ => ∃ v, RelV v u ∧ ∀ C H, Den ⟨P, w, K⟩ C H v d []) (motive_2 := fun us ds _ => ∃ vs, Vals vs us ∧ ∀ C H, Dens ⟨P, w, K⟩ C H vs ds []) ?_ ?_ ?_ ?_ ?_ ?_ ?_ h
  · exact ⟨.non, rfl, fun _ _ => .non⟩
  · exact fun k => ⟨.bl k, rfl, fun _ _ => .bl k⟩
  · exact fun i t => ⟨.int i, ⟨t, rfl⟩, fun _ _ => .int i⟩
  · exact fun x t => ⟨.str x, ⟨t, rfl⟩, fun _ _ => .str x⟩
  · intro a oc its n sl ds e l _ ⟨vs, r, t⟩
    exact ⟨.ref a, rfl, fun C H => .tup (.inr ⟨_, its.toArray, n, e, rfl, rfl, by simpa using l, by simpa using r⟩) (t C H)⟩
  · exact ⟨[], .nil, fun _ _ => .nil⟩
  · intro v d vs ds _ _ ⟨v1, r1, t1⟩ ⟨vs2, r2, t2⟩
    exact ⟨v1 :: vs2, .cons r1 r2, fun C H => .cons (F := []) (F' := []) (t1 C H) (t2 C H)⟩
/-- a name of the module with its data -/
structure HasDat (K : PySem.W.Frag) (mg : Str → Option Value) (x : Str) (d : D) : Prop where
  ex : ∃ u, mg x = some u ∧ KDen K u d
theorem HasDat.gl {P : Program} {w : World} {K : PySem.W.Frag} {mg : Str → Option Value} {x : Str} {d : D} (h : HasDat K mg x d) : GlD ⟨P, w, K⟩ mg x d := by
  obtain ⟨u, h1, h2⟩ := h.ex
  obtain ⟨v, r, t⟩ := h2.den (P := P) (w := w)
  exact ⟨u, v, h1, r, t⟩
/-- a look at the names of a def's scope  -/
def scopeC (N P : List Str) (sc : Scope) : Bool :=
  decide (sc.kind = .function) && !sc.isCoroutine && !sc.isGenerator && decide N.Nodup && decide (N.take P.length = P) && (P.all fun x => decide (sc.names.lookup x = some .local) || decide (sc.names.lookup x = some .cell)) && (sc.names.all fun y => !decide (y.2 = .free))
theorem fnScope_mk {N P : List Str} {sc : Scope} (h : scopeC N P sc = true) : FnScope N P sc := by
  simp only [scopeC, Bool.and_eq_true, Bool.or_eq_true, Bool.not_eq_true', List.all_eq_true, decide_eq_true_eq, decide_eq_false_iff_not] at h
  obtain ⟨⟨⟨⟨⟨⟨a, b⟩, c⟩, d⟩, e⟩, f⟩, g⟩ := h
  exact ⟨a, b, c, d, e, f, g⟩
section
variable {P : Program} {w : World} {K : PySem.W.Frag} {mg : Str → Option Value} {base :  Heap}
theorem FnD.of {x : Str} {st : Stmt} {N ps : List Str} {k n j : Nat} {mt : List Nat} {fb : Sx} (h : HasDef K mg x st) (S : FnScope N ps (defScope st)) (hn : ps.length = n) (hj : N.length - n = j)
    (hbind : ∀ (kV doc pm : Value) (an : Option Addr) (cdv ct : Value) (us : List Value), us.length = ps.length → bindArgs (PySem.W.fnOf x x (defArgs st) (defBody st) (defScope st) .none kV doc pm an cdv ct) ⟨us, []⟩ = pure (ps.zip us))
    (hb : PSsd (defFam P w K mg base N (defScope st) k S.nd) mt (defBody st) fb) : FnD P w K mg base x (k + 1) n mt (fnD n j fb) := by
  subst hj
  obtain ⟨f, fd, hm, F⟩ := h.ex
  exact ⟨fun ds r e => fnD_len e, f, fd, ps, hm, F.kp, F.binds hbind, fn_ok F S hn hb⟩
/-- of no use: nothing is claimed -/
theorem FnD.never {x : Str} {st : Stmt} {ps : List Str} {k n : Nat} {mt : List Nat} (h : HasDef K mg x st)
    (hbind : ∀ (kV doc pm : Value) (an : Option Addr) (cdv ct : Value) (us : List Value), us.length = ps.length → bindArgs (PySem.W.fnOf x x (defArgs st) (defBody st) (defScope st) .none kV doc pm an cdv ct) ⟨us, []⟩ = pure (ps.zip us)) :
    FnD P w K mg base x k n mt fun _ => none := by
  obtain ⟨f, fd, hm, F⟩ := h.ex
  refine ⟨fun ds r e => (by cases e), f, fd, ps, hm, F.kp, F.binds hbind, fun vs H Q E h => ?_, fun A outer s H args us vs Q E hr he hb hv h => ?_⟩
  · obtain ⟨_, _, _, _, _, _, _, _, e, _⟩ := h
    cases e
  · obtain ⟨_, _, _, _, _, _, _, _, e, _⟩ := h
    cases e
theorem FnD.mono {x : Str} {k k2 n : Nat} {mt : List Nat} {m : List D → Option (D × G)} (h : FnD P w K mg base x k n mt m) (l : k ≤ k2) : FnD P w K mg base x k2 n mt m := by
  obtain ⟨f, fd, ps, h1, h2, h3, h4⟩ := h.ex
  exact ⟨h.len, f, fd, ps, h1, h2, h3, h4.mono l⟩
end

section
variable {φ : Fam} {pos p1 p2 p3 : Pos} {x y : Str} {i j : Nat} {l l' le : Lv} {iz ms mc me pr : List Nat} {e tg : Expr} {v fe : Ex} {vs : Exs} {f : Gx} {c : Tx}
theorem psr (l' : Lv) (h : PEd φ e l ms v) (hl : l = l') : PSd φ pr (.Return (some e) pos) (sRet l' v) := hl ▸ psd_ret h
theorem psn (l' : Lv) (h : PEd φ e l ms v) (hl : l = l') (hx : Lc φ i x) (hs : ∀ X, φ.mem X → swapsWith e (some (.Name x p1)) pos.line X.env = pure false) (hp : djb pr [i] = true) : PSd φ pr (.Assign [.Name x p1] e pos) (sAsg v (gN l' i)) := hl ▸ psd_set h hx hs hp
theorem psns (l' : Lv) (h : PEd φ e l ms v) (hl : l = l') (hx : Lc φ i x) (hs : ∀ X, φ.mem X → swapsWith e (some (.Name x p1)) pos.line X.env = pure false) (hp : djb pr [i] = true) : PSd φ pr (.Assign [.Name x p1] e pos) (sAsg v (gNs l' i)) := hl ▸ psd_setS h hx hs hp
theorem psa (l' : Lv) (h : PEd φ e l ms v) (hl : l = l') (hg : PGd φ tg l' iz f) (hp : djb pr iz = true) (hs : ∀ X, φ.mem X → swapsWithSole [tg] e pos.line X.env = pure false) (hw : ∀ X, φ.mem X → swappedStores [tg] e X.env = pure none) (h1 : ∀ env, (assignEach [tg] env).map (·.2) = [assign tg env]) : PSd φ pr (.Assign [tg] e pos) (sAsg v f) := by subst hl; exact psd_asg h hg hp hs hw h1
theorem psp {e1 e2 : Expr} {kt k2 : Nat} {pt pt2 : Pos} (l' : Lv) (h : PAd φ [e1, e2] l ms vs) (hl : l = l') (hi : φ.N[i]? = some x) (hj : φ.N[j]? = some y) (hij : i ≠ j) (hx : φ.sc.names.lookup x = some .local) (hy : φ.sc.names.lookup y = some .local)
    (hw : ∀ env, env.scope = φ.sc → swappedStores [.Tuple [.Name x p1, .Name y p2] kt pt] (.Tuple [e1, e2] k2 pt2) env = pure (some [x, y])) (hs : ∀ env, swapsWithSole [.Tuple [.Name x p1, .Name y p2] kt pt] (.Tuple [e1, e2] k2 pt2) pos.line env = pure false) (hp : djb pr [i, j] = true) :
    PSd φ pr (.Assign [.Tuple [.Name x p1, .Name y p2] kt pt] (.Tuple [e1, e2] k2 pt2) pos) (sPar l' i j vs) := hl ▸ psd_par h hi hj hij hx hy hw hs hp
variable {fp : Px} {e2 e3 : Expr} {v2 : Ex} {li : Lv}
theorem pst (l' : Lv) (h : PEd φ e3 l ms v) (hl : l = l') (hp : PPd φ e i fp) (h2 : PEd φ e2 li [] v2) (hs : ∀ env, swapsWithSole [.Subscript e e2 p1] e3 pos.line env = pure false) (hw : ∀ env, swappedStores [.Subscript e e2 p1] e3 env = pure none) (h1 : ∀ env, (assignEach [.Subscript e e2 p1] env).map (·.2) = [assign (.Subscript e e2 p1) env])
    (ha : ∀ env v, assign (.Subscript e e2 p1) env v = (do
      let ov ← holding [v] (eval e env)
      let iv ← holding [v, ov] (eval e2 env)
      standAt p1
      holding [v, ov, iv] (setItem ov iv  v)
      release [v, ov, iv] [])) : PSd φ pr (.Assign [.Subscript e e2 p1] e3 pos) (sStore l' i v fp v2) := hl ▸ psd_store h hp h2 hs hw h1 ha
theorem psapp {apos cpos : Pos} (l' : Lv) (hp : PPd φ e i fp) (h : PEd φ e3 l ms v) (hl : l = l') (hd : djb [i] ms = true) (hs0 : ∀ env, starEach [e3] env = (false, eval e3 env) :: starEach [] env)
    (hbase : ∀ env, attributeBase e "append" env (eval e env) = eval e env)
    (hfew : ∀ env, ((backTo cpos (starEach [e3] env)).all (fun x => !x.1) && (backToKw cpos (keywordEach [] env)).all (fun x => x.1.isSome)
      && decide (([e3] : List Expr).length + ([] : List Keyword).length + (if ([] : List Keyword).isEmpty then 0 else 1) < 30)) = true)
    (hline : (apos.endLine == cpos.line) = true) (hplain : ∀ env, (backTo cpos (starEach [] env)).any (·.1) = false) (hs : ∀ env, swapsWith (.Call (.Attribute e "append" apos) [e3] [] cpos) none pos.line env = pure false) :
    PSd φ pr (.Expr (.Call (.Attribute e "append" apos) [e3] [] cpos) pos) (sApp l' i fp v) := hl ▸ psd_app hp h hd hs0 hbase hfew hline hplain hs
variable {s1 : Sx} {fi : Ix}
theorem psf {iter : Expr} {body : List Stmt} (l' : Lv) (hi : PId φ tg iter l ms fi) (hl : l = l') (hg : PGd φ tg l' iz f) (hb : PSsd φ pr body s1) (h0 : l'.bs = []) (hp : djb pr iz = true) (hs : ∀ env x, foldedSetIterable iter env x = pure x) : PSd φ pr (.For tg iter body [] pos) (sFor fi f s1) := by
  subst hl
  obtain ⟨o, bs⟩ := l
  have h0 : bs = [] := h0
  subst h0
  exact psd_for hi hg hb rfl hp hs
section
variable {elt iter : Expr} {ifs : List Expr} {scope : Scope} {own : List (Str × Nat)}
theorem plc (own : List (Str × Nat)) (l' : Lv) (hi : PId φ tg iter l ms fi) (ll : l = l') (ok : blkC φ.N φ.sc scope own = true) (hg : PGd (blkFam φ scope) tg l' iz f) (ht : PTsd (blkFam φ scope) ifs mc c) (he : PEd (blkFam φ scope) elt le me fe)
    (hs : ∀ env x, foldedSetIterable iter env x = pure x) (hl : l'.bs = []) (hiz : iz.all (fun i => (own.map (·.2)).contains i) = true) (hdis : djb (own.map (·.2)) (ms ++ (mc ++ me)) = true) (hle : djb le.bs (mc ++ me) = true) (hlv : djb le.bs (own.map (·.2)) = true) :
    PEd φ (.ListComp elt [⟨tg, iter, ifs, 0⟩] scope pos) le (ms ++ (mc ++ me)) (xLc fi f c fe (own.map (·.2))) := by
  subst ll
  obtain ⟨o, bs⟩ := l
  have hl : bs = [] := hl
  subst hl
  exact ped_lc hi ok hg ht he hs rfl hiz hdis hle hlv
/-- name = [..] on one line; sh: shared from then on -/
theorem pslc (sh : Bool) (own : List (Str × Nat)) (l' le' : Lv) (hi : PId φ tg iter l ms fi) (ll : l = l') (ok : blkC φ.N φ.sc scope own = true) (hg : PGd (blkFam φ scope) tg l' iz f) (ht : PTsd (blkFam φ scope) ifs mc c) (he : PEd (blkFam φ scope) elt le me fe) (lle : le = le')
    (hs : ∀ env x, foldedSetIterable iter env x = pure x) (hl : l'.bs = []) (hiz : iz.all (fun i => (own.map (·.2)).contains i) = true) (hdis : djb (own.map (·.2)) (ms ++ (mc ++ me)) = true) (hle : djb le'.bs (mc ++ me) = true) (hlv : djb le'.bs (own.map (·.2)) = true)
    (n : φ.N[i]? = some y) (hk : φ.sc.kind = .function) (hyl : φ.sc.names.lookup y = some .local) (hln : (p2.line == pos.line) = true) (ha : (scope.names.any fun (n, k) => n == y && (k == .local || k == .cell)) = false) (hp : djb pr [i] = true) :
    PSd φ pr (.Assign [.Name y p2] (.ListComp elt [⟨tg, iter, ifs, 0⟩] scope pos) p3) (sAsg (xLc fi f c fe (own.map (·.2))) (match sh with | true => gNs le' i | false => gN le' i)) := by
  subst ll lle
  obtain ⟨o, bs⟩ := l
  have hl : bs = [] := hl
  subst hl
  cases sh with
  | true => exact psd_setLc hi ok hg ht he hs rfl hiz hdis hle hlv n hk hyl hln ha tg_ns hp
  | false => exact psd_setLc hi ok hg ht he hs rfl hiz hdis hle hlv n hk hyl hln ha tg_n hp
end
@[simp] def dNeg : D → Option D
  | .int a => some (.int (-a))
  | _ => none
theorem vop_neg {b : Bs} : VOp b (B1 dNeg) (fun vs H Q => match vs with | [x] => rU (fun i => .int (-i)) x H Q | _ => False) := vop1 fun C H x d z F Q h nd hz q => by
  match d, hz with
  | .int a, hz => cases h; cases hz; exact ⟨a, rfl, q.int⟩
theorem ped_neg {a : Expr} {f : Ex} (h : PEd φ a l ms f) : PEd φ (.UnaryOp .USub a pos) (l.or ⟨false, []⟩) (ms ++ []) (x1 dNeg f) := let ⟨_, p, t⟩ := h; ⟨_, fun X hX => pe_un un_neg (p X hX), te_one t vop_neg⟩
end
end DL

set_option Elab.async false
set_option linter.all false
set_option maxRecDepth 100000
namespace DL
open PySem L2

theorem ix_lst {x : Bool} {ds : List D} {r : Int} (h0 : 0 ≤ r) (h1 : r < ds.length) : ∃ d, d ∈ ds ∧ dIx (.lst x ds) (.int r) = some d := by
  have l : r.toNat < ds.length := by omega
  refine ⟨ds[r.toNat], List.getElem_mem l, ?_⟩
  show atI ds r = _
  unfold atI ixN
  rw [if_pos h0, if_pos h1]
  exact List.getElem?_eq_getElem l
theorem ix_tup {ds : List D} {r : Int} (h0 : 0 ≤ r) (h1 : r < ds.length) : ∃ d, d ∈ ds ∧ dIx (.tup ds) (.int r) = some d := ix_lst (x := true) h0 h1
/-- one turn -/
theorem lcD_cons {gt : Gx} {ct : Tx} {fe : Ex} {vs : List Nat} {d : D} {ds acc : List D} {g : G} : lcD gt ct fe vs (d :: ds) acc g = (lcD gt ct fe vs [d] acc g).bind fun p => lcD gt ct fe vs ds p.1 p.2 := by
  simp only [lcD]
  split
  · split
    · split
      · split <;> rfl
      · rfl
    · rfl
    · rfl
  · rfl
/-- each item gives one, the state stays -/
theorem lc_map {gt : Gx} {ct : Tx} {fe : Ex} {vs : List Nat} (F : D → D) {g : G} : ∀ (ds acc : List D), (∀ d ∈ ds, ∀ acc : List D, acc.length < sizeLine → lcD gt ct fe vs [d] acc g = some (acc ++ [F d], g)) → acc.length + ds.length ≤ sizeLine → lcD gt ct fe vs ds acc g = some (acc ++ ds.map F, g)
  | [], acc, _, _ => by simp [lcD]
  | d :: ds, acc, h, hl => by
    rw [List.length_cons] at hl
    rw [lcD_cons, h d List.mem_cons_self acc (by omega), Option.bind_some, lc_map F ds _ (fun d hd => h d (List.mem_cons_of_mem _ hd)) (by rw [List.length_append, List.length_singleton]; omega)]
    simp
/-- each item gives one or none, the state stays -/
theorem lc_fil {gt : Gx} {ct : Tx} {fe : Ex} {vs : List Nat} (p : D → Bool) (F : D → D) {g : G} : ∀ (ds acc : List D), (∀ d ∈ ds, ∀ acc : List D, acc.length < sizeLine → lcD gt ct fe vs [d] acc g = some (if p d = true then acc ++ [F d] else acc, g)) → acc.length + ds.length ≤ sizeLine → lcD gt ct fe vs ds acc g = some (acc ++ (ds.filter p).map F, g)
  | [], acc, _, _ => by simp [lcD]
  | d :: ds, acc, h, hl => by
    rw [List.length_cons] at hl
    rw [lcD_cons, h d List.mem_cons_self acc (by omega), Option.bind_some]
    cases e : p d with
    | true =>
      simp only [if_true]
      rw [lc_fil p F ds _ (fun d hd => h d (List.mem_cons_of_mem _ hd)) (by rw [List.length_append, List.length_singleton]; omega)]
      simp [e]
    | false =>
      simp only [Bool.false_eq_true,  if_false]
      rw [lc_fil p F ds _ (fun d hd => h d (List.mem_cons_of_mem _ hd)) (by omega)]
      simp [e]
/-- each item gives one that P, the state goes on -/
theorem lc_inv {gt : Gx} {ct : Tx} {fe : Ex} {vs : List Nat} (P : D → Prop) : ∀ (ds acc : List D) (I : Nat → G → Prop) (g : G), (∀ (i : Nat) (d : D) (acc : List D) (g : G), ds[i]? = some d → I i g → acc.length < sizeLine → ∃ y g', P y ∧ I (i + 1) g' ∧ lcD gt ct fe vs [d] acc g = some (acc ++ [y], g')) → I 0 g → acc.length + ds.length ≤ sizeLine →
    ∃ ys g', ys.length = ds.length ∧ (∀ y ∈ ys, P y) ∧ I ds.length g' ∧ lcD gt ct fe vs ds acc g = some (acc ++ ys, g')
  | [], acc, I, g, _, h0, _ => ⟨[], g, rfl, by simp, h0, by simp [lcD]⟩
  | d :: ds, acc, I, g, h, h0, hl => by
    rw [List.length_cons] at hl
    obtain ⟨y, g1, p1, i1, e1⟩ := h 0 d acc g rfl h0 (by omega)
    obtain ⟨ys, g2, l2, p2, i2, e2⟩ := lc_inv P ds (acc ++ [y]) (fun i => I (i + 1)) g1 (fun i d acc g hd => h (i + 1) d acc g (by simpa using hd)) i1 (by rw [List.length_append, List.length_singleton]; omega)
    refine ⟨y :: ys, g2, by simp [l2], fun z hz => ?_, i2, ?_⟩
    · rcases List.mem_cons.mp hz with e | hz
      · rw [e]; exact p1
      · exact p2 z hz
    · rw [lcD_cons, e1, Option.bind_some, e2]
      simp
/-- turns that all go on -/
theorem for_inv {gt : Gx} {fb : Sx} : ∀ (ds : List D) (I : Nat → G → Prop) (g : G), (∀ (i : Nat) (d : D) (g : G), ds[i]? = some d → I i g → ∃ g1 g2, gt d g = some g1 ∧ (fb g1 = some (.nx g2) ∨ fb g1 = some (.ct g2)) ∧ I (i + 1) g2) → I 0 g → ∃ g', I ds.length g' ∧ forD gt fb ds g = some (.nx g')
  | [], I, g, _, h0 => ⟨g, h0, by simp⟩
  | d :: ds, I, g, h, h0 => by
    obtain ⟨g1, g2, e1, e2, i2⟩ := h 0 d g rfl h0
    obtain ⟨g3, i3, e3⟩ := for_inv ds (fun i => I (i + 1)) g2 (fun i d g hd => h (i + 1) d g (by simpa using hd)) i2
    refine ⟨g3, i3, ?_⟩
    rcases e2 with e2 | e2 <;> simp [e1, e2, e3]
theorem bls_map (p : D → Bool) : ∀ ds : List D, D.bls (ds.map fun d => .bl (p d)) = some (ds.map p)
  | [] => rfl
  | d :: ds => by simp [bls_map p ds]
theorem py_ones : ∀ k : Nat, D.pys (List.replicate k (.int 1)) = some (List.replicate k (.int 1))
  | 0 => rfl
  | k + 1 => by simp [List.replicate_succ, D.pys, D.py, py_ones k]
theorem lay_ones : ∀ k : Nat, PyData.canLayAll0 (List.replicate k (.int 1)) = true ∧ PyData.depthAll (List.replicate k (.int 1)) = 0
  | 0 => ⟨rfl, rfl⟩
  | k + 1 => by
    obtain ⟨a, b⟩ := lay_ones k
    rw [List.replicate_succ]
    exact ⟨by rw [PyData.canLayAll0, a]; rfl, by rw [PyData.depthAll, b]; rfl⟩
theorem eqb_ones {x y : Bool} (k : Nat) : dEqB (.lst x (List.replicate k (.int 1))) (.lst y []) = some (decide (k = 0)) := by
  obtain ⟨a, b⟩ := lay_ones k
  have s : SeqAt.shaped (.list (List.replicate k (.int 1))) = true := by
    unfold SeqAt.shaped
    rw [PyData.canLay0, PyData.depth, a, b]
    rfl
  simp only [dEqB, D.py, D.pys, py_ones, Option.map_some, Option.bind_some, Option.bind_eq_bind, s, Option.pure_def]
  rw [if_pos ⟨trivial, by decide⟩]
  cases k with
  | zero => rfl
  | succ k => rfl
theorem ne_ones {x y : Bool} (k : Nat) : dNe (.lst x (List.replicate k (.int 1))) (.lst y []) = some (.bl (!decide (k = 0))) := by rw [dNe, eqb_ones]; rfl
theorem eq_ones {x y : Bool} (k : Nat) : dEq (.lst x (List.replicate k (.int 1))) (.lst y []) = some (.bl (decide (k = 0))) := by rw [dEq, eqb_ones]; rfl
theorem map_one {α : Type} (xs : List α) : xs.map (fun _ => D.int 1) = List.replicate xs.length (.int 1) := by
  induction xs with
  | nil => rfl
  | cons x xs ih => rw [List.map_cons, ih]; rfl
@[simp] theorem kit_NoneType_str : kitB "NoneType" "str" = some false := by kernel_rfl
@[simp] theorem kit_NoneType_int : kitB "NoneType" "int" = some false := by kernel_rfl
@[simp] theorem kit_NoneType_bool : kitB "NoneType" "bool" = some false := by kernel_rfl
@[simp] theorem kit_NoneType_list : kitB "NoneType" "list" = some false := by kernel_rfl
@[simp] theorem kit_NoneType_tuple : kitB "NoneType" "tuple" = some false := by kernel_rfl
@[simp] theorem kit_NoneType_dict : kitB "NoneType" "dict" = some false := by kernel_rfl
@[simp] theorem kit_bool_str : kitB "bool" "str" = some false := by kernel_rfl
@[simp] theorem kit_bool_int : kitB "bool" "int" = some true := by kernel_rfl
@[simp] theorem kit_bool_bool : kitB "bool" "bool" = some true := by kernel_rfl
@[simp] theorem kit_bool_list : kitB "bool" "list" = some false := by kernel_rfl
@[simp] theorem kit_bool_tuple : kitB "bool" "tuple" = some false := by kernel_rfl
@[simp] theorem kit_bool_dict : kitB "bool" "dict" = some false := by kernel_rfl
@[simp] theorem kit_int_str : kitB "int" "str" = some false := by kernel_rfl
@[simp] theorem kit_int_int : kitB "int" "int" = some true := by kernel_rfl
@[simp] theorem kit_int_bool : kitB "int" "bool" = some false := by kernel_rfl
@[simp] theorem kit_int_list : kitB "int" "list" = some false := by kernel_rfl
@[simp] theorem kit_int_tuple : kitB "int" "tuple" = some false := by kernel_rfl
@[simp] theorem kit_int_dict : kitB "int" "dict" = some false := by kernel_rfl
@[simp] theorem kit_str_str : kitB "str" "str" = some true := by kernel_rfl
@[simp] theorem kit_str_int : kitB "str" "int" = some false := by kernel_rfl
@[simp] theorem kit_str_bool : kitB "str" "bool" = some false := by kernel_rfl
@[simp] theorem kit_str_list : kitB "str" "list" = some false := by kernel_rfl
@[simp] theorem kit_str_tuple : kitB "str" "tuple" = some false := by kernel_rfl
@[simp] theorem kit_str_dict : kitB "str" "dict" = some false := by kernel_rfl
@[simp] theorem kit_tuple_str : kitB "tuple" "str" = some false := by kernel_rfl
@[simp] theorem kit_tuple_int : kitB "tuple" "int" = some false := by kernel_rfl
@[simp] theorem kit_tuple_bool : kitB "tuple" "bool" = some false := by kernel_rfl
@[simp] theorem kit_tuple_list : kitB "tuple" "list" = some false := by kernel_rfl
@[simp] theorem kit_tuple_tuple : kitB "tuple" "tuple" = some true := by kernel_rfl
@[simp] theorem kit_tuple_dict : kitB "tuple" "dict" = some false := by kernel_rfl
@[simp] theorem kit_list_str : kitB "list" "str" = some false := by kernel_rfl
@[simp] theorem kit_list_int : kitB "list" "int" = some false := by kernel_rfl
@[simp] theorem kit_list_bool : kitB "list" "bool" = some false := by kernel_rfl
@[simp] theorem kit_list_list : kitB "list" "list" = some true := by kernel_rfl
@[simp] theorem kit_list_tuple : kitB "list" "tuple" = some false := by kernel_rfl
@[simp] theorem kit_list_dict : kitB "list" "dict" = some false := by kernel_rfl
@[simp] theorem kit_dict_str : kitB "dict" "str" = some false := by kernel_rfl
@[simp] theorem kit_dict_int : kitB "dict" "int" = some false := by kernel_rfl
@[simp] theorem kit_dict_bool : kitB "dict" "bool" = some false := by kernel_rfl
@[simp] theorem kit_dict_list : kitB "dict" "list" = some false := by kernel_rfl
@[simp] theorem kit_dict_tuple : kitB "dict" "tuple" = some false := by kernel_rfl
@[simp] theorem kit_dict_dict : kitB "dict" "dict" = some true := by kernel_rfl
@[simp] theorem ne_int (a c : Int) : dNe (.int a) (.int c) = some (.bl (!(a == c))) := rfl
@[simp] theorem eq_int (a c : Int) : dEq (.int a) (.int c) = some (.bl (a == c)) := rfl
@[simp] theorem ne_ones0 {x y : Bool} : dNe (.lst x []) (.lst y []) = some (.bl false) := rfl
@[simp] theorem eq_ones0 {x y : Bool} : dEq (.lst x []) (.lst y []) = some (.bl true) := rfl
theorem vs_strs : ∀ xs : List Str, D.vs (xs.map .str) = some (xs.map V.str)
  | [] => rfl
  | x :: xs => by simp [vs_strs xs]
theorem inV_strs (s : Str) : ∀ xs : List Str, inV (.str s) (xs.map V.str) = xs.contains s
  | [] => rfl
  | x :: xs => by
    have ih := inV_strs s xs
    unfold inV at ih ⊢
    rw [List.map_cons, List.any_cons, ih, List.contains_cons]
    congr 1
    show (x == s) = (s == x)
    exact Bool.beq_comm ..
theorem in_strs (s : Str) (x : Bool) (xs : List Str) : dIn (.str s) (.lst x (xs.map .str)) = some (.bl (xs.contains s)) := by
  simp [vs_strs, inV_strs]
theorem notIn_strs (s : Str) (x : Bool) (xs : List Str) : dNotIn (.str s) (.lst x (xs.map .str)) = some (.bl (!xs.contains s)) := by
  simp [vs_strs, inV_strs]
@[simp] theorem sh_simp1 (ds : List D) : D.xfs (D.shs ds) = true := D.xfs_shs ds
@[simp] theorem sh_simp2 (d : D) : D.xf (D.sh d) = true := D.xf_sh d
theorem xfs_strs : ∀ xs : List Str, D.xfs (xs.map .str) = true
  | [] => rfl
  | x :: xs => by simp [xfs_strs xs]
theorem shs_strs : ∀ xs : List Str, D.shs (xs.map .str) = xs.map .str
  | [] => rfl
  | x :: xs => by simp [shs_strs xs]
theorem fnD_rt {n k : Nat} {f : Sx} {ds : List D} {g0 : G} {d : D} {g : G} (hl : ds.length = n) (h0 : ds.map some ++ List.replicate k none = g0) (h : f g0 = some (.rt d g)) : fnD n k f ds = some (d, g.take n) := by
  subst h0
  unfold fnD
  rw [if_pos hl, h]
  subst hl
  rfl
theorem sSeq_nx {f1 f2 : Sx} {g g1 : G} (h : f1 g = some (.nx g1)) : sSeq f1 f2 g = f2 g1 := by simp only [sSeq, h]
theorem sSeq_rt {f1 f2 : Sx} {g g1 : G} {d : D} (h : f1 g = some (.rt d g1)) : sSeq f1 f2 g = some (.rt d g1) := by simp only [sSeq, h]
@[simp] theorem size_le_0 : 0 ≤ sizeLine := by decide
@[simp] theorem size_lt_0 : 0 < sizeLine := by decide
@[simp] theorem size_le_1 : 1 ≤ sizeLine := by decide
@[simp] theorem size_lt_1 : 1 < sizeLine := by decide
@[simp] theorem size_le_2 : 2 ≤ sizeLine := by decide
@[simp] theorem size_lt_2 : 2 < sizeLine := by decide
@[simp] theorem size_le_3 : 3 ≤ sizeLine := by decide
@[simp] theorem size_lt_3 : 3 < sizeLine := by decide
@[simp] theorem size_le_4 : 4 ≤ sizeLine := by decide
@[simp] theorem size_lt_4 : 4 < sizeLine := by decide
@[simp] theorem size_le_5 : 5 ≤ sizeLine := by decide
@[simp] theorem size_lt_5 : 5 < sizeLine := by decide
@[simp] theorem size_le_6 : 6 ≤ sizeLine := by decide
@[simp] theorem size_lt_6 : 6 < sizeLine := by decide
@[simp] theorem size_le_7 : 7 ≤ sizeLine := by decide
@[simp] theorem size_lt_7 : 7 < sizeLine := by decide
@[simp] theorem size_le_8 : 8 ≤ sizeLine := by decide
@[simp] theorem size_lt_8 : 8 < sizeLine := by decide
@[simp] theorem size_le_9 : 9 ≤ sizeLine := by decide
@[simp] theorem size_lt_9 : 9 < sizeLine := by decide
@[simp] theorem size_le_10 : 10 ≤ sizeLine := by decide
@[simp] theorem size_lt_10 : 10 < sizeLine := by decide
@[simp] theorem size_le_11 : 11 ≤ sizeLine := by decide
@[simp] theorem size_lt_11 : 11 < sizeLine := by decide
@[simp] theorem size_le_12 : 12 ≤ sizeLine := by decide
@[simp] theorem size_lt_12 : 12 < sizeLine := by decide
@[simp] theorem size_le_13 : 13 ≤ sizeLine := by decide
@[simp] theorem size_lt_13 : 13 < sizeLine := by decide
@[simp] theorem size_le_14 : 14 ≤ sizeLine := by decide
@[simp] theorem size_lt_14 : 14 < sizeLine := by decide
@[simp] theorem size_le_15 : 15 ≤ sizeLine := by decide
@[simp] theorem size_lt_15 : 15 < sizeLine := by decide
@[simp] theorem size_le_16 : 16 ≤ sizeLine := by decide
@[simp] theorem size_lt_16 : 16 < sizeLine := by decide
@[simp] theorem size_le_17 : 17 ≤ sizeLine := by decide
@[simp] theorem size_lt_17 : 17 < sizeLine := by decide
@[simp] theorem size_le_18 : 18 ≤ sizeLine := by decide
@[simp] theorem size_lt_18 : 18 < sizeLine := by decide
@[simp] theorem size_le_19 : 19 ≤ sizeLine := by decide
@[simp] theorem size_lt_19 : 19 < sizeLine := by decide
@[simp] theorem size_le_20 : 20 ≤ sizeLine := by decide
@[simp] theorem size_lt_20 : 20 < sizeLine := by decide
@[simp] theorem size_le_21 : 21 ≤ sizeLine := by decide
@[simp] theorem size_lt_21 : 21 < sizeLine := by decide
@[simp] theorem size_le_22 : 22 ≤ sizeLine := by decide
@[simp] theorem size_lt_22 : 22 < sizeLine := by decide
@[simp] theorem size_le_23 : 23 ≤ sizeLine := by decide
@[simp] theorem size_lt_23 : 23 < sizeLine := by decide
@[simp] theorem size_le_24 : 24 ≤ sizeLine := by decide
@[simp] theorem size_lt_24 : 24 < sizeLine := by decide
@[simp] theorem size_le_25 : 25 ≤ sizeLine := by decide
@[simp] theorem size_lt_25 : 25 < sizeLine := by decide
@[simp] theorem size_le_26 : 26 ≤ sizeLine := by decide
@[simp] theorem size_lt_26 : 26 < sizeLine := by decide
@[simp] theorem size_le_27 : 27 ≤ sizeLine := by decide
@[simp] theorem size_lt_27 : 27 < sizeLine := by decide
@[simp] theorem size_le_28 : 28 ≤ sizeLine := by decide
@[simp] theorem size_lt_28 : 28 < sizeLine := by decide
@[simp] theorem size_le_29 : 29 ≤ sizeLine := by decide
@[simp] theorem size_lt_29 : 29 < sizeLine := by decide
@[simp] theorem size_le_30 : 30 ≤ sizeLine := by decide
@[simp] theorem size_lt_30 : 30 < sizeLine := by decide
@[simp] theorem size_le_31 : 31 ≤ sizeLine := by decide
@[simp] theorem size_lt_31 : 31 < sizeLine := by decide
@[simp] theorem size_le_32 : 32 ≤ sizeLine := by decide
@[simp] theorem size_lt_32 : 32 < sizeLine := by decide
@[simp] theorem size_le_33 : 33 ≤ sizeLine := by decide
@[simp] theorem size_lt_33 : 33 < sizeLine := by decide
@[simp] theorem size_le_34 : 34 ≤ sizeLine := by decide
@[simp] theorem size_lt_34 : 34 < sizeLine := by decide
@[simp] theorem size_le_35 : 35 ≤ sizeLine := by decide
@[simp] theorem size_lt_35 : 35 < sizeLine := by decide
@[simp] theorem size_le_36 : 36 ≤ sizeLine := by decide
@[simp] theorem size_lt_36 : 36 < sizeLine := by decide
@[simp] theorem size_le_37 : 37 ≤ sizeLine := by decide
@[simp] theorem size_lt_37 : 37 < sizeLine := by decide
@[simp] theorem size_le_38 : 38 ≤ sizeLine := by decide
@[simp] theorem size_lt_38 : 38 < sizeLine := by decide
@[simp] theorem size_le_39 : 39 ≤ sizeLine := by decide
@[simp] theorem size_lt_39 : 39 < sizeLine := by decide
@[simp] theorem size_le_40 : 40 ≤ sizeLine := by decide
@[simp] theorem size_lt_40 : 40 < sizeLine := by decide
theorem cutL_sub {α : Type} {xs : List α} {lo hi : Option Int} : ∀ x ∈ cutL xs lo hi, x ∈ xs := fun x h => List.mem_of_mem_drop (List.mem_of_mem_take h)
theorem cutL_len {α : Type} {xs : List α} {lo hi : Option Int} : (cutL xs lo hi).length ≤ xs.length := by
  unfold cutL
  rw [List.length_take,  List.length_drop]
  omega
theorem cutL_most {α : Type} {xs : List α} {k : Nat} : (cutL xs none (some (k : Int))).length ≤ k := by
  unfold cutL
  rw [HT.sIx_nat, HT.sIx_none, List.length_take]
  omega
theorem noss_mem {ds : List D} (h : ∀ d ∈ ds, d.nos = true) : D.noss ds = true := by
  induction ds with
  | nil => rfl
  | cons d ds ih => simp [h d List.mem_cons_self, ih fun d hd => h d (List.mem_cons_of_mem _ hd)]
theorem xfs_mem {ds : List D} (h : ∀ d ∈ ds, d.xf = true) : D.xfs ds = true := by
  induction ds with
  | nil => rfl
  | cons d ds ih => simp [h d List.mem_cons_self, ih fun d hd => h d (List.mem_cons_of_mem _ hd)]
theorem shs_mem {ds : List D} (h : ∀ d ∈ ds, d.sh = d) : D.shs ds = ds := by
  induction ds with
  | nil => rfl
  | cons d ds ih => simp [h d List.mem_cons_self, ih fun d hd => h d (List.mem_cons_of_mem _ hd)]
theorem enumD_len : ∀ (i : Nat) (ds : List D), (enumD i ds).length = ds.length
  | _, [] => rfl
  | i, d :: ds => congrArg (· + 1) (enumD_len (i + 1) ds)
theorem enumD_get : ∀ (i : Nat) (ds : List D) (j : Nat) (d : D), (enumD i ds)[j]? = some d → ∃ x, ds[j]? = some x ∧ d = .tup [.int ((i + j : Nat) : Int), x]
  | _, [], _, _, h => by cases h
  | i, x :: ds, 0, d, h => ⟨x, rfl, (Option.some.inj h).symm⟩
  | i, x :: ds, j + 1, d, h => by
    obtain ⟨u, h1, h2⟩ := enumD_get (i + 1) ds j d h
    exact ⟨u, h1, by rw [h2, show i + 1 + j = i + (j + 1) by omega]⟩
end DL

set_option Elab.async false
set_option linter.all false
set_option maxRecDepth 100000
namespace DL
open PySem L2 PyProof.Rows

section
variable {K : PySem.W.Frag} {mg : Str → Option Value} {h : Heap}
theorem hasDef_of {x : Str} {st : Stmt} {a : Addr} {oc : Value} {od an : Option Addr} {sl : Array (Option Value)} {kV dc pm cd ct : Value} (X : K.In h) (G : h.Ns mainGlobals mg) (a1 : PySem.W.nsIn K mainGlobals x = some (some (.ref a)))
    (l1 : K.lookup a = some ⟨oc, od, .func (PySem.W.fnOf x x (defArgs st) (defBody st) (defScope st) .none kV dc pm an cd ct), sl⟩) (c1 : PySem.W.codeIn K cd x = true) (k1 : PySem.W.keepIn K (.ref a) = true) : HasDef K mg x st :=
  ⟨a, _, PySem.W.mg_of X G a1, fun_mk l1 c1 k1⟩
theorem hasDat_of {x : Str} {u : Value} {d : D} (X : K.In h) (G : h.Ns mainGlobals mg) (a1 : PySem.W.nsIn K mainGlobals x = some (some u)) (t : KDen K u d) : HasDat K mg x d := ⟨u, PySem.W.mg_of X G a1, t⟩
end
theorem scr_of {K : PySem.W.Frag} {H : Hp} {a : Addr} {ns : List Int} (hO : Only H) (hS : SqL K H a (ns.map V.int)) : Scr K H a ns := by
  rcases hS with (h | h) | h
  · rcases hO a with z | ⟨o, xs, z⟩
    · rw [z] at h; cases h
    · rw [z] at h; cases h
  · exact .inl h
  · exact .inr fun H' => .inr h
theorem sp_law {P : Program} {w : World} {K : PySem.W.Frag} {m : List D → Option (D × G)} (hm : ∀ ns : List Int, ns.length ≤ 63 → ∃ g, m [.scr ns] = some (.bl true, g)) {H : Hp} {a : Addr} {ns : List Int} (hn : ns.length ≤ 63) (hO : Only H) (hS : SqL K H a (ns.map V.int)) :
    spD ⟨P, w, K⟩ 1 [] m [.ref a] H (fun v _ => v = .bl true) fun _ _ _ => False := by
  obtain ⟨g, e⟩ := hm ns hn
  refine ⟨fun _ => False, fun _ => False, [.scr ns], [[]], .bl true, g, rfl, ⟨rfl, rfl, fun i d hd => ?_, fun i hd => ?_, by simp, by simp, fun a ha => (ha.elim id id).elim⟩, e, fun v H' Fs' F _ _ _ _ _ _ _ Dv => ?_⟩
  · match i, hd with
    | 0, hd => cases hd; exact ⟨.ref a, [], rfl, rfl, .scr (scr_of hO hS)⟩
    | i + 1, hd => simp at hd
  · match i, hd with
    | 0, hd => cases hd
    | i + 1, hd => simp at hd
  · cases Dv; rfl
/-- THE END: a law by its meaning -/
theorem walkD {l : PySem.W.OpenLaw} {k : Nat} {q : Program} {loose : List Str} {XP : (Str → Option Value) → Heap → Prop} {YP : World → Heap → Prop} {d : DefRec} {K : Params → PySem.W.Frag} {m : List D → Option (D × G)} (hn : l.most = some 63) (hdf : d.params.defaults = [])
    (hY : ∀ (w : World) (h : Heap), YP w h → (K w.params).In h) (hr : Room k callerA)
    (F : ∀ (w : World) (mg : Str → Option Value) (fa : Addr) (h : Heap), (K w.params).In h → h.Ns mainGlobals mg → mg d.name = some (.ref fa)  →
      ∃ fd : FuncData, (∀ (s : Shared) (u : Value), BindsTo s fd ⟨[u], []⟩ [("script", u)]) ∧ ∀ base : Heap, (K w.params).In base → base.Ns mainGlobals mg → FnOk l.prog w (K w.params) mg base CX0 k fa fd ["script"] (spD ⟨l.prog, w, K w.params⟩ 1 [] m))
    (hm : ∀ ns : List Int, ns.length ≤ 63 → ∃ g, m [.scr ns] = some (.bl true, g)) : PySem.W.WalkO q loose XP YP l.row.toRowW d [] (fun f vs => PySem.call f vs) :=
  L2.walk_of (n := 63) (k := k) (x := "script") (CX := fun _ => CX0) (sp := fun w => spD ⟨l.prog, w, K w.params⟩ 1 [] m) hn (by decide) hdf hr hY F (fun _ _ a ns h1 hO hS => sp_law hm h1 hO hS) fun _ _ _ _ _ z => z
end DL

set_option Elab.async false
set_option linter.all false
set_option maxRecDepth 100000
namespace DL
open PySem L2
def g_TESTS : D := .tup [.str "push", .str "pull", .str "send", .str "yes", .str "no answer", .str "free", .str "none", .str "same", .str "newer", .str "elder", .str "sent", .str "wiped"]
def g_DEEDS : D := .tup [.str "clear", .str "join", .str "leave", .str "take"]
def g_CAREFUL : D := .tup [.tup [.tup [.str "push", .str "no elder"], .str "join"], .tup [.tup [.str "pull", .str "no sent"], .str "join"], .tup [.tup [.str "yes", .str "same"], .str "clear"], .tup [.tup [.str "no answer", .str "free"], .str "take"]]
def g_MOST_CLAUSES : D := .int 8
@[simp] def b_l_well_1 : Sx := sSeq (sIf (xT (x2 dGe (xV 0) (x2 dPow (xC (.int 10)) (xC (.int 18))))) (sRet ⟨true, []⟩ (xOp dLst (xCons (x2 dSub (xV 0) (x2 dPow (xC (.int 10)) (xC (.int 18)))) (xCons (x2 dMod (xV 0) (xC (.int 2305843009213693951))) (xCons (xV 1) (xNil)))))) (sNil)) (sRet ⟨true, []⟩ (xOp dLst (xCons (xC (.int 0)) (xCons (x2 dMod (xV 0) (xC (.int 2305843009213693951))) (xCons (xV 1) (xNil))))))
@[simp] def b_l_well : Sx := b_l_well_1
def m_l_well : List D → Option (D × G) := fnD 2 0 b_l_well
@[simp] def e_l_bags_1 : Ex := xCall m_l_well (xCons (xV 3) (xCons (x2 dMulA (xC (.int 977)) (xV 2)) (xNil)))
@[simp] def b_l_bags : Sx := sRet ⟨false, []⟩ (xLc (xEnum (xCons (x2 dAdd (xCut (xV 0) (xNo) (xPart (xV 1))) (xOp dLst (xCons (xC (.int 0)) (xNil)))) (xNil))) (gT (gsCons (gNs ⟨true, []⟩ 2) (gsCons (gNs ⟨true, []⟩ 3) (gsNil)))) (xYes) (e_l_bags_1) [2, 3])
def m_l_bags : List D → Option (D × G) := fnD 2 2 b_l_bags
@[simp] def b_l_take_1 : Sx := sSeq (sStore ⟨true, [0]⟩ 0 (x2 dFdiv (x2 dIx (xB 0) (xC (.int 0))) (xV 1)) (xP 0) (xC (.int 0))) (sRet ⟨true, []⟩ (xV 2))
@[simp] def b_l_take_2 : Sx := sSeq (sAsg (x2 dMod (x2 dIx (xB 0) (xC (.int 0))) (xV 1)) (gNs ⟨true, [0]⟩ 2)) (b_l_take_1)
@[simp] def b_l_take_3 : Sx := sSeq (sAsg (x2 dMod (x2 dAdd (x2 dAdd (x2 dMulA (xV 4) (xV 4)) (x2 dMulA (xC (.int 7919)) (x2 dPow (x2 dIx (xB 0) (xC (.int 2))) (xC (.int 2))))) (xC (.int 5))) (xV 3)) (gNs ⟨true, [0]⟩ 4)) (sRet ⟨true, []⟩ (x2 dMod (x2 dFdiv (x2 dMod (x2 dPow (xV 4) (xC (.int 3))) (xV 3)) (xC (.int 13))) (xV 1)))
@[simp] def b_l_take_4 : Sx := sSeq (sAsg (x2 dMod (x2 dAdd (x2 dIx (xB 0) (xC (.int 1))) (x2 dMulA (xC (.int 1000003)) (x2 dIx (xB 0) (xC (.int 2))))) (xV 3)) (gNs ⟨true, [0, 0]⟩ 4)) (b_l_take_3)
@[simp] def b_l_take_5 : Sx := sSeq (sAsg (xC (.int 2305843009213693951)) (gNs ⟨false, []⟩ 3)) (b_l_take_4)
@[simp] def b_l_take_6 : Sx := sSeq (sStore ⟨true, [0]⟩ 0 (x2 dAdd (x2 dIx (xB 0) (xC (.int 2))) (xC (.int 1))) (xP 0) (xC (.int 2))) (b_l_take_5)
@[simp] def b_l_take_7 : Sx := sSeq (sIf (xT (x2 dGt (x2 dIx (xB 0) (xC (.int 0))) (xC (.int 0)))) (b_l_take_2) (sNil)) (b_l_take_6)
@[simp] def b_l_take : Sx := b_l_take_7
def m_l_take : List D → Option (D × G) := fnD 2 3 b_l_take
@[simp] def b_l_known_1 : Sx := sSeq (sApp ⟨false, []⟩ 1 (xP 1) (xOp dTup (xCons (xOp dTup (xCons (xOp dTup (xCons (xC (.str "send")) (xNil))) (xCons (xC (.str "clear")) (xNil)))) (xCons (xOp dTup (xCons (xOp dTup (xCons (xC (.str "no answer")) (xCons (xC (.str "free")) (xNil)))) (xCons (xC (.str "take")) (xNil)))) (xCons (xOp dTup (xCons (xOp dTup (xCons (xC (.str "push")) (xNil))) (xCons (xC (.str "take")) (xNil)))) (xNil)))))) (sRet ⟨false, []⟩ (x2 dIx (xM 1) (xCallM m_l_take 0 0 [true, false] (xMM (xMP (xC (.int 5)) (xNil))))))
@[simp] def b_l_known_2 : Sx := sSeq (sApp ⟨false, []⟩ 1 (xP 1) (xOp dTup (xCons (xOp dTup (xCons (xOp dTup (xCons (xC (.str "push")) (xCons (xC (.str "no elder")) (xNil)))) (xCons (xC (.str "join")) (xNil)))) (xCons (xOp dTup (xCons (xOp dTup (xCons (xC (.str "pull")) (xCons (xC (.str "no sent")) (xNil)))) (xCons (xC (.str "join")) (xNil)))) (xCons (xOp dTup (xCons (xOp dTup (xCons (xC (.str "yes")) (xCons (xC (.str "same")) (xNil)))) (xCons (xC (.str "clear")) (xNil)))) (xCons (xOp dTup (xCons (xOp dTup (xCons (xC (.str "no answer")) (xCons (xC (.str "free")) (xNil)))) (xCons (xC (.str "take")) (xNil)))) (xNil))))))) (b_l_known_1)
@[simp] def b_l_known_3 : Sx := sSeq (sAsg (xOp dLst (xCons (xOp dTup (xCons (xOp dTup (xCons (xOp dTup (xCons (xC (.str "push")) (xNil))) (xCons (xC (.str "take")) (xNil)))) (xCons (xOp dTup (xCons (xOp dTup (xCons (xC (.str "pull")) (xNil))) (xCons (xC (.str "take")) (xNil)))) (xCons (xOp dTup (xCons (xOp dTup (xCons (xC (.str "yes")) (xNil))) (xCons (xC (.str "clear")) (xNil)))) (xNil))))) (xCons (xOp dTup (xCons (xOp dTup (xCons (xOp dTup (xNil)) (xCons (xC (.str "join")) (xNil)))) (xNil))) (xCons (xOp dTup (xNil)) (xNil))))) (gN ⟨false, []⟩ 1)) (b_l_known_2)
@[simp] def b_l_known : Sx := b_l_known_3
def m_l_known : List D → Option (D × G) := fnD 1 1 b_l_known
@[simp] def b_l_tests : Sx := sRet ⟨false, []⟩ (xOp dLst (xCons (xC (.str "push")) (xCons (xC (.str "pull")) (xCons (xC (.str "send")) (xCons (xC (.str "yes")) (xCons (xC (.str "no answer")) (xCons (xC (.str "free")) (xCons (xC (.str "none")) (xCons (xC (.str "same")) (xCons (xC (.str "newer")) (xCons (xC (.str "elder")) (xCons (xC (.str "sent")) (xCons (xC (.str "wiped")) (xNil))))))))))))))
def m_l_tests : List D → Option (D × G) := fnD 0 0 b_l_tests
@[simp] def b_l_test : Sx := sRet ⟨false, []⟩ (x2 dAdd (x2 dIx (xOp dLst (xCons (xC (.str "")) (xCons (xC (.str "")) (xCons (xC (.str "no ")) (xNil))))) (xCallM m_l_take 0 0 [true, false] (xMM (xMP (xC (.int 3)) (xNil))))) (x2 dIx (xCall m_l_tests xNil) (xCallM m_l_take 0 0 [true, false] (xMM (xMP (xC (.int 12)) (xNil))))))
def m_l_test : List D → Option (D × G) := fnD 1 0 b_l_test
@[simp] def e_l_clause_1 : Ex := xCallM m_l_test 0 0 [true] (xMM (xNil))
@[simp] def b_l_clause_2 : Sx := sSeq (sAsg (xOp (B1 dTuple) (xCons (xLc (xRg1 (xCons (x2 dIx (xOp dLst (xCons (xC (.int 0)) (xCons (xC (.int 1)) (xCons (xC (.int 1)) (xCons (xC (.int 2)) (xCons (xC (.int 2)) (xCons (xC (.int 3)) (xNil)))))))) (xCallM m_l_take 0 0 [true, false] (xMM (xMP (xC (.int 6)) (xNil))))) (xNil))) (gNs ⟨false, []⟩ 2) (xYes) (e_l_clause_1) [2]) (xNil))) (gNs ⟨false, []⟩ 1)) (sRet ⟨true, []⟩ (xOp dTup (xCons (xV 1) (xCons (x2 dIx (xOp dLst (xCons (xC (.str "clear")) (xCons (xC (.str "join")) (xCons (xC (.str "join")) (xCons (xC (.str "leave")) (xCons (xC (.str "take")) (xCons (xC (.str "take")) (xNil)))))))) (xCallM m_l_take 0 0 [true, false] (xMM (xMP (xC (.int 6)) (xNil))))) (xNil)))))
@[simp] def b_l_clause : Sx := b_l_clause_2
def m_l_clause : List D → Option (D × G) := fnD 1 2 b_l_clause
@[simp] def e_l_rule_1 : Ex := xCallM m_l_clause 0 0 [true] (xMM (xNil))
@[simp] def b_l_rule_2 : Sx := sSeq (sIf (xT (x2 dEq (xV 2) (xC (.int 1)))) (sAsg (x2 dAdd (x2 dAdd (xCut (xV 4) (xNo) (xPart (xV 5))) (xOp dTup (xCons (xCallM m_l_clause 0 0 [true] (xMM (xNil))) (xNil)))) (xCut (xV 4) (xPart (xV 5)) (xNo))) (gNs ⟨true, []⟩ 4)) (sIf (xT (x2 dEq (xV 2) (xC (.int 2)))) (sAsg (x2 dAdd (x2 dAdd (xCut (xV 4) (xNo) (xPart (xV 5))) (x2 dMulA (xOp dTup (xCons (xCallM m_l_clause 0 0 [true] (xMM (xNil))) (xNil))) (xCallM m_l_take 0 0 [true, false] (xMM (xMP (xC (.int 2)) (xNil)))))) (xCut (xV 4) (xPart (x2 dAdd (xV 5) (xC (.int 1)))) (xNo))) (gNs ⟨true, []⟩ 4)) (sNil))) (sRet ⟨true, []⟩ (xCut (xV 4) (xNo) (xPart (xV 1))))
@[simp] def b_l_rule_3 : Sx := sSeq (sAsg (xCallM m_l_take 0 0 [true, false] (xMM (xMP (x2 dAdd (xOp (B1 dLen) (xCons (xV 4) (xNil))) (xC (.int 1))) (xNil)))) (gNs ⟨false, []⟩ 5)) (b_l_rule_2)
@[simp] def b_l_rule_4 : Sx := sSeq (sAsg (xCallM m_l_known 0 0 [true] (xMM (xNil))) (gNs ⟨false, []⟩ 4)) (b_l_rule_3)
@[simp] def b_l_rule_5 : Sx := sSeq (sIf (xT (x2 dEq (xV 2) (xC (.int 0)))) (sRet ⟨false, []⟩ (xOp (B1 dTuple) (xCons (xLc (xRg1 (xCons (xCallM m_l_take 0 0 [true, false] (xMM (xMP (x2 dAdd (xV 1) (xC (.int 1))) (xNil)))) (xNil))) (gNs ⟨false, []⟩ 3) (xYes) (e_l_rule_1) [3]) (xNil)))) (sNil)) (b_l_rule_4)
@[simp] def b_l_rule_6 : Sx := sSeq (sAsg (xCallM m_l_take 0 0 [true, false] (xMM (xMP (xC (.int 4)) (xNil)))) (gNs ⟨false, []⟩ 2)) (b_l_rule_5)
@[simp] def b_l_rule : Sx := b_l_rule_6
def m_l_rule : List D → Option (D × G) := fnD 2 4 b_l_rule
@[simp] def b_is_one_of : Sx := sRet ⟨true, []⟩ (xAndV (xOp (B2 dIsi) (xCons (xV 0) (xCons (xC (.opq (.ty "str"))) (xNil)))) (x2 dIn (xV 0) (xV 1)))
def m_is_one_of : List D → Option (D × G) := fnD 2 0 b_is_one_of
@[simp] def b_is_test_1 : Sx := sSeq (sIf (xNot (xT (xOp (B2 dIsi) (xCons (xV 0) (xCons (xC (.opq (.ty "str"))) (xNil)))))) (sRet ⟨false, []⟩ (xC (.bl false))) (sNil)) (sRet ⟨true, []⟩ (xOrV (x2 dIn (xV 0) (xC g_TESTS)) (xAndV (x2 dEq (xCut (xV 0) (xNo) (xPart (xC (.int 3)))) (xC (.str "no "))) (x2 dIn (xCut (xV 0) (xPart (xC (.int 3))) (xNo)) (xC g_TESTS)))))
@[simp] def b_is_test : Sx := b_is_test_1
def m_is_test : List D → Option (D × G) := fnD 1 0 b_is_test
@[simp] def e_is_clause_1 : Ex := xCall m_is_test (xCons (xV 1) (xNil))
@[simp] def b_is_clause_2 : Sx := sSeq (sIf (xOr (xNot (xT (xOp (B2 dIsi) (xCons (xV 0) (xCons (xC (.opq (.ty "tuple"))) (xNil)))))) (xOr (xT (x2 dNe (xOp (B1 dLen) (xCons (xV 0) (xNil))) (xC (.int 2)))) (xNot (xT (xOp (B2 dIsi) (xCons (x2 dIx (xV 0) (xC (.int 0))) (xCons (xC (.opq (.ty "tuple"))) (xNil)))))))) (sRet ⟨false, []⟩ (xC (.bl false))) (sNil)) (sRet ⟨false, []⟩ (xAndV (x2 dLe (xOp (B1 dLen) (xCons (x2 dIx (xV 0) (xC (.int 0))) (xNil))) (xC (.int 3))) (xAndV (xOp (B1 dAll) (xCons (xLc (xItt (x2 dIx (xV 0) (xC (.int 0)))) (gNs ⟨true, []⟩ 1) (xYes) (e_is_clause_1) [1]) (xNil))) (xCall m_is_one_of (xCons (x2 dIx (xV 0) (xC (.int 1))) (xCons (xC g_DEEDS) (xNil)))))))
@[simp] def b_is_clause : Sx := b_is_clause_2
def m_is_clause : List D → Option (D × G) := fnD 1 1 b_is_clause
@[simp] def e_is_rule_1 : Ex := xCall m_is_clause (xCons (xV 1) (xNil))
@[simp] def b_is_rule : Sx := sRet ⟨false, []⟩ (xAndV (xOp (B2 dIsi) (xCons (xV 0) (xCons (xC (.opq (.ty "tuple"))) (xNil)))) (xAndV (x2 dLe (xOp (B1 dLen) (xCons (xV 0) (xNil))) (xC g_MOST_CLAUSES)) (xOp (B1 dAll) (xCons (xLc (xItt (xV 0)) (gNs ⟨true, []⟩ 1) (xYes) (e_is_rule_1) [1]) (xNil)))))
def m_is_rule : List D → Option (D × G) := fnD 1 1 b_is_rule
@[simp] def b_l_odd_1 (rc : List D → Option (D × G)) : Sx := sSeq (sAsg (x2 dAdd (xB 2) (xOp dLst (xCons (xC (.str "Pull")) (xCons (xC (.str "pull")) (xCons (xC (.str "take")) (xCons (xC (.str "no take")) (xCons (xC (.str "no no pull")) (xCons (xOp dTup (xNil)) (xCons (xOp dLst (xNil)) (xCons (xOp dTup (xCons (xC (.str "same")) (xNil))) (xCons (xOp dTup (xCons (xOp dTup (xNil)) (xCons (xC (.str "take")) (xNil)))) (xCons (xOp dTup (xCons (xC (.int 1)) (xCons (xC (.int 2)) (xNil)))) (xCons (xC (.str "join")) (xNil)))))))))))))) (gN ⟨true, [2]⟩ 2)) (sRet ⟨false, []⟩ (x2 dIx (xM 2) (xCallM m_l_take 0 0 [true, false] (xMM (xMP (xC (.int 23)) (xNil))))))
@[simp] def b_l_odd_2 (rc : List D → Option (D × G)) : Sx := sSeq (sAsg (xOp dLst (xCons (xC .non) (xCons (xC (.bl true)) (xCons (xC (.int 0)) (xCons (xC (.int 1)) (xCons (x2 dPow (xC (.int 10)) (xC (.int 20))) (xCons (xC (.str "")) (xCons (xC (.str "no")) (xCons (xC (.str "answer")) (xCons (xC (.str "no answer")) (xCons (xC (.str "no no answer")) (xCons (xC (.str "noxpull")) (xCons (xC (.str "no  pull")) (xNil)))))))))))))) (gN ⟨false, []⟩ 2)) ((b_l_odd_1 rc))
@[simp] def b_l_odd_3 (rc : List D → Option (D × G)) : Sx := sSeq (sIf (xT (x2 dEq (xV 4) (xC (.int 3)))) (sRet ⟨true, []⟩ (x2 dAdd (xCut (xV 1) (xNo) (xPart (xV 3))) (xCut (xV 1) (xPart (x2 dAdd (xV 3) (xC (.int 1)))) (xNo)))) (sNil)) (sRet ⟨true, []⟩ (x2 dAdd (x2 dAdd (xCut (xV 1) (xNo) (xPart (xV 3))) (xOp dTup (xCons (xCallM rc 0 0 [true, false] (xMM (xMP (x2 dIx (xV 1) (xV 3)) (xNil)))) (xNil)))) (xCut (xV 1) (xPart (x2 dAdd (xV 3) (xC (.int 1)))) (xNo))))
@[simp] def b_l_odd_4 (rc : List D → Option (D × G)) : Sx := sSeq (sIf (xT (x2 dEq (xV 4) (xC (.int 2)))) (sRet ⟨true, []⟩ (x2 dAdd (x2 dAdd (xCut (xV 1) (xNo) (xPart (xV 3))) (xCut (xV 1) (xPart (xV 3)) (xPart (x2 dAdd (xV 3) (xC (.int 1)))))) (xCut (xV 1) (xPart (xV 3)) (xNo)))) (sNil)) ((b_l_odd_3 rc))
@[simp] def b_l_odd_5 (rc : List D → Option (D × G)) : Sx := sSeq (sIf (xOr (xT (x2 dEq (xV 4) (xC (.int 1)))) (xT (x2 dEq (xV 3) (xOp (B1 dLen) (xCons (xV 1) (xNil)))))) (sRet ⟨true, []⟩ (x2 dAdd (x2 dAdd (xCut (xV 1) (xNo) (xPart (xV 3))) (xOp dTup (xCons (xCallM rc 0 0 [true, false] (xMM (xMP (xC .non) (xNil)))) (xNil)))) (xCut (xV 1) (xPart (xV 3)) (xNo)))) (sNil)) ((b_l_odd_4 rc))
@[simp] def b_l_odd_6 (rc : List D → Option (D × G)) : Sx := sSeq (sIf (xT (x2 dEq (xV 4) (xC (.int 0)))) (sRet ⟨true, []⟩ (xOp (B1 dList) (xCons (xV 1) (xNil)))) (sNil)) ((b_l_odd_5 rc))
@[simp] def b_l_odd_7 (rc : List D → Option (D × G)) : Sx := sSeq (sPar ⟨false, []⟩ 3 4 (xCons (xCallM m_l_take 0 0 [true, false] (xMM (xMP (x2 dAdd (xOp (B1 dLen) (xCons (xV 1) (xNil))) (xC (.int 1))) (xNil)))) (xCons (xCallM m_l_take 0 0 [true, false] (xMM (xMP (xC (.int 5)) (xNil)))) (xNil)))) ((b_l_odd_6 rc))
@[simp] def b_l_odd_8 (rc : List D → Option (D × G)) : Sx := sSeq (sIf (xOr (xNot (xT (xOp (B2 dIsi) (xCons (xV 1) (xCons (xC (.opq (.ty "tuple"))) (xNil)))))) (xT (x2 dEq (xCallM m_l_take 0 0 [true, false] (xMM (xMP (xC (.int 4)) (xNil)))) (xC (.int 0))))) ((b_l_odd_2 rc)) (sNil)) ((b_l_odd_7 rc))
@[simp] def b_l_odd (rc : List D → Option (D × G)) : Sx := (b_l_odd_8 rc)
def m_l_odd : Nat → List D → Option (D × G)
  | 0 => fun _ => none
  | n + 1 => fnD 2 3 (b_l_odd (m_l_odd n))
@[simp] def e_l_same_1 (rc : List D → Option (D × G)) : Ex := xCall rc (xCons (xV 2) (xCons (xV 3) (xNil)))
@[simp] def b_l_same_2 (rc : List D → Option (D × G)) : Sx := sSeq (sIf (xOr (xT (xOp (B2 dIsi) (xCons (xV 0) (xCons (xC (.opq (.ty "str"))) (xNil))))) (xT (xOp (B2 dIsi) (xCons (xV 1) (xCons (xC (.opq (.ty "str"))) (xNil)))))) (sRet ⟨true, []⟩ (xAndV (xOp (B2 dIsi) (xCons (xV 0) (xCons (xC (.opq (.ty "str"))) (xNil)))) (xAndV (xOp (B2 dIsi) (xCons (xV 1) (xCons (xC (.opq (.ty "str"))) (xNil)))) (x2 dEq (xV 0) (xV 1))))) (sNil)) (sRet ⟨true, []⟩ (xAndV (x2 (dIs false) (xV 0) (xC .non)) (x2 (dIs false) (xV 1) (xC .non))))
@[simp] def b_l_same_3 (rc : List D → Option (D × G)) : Sx := sSeq (sIf (xOr (xT (xOp (B2 dIsi) (xCons (xV 0) (xCons (xC (.opq (.ty "int"))) (xNil))))) (xT (xOp (B2 dIsi) (xCons (xV 1) (xCons (xC (.opq (.ty "int"))) (xNil)))))) (sRet ⟨true, []⟩ (xAndV (xOp (B2 dIsi) (xCons (xV 0) (xCons (xC (.opq (.ty "int"))) (xNil)))) (xAndV (xOp (B2 dIsi) (xCons (xV 1) (xCons (xC (.opq (.ty "int"))) (xNil)))) (x2 dEq (xV 0) (xV 1))))) (sNil)) ((b_l_same_2 rc))
@[simp] def b_l_same_4 (rc : List D → Option (D × G)) : Sx := sSeq (sIf (xOr (xT (xOp dIsiT (xCons (xV 0) (xCons (xC (.opq (.ty "bool"))) (xCons (xC (.opq (.ty "list"))) (xCons (xC (.opq (.ty "tuple"))) (xNil))))))) (xT (xOp dIsiT (xCons (xV 1) (xCons (xC (.opq (.ty "bool"))) (xCons (xC (.opq (.ty "list"))) (xCons (xC (.opq (.ty "tuple"))) (xNil)))))))) (sRet ⟨true, []⟩ (xAndV (xOp (B2 dIsi) (xCons (xV 0) (xCons (xC (.opq (.ty "bool"))) (xNil)))) (xAndV (xOp (B2 dIsi) (xCons (xV 1) (xCons (xC (.opq (.ty "bool"))) (xNil)))) (x2 dEq (xV 0) (xV 1))))) (sNil)) ((b_l_same_3 rc))
@[simp] def b_l_same_5 (rc : List D → Option (D × G)) : Sx := sSeq (sIf (xOr (xAnd (xT (xOp (B2 dIsi) (xCons (xV 0) (xCons (xC (.opq (.ty "list"))) (xNil))))) (xT (xOp (B2 dIsi) (xCons (xV 1) (xCons (xC (.opq (.ty "list"))) (xNil)))))) (xAnd (xT (xOp (B2 dIsi) (xCons (xV 0) (xCons (xC (.opq (.ty "tuple"))) (xNil))))) (xT (xOp (B2 dIsi) (xCons (xV 1) (xCons (xC (.opq (.ty "tuple"))) (xNil))))))) (sRet ⟨false, []⟩ (xAndV (x2 dEq (xOp (B1 dLen) (xCons (xV 0) (xNil))) (xOp (B1 dLen) (xCons (xV 1) (xNil)))) (xOp (B1 dAll) (xCons (xLc (xZip (xCons (xV 0) (xCons (xV 1) (xNil)))) (gT (gsCons (gNs ⟨true, []⟩ 2) (gsCons (gNs ⟨true, []⟩ 3) (gsNil)))) (xYes) ((e_l_same_1 rc)) [2, 3]) (xNil))))) (sNil)) ((b_l_same_4 rc))
@[simp] def b_l_same (rc : List D → Option (D × G)) : Sx := (b_l_same_5 rc)
def m_l_same : Nat → List D → Option (D × G)
  | 0 => fun _ => none
  | n + 1 => fnD 2 2 (b_l_same (m_l_same n))
@[simp] def b_l_deeds : Sx := sRet ⟨false, []⟩ (xOp dLst (xCons (xC (.str "clear")) (xCons (xC (.str "join")) (xCons (xC (.str "leave")) (xCons (xC (.str "take")) (xNil))))))
def m_l_deeds : List D → Option (D × G) := fnD 0 0 b_l_deeds
@[simp] def e_l_is_clause_1 : Ex := x2 dAdd (xC (.str "no ")) (xV 2)
@[simp] def e_l_is_clause_2 : Ex := xC (.int 1)
@[simp] def c_l_is_clause_3 : Tx := xOr (xNot (xT (xOp (B2 dIsi) (xCons (xV 3) (xCons (xC (.opq (.ty "str"))) (xNil)))))) (xT (x2 dNotIn (xV 3) (xV 1)))
@[simp] def b_l_is_clause_4 : Sx := sSeq (sIf (xT (x2 dNe (xLc (xItt (x2 dIx (xV 0) (xC (.int 0)))) (gNs ⟨true, []⟩ 3) (c_l_is_clause_3) (e_l_is_clause_2) [3]) (xOp dLst (xNil)))) (sRet ⟨false, []⟩ (xC (.bl false))) (sNil)) (sRet ⟨true, []⟩ (xAndV (xOp (B2 dIsi) (xCons (x2 dIx (xV 0) (xC (.int 1))) (xCons (xC (.opq (.ty "str"))) (xNil)))) (x2 dIn (x2 dIx (xV 0) (xC (.int 1))) (xCall m_l_deeds xNil))))
@[simp] def b_l_is_clause_5 : Sx := sSeq (sIf (xOr (xNot (xT (xOp (B2 dIsi) (xCons (xV 0) (xCons (xC (.opq (.ty "tuple"))) (xNil)))))) (xOr (xT (x2 dNe (xOp (B1 dLen) (xCons (xV 0) (xNil))) (xC (.int 2)))) (xOr (xNot (xT (xOp (B2 dIsi) (xCons (x2 dIx (xV 0) (xC (.int 0))) (xCons (xC (.opq (.ty "tuple"))) (xNil)))))) (xT (x2 dGt (xOp (B1 dLen) (xCons (x2 dIx (xV 0) (xC (.int 0))) (xNil))) (xC (.int 3))))))) (sRet ⟨false, []⟩ (xC (.bl false))) (sNil)) (b_l_is_clause_4)
@[simp] def b_l_is_clause_6 : Sx := sSeq (sAsg (x2 dAdd (xCall m_l_tests xNil) (xLc (xItl (xCall m_l_tests xNil)) (gNs ⟨false, []⟩ 2) (xYes) (e_l_is_clause_1) [2])) (gNs ⟨true, []⟩ 1)) (b_l_is_clause_5)
@[simp] def b_l_is_clause : Sx := b_l_is_clause_6
def m_l_is_clause : List D → Option (D × G) := fnD 1 3 b_l_is_clause
@[simp] def e_l_is_rule_1 : Ex := xC (.int 1)
@[simp] def c_l_is_rule_2 : Tx := xNot (xT (xCall m_l_is_clause (xCons (xV 1) (xNil))))
@[simp] def b_l_is_rule_3 : Sx := sSeq (sIf (xOr (xNot (xT (xOp (B2 dIsi) (xCons (xV 0) (xCons (xC (.opq (.ty "tuple"))) (xNil)))))) (xT (x2 dGt (xOp (B1 dLen) (xCons (xV 0) (xNil))) (xC (.int 8))))) (sRet ⟨false, []⟩ (xC (.bl false))) (sNil)) (sRet ⟨false, []⟩ (x2 dEq (xLc (xItt (xV 0)) (gNs ⟨true, []⟩ 1) (c_l_is_rule_2) (e_l_is_rule_1) [1]) (xOp dLst (xNil))))
@[simp] def b_l_is_rule : Sx := b_l_is_rule_3
def m_l_is_rule : List D → Option (D × G) := fnD 1 1 b_l_is_rule
@[simp] def e_law_1 : Ex := xC (.int 1)
@[simp] def c_law_2 : Tx := xNot (xT (xCall (m_l_same 1) (xCons (xCall m_is_rule (xCons (xV 5) (xNil))) (xCons (xCall m_l_is_rule (xCons (xV 5) (xNil))) (xNil)))))
@[simp] def b_law_3 : Sx := sSeq (sFor (xRg1 (xCons (xC (.int 25)) (xNil))) (gNs ⟨false, []⟩ 4) (sApp ⟨false, []⟩ 3 (xP 3) (xCallM (m_l_odd 4) 1 0 [true, false] (xMM (xMP (xV 2) (xNil)))))) (sIf (xT (x2 dNe (xLc (xItl (xM 3)) (gNs ⟨false, []⟩ 5) (c_law_2) (e_law_1) [5]) (xOp dLst (xNil)))) (sRet ⟨false, []⟩ (xC (.bl false))) (sNil))
@[simp] def b_law_4 : Sx := sSeq (sAsg (xOp dLst (xCons (xV 2) (xCons (x2 dAdd (xV 2) (x2 dMulA (xOp dTup (xCons (xOp dTup (xCons (xOp dTup (xCons (xC (.str "same")) (xNil))) (xCons (xC (.str "take")) (xNil)))) (xNil))) (x2 dSub (xC (.int 9)) (xOp (B1 dLen) (xCons (xV 2) (xNil)))))) (xCons (x2 dAdd (xV 2) (xOp dTup (xCons (xOp dTup (xCons (x2 dMulA (xOp dTup (xCons (xC (.str "same")) (xNil))) (xC (.int 4))) (xCons (xC (.str "take")) (xNil)))) (xNil)))) (xCons (xC g_CAREFUL) (xNil)))))) (gN ⟨true, []⟩ 3)) (b_law_3)
@[simp] def b_law_5 : Sx := sSeq (sAsg (xCallM m_l_rule 1 0 [true, false] (xMM (xMP (xC (.int 8)) (xNil)))) (gNs ⟨false, []⟩ 2)) (b_law_4)
@[simp] def e_law_6 : Ex := x2 dAdd (xC (.str "no ")) (xV 7)
@[simp] def c_law_7 : Tx := xNot (xT (xCall m_is_rule (xCons (xOp dTup (xCons (xOp dTup (xCons (xOp dTup (xCons (xV 7) (xNil))) (xCons (xC (.str "join")) (xNil)))) (xNil))) (xNil))))
@[simp] def b_law_8 : Sx := sSeq (sAsg (x2 dAdd (xCall m_l_tests xNil) (xLc (xItl (xCall m_l_tests xNil)) (gNs ⟨false, []⟩ 7) (xYes) (e_law_6) [7])) (gNs ⟨true, []⟩ 6)) (sRet ⟨false, []⟩ (xAndV (x2 dEq (xLc (xItl (xV 6)) (gNs ⟨true, []⟩ 7) (c_law_7) (xV 7) [7]) (xOp dLst (xNil))) (xNotV (xCall m_is_rule (xCons (xOp dTup (xCons (xOp dTup (xCons (xOp dTup (xCons (xC (.str "no")) (xNil))) (xCons (xC (.str "join")) (xNil)))) (xNil))) (xNil))))))
@[simp] def b_law_9 : Sx := sSeq (sFor (xItl (xCall m_l_bags (xCons (xV 0) (xCons (xC (.int 8)) (xNil))))) (gN ⟨false, []⟩ 1) (b_law_5)) (b_law_8)
@[simp] def b_law : Sx := b_law_9
def m_law : List D → Option (D × G) := fnD 1 7 b_law
end DL

set_option Elab.async false
set_option linter.all false
set_option maxRecDepth 100000
set_option maxHeartbeats  4000000
namespace DL
open PySem L2
abbrev bagD (x y z : Int) : D := .lst true [.int x, .int y, .int z]
def Bag (m : Nat) (d : D) : Prop := ∃ x y z : Int, d = bagD x y z ∧ 0 ≤ y ∧ y < 2305843009213693951 ∧ 0 ≤ z ∧ z ≤ m
theorem take_ok {m : Nat} {d : D} {n : Int} (h : Bag m d) (hm : m < 1152921504606846976) (h0 : 0 < n) (h1 : n < 1073741824) : ∃ r d', Bag (m + 1) d' ∧ 0 ≤ r ∧ r < n ∧ m_l_take [d, .int n] = some (.int r, [some d', some (.int n)]) := by
  obtain ⟨x, y, z, rfl, y0, y1, z0, z1⟩ := h
  by_cases hx : 0 < x
  · refine ⟨x % n, bagD (x / n) y z, ⟨_, _, _, rfl, y0, y1, z0, by omega⟩, Int.emod_nonneg _ (by omega), Int.emod_lt_of_pos _ h0, ?_⟩
    simp [m_l_take, b_l_take, atI, ixN, hx, h0, h1]
  · have e1 : mulOk 1000003 (z + 1) = true := by simp [mulOk]
    have p1 : ((y + 1000003 * (z + 1)) % 2305843009213693951).natAbs < 2 ^ 64 := by omega
    have e3 : (z + 1).natAbs < 2 ^ 64 := by omega
    have e4 : mulOk 7919 ((z + 1) ^ 2) = true := by simp [mulOk]
    generalize hn : (y + 1000003 * (z + 1)) % 2305843009213693951 = q at p1
    have e2 : mulOk q q = true := by simp [mulOk]; omega
    have p2 : ((q * q + 7919 * (z + 1) ^ 2 + 5) % 2305843009213693951).natAbs < 2 ^ 64 := by omega
    generalize hu : (q * q + 7919 * (z + 1) ^ 2 + 5) % 2305843009213693951 = u at p2
    refine ⟨u ^ 3 % 2305843009213693951 / 13 % n, bagD x y (z + 1), ⟨_, _, _, rfl, y0, y1, by omega, by omega⟩, Int.emod_nonneg _ (by omega), Int.emod_lt_of_pos _ h0, ?_⟩
    simp [m_l_take, b_l_take, atI, ixN, dMul, hx, h0, h1, dAdd, dMulA, dMul, dPow, e1, hn, e2, e3, e4, hu, p2]
def W0 : List Str := ["push", "pull", "send", "yes", "no answer", "free", "none", "same", "newer", "elder", "sent", "wiped"]
def W : List Str := W0 ++ W0.map fun x => ("no " : Str) ++ x
def DE : List Str := ["clear", "join", "leave", "take"]
def AS : List Str := W ++ DE ++ ([("" : Str), "no", "answer", "no no answer", "noxpull", "no  pull", "Pull", "no take", "no no pull"] : List Str)
mutual
/-- lists are q; tuples have at most n items -/
def okd (n : Nat) (q : Bool → Bool) : D → Bool
  | .non => true
  | .bl _ => true
  | .int _ => true
  | .str s => AS.contains s
  | .tup ds => okds n q ds && decide (ds.length ≤ n)
  | .lst x ds => q x && okds n q ds && decide (ds.length ≤ n)
  | _ => false
def okds (n : Nat) (q : Bool → Bool) : List D → Bool
  | [] => true
  | d :: ds => okd n q d && okds n q ds
end
theorem okds_mem {n : Nat} {q : Bool → Bool} : ∀ {ds : List D}, okds n q ds = true → ∀ d ∈ ds, okd n q d = true
  | d :: ds, h, x, hx => by
    rw [okds, Bool.and_eq_true] at h
    rcases List.mem_cons.mp hx with e |  hx
    · rw [e]; exact h.1
    · exact okds_mem h.2 x hx
def isTestB : D → Bool
  | .str s => W.contains s
  | _ => false
def isDeedB : D → Bool
  | .str s => DE.contains s
  | _ => false
def isClauseB : D → Bool
  | .tup [.tup ts, d] => decide (ts.length ≤ 3) && ts.all isTestB && isDeedB d
  | _ => false
def isRuleB : D → Bool
  | .tup cs => decide (cs.length ≤ 8) && cs.all isClauseB
  | _ => false
abbrev shd : Bool → Bool := fun x => !x
mutual
theorem okd_xf {n : Nat} : ∀ d : D, okd n shd d = true → d.xf = true
  | .non, _ => rfl
  | .bl _, _ => rfl
  | .int _, _ => rfl
  | .str _, _ => rfl
  | .opq _, _ => rfl
  | .scr _, _ => rfl
  | .tup ds, h => by
    have h : okds n shd ds = true ∧ decide (ds.length ≤ n) = true := by simpa [okd] using h
    simp only [D.xf]
    exact okds_xf ds h.1
  | .lst x ds, h => by
    have h : (x = false ∧ okds n shd ds = true) ∧ ds.length ≤ n := by simpa [okd] using h
    simp only [D.xf, h.1.1, okds_xf ds h.1.2]; rfl
  | .dct _ _ _, h => by simp [okd] at h
  | .dcn _ _ _, h => by simp [okd] at h
theorem okds_xf {n : Nat} : ∀ ds : List D, okds n shd ds = true → D.xfs ds = true
  | [], _ => rfl
  | d :: ds, h => by
    have h : okd n shd d = true ∧ okds n shd ds = true := by simpa [okds] using h
    simp only [D.xfs, okd_xf d h.1, okds_xf ds h.2]; rfl
end
mutual
theorem okd_sh {n : Nat} : ∀ d : D, okd n shd d = true → d.sh = d
  | .non, _ => rfl
  | .bl _, _ => rfl
  | .int _, _ => rfl
  | .str _, _ => rfl
  | .opq _, _ => rfl
  | .scr _, _ => rfl
  | .tup ds, h => by
    have h : okds n shd ds = true ∧ decide (ds.length ≤ n) = true := by simpa [okd] using h
    rw [D.sh, okds_sh ds h.1]
  | .lst x ds, h => by
    have h : (x = false ∧ okds n shd ds = true) ∧ ds.length ≤ n := by simpa [okd] using h
    rw [D.sh, okds_sh ds h.1.2, h.1.1]
  | .dct _ _ _, h => by simp [okd] at h
  | .dcn _ _ _, h => by simp [okd] at h
theorem okds_sh {n : Nat} : ∀ ds : List D, okds n shd ds = true → D.shs ds = ds
  | [], _ => rfl
  | d :: ds, h => by
    have h : okd n shd d = true ∧ okds n shd ds = true := by simpa [okds] using h
    rw [D.shs, okd_sh d h.1, okds_sh ds h.2]
end
theorem asC {s : Str} (h : AS.contains s = true) : s ∈ AS := List.contains_iff_mem.mp h
theorem is_test_ok {d : D} (h : okd 60 shd d = true) : m_is_test [d] = some (.bl (isTestB d), [some d]) := by
  cases d with
  | str s =>
    have hs := asC (by simpa [okd] using h)
    have : ∀ s ∈ AS, m_is_test [.str s] = some (.bl (isTestB (.str s)), [some (.str s)]) := by
      intro s hs
      simp only [AS, W, DE, W0, List.map_cons, List.map_nil, List.cons_append, List.nil_append, List.mem_cons, List.not_mem_nil, or_false] at hs
      rcases hs with rfl | rfl | rfl | rfl | rfl | rfl | rfl | rfl | rfl | rfl | rfl | rfl | rfl | rfl | rfl | rfl | rfl | rfl | rfl | rfl | rfl | rfl | rfl | rfl | rfl | rfl | rfl | rfl | rfl | rfl | rfl | rfl | rfl | rfl | rfl | rfl | rfl <;> kernel_rfl
    exact this s hs
  | non => kernel_rfl
  | bl k => kernel_rfl
  | int i => kernel_rfl
  | tup ds =>
    have hx : (D.tup ds).xf = true := okd_xf _ h
    simp only [D.xf] at hx
    simp [m_is_test, b_is_test, isTestB, hx]
  | lst x ds =>
    have hx : (D.lst x ds).xf = true := okd_xf _ h
    simp only [D.xf, Bool.and_eq_true, Bool.not_eq_true'] at hx
    simp [m_is_test, b_is_test, isTestB, hx.1, hx.2]
  | dct _ _ _ => simp [okd] at h
  | dcn _ _ _ => simp [okd] at h
  | opq _ => simp [okd] at h
  | scr _ => simp [okd] at h
theorem deeds_ok {d : D} (h : okd 60 shd d = true) : m_is_one_of [d, g_DEEDS] = some (.bl (isDeedB d), [some d, some g_DEEDS]) := by
  cases d with
  | str s =>
    have hs := asC (by simpa [okd] using h)
    have : ∀ s ∈ AS, m_is_one_of [.str s, g_DEEDS] = some (.bl (isDeedB (.str s)), [some (.str s), some g_DEEDS]) := by
      intro s hs
      simp only [AS, W, DE, W0, List.map_cons, List.map_nil, List.cons_append, List.nil_append, List.mem_cons, List.not_mem_nil, or_false] at hs
      rcases hs with rfl | rfl | rfl | rfl | rfl | rfl | rfl | rfl | rfl | rfl | rfl | rfl | rfl | rfl | rfl | rfl | rfl | rfl | rfl | rfl | rfl | rfl | rfl | rfl | rfl | rfl | rfl | rfl | rfl | rfl | rfl | rfl | rfl | rfl | rfl | rfl | rfl <;> kernel_rfl
    exact this s hs
  | non => kernel_rfl
  | bl k => kernel_rfl
  | int i => kernel_rfl
  | tup ds =>
    have hx : (D.tup ds).xf = true := okd_xf _ h
    simp only [D.xf] at hx
    simp [m_is_one_of, b_is_one_of, isDeedB, hx]
  | lst x ds =>
    have hx : (D.lst x ds).xf = true := okd_xf _ h
    simp only [D.xf, Bool.and_eq_true, Bool.not_eq_true'] at hx
    simp [m_is_one_of, b_is_one_of, isDeedB, hx.1, hx.2]
  | dct _ _ _ => simp [okd] at h
  | dcn _ _ _ => simp [okd] at h
  | opq _ => simp [okd] at h
  | scr _ => simp [okd] at h
theorem okd_tup {n : Nat} {q : Bool → Bool} {ds : List D} (h : okd n q (.tup ds) = true) : (∀ d ∈ ds, okd n q d = true) ∧ ds.length ≤ n := by
  have h : okds n q ds = true ∧ decide (ds.length ≤ n) = true := by simpa [okd] using h
  exact ⟨okds_mem h.1, of_decide_eq_true h.2⟩
theorem sl20 {n : Nat} (h : n ≤ 60) : n ≤ sizeLine := Nat.le_trans h (by decide)
/-- the comprehension over the tests -/
theorem tests_lc {ts : List D} {v : D} (ht : ∀ d ∈ ts, okd 60 shd d = true) (hl : ts.length ≤ 60) : lcD (gNs ⟨true, []⟩ 1) xYes (xCall m_is_test (xCons (xV 1) xNil)) [1] ts [] [some v, none] = some (ts.map fun d => .bl (isTestB d), [some v, none]) := by
  have := lc_map (gt := gNs ⟨true, []⟩ 1) (ct := xYes) (fe := xCall m_is_test (xCons (xV 1) xNil)) (vs := [1]) (fun d => .bl (isTestB d)) (g := [some v, none]) ts [] (fun d hd acc ha => ?_) (by simpa using sl20 hl)
  · simpa using this
  · have hx := okd_xf d (ht d hd)
    have hs : d.sh = d := okd_sh d (ht d hd)
    simp [hs, hx, is_test_ok (ht d hd), ha]
@[simp] theorem deeds_sh : g_DEEDS.sh = g_DEEDS := rfl
theorem is_clause_ok {v : D} (h : okd 60 shd v = true) : m_is_clause [v] = some (.bl (isClauseB v), [some v]) := by
  have hxv := okd_xf v h
  cases v with
  | tup ds =>
    obtain ⟨h1, h2⟩ := okd_tup h
    have hx : D.xfs ds = true := by simpa [D.xf] using hxv
    match ds, h1, h2, hx with
    | [], _, _, hx => kernel_rfl
    | [a], _, _, hx =>
      simp at hx
      simp [m_is_clause, b_is_clause, isClauseB, hx]
    | a :: b :: c :: r, _, _, hx =>
      simp at hx
      have e : ((r.length : Int) + 1 + 1 + 1 == 2) = false := by rw [beq_eq_false_iff_ne]; omega
      simp [m_is_clause, b_is_clause, isClauseB, hx, e]
    | [a, b], h1, _, hx =>
      simp at hx
      have ha := h1 a (by simp)
      have hb := h1 b (by simp)
      cases a with
      | tup ts =>
        obtain ⟨ht, hl⟩ := okd_tup ha
        have hxt : D.xfs ts = true := by simpa [D.xf] using hx.1
        by_cases h3 : ts.length ≤ 3
        · have h3' : (ts.length : Int) ≤ 3 := by omega
          simp [m_is_clause, b_is_clause, isClauseB, hx.2, hxt, atI, ixN, h3, h3', tests_lc ht hl, bls_map, okd_sh b hb, deeds_ok hb]
          cases ts.all isTestB <;> simp [hx.2, hxt, atI, ixN, okd_sh b hb, deeds_ok hb]
        · have h3' : ¬ (ts.length : Int) ≤ 3 := by omega
          simp [m_is_clause, b_is_clause, isClauseB, hx.2, hxt, atI, ixN, h3, h3']
      | lst x ts =>
        simp at hx
        simp [m_is_clause, b_is_clause, isClauseB, hx, atI, ixN]
      | dct _ _ _ => simp [okd] at ha
      | dcn _ _ _ => simp [okd] at ha
      | opq _ => simp [okd] at ha
      | scr _ => simp [okd] at ha
      | _ => simp [m_is_clause, b_is_clause, isClauseB, hx, atI, ixN]
  | lst x ds =>
    simp only [D.xf, Bool.and_eq_true, Bool.not_eq_true'] at hxv
    simp [m_is_clause, b_is_clause, isClauseB, hxv.1, hxv.2]
  | dct _ _ _ => simp [okd] at h
  | dcn _ _ _ => simp [okd] at h
  | opq _ => simp [okd] at h
  | scr _ => simp [okd] at h
  | _ => simp [m_is_clause, b_is_clause, isClauseB]
theorem clauses_lc {ts : List D} {v : D} (ht : ∀ d ∈ ts, okd 60 shd d = true) (hl : ts.length ≤ 60) : lcD (gNs ⟨true, []⟩ 1) xYes (xCall m_is_clause (xCons (xV 1) xNil)) [1] ts [] [some v, none] = some (ts.map fun d => .bl (isClauseB d), [some v, none]) := by
  have := lc_map (gt := gNs ⟨true, []⟩ 1) (ct := xYes) (fe := xCall m_is_clause (xCons (xV 1) xNil)) (vs := [1]) (fun d => .bl (isClauseB d)) (g := [some v, none]) ts [] (fun d hd acc ha => ?_) (by simpa using sl20 hl)
  · simpa using this
  · have hx := okd_xf d (ht d hd)
    simp [okd_sh d (ht d hd), hx, is_clause_ok (ht d hd), ha]
theorem is_rule_ok {v : D} (h : okd 60 shd v = true) : m_is_rule [v] = some (.bl (isRuleB v), [some v]) := by
  have hxv := okd_xf v h
  cases v with
  | tup cs =>
    obtain ⟨ht, hl⟩ := okd_tup h
    have hxt : D.xfs cs = true := by simpa [D.xf] using hxv
    by_cases h3 : cs.length ≤ 8
    · have h3' : (cs.length : Int) ≤ 8 := by omega
      simp [m_is_rule, b_is_rule, isRuleB, hxt, g_MOST_CLAUSES, h3, h3', clauses_lc ht hl, bls_map]
    · have h3' : ¬ (cs.length : Int) ≤ 8 := by omega
      simp [m_is_rule, b_is_rule, isRuleB, hxt, g_MOST_CLAUSES, h3, h3']
  | lst x ds =>
    simp only [D.xf, Bool.and_eq_true, Bool.not_eq_true'] at hxv
    simp [m_is_rule, b_is_rule, isRuleB, hxv.1, hxv.2]
  | dct _ _ _ => simp [okd] at h
  | dcn _ _ _ => simp [okd] at h
  | opq _ => simp [okd] at h
  | scr _ => simp [okd] at h
  | _ => simp [m_is_rule, b_is_rule, isRuleB]
abbrev wordsD (x : Bool) : D := .lst x (W.map .str)
theorem words_ok (v : D) : sAsg (x2 dAdd (xCall m_l_tests xNil) (xLc (xItl (xCall m_l_tests xNil)) (gNs ⟨false, []⟩ 2) (xYes) e_l_is_clause_1 [2])) (gNs ⟨true, []⟩ 1) [some v, none, none, none] = some (.nx [some v, some (wordsD false), none, none]) := by kernel_rfl
theorem ltests_lc {ts : List D} {v : D} (ht : ∀ d ∈ ts, okd 60 shd d = true) (hl : ts.length ≤ 60) :
    lcD (gNs ⟨true, []⟩ 3) (xOr (xNot (xT (xOp (B2 dIsi) (xCons (xV 3) (xCons (xC (.opq (.ty "str"))) (xNil)))))) (xT (x2 dNotIn (xV 3) (xV 1)))) (xC (.int 1)) [3] ts [] [some v, some (wordsD false), none, none] = some (List.replicate (ts.filter fun d => !isTestB d).length (.int 1), [some v, some (wordsD false), none, none]) := by
  have := lc_fil (gt := gNs ⟨true, []⟩ 3) (ct := xOr (xNot (xT (xOp (B2 dIsi) (xCons (xV 3) (xCons (xC (.opq (.ty "str"))) (xNil)))))) (xT (x2 dNotIn (xV 3) (xV 1)))) (fe := xC (.int 1)) (vs := [3]) (fun d => !isTestB d) (fun _ => .int 1) (g := [some v, some (wordsD false), none, none]) ts [] (fun d hd acc ha => ?_) (by simpa using sl20 hl)
  · simpa [map_one] using this
  · have hx := okd_xf d (ht d hd)
    cases d with
    | str s =>
      by_cases hc : s ∈ W
      · simp [isTestB, xfs_strs, ha, notIn_strs, -dNotIn, hc]
      · simp [isTestB, xfs_strs, ha, notIn_strs, -dNotIn, hc]
    | tup ds => simp only [D.xf] at hx; simp [isTestB, hx, ha]
    | lst x ds =>
      simp only [D.xf, Bool.and_eq_true, Bool.not_eq_true'] at hx
      simp [isTestB, hx, ha]
    | dct _ _ _ => have := ht _ hd; simp [okd] at this
    | dcn _ _ _ => have := ht _ hd; simp [okd] at this
    | opq _ => have := ht _ hd; simp [okd] at this
    | scr _ => have := ht _ hd; simp [okd] at this
    | _ => simp [isTestB, ha]
theorem l_is_clause_ok {v : D} (h : okd 60 shd v = true) : m_l_is_clause [v] = some (.bl (isClauseB v), [some v]) := by
  have hxv := okd_xf v h
  have e1 : m_l_deeds [] = some (.lst true (DE.map .str), []) := by kernel_rfl
  refine fnD_rt (g := [some v, some (wordsD false), none, none]) rfl rfl ?_
  unfold b_l_is_clause
  rw [List.replicate, List.replicate, List.replicate, List.replicate]
  show sSeq _ _ [some v, none, none, none] = _
  rw [sSeq_nx (words_ok v)]
  cases v with
  | tup ds =>
    obtain ⟨h1, h2⟩ := okd_tup h
    have hx : D.xfs ds = true := by simpa [D.xf] using hxv
    match ds, h1, h2, hx with
    | [], _, _, hx => simp [isClauseB]
    | [a], _, _, hx =>
      simp at hx
      simp [isClauseB, hx]
    | a :: b :: c :: r, _, _, hx =>
      simp at hx
      have e : ((r.length : Int) + 1 + 1 + 1 == 2) = false := by rw [beq_eq_false_iff_ne]; omega
      simp [isClauseB, hx, e]
    | [a, b], h1, _, hx =>
      simp at hx
      have ha := h1 a (by simp)
      have hb' := h1 b (by simp)
      cases a with
      | tup ts =>
        obtain ⟨ht, hl⟩ := okd_tup ha
        have hxt : D.xfs ts = true := by simpa [D.xf] using hx.1
        by_cases h3 : ts.length ≤ 3
        · have h3' : ¬ 3 < (ts.length : Int) := by omega
          have l0 := ltests_lc (v := .tup [.tup ts, b]) ht hl
          by_cases ha : ts.all isTestB = true
          · have e0 : ts.filter (fun d => !isTestB d) = [] := List.filter_eq_nil_iff.mpr fun d hd => by
              rw [List.all_eq_true.mp ha d hd]; decide
            rw [e0] at l0
            cases b with
            | str s =>
              simp [isClauseB, isDeedB, hx.2, hxt, atI, ixN, h3, h3', l0, ha, e1, in_strs, -dIn, -List.all_eq_true]
            | tup ds =>
              simp at hx
              simp [isClauseB, isDeedB, hx.2, hxt, atI, ixN, h3, h3', l0, ha, e1, -List.all_eq_true]
            | lst x ds =>
              simp at hx
              obtain ⟨hx1, rfl, hx3⟩ := hx
              simp [isClauseB, isDeedB, hx3, hxt, atI, ixN, h3, h3', l0, ha, e1, -List.all_eq_true]
            | dct _ _ _ => simp [okd] at hb'
            | dcn _ _ _ => simp [okd] at hb'
            | opq _ => simp [okd] at hb'
            | scr _ => simp [okd] at hb'
            | _ => simp [isClauseB, isDeedB, hx.2, hxt, atI, ixN, h3, h3', l0, ha, e1, -List.all_eq_true]
          · have e0 : (ts.filter fun d => !isTestB d).length ≠ 0 := fun z => ha (List.all_eq_true.mpr fun d hd => by
              have := List.filter_eq_nil_iff.mp (List.eq_nil_of_length_eq_zero z) d hd
              simpa using this)
            have ha' : ts.all isTestB = false := by simpa using ha
            simp [isClauseB, hx.2, hxt, atI, ixN, h3, h3', l0, ne_ones, e0, ha', -List.all_eq_false]
        · have h3' : 3 < (ts.length : Int) := by omega
          simp [isClauseB, hx.2, hxt, atI, ixN, h3, h3']
      | lst x ts =>
        simp at hx
        simp [isClauseB, hx, atI, ixN]
      | dct _ _ _ => simp [okd] at ha
      | dcn _ _ _ => simp [okd] at ha
      | opq _ => simp [okd] at ha
      | scr _ => simp [okd] at ha
      | _ => simp [isClauseB, hx, atI, ixN]
  | lst x ds =>
    simp only [D.xf, Bool.and_eq_true, Bool.not_eq_true'] at hxv
    simp [isClauseB, hxv.1, hxv.2]
  | dct _ _ _ => simp [okd] at h
  | dcn _ _ _ => simp [okd] at h
  | opq _ => simp [okd] at h
  | scr _ => simp [okd] at h
  | _ => simp [isClauseB]
theorem lclauses_lc {ts : List D} {v : D} (ht : ∀ d ∈ ts, okd 60 shd d = true) (hl : ts.length ≤ 60) :
    lcD (gNs ⟨true, []⟩ 1) (xNot (xT (xCall m_l_is_clause (xCons (xV 1) (xNil))))) (xC (.int 1)) [1] ts [] [some v, none] = some (List.replicate (ts.filter fun d => !isClauseB d).length (.int 1), [some v, none]) := by
  have := lc_fil (gt := gNs ⟨true, []⟩ 1) (ct := xNot (xT (xCall m_l_is_clause (xCons (xV 1) (xNil))))) (fe := xC (.int 1)) (vs := [1]) (fun d => !isClauseB d) (fun _ => .int 1) (g := [some v, none]) ts [] (fun d hd acc ha => ?_) (by simpa using sl20 hl)
  · simpa [map_one] using this
  · have hx := okd_xf d (ht d hd)
    cases hc : isClauseB d <;> simp [okd_sh d (ht d hd), hx, l_is_clause_ok (ht d hd), ha, hc]
theorem l_is_rule_ok {v : D} (h : okd 60 shd v = true) : m_l_is_rule [v] = some (.bl (isRuleB v), [some v]) := by
  have hxv := okd_xf v h
  refine fnD_rt (g := [some v, none]) rfl rfl ?_
  unfold b_l_is_rule
  cases v with
  | tup cs =>
    obtain ⟨ht, hl⟩ := okd_tup h
    have hxt : D.xfs cs = true := by simpa [D.xf] using hxv
    by_cases h3 : cs.length ≤ 8
    · have h3' : ¬ 8 < (cs.length : Int) := by omega
      have l0 := lclauses_lc (v := .tup cs) ht hl
      by_cases ha : cs.all isClauseB = true
      · have e0 : cs.filter (fun d => !isClauseB d) = [] := List.filter_eq_nil_iff.mpr fun d hd => by
          rw [List.all_eq_true.mp ha d hd]; decide
        rw [e0] at l0
        simp [isRuleB, hxt, h3, h3', l0, ha, -List.all_eq_true]
      · have e0 : (cs.filter fun d => !isClauseB d).length ≠ 0 := fun z => ha (List.all_eq_true.mpr fun d hd => by
          have := List.filter_eq_nil_iff.mp (List.eq_nil_of_length_eq_zero z) d hd
          simpa using this)
        have ha' : cs.all isClauseB = false := by simpa using ha
        simp [isRuleB, hxt, h3, h3', l0, eq_ones, e0, ha', -List.all_eq_false]
    · have h3' : 8 < (cs.length : Int) := by omega
      simp [isRuleB, hxt, h3, h3']
  | lst x ds =>
    simp only [D.xf, Bool.and_eq_true, Bool.not_eq_true'] at hxv
    simp [isRuleB, hxv.1, hxv.2]
  | dct _ _ _ => simp [okd] at h
  | dcn _ _ _ => simp [okd] at h
  | opq _ => simp [okd] at h
  | scr _ => simp [okd] at h
  | _ => simp [isRuleB]
theorem l_same_ok (a c : Bool) : m_l_same 1 [.bl a, .bl c] = some (.bl (a == c), [some (.bl a), some (.bl c)]) := by
  cases a <;> cases c <;> kernel_rfl
theorem Bag.xf {m : Nat} {d : D} (h : Bag m d) : d.xf = false := by
  obtain ⟨x, y, z, rfl, _⟩ := h; rfl
theorem Bag.mono {m k : Nat} {d : D} (h : Bag m d) (l : m ≤ k) : Bag k d := by
  obtain ⟨x, y, z, rfl, h1, h2, h3, h4⟩ := h
  exact ⟨x, y, z, rfl, h1, h2, h3, by omega⟩
theorem l_test_ok {m : Nat} {d : D} (h : Bag m d) (hm : m < 3000000000) : ∃ s d', s ∈ W ∧ Bag (m + 2) d' ∧ m_l_test [d] = some (.str s, [some d']) := by
  obtain ⟨r1, d1, b1, p1, q1, e1⟩ := take_ok (n := 3) h (by omega) (by omega) (by omega)
  obtain ⟨r2, d2, b2, p2, q2, e2⟩ := take_ok (n := 12) b1 (by omega) (by omega) (by omega)
  obtain ⟨x1, m1, i1⟩ := ix_lst (x := true) (ds := [.str "", .str "", .str "no "]) p1 q1
  obtain ⟨x2, m2, i2⟩ := ix_lst (x := true) (ds := W0.map .str) p2 q2
  have e0 : m_l_tests [] = some (.lst true (W0.map .str), []) := by kernel_rfl
  have key : ∃ s ∈ W, dAdd x1 x2 = some (.str s) := by
    simp only [List.mem_map] at m2
    obtain ⟨w, hw, rfl⟩ := m2
    have : ∀ w ∈ W0, (∃ s ∈ W, dAdd (.str "") (.str w) = some (.str s)) ∧ ∃ s ∈ W, dAdd (.str "no ") (.str w) = some (.str s) := by
      intro w hw
      simp only [W0, List.mem_cons, List.not_mem_nil, or_false] at hw
      rcases hw with rfl | rfl | rfl | rfl | rfl | rfl | rfl | rfl | rfl | rfl | rfl | rfl <;> exact ⟨⟨_, by decide +kernel, rfl⟩, ⟨_, by decide +kernel, rfl⟩⟩
    simp only [List.mem_cons, List.not_mem_nil, or_false] at m1
    rcases m1 with rfl | rfl | rfl
    · exact (this w hw).1
    · exact (this w hw).1
    · exact (this w hw).2
  obtain ⟨s, hs, ea⟩ := key
  refine ⟨s, d2, hs, b2, fnD_rt (g := [some d2]) rfl rfl ?_⟩
  unfold b_l_test
  simp [h.xf, b1.xf, b2.xf, e1, e2, e0, i1, i2, ea, -dIx]
/-- a clause of the law's -/
def Cl0 (d : D) : Prop := ∃ ts : List D, ∃ s, d = .tup [.tup ts, .str s] ∧ ts.length ≤ 3 ∧ (∀ t ∈ ts, ∃ x ∈ W, t = .str x) ∧ s ∈ DE
theorem noss_strs {ts : List D} (h : ∀ t ∈ ts, ∃ x ∈ W, t = .str x) : D.noss ts = true ∧ D.xfs ts = true ∧ D.shs ts = ts := by
  induction ts with
  | nil => exact ⟨rfl, rfl, rfl⟩
  | cons t ts ih =>
    obtain ⟨x, _, rfl⟩ := h t List.mem_cons_self
    obtain ⟨a, b, c⟩ := ih fun t ht => h t (List.mem_cons_of_mem _ ht)
    simp [a, b, c]
theorem ltest_lc {m : Nat} {d : D} (h : Bag m d) (hm : m < 2000000000) (k : Nat) (hk : k ≤ 8) : ∃ ts g', ts.length = k ∧ (∀ t ∈ ts, ∃ x ∈ W, t = .str x) ∧ (∃ b, g' = [some b, none, none] ∧ Bag (m + 2 * k) b) ∧
    lcD (gNs ⟨false, []⟩ 2) xYes (xCallM m_l_test 0 0 [true] (xMM xNil)) [2] ((List.range k).map fun (i : Nat) => D.int i) [] [some d, none, none] = some (ts, g') := by
  have step : ∀ (i : Nat) (t : D) (acc : List D) (g : G), ((List.range k).map fun (i : Nat) => D.int i)[i]? = some t → (∃ b, g = [some b, none, none] ∧ Bag (m + 2 * i) b) → acc.length < sizeLine → ∃ y g', (∃ x ∈ W, y = .str x) ∧ (∃ b, g' = [some b, none, none] ∧ Bag (m + 2 * (i + 1)) b) ∧ lcD (gNs ⟨false, []⟩ 2) xYes (xCallM m_l_test 0 0 [true] (xMM xNil)) [2] [t] acc g = some (acc ++ [y], g') := by
    rintro i t acc g hi ⟨b, rfl, hb⟩ ha
    have hik : i < k := by
      have := (List.getElem?_eq_some_iff.mp  hi).1
      simpa using this
    have ht : t = .int i := by
      rw [List.getElem?_map, List.getElem?_range hik] at hi
      exact (Option.some.inj hi).symm
    subst ht
    obtain ⟨s, d2, hs, b2, e2⟩ := l_test_ok hb (by omega)
    exact ⟨.str s, _, ⟨s, hs, rfl⟩, ⟨d2, rfl, b2.mono (by omega)⟩, by simp [hb.xf, b2.xf, e2, ha]⟩
  obtain ⟨ts, g', hl, hp, hi, hlc⟩ := lc_inv (fun t => ∃ x ∈ W, t = .str x) _ [] (fun i g => ∃ b, g = [some b, none, none] ∧ Bag (m + 2 * i) b) [some d, none, none] step ⟨d, rfl, h⟩ (by simp; exact sl20 (by omega))
  rw [List.length_map, List.length_range] at hl hi
  exact ⟨ts, g', hl, hp, hi, by simpa using hlc⟩
theorem l_clause_ok {m : Nat} {d : D} (h : Bag m d) (hm : m < 1000000000) : ∃ c d', Cl0 c ∧ Bag (m + 8) d' ∧ m_l_clause [d] = some (c, [some d']) := by
  obtain ⟨r1, d1, b1, p1, q1, e1⟩ := take_ok (n := 6) h (by omega) (by omega) (by omega)
  obtain ⟨x1, m1, i1⟩ := ix_lst (x := true) (ds := [.int 0, .int 1, .int 1, .int 2, .int 2, .int 3]) p1 q1
  obtain ⟨k, hk, rfl⟩ : ∃ k : Nat, k ≤ 3 ∧ x1 = .int k := by
    simp only [List.mem_cons, List.not_mem_nil, or_false] at m1
    rcases m1 with rfl | rfl | rfl | rfl | rfl | rfl
    · exact ⟨0, by omega, rfl⟩
    · exact ⟨1, by omega, rfl⟩
    · exact ⟨1, by omega, rfl⟩
    · exact ⟨2, by omega, rfl⟩
    · exact ⟨2, by omega, rfl⟩
    · exact ⟨3, by omega, rfl⟩
  obtain ⟨ts, g', hl, hp, hi, hlc⟩ := ltest_lc b1 (by omega) k (by omega)
  obtain ⟨b2, rfl, b2'⟩ := hi
  obtain ⟨r2, d3, b3, p3, q3, e3⟩ := take_ok (n := 6) b2' (by omega) (by omega) (by omega)
  obtain ⟨x3, m3, i3⟩ := ix_lst (x := true) (ds := [.str "clear", .str "join", .str "join", .str "leave", .str "take", .str "take"]) p3 q3
  obtain ⟨n1, n2, n3⟩ := noss_strs hp
  have hs : ∃ s ∈ DE, x3 = .str s := by
    simp only [List.mem_cons, List.not_mem_nil, or_false] at m3
    rcases m3 with rfl | rfl | rfl | rfl | rfl | rfl <;> exact ⟨_, by decide +kernel, rfl⟩
  obtain ⟨s, hs, rfl⟩ := hs
  have hk1 : (-4611686018427387904 : Int) ≤ k := by omega
  have hk2 : (k : Int) < 4611686018427387904 := by omega
  refine ⟨.tup [.tup ts, .str s], d3, ⟨ts, s, rfl, by omega, hp, hs⟩, b3.mono (by omega), fnD_rt (g := [some d3, some (.tup ts), none]) rfl rfl ?_⟩
  unfold b_l_clause
  simp [h.xf, b1.xf, b2'.xf, b3.xf, e1, i1, hk1, hk2, hlc, n1, n2, n3, e3, i3, -dIx]
/-- a plain thing: no lists, no dicts -/
structure Pl (d : D) : Prop where
  nos : d.nos = true
  xf : d.xf = true
  sh : d.sh = d
theorem Pl.tup {ds : List D} (h : ∀ d ∈ ds, Pl d) : Pl (.tup ds) := ⟨by simpa using noss_mem fun d hd => (h d hd).nos, by simpa using xfs_mem fun d hd => (h d hd).xf, by simpa using shs_mem fun d hd => (h d hd).sh⟩
theorem Cl0.pl {d : D} (h : Cl0 d) : Pl d := by
  obtain ⟨ts, s, rfl, _, h, _⟩ := h
  refine .tup fun d hd => ?_
  simp only [List.mem_cons, List.not_mem_nil, or_false] at hd
  rcases hd with rfl | rfl
  · exact .tup fun t ht => by
      obtain ⟨x, _, rfl⟩ := h t ht
      exact ⟨rfl, rfl, rfl⟩
  · exact ⟨rfl, rfl, rfl⟩
def Rl (n : Nat) (d : D) : Prop := ∃ cs, d = .tup cs ∧ cs.length ≤ n ∧ ∀ c ∈ cs, Cl0 c
theorem Rl.pl {n : Nat} {d : D} (h : Rl n d) : Pl d := by
  obtain ⟨cs, rfl, _, h⟩ := h
  exact .tup fun c hc => (h c hc).pl
def cl0B : D → Bool
  | .tup [.tup ts, .str s] => decide (ts.length ≤ 3) && ts.all (fun t => match t with | .str x => W.contains x | _ => false) && DE.contains s
  | _ => false
theorem cl0_of {d : D} (h : cl0B d = true) : Cl0 d := by
  unfold cl0B at h
  split at h
  · rename_i ts s
    simp only [Bool.and_eq_true, decide_eq_true_eq, List.all_eq_true] at h
    refine ⟨ts, s, rfl, h.1.1, fun t ht => ?_, List.contains_iff_mem.mp h.2⟩
    have := h.1.2 t ht
    split at this
    · exact ⟨_, List.contains_iff_mem.mp this, rfl⟩
    · cases this
  · cases h
def rlB (n : Nat) : D → Bool
  | .tup cs => decide (cs.length ≤ n) && cs.all cl0B
  | _ => false
theorem rl_of {n : Nat} {d : D} (h : rlB n d = true) : Rl n d := by
  unfold rlB at h
  split at h
  · simp only [Bool.and_eq_true, decide_eq_true_eq, List.all_eq_true] at h
    exact ⟨_, rfl, h.1, fun c hc => cl0_of (h.2 c hc)⟩
  · cases h
def KL : List D := [.tup [.tup [.tup [.str "push"], .str "take"], .tup [.tup [.str "pull"], .str "take"], .tup [.tup [.str "yes"], .str "clear"]], .tup [.tup [.tup [], .str "join"]], .tup [],
  .tup [.tup [.tup [.str "push", .str "no elder"], .str "join"], .tup [.tup [.str "pull", .str "no sent"], .str "join"], .tup [.tup [.str "yes", .str "same"], .str "clear"], .tup [.tup [.str "no answer", .str "free"], .str "take"]],
  .tup [.tup [.tup [.str "send"], .str "clear"], .tup [.tup [.str "no answer", .str "free"], .str "take"], .tup [.tup [.str "push"], .str "take"]]]
theorem l_known_ok {m : Nat} {d : D} (h : Bag m d) (hm : m < 1000000000) : ∃ c d', Rl 4 c ∧ Bag (m + 1) d' ∧ m_l_known [d] = some (c, [some d']) := by
  obtain ⟨r, d1, b1, p1, q1, e1⟩ := take_ok (n := 5) h (by omega) (by omega) (by omega)
  obtain ⟨x, mx, ix⟩ := ix_lst (x := true) (ds := KL) p1 q1
  have hx : Rl 4 x := rl_of (List.all_eq_true.mp (show KL.all (rlB 4) = true by kernel_rfl) x mx)
  refine ⟨x, d1, hx, b1, fnD_rt (g := [some d1, none]) rfl rfl ?_⟩
  unfold b_l_known
  unfold KL at ix
  simp [h.xf, b1.xf, e1, ix, hx.pl.nos, -dIx]
theorem lclause_lc {m : Nat} {d : D} {o1 o2 : Option D} (h : Bag m d) (hm : m < 500000000) (k : Nat) (hk : k ≤ 9) (e5 : D) (e6 : D) : ∃ ts g', ts.length = k ∧ (∀ t ∈ ts, Cl0 t) ∧ (∃ b, g' = [some b, some e5, some e6, none, o1, o2] ∧ Bag (m + 8 * k) b) ∧
    lcD (gNs ⟨false, []⟩ 3) xYes (xCallM m_l_clause 0 0 [true] (xMM (xNil))) [3] ((List.range k).map fun (i : Nat) => D.int i) [] [some d, some e5, some e6, none, o1, o2] = some (ts, g') := by
  have step : ∀ (i : Nat) (t : D) (acc : List D) (g : G), ((List.range k).map fun (i : Nat) => D.int i)[i]? = some t → (∃ b, g = [some b, some e5, some e6, none, o1, o2] ∧ Bag (m + 8 * i) b) → acc.length < sizeLine → ∃ y g', Cl0 y ∧ (∃ b, g' = [some b, some e5, some e6, none, o1, o2] ∧ Bag (m + 8 * (i + 1)) b) ∧ lcD (gNs ⟨false, []⟩ 3) xYes (xCallM m_l_clause 0 0 [true] (xMM (xNil))) [3] [t] acc g = some (acc ++ [y], g') := by
    rintro i t acc g hi ⟨b, rfl, hb⟩ ha
    have hik : i < k := by
      have := (List.getElem?_eq_some_iff.mp  hi).1
      simpa using this
    have ht : t = .int i := by
      rw [List.getElem?_map, List.getElem?_range hik] at hi
      exact (Option.some.inj hi).symm
    subst ht
    obtain ⟨s, d2, hs, b2, e2⟩ := l_clause_ok hb (by omega)
    exact ⟨s, _, hs, ⟨d2, rfl, b2.mono (by omega)⟩, by simp [hb.xf, b2.xf, e2, ha]⟩
  obtain ⟨ts, g', hl, hp, hi, hlc⟩ := lc_inv Cl0 _ [] (fun i g => ∃ b, g = [some b, some e5, some e6, none, o1, o2] ∧ Bag (m + 8 * i) b) [some d, some e5, some e6, none, o1, o2] step ⟨d, rfl, h⟩ (by simp; exact sl20 (by omega))
  rw [List.length_map, List.length_range] at hl hi
  exact ⟨ts, g', hl, hp, hi, by simpa using hlc⟩
theorem l_rule_ok {m : Nat} {d : D} (h : Bag m d) (hm : m < 100000000) : ∃ c d', Rl 8 c ∧ Bag (m + 100) d' ∧ m_l_rule [d, .int 8] = some (c, [some d', some (.int 8)]) := by
  obtain ⟨way, d1, b1, p1, q1, e1⟩ := take_ok (n := 4) h (by omega) (by omega) (by omega)
  by_cases w0 : way = 0
  · subst w0
    obtain ⟨k, d2, b2, p2, q2, e2⟩ := take_ok (n := 9) b1 (by omega) (by omega) (by omega)
    obtain ⟨k, rfl⟩ := Int.eq_ofNat_of_zero_le p2
    obtain ⟨ts, g', hl, hp, ⟨b3, rfl, hb3⟩, hlc⟩ := lclause_lc (o1 := none) (o2 := none) b2 (by omega) k (by omega) (.int 8) (.int 0)
    have hk1 : (-4611686018427387904 : Int) ≤ k := by omega
    have hk2 : (k : Int) < 4611686018427387904 := by omega
    refine ⟨.tup ts, b3, ⟨ts, rfl, by omega, hp⟩, hb3.mono (by omega), fnD_rt (g := [some b3, some (.int 8), some (.int 0), none, none, none]) rfl rfl ?_⟩
    unfold b_l_rule
    simp [h.xf, b1.xf, b2.xf, e1, e2, hk1, hk2, hlc]
  · have w0' : (way == 0) = false := by rw [beq_eq_false_iff_ne]; exact w0
    obtain ⟨kn, d2, hk, b2, e2⟩ := l_known_ok b1 (by omega)
    have pk := hk.pl
    obtain ⟨fs, rfl, fl, fc⟩ := hk
    have xk : D.xfs fs = true := by simpa using pk.xf
    have sk : D.shs fs = fs := by simpa using pk.sh
    obtain ⟨at', d3, b3, p3, q3, e3⟩ := take_ok (n := (fs.length : Int) + 1) b2 (by omega) (by omega) (by omega)
    obtain ⟨c, d4, hc, b4, e4⟩ := l_clause_ok b3 (by omega)
    have cm : ∀ lo hi, ∀ x ∈ cutL fs lo hi, Cl0 x := fun lo hi x hx => fc x (cutL_sub x hx)
    have cx : ∀ lo hi, D.xfs (cutL fs lo hi) = true := fun lo hi => xfs_mem fun x hx => (cm lo hi x hx).pl.xf
    have cs : ∀ lo hi, D.shs (cutL fs lo hi) = cutL fs lo hi := fun lo hi => shs_mem fun x hx => (cm lo hi x hx).pl.sh
    have cn : ∀ lo hi, D.noss (cutL fs lo hi) = true := fun lo hi => noss_mem fun x hx => (cm lo hi x hx).pl.nos
    have cl : ∀ lo hi, (cutL fs lo hi).length ≤ 4 := fun lo hi => Nat.le_trans cutL_len fl
    -- what is cut at the end
    have fin : ∀ xs : List D, (∀ x ∈ xs, Cl0 x) → (D.tup (cutL xs none (some 8))).nos = true ∧ Rl 8 (.tup (cutL xs none (some 8))) := fun xs hx =>
      have h8 : Rl 8 (.tup (cutL xs none (some 8))) := ⟨_, rfl, cutL_most (k := 8), fun x h => hx x (cutL_sub x h)⟩
      ⟨h8.pl.nos, h8⟩
    by_cases w1 : way = 1
    · subst w1
      have hall : ∀ x ∈ cutL fs none (some at') ++ c :: cutL fs (some at') none, Cl0 x := fun x hx => by
        rcases List.mem_append.mp hx with hx |  hx
        · exact cm _ _ x hx
        · rcases List.mem_cons.mp hx with rfl | hx
          · exact hc
          · exact cm _ _ x hx
      obtain ⟨f1, f2⟩ := fin _ hall
      have f1' : D.noss (cutL (cutL fs none (some at') ++ c :: cutL fs (some at') none) none (some 8)) = true := by simpa using f1
      have hs : D.shs (cutL fs none (some at') ++ c :: cutL fs (some at') none) = cutL fs none (some at') ++ c :: cutL fs (some at') none := shs_mem fun x hx => (hall x hx).pl.sh
      have hxf : D.xfs (cutL fs none (some at') ++ c :: cutL fs (some at') none) = true := xfs_mem fun x hx => (hall x hx).pl.xf
      have l1 : (cutL fs none (some at')).length + 1 ≤ sizeLine := sl20 (by have := cl none (some at'); omega)
      have l2 : (cutL fs none (some at')).length + 1 + (cutL fs (some at') none).length ≤ sizeLine := sl20 (by have := cl none (some at'); have := cl (some at') none; omega)
      refine ⟨_, d4, f2, b4.mono (by omega), fnD_rt (g := [some d4, some (.int 8), some (.int 1), none, some (.tup (cutL fs none (some at') ++ c :: cutL fs (some at') none)), some (.int at')]) rfl rfl ?_⟩
      unfold b_l_rule
      simp [h.xf, b1.xf, b2.xf, b3.xf, b4.xf, e1, e2, e3, e4, xk, sk, cx, cs, cn, hc.pl.xf, hc.pl.sh, hc.pl.nos, dAdd, l1, l2, hs, hxf, f1']
    · have w1' : (way == 1) = false := by rw [beq_eq_false_iff_ne]; exact w1
      by_cases w2 : way = 2
      · subst w2
        obtain ⟨r, d5, b5, p5, q5, e5⟩ := take_ok (n := 2) b4 (by omega) (by omega) (by omega)
        have r1000 : r ≤ 1000 := by omega
        have rm : ∀ x ∈ (List.replicate r.toNat [c]).flatten, x = c := fun x hx => by
          obtain ⟨l, hl, hx⟩ := List.mem_flatten.mp  hx
          rw [(List.mem_replicate.mp hl).2] at hx
          simpa using hx
        have rl : (List.replicate r.toNat [c]).flatten.length ≤ 1 := by
          rw [PyProof.Rows.lm_len_rep_flat, List.length_singleton]; omega
        have hall : ∀ x ∈ cutL fs none (some at') ++ ((List.replicate r.toNat [c]).flatten ++ cutL fs (some (at' + 1)) none), Cl0 x := fun x hx => by
          rcases List.mem_append.mp hx with hx |  hx
          · exact cm _ _ x hx
          · rcases List.mem_append.mp hx with hx |  hx
            · rw [rm x hx]; exact hc
            · exact cm _ _ x hx
        have rs : D.shs (List.replicate r.toNat [c]).flatten = (List.replicate r.toNat [c]).flatten := shs_mem fun x hx => by rw [rm x hx]; exact hc.pl.sh
        generalize hr : (List.replicate r.toNat [c]).flatten = rc at hall rl rs
        obtain ⟨f1, f2⟩ := fin _ hall
        have f1' : D.noss (cutL (cutL fs none (some at') ++ (rc ++ cutL fs (some (at' + 1)) none)) none (some 8)) = true := by simpa using f1
        have hs : D.shs (cutL fs none (some at') ++ (rc ++ cutL fs (some (at' + 1)) none)) = cutL fs none (some at') ++ (rc ++ cutL fs (some (at' + 1)) none) := shs_mem fun x hx => (hall x hx).pl.sh
        have hxf : D.xfs (cutL fs none (some at') ++ (rc ++ cutL fs (some (at' + 1)) none)) = true := xfs_mem fun x hx => (hall x hx).pl.xf
        have l1 : (cutL fs none (some at')).length + rc.length ≤ sizeLine := sl20 (by have := cl none (some at'); omega)
        have l2 : (cutL fs none (some at')).length + rc.length + (cutL fs (some (at' + 1)) none).length ≤ sizeLine := sl20 (by have := cl none (some at'); have := cl (some (at' + 1)) none; omega)
        refine ⟨_, d5, f2, b5.mono (by omega), fnD_rt (g := [some d5, some (.int 8), some (.int 2), none, some (.tup (cutL fs none (some at') ++ (rc ++ cutL fs (some (at' + 1)) none))), some (.int at')]) rfl rfl ?_⟩
        unfold b_l_rule
        simp [h.xf, b1.xf, b2.xf, b3.xf, b4.xf, b5.xf, e1, e2, e3, e4, e5, xk, sk, cx, cs, cn, hc.pl.xf, hc.pl.sh, hc.pl.nos, dAdd, l1, l2, hs, hxf, f1', p5, r1000, hr]
      · have w2' : (way == 2) = false := by rw [beq_eq_false_iff_ne]; exact w2
        obtain ⟨f1, f2⟩ := fin fs fc
        have f1' : D.noss (cutL fs none (some 8)) = true := by simpa using f1
        refine ⟨_, d3, f2, b3.mono (by omega), fnD_rt (g := [some d3, some (.int 8), some (.int way), none, some (.tup fs), some (.int at')]) rfl rfl ?_⟩
        unfold b_l_rule
        simp [h.xf, b1.xf, b2.xf, b3.xf, e1, e2, e3, xk, sk, f1', w0', w1', w2', w0, w1, w2]
def okv : Nat → D → Bool
  | 0, _ => false
  | n + 1, d => match d with
    | .non => true
    | .bl _ => true
    | .int _ => true
    | .str s => AS.contains s
    | .tup ds => decide (n ≠ 0) && decide (ds.length ≤ 15) && ds.all (okv n)
    | _ => false
theorem okv_pl : ∀ (n : Nat) (d : D), okv n d = true → Pl d
  | 0, _, h => by cases h
  | n + 1, d, h => by
    cases d with
    | tup ds =>
      have h : (n ≠ 0 ∧ ds.length ≤ 15) ∧ ∀ x ∈ ds, okv n x = true := by simpa [okv] using h
      exact .tup fun x hx => okv_pl n x (h.2 x hx)
    | non => exact ⟨rfl, rfl, rfl⟩
    | bl _ => exact ⟨rfl, rfl, rfl⟩
    | int _ => exact ⟨rfl, rfl, rfl⟩
    | str _ => exact ⟨rfl, rfl, rfl⟩
    | _ => simp [okv] at h
theorem okds_of {n : Nat} {q : Bool → Bool} {ds : List D} (h : ∀ d ∈ ds, okd n q d = true) : okds n q ds = true := by
  induction ds with
  | nil => rfl
  | cons d ds ih => rw [okds, h d List.mem_cons_self, ih fun d hd => h d (List.mem_cons_of_mem _ hd)]; rfl
theorem okv_okd {q : Bool → Bool} : ∀ (n : Nat) (d : D), okv n d = true → okd 60 q d = true
  | 0, _, h => by cases h
  | n + 1, d, h => by
    cases d with
    | tup ds =>
      have h : (n ≠ 0 ∧ ds.length ≤ 15) ∧ ∀ x ∈ ds, okv n x = true := by simpa [okv] using h
      rw [okd, okds_of fun x hx => okv_okd n x (h.2 x hx)]
      simp; omega
    | non => rfl
    | bl _ => rfl
    | int _ => rfl
    | str _ => simpa [okv, okd] using h
    | _ => simp [okv] at h
mutual
theorem ex_sh : ∀ d : D, okd 60 id d = true → d.nos = true ∧ okd 60 shd d.sh = true
  | .non, _ => ⟨rfl, rfl⟩
  | .bl _, _ => ⟨rfl, rfl⟩
  | .int _, _ => ⟨rfl, rfl⟩
  | .str _, h => ⟨rfl, by simpa [okd] using h⟩
  | .tup ds, h => by
    have h : okds 60 id ds = true ∧ ds.length ≤ 60 := by simpa [okd] using h
    obtain ⟨a, b⟩ := exs_sh ds h.1
    exact ⟨by simpa using a, by simp [okd, b, D.shs_length, h.2]⟩
  | .lst x ds, h => by
    have h : (x = true ∧ okds 60 id ds = true) ∧ ds.length ≤ 60 := by simpa [okd] using h
    obtain ⟨a, b⟩ := exs_sh ds h.1.2
    exact ⟨by simp [a, h.1.1], by simp [okd, b, D.shs_length, h.2]⟩
  | .dct _ _ _, h => by simp [okd] at h
  | .dcn _ _ _, h => by simp [okd] at h
  | .opq _, h => by simp [okd] at h
  | .scr _, h => by simp [okd] at h
theorem exs_sh : ∀ ds : List D, okds 60 id ds = true → D.noss ds = true ∧ okds 60 shd (D.shs ds) = true
  | [], _ => ⟨rfl, rfl⟩
  | d :: ds, h => by
    have h : okd 60 id d = true ∧ okds 60 id ds = true := by simpa [okds] using h
    obtain ⟨a, b⟩ := ex_sh d h.1
    obtain ⟨c, e⟩ := exs_sh ds h.2
    exact ⟨by simp [a, c], by simp [okds, b, e]⟩
end
def OL : List D := [.non, .bl true, .int 0, .int 1, .int 100000000000000000000, .str "", .str "no", .str "answer", .str "no answer", .str "no no answer", .str "noxpull", .str "no  pull",
  .str "Pull", .str "pull", .str "take", .str "no take", .str "no no pull", .tup [], .lst true [], .tup [.str "same"], .tup [.tup [], .str "take"], .tup [.int 1, .int 2], .str "join"]
theorem l_pick_ok {m : Nat} {d v : D} (rc : List D → Option (D × G)) (h : Bag m d) (hm : m < 600000000) : ∃ x d', okd 60 id x = true ∧ Bag (m + 1) d' ∧ b_l_odd_2 rc [some d, some v, none, none, none] = some (.rt x [some d', some v, none, none, none]) := by
  obtain ⟨r, d2, b2, p2, q2, e2⟩ := take_ok (n := 23) h (by omega) (by omega) (by omega)
  obtain ⟨x, mx, ix⟩ := ix_lst (x := true) (ds := OL) p2 q2
  have ox : okd 60 id x = true := List.all_eq_true.mp (show OL.all (okd 60 id) = true by kernel_rfl) x mx
  refine ⟨x, d2, ox, b2, ?_⟩
  unfold OL at ix
  simp [h.xf, b2.xf, e2, ix, (ex_sh x ox).1, -dIx]
theorem okd_tup_of {n : Nat} {q : Bool → Bool} {ds : List D} (h : ∀ d ∈ ds, okd n q d = true) (hl : ds.length ≤ n) : okd n q (.tup ds) = true := by
  rw [okd, okds_of h]
  simpa using hl
theorem l_odd_ok : ∀ (n : Nat) {m : Nat} {d v : D}, Bag m d → m + 10 * n < 500000000 → okv n v = true → ∃ x d', okd 60 id x = true ∧ Bag (m + 4 * n) d' ∧ m_l_odd n [d, v] = some (x, [some d', some v])
  | 0, _, _, _, _, _, h => by cases h
  | n + 1, m, d, v, h, hm, hv => by
    have pv := okv_pl _ v hv
    by_cases ht : ∃ ds, v = .tup ds
    · obtain ⟨ds, rfl⟩ := ht
      obtain ⟨⟨hn, hl⟩, hv⟩ : (n ≠ 0 ∧ ds.length ≤ 15) ∧ ∀ x ∈ ds, okv n x = true := by simpa [okv] using hv
      have xk : D.xfs ds = true := by simpa using pv.xf
      have sk : D.shs ds = ds := by simpa using pv.sh
      obtain ⟨r, d1, b1, p1, q1, e1⟩ := take_ok (n := 4) h (by omega) (by omega) (by omega)
      by_cases r0 : r = 0
      · subst r0
        obtain ⟨x, d2, ox, b2, e2⟩ := l_pick_ok (v := .tup ds) (m_l_odd n) b1 (by omega)
        refine ⟨x, d2, ox, b2.mono (by omega), fnD_rt (g := [some d2, some (.tup ds), none, none, none]) rfl rfl ?_⟩
        show sSeq (sIf _ (b_l_odd_2 _) sNil) _ _ = _
        refine sSeq_rt ?_
        simp [h.xf, b1.xf, e1, e2, xk, -b_l_odd_2]
      · have r0' : (r == 0) = false := by rw [beq_eq_false_iff_ne]; exact r0
        obtain ⟨at', d2, b2, p2, q2, e2⟩ := take_ok (n := (ds.length : Int) + 1) b1 (by omega) (by omega) (by omega)
        obtain ⟨way, d3, b3, p3, q3, e3⟩ := take_ok (n := 5) b2 (by omega) (by omega) (by omega)
        have s1 : b_l_odd (m_l_odd n) [some d, some (.tup ds), none, none, none] = b_l_odd_6 (m_l_odd n) [some d3, some (.tup ds), none, some (.int at'), some (.int way)] := by
          simp [h.xf, b1.xf, b2.xf, b3.xf, e1, e2, e3, xk, sk, r0', r0, -b_l_odd_2, -b_l_odd_6]
        have hel : ∀ lo hi, ∀ x ∈ cutL ds lo hi, okd 60 id x = true := fun lo hi x hx => okv_okd n x (hv x (cutL_sub x hx))
        have cl : ∀ lo hi, (cutL ds lo hi).length ≤ 15 := fun lo hi => Nat.le_trans cutL_len hl
        have cn : ∀ lo hi, D.noss (cutL ds lo hi) = true := fun lo hi => noss_mem fun x hx => (ex_sh x (hel lo hi x hx)).1
        have nn : okv n .non = true := by
          cases n with
          | zero => exact absurd rfl hn
          | succ n => rfl
        -- what comes out in the place of something
        have mid : ∀ lo hi x, okd 60 id x = true → okd 60 id (.tup (cutL ds none lo ++ x :: cutL ds hi none)) = true ∧ (cutL ds none lo).length + 1 ≤ sizeLine ∧ (cutL ds none lo).length + 1 + (cutL ds hi none).length ≤ sizeLine ∧ x.nos = true ∧ D.noss (cutL ds none lo ++ x :: cutL ds hi none) = true := fun lo hi x hx => by
          have a := cl none lo
          have c := cl hi none
          have al : ∀ y ∈ cutL ds none lo ++ x :: cutL ds hi none, okd 60 id y = true := fun y hy => by
            rcases List.mem_append.mp hy with hy |  hy
            · exact hel _ _ y hy
            · rcases List.mem_cons.mp hy with rfl |  hy
              · exact hx
              · exact hel _ _ y hy
          exact ⟨okd_tup_of al (by simp only [List.length_append, List.length_cons]; omega), sl20 (by omega), sl20 (by omega), (ex_sh x hx).1, noss_mem fun y hy => (ex_sh y (al y hy)).1⟩
        suffices hs : ∃ x d', okd 60 id x = true ∧ Bag (m + 4 * (n + 1)) d' ∧ b_l_odd_6 (m_l_odd n) [some d3, some (.tup ds), none, some (.int at'), some (.int way)] = some (.rt x [some d', some (.tup ds), none, some (.int at'), some (.int way)]) by
          obtain ⟨x, d', h1, h2, h3⟩ := hs
          exact ⟨x, d', h1, h2, fnD_rt (g := [some d', some (.tup ds), none, some (.int at'), some (.int way)]) rfl rfl (by rw [← h3, ← s1]; rfl)⟩
        by_cases w0 : way = 0
        · subst w0
          have hn' : D.noss ds = true := by simpa using pv.nos
          refine ⟨.lst true ds, d3, ?_, b3.mono (by omega), by simp [xk, hn']⟩
          rw [okd, okds_of fun x hx => okv_okd n x (hv x hx)]
          simp; omega
        have w0' : (way == 0) = false := by rw [beq_eq_false_iff_ne]; exact w0
        by_cases w1 : way = 1 ∨ at' = ds.length
        · obtain ⟨x, d4, ox, b4, e4⟩ := l_odd_ok n b3 (by omega) nn
          obtain ⟨k1, k2, k3, k4, k5⟩ := mid (some at') (some at') x ox
          refine ⟨_, d4, k1, b4.mono (by omega), ?_⟩
          rcases w1 with w1 | w1
          · subst w1
            simp [xk, b3.xf, b4.xf, e4, k2, k3, k4, k5, cn]
          · subst w1
            by_cases w1 : way = 1
            · subst w1
              simp [xk, b3.xf, b4.xf, e4, k2, k3, k4, k5, cn]
            · have w1' : (way == 1) = false := by rw [beq_eq_false_iff_ne]; exact w1
              simp [w0', w0, w1', w1, xk, b3.xf, b4.xf, e4, k2, k3, k4, k5, cn]
        have w1' : (way == 1) = false := by rw [beq_eq_false_iff_ne]; exact fun e => w1 (.inl e)
        have w1'' : (at' == (ds.length : Int)) = false := by rw [beq_eq_false_iff_ne]; exact fun e => w1 (.inr e)
        have w1a : ¬ way = 1 := fun e => w1 (.inl e)
        have w1b : ¬ at' = ds.length := fun e => w1 (.inr e)
        by_cases w2 : way = 2
        · subst w2
          have a1 := cl none (some at')
          have a2 := cl (some at') (some (at' + 1))
          have a3 := cl (some at') none
          have al : ∀ y ∈ cutL ds none (some at') ++ (cutL ds (some at') (some (at' + 1)) ++ cutL ds (some at') none), okd 60 id y = true := fun y hy => by
            rcases List.mem_append.mp hy with hy |  hy
            · exact hel _ _ y hy
            · rcases List.mem_append.mp hy with hy | hy
              · exact hel _ _ y hy
              · exact hel _ _ y hy
          have l1 : (cutL ds none (some at')).length + (cutL ds (some at') (some (at' + 1))).length ≤ sizeLine := sl20 (by omega)
          have l2 : (cutL ds none (some at')).length + (cutL ds (some at') (some (at' + 1))).length + (cutL ds (some at') none).length ≤ sizeLine := sl20 (by omega)
          have l3 : D.noss (cutL ds none (some at') ++ (cutL ds (some at') (some (at' + 1)) ++ cutL ds (some at') none)) = true := noss_mem fun y hy => (ex_sh y (al y hy)).1
          refine ⟨_, d3, okd_tup_of al (by simp only [List.length_append]; omega), b3.mono (by omega), ?_⟩
          simp [w1'', w1b, xk, l1, l2, l3]
        have w2' : (way == 2) = false := by rw [beq_eq_false_iff_ne]; exact w2
        by_cases w3 : way = 3
        · subst w3
          have a1 := cl none (some at')
          have a3 := cl (some (at' + 1)) none
          have al : ∀ y ∈ cutL ds none (some at') ++ cutL ds (some (at' + 1)) none, okd 60 id y = true := fun y hy => by
            rcases List.mem_append.mp hy with hy |  hy
            · exact hel _ _ y hy
            · exact hel _ _ y hy
          have l1 : (cutL ds none (some at')).length + (cutL ds (some (at' + 1)) none).length ≤ sizeLine := sl20 (by omega)
          have l3 : D.noss (cutL ds none (some at') ++ cutL ds (some (at' + 1)) none) = true := noss_mem fun y hy => (ex_sh y (al y hy)).1
          refine ⟨_, d3, okd_tup_of al (by simp only [List.length_append]; omega), b3.mono (by omega), ?_⟩
          simp [w1'', w1b, xk, l1, l3]
        have w3' : (way == 3) = false := by rw [beq_eq_false_iff_ne]; exact w3
        obtain ⟨y, my, iy⟩ := ix_tup (ds := ds) p2 (by omega)
        have py := okv_pl n y (hv y my)
        obtain ⟨x, d4, ox, b4, e4⟩ := l_odd_ok n b3 (by omega) (hv y my)
        obtain ⟨k1, k2, k3, k4, k5⟩ := mid (some at') (some (at' + 1)) x ox
        refine ⟨_, d4, k1, b4.mono (by omega), ?_⟩
        simp [w0', w1', w2', w3', w1'', w0, w1a, w1b, w2, w3, xk, b3.xf, b4.xf, e4, k2, k3, k4, k5, cn, iy, py.xf, py.sh, -dIx]
    · obtain ⟨x, d2, ox, b2, e2⟩ := l_pick_ok (v := v) (m_l_odd n) h (by omega)
      refine ⟨x, d2, ox, b2.mono (by omega), fnD_rt (g := [some d2, some v, none, none, none]) rfl rfl ?_⟩
      have ti : xOp (B2 dIsi) (xCons (xV 1) (xCons (xC (.opq (.ty "tuple"))) (xNil))) [some d, some v, none, none, none] = some (.bl false, [some d, some v, none, none, none]) := by
        cases v with
        | tup ds => exact absurd ⟨ds, rfl⟩ ht
        | non => simp
        | bl _ => simp
        | int _ => simp
        | str _ => simp
        | _ => simp [okv] at hv
      show sSeq (sIf _ (b_l_odd_2 _) sNil) _ _ = _
      refine sSeq_rt ?_
      simp [ti, e2, -b_l_odd_2, -xOp]
theorem l_well_ok (cell : Int) {turn : Int} (h0 : 0 ≤ turn) (h1 : turn ≤ 10000) : ∃ d, Bag 10000 d ∧ m_l_well [.int cell, .int turn] = some (d, [some (.int cell), some (.int turn)]) := by
  have y0 : 0 ≤ cell % 2305843009213693951 := Int.emod_nonneg _ (by omega)
  have y1 : cell % 2305843009213693951 < 2305843009213693951 := Int.emod_lt_of_pos _ (by omega)
  by_cases hc : (1000000000000000000 : Int) ≤ cell
  · exact ⟨bagD (cell - 1000000000000000000) (cell % 2305843009213693951) turn, ⟨_, _, _, rfl, y0, y1, h0, h1⟩, by simp [m_l_well, hc]⟩
  · exact ⟨bagD 0 (cell % 2305843009213693951) turn, ⟨_, _, _, rfl, y0, y1, h0, h1⟩, by simp [m_l_well, hc]⟩
theorem l_bags_ok (ns : List Int) : ∃ bs, (∀ d ∈ bs, Bag 10000 d) ∧ m_l_bags [.scr ns, .int 8] = some (.lst true bs, [some (.scr ns), some (.int 8)]) := by
  let cs : List D := cutL (ns.map D.int) none (some 8) ++ [.int 0]
  have hint : ∀ (i : Nat) (x : D), cs[i]? = some x → ∃ n, x = .int n := fun i x hx => by
    rcases List.mem_append.mp (List.mem_of_getElem? hx) with h | h
    · obtain ⟨n, _, e⟩ := List.mem_map.mp (cutL_sub x h)
      exact ⟨n, e.symm⟩
    · exact ⟨0, by simpa using h⟩
  have hl : cs.length ≤ 9 := by
    have := cutL_most (xs := ns.map D.int) (k := 8)
    simp only [cs, List.length_append, List.length_singleton]
    exact Nat.succ_le_succ this
  have step : ∀ (i : Nat) (t : D) (acc : List D) (g : G), (enumD 0 cs)[i]? = some t → g = [some (.scr ns), some (.int 8), none, none] → acc.length < sizeLine → ∃ y g', Bag 10000 y ∧ g' = [some (.scr ns), some (.int 8), none, none] ∧ lcD (gT (gsCons (gNs ⟨true, []⟩ 2) (gsCons (gNs ⟨true, []⟩ 3) (gsNil)))) (xYes) e_l_bags_1 [2, 3] [t] acc g = some (acc ++ [y], g') := by
    rintro i t acc g hi rfl ha
    obtain ⟨x, h1, rfl⟩ := enumD_get 0 cs i t hi
    obtain ⟨n, rfl⟩ := hint i x h1
    have il : i < 9 := by
      have := (List.getElem?_eq_some_iff.mp h1).1
      omega
    have ml : mulOk 977 (i : Int) = true := by simp [mulOk]
    obtain ⟨d, hd, e⟩ := l_well_ok n (turn := 977 * (i : Int)) (by omega) (by omega)
    exact ⟨d, _, hd, rfl, by simp [ha, ml, e]⟩
  obtain ⟨ys, g', _, hp, hg, hlc⟩ := lc_inv (Bag 10000) (enumD 0 cs) [] (fun _ g => g = [some (.scr ns), some (.int 8), none, none]) _ step rfl (by simp [enumD_len]; exact sl20 (by omega))
  subst hg
  refine ⟨ys, hp, fnD_rt (g := [some (.scr ns), some (.int 8), none, none]) rfl rfl ?_⟩
  have h8 : (cutL (ns.map D.int) none (some 8)).length ≤ 8 := cutL_most (k := 8)
  have l1 : (cutL (ns.map D.int) none (some 8)).length + 1 ≤ sizeLine := sl20 (by omega)
  simp only [cs] at hlc
  simp [l1, hlc, -e_l_bags_1]
theorem rl_okv {d : D} (h : Rl 8 d) : okv 4 d = true := by
  obtain ⟨cs, rfl, hl, hc⟩ := h
  have : ∀ c ∈ cs, okv 3 c = true := fun c h => by
    obtain ⟨ts, s, rfl, h3, ht, hs⟩ := hc c h
    have : ∀ t ∈ ts, okv 1 t = true := fun t h => by
      obtain ⟨x, hx, rfl⟩ := ht t h
      have : x ∈ AS := List.mem_append_left _ (List.mem_append_left _ hx)
      simpa [okv] using this
    have h2 : s ∈ AS := List.mem_append_left _ (List.mem_append_right _ hs)
    have h4 : okv 2 (.tup ts) = true := by
      simp only [okv, Bool.and_eq_true, List.all_eq_true, decide_eq_true_eq]
      exact ⟨⟨by decide, by omega⟩, this⟩
    simp only [okv, Bool.and_eq_true, List.all_eq_true, decide_eq_true_eq]
    refine ⟨⟨by decide, by simp⟩, fun x hx => ?_⟩
    simp only [List.mem_cons, List.not_mem_nil, or_false] at  hx
    rcases hx with rfl | rfl
    · exact h4
    · simpa [okv] using h2
  simp only [okv, Bool.and_eq_true, List.all_eq_true, decide_eq_true_eq]
  exact ⟨⟨by decide, by omega⟩, this⟩
theorem law_end (ns : List Int) (o1 o2 o3 o4 : Option D) : ∃ g', b_law_8 [some (.scr ns), o1, o2, o3, o4, none, none, none] = some (.rt (.bl true) g') := ⟨[some (.scr ns), o1, o2, o3, o4, none, some (wordsD false), none], by kernel_rfl⟩
abbrev lawG (ns : List Int) (o1 o2 o3 o4 : Option D) : G := [some (.scr ns), o1, o2, o3, o4, none, none, none]
theorem odd_loop {ns : List Int} {m : Nat} {d rule o : D} {o4 : Option D} (h : Bag m d) (hm : m < 400000) (hr : Rl 8 rule) (ho : o = .lst true xs) (hl : xs.length = 4) (hx : ∀ x ∈ xs, okd 60 id x = true) :
    ∃ d' ys t, (∀ x ∈ ys, okd 60 id x = true) ∧ ys.length = 29 ∧ sFor (xRg1 (xCons (xC (.int 25)) (xNil))) (gNs ⟨false, []⟩ 4) (sApp ⟨false, []⟩ 3 (xP 3) (xCallM (m_l_odd 4) 1 0 [true, false] (xMM (xMP (xV 2) (xNil))))) (lawG ns (some d) (some rule) (some o) o4) = some (.nx (lawG ns (some d') (some rule) (some (.lst true ys)) t)) := by
  subst ho
  have pr := hr.pl
  have hv := rl_okv hr
  obtain ⟨g', ⟨d', ys, t, hd, e, hy1, hy2⟩, hf⟩ := for_inv (gt := gNs ⟨false, []⟩ 4) (fb := sApp ⟨false, []⟩ 3 (xP 3) (xCallM (m_l_odd 4) 1 0 [true, false] (xMM (xMP (xV 2) (xNil))))) ((List.range 25).map fun (i : Nat) => D.int i)
    (fun i g => ∃ d' ys t, Bag (m + 16 * i) d' ∧ g = lawG ns (some d') (some rule) (some (.lst true ys)) t ∧ (∀ x ∈ ys, okd 60 id x = true) ∧ ys.length = 4 + i) (lawG ns (some d) (some rule) (some (.lst true xs)) o4) (by
      rintro i t g hi ⟨d1, ys, t0, hd, rfl, hy, hyl⟩
      have hi25 : i < 25 := by
        have := (List.getElem?_eq_some_iff.mp  hi).1
        simpa using this
      have ht : t = .int i := by
        rw [List.getElem?_map, List.getElem?_range hi25] at hi
        exact (Option.some.inj hi).symm
      subst ht
      obtain ⟨x, d2, ox, b2, e2⟩ := l_odd_ok 4 hd (by omega) hv
      have l1 : ys.length < sizeLine := Nat.lt_of_lt_of_le (show ys.length < 60 by omega) (sl20 (Nat.le_refl _))
      refine ⟨lawG ns (some d1) (some rule) (some (.lst true ys)) (some (.int i)), lawG ns (some d2) (some rule) (some (.lst true (ys ++ [x]))) (some (.int i)), by simp, .inl ?_, d2, ys ++ [x], _, b2.mono (by omega), rfl, fun y hy' => ?_, by simp; omega⟩
      · simp [hd.xf, b2.xf, pr.xf, pr.sh, e2, l1]
      · rcases List.mem_append.mp hy' with h | h
        · exact hy y h
        · rw [List.mem_singleton.mp h]; exact ox) ⟨d, xs, o4, h, rfl, hx, hl⟩
  subst e
  exact ⟨d', ys, t, hy1, hy2, by simp at hf ⊢; exact hf⟩
theorem law_chk {ns : List Int} {d rule : D} {ys : List D} {t : Option D} (hy : ∀ x ∈ ys, okd 60 id x = true) (hl : ys.length = 29) :
    lcD (gNs ⟨false, []⟩ 5) c_law_2 e_law_1 [5] ys [] (lawG ns (some d) (some rule) none t) = some ([], lawG ns (some d) (some rule) none t) := by
  have := lc_fil (gt := gNs ⟨false, []⟩ 5) (ct := c_law_2) (fe := e_law_1) (vs := [5]) (fun _ => false) (fun _ => .int 1) (g := lawG ns (some d) (some rule) none t) ys [] (fun x hx acc ha => ?_) (by simpa using sl20 (show ys.length ≤ 60 by omega))
  · rw [this, show ys.filter (fun _ => false) = [] from List.filter_eq_nil_iff.mpr fun _ _ => Bool.false_ne_true]
    rfl
  · have h1 := (ex_sh x (hy x hx)).2
    have h2 := okd_sh _ h1
    simp [h2, is_rule_ok h1, l_is_rule_ok h1, l_same_ok]
abbrev itA : D := .tup [.tup [.str "same"], .str "take"]
abbrev itB : D := .tup [.tup [.str "same", .str "same", .str "same", .str "same"], .str "take"]
theorem law_some {ns : List Int} {d rule : D} {o3 o4 : Option D} (hr : Rl 8 rule) : ∃ xs, xs.length = 4 ∧ (∀ x ∈ xs, okd 60 id x = true) ∧ b_law_4 (lawG ns (some d) (some rule) o3 o4) = b_law_3 (lawG ns (some d) (some rule) (some (.lst true xs)) o4) := by
  have pr := hr.pl
  have hv := okv_okd (q := id) 4 rule (rl_okv hr)
  obtain ⟨cs, rfl, hl, hc⟩ := hr
  have xk : D.xfs cs = true := by simpa using pr.xf
  have nk : D.noss cs = true := by simpa using pr.nos
  have hcs : ∀ c ∈ cs, okd 60 id c = true := (okd_tup hv).1
  have r0 : (cs.length : Int) ≤ 9 := by omega
  have r1 : 9 - (cs.length : Int) ≤ 1000 := by omega
  have l0 : cs.length + (9 - cs.length) ≤ sizeLine := sl20 (by omega)
  obtain ⟨rc, hrc⟩ : ∃ rc, List.replicate (9 - cs.length) itA = rc := ⟨_, rfl⟩
  have rm : ∀ x ∈ rc, x = itA := fun x hx => by
    rw [← hrc] at hx
    exact (List.mem_replicate.mp hx).2
  have rl : rc.length ≤ 9 := by rw [← hrc, List.length_replicate]; omega
  have l1 : cs.length + rc.length ≤ sizeLine := sl20 (by omega)
  have l2 : cs.length + 1 ≤ sizeLine := sl20 (by omega)
  have ns2 : D.noss (cs ++ rc) = true := noss_mem fun x hx => (List.mem_append.mp hx).elim (fun h => (hc x h).pl.nos) fun h => by rw [rm x h]; rfl
  have ns3 : D.noss (cs ++ [itB]) = true := noss_mem fun x hx => (List.mem_append.mp hx).elim (fun h => (hc x h).pl.nos) fun h => by rw [List.mem_singleton.mp h]; rfl
  have ns4 : g_CAREFUL.nos = true := by kernel_rfl
  refine ⟨[.tup cs, .tup (cs ++ rc), .tup (cs ++ [itB]), g_CAREFUL], rfl, fun x hx => ?_, ?_⟩
  · simp only [List.mem_cons, List.not_mem_nil, or_false] at hx
    rcases hx with rfl | rfl | rfl | rfl
    · exact hv
    · refine okd_tup_of (fun x hx => ?_) (by rw [List.length_append]; omega)
      rcases List.mem_append.mp hx with h | h
      · exact hcs x h
      · rw [rm x h]; kernel_rfl
    · refine okd_tup_of (fun x hx => ?_) (by rw [List.length_append, List.length_singleton]; omega)
      rcases List.mem_append.mp hx with h | h
      · exact hcs x h
      · rw [List.mem_singleton.mp h]; kernel_rfl
    · kernel_rfl
  · refine sSeq_nx ?_
    simp [xk, nk, r0, r1, hrc, l1, l2, ns2, ns3, ns4]
theorem law_turn {ns : List Int} {d : D} {o2 o3 o4 : Option D} (h : Bag 10000 d) : ∃ o1 o2' o3' o4', b_law_5 (lawG ns (some d) o2 o3 o4) = some (.nx (lawG ns o1 o2' o3' o4')) := by
  obtain ⟨rule, d1, hr, b1, e1⟩ := l_rule_ok h (by omega)
  have pr := hr.pl
  have s1 : b_law_5 (lawG ns (some d) o2 o3 o4) = b_law_4 (lawG ns (some d1) (some rule) o3 o4) := by
    refine sSeq_nx ?_
    simp [h.xf, b1.xf, e1, pr.sh]
  obtain ⟨xs, hl, hx, s2⟩ := law_some (ns := ns) (d := d1) (o3 := o3) (o4 := o4) hr
  obtain ⟨d2, ys, t, hy, hyl, s3⟩ := odd_loop (ns := ns) (o4 := o4) b1 (by omega) hr rfl hl hx
  refine ⟨some d2, some rule, none, t, ?_⟩
  rw [s1, s2]
  unfold b_law_3
  rw [sSeq_nx s3]
  have hf := law_chk (ns := ns) (d := d2) (rule := rule) (t := t) hy hyl
  simp [hf, -c_law_2, -e_law_1]
theorem law_ok (ns : List Int) : ∃ g, m_law [.scr ns] = some (.bl true, g) := by
  obtain ⟨bs, hb, eb⟩ := l_bags_ok ns
  obtain ⟨g', ⟨o1, o2, o3, o4, e⟩, hf⟩ := for_inv (gt := gN ⟨false, []⟩ 1) (fb := b_law_5) bs (fun _ g => ∃ o1 o2 o3 o4, g = lawG ns o1 o2 o3 o4) (lawG ns none none none none) (by
    rintro i t g hi ⟨o1, o2, o3, o4, rfl⟩
    have ht := hb t (List.mem_of_getElem? hi)
    obtain ⟨p1, p2, p3, p4, e⟩ := law_turn (ns := ns) (o2 := o2) (o3 := o3) (o4 := o4) ht
    exact ⟨lawG ns (some t) o2 o3 o4, _, by simp, .inl e, _, _, _, _, rfl⟩) ⟨_, _, _, _, rfl⟩
  subst e
  obtain ⟨g2, e2⟩ := law_end ns o1 o2 o3 o4
  refine ⟨_, fnD_rt (g := g2) rfl rfl ?_⟩
  show sSeq _ b_law_8 _ = _
  rw [sSeq_nx (g1 := lawG ns o1 o2 o3 o4) ?_]
  · exact e2
  · simp [eb, -b_law_5]
    exact hf
end DL

set_option Elab.async false
set_option linter.all false
set_option maxRecDepth 100000
set_option maxHeartbeats  4000000
namespace DL
open PySem L2
def topS (i : Nat) : Stmt := PySem.Challenge.pw_besidesent_k01_rules_recognized.main.body.getD i (.Pass ⟨0, 0, 0, 0⟩)
theorem p_CAREFUL : Pn "CAREFUL" := ⟨by decide, by decide, by decide⟩
theorem p_DEEDS : Pn "DEEDS" := ⟨by decide, by decide, by decide⟩
theorem p_MOST_CLAUSES : Pn "MOST_CLAUSES" := ⟨by decide, by decide, by decide⟩
theorem p_TESTS : Pn "TESTS" := ⟨by decide, by decide, by decide⟩
theorem p__law_bags : Pn "_law_bags" := ⟨by decide, by decide, by decide⟩
theorem p__law_clause : Pn "_law_clause" := ⟨by decide, by decide, by decide⟩
theorem p__law_deeds : Pn "_law_deeds" := ⟨by decide, by decide, by decide⟩
theorem p__law_is_clause : Pn "_law_is_clause" := ⟨by decide, by decide, by decide⟩
theorem p__law_is_rule : Pn "_law_is_rule" := ⟨by decide, by decide, by decide⟩
theorem p__law_known : Pn "_law_known" := ⟨by decide, by decide, by decide⟩
theorem p__law_odd : Pn "_law_odd" := ⟨by decide, by decide, by decide⟩
theorem p__law_rule : Pn "_law_rule" := ⟨by decide, by decide, by decide⟩
theorem p__law_same : Pn "_law_same" := ⟨by decide, by decide, by decide⟩
theorem p__law_take : Pn "_law_take" := ⟨by decide, by decide, by decide⟩
theorem p__law_test : Pn "_law_test" := ⟨by decide, by decide, by decide⟩
theorem p__law_tests : Pn "_law_tests" := ⟨by decide, by decide, by decide⟩
theorem p__law_well : Pn "_law_well" := ⟨by decide, by decide, by decide⟩
theorem p_a : Pn "a" := ⟨by decide, by decide, by decide⟩
theorem p_all : Pn "all" := ⟨by decide, by decide, by decide⟩
theorem p_at : Pn "at" := ⟨by decide, by decide, by decide⟩
theorem p_b : Pn "b" := ⟨by decide, by decide, by decide⟩
theorem p_bag : Pn "bag" := ⟨by decide, by decide, by decide⟩
theorem p_bool : Pn "bool" := ⟨by decide, by decide, by decide⟩
theorem p_cell : Pn "cell" := ⟨by decide, by decide, by decide⟩
theorem p_clause : Pn "clause" := ⟨by decide, by decide, by decide⟩
theorem p_enumerate : Pn "enumerate" := ⟨by decide, by decide, by decide⟩
theorem p_found : Pn "found" := ⟨by decide, by decide, by decide⟩
theorem p_int : Pn "int" := ⟨by decide, by decide, by decide⟩
theorem p_is_clause : Pn "is_clause" := ⟨by decide, by decide, by decide⟩
theorem p_is_one_of : Pn "is_one_of" := ⟨by decide, by decide, by decide⟩
theorem p_is_rule : Pn "is_rule" := ⟨by decide, by decide, by decide⟩
theorem p_is_test : Pn "is_test" := ⟨by decide, by decide, by decide⟩
theorem p_isinstance : Pn "isinstance" := ⟨by decide, by decide, by decide⟩
theorem p_k : Pn "k" := ⟨by decide, by decide, by decide⟩
theorem p_len : Pn "len" := ⟨by decide, by decide, by decide⟩
theorem p_list : Pn "list" := ⟨by decide, by decide, by decide⟩
theorem p_many : Pn "many" := ⟨by decide, by decide, by decide⟩
theorem p_most : Pn "most" := ⟨by decide, by decide, by decide⟩
theorem p_n : Pn "n" := ⟨by decide, by decide, by decide⟩
theorem p_one : Pn "one" := ⟨by decide, by decide, by decide⟩
theorem p_p : Pn "p" := ⟨by decide, by decide, by decide⟩
theorem p_range : Pn "range" := ⟨by decide, by decide, by decide⟩
theorem p_rule : Pn "rule" := ⟨by decide, by decide, by decide⟩
theorem p_script : Pn "script" := ⟨by decide, by decide, by decide⟩
theorem p_some : Pn "some" := ⟨by decide, by decide, by decide⟩
theorem p_str : Pn "str" := ⟨by decide, by decide, by decide⟩
theorem p_test : Pn "test" := ⟨by decide, by decide, by decide⟩
theorem p_tests : Pn "tests" := ⟨by decide, by decide, by decide⟩
theorem p_tuple : Pn "tuple" := ⟨by decide, by decide, by decide⟩
theorem p_turn : Pn "turn" := ⟨by decide, by decide, by decide⟩
theorem p_value : Pn "value" := ⟨by decide, by decide, by decide⟩
theorem p_way : Pn "way" := ⟨by decide, by decide, by decide⟩
theorem p_word : Pn "word" := ⟨by decide, by decide, by decide⟩
theorem p_words : Pn "words" := ⟨by decide, by decide, by decide⟩
theorem p_x : Pn "x" := ⟨by decide, by decide, by decide⟩
theorem p_y : Pn "y" := ⟨by decide, by decide, by decide⟩
theorem p_zip : Pn "zip" := ⟨by decide, by decide, by decide⟩
theorem bi_all : bootBuiltins "all" = some (.builtin "all") := by decide +kernel
theorem bi_bool : bootBuiltins "bool" = some (.type "bool") := by decide +kernel
theorem bi_enumerate : bootBuiltins "enumerate" = some (.type "enumerate") := by decide +kernel
theorem bi_int : bootBuiltins "int" = some (.type "int") := by decide +kernel
theorem bi_isinstance : bootBuiltins "isinstance" = some (.builtin "isinstance") := by decide +kernel
theorem bi_len : bootBuiltins "len" = some (.builtin "len") := by decide +kernel
theorem bi_list : bootBuiltins "list" = some (.type "list") := by decide +kernel
theorem bi_range : bootBuiltins "range" = some (.type "range") := by decide +kernel
theorem bi_str : bootBuiltins "str" = some (.type "str") := by decide +kernel
theorem bi_tuple : bootBuiltins "tuple" = some (.type "tuple") := by decide +kernel
theorem bi_zip : bootBuiltins "zip" = some (.type "zip") := by decide +kernel
abbrev s_l_well : Stmt := topS 10
abbrev s_l_bags : Stmt := topS 12
abbrev s_l_take : Stmt := topS 11
abbrev s_l_known : Stmt := topS 18
abbrev s_l_tests : Stmt := topS 14
abbrev s_l_test : Stmt := topS 16
abbrev s_l_clause : Stmt := topS 17
abbrev s_l_rule : Stmt := topS 19
abbrev s_is_one_of : Stmt := topS 5
abbrev s_is_test : Stmt := topS 6
abbrev s_is_clause : Stmt := topS 7
abbrev s_is_rule : Stmt := topS 8
abbrev s_l_odd : Stmt := topS 22
abbrev s_l_same : Stmt := topS 13
abbrev s_l_deeds : Stmt := topS 15
abbrev s_l_is_clause : Stmt := topS 20
abbrev s_l_is_rule : Stmt := topS 21
abbrev s_law : Stmt := topS 23
structure Md (K : PySem.W.Frag) (mg : Str → Option Value) : Prop where
  d_l_well : HasDef K mg "_law_well" s_l_well
  d_l_bags : HasDef K mg "_law_bags" s_l_bags
  d_l_take : HasDef K mg "_law_take" s_l_take
  d_l_known : HasDef K mg "_law_known" s_l_known
  d_l_tests : HasDef K mg "_law_tests" s_l_tests
  d_l_test : HasDef K mg "_law_test" s_l_test
  d_l_clause : HasDef K mg "_law_clause" s_l_clause
  d_l_rule : HasDef K mg "_law_rule" s_l_rule
  d_is_one_of : HasDef K mg "is_one_of" s_is_one_of
  d_is_test : HasDef K mg "is_test" s_is_test
  d_is_clause : HasDef K mg "is_clause" s_is_clause
  d_is_rule : HasDef K mg "is_rule" s_is_rule
  d_l_odd : HasDef K mg "_law_odd" s_l_odd
  d_l_same : HasDef K mg "_law_same" s_l_same
  d_l_deeds : HasDef K mg "_law_deeds" s_l_deeds
  d_l_is_clause : HasDef K mg "_law_is_clause" s_l_is_clause
  d_l_is_rule : HasDef K mg "_law_is_rule" s_l_is_rule
  d_law : HasDef K mg "law" s_law
  g_TESTS : HasDat K mg "TESTS" g_TESTS
  g_DEEDS : HasDat K mg "DEEDS" g_DEEDS
  g_CAREFUL : HasDat K mg "CAREFUL" g_CAREFUL
  g_MOST_CLAUSES : HasDat K mg "MOST_CLAUSES" g_MOST_CLAUSES
  n_all : mg "all" = none
  n_bool : mg "bool" = none
  n_enumerate : mg "enumerate" = none
  n_int : mg "int" = none
  n_isinstance : mg "isinstance" = none
  n_len : mg "len" = none
  n_list : mg "list" = none
  n_range : mg "range" = none
  n_str : mg "str" = none
  n_tuple : mg "tuple" = none
  n_zip : mg "zip" = none
theorem sc_l_well : FnScope ["cell", "turn"] ["cell", "turn"] (defScope s_l_well) := fnScope_mk (by decide +kernel)
theorem n_l_well_cell {P w K mg base k} : Nm (defFam P w K mg base ["cell", "turn"] (defScope s_l_well) k sc_l_well.nd) 0 "cell" := ⟨rfl, .inl rfl, p_cell⟩
theorem k_l_well_cell {P w K mg base k} : Lc (defFam P w K mg base ["cell", "turn"] (defScope s_l_well) k sc_l_well.nd) 0 "cell" := lc_def rfl (.inl rfl)
theorem n_l_well_turn {P w K mg base k} : Nm (defFam P w K mg base ["cell", "turn"] (defScope s_l_well) k sc_l_well.nd) 1 "turn" := ⟨rfl, .inl rfl, p_turn⟩
theorem k_l_well_turn {P w K mg base k} : Lc (defFam P w K mg base ["cell", "turn"] (defScope s_l_well) k sc_l_well.nd) 1 "turn" := lc_def rfl (.inl rfl)
theorem u_l_well {P w K mg base} (M : Md K mg) : PSsd (defFam P w K mg base ["cell", "turn"] (defScope s_l_well) 0 sc_l_well.nd) [] (defBody s_l_well) b_l_well :=
  pssd_cons (psd_if (ptd_cd cd_ge (ped_v n_l_well_cell) (ped_op od_pow (ped_int) (ped_int) rfl) rfl rfl) (pssd_one (psr ⟨true, []⟩ (ped_lst (pad_cons (ped_op od_sub (ped_v n_l_well_cell) (ped_op od_pow (ped_int) (ped_int) rfl) rfl) (pad_cons (ped_op od_mod (ped_v n_l_well_cell) (ped_int) rfl) (pad_cons (ped_v n_l_well_turn) (pad_nil) (fun _ => rfl) rfl) (fun _ => rfl) rfl) (fun _ => rfl) rfl)) rfl)) (pssd_nil)) (pssd_one (psr ⟨true, []⟩ (ped_lst (pad_cons (ped_int) (pad_cons (ped_op od_mod (ped_v n_l_well_cell) (ped_int) rfl) (pad_cons (ped_v n_l_well_turn) (pad_nil) (fun _ => rfl) rfl) (fun _ => rfl) rfl) (fun _ => rfl) rfl)) rfl))
theorem t_l_well {P w K mg base} (M : Md K mg) : FnD P w K mg base "_law_well" 1 2 [] m_l_well := FnD.of M.d_l_well sc_l_well rfl rfl (fun _ _ _ _ _ _ us hl => match us, hl with | [_, _], _ => rfl) (u_l_well M)
theorem sc_l_bags : FnScope ["script", "most", "k", "cell"] ["script", "most"] (defScope s_l_bags) := fnScope_mk (by decide +kernel)
theorem n_l_bags_script {P w K mg base k} : Nm (defFam P w K mg base ["script", "most", "k", "cell"] (defScope s_l_bags) k sc_l_bags.nd) 0 "script" := ⟨rfl, .inl rfl, p_script⟩
theorem k_l_bags_script {P w K mg base k} : Lc (defFam P w K mg base ["script", "most", "k", "cell"] (defScope s_l_bags) k sc_l_bags.nd) 0 "script" := lc_def rfl (.inl rfl)
theorem n_l_bags_most {P w K mg base k} : Nm (defFam P w K mg base ["script", "most", "k", "cell"] (defScope s_l_bags) k sc_l_bags.nd) 1 "most" := ⟨rfl, .inl rfl, p_most⟩
theorem k_l_bags_most {P w K mg base k} : Lc (defFam P w K mg base ["script", "most", "k", "cell"] (defScope s_l_bags) k sc_l_bags.nd) 1 "most" := lc_def rfl (.inl rfl)
theorem u_l_bags {P w K mg base} (M : Md K mg) : PSsd (defFam P w K mg base ["script", "most", "k", "cell"] (defScope s_l_bags) 1 sc_l_bags.nd) [] (defBody s_l_bags) b_l_bags :=
  pssd_one (psr ⟨false, []⟩ (plc [("k", 2), ("cell", 3)] ⟨true, []⟩ (pid_enum ⟨rfl, p_enumerate⟩ M.n_enumerate (pad_cons (ped_op od_add (ped_cut (ped_v n_l_bags_script) (pod_no) (pod_some (ped_v n_l_bags_most)) rfl) (ped_lst (pad_cons (ped_int) (pad_nil) (fun _ => rfl) rfl)) rfl) (pad_nil) (fun _ => rfl) rfl) (fun _ => rfl)) rfl (by kernel_rfl) (pgd_t (n := 2) (pgsd_cons (pgd_ns (lc_blk rfl rfl)) (pgsd_cons (pgd_ns (lc_blk rfl rfl)) (pgsd_nil) (fun _ => rfl)) (fun _ => rfl)) (gs_len (gs_len (gs_len0))) (fun _ => rfl) (fun _ => rfl)) (ptsd_nil) (ped_call (t_l_well M) (Nat.le_of_ble_eq_true rfl) ⟨rfl, p__law_well⟩ (pad_cons (ped_v ⟨rfl, .inl rfl, p_cell⟩) (pad_cons (ped_op od_mulA (ped_int) (ped_v ⟨rfl, .inl rfl, p_k⟩) rfl) (pad_nil) (fun _ => rfl) rfl) (fun _ => rfl) rfl) (fun _ => rfl) (fun _ => rfl)) (fun _ _ => rfl) rfl rfl rfl rfl rfl) rfl)
theorem t_l_bags {P w K mg base} (M : Md K mg) : FnD P w K mg base "_law_bags" 2 2 [] m_l_bags := FnD.of M.d_l_bags sc_l_bags rfl rfl (fun _ _ _ _ _ _ us hl => match us, hl with | [_, _], _ => rfl) (u_l_bags M)
theorem sc_l_take : FnScope ["bag", "many", "found", "p", "n"] ["bag", "many"] (defScope s_l_take) := fnScope_mk (by decide +kernel)
theorem n_l_take_bag {P w K mg base k} : Nm (defFam P w K mg base ["bag", "many", "found", "p", "n"] (defScope s_l_take) k sc_l_take.nd) 0 "bag" := ⟨rfl, .inl rfl, p_bag⟩
theorem k_l_take_bag {P w K mg base k} : Lc (defFam P w K mg base ["bag", "many", "found", "p", "n"] (defScope s_l_take) k sc_l_take.nd) 0 "bag" := lc_def rfl (.inl rfl)
theorem n_l_take_many {P w K mg base k} : Nm (defFam P w K mg base ["bag", "many", "found", "p", "n"] (defScope s_l_take) k sc_l_take.nd) 1 "many" := ⟨rfl, .inl rfl, p_many⟩
theorem k_l_take_many {P w K mg base k} : Lc (defFam P w K mg base ["bag", "many", "found", "p", "n"] (defScope s_l_take) k sc_l_take.nd) 1 "many" := lc_def rfl (.inl rfl)
theorem n_l_take_found {P w K mg base k} : Nm (defFam P w K mg base ["bag", "many", "found", "p", "n"] (defScope s_l_take) k sc_l_take.nd) 2 "found" := ⟨rfl, .inl rfl, p_found⟩
theorem k_l_take_found {P w K mg base k} : Lc (defFam P w K mg base ["bag", "many", "found", "p", "n"] (defScope s_l_take) k sc_l_take.nd) 2 "found" := lc_def rfl (.inl rfl)
theorem n_l_take_p {P w K mg base k} : Nm (defFam P w K mg base ["bag", "many", "found", "p", "n"] (defScope s_l_take) k sc_l_take.nd) 3 "p" := ⟨rfl, .inl rfl, p_p⟩
theorem k_l_take_p {P w K mg base k} : Lc (defFam P w K mg base ["bag", "many", "found", "p", "n"] (defScope s_l_take) k sc_l_take.nd) 3 "p" := lc_def rfl (.inl rfl)
theorem n_l_take_n {P w K mg base k} : Nm (defFam P w K mg base ["bag", "many", "found", "p", "n"] (defScope s_l_take) k sc_l_take.nd) 4 "n" := ⟨rfl, .inl rfl, p_n⟩
theorem k_l_take_n {P w K mg base k} : Lc (defFam P w K mg base ["bag", "many", "found", "p", "n"] (defScope s_l_take) k sc_l_take.nd) 4 "n" := lc_def rfl (.inl rfl)
theorem u_l_take {P w K mg base} (M : Md K mg) : PSsd (defFam P w K mg base ["bag", "many", "found", "p", "n"] (defScope s_l_take) 0 sc_l_take.nd) [0] (defBody s_l_take) b_l_take :=
  pssd_cons (psd_if (ptd_cd cd_gt (ped_ix (ped_b n_l_take_bag) (ped_int) rfl (fun _ _ => rfl)) (ped_int) rfl rfl) (pssd_cons (psns ⟨true, [0]⟩ (ped_op od_mod (ped_ix (ped_b n_l_take_bag) (ped_int) rfl (fun _ _ => rfl)) (ped_v n_l_take_many) rfl) rfl k_l_take_found (fun _ _ => rfl) rfl) (pssd_cons (pst ⟨true, [0]⟩ (ped_op od_fdiv (ped_ix (ped_b n_l_take_bag) (ped_int) rfl (fun _ _ => rfl)) (ped_v n_l_take_many) rfl) rfl (ppd_n n_l_take_bag) (ped_int) (fun _ => rfl) (fun _ => rfl) (fun _ => rfl) (fun _ _ => rfl)) (pssd_one (psr ⟨true, []⟩ (ped_v n_l_take_found) rfl)))) (pssd_nil)) (pssd_cons (pst ⟨true, [0]⟩ (ped_op od_add (ped_ix (ped_b n_l_take_bag) (ped_int) rfl (fun _ _ => rfl)) (ped_int) rfl) rfl (ppd_n n_l_take_bag) (ped_int) (fun _ => rfl) (fun _ => rfl) (fun _ => rfl) (fun _ _ => rfl)) (pssd_cons (psns ⟨false, []⟩ (ped_int) rfl k_l_take_p (fun _ _ => rfl) rfl) (pssd_cons (psns ⟨true, [0, 0]⟩ (ped_op od_mod (ped_op od_add (ped_ix (ped_b n_l_take_bag) (ped_int) rfl (fun _ _ => rfl)) (ped_op od_mulA (ped_int) (ped_ix (ped_b n_l_take_bag) (ped_int) rfl (fun _ _ => rfl)) rfl) rfl) (ped_v n_l_take_p) rfl) rfl k_l_take_n (fun _ _ => rfl) rfl) (pssd_cons (psns ⟨true, [0]⟩ (ped_op od_mod (ped_op od_add (ped_op od_add (ped_op od_mulA (ped_v n_l_take_n) (ped_v n_l_take_n) rfl) (ped_op od_mulA (ped_int) (ped_op od_pow (ped_ix (ped_b n_l_take_bag) (ped_int) rfl (fun _ _ => rfl)) (ped_int) rfl) rfl) rfl) (ped_int) rfl) (ped_v n_l_take_p) rfl) rfl k_l_take_n (fun _ _ => rfl) rfl) (pssd_one (psr ⟨true, []⟩ (ped_op od_mod (ped_op od_fdiv (ped_op od_mod (ped_op od_pow (ped_v n_l_take_n) (ped_int) rfl) (ped_v n_l_take_p) rfl) (ped_int) rfl) (ped_v n_l_take_many) rfl) rfl))))))
theorem t_l_take {P w K mg base} (M : Md K mg) : FnD P w K mg base "_law_take" 1 2 [0] m_l_take := FnD.of M.d_l_take sc_l_take rfl rfl (fun _ _ _ _ _ _ us hl => match us, hl with | [_, _], _ => rfl) (u_l_take M)
theorem sc_l_known : FnScope ["bag", "some"] ["bag"] (defScope s_l_known) := fnScope_mk (by decide +kernel)
theorem n_l_known_bag {P w K mg base k} : Nm (defFam P w K mg base ["bag", "some"] (defScope s_l_known) k sc_l_known.nd) 0 "bag" := ⟨rfl, .inl rfl, p_bag⟩
theorem k_l_known_bag {P w K mg base k} : Lc (defFam P w K mg base ["bag", "some"] (defScope s_l_known) k sc_l_known.nd) 0 "bag" := lc_def rfl (.inl rfl)
theorem n_l_known_some {P w K mg base k} : Nm (defFam P w K mg base ["bag", "some"] (defScope s_l_known) k sc_l_known.nd) 1 "some" := ⟨rfl, .inl rfl, p_some⟩
theorem k_l_known_some {P w K mg base k} : Lc (defFam P w K mg base ["bag", "some"] (defScope s_l_known) k sc_l_known.nd) 1 "some" := lc_def rfl (.inl rfl)
theorem u_l_known {P w K mg base} (M : Md K mg) : PSsd (defFam P w K mg base ["bag", "some"] (defScope s_l_known) 1 sc_l_known.nd) [0] (defBody s_l_known) b_l_known :=
  pssd_cons (psn ⟨false, []⟩ (ped_lst (pad_cons (ped_tup (pad_cons (ped_tup (pad_cons (ped_tup (pad_cons (ped_str) (pad_nil) (fun _ => rfl) rfl)) (pad_cons (ped_str) (pad_nil) (fun _ => rfl) rfl) (fun _ => rfl) rfl)) (pad_cons (ped_tup (pad_cons (ped_tup (pad_cons (ped_str) (pad_nil) (fun _ => rfl) rfl)) (pad_cons (ped_str) (pad_nil) (fun _ => rfl) rfl) (fun _ => rfl) rfl)) (pad_cons (ped_tup (pad_cons (ped_tup (pad_cons (ped_str) (pad_nil) (fun _ => rfl) rfl)) (pad_cons (ped_str) (pad_nil) (fun _ => rfl) rfl) (fun _ => rfl) rfl)) (pad_nil) (fun _ => rfl) rfl) (fun _ => rfl) rfl) (fun _ => rfl) rfl)) (pad_cons (ped_tup (pad_cons (ped_tup (pad_cons (ped_tup (pad_nil)) (pad_cons (ped_str) (pad_nil) (fun _ => rfl) rfl) (fun _ => rfl) rfl)) (pad_nil) (fun _ => rfl) rfl)) (pad_cons (ped_tup (pad_nil)) (pad_nil) (fun _ => rfl) rfl) (fun _ => rfl) rfl) (fun _ => rfl) rfl)) rfl k_l_known_some (fun _ _ => rfl) rfl) (pssd_cons (psapp ⟨false, []⟩ (ppd_n n_l_known_some) (ped_tup (pad_cons (ped_tup (pad_cons (ped_tup (pad_cons (ped_str) (pad_cons (ped_str) (pad_nil) (fun _ => rfl) rfl) (fun _ => rfl) rfl)) (pad_cons (ped_str) (pad_nil) (fun _ => rfl) rfl) (fun _ => rfl) rfl)) (pad_cons (ped_tup (pad_cons (ped_tup (pad_cons (ped_str) (pad_cons (ped_str) (pad_nil) (fun _ => rfl) rfl) (fun _ => rfl) rfl)) (pad_cons (ped_str) (pad_nil) (fun _ => rfl) rfl) (fun _ => rfl) rfl)) (pad_cons (ped_tup (pad_cons (ped_tup (pad_cons (ped_str) (pad_cons (ped_str) (pad_nil) (fun _ => rfl) rfl) (fun _ => rfl) rfl)) (pad_cons (ped_str) (pad_nil) (fun _ => rfl) rfl) (fun _ => rfl) rfl)) (pad_cons (ped_tup (pad_cons (ped_tup (pad_cons (ped_str) (pad_cons (ped_str) (pad_nil) (fun _ => rfl) rfl) (fun _ => rfl) rfl)) (pad_cons (ped_str) (pad_nil) (fun _ => rfl) rfl) (fun _ => rfl) rfl)) (pad_nil) (fun _ => rfl) rfl) (fun _ => rfl) rfl) (fun _ => rfl) rfl) (fun _ => rfl) rfl)) rfl rfl (fun _ => rfl) (fun _ => rfl) (fun _ => rfl) rfl (fun _ => rfl) (fun _ => rfl)) (pssd_cons (psapp ⟨false, []⟩ (ppd_n n_l_known_some) (ped_tup (pad_cons (ped_tup (pad_cons (ped_tup (pad_cons (ped_str) (pad_nil) (fun _ => rfl) rfl)) (pad_cons (ped_str) (pad_nil) (fun _ => rfl) rfl) (fun _ => rfl) rfl)) (pad_cons (ped_tup (pad_cons (ped_tup (pad_cons (ped_str) (pad_cons (ped_str) (pad_nil) (fun _ => rfl) rfl) (fun _ => rfl) rfl)) (pad_cons (ped_str) (pad_nil) (fun _ => rfl) rfl) (fun _ => rfl) rfl)) (pad_cons (ped_tup (pad_cons (ped_tup (pad_cons (ped_str) (pad_nil) (fun _ => rfl) rfl)) (pad_cons (ped_str) (pad_nil) (fun _ => rfl) rfl) (fun _ => rfl) rfl)) (pad_nil) (fun _ => rfl) rfl) (fun _ => rfl) rfl) (fun _ => rfl) rfl)) rfl rfl (fun _ => rfl) (fun _ => rfl) (fun _ => rfl) rfl (fun _ => rfl) (fun _ => rfl)) (pssd_one (psr ⟨false, []⟩ (ped_ix (ped_m n_l_known_some) (ped_callM (pp := 0) (kk := 1) (t_l_take M) (Nat.le_of_ble_eq_true rfl) ⟨rfl, p__law_take⟩ (pmd_m n_l_known_bag (pmd_p (ped_int) (pmd_nil) (fun _ => rfl) rfl) (fun _ => rfl)) rfl rfl (fun _ => rfl) (fun _ => rfl)) rfl (fun _ _ => rfl)) rfl))))
theorem t_l_known {P w K mg base} (M : Md K mg) : FnD P w K mg base "_law_known" 2 1 [0] m_l_known := FnD.of M.d_l_known sc_l_known rfl rfl (fun _ _ _ _ _ _ us hl => match us, hl with | [_], _ => rfl) (u_l_known M)
theorem sc_l_tests : FnScope [] [] (defScope s_l_tests) := fnScope_mk (by decide +kernel)
theorem u_l_tests {P w K mg base} (M : Md K mg) : PSsd (defFam P w K mg base [] (defScope s_l_tests) 0 sc_l_tests.nd) [] (defBody s_l_tests) b_l_tests :=
  pssd_one (psr ⟨false, []⟩ (ped_lst (pad_cons (ped_str) (pad_cons (ped_str) (pad_cons (ped_str) (pad_cons (ped_str) (pad_cons (ped_str) (pad_cons (ped_str) (pad_cons (ped_str) (pad_cons (ped_str) (pad_cons (ped_str) (pad_cons (ped_str) (pad_cons (ped_str) (pad_cons (ped_str) (pad_nil) (fun _ => rfl) rfl) (fun _ => rfl) rfl) (fun _ => rfl) rfl) (fun _ => rfl) rfl) (fun _ => rfl) rfl) (fun _ => rfl) rfl) (fun _ => rfl) rfl) (fun _ => rfl) rfl) (fun _ => rfl) rfl) (fun _ => rfl) rfl) (fun _ => rfl) rfl) (fun _ => rfl) rfl)) rfl)
theorem t_l_tests {P w K mg base} (M : Md K mg) : FnD P w K mg base "_law_tests" 1 0 [] m_l_tests := FnD.of M.d_l_tests sc_l_tests rfl rfl (fun _ _ _ _ _ _ us hl => match us, hl with | [], _ => rfl) (u_l_tests M)
theorem sc_l_test : FnScope ["bag"] ["bag"] (defScope s_l_test) := fnScope_mk (by decide +kernel)
theorem n_l_test_bag {P w K mg base k} : Nm (defFam P w K mg base ["bag"] (defScope s_l_test) k sc_l_test.nd) 0 "bag" := ⟨rfl, .inl rfl, p_bag⟩
theorem k_l_test_bag {P w K mg base k} : Lc (defFam P w K mg base ["bag"] (defScope s_l_test) k sc_l_test.nd) 0 "bag" := lc_def rfl (.inl rfl)
theorem u_l_test {P w K mg base} (M : Md K mg) : PSsd (defFam P w K mg base ["bag"] (defScope s_l_test) 1 sc_l_test.nd) [0] (defBody s_l_test) b_l_test :=
  pssd_one (psr ⟨false, []⟩ (ped_op od_add (ped_ix (ped_lst (pad_cons (ped_str) (pad_cons (ped_str) (pad_cons (ped_str) (pad_nil) (fun _ => rfl) rfl) (fun _ => rfl) rfl) (fun _ => rfl) rfl)) (ped_callM (pp := 0) (kk := 1) (t_l_take M) (Nat.le_of_ble_eq_true rfl) ⟨rfl, p__law_take⟩ (pmd_m n_l_test_bag (pmd_p (ped_int) (pmd_nil) (fun _ => rfl) rfl) (fun _ => rfl)) rfl rfl (fun _ => rfl) (fun _ => rfl)) rfl (fun _ _ => rfl)) (ped_ix (ped_call0 (t_l_tests M) (Nat.le_of_ble_eq_true rfl) ⟨rfl, p__law_tests⟩) (ped_callM (pp := 0) (kk := 1) (t_l_take M) (Nat.le_of_ble_eq_true rfl) ⟨rfl, p__law_take⟩ (pmd_m n_l_test_bag (pmd_p (ped_int) (pmd_nil) (fun _ => rfl) rfl) (fun _ => rfl)) rfl rfl (fun _ => rfl) (fun _ => rfl)) rfl (fun _ _ => rfl)) rfl) rfl)
theorem t_l_test {P w K mg base} (M : Md K mg) : FnD P w K mg base "_law_test" 2 1 [0] m_l_test := FnD.of M.d_l_test sc_l_test rfl rfl (fun _ _ _ _ _ _ us hl => match us, hl with | [_], _ => rfl) (u_l_test M)
theorem sc_l_clause : FnScope ["bag", "tests", "k"] ["bag"] (defScope s_l_clause) := fnScope_mk (by decide +kernel)
theorem n_l_clause_bag {P w K mg base k} : Nm (defFam P w K mg base ["bag", "tests", "k"] (defScope s_l_clause) k sc_l_clause.nd) 0 "bag" := ⟨rfl, .inr (.inl rfl), p_bag⟩
theorem k_l_clause_bag {P w K mg base k} : Lc (defFam P w K mg base ["bag", "tests", "k"] (defScope s_l_clause) k sc_l_clause.nd) 0 "bag" := lc_def rfl (.inr rfl)
theorem n_l_clause_tests {P w K mg base k} : Nm (defFam P w K mg base ["bag", "tests", "k"] (defScope s_l_clause) k sc_l_clause.nd) 1 "tests" := ⟨rfl, .inl rfl, p_tests⟩
theorem k_l_clause_tests {P w K mg base k} : Lc (defFam P w K mg base ["bag", "tests", "k"] (defScope s_l_clause) k sc_l_clause.nd) 1 "tests" := lc_def rfl (.inl rfl)
theorem u_l_clause {P w K mg base} (M : Md K mg) : PSsd (defFam P w K mg base ["bag", "tests", "k"] (defScope s_l_clause) 2 sc_l_clause.nd) [0] (defBody s_l_clause) b_l_clause :=
  pssd_cons (psns ⟨false, []⟩ (ped_callT td_tuple ⟨rfl, p_tuple⟩ ⟨M.n_tuple, bi_tuple⟩ (pad_cons (plc [("k", 2)] ⟨false, []⟩ (pid_rg1 ⟨rfl, p_range⟩ M.n_range (pad_cons (ped_ix (ped_lst (pad_cons (ped_int) (pad_cons (ped_int) (pad_cons (ped_int) (pad_cons (ped_int) (pad_cons (ped_int) (pad_cons (ped_int) (pad_nil) (fun _ => rfl) rfl) (fun _ => rfl) rfl) (fun _ => rfl) rfl) (fun _ => rfl) rfl) (fun _ => rfl) rfl) (fun _ => rfl) rfl)) (ped_callM (pp := 0) (kk := 1) (t_l_take M) (Nat.le_of_ble_eq_true rfl) ⟨rfl, p__law_take⟩ (pmd_m n_l_clause_bag (pmd_p (ped_int) (pmd_nil) (fun _ => rfl) rfl) (fun _ => rfl)) rfl rfl (fun _ => rfl) (fun _ => rfl)) rfl (fun _ _ => rfl)) (pad_nil) (fun _ => rfl) rfl) (fun _ => rfl)) rfl (by kernel_rfl) (pgd_ns (lc_blk rfl rfl)) (ptsd_nil) (ped_callM (pp := 0) (kk := 0) (t_l_test M) (Nat.le_of_ble_eq_true rfl) ⟨rfl, p__law_test⟩ (pmd_m ⟨rfl, .inr (.inl rfl), p_bag⟩ (pmd_nil) (fun _ => rfl)) rfl rfl (fun _ => rfl) (fun _ => rfl)) (fun _ _ => rfl) rfl rfl rfl rfl rfl) (pad_nil) (fun _ => rfl) rfl) (fun _ => rfl) (fun _ => rfl)) rfl k_l_clause_tests (fun _ _ => rfl) rfl) (pssd_one (psr ⟨true, []⟩ (ped_tup (pad_cons (ped_v n_l_clause_tests) (pad_cons (ped_ix (ped_lst (pad_cons (ped_str) (pad_cons (ped_str) (pad_cons (ped_str) (pad_cons (ped_str) (pad_cons (ped_str) (pad_cons (ped_str) (pad_nil) (fun _ => rfl) rfl) (fun _ => rfl) rfl) (fun _ => rfl) rfl) (fun _ => rfl) rfl) (fun _ => rfl) rfl) (fun _ => rfl) rfl)) (ped_callM (pp := 0) (kk := 1) (t_l_take M) (Nat.le_of_ble_eq_true rfl) ⟨rfl, p__law_take⟩ (pmd_m n_l_clause_bag (pmd_p (ped_int) (pmd_nil) (fun _ => rfl) rfl) (fun _ => rfl)) rfl rfl (fun _ => rfl) (fun _ => rfl)) rfl (fun _ _ => rfl)) (pad_nil) (fun _ => rfl) rfl) (fun _ => rfl) rfl)) rfl))
theorem t_l_clause {P w K mg base} (M : Md K mg) : FnD P w K mg base "_law_clause" 3 1 [0] m_l_clause := FnD.of M.d_l_clause sc_l_clause rfl rfl (fun _ _ _ _ _ _ us hl => match us, hl with | [_], _ => rfl) (u_l_clause M)
theorem sc_l_rule : FnScope ["bag", "most", "way", "k", "found", "at"] ["bag", "most"] (defScope s_l_rule) := fnScope_mk (by decide +kernel)
theorem n_l_rule_bag {P w K mg base k} : Nm (defFam P w K mg base ["bag", "most", "way", "k", "found", "at"] (defScope s_l_rule) k sc_l_rule.nd) 0 "bag" := ⟨rfl, .inr (.inl rfl), p_bag⟩
theorem k_l_rule_bag {P w K mg base k} : Lc (defFam P w K mg base ["bag", "most", "way", "k", "found", "at"] (defScope s_l_rule) k sc_l_rule.nd) 0 "bag" := lc_def rfl (.inr rfl)
theorem n_l_rule_most {P w K mg base k} : Nm (defFam P w K mg base ["bag", "most", "way", "k", "found", "at"] (defScope s_l_rule) k sc_l_rule.nd) 1 "most" := ⟨rfl, .inl rfl, p_most⟩
theorem k_l_rule_most {P w K mg base k} : Lc (defFam P w K mg base ["bag", "most", "way", "k", "found", "at"] (defScope s_l_rule) k sc_l_rule.nd) 1 "most" := lc_def rfl (.inl rfl)
theorem n_l_rule_way {P w K mg base k} : Nm (defFam P w K mg base ["bag", "most", "way", "k", "found", "at"] (defScope s_l_rule) k sc_l_rule.nd) 2 "way" := ⟨rfl, .inl rfl, p_way⟩
theorem k_l_rule_way {P w K mg base k} : Lc (defFam P w K mg base ["bag", "most", "way", "k", "found", "at"] (defScope s_l_rule) k sc_l_rule.nd) 2 "way" := lc_def rfl (.inl rfl)
theorem n_l_rule_found {P w K mg base k} : Nm (defFam P w K mg base ["bag", "most", "way", "k", "found", "at"] (defScope s_l_rule) k sc_l_rule.nd) 4 "found" := ⟨rfl, .inl rfl, p_found⟩
theorem k_l_rule_found {P w K mg base k} : Lc (defFam P w K mg base ["bag", "most", "way", "k", "found", "at"] (defScope s_l_rule) k sc_l_rule.nd) 4 "found" := lc_def rfl (.inl rfl)
theorem n_l_rule_at {P w K mg base k} : Nm (defFam P w K mg base ["bag", "most", "way", "k", "found", "at"] (defScope s_l_rule) k sc_l_rule.nd) 5 "at" := ⟨rfl, .inl rfl, p_at⟩
theorem k_l_rule_at {P w K mg base k} : Lc (defFam P w K mg base ["bag", "most", "way", "k", "found", "at"] (defScope s_l_rule) k sc_l_rule.nd) 5 "at" := lc_def rfl (.inl rfl)
theorem u_l_rule {P w K mg base} (M : Md K mg) : PSsd (defFam P w K mg base ["bag", "most", "way", "k", "found", "at"] (defScope s_l_rule) 3 sc_l_rule.nd) [0] (defBody s_l_rule) b_l_rule :=
  pssd_cons (psns ⟨false, []⟩ (ped_callM (pp := 0) (kk := 1) (t_l_take M) (Nat.le_of_ble_eq_true rfl) ⟨rfl, p__law_take⟩ (pmd_m n_l_rule_bag (pmd_p (ped_int) (pmd_nil) (fun _ => rfl) rfl) (fun _ => rfl)) rfl rfl (fun _ => rfl) (fun _ => rfl)) rfl k_l_rule_way (fun _ _ => rfl) rfl) (pssd_cons (psd_if (ptd_cd cd_eq (ped_v n_l_rule_way) (ped_int) rfl rfl) (pssd_one (psr ⟨false, []⟩ (ped_callT td_tuple ⟨rfl, p_tuple⟩ ⟨M.n_tuple, bi_tuple⟩ (pad_cons (plc [("k", 3)] ⟨false, []⟩ (pid_rg1 ⟨rfl, p_range⟩ M.n_range (pad_cons (ped_callM (pp := 0) (kk := 1) (t_l_take M) (Nat.le_of_ble_eq_true rfl) ⟨rfl, p__law_take⟩ (pmd_m n_l_rule_bag (pmd_p (ped_op od_add (ped_v n_l_rule_most) (ped_int) rfl) (pmd_nil) (fun _ => rfl) rfl) (fun _ => rfl)) rfl rfl (fun _ => rfl) (fun _ => rfl)) (pad_nil) (fun _ => rfl) rfl) (fun _ => rfl)) rfl (by kernel_rfl) (pgd_ns (lc_blk rfl rfl)) (ptsd_nil) (ped_callM (pp := 0) (kk := 0) (t_l_clause M) (Nat.le_of_ble_eq_true rfl) ⟨rfl, p__law_clause⟩ (pmd_m ⟨rfl, .inr (.inl rfl), p_bag⟩ (pmd_nil) (fun _ => rfl)) rfl rfl (fun _ => rfl) (fun _ => rfl)) (fun _ _ => rfl) rfl rfl rfl rfl rfl) (pad_nil) (fun _ => rfl) rfl) (fun _ => rfl) (fun _ => rfl)) rfl)) (pssd_nil)) (pssd_cons (psns ⟨false, []⟩ (ped_callM (pp := 0) (kk := 0) (t_l_known M) (Nat.le_of_ble_eq_true rfl) ⟨rfl, p__law_known⟩ (pmd_m n_l_rule_bag (pmd_nil) (fun _ => rfl)) rfl rfl (fun _ => rfl) (fun _ => rfl)) rfl k_l_rule_found (fun _ _ => rfl) rfl) (pssd_cons (psns ⟨false, []⟩ (ped_callM (pp := 0) (kk := 1) (t_l_take M) (Nat.le_of_ble_eq_true rfl) ⟨rfl, p__law_take⟩ (pmd_m n_l_rule_bag (pmd_p (ped_op od_add (ped_callB bd_len ⟨rfl, p_len⟩ ⟨M.n_len, bi_len⟩ (pad_cons (ped_v n_l_rule_found) (pad_nil) (fun _ => rfl) rfl) (fun _ => rfl) (fun _ => rfl)) (ped_int) rfl) (pmd_nil) (fun _ => rfl) rfl) (fun _ => rfl)) rfl rfl (fun _ => rfl) (fun _ => rfl)) rfl k_l_rule_at (fun _ _ => rfl) rfl) (pssd_cons (psd_if (ptd_cd cd_eq (ped_v n_l_rule_way) (ped_int) rfl rfl) (pssd_one (psns ⟨true, []⟩ (ped_op od_add (ped_op od_add (ped_cut (ped_v n_l_rule_found) (pod_no) (pod_some (ped_v n_l_rule_at)) rfl) (ped_tup (pad_cons (ped_callM (pp := 0) (kk := 0) (t_l_clause M) (Nat.le_of_ble_eq_true rfl) ⟨rfl, p__law_clause⟩ (pmd_m n_l_rule_bag (pmd_nil) (fun _ => rfl)) rfl rfl (fun _ => rfl) (fun _ => rfl)) (pad_nil) (fun _ => rfl) rfl)) rfl) (ped_cut (ped_v n_l_rule_found) (pod_some (ped_v n_l_rule_at)) (pod_no) rfl) rfl) rfl k_l_rule_found (fun _ _ => rfl) rfl)) (pssd_one (psd_if (ptd_cd cd_eq (ped_v n_l_rule_way) (ped_int) rfl rfl) (pssd_one (psns ⟨true, []⟩ (ped_op od_add (ped_op od_add (ped_cut (ped_v n_l_rule_found) (pod_no) (pod_some (ped_v n_l_rule_at)) rfl) (ped_op od_mulA (ped_tup (pad_cons (ped_callM (pp := 0) (kk := 0) (t_l_clause M) (Nat.le_of_ble_eq_true rfl) ⟨rfl, p__law_clause⟩ (pmd_m n_l_rule_bag (pmd_nil) (fun _ => rfl)) rfl rfl (fun _ => rfl) (fun _ => rfl)) (pad_nil) (fun _ => rfl) rfl)) (ped_callM (pp := 0) (kk := 1) (t_l_take M) (Nat.le_of_ble_eq_true rfl) ⟨rfl, p__law_take⟩ (pmd_m n_l_rule_bag (pmd_p (ped_int) (pmd_nil) (fun _ => rfl) rfl) (fun _ => rfl)) rfl rfl (fun _ => rfl) (fun _ => rfl)) rfl) rfl) (ped_cut (ped_v n_l_rule_found) (pod_some (ped_op od_add (ped_v n_l_rule_at) (ped_int) rfl)) (pod_no) rfl) rfl) rfl k_l_rule_found (fun _ _ => rfl) rfl)) (pssd_nil)))) (pssd_one (psr ⟨true, []⟩ (ped_cut (ped_v n_l_rule_found) (pod_no) (pod_some (ped_v n_l_rule_most)) rfl) rfl))))))
theorem t_l_rule {P w K mg base} (M : Md K mg) : FnD P w K mg base "_law_rule" 4 2 [0] m_l_rule := FnD.of M.d_l_rule sc_l_rule rfl rfl (fun _ _ _ _ _ _ us hl => match us, hl with | [_, _], _ => rfl) (u_l_rule M)
theorem sc_is_one_of : FnScope ["value", "some"] ["value", "some"] (defScope s_is_one_of) := fnScope_mk (by decide +kernel)
theorem n_is_one_of_value {P w K mg base k} : Nm (defFam P w K mg base ["value", "some"] (defScope s_is_one_of) k sc_is_one_of.nd) 0 "value" := ⟨rfl, .inl rfl, p_value⟩
theorem k_is_one_of_value {P w K mg base k} : Lc (defFam P w K mg base ["value", "some"] (defScope s_is_one_of) k sc_is_one_of.nd) 0 "value" := lc_def rfl (.inl rfl)
theorem n_is_one_of_some {P w K mg base k} : Nm (defFam P w K mg base ["value", "some"] (defScope s_is_one_of) k sc_is_one_of.nd) 1 "some" := ⟨rfl, .inl rfl, p_some⟩
theorem k_is_one_of_some {P w K mg base k} : Lc (defFam P w K mg base ["value", "some"] (defScope s_is_one_of) k sc_is_one_of.nd) 1 "some" := lc_def rfl (.inl rfl)
theorem u_is_one_of {P w K mg base} (M : Md K mg) : PSsd (defFam P w K mg base ["value", "some"] (defScope s_is_one_of) 0 sc_is_one_of.nd) [] (defBody s_is_one_of) b_is_one_of :=
  pssd_one (psr ⟨true, []⟩ (ped_and (ped_callB bd_isi ⟨rfl, p_isinstance⟩ ⟨M.n_isinstance, bi_isinstance⟩ (pad_cons (ped_v n_is_one_of_value) (pad_cons (ped_type ⟨rfl, p_str⟩ ⟨M.n_str, bi_str⟩) (pad_nil) (fun _ => rfl) rfl) (fun _ => rfl) rfl) (fun _ => rfl) (fun _ => rfl)) (ped_one (ped_cd cd_in (ped_v n_is_one_of_value) (ped_v n_is_one_of_some) rfl rfl))) rfl)
theorem t_is_one_of {P w K mg base} (M : Md K mg) : FnD P w K mg base "is_one_of" 1 2 [] m_is_one_of := FnD.of M.d_is_one_of sc_is_one_of rfl rfl (fun _ _ _ _ _ _ us hl => match us, hl with | [_, _], _ => rfl) (u_is_one_of M)
theorem sc_is_test : FnScope ["value"] ["value"] (defScope s_is_test) := fnScope_mk (by decide +kernel)
theorem n_is_test_value {P w K mg base k} : Nm (defFam P w K mg base ["value"] (defScope s_is_test) k sc_is_test.nd) 0 "value" := ⟨rfl, .inl rfl, p_value⟩
theorem k_is_test_value {P w K mg base k} : Lc (defFam P w K mg base ["value"] (defScope s_is_test) k sc_is_test.nd) 0 "value" := lc_def rfl (.inl rfl)
theorem u_is_test {P w K mg base} (M : Md K mg) : PSsd (defFam P w K mg base ["value"] (defScope s_is_test) 0 sc_is_test.nd) [] (defBody s_is_test) b_is_test :=
  pssd_cons (psd_if (ptd_not (ptd_val (ped_callB bd_isi ⟨rfl, p_isinstance⟩ ⟨M.n_isinstance, bi_isinstance⟩ (pad_cons (ped_v n_is_test_value) (pad_cons (ped_type ⟨rfl, p_str⟩ ⟨M.n_str, bi_str⟩) (pad_nil) (fun _ => rfl) rfl) (fun _ => rfl) rfl) (fun _ => rfl) (fun _ => rfl)) (fun _ _ => rfl))) (pssd_one (psr ⟨false, []⟩ (ped_bl) rfl)) (pssd_nil)) (pssd_one (psr ⟨true, []⟩ (ped_or (ped_cd cd_in (ped_v n_is_test_value) (ped_glob ⟨rfl, p_TESTS⟩ M.g_TESTS.gl) rfl rfl) (ped_one (ped_and (ped_cd cd_eq (ped_cut (ped_v n_is_test_value) (pod_no) (pod_some (ped_int)) rfl) (ped_str) rfl rfl) (ped_one (ped_cd cd_in (ped_cut (ped_v n_is_test_value) (pod_some (ped_int)) (pod_no) rfl) (ped_glob ⟨rfl, p_TESTS⟩ M.g_TESTS.gl) rfl rfl))))) rfl))
theorem t_is_test {P w K mg base} (M : Md K mg) : FnD P w K mg base "is_test" 1 1 [] m_is_test := FnD.of M.d_is_test sc_is_test rfl rfl (fun _ _ _ _ _ _ us hl => match us, hl with | [_], _ => rfl) (u_is_test M)
theorem sc_is_clause : FnScope ["value", "test"] ["value"] (defScope s_is_clause) := fnScope_mk (by decide +kernel)
theorem n_is_clause_value {P w K mg base k} : Nm (defFam P w K mg base ["value", "test"] (defScope s_is_clause) k sc_is_clause.nd) 0 "value" := ⟨rfl, .inl rfl, p_value⟩
theorem k_is_clause_value {P w K mg base k} : Lc (defFam P w K mg base ["value", "test"] (defScope s_is_clause) k sc_is_clause.nd) 0 "value" := lc_def rfl (.inl rfl)
theorem u_is_clause {P w K mg base} (M : Md K mg) : PSsd (defFam P w K mg base ["value", "test"] (defScope s_is_clause) 1 sc_is_clause.nd) [] (defBody s_is_clause) b_is_clause :=
  pssd_cons (psd_if ((pwd_or (ptd_not (ptd_val (ped_callB bd_isi ⟨rfl, p_isinstance⟩ ⟨M.n_isinstance, bi_isinstance⟩ (pad_cons (ped_v n_is_clause_value) (pad_cons (ped_type ⟨rfl, p_tuple⟩ ⟨M.n_tuple, bi_tuple⟩) (pad_nil) (fun _ => rfl) rfl) (fun _ => rfl) rfl) (fun _ => rfl) (fun _ => rfl)) (fun _ _ => rfl))) (pwd_or (ptd_cd cd_ne (ped_callB bd_len ⟨rfl, p_len⟩ ⟨M.n_len, bi_len⟩ (pad_cons (ped_v n_is_clause_value) (pad_nil) (fun _ => rfl) rfl) (fun _ => rfl) (fun _ => rfl)) (ped_int) rfl rfl) (pwd_or1 (ptd_not (ptd_val (ped_callB bd_isi ⟨rfl, p_isinstance⟩ ⟨M.n_isinstance, bi_isinstance⟩ (pad_cons (ped_ix (ped_v n_is_clause_value) (ped_int) rfl (fun _ _ => rfl)) (pad_cons (ped_type ⟨rfl, p_tuple⟩ ⟨M.n_tuple, bi_tuple⟩) (pad_nil) (fun _ => rfl) rfl) (fun _ => rfl) rfl) (fun _ => rfl) (fun _ => rfl)) (fun _ _ => rfl)))))).pt) (pssd_one (psr ⟨false, []⟩ (ped_bl) rfl)) (pssd_nil)) (pssd_one (psr ⟨false, []⟩ (ped_and (ped_cd cd_le (ped_callB bd_len ⟨rfl, p_len⟩ ⟨M.n_len, bi_len⟩ (pad_cons (ped_ix (ped_v n_is_clause_value) (ped_int) rfl (fun _ _ => rfl)) (pad_nil) (fun _ => rfl) rfl) (fun _ => rfl) (fun _ => rfl)) (ped_int) rfl rfl) (ped_and (ped_callB bd_all ⟨rfl, p_all⟩ ⟨M.n_all, bi_all⟩ (pad_cons (plc [("test", 1)] ⟨true, []⟩ (pid_tup (ped_ix (ped_v n_is_clause_value) (ped_int) rfl (fun _ _ => rfl))) rfl (by kernel_rfl) (pgd_ns (lc_blk rfl rfl)) (ptsd_nil) (ped_call (t_is_test M) (Nat.le_of_ble_eq_true rfl) ⟨rfl, p_is_test⟩ (pad_cons (ped_v ⟨rfl, .inl rfl, p_test⟩) (pad_nil) (fun _ => rfl) rfl) (fun _ => rfl) (fun _ => rfl)) (fun _ _ => rfl) rfl rfl rfl rfl rfl) (pad_nil) (fun _ => rfl) rfl) (fun _ => rfl) (fun _ => rfl)) (ped_one (ped_call (t_is_one_of M) (Nat.le_of_ble_eq_true rfl) ⟨rfl, p_is_one_of⟩ (pad_cons (ped_ix (ped_v n_is_clause_value) (ped_int) rfl (fun _ _ => rfl)) (pad_cons (ped_glob ⟨rfl, p_DEEDS⟩ M.g_DEEDS.gl) (pad_nil) (fun _ => rfl) rfl) (fun _ => rfl) rfl) (fun _ => rfl) (fun _ => rfl))))) rfl))
theorem t_is_clause {P w K mg base} (M : Md K mg) : FnD P w K mg base "is_clause" 2 1 [] m_is_clause := FnD.of M.d_is_clause sc_is_clause rfl rfl (fun _ _ _ _ _ _ us hl => match us, hl with | [_], _ => rfl) (u_is_clause M)
theorem sc_is_rule : FnScope ["value", "clause"] ["value"] (defScope s_is_rule) := fnScope_mk (by decide +kernel)
theorem n_is_rule_value {P w K mg base k} : Nm (defFam P w K mg base ["value", "clause"] (defScope s_is_rule) k sc_is_rule.nd) 0 "value" := ⟨rfl, .inl rfl, p_value⟩
theorem k_is_rule_value {P w K mg base k} : Lc (defFam P w K mg base ["value", "clause"] (defScope s_is_rule) k sc_is_rule.nd) 0 "value" := lc_def rfl (.inl rfl)
theorem u_is_rule {P w K mg base} (M : Md K mg) : PSsd (defFam P w K mg base ["value", "clause"] (defScope s_is_rule) 2 sc_is_rule.nd) [] (defBody s_is_rule) b_is_rule :=
  pssd_one (psr ⟨false, []⟩ (ped_and (ped_callB bd_isi ⟨rfl, p_isinstance⟩ ⟨M.n_isinstance, bi_isinstance⟩ (pad_cons (ped_v n_is_rule_value) (pad_cons (ped_type ⟨rfl, p_tuple⟩ ⟨M.n_tuple, bi_tuple⟩) (pad_nil) (fun _ => rfl) rfl) (fun _ => rfl) rfl) (fun _ => rfl) (fun _ => rfl)) (ped_and (ped_cd cd_le (ped_callB bd_len ⟨rfl, p_len⟩ ⟨M.n_len, bi_len⟩ (pad_cons (ped_v n_is_rule_value) (pad_nil) (fun _ => rfl) rfl) (fun _ => rfl) (fun _ => rfl)) (ped_glob ⟨rfl, p_MOST_CLAUSES⟩ M.g_MOST_CLAUSES.gl) rfl rfl) (ped_one (ped_callB bd_all ⟨rfl, p_all⟩ ⟨M.n_all, bi_all⟩ (pad_cons (plc [("clause", 1)] ⟨true, []⟩ (pid_tup (ped_v n_is_rule_value)) rfl (by kernel_rfl) (pgd_ns (lc_blk rfl rfl)) (ptsd_nil) (ped_call (t_is_clause M) (Nat.le_of_ble_eq_true rfl) ⟨rfl, p_is_clause⟩ (pad_cons (ped_v ⟨rfl, .inl rfl, p_clause⟩) (pad_nil) (fun _ => rfl) rfl) (fun _ => rfl) (fun _ => rfl)) (fun _ _ => rfl) rfl rfl rfl rfl rfl) (pad_nil) (fun _ => rfl) rfl) (fun _ => rfl) (fun _ => rfl))))) rfl)
theorem t_is_rule {P w K mg base} (M : Md K mg) : FnD P w K mg base "is_rule" 3 1 [] m_is_rule := FnD.of M.d_is_rule sc_is_rule rfl rfl (fun _ _ _ _ _ _ us hl => match us, hl with | [_], _ => rfl) (u_is_rule M)
theorem sc_l_odd : FnScope ["bag", "value", "some", "at", "way"] ["bag", "value"] (defScope s_l_odd) := fnScope_mk (by decide +kernel)
theorem n_l_odd_bag {P w K mg base k} : Nm (defFam P w K mg base ["bag", "value", "some", "at", "way"] (defScope s_l_odd) k sc_l_odd.nd) 0 "bag" := ⟨rfl, .inl rfl, p_bag⟩
theorem k_l_odd_bag {P w K mg base k} : Lc (defFam P w K mg base ["bag", "value", "some", "at", "way"] (defScope s_l_odd) k sc_l_odd.nd) 0 "bag" := lc_def rfl (.inl rfl)
theorem n_l_odd_value {P w K mg base k} : Nm (defFam P w K mg base ["bag", "value", "some", "at", "way"] (defScope s_l_odd) k sc_l_odd.nd) 1 "value" := ⟨rfl, .inl rfl, p_value⟩
theorem k_l_odd_value {P w K mg base k} : Lc (defFam P w K mg base ["bag", "value", "some", "at", "way"] (defScope s_l_odd) k sc_l_odd.nd) 1 "value" := lc_def rfl (.inl rfl)
theorem n_l_odd_some {P w K mg base k} : Nm (defFam P w K mg base ["bag", "value", "some", "at", "way"] (defScope s_l_odd) k sc_l_odd.nd) 2 "some" := ⟨rfl, .inl rfl, p_some⟩
theorem k_l_odd_some {P w K mg base k} : Lc (defFam P w K mg base ["bag", "value", "some", "at", "way"] (defScope s_l_odd) k sc_l_odd.nd) 2 "some" := lc_def rfl (.inl rfl)
theorem n_l_odd_at {P w K mg base k} : Nm (defFam P w K mg base ["bag", "value", "some", "at", "way"] (defScope s_l_odd) k sc_l_odd.nd) 3 "at" := ⟨rfl, .inl rfl, p_at⟩
theorem k_l_odd_at {P w K mg base k} : Lc (defFam P w K mg base ["bag", "value", "some", "at", "way"] (defScope s_l_odd) k sc_l_odd.nd) 3 "at" := lc_def rfl (.inl rfl)
theorem n_l_odd_way {P w K mg base k} : Nm (defFam P w K mg base ["bag", "value", "some", "at", "way"] (defScope s_l_odd) k sc_l_odd.nd) 4 "way" := ⟨rfl, .inl rfl, p_way⟩
theorem k_l_odd_way {P w K mg base k} : Lc (defFam P w K mg base ["bag", "value", "some", "at", "way"] (defScope s_l_odd) k sc_l_odd.nd) 4 "way" := lc_def rfl (.inl rfl)
theorem t_l_odd {P w K mg base} (M : Md K mg) : ∀ n : Nat, FnD P w K mg base "_law_odd" (1 + n) 2 [0] (m_l_odd n)
  | 0 => FnD.never (ps := ["bag", "value"]) M.d_l_odd (fun _ _ _ _ _ _ us hl => match us, hl with | [_, _], _ => rfl)
  | n + 1 => by
    have ih := t_l_odd (P := P) (w := w) (base := base) M n
    exact FnD.of M.d_l_odd sc_l_odd rfl rfl (fun _ _ _ _ _ _ us hl => match us, hl with | [_, _], _ => rfl)
      (pssd_cons (psd_if ((pwd_or (ptd_not (ptd_val (ped_callB bd_isi ⟨rfl, p_isinstance⟩ ⟨M.n_isinstance, bi_isinstance⟩ (pad_cons (ped_v n_l_odd_value) (pad_cons (ped_type ⟨rfl, p_tuple⟩ ⟨M.n_tuple, bi_tuple⟩) (pad_nil) (fun _ => rfl) rfl) (fun _ => rfl) rfl) (fun _ => rfl) (fun _ => rfl)) (fun _ _ => rfl))) (pwd_or1 (ptd_cd cd_eq (ped_callM (pp := 0) (kk := 1) (t_l_take M) (by show (1 : Nat) ≤ 1 + n; omega) ⟨rfl, p__law_take⟩ (pmd_m n_l_odd_bag (pmd_p (ped_int) (pmd_nil) (fun _ => rfl) rfl) (fun _ => rfl)) rfl rfl (fun _ => rfl) (fun _ => rfl)) (ped_int) rfl rfl))).pt) (pssd_cons (psn ⟨false, []⟩ (ped_lst (pad_cons (ped_non) (pad_cons (ped_bl) (pad_cons (ped_int) (pad_cons (ped_int) (pad_cons (ped_op od_pow (ped_int) (ped_int) rfl) (pad_cons (ped_str) (pad_cons (ped_str) (pad_cons (ped_str) (pad_cons (ped_str) (pad_cons (ped_str) (pad_cons (ped_str) (pad_cons (ped_str) (pad_nil) (fun _ => rfl) rfl) (fun _ => rfl) rfl) (fun _ => rfl) rfl) (fun _ => rfl) rfl) (fun _ => rfl) rfl) (fun _ => rfl) rfl) (fun _ => rfl) rfl) (fun _ => rfl) rfl) (fun _ => rfl) rfl) (fun _ => rfl) rfl) (fun _ => rfl) rfl) (fun _ => rfl) rfl)) rfl k_l_odd_some (fun _ _ => rfl) rfl) (pssd_cons (psn ⟨true, [2]⟩ (ped_op od_add (ped_b n_l_odd_some) (ped_lst (pad_cons (ped_str) (pad_cons (ped_str) (pad_cons (ped_str) (pad_cons (ped_str) (pad_cons (ped_str) (pad_cons (ped_tup (pad_nil)) (pad_cons (ped_lst (pad_nil)) (pad_cons (ped_tup (pad_cons (ped_str) (pad_nil) (fun _ => rfl) rfl)) (pad_cons (ped_tup (pad_cons (ped_tup (pad_nil)) (pad_cons (ped_str) (pad_nil) (fun _ => rfl) rfl) (fun _ => rfl) rfl)) (pad_cons (ped_tup (pad_cons (ped_int) (pad_cons (ped_int) (pad_nil) (fun _ => rfl) rfl) (fun _ => rfl) rfl)) (pad_cons (ped_str) (pad_nil) (fun _ => rfl) rfl) (fun _ => rfl) rfl) (fun _ => rfl) rfl) (fun _ => rfl) rfl) (fun _ => rfl) rfl) (fun _ => rfl) rfl) (fun _ => rfl) rfl) (fun _ => rfl) rfl) (fun _ => rfl) rfl) (fun _ => rfl) rfl) (fun _ => rfl) rfl)) rfl) rfl k_l_odd_some (fun _ _ => rfl) rfl) (pssd_one (psr ⟨false, []⟩ (ped_ix (ped_m n_l_odd_some) (ped_callM (pp := 0) (kk := 1) (t_l_take M) (by show (1 : Nat) ≤ 1 + n; omega) ⟨rfl, p__law_take⟩ (pmd_m n_l_odd_bag (pmd_p (ped_int) (pmd_nil) (fun _ => rfl) rfl) (fun _ => rfl)) rfl rfl (fun _ => rfl) (fun _ => rfl)) rfl (fun _ _ => rfl)) rfl)))) (pssd_nil)) (pssd_cons (psp ⟨false, []⟩ (pad_cons (ped_callM (pp := 0) (kk := 1) (t_l_take M) (by show (1 : Nat) ≤ 1 + n; omega) ⟨rfl, p__law_take⟩ (pmd_m n_l_odd_bag (pmd_p (ped_op od_add (ped_callB bd_len ⟨rfl, p_len⟩ ⟨M.n_len, bi_len⟩ (pad_cons (ped_v n_l_odd_value) (pad_nil) (fun _ => rfl) rfl) (fun _ => rfl) (fun _ => rfl)) (ped_int) rfl) (pmd_nil) (fun _ => rfl) rfl) (fun _ => rfl)) rfl rfl (fun _ => rfl) (fun _ => rfl)) (pad_cons (ped_callM (pp := 0) (kk := 1) (t_l_take M) (by show (1 : Nat) ≤ 1 + n; omega) ⟨rfl, p__law_take⟩ (pmd_m n_l_odd_bag (pmd_p (ped_int) (pmd_nil) (fun _ => rfl) rfl) (fun _ => rfl)) rfl rfl (fun _ => rfl) (fun _ => rfl)) (pad_nil) (fun _ => rfl) rfl) (fun _ => rfl) rfl) rfl rfl rfl (by decide) rfl rfl (by intro env h; cases env; cases h; kernel_rfl) (fun _ => rfl) rfl) (pssd_cons (psd_if (ptd_cd cd_eq (ped_v n_l_odd_way) (ped_int) rfl rfl) (pssd_one (psr ⟨true, []⟩ (ped_callT td_list ⟨rfl, p_list⟩ ⟨M.n_list, bi_list⟩ (pad_cons (ped_v n_l_odd_value) (pad_nil) (fun _ => rfl) rfl) (fun _ => rfl) (fun _ => rfl)) rfl)) (pssd_nil)) (pssd_cons (psd_if ((pwd_or (ptd_cd cd_eq (ped_v n_l_odd_way) (ped_int) rfl rfl) (pwd_or1 (ptd_cd cd_eq (ped_v n_l_odd_at) (ped_callB bd_len ⟨rfl, p_len⟩ ⟨M.n_len, bi_len⟩ (pad_cons (ped_v n_l_odd_value) (pad_nil) (fun _ => rfl) rfl) (fun _ => rfl) (fun _ => rfl)) rfl rfl))).pt) (pssd_one (psr ⟨true, []⟩ (ped_op od_add (ped_op od_add (ped_cut (ped_v n_l_odd_value) (pod_no) (pod_some (ped_v n_l_odd_at)) rfl) (ped_tup (pad_cons (ped_callM (pp := 0) (kk := 1) ih (by show 1 + n ≤ 1 + n; omega) ⟨rfl, p__law_odd⟩ (pmd_m n_l_odd_bag (pmd_p (ped_non) (pmd_nil) (fun _ => rfl) rfl) (fun _ => rfl)) rfl rfl (fun _ => rfl) (fun _ => rfl)) (pad_nil) (fun _ => rfl) rfl)) rfl) (ped_cut (ped_v n_l_odd_value) (pod_some (ped_v n_l_odd_at)) (pod_no) rfl) rfl) rfl)) (pssd_nil)) (pssd_cons (psd_if (ptd_cd cd_eq (ped_v n_l_odd_way) (ped_int) rfl rfl) (pssd_one (psr ⟨true, []⟩ (ped_op od_add (ped_op od_add (ped_cut (ped_v n_l_odd_value) (pod_no) (pod_some (ped_v n_l_odd_at)) rfl) (ped_cut (ped_v n_l_odd_value) (pod_some (ped_v n_l_odd_at)) (pod_some (ped_op od_add (ped_v n_l_odd_at) (ped_int) rfl)) rfl) rfl) (ped_cut (ped_v n_l_odd_value) (pod_some (ped_v n_l_odd_at)) (pod_no) rfl) rfl) rfl)) (pssd_nil)) (pssd_cons (psd_if (ptd_cd cd_eq (ped_v n_l_odd_way) (ped_int) rfl rfl) (pssd_one (psr ⟨true, []⟩ (ped_op od_add (ped_cut (ped_v n_l_odd_value) (pod_no) (pod_some (ped_v n_l_odd_at)) rfl) (ped_cut (ped_v n_l_odd_value) (pod_some (ped_op od_add (ped_v n_l_odd_at) (ped_int) rfl)) (pod_no) rfl) rfl) rfl)) (pssd_nil)) (pssd_one (psr ⟨true, []⟩ (ped_op od_add (ped_op od_add (ped_cut (ped_v n_l_odd_value) (pod_no) (pod_some (ped_v n_l_odd_at)) rfl) (ped_tup (pad_cons (ped_callM (pp := 0) (kk := 1) ih (by show 1 + n ≤ 1 + n; omega) ⟨rfl, p__law_odd⟩ (pmd_m n_l_odd_bag (pmd_p (ped_ix (ped_v n_l_odd_value) (ped_v n_l_odd_at) rfl (fun _ _ => rfl)) (pmd_nil) (fun _ => rfl) rfl) (fun _ => rfl)) rfl rfl (fun _ => rfl) (fun _ => rfl)) (pad_nil) (fun _ => rfl) rfl)) rfl) (ped_cut (ped_v n_l_odd_value) (pod_some (ped_op od_add (ped_v n_l_odd_at) (ped_int) rfl)) (pod_no) rfl) rfl) rfl))))))))
theorem sc_l_same : FnScope ["a", "b", "x", "y"] ["a", "b"] (defScope s_l_same) := fnScope_mk (by decide +kernel)
theorem n_l_same_a {P w K mg base k} : Nm (defFam P w K mg base ["a", "b", "x", "y"] (defScope s_l_same) k sc_l_same.nd) 0 "a" := ⟨rfl, .inl rfl, p_a⟩
theorem k_l_same_a {P w K mg base k} : Lc (defFam P w K mg base ["a", "b", "x", "y"] (defScope s_l_same) k sc_l_same.nd) 0 "a" := lc_def rfl (.inl rfl)
theorem n_l_same_b {P w K mg base k} : Nm (defFam P w K mg base ["a", "b", "x", "y"] (defScope s_l_same) k sc_l_same.nd) 1 "b" := ⟨rfl, .inl rfl, p_b⟩
theorem k_l_same_b {P w K mg base k} : Lc (defFam P w K mg base ["a", "b", "x", "y"] (defScope s_l_same) k sc_l_same.nd) 1 "b" := lc_def rfl (.inl rfl)
theorem t_l_same {P w K mg base} (M : Md K mg) : ∀ n : Nat, FnD P w K mg base "_law_same" (0 + n) 2 [] (m_l_same n)
  | 0 => FnD.never (ps := ["a", "b"]) M.d_l_same (fun _ _ _ _ _ _ us hl => match us, hl with | [_, _], _ => rfl)
  | n + 1 => by
    have ih := t_l_same (P := P) (w := w) (base := base) M n
    exact FnD.of M.d_l_same sc_l_same rfl rfl (fun _ _ _ _ _ _ us hl => match us, hl with | [_, _], _ => rfl)
      (pssd_cons (psd_if ((pwd_or ((pwd_and (ptd_val (ped_callB bd_isi ⟨rfl, p_isinstance⟩ ⟨M.n_isinstance, bi_isinstance⟩ (pad_cons (ped_v n_l_same_a) (pad_cons (ped_type ⟨rfl, p_list⟩ ⟨M.n_list, bi_list⟩) (pad_nil) (fun _ => rfl) rfl) (fun _ => rfl) rfl) (fun _ => rfl) (fun _ => rfl)) (fun _ _ => rfl)) (pwd_and1 (ptd_val (ped_callB bd_isi ⟨rfl, p_isinstance⟩ ⟨M.n_isinstance, bi_isinstance⟩ (pad_cons (ped_v n_l_same_b) (pad_cons (ped_type ⟨rfl, p_list⟩ ⟨M.n_list, bi_list⟩) (pad_nil) (fun _ => rfl) rfl) (fun _ => rfl) rfl) (fun _ => rfl) (fun _ => rfl)) (fun _ _ => rfl)))).pt) (pwd_or1 ((pwd_and (ptd_val (ped_callB bd_isi ⟨rfl, p_isinstance⟩ ⟨M.n_isinstance, bi_isinstance⟩ (pad_cons (ped_v n_l_same_a) (pad_cons (ped_type ⟨rfl, p_tuple⟩ ⟨M.n_tuple, bi_tuple⟩) (pad_nil) (fun _ => rfl) rfl) (fun _ => rfl) rfl) (fun _ => rfl) (fun _ => rfl)) (fun _ _ => rfl)) (pwd_and1 (ptd_val (ped_callB bd_isi ⟨rfl, p_isinstance⟩ ⟨M.n_isinstance, bi_isinstance⟩ (pad_cons (ped_v n_l_same_b) (pad_cons (ped_type ⟨rfl, p_tuple⟩ ⟨M.n_tuple, bi_tuple⟩) (pad_nil) (fun _ => rfl) rfl) (fun _ => rfl) rfl) (fun _ => rfl) (fun _ => rfl)) (fun _ _ => rfl)))).pt))).pt) (pssd_one (psr ⟨false, []⟩ (ped_and (ped_cd cd_eq (ped_callB bd_len ⟨rfl, p_len⟩ ⟨M.n_len, bi_len⟩ (pad_cons (ped_v n_l_same_a) (pad_nil) (fun _ => rfl) rfl) (fun _ => rfl) (fun _ => rfl)) (ped_callB bd_len ⟨rfl, p_len⟩ ⟨M.n_len, bi_len⟩ (pad_cons (ped_v n_l_same_b) (pad_nil) (fun _ => rfl) rfl) (fun _ => rfl) (fun _ => rfl)) rfl rfl) (ped_one (ped_callB bd_all ⟨rfl, p_all⟩ ⟨M.n_all, bi_all⟩ (pad_cons (plc [("x", 2), ("y", 3)] ⟨true, []⟩ (pid_zip ⟨rfl, p_zip⟩ M.n_zip (pad_cons (ped_v n_l_same_a) (pad_cons (ped_v n_l_same_b) (pad_nil) (fun _ => rfl) rfl) (fun _ => rfl) rfl) (fun _ => rfl) (fun _ => rfl)) rfl (by kernel_rfl) (pgd_t (n := 2) (pgsd_cons (pgd_ns (lc_blk rfl rfl)) (pgsd_cons (pgd_ns (lc_blk rfl rfl)) (pgsd_nil) (fun _ => rfl)) (fun _ => rfl)) (gs_len (gs_len (gs_len0))) (fun _ => rfl) (fun _ => rfl)) (ptsd_nil) (ped_call ih (by show 0 + n ≤ 0 + n; omega) ⟨rfl, p__law_same⟩ (pad_cons (ped_v ⟨rfl, .inl rfl, p_x⟩) (pad_cons (ped_v ⟨rfl, .inl rfl, p_y⟩) (pad_nil) (fun _ => rfl) rfl) (fun _ => rfl) rfl) (fun _ => rfl) (fun _ => rfl)) (fun _ _ => rfl) rfl rfl rfl rfl rfl) (pad_nil) (fun _ => rfl) rfl) (fun _ => rfl) (fun _ => rfl)))) rfl)) (pssd_nil)) (pssd_cons (psd_if ((pwd_or (ptd_val (ped_isiT ⟨rfl, p_isinstance⟩ ⟨M.n_isinstance, bi_isinstance⟩ (ped_v n_l_same_a) (pad_cons (ped_type ⟨rfl, p_bool⟩ ⟨M.n_bool, bi_bool⟩) (pad_cons (ped_type ⟨rfl, p_list⟩ ⟨M.n_list, bi_list⟩) (pad_cons (ped_type ⟨rfl, p_tuple⟩ ⟨M.n_tuple, bi_tuple⟩) (pad_nil) (fun _ => rfl) rfl) (fun _ => rfl) rfl) (fun _ => rfl) rfl) rfl (fun _ => rfl) (fun _ => rfl) (fun _ => rfl)) (fun _ _ => rfl)) (pwd_or1 (ptd_val (ped_isiT ⟨rfl, p_isinstance⟩ ⟨M.n_isinstance, bi_isinstance⟩ (ped_v n_l_same_b) (pad_cons (ped_type ⟨rfl, p_bool⟩ ⟨M.n_bool, bi_bool⟩) (pad_cons (ped_type ⟨rfl, p_list⟩ ⟨M.n_list, bi_list⟩) (pad_cons (ped_type ⟨rfl, p_tuple⟩ ⟨M.n_tuple, bi_tuple⟩) (pad_nil) (fun _ => rfl) rfl) (fun _ => rfl) rfl) (fun _ => rfl) rfl) rfl (fun _ => rfl) (fun _ => rfl) (fun _ => rfl)) (fun _ _ => rfl)))).pt) (pssd_one (psr ⟨true, []⟩ (ped_and (ped_callB bd_isi ⟨rfl, p_isinstance⟩ ⟨M.n_isinstance, bi_isinstance⟩ (pad_cons (ped_v n_l_same_a) (pad_cons (ped_type ⟨rfl, p_bool⟩ ⟨M.n_bool, bi_bool⟩) (pad_nil) (fun _ => rfl) rfl) (fun _ => rfl) rfl) (fun _ => rfl) (fun _ => rfl)) (ped_and (ped_callB bd_isi ⟨rfl, p_isinstance⟩ ⟨M.n_isinstance, bi_isinstance⟩ (pad_cons (ped_v n_l_same_b) (pad_cons (ped_type ⟨rfl, p_bool⟩ ⟨M.n_bool, bi_bool⟩) (pad_nil) (fun _ => rfl) rfl) (fun _ => rfl) rfl) (fun _ => rfl) (fun _ => rfl)) (ped_one (ped_cd cd_eq (ped_v n_l_same_a) (ped_v n_l_same_b) rfl rfl)))) rfl)) (pssd_nil)) (pssd_cons (psd_if ((pwd_or (ptd_val (ped_callB bd_isi ⟨rfl, p_isinstance⟩ ⟨M.n_isinstance, bi_isinstance⟩ (pad_cons (ped_v n_l_same_a) (pad_cons (ped_type ⟨rfl, p_int⟩ ⟨M.n_int, bi_int⟩) (pad_nil) (fun _ => rfl) rfl) (fun _ => rfl) rfl) (fun _ => rfl) (fun _ => rfl)) (fun _ _ => rfl)) (pwd_or1 (ptd_val (ped_callB bd_isi ⟨rfl, p_isinstance⟩ ⟨M.n_isinstance, bi_isinstance⟩ (pad_cons (ped_v n_l_same_b) (pad_cons (ped_type ⟨rfl, p_int⟩ ⟨M.n_int, bi_int⟩) (pad_nil) (fun _ => rfl) rfl) (fun _ => rfl) rfl) (fun _ => rfl) (fun _ => rfl)) (fun _ _ => rfl)))).pt) (pssd_one (psr ⟨true, []⟩ (ped_and (ped_callB bd_isi ⟨rfl, p_isinstance⟩ ⟨M.n_isinstance, bi_isinstance⟩ (pad_cons (ped_v n_l_same_a) (pad_cons (ped_type ⟨rfl, p_int⟩ ⟨M.n_int, bi_int⟩) (pad_nil) (fun _ => rfl) rfl) (fun _ => rfl) rfl) (fun _ => rfl) (fun _ => rfl)) (ped_and (ped_callB bd_isi ⟨rfl, p_isinstance⟩ ⟨M.n_isinstance, bi_isinstance⟩ (pad_cons (ped_v n_l_same_b) (pad_cons (ped_type ⟨rfl, p_int⟩ ⟨M.n_int, bi_int⟩) (pad_nil) (fun _ => rfl) rfl) (fun _ => rfl) rfl) (fun _ => rfl) (fun _ => rfl)) (ped_one (ped_cd cd_eq (ped_v n_l_same_a) (ped_v n_l_same_b) rfl rfl)))) rfl)) (pssd_nil)) (pssd_cons (psd_if ((pwd_or (ptd_val (ped_callB bd_isi ⟨rfl, p_isinstance⟩ ⟨M.n_isinstance, bi_isinstance⟩ (pad_cons (ped_v n_l_same_a) (pad_cons (ped_type ⟨rfl, p_str⟩ ⟨M.n_str, bi_str⟩) (pad_nil) (fun _ => rfl) rfl) (fun _ => rfl) rfl) (fun _ => rfl) (fun _ => rfl)) (fun _ _ => rfl)) (pwd_or1 (ptd_val (ped_callB bd_isi ⟨rfl, p_isinstance⟩ ⟨M.n_isinstance, bi_isinstance⟩ (pad_cons (ped_v n_l_same_b) (pad_cons (ped_type ⟨rfl, p_str⟩ ⟨M.n_str, bi_str⟩) (pad_nil) (fun _ => rfl) rfl) (fun _ => rfl) rfl) (fun _ => rfl) (fun _ => rfl)) (fun _ _ => rfl)))).pt) (pssd_one (psr ⟨true, []⟩ (ped_and (ped_callB bd_isi ⟨rfl, p_isinstance⟩ ⟨M.n_isinstance, bi_isinstance⟩ (pad_cons (ped_v n_l_same_a) (pad_cons (ped_type ⟨rfl, p_str⟩ ⟨M.n_str, bi_str⟩) (pad_nil) (fun _ => rfl) rfl) (fun _ => rfl) rfl) (fun _ => rfl) (fun _ => rfl)) (ped_and (ped_callB bd_isi ⟨rfl, p_isinstance⟩ ⟨M.n_isinstance, bi_isinstance⟩ (pad_cons (ped_v n_l_same_b) (pad_cons (ped_type ⟨rfl, p_str⟩ ⟨M.n_str, bi_str⟩) (pad_nil) (fun _ => rfl) rfl) (fun _ => rfl) rfl) (fun _ => rfl) (fun _ => rfl)) (ped_one (ped_cd cd_eq (ped_v n_l_same_a) (ped_v n_l_same_b) rfl rfl)))) rfl)) (pssd_nil)) (pssd_one (psr ⟨true, []⟩ (ped_and (ped_cd cd_is (ped_v n_l_same_a) (ped_non) rfl rfl) (ped_one (ped_cd cd_is (ped_v n_l_same_b) (ped_non) rfl rfl))) rfl))))))
theorem sc_l_deeds : FnScope [] [] (defScope s_l_deeds) := fnScope_mk (by decide +kernel)
theorem u_l_deeds {P w K mg base} (M : Md K mg) : PSsd (defFam P w K mg base [] (defScope s_l_deeds) 0 sc_l_deeds.nd) [] (defBody s_l_deeds) b_l_deeds :=
  pssd_one (psr ⟨false, []⟩ (ped_lst (pad_cons (ped_str) (pad_cons (ped_str) (pad_cons (ped_str) (pad_cons (ped_str) (pad_nil) (fun _ => rfl) rfl) (fun _ => rfl) rfl) (fun _ => rfl) rfl) (fun _ => rfl) rfl)) rfl)
theorem t_l_deeds {P w K mg base} (M : Md K mg) : FnD P w K mg base "_law_deeds" 1 0 [] m_l_deeds := FnD.of M.d_l_deeds sc_l_deeds rfl rfl (fun _ _ _ _ _ _ us hl => match us, hl with | [], _ => rfl) (u_l_deeds M)
theorem sc_l_is_clause : FnScope ["value", "words", "word", "test"] ["value"] (defScope s_l_is_clause) := fnScope_mk (by decide +kernel)
theorem n_l_is_clause_value {P w K mg base k} : Nm (defFam P w K mg base ["value", "words", "word", "test"] (defScope s_l_is_clause) k sc_l_is_clause.nd) 0 "value" := ⟨rfl, .inl rfl, p_value⟩
theorem k_l_is_clause_value {P w K mg base k} : Lc (defFam P w K mg base ["value", "words", "word", "test"] (defScope s_l_is_clause) k sc_l_is_clause.nd) 0 "value" := lc_def rfl (.inl rfl)
theorem n_l_is_clause_words {P w K mg base k} : Nm (defFam P w K mg base ["value", "words", "word", "test"] (defScope s_l_is_clause) k sc_l_is_clause.nd) 1 "words" := ⟨rfl, .inr (.inl rfl), p_words⟩
theorem k_l_is_clause_words {P w K mg base k} : Lc (defFam P w K mg base ["value", "words", "word", "test"] (defScope s_l_is_clause) k sc_l_is_clause.nd) 1 "words" := lc_def rfl (.inr rfl)
theorem u_l_is_clause {P w K mg base} (M : Md K mg) : PSsd (defFam P w K mg base ["value", "words", "word", "test"] (defScope s_l_is_clause) 1 sc_l_is_clause.nd) [] (defBody s_l_is_clause) b_l_is_clause :=
  pssd_cons (psns ⟨true, []⟩ (ped_op od_add (ped_call0 (t_l_tests M) (Nat.le_of_ble_eq_true rfl) ⟨rfl, p__law_tests⟩) (plc [("word", 2)] ⟨false, []⟩ (pid_list (ped_call0 (t_l_tests M) (Nat.le_of_ble_eq_true rfl) ⟨rfl, p__law_tests⟩)) rfl (by kernel_rfl) (pgd_ns (lc_blk rfl rfl)) (ptsd_nil) (ped_op od_add (ped_str) (ped_v ⟨rfl, .inl rfl, p_word⟩) rfl) (fun _ _ => rfl) rfl rfl rfl rfl rfl) rfl) rfl k_l_is_clause_words (fun _ _ => rfl) rfl) (pssd_cons (psd_if ((pwd_or (ptd_not (ptd_val (ped_callB bd_isi ⟨rfl, p_isinstance⟩ ⟨M.n_isinstance, bi_isinstance⟩ (pad_cons (ped_v n_l_is_clause_value) (pad_cons (ped_type ⟨rfl, p_tuple⟩ ⟨M.n_tuple, bi_tuple⟩) (pad_nil) (fun _ => rfl) rfl) (fun _ => rfl) rfl) (fun _ => rfl) (fun _ => rfl)) (fun _ _ => rfl))) (pwd_or (ptd_cd cd_ne (ped_callB bd_len ⟨rfl, p_len⟩ ⟨M.n_len, bi_len⟩ (pad_cons (ped_v n_l_is_clause_value) (pad_nil) (fun _ => rfl) rfl) (fun _ => rfl) (fun _ => rfl)) (ped_int) rfl rfl) (pwd_or (ptd_not (ptd_val (ped_callB bd_isi ⟨rfl, p_isinstance⟩ ⟨M.n_isinstance, bi_isinstance⟩ (pad_cons (ped_ix (ped_v n_l_is_clause_value) (ped_int) rfl (fun _ _ => rfl)) (pad_cons (ped_type ⟨rfl, p_tuple⟩ ⟨M.n_tuple, bi_tuple⟩) (pad_nil) (fun _ => rfl) rfl) (fun _ => rfl) rfl) (fun _ => rfl) (fun _ => rfl)) (fun _ _ => rfl))) (pwd_or1 (ptd_cd cd_gt (ped_callB bd_len ⟨rfl, p_len⟩ ⟨M.n_len, bi_len⟩ (pad_cons (ped_ix (ped_v n_l_is_clause_value) (ped_int) rfl (fun _ _ => rfl)) (pad_nil) (fun _ => rfl) rfl) (fun _ => rfl) (fun _ => rfl)) (ped_int) rfl rfl))))).pt) (pssd_one (psr ⟨false, []⟩ (ped_bl) rfl)) (pssd_nil)) (pssd_cons (psd_if (ptd_cd cd_ne (plc [("test", 3)] ⟨true, []⟩ (pid_tup (ped_ix (ped_v n_l_is_clause_value) (ped_int) rfl (fun _ _ => rfl))) rfl (by kernel_rfl) (pgd_ns (lc_blk rfl rfl)) (ptsd_one ((pwd_or (ptd_not (ptd_val (ped_callB bd_isi ⟨rfl, p_isinstance⟩ ⟨M.n_isinstance, bi_isinstance⟩ (pad_cons (ped_v ⟨rfl, .inl rfl, p_test⟩) (pad_cons (ped_type ⟨rfl, p_str⟩ ⟨M.n_str, bi_str⟩) (pad_nil) (fun _ => rfl) rfl) (fun _ => rfl) rfl) (fun _ => rfl) (fun _ => rfl)) (fun _ _ => rfl))) (pwd_or1 (ptd_cd cd_notIn (ped_v ⟨rfl, .inl rfl, p_test⟩) (ped_v ⟨rfl, .inr (.inl rfl), p_words⟩) rfl rfl))).pt)) (ped_int) (fun _ _ => rfl) rfl rfl rfl rfl rfl) (ped_lst (pad_nil)) rfl rfl) (pssd_one (psr ⟨false, []⟩ (ped_bl) rfl)) (pssd_nil)) (pssd_one (psr ⟨true, []⟩ (ped_and (ped_callB bd_isi ⟨rfl, p_isinstance⟩ ⟨M.n_isinstance, bi_isinstance⟩ (pad_cons (ped_ix (ped_v n_l_is_clause_value) (ped_int) rfl (fun _ _ => rfl)) (pad_cons (ped_type ⟨rfl, p_str⟩ ⟨M.n_str, bi_str⟩) (pad_nil) (fun _ => rfl) rfl) (fun _ => rfl) rfl) (fun _ => rfl) (fun _ => rfl)) (ped_one (ped_cd cd_in (ped_ix (ped_v n_l_is_clause_value) (ped_int) rfl (fun _ _ => rfl)) (ped_call0 (t_l_deeds M) (Nat.le_of_ble_eq_true rfl) ⟨rfl, p__law_deeds⟩) rfl rfl))) rfl))))
theorem t_l_is_clause {P w K mg base} (M : Md K mg) : FnD P w K mg base "_law_is_clause" 2 1 [] m_l_is_clause := FnD.of M.d_l_is_clause sc_l_is_clause rfl rfl (fun _ _ _ _ _ _ us hl => match us, hl with | [_], _ => rfl) (u_l_is_clause M)
theorem sc_l_is_rule : FnScope ["value", "clause"] ["value"] (defScope s_l_is_rule) := fnScope_mk (by decide +kernel)
theorem n_l_is_rule_value {P w K mg base k} : Nm (defFam P w K mg base ["value", "clause"] (defScope s_l_is_rule) k sc_l_is_rule.nd) 0 "value" := ⟨rfl, .inl rfl, p_value⟩
theorem k_l_is_rule_value {P w K mg base k} : Lc (defFam P w K mg base ["value", "clause"] (defScope s_l_is_rule) k sc_l_is_rule.nd) 0 "value" := lc_def rfl (.inl rfl)
theorem u_l_is_rule {P w K mg base} (M : Md K mg) : PSsd (defFam P w K mg base ["value", "clause"] (defScope s_l_is_rule) 2 sc_l_is_rule.nd) [] (defBody s_l_is_rule) b_l_is_rule :=
  pssd_cons (psd_if ((pwd_or (ptd_not (ptd_val (ped_callB bd_isi ⟨rfl, p_isinstance⟩ ⟨M.n_isinstance, bi_isinstance⟩ (pad_cons (ped_v n_l_is_rule_value) (pad_cons (ped_type ⟨rfl, p_tuple⟩ ⟨M.n_tuple, bi_tuple⟩) (pad_nil) (fun _ => rfl) rfl) (fun _ => rfl) rfl) (fun _ => rfl) (fun _ => rfl)) (fun _ _ => rfl))) (pwd_or1 (ptd_cd cd_gt (ped_callB bd_len ⟨rfl, p_len⟩ ⟨M.n_len, bi_len⟩ (pad_cons (ped_v n_l_is_rule_value) (pad_nil) (fun _ => rfl) rfl) (fun _ => rfl) (fun _ => rfl)) (ped_int) rfl rfl))).pt) (pssd_one (psr ⟨false, []⟩ (ped_bl) rfl)) (pssd_nil)) (pssd_one (psr ⟨false, []⟩ (ped_cd cd_eq (plc [("clause", 1)] ⟨true, []⟩ (pid_tup (ped_v n_l_is_rule_value)) rfl (by kernel_rfl) (pgd_ns (lc_blk rfl rfl)) (ptsd_one (ptd_not (ptd_val (ped_call (t_l_is_clause M) (Nat.le_of_ble_eq_true rfl) ⟨rfl, p__law_is_clause⟩ (pad_cons (ped_v ⟨rfl, .inl rfl, p_clause⟩) (pad_nil) (fun _ => rfl) rfl) (fun _ => rfl) (fun _ => rfl)) (fun _ _ => rfl)))) (ped_int) (fun _ _ => rfl) rfl rfl rfl rfl rfl) (ped_lst (pad_nil)) rfl rfl) rfl))
theorem t_l_is_rule {P w K mg base} (M : Md K mg) : FnD P w K mg base "_law_is_rule" 3 1 [] m_l_is_rule := FnD.of M.d_l_is_rule sc_l_is_rule rfl rfl (fun _ _ _ _ _ _ us hl => match us, hl with | [_], _ => rfl) (u_l_is_rule M)
theorem sc_law : FnScope ["script", "bag", "rule", "some", "turn", "one", "words", "word"] ["script"] (defScope s_law) := fnScope_mk (by decide +kernel)
theorem n_law_script {P w K mg base k} : Nm (defFam P w K mg base ["script", "bag", "rule", "some", "turn", "one", "words", "word"] (defScope s_law) k sc_law.nd) 0 "script" := ⟨rfl, .inl rfl, p_script⟩
theorem k_law_script {P w K mg base k} : Lc (defFam P w K mg base ["script", "bag", "rule", "some", "turn", "one", "words", "word"] (defScope s_law) k sc_law.nd) 0 "script" := lc_def rfl (.inl rfl)
theorem n_law_bag {P w K mg base k} : Nm (defFam P w K mg base ["script", "bag", "rule", "some", "turn", "one", "words", "word"] (defScope s_law) k sc_law.nd) 1 "bag" := ⟨rfl, .inl rfl, p_bag⟩
theorem k_law_bag {P w K mg base k} : Lc (defFam P w K mg base ["script", "bag", "rule", "some", "turn", "one", "words", "word"] (defScope s_law) k sc_law.nd) 1 "bag" := lc_def rfl (.inl rfl)
theorem n_law_rule {P w K mg base k} : Nm (defFam P w K mg base ["script", "bag", "rule", "some", "turn", "one", "words", "word"] (defScope s_law) k sc_law.nd) 2 "rule" := ⟨rfl, .inl rfl, p_rule⟩
theorem k_law_rule {P w K mg base k} : Lc (defFam P w K mg base ["script", "bag", "rule", "some", "turn", "one", "words", "word"] (defScope s_law) k sc_law.nd) 2 "rule" := lc_def rfl (.inl rfl)
theorem n_law_some {P w K mg base k} : Nm (defFam P w K mg base ["script", "bag", "rule", "some", "turn", "one", "words", "word"] (defScope s_law) k sc_law.nd) 3 "some" := ⟨rfl, .inl rfl, p_some⟩
theorem k_law_some {P w K mg base k} : Lc (defFam P w K mg base ["script", "bag", "rule", "some", "turn", "one", "words", "word"] (defScope s_law) k sc_law.nd) 3 "some" := lc_def rfl (.inl rfl)
theorem n_law_turn {P w K mg base k} : Nm (defFam P w K mg base ["script", "bag", "rule", "some", "turn", "one", "words", "word"] (defScope s_law) k sc_law.nd) 4 "turn" := ⟨rfl, .inl rfl, p_turn⟩
theorem k_law_turn {P w K mg base k} : Lc (defFam P w K mg base ["script", "bag", "rule", "some", "turn", "one", "words", "word"] (defScope s_law) k sc_law.nd) 4 "turn" := lc_def rfl (.inl rfl)
theorem n_law_words {P w K mg base k} : Nm (defFam P w K mg base ["script", "bag", "rule", "some", "turn", "one", "words", "word"] (defScope s_law) k sc_law.nd) 6 "words" := ⟨rfl, .inl rfl, p_words⟩
theorem k_law_words {P w K mg base k} : Lc (defFam P w K mg base ["script", "bag", "rule", "some", "turn", "one", "words", "word"] (defScope s_law) k sc_law.nd) 6 "words" := lc_def rfl (.inl rfl)
theorem u_law {P w K mg base} (M : Md K mg) : PSsd (defFam P w K mg base ["script", "bag", "rule", "some", "turn", "one", "words", "word"] (defScope s_law) 6 sc_law.nd) [] (defBody s_law) b_law :=
  pssd_cons (psf ⟨false, []⟩ (pid_list (ped_call (t_l_bags M) (Nat.le_of_ble_eq_true rfl) ⟨rfl, p__law_bags⟩ (pad_cons (ped_v n_law_script) (pad_cons (ped_int) (pad_nil) (fun _ => rfl) rfl) (fun _ => rfl) rfl) (fun _ => rfl) (fun _ => rfl))) rfl (pgd_n (k_law_bag)) (pssd_cons (psns ⟨false, []⟩ (ped_callM (pp := 0) (kk := 1) (t_l_rule M) (Nat.le_of_ble_eq_true rfl) ⟨rfl, p__law_rule⟩ (pmd_m n_law_bag (pmd_p (ped_int) (pmd_nil) (fun _ => rfl) rfl) (fun _ => rfl)) rfl rfl (fun _ => rfl) (fun _ => rfl)) rfl k_law_rule (fun _ _ => rfl) rfl) (pssd_cons (psn ⟨true, []⟩ (ped_lst (pad_cons (ped_v n_law_rule) (pad_cons (ped_op od_add (ped_v n_law_rule) (ped_op od_mulA (ped_tup (pad_cons (ped_tup (pad_cons (ped_tup (pad_cons (ped_str) (pad_nil) (fun _ => rfl) rfl)) (pad_cons (ped_str) (pad_nil) (fun _ => rfl) rfl) (fun _ => rfl) rfl)) (pad_nil) (fun _ => rfl) rfl)) (ped_op od_sub (ped_int) (ped_callB bd_len ⟨rfl, p_len⟩ ⟨M.n_len, bi_len⟩ (pad_cons (ped_v n_law_rule) (pad_nil) (fun _ => rfl) rfl) (fun _ => rfl) (fun _ => rfl)) rfl) rfl) rfl) (pad_cons (ped_op od_add (ped_v n_law_rule) (ped_tup (pad_cons (ped_tup (pad_cons (ped_op od_mulA (ped_tup (pad_cons (ped_str) (pad_nil) (fun _ => rfl) rfl)) (ped_int) rfl) (pad_cons (ped_str) (pad_nil) (fun _ => rfl) rfl) (fun _ => rfl) rfl)) (pad_nil) (fun _ => rfl) rfl)) rfl) (pad_cons (ped_glob ⟨rfl, p_CAREFUL⟩ M.g_CAREFUL.gl) (pad_nil) (fun _ => rfl) rfl) (fun _ => rfl) rfl) (fun _ => rfl) rfl) (fun _ => rfl) rfl)) rfl k_law_some (fun _ _ => rfl) rfl) (pssd_cons (psf ⟨false, []⟩ (pid_rg1 ⟨rfl, p_range⟩ M.n_range (pad_cons (ped_int) (pad_nil) (fun _ => rfl) rfl) (fun _ => rfl)) rfl (pgd_ns (k_law_turn)) (pssd_one (psapp ⟨false, []⟩ (ppd_n n_law_some) (ped_callM (pp := 0) (kk := 1) (t_l_odd M 4) (Nat.le_of_ble_eq_true rfl) ⟨rfl, p__law_odd⟩ (pmd_m n_law_bag (pmd_p (ped_v n_law_rule) (pmd_nil) (fun _ => rfl) rfl) (fun _ => rfl)) rfl rfl (fun _ => rfl) (fun _ => rfl)) rfl rfl (fun _ => rfl) (fun _ => rfl) (fun _ => rfl) rfl (fun _ => rfl) (fun _ => rfl))) rfl rfl (fun _ _ => rfl)) (pssd_one (psd_if (ptd_cd cd_ne (plc [("one", 5)] ⟨false, []⟩ (pid_list (ped_m n_law_some)) rfl (by kernel_rfl) (pgd_ns (lc_blk rfl rfl)) (ptsd_one (ptd_not (ptd_val (ped_call (t_l_same M 1) (Nat.le_of_ble_eq_true rfl) ⟨rfl, p__law_same⟩ (pad_cons (ped_call (t_is_rule M) (Nat.le_of_ble_eq_true rfl) ⟨rfl, p_is_rule⟩ (pad_cons (ped_v ⟨rfl, .inl rfl, p_one⟩) (pad_nil) (fun _ => rfl) rfl) (fun _ => rfl) (fun _ => rfl)) (pad_cons (ped_call (t_l_is_rule M) (Nat.le_of_ble_eq_true rfl) ⟨rfl, p__law_is_rule⟩ (pad_cons (ped_v ⟨rfl, .inl rfl, p_one⟩) (pad_nil) (fun _ => rfl) rfl) (fun _ => rfl) (fun _ => rfl)) (pad_nil) (fun _ => rfl) rfl) (fun _ => rfl) rfl) (fun _ => rfl) (fun _ => rfl)) (fun _ _ => rfl)))) (ped_int) (fun _ _ => rfl) rfl rfl rfl rfl rfl) (ped_lst (pad_nil)) rfl rfl) (pssd_one (psr ⟨false, []⟩ (ped_bl) rfl)) (pssd_nil)))))) rfl rfl (fun _ _ => rfl)) (pssd_cons (psns ⟨true, []⟩ (ped_op od_add (ped_call0 (t_l_tests M) (Nat.le_of_ble_eq_true rfl) ⟨rfl, p__law_tests⟩) (plc [("word", 7)] ⟨false, []⟩ (pid_list (ped_call0 (t_l_tests M) (Nat.le_of_ble_eq_true rfl) ⟨rfl, p__law_tests⟩)) rfl (by kernel_rfl) (pgd_ns (lc_blk rfl rfl)) (ptsd_nil) (ped_op od_add (ped_str) (ped_v ⟨rfl, .inl rfl, p_word⟩) rfl) (fun _ _ => rfl) rfl rfl rfl rfl rfl) rfl) rfl k_law_words (fun _ _ => rfl) rfl) (pssd_one (psr ⟨false, []⟩ (ped_and (ped_cd cd_eq (plc [("word", 7)] ⟨true, []⟩ (pid_list (ped_v n_law_words)) rfl (by kernel_rfl) (pgd_ns (lc_blk rfl rfl)) (ptsd_one (ptd_not (ptd_val (ped_call (t_is_rule M) (Nat.le_of_ble_eq_true rfl) ⟨rfl, p_is_rule⟩ (pad_cons (ped_tup (pad_cons (ped_tup (pad_cons (ped_tup (pad_cons (ped_v ⟨rfl, .inl rfl, p_word⟩) (pad_nil) (fun _ => rfl) rfl)) (pad_cons (ped_str) (pad_nil) (fun _ => rfl) rfl) (fun _ => rfl) rfl)) (pad_nil) (fun _ => rfl) rfl)) (pad_nil) (fun _ => rfl) rfl) (fun _ => rfl) (fun _ => rfl)) (fun _ _ => rfl)))) (ped_v ⟨rfl, .inl rfl, p_word⟩) (fun _ _ => rfl) rfl rfl rfl rfl rfl) (ped_lst (pad_nil)) rfl rfl) (ped_one (ped_not (ped_call (t_is_rule M) (Nat.le_of_ble_eq_true rfl) ⟨rfl, p_is_rule⟩ (pad_cons (ped_tup (pad_cons (ped_tup (pad_cons (ped_tup (pad_cons (ped_str) (pad_nil) (fun _ => rfl) rfl)) (pad_cons (ped_str) (pad_nil) (fun _ => rfl) rfl) (fun _ => rfl) rfl)) (pad_nil) (fun _ => rfl) rfl)) (pad_nil) (fun _ => rfl) rfl) (fun _ => rfl) (fun _ => rfl))))) rfl)))
theorem law_fn {P w K mg base f fd} (M : Md K mg) (F : L2.Fun K "law" "law" s_law f fd) : FnOk P w K mg base CX0 7 f fd ["script"] (spD ⟨P, w, K⟩ 1 [] m_law) := fn_ok F sc_law rfl (u_law M)
theorem law_binds {K f fd} (F : L2.Fun K "law" "law" s_law f fd) (s : Shared) (u : Value) : BindsTo s fd ⟨[u], []⟩ [("script", u)] := by
  obtain ⟨_, _, _, _, _, _, _, _, _, rfl, _, _⟩ := F.ex
  exact .of_eq rfl
theorem end_of {P : Program} {w : World} {K : PySem.W.Frag} {h : Heap} {mg : Str → Option Value} {fa : Addr} (X : K.In h) (G : h.Ns mainGlobals mg) (hmg : mg "law" = some (.ref fa))
    {f0 : Addr} {od0 an0 : Option Addr} {sl0 : Array (Option Value)} {oc0 kV0 dc0 pm0 cd0 ct0 : Value} (a0 : PySem.W.nsIn K mainGlobals "_law_well" = some (some (.ref f0))) (l0 : K.lookup f0 = some ⟨oc0, od0, .func (PySem.W.fnOf "_law_well" "_law_well" (defArgs s_l_well) (defBody s_l_well) (defScope s_l_well) .none kV0 dc0 pm0 an0 cd0 ct0), sl0⟩) (c0 : PySem.W.codeIn K cd0 "_law_well" = true) (k0 : PySem.W.keepIn K (.ref f0) = true)
    {f1 : Addr} {od1 an1 : Option Addr} {sl1 : Array (Option Value)} {oc1 kV1 dc1 pm1 cd1 ct1 : Value} (a1 : PySem.W.nsIn K mainGlobals "_law_bags" = some (some (.ref f1))) (l1 : K.lookup f1 = some ⟨oc1, od1, .func (PySem.W.fnOf "_law_bags" "_law_bags" (defArgs s_l_bags) (defBody s_l_bags) (defScope s_l_bags) .none kV1 dc1 pm1 an1 cd1 ct1), sl1⟩) (c1 : PySem.W.codeIn K cd1 "_law_bags" = true) (k1 : PySem.W.keepIn K (.ref f1) = true)
    {f2 : Addr} {od2 an2 : Option Addr} {sl2 : Array (Option Value)} {oc2 kV2 dc2 pm2 cd2 ct2 : Value} (a2 : PySem.W.nsIn K mainGlobals "_law_take" = some (some (.ref f2))) (l2 : K.lookup f2 = some ⟨oc2, od2, .func (PySem.W.fnOf "_law_take" "_law_take" (defArgs s_l_take) (defBody s_l_take) (defScope s_l_take) .none kV2 dc2 pm2 an2 cd2 ct2), sl2⟩) (c2 : PySem.W.codeIn K cd2 "_law_take" = true) (k2 : PySem.W.keepIn K (.ref f2) = true)
    {f3 : Addr} {od3 an3 : Option Addr} {sl3 : Array (Option Value)} {oc3 kV3 dc3 pm3 cd3 ct3 : Value} (a3 : PySem.W.nsIn K mainGlobals "_law_known" = some (some (.ref f3))) (l3 : K.lookup f3 = some ⟨oc3, od3, .func (PySem.W.fnOf "_law_known" "_law_known" (defArgs s_l_known) (defBody s_l_known) (defScope s_l_known) .none kV3 dc3 pm3 an3 cd3 ct3), sl3⟩) (c3 : PySem.W.codeIn K cd3 "_law_known" = true) (k3 : PySem.W.keepIn K (.ref f3) = true)
    {f4 : Addr} {od4 an4 : Option Addr} {sl4 : Array (Option Value)} {oc4 kV4 dc4 pm4 cd4 ct4 : Value} (a4 : PySem.W.nsIn K mainGlobals "_law_tests" = some (some (.ref f4))) (l4 : K.lookup f4 = some ⟨oc4, od4, .func (PySem.W.fnOf "_law_tests" "_law_tests" (defArgs s_l_tests) (defBody s_l_tests) (defScope s_l_tests) .none kV4 dc4 pm4 an4 cd4 ct4), sl4⟩) (c4 : PySem.W.codeIn K cd4 "_law_tests" = true) (k4 : PySem.W.keepIn K (.ref f4) = true)
    {f5 : Addr} {od5 an5 : Option Addr} {sl5 : Array (Option Value)} {oc5 kV5 dc5 pm5 cd5 ct5 : Value} (a5 : PySem.W.nsIn K mainGlobals "_law_test" = some (some (.ref f5))) (l5 : K.lookup f5 = some ⟨oc5, od5, .func (PySem.W.fnOf "_law_test" "_law_test" (defArgs s_l_test) (defBody s_l_test) (defScope s_l_test) .none kV5 dc5 pm5 an5 cd5 ct5), sl5⟩) (c5 : PySem.W.codeIn K cd5 "_law_test" = true) (k5 : PySem.W.keepIn K (.ref f5) = true)
    {f6 : Addr} {od6 an6 : Option Addr} {sl6 : Array (Option Value)} {oc6 kV6 dc6 pm6 cd6 ct6 : Value} (a6 : PySem.W.nsIn K mainGlobals "_law_clause" = some (some (.ref f6))) (l6 : K.lookup f6 = some ⟨oc6, od6, .func (PySem.W.fnOf "_law_clause" "_law_clause" (defArgs s_l_clause) (defBody s_l_clause) (defScope s_l_clause) .none kV6 dc6 pm6 an6 cd6 ct6), sl6⟩) (c6 : PySem.W.codeIn K cd6 "_law_clause" = true) (k6 : PySem.W.keepIn K (.ref f6) = true)
    {f7 : Addr} {od7 an7 : Option Addr} {sl7 : Array (Option Value)} {oc7 kV7 dc7 pm7 cd7 ct7 : Value} (a7 : PySem.W.nsIn K mainGlobals "_law_rule" = some (some (.ref f7))) (l7 : K.lookup f7 = some ⟨oc7, od7, .func (PySem.W.fnOf "_law_rule" "_law_rule" (defArgs s_l_rule) (defBody s_l_rule) (defScope s_l_rule) .none kV7 dc7 pm7 an7 cd7 ct7), sl7⟩) (c7 : PySem.W.codeIn K cd7 "_law_rule" = true) (k7 : PySem.W.keepIn K (.ref f7) = true)
    {f8 : Addr} {od8 an8 : Option Addr} {sl8 : Array (Option Value)} {oc8 kV8 dc8 pm8 cd8 ct8 : Value} (a8 : PySem.W.nsIn K mainGlobals "is_one_of" = some (some (.ref f8))) (l8 : K.lookup f8 = some ⟨oc8, od8, .func (PySem.W.fnOf "is_one_of" "is_one_of" (defArgs s_is_one_of) (defBody s_is_one_of) (defScope s_is_one_of) .none kV8 dc8 pm8 an8 cd8 ct8), sl8⟩) (c8 : PySem.W.codeIn K cd8 "is_one_of" = true) (k8 : PySem.W.keepIn K (.ref f8) = true)
    {f9 : Addr} {od9 an9 : Option Addr} {sl9 : Array (Option Value)} {oc9 kV9 dc9 pm9 cd9 ct9 : Value} (a9 : PySem.W.nsIn K mainGlobals "is_test" = some (some (.ref f9))) (l9 : K.lookup f9 = some ⟨oc9, od9, .func (PySem.W.fnOf "is_test" "is_test" (defArgs s_is_test) (defBody s_is_test) (defScope s_is_test) .none kV9 dc9 pm9 an9 cd9 ct9), sl9⟩) (c9 : PySem.W.codeIn K cd9 "is_test" = true) (k9 : PySem.W.keepIn K (.ref f9) = true)
    {f10 : Addr} {od10 an10 : Option Addr} {sl10 : Array (Option Value)} {oc10 kV10 dc10 pm10 cd10 ct10 : Value} (a10 : PySem.W.nsIn K mainGlobals "is_clause" = some (some (.ref f10))) (l10 : K.lookup f10 = some ⟨oc10, od10, .func (PySem.W.fnOf "is_clause" "is_clause" (defArgs s_is_clause) (defBody s_is_clause) (defScope s_is_clause) .none kV10 dc10 pm10 an10 cd10 ct10), sl10⟩) (c10 : PySem.W.codeIn K cd10 "is_clause" = true) (k10 : PySem.W.keepIn K (.ref f10) = true)
    {f11 : Addr} {od11 an11 : Option Addr} {sl11 : Array (Option Value)} {oc11 kV11 dc11 pm11 cd11 ct11 : Value} (a11 : PySem.W.nsIn K mainGlobals "is_rule" = some (some (.ref f11))) (l11 : K.lookup f11 = some ⟨oc11, od11, .func (PySem.W.fnOf "is_rule" "is_rule" (defArgs s_is_rule) (defBody s_is_rule) (defScope s_is_rule) .none kV11 dc11 pm11 an11 cd11 ct11), sl11⟩) (c11 : PySem.W.codeIn K cd11 "is_rule" = true) (k11 : PySem.W.keepIn K (.ref f11) = true)
    {f12 : Addr} {od12 an12 : Option Addr} {sl12 : Array (Option Value)} {oc12 kV12 dc12 pm12 cd12 ct12 : Value} (a12 : PySem.W.nsIn K mainGlobals "_law_odd" = some (some (.ref f12))) (l12 : K.lookup f12 = some ⟨oc12, od12, .func (PySem.W.fnOf "_law_odd" "_law_odd" (defArgs s_l_odd) (defBody s_l_odd) (defScope s_l_odd) .none kV12 dc12 pm12 an12 cd12 ct12), sl12⟩) (c12 : PySem.W.codeIn K cd12 "_law_odd" = true) (k12 : PySem.W.keepIn K (.ref f12) = true)
    {f13 : Addr} {od13 an13 : Option Addr} {sl13 : Array (Option Value)} {oc13 kV13 dc13 pm13 cd13 ct13 : Value} (a13 : PySem.W.nsIn K mainGlobals "_law_same" = some (some (.ref f13))) (l13 : K.lookup f13 = some ⟨oc13, od13, .func (PySem.W.fnOf "_law_same" "_law_same" (defArgs s_l_same) (defBody s_l_same) (defScope s_l_same) .none kV13 dc13 pm13 an13 cd13 ct13), sl13⟩) (c13 : PySem.W.codeIn K cd13 "_law_same" = true) (k13 : PySem.W.keepIn K (.ref f13) = true)
    {f14 : Addr} {od14 an14 : Option Addr} {sl14 : Array (Option Value)} {oc14 kV14 dc14 pm14 cd14 ct14 : Value} (a14 : PySem.W.nsIn K mainGlobals "_law_deeds" = some (some (.ref f14))) (l14 : K.lookup f14 = some ⟨oc14, od14, .func (PySem.W.fnOf "_law_deeds" "_law_deeds" (defArgs s_l_deeds) (defBody s_l_deeds) (defScope s_l_deeds) .none kV14 dc14 pm14 an14 cd14 ct14), sl14⟩) (c14 : PySem.W.codeIn K cd14 "_law_deeds" = true) (k14 : PySem.W.keepIn K (.ref f14) = true)
    {f15 : Addr} {od15 an15 : Option Addr} {sl15 : Array (Option Value)} {oc15 kV15 dc15 pm15 cd15 ct15 : Value} (a15 : PySem.W.nsIn K mainGlobals "_law_is_clause" = some (some (.ref f15))) (l15 : K.lookup f15 = some ⟨oc15, od15, .func (PySem.W.fnOf "_law_is_clause" "_law_is_clause" (defArgs s_l_is_clause) (defBody s_l_is_clause) (defScope s_l_is_clause) .none kV15 dc15 pm15 an15 cd15 ct15), sl15⟩) (c15 : PySem.W.codeIn K cd15 "_law_is_clause" = true) (k15 : PySem.W.keepIn K (.ref f15) = true)
    {f16 : Addr} {od16 an16 : Option Addr} {sl16 : Array (Option Value)} {oc16 kV16 dc16 pm16 cd16 ct16 : Value} (a16 : PySem.W.nsIn K mainGlobals "_law_is_rule" = some (some (.ref f16))) (l16 : K.lookup f16 = some ⟨oc16, od16, .func (PySem.W.fnOf "_law_is_rule" "_law_is_rule" (defArgs s_l_is_rule) (defBody s_l_is_rule) (defScope s_l_is_rule) .none kV16 dc16 pm16 an16 cd16 ct16), sl16⟩) (c16 : PySem.W.codeIn K cd16 "_law_is_rule" = true) (k16 : PySem.W.keepIn K (.ref f16) = true)
    {f17 : Addr} {od17 an17 : Option Addr} {sl17 : Array (Option Value)} {oc17 kV17 dc17 pm17 cd17 ct17 : Value} (a17 : PySem.W.nsIn K mainGlobals "law" = some (some (.ref f17))) (l17 : K.lookup f17 = some ⟨oc17, od17, .func (PySem.W.fnOf "law" "law" (defArgs s_law) (defBody s_law) (defScope s_law) .none kV17 dc17 pm17 an17 cd17 ct17), sl17⟩) (c17 : PySem.W.codeIn K cd17 "law" = true) (k17 : PySem.W.keepIn K (.ref f17) = true)
    {u0 : Value} (v0 : PySem.W.nsIn K mainGlobals "TESTS" = some (some u0)) (t0 : KDen K u0 g_TESTS)
    {u1 : Value} (v1 : PySem.W.nsIn K mainGlobals "DEEDS" = some (some u1)) (t1 : KDen K u1 g_DEEDS)
    {u2 : Value} (v2 : PySem.W.nsIn K mainGlobals "CAREFUL" = some (some u2)) (t2 : KDen K u2 g_CAREFUL)
    {u3 : Value} (v3 : PySem.W.nsIn K mainGlobals "MOST_CLAUSES" = some (some u3)) (t3 : KDen K u3 g_MOST_CLAUSES)
    (z0 : PySem.W.nsIn K mainGlobals "all" = some none)
    (z1 : PySem.W.nsIn K mainGlobals "bool" = some none)
    (z2 : PySem.W.nsIn K mainGlobals "enumerate" = some none)
    (z3 : PySem.W.nsIn K mainGlobals "int" = some none)
    (z4 : PySem.W.nsIn K mainGlobals "isinstance" = some none)
    (z5 : PySem.W.nsIn K mainGlobals "len" = some none)
    (z6 : PySem.W.nsIn K mainGlobals "list" = some none)
    (z7 : PySem.W.nsIn K mainGlobals "range" = some none)
    (z8 : PySem.W.nsIn K mainGlobals "str" = some none)
    (z9 : PySem.W.nsIn K mainGlobals "tuple" = some none)
    (z10 : PySem.W.nsIn K mainGlobals "zip" = some none)
    : ∃ fd : FuncData, (∀ (s : Shared) (u : Value), BindsTo s fd ⟨[u], []⟩ [("script", u)]) ∧ ∀ base : Heap, K.In base → base.Ns mainGlobals mg → FnOk P w K mg base CX0 7 fa fd ["script"] (spD ⟨P, w, K⟩ 1 [] m_law) := by
  have M : Md K mg := ⟨hasDef_of X G a0 l0 c0 k0, hasDef_of X G a1 l1 c1 k1, hasDef_of X G a2 l2 c2 k2, hasDef_of X G a3 l3 c3 k3, hasDef_of X G a4 l4 c4 k4, hasDef_of X G a5 l5 c5 k5, hasDef_of X G a6 l6 c6 k6, hasDef_of X G a7 l7 c7 k7, hasDef_of X G a8 l8 c8 k8, hasDef_of X G a9 l9 c9 k9, hasDef_of X G a10 l10 c10 k10, hasDef_of X G a11 l11 c11 k11, hasDef_of X G a12 l12 c12 k12, hasDef_of X G a13 l13 c13 k13, hasDef_of X G a14 l14 c14 k14, hasDef_of X G a15 l15 c15 k15, hasDef_of X G a16 l16 c16 k16, hasDef_of X G a17 l17 c17 k17, hasDat_of X G v0 t0, hasDat_of X G v1 t1, hasDat_of X G v2 t2, hasDat_of X G v3 t3, PySem.W.mg_none_of X G z0, PySem.W.mg_none_of X G z1, PySem.W.mg_none_of X G z2, PySem.W.mg_none_of X G z3, PySem.W.mg_none_of X G z4, PySem.W.mg_none_of X G z5, PySem.W.mg_none_of X G z6, PySem.W.mg_none_of X G z7, PySem.W.mg_none_of X G z8, PySem.W.mg_none_of X G z9, PySem.W.mg_none_of X G z10⟩
  have e := hmg.symm.trans (PySem.W.mg_of X G a17)
  cases e
  have F := fun_mk (st := s_law) l17 c17 k17
  exact ⟨_, law_binds F, fun base _ _ => law_fn M F⟩
end DL

open PySem PySem.W PyProof.Rows DL
set_option maxRecDepth 100000  in
set_option maxHeartbeats 0 in
theorem PySem.Challenge.cw_besidesent_k01_rules_recognized_holds : PySem.Challenge.rw_besidesent_k01_rules_recognized.Holds := by
  w_on; o_law; k_head; (case hw =>  w_witness2)
  k_fill
  refine DL.walkD (l := PySem.Challenge.rw_besidesent_k01_rules_recognized) (k := 7) (m := DL.m_law) rfl rfl (fun w h Y => PySem.W.kIn_of Y) ⟨rfl, by decide, by decide⟩ ?F (fun ns _ => DL.law_ok ns)
  case F =>
    intro w mg fa h KX G hmg
    refine' DL.end_of KX G hmg ?a0 ?l0 ?c0 ?k0 ?a1 ?l1 ?c1 ?k1 ?a2 ?l2 ?c2 ?k2 ?a3 ?l3 ?c3 ?k3 ?a4 ?l4 ?c4 ?k4 ?a5 ?l5 ?c5 ?k5 ?a6 ?l6 ?c6 ?k6 ?a7 ?l7 ?c7 ?k7 ?a8 ?l8 ?c8 ?k8 ?a9 ?l9 ?c9 ?k9 ?a10 ?l10 ?c10 ?k10 ?a11 ?l11 ?c11 ?k11 ?a12 ?l12 ?c12 ?k12 ?a13 ?l13 ?c13 ?k13 ?a14 ?l14 ?c14 ?k14 ?a15 ?l15 ?c15 ?k15 ?a16 ?l16 ?c16 ?k16 ?a17 ?l17 ?c17 ?k17 ?v0 ?t0 ?v1 ?t1 ?v2 ?t2 ?v3 ?t3 ?z0 ?z1 ?z2 ?z3 ?z4 ?z5 ?z6 ?z7 ?z8 ?z9 ?z10
    (case a0 => k_is); (case l0 => k_is); (case c0 => k_is); (case k0 => k_is)
    (case a1 => k_is); (case l1 => k_is); (case c1 => k_is); (case k1 =>  k_is)
    (case a2 => k_is); (case l2 => k_is); (case c2 => k_is); (case k2 =>  k_is)
    (case a3 => k_is); (case l3 => k_is); (case c3 => k_is); (case k3 =>  k_is)
    (case a4 => k_is); (case l4 => k_is); (case c4 => k_is); (case k4 =>  k_is)
    (case a5 => k_is); (case l5 => k_is); (case c5 => k_is); (case k5 => k_is)
    (case a6 => k_is); (case l6 => k_is); (case c6 => k_is); (case k6 => k_is)
    (case a7 => k_is); (case l7 => k_is); (case c7 => k_is); (case k7 => k_is)
    (case a8 => k_is); (case l8 => k_is); (case c8 => k_is); (case k8 => k_is)
    (case a9 => k_is); (case l9 => k_is); (case c9 => k_is); (case k9 => k_is)
    (case a10 => k_is); (case l10 => k_is); (case c10 => k_is); (case k10 => k_is)
    (case a11 => k_is); (case l11 => k_is); (case c11 => k_is); (case k11 => k_is)
    (case a12 => k_is); (case l12 => k_is); (case c12 => k_is); (case k12 => k_is)
    (case a13 => k_is); (case l13 => k_is); (case c13 => k_is); (case k13 => k_is)
    (case a14 => k_is); (case l14 => k_is); (case c14 => k_is); (case k14 => k_is)
    (case a15 => k_is); (case l15 => k_is); (case c15 => k_is); (case k15 => k_is)
    (case a16 => k_is); (case l16 => k_is); (case c16 => k_is); (case k16 => k_is)
    (case a17 => k_is); (case l17 => k_is); (case c17 => k_is); (case k17 => k_is)
    (case v0 => k_is)
    (case t0 => repeat first | exact DL.KDen.str _ _ | exact DL.KDen.int _ _ | exact DL.KDen.non | exact DL.KDens.nil | refine DL.KDens.cons ?_ ?_ | (apply DL.KDen.tup; k_is; decide))
    (case v1 => k_is)
    (case t1 => repeat first | exact DL.KDen.str _ _ | exact DL.KDen.int _ _ | exact DL.KDen.non | exact DL.KDens.nil | refine DL.KDens.cons ?_ ?_ | (apply DL.KDen.tup; k_is; decide))
    (case v2 => k_is)
    (case t2 => repeat first | exact DL.KDen.str _ _ | exact DL.KDen.int _ _ | exact DL.KDen.non | exact DL.KDens.nil | refine DL.KDens.cons ?_ ?_ | (apply DL.KDen.tup; k_is; decide))
    (case v3 => k_is)
    (case t3 => repeat first | exact DL.KDen.str _ _ | exact DL.KDen.int _ _ | exact DL.KDen.non | exact DL.KDens.nil | refine DL.KDens.cons ?_ ?_ | (apply DL.KDen.tup; k_is; decide))
    (case z0 => k_is)
    (case z1 => k_is)
    (case z2 => k_is)
    (case z3 => k_is)
    (case z4 => k_is)
    (case z5 => k_is)
    (case z6 => k_is)
    (case z7 => k_is)
    (case z8 => k_is)
    (case z9 => k_is)
    (case z10 => k_is)
