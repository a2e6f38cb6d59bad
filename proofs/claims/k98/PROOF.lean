import PyProof.Rows.All
import Wide.All
import OpenK.AllK
import Wide.FinOn
import HandS.ForMost
import HandS.Flow
import HandS.Wide
import HandS.TupAny
import HandS.Zip
import HandS.Style
import HandS.IsInst
import HandS.Gcd
import HandS.TupLe
import HandS.Star
import PySem.Challenge.RW_wholefours_k98_whole_counts_by_all_parts
set_option Elab.async false
set_option linter.all false
set_option maxRecDepth 100000
set_option autoImplicit false
set_option maxHeartbeats 1000000
namespace DL
open PySem PySem.Spec PyProof.Rows L2

abbrev D := PyData
/-- what a local name holds -/
inductive Slot where
  | no
  | val (d : D)
  | own (ds : List D)
  | ownD (kvs : List (D × D))
  | src
  | cells
/-- the law's source of drawn numbers -/
structure Src where
  cells : List Int
  left : Int
  mixed : Int
  turn : Int
abbrev Env' := List Slot
abbrev EvE := Env' → Src → Option (D × Src)
abbrev EvT := Env' → Src → Option (Bool × Src)
abbrev EvA := Env' → Src → Option (List D × Src)
inductive Fl where
  | nx (env : Env')
  | rt (d : D)
  | bk (env : Env')
  | ct (env : Env')
abbrev EvS := Env' → Src → Option (Fl × Src)

/-! ### what a value denotes -/
mutual
inductive Den (K : PySem.W.Frag) (F : Addr → Prop) (H : Hp) : V → D → Prop
  | non : Den K F H .non .none
  | bl (b : Bool) : Den K F H (.bl b) (.bool b)
  | int (i : Int) : Den K F H (.int i) (.int i)
  | str (x : Str) : Den K F H (.str x) (.str x)
  | lst {a : Addr} {xs : List V} {ds : List D} : F a → H a = some (.lst xs) → DenL K F H xs ds → Den K F H (.ref a) (.list ds)
  | tup {a : Addr} {xs : List V} {ds : List D} : SqT K H a xs → DenL K F H xs ds → Den K F H (.ref a) (.tuple ds)
  | dic {a : Addr} {kvs : List (Key × V)} {es : List (D × D)} : F a → H a = some (.dK kvs) → DenK K F H kvs es → Den K F H (.ref a) (.dict es)
  | dicT {a : Addr} {kvs : List (List Key × V)} {es : List (D × D)} : F a → H a = some (.dT kvs) → DenT K F H kvs es → Den K F H (.ref a) (.dict es)
inductive DenL (K : PySem.W.Frag) (F : Addr → Prop) (H : Hp) : List V → List D → Prop
  | nil : DenL K F H [] []
  | cons {v : V} {vs : List V} {d : D} {ds : List D} : Den K F H v d → DenL K F H vs ds → DenL K F H (v :: vs) (d :: ds)
inductive DenK (K : PySem.W.Frag) (F : Addr → Prop) (H : Hp) : List (Key × V) → List (D × D) → Prop
  | nil : DenK K F H [] []
  | consI {i : Int} {v : V} {vs : List (Key × V)} {d : D} {ds : List (D × D)} : Den K F H v d → DenK K F H vs ds → DenK K F H ((.inl i, v) :: vs) ((.int i, d) :: ds)
  | consS {x : Str} {v : V} {vs : List (Key × V)} {d : D} {ds : List (D × D)} : Den K F H v d → DenK K F H vs ds → DenK K F H ((.inr x, v) :: vs) ((.str x, d) :: ds)
inductive DenT (K : PySem.W.Frag) (F : Addr → Prop) (H : Hp) : List (List Key × V) → List (D × D) → Prop
  | nil : DenT K F H [] []
  | cons {ks : List Key} {v : V} {vs : List (List Key × V)} {d : D} {ds : List (D × D)} : Den K F H v d → DenT K F H vs ds → DenT K F H ((ks, v) :: vs) ((.tuple (ks.map fun k => match k with | .inl i => PyData.int i | .inr x => PyData.str x), d) :: ds)
end

/-- objects that never change -/
def Fixed : HO → Prop
  | .tup _ => True
  | .frz _ _ => True
  | _ => False
/-- later: what is denoted stays -/
structure Lat (F : Addr → Prop) (H : Hp) (F' : Addr → Prop) (H' : Hp) : Prop where
  up : ∀ a, F a → F' a
  kp : ∀ a o, H a = some o → F a ∨ Fixed o → H' a = some o
theorem Lat.refl (F : Addr → Prop) (H : Hp) : Lat F H F H := ⟨fun _ h => h, fun _ _ h _ => h⟩
theorem Lat.trans {F F1 F2 : Addr → Prop} {H H1 H2 : Hp} (a : Lat F H F1 H1) (b : Lat F1 H1 F2 H2) : Lat F H F2 H2 :=
  ⟨fun x h => b.up x (a.up x h), fun x o h q => b.kp x o (a.kp x o h q) (q.elim (fun z => .inl (a.up x z)) .inr)⟩
theorem sqT_mono {K : PySem.W.Frag} {F F' : Addr → Prop} {H H' : Hp} {a : Addr} {xs : List V} (l : Lat F H F' H') (h : SqT K H a xs) : SqT K H' a xs := by
  rcases h with (h | ⟨o, h⟩) | h
  · exact .inl (.inl (l.kp _ _ h (.inr trivial)))
  · exact .inl (.inr ⟨o, l.kp _ _ h (.inr trivial)⟩)
  · exact .inr h
section
variable {K : PySem.W.Frag} {F F' : Addr → Prop} {H H' : Hp}
mutual
theorem Den.mono (l : Lat F H F' H') : ∀ {v : V} {d : D}, Den K F H v d → Den K F' H' v d
  | _, _, .non => .non
  | _, _, .bl b => .bl b
  | _, _, .int i => .int i
  | _, _, .str x => .str x
  | _, _, .lst f h r => .lst (l.up _ f) (l.kp _ _ h (.inl f)) (DenL.mono l r)
  | _, _, .tup h r => .tup (sqT_mono l h) (DenL.mono l r)
  | _, _, .dic f h r => .dic (l.up _ f) (l.kp _ _ h (.inl f)) (DenK.mono l r)
  | _, _, .dicT f h r => .dicT (l.up _ f) (l.kp _ _ h (.inl f)) (DenT.mono l r)
theorem DenL.mono (l : Lat F H F' H') : ∀ {vs : List V} {ds : List D}, DenL K F H vs ds → DenL K F' H' vs ds
  | _, _, .nil => .nil
  | _, _, .cons a b => .cons (Den.mono l a) (DenL.mono l b)
theorem DenK.mono (l : Lat F H F' H') : ∀ {vs : List (Key × V)} {ds : List (D × D)}, DenK K F H vs ds → DenK K F' H' vs ds
  | _, _, .nil => .nil
  | _, _, .consI a b => .consI (Den.mono l a) (DenK.mono l b)
  | _, _, .consS a b => .consS (Den.mono l a) (DenK.mono l b)
theorem DenT.mono (l : Lat F H F' H') : ∀ {vs : List (List Key × V)} {ds : List (D × D)}, DenT K F H vs ds → DenT K F' H' vs ds
  | _, _, .nil => .nil
  | _, _, .cons a b => .cons (Den.mono l a) (DenT.mono l b)
end
theorem DenL.length : ∀ {vs : List V} {ds : List D}, DenL K F H vs ds → vs.length = ds.length
  | _, _, .nil => rfl
  | _, _, .cons _ b => congrArg (· + 1) (DenL.length b)
theorem DenL.append : ∀ {vs ws : List V} {ds es : List D}, DenL K F H vs ds → DenL K F H ws es → DenL K F H (vs ++ ws) (ds ++ es)
  | _, _, _, _, .nil, h => h
  | _, _, _, _, .cons a b, h => .cons a (DenL.append b h)
theorem DenL.get : ∀ {vs : List V} {ds : List D} {i : Nat} {d : D}, DenL K F H vs ds → ds[i]? = some d → ∃ v, vs[i]? = some v ∧ Den K F H v d
  | _, _, _, _, .nil, e => by simp at e
  | _, _, 0, _, .cons a _, e => by simp at e; subst e; exact ⟨_, rfl, a⟩
  | _, _, i + 1, d, .cons _ b, e => by
    obtain ⟨v, h1, h2⟩ := DenL.get (i := i) (d := d) b (by simpa using e)
    exact ⟨v, by simpa using h1, h2⟩
theorem DenL.get' : ∀ {vs : List V} {ds : List D} {i : Nat} {v : V}, DenL K F H vs ds → vs[i]? = some v → ∃ d, ds[i]? = some d ∧ Den K F H v d
  | _, _, _, _, .nil, e => by simp at e
  | _, _, 0, _, .cons a _, e => by simp at e; subst e; exact ⟨_, rfl, a⟩
  | _, _, i + 1, d, .cons _ b, e => by
    obtain ⟨v, h1, h2⟩ := DenL.get' (i := i) (v := d) b (by simpa using e)
    exact ⟨v, by simpa using h1, h2⟩
theorem DenL.drop : ∀ {vs : List V} {ds : List D} (n : Nat), DenL K F H vs ds → DenL K F H (vs.drop n) (ds.drop n)
  | _, _, 0, h => h
  | _, _, _ + 1, .nil => .nil
  | _, _, n + 1, .cons _ b => DenL.drop n b
theorem DenL.take : ∀ {vs : List V} {ds : List D} (n : Nat), DenL K F H vs ds → DenL K F H (vs.take n) (ds.take n)
  | _, _, 0, _ => .nil
  | _, _, _ + 1, .nil => .nil
  | _, _, n + 1, .cons a b => .cons a (DenL.take n b)
theorem DenL.set {v : V} {d : D} (r : Den K F H v d) : ∀ {vs : List V} {ds : List D} (i : Nat), DenL K F H vs ds → DenL K F H (vs.set i v) (ds.set i d)
  | _, _, _, .nil => .nil
  | _, _, 0, .cons _ b => .cons r b
  | _, _, i + 1, .cons a b => .cons a (DenL.set r i b)
theorem DenL.reverse {vs : List V} {ds : List D} (h : DenL K F H vs ds) : DenL K F H vs.reverse ds.reverse := by
  induction h using DenL.rec (motive_1 := fun _ _ _ => True) (motive_3 := fun _ _ _ => True) (motive_4 := fun _ _ _ => True) with
  | nil => exact .nil
  | cons a b _ ih => rw [List.reverse_cons, List.reverse_cons]; exact ih.append (.cons a .nil)
  | _ => trivial
theorem DenL.dropLast {vs : List V} {ds : List D} (h : DenL K F H vs ds) : DenL K F H vs.dropLast ds.dropLast := by
  rw [List.dropLast_eq_take, List.dropLast_eq_take, h.length]
  exact h.take _
theorem DenL.replicate {v : V} {d : D} (h : Den K F H v d) : ∀ n, DenL K F H (List.replicate n v) (List.replicate n d)
  | 0 => .nil
  | n + 1 => .cons h (DenL.replicate h n)
theorem DenL.ints_of : ∀ {vs : List V} {ns : List Int}, DenL K F H vs (ns.map PyData.int) → vs = ns.map V.int
  | _, [], .nil => rfl
  | _, _ :: ns, .cons a b => by cases a; rw [DenL.ints_of b]; rfl
theorem DenL.of_ints : ∀ (ns : List Int), DenL K F H (ns.map V.int) (ns.map PyData.int)
  | [] => .nil
  | n :: ns => .cons (.int n) (DenL.of_ints ns)
theorem DenL.bools_of : ∀ {vs : List V} {ns : List Bool}, DenL K F H vs (ns.map PyData.bool) → vs = ns.map V.bl
  | _, [], .nil => rfl
  | _, _ :: ns, .cons a b => by cases a; rw [DenL.bools_of b]; rfl
end
end DL
set_option maxHeartbeats 1000000
namespace DL
open PySem PySem.Spec PyProof.Rows L2

abbrev St := L2.St
/-! ### ghosts -/
structure Gh where
  src : Option (Addr × Addr)
def Gh.isS (G : Gh) (a : Addr) : Prop := ∃ p, G.src = some p ∧ (a = p.1 ∨ a = p.2)
def srcK (ca : Addr) (S : Src) : List (Key × V) :=
  [(.inr "cells", .ref ca), (.inr "left", .int S.left), (.inr "mixed", .int S.mixed), (.inr "turn", .int S.turn)]
def SrcOk (G : Gh) (S : Src) (H : Hp) : Prop := ∀ p, G.src = some p → H p.1 = some (.dK (srcK p.2 S)) ∧ H p.2 = some (.lst (S.cells.map V.int))
/-- what a piece of code leaves -/
structure Aft (G : Gh) (F : Addr → Prop) (H : Hp) (F' : Addr → Prop) (H' : Hp) : Prop where
  up : ∀ a, F a → F' a
  nw : ∀ a, F' a → F a ∨ H a = none
  kp : ∀ a o, H a = some o → ¬ G.isS a → H' a = some o
  nf : ∀ a, G.isS a → H a ≠ none → H' a ≠ none
theorem Aft.refl (G : Gh) (F : Addr → Prop) (H : Hp) : Aft G F H F H := ⟨fun _ h => h, fun _ h => .inl h, fun _ _ h _ => h, fun _ _ h => h⟩
theorem Aft.none_of {G : Gh} {F F' : Addr → Prop} {H H' : Hp} (a : Aft G F H F' H') {b : Addr} (h : H' b = none) : H b = none := by
  cases e : H b with
  | none => rfl
  | some o =>
    by_cases s : G.isS b
    · exact absurd h (a.nf b s (by rw [e]; exact fun z => nomatch z))
    · rw [a.kp b o e s] at h; cases h
theorem Aft.trans {G : Gh} {F F1 F2 : Addr → Prop} {H H1 H2 : Hp} (a : Aft G F H F1 H1) (b : Aft G F1 H1 F2 H2) : Aft G F H F2 H2 :=
  ⟨fun x h => b.up x (a.up x h), fun x h => (b.nw x h).elim (fun z => a.nw x z) (fun z => .inr (a.none_of z)),
   fun x o h s => b.kp x o (a.kp x o h s) s, fun x s h => b.nf x s (a.nf x s h)⟩
/-- the source's own places are neither frozen .. -/
structure SrcF (G : Gh) (S : Src) (F : Addr → Prop) (H : Hp) : Prop where
  ok : SrcOk G S H
  nf : ∀ a, G.isS a → ¬ F a
  th : ∀ a, F a → H a ≠ none
theorem SrcF.notFix {G : Gh} {S : Src} {F : Addr → Prop} {H : Hp} (h : SrcF G S F H) {a : Addr} (s : G.isS a) {o : HO} (e : H a = some o) : ¬ Fixed o := by
  obtain ⟨p, hp, z⟩ := s
  obtain ⟨h1, h2⟩ := h.ok p hp
  rcases z with rfl | rfl
  · rw [h1] at e; cases e; exact fun z => z
  · rw [h2] at e; cases e; exact fun z => z
theorem Aft.lat {G : Gh} {S : Src} {F F' : Addr → Prop} {H H' : Hp} (a : Aft G F H F' H') (s : SrcF G S F H) : Lat F H F' H' :=
  ⟨a.up, fun x o h q => a.kp x o h fun z => q.elim (s.nf x z) (s.notFix z h)⟩
/-- a new object: frozen from now on, or not -/
theorem Aft.new {G : Gh} {F : Addr → Prop} {H : Hp} {p : Addr} {o : HO} (n : H p = none) : Aft G F H F (upd H p o) :=
  ⟨fun _ h => h, fun _ h => .inl h, fun x u h _ => by rw [upd_ne (ne_of_none h n)]; exact h, fun x _ h z => by
    by_cases e : x = p
    · subst e; exact h n
    · rw [upd_ne e] at z; exact h z⟩
def withF (F : Addr → Prop) (p : Addr) : Addr → Prop := fun a => F a ∨ a = p
theorem Aft.newF {G : Gh} {F : Addr → Prop} {H : Hp} {p : Addr} {o : HO} (n : H p = none) : Aft G F H (withF F p) (upd H p o) :=
  ⟨fun _ h => .inl h, fun a h => h.elim .inl fun e => .inr (by rw [e]; exact n), (Aft.new (G := G) (F := F) n).kp, (Aft.new (G := G) (F := F) n).nf⟩
theorem upd_there {H : Hp} {a p : Addr} {o : HO} (h : H a ≠ none) : upd H p o a ≠ none := by
  by_cases e : a = p
  · subst e; rw [upd_same]; exact fun z => nomatch z
  · rw [upd_ne e]; exact h
theorem SrcF.new {G : Gh} {S : Src} {F : Addr → Prop} {H : Hp} {p : Addr} {o : HO} (h : SrcF G S F H) (n : H p = none) : SrcF G S F (upd H p o) :=
  ⟨fun q e => let ⟨a, b⟩ := h.ok q e; ⟨by rw [upd_ne (ne_of_none a n)]; exact a, by rw [upd_ne (ne_of_none b n)]; exact b⟩, h.nf, fun a f => upd_there (h.th a f)⟩
theorem SrcF.notF {G : Gh} {S : Src} {F : Addr → Prop} {H : Hp} {p : Addr} (h : SrcF G S F H) (n : H p = none) : ¬ F p := fun f => h.th p f n
theorem SrcF.there {G : Gh} {S : Src} {F : Addr → Prop} {H : Hp} (h : SrcF G S F H) {a : Addr} (s : G.isS a) : H a ≠ none := by
  obtain ⟨p, hp, z⟩ := s
  obtain ⟨h1, h2⟩ := h.ok p hp
  rcases z with rfl | rfl
  · rw [h1]; exact fun z => nomatch z
  · rw [h2]; exact fun z => nomatch z
theorem SrcF.newF {G : Gh} {S : Src} {F : Addr → Prop} {H : Hp} {p : Addr} {o : HO} (h : SrcF G S F H) (n : H p = none) : SrcF G S (withF F p) (upd H p o) :=
  ⟨(h.new n).ok, fun a s z => z.elim (h.nf a s) fun e => h.there s (by rw [e]; exact n), fun a f => f.elim (fun f => upd_there (h.th a f)) fun e => by rw [e, upd_same]; exact fun z => nomatch z⟩
/-- a new object becomes frozen -/
theorem SrcF.freeze {G : Gh} {S : Src} {F : Addr → Prop} {H : Hp} {p : Addr} (h : SrcF G S F H) (ns : ¬ G.isS p) (t : H p ≠ none) : SrcF G S (withF F p) H :=
  ⟨h.ok, fun a s z => z.elim (h.nf a s) fun e => ns (by rw [← e]; exact s), fun a f => f.elim (h.th a) fun e => by rw [e]; exact t⟩
theorem Lat.new {F : Addr → Prop} {H : Hp} {p : Addr} {o : HO} (n : H p = none) : Lat F H F (upd H p o) :=
  ⟨fun _ h => h, fun x u h _ => by rw [upd_ne (ne_of_none h n)]; exact h⟩
theorem Lat.newF {F : Addr → Prop} {H : Hp} {p : Addr} {o : HO} (n : H p = none) : Lat F H (withF F p) (upd H p o) :=
  ⟨fun _ h => .inl h, (Lat.new (F := F) n).kp⟩

/-! ### the local names -/
def isOwn : Slot → Bool
  | .own _ => true
  | .ownD _ => true
  | _ => false
def SlotOk (K : PySem.W.Frag) (G : Gh) (B : Hp) (F : Addr → Prop) (H : Hp) : Slot → Option (Option V) → Prop
  | .no, _ => True
  | .val d, x => ∃ v, x = some (some v) ∧ Den K F H v d
  | .own ds, x => ∃ a vs, x = some (some (.ref a)) ∧ H a = some (.lst vs) ∧ DenL K F H vs ds ∧ ¬ F a ∧ ¬ G.isS a ∧ B a = none
  | .ownD es, x => ∃ a, x = some (some (.ref a)) ∧ ((∃ kvs, H a = some (.dK kvs) ∧ DenK K F H kvs es) ∨ ∃ kvs, H a = some (.dT kvs) ∧ DenT K F H kvs es) ∧ ¬ F a ∧ ¬ G.isS a ∧ B a = none
  | .src, x => ∃ p, G.src = some p ∧ x = some (some (.ref p.1))
  | .cells, x => ∃ p, G.src = some p ∧ x = some (some (.ref p.2))
/-- FB, HB: at the def's entry -/
structure Rel (K : PySem.W.Frag) (G : Gh) (FB : Addr → Prop) (HB : Hp) (F : Addr → Prop) (env : Env') (S : Src) (σ : St) (H : Hp) : Prop where
  src : SrcF G S F H
  srcB : ∀ a, G.isS a → HB a ≠ none
  aft : Aft G FB HB F H
  len : env.length = σ.length
  slot : ∀ (i : Nat) (s : Slot), env[i]? = some s → SlotOk K G HB F H s (σ[i]?)
  apart : ∀ (i j : Nat) (s t : Slot), env[i]? = some s → env[j]? = some t → isOwn s = true → isOwn t = true → i ≠ j → σ[i]? ≠ σ[j]?
theorem SlotOk.mono {K : PySem.W.Frag} {G : Gh} {B : Hp} {F F' : Addr → Prop} {H H' : Hp} {S : Src} (a : Aft G F H F' H') (sf : SrcF G S F H) : ∀ {s : Slot} {x : Option (Option V)}, SlotOk K G B F H s x → SlotOk K G B F' H' s x
  | .no, _, _ => trivial
  | .val d, _, ⟨v, e, h⟩ => ⟨v, e, h.mono (a.lat sf)⟩
  | .own ds, _, ⟨p, vs, e, h, r, nf, ns, nb⟩ => ⟨p, vs, e, a.kp _ _ h ns, r.mono (a.lat sf), (fun z => (a.nw _ z).elim nf fun q => by rw [q] at h; exact nomatch h), ns, nb⟩
  | .ownD es, _, ⟨p, e, h, nf, ns, nb⟩ => ⟨p, e, h.elim (fun ⟨kvs, h, r⟩ => .inl ⟨kvs, a.kp _ _ h ns, r.mono (a.lat sf)⟩) (fun ⟨kvs, h, r⟩ => .inr ⟨kvs, a.kp _ _ h ns, r.mono (a.lat sf)⟩),
      (fun z => (a.nw _ z).elim nf fun q => h.elim (fun ⟨_, h, _⟩ => by rw [q] at h; exact nomatch h) (fun ⟨_, h, _⟩ => by rw [q] at h; exact nomatch h)), ns, nb⟩
  | .src, _, h => h
  | .cells, _, h => h
section
variable {K : PySem.W.Frag} {G : Gh} {FB : Addr → Prop} {HB : Hp} {F F' : Addr → Prop} {env : Env'} {S S' : Src} {σ : St} {H H' : Hp}
theorem Rel.after (r : Rel K G FB HB F env S σ H) (a : Aft G F H F' H') (s : SrcF G S' F' H') : Rel K G FB HB F' env S' σ H' :=
  ⟨s, r.srcB, r.aft.trans a, r.len, fun i t e => (r.slot i t e).mono a r.src, r.apart⟩
theorem set_get {α : Type} {l : List α} {i j : Nat} {a x : α} (h : (l.set i a)[j]? = some x) : (j = i ∧ x = a ∧ i < l.length) ∨ (j ≠ i ∧ l[j]? = some x) := by
  by_cases e : j = i
  · subst e
    by_cases hl : j < l.length
    · rw [List.getElem?_set_self hl] at h; cases h; exact .inl ⟨rfl, rfl, hl⟩
    · rw [List.getElem?_eq_none (by simpa using hl)] at h; cases h
  · rw [List.getElem?_set_ne (Ne.symm e)] at h; exact .inr ⟨e, h⟩
/-- a name gets a value -/
theorem Rel.set (r : Rel K G FB HB F env S σ H) {i : Nat} {v : V} {d : D} (h : Den K F H v d) : Rel K G FB HB F (env.set i (.val d)) S (σ.set i (some v)) H := by
  refine ⟨r.src, r.srcB, r.aft, by simp [r.len], fun j t e => ?_, fun j k s t ej ek os ot ne => ?_⟩
  · rcases set_get e with ⟨rfl, rfl, hl⟩ | ⟨ne, e⟩
    · exact ⟨v, by rw [List.getElem?_set_self (by rw [← r.len]; exact hl)], h⟩
    · rw [List.getElem?_set_ne (Ne.symm ne)]; exact r.slot j t e
  · rcases set_get ej with ⟨rfl, rfl, _⟩ | ⟨nj, fj⟩
    · cases os
    · rcases set_get ek with ⟨rfl, rfl, _⟩ | ⟨nk, fk⟩
      · cases ot
      · rw [List.getElem?_set_ne (Ne.symm nj), List.getElem?_set_ne (Ne.symm nk)]; exact r.apart j k s t fj fk os ot ne
/-- a name is forgotten -/
theorem Rel.drop (r : Rel K G FB HB F env S σ H) (i : Nat) (x : Option V) : Rel K G FB HB F (env.set i .no) S (σ.set i x) H := by
  refine ⟨r.src, r.srcB, r.aft, by simp [r.len], fun j t e => ?_, fun j k s t ej ek os ot ne => ?_⟩
  · rcases set_get e with ⟨rfl, rfl, hl⟩ | ⟨ne, e⟩
    · trivial
    · rw [List.getElem?_set_ne (Ne.symm ne)]; exact r.slot j t e
  · rcases set_get ej with ⟨rfl, rfl, _⟩ | ⟨nj, fj⟩
    · cases os
    · rcases set_get ek with ⟨rfl, rfl, _⟩ | ⟨nk, fk⟩
      · cases ot
      · rw [List.getElem?_set_ne (Ne.symm nj), List.getElem?_set_ne (Ne.symm nk)]; exact r.apart j k s t fj fk os ot ne
theorem Rel.addr_own (r : Rel K G FB HB F env S σ H) {i : Nat} {s : Slot} (e : env[i]? = some s) (o : isOwn s = true) : ∃ a ob, σ[i]? = some (some (.ref a)) ∧ H a = some ob ∧ Mut (some ob) ∧ ¬ F a ∧ ¬ G.isS a ∧ HB a = none := by
  have h := r.slot i s e
  cases s with
  | own ds => obtain ⟨a, vs, e, h, _, n⟩ := h; exact ⟨a, _, e, h, trivial, n⟩
  | ownD es =>
    obtain ⟨a, e, h, n⟩ := h
    rcases h with ⟨kvs, h, _⟩ | ⟨kvs, h, _⟩
    · exact ⟨a, _, e, h, trivial, n⟩
    · exact ⟨a, _, e, h, trivial, n⟩
  | _ => cases o
/-- a name gets a new list of its own -/
theorem Rel.setOwn (r : Rel K G FB HB F env S σ H) {i : Nat} {a : Addr} {vs : List V} {ds : List D} (h : H a = some (.lst vs)) (hd : DenL K F H vs ds) (nf : ¬ F a) (ns : ¬ G.isS a) (nb : HB a = none)
    (ap : ∀ j s, env[j]? = some s → isOwn s = true → j ≠ i → σ[j]? ≠ some (some (.ref a))) : Rel K G FB HB F (env.set i (.own ds)) S (σ.set i (some (.ref a))) H := by
  refine ⟨r.src, r.srcB, r.aft, by simp [r.len], fun j t e => ?_, fun j k s t ej ek os ot ne => ?_⟩
  · rcases set_get e with ⟨rfl, rfl, hl⟩ | ⟨ne, e⟩
    · exact ⟨a, vs, by rw [List.getElem?_set_self (by rw [← r.len]; exact hl)], h, hd, nf, ns, nb⟩
    · rw [List.getElem?_set_ne (Ne.symm ne)]; exact r.slot j t e
  · rcases set_get ej with ⟨rfl, rfl, hl⟩ | ⟨nj, fj⟩
    · rcases set_get ek with ⟨rfl, rfl, _⟩ | ⟨nk, fk⟩
      · exact absurd rfl ne
      · rw [List.getElem?_set_self (by rw [← r.len]; exact hl), List.getElem?_set_ne (Ne.symm nk)]; exact fun z => ap k t fk ot nk z.symm
    · rcases set_get ek with ⟨rfl, rfl, hl⟩ | ⟨nk, fk⟩
      · rw [List.getElem?_set_self (by rw [← r.len]; exact hl), List.getElem?_set_ne (Ne.symm nj)]; exact ap j s fj os nj
      · rw [List.getElem?_set_ne (Ne.symm nj), List.getElem?_set_ne (Ne.symm nk)]; exact r.apart j k s t fj fk os ot ne
/-- the heap is written at a name's own object -/
theorem Aft.writeB {FB : Addr → Prop} {HB : Hp} {a : Addr} {o : HO} (r : Aft G FB HB F H) (nb : HB a = none) : Aft G FB HB F (upd H a o) :=
  ⟨r.up, r.nw, fun x u h s => by rw [upd_ne (ne_of_none h nb)]; exact r.kp x u h s, fun x s h z => by
    by_cases e : x = a
    · subst e; exact h nb
    · rw [upd_ne e] at z; exact r.nf x s h z⟩
theorem Lat.write {a : Addr} {o u : HO} (h : H a = some u) (m : Mut (some u)) (nf : ¬ F a) : Lat F H F (upd H a o) :=
  ⟨fun _ z => z, fun x w e q => by
    by_cases ex : x = a
    · subst ex
      rw [h] at e
      injection e with e
      subst e
      rcases q with q | q
      · exact absurd q nf
      · cases u with
        | tup xs => exact m.elim
        | frz ob z => exact m.elim
        | _ => exact q.elim
    · rw [upd_ne ex]; exact e⟩
theorem SrcF.write {a : Addr} {o : HO} (h : SrcF G S F H) (ns : ¬ G.isS a) : SrcF G S F (upd H a o) :=
  ⟨fun p e => let ⟨x, y⟩ := h.ok p e; ⟨by rw [upd_ne (fun z => ns ⟨p, e, .inl z.symm⟩)]; exact x, by rw [upd_ne (fun z => ns ⟨p, e, .inr z.symm⟩)]; exact y⟩, h.nf, fun a f => upd_there (h.th a f)⟩
theorem Rel.write (r : Rel K G FB HB F env S σ H) {i : Nat} {s s' : Slot} {a : Addr} {o : HO} (e : env[i]? = some s) (ow : isOwn s = true) (hs : σ[i]? = some (some (.ref a))) (ow' : isOwn s' = true)
    (new : Lat F H F (upd H a o) → SlotOk K G HB F (upd H a o) s' (some (some (.ref a)))) : Rel K G FB HB F (env.set i s') S σ (upd H a o) ∧ Lat F H F (upd H a o) := by
  obtain ⟨b, ob, e1, h, m, nf, ns, nb⟩ := r.addr_own e ow
  rw [hs] at e1
  have eab : a = b := by injection e1 with e1; injection e1 with e1; injection e1
  subst eab
  have L : Lat F H F (upd H a o) := Lat.write h m nf
  refine ⟨⟨r.src.write ns, r.srcB, r.aft.writeB nb, by simp [r.len], fun j t ej => ?_, fun j k t u ej ek ot ou ne => ?_⟩, L⟩
  · rcases set_get ej with ⟨rfl, rfl, hl⟩ | ⟨ne, fj⟩
    · rw [hs]; exact new L
    · have q := r.slot j t fj
      have far : isOwn t = true → σ[j]? ≠ some (some (.ref a)) := fun ot => by rw [← hs]; exact r.apart j i t s fj e ot ow ne
      cases t with
      | no => trivial
      | val d => obtain ⟨v, e, h⟩ := q; exact ⟨v, e, h.mono L⟩
      | own ds =>
        obtain ⟨p, vs, e, h, d, q⟩ := q
        have np : p ≠ a := fun z => far rfl (by rw [e, z])
        exact ⟨p, vs, e, by rw [upd_ne np]; exact h, d.mono L, q⟩
      | ownD es =>
        obtain ⟨p, e, h, q⟩ := q
        have np : p ≠ a := fun z => far rfl (by rw [e, z])
        refine ⟨p, e, ?_, q⟩
        rcases h with ⟨kvs, h, d⟩ | ⟨kvs, h, d⟩
        · exact .inl ⟨kvs, by rw [upd_ne np]; exact h, d.mono L⟩
        · exact .inr ⟨kvs, by rw [upd_ne np]; exact h, d.mono L⟩
      | src => exact q
      | cells => exact q
  · have own_at : ∀ {j : Nat} {t : Slot}, (env.set i s')[j]? = some t → isOwn t = true → ∃ t', env[j]? = some t' ∧ isOwn t' = true := fun {j t} ej ot => by
      rcases set_get ej with ⟨rfl, rfl, _⟩ | ⟨_, ej⟩
      · exact ⟨s, e, ow⟩
      · exact ⟨t, ej, ot⟩
    obtain ⟨t', e1, o1⟩ := own_at ej ot
    obtain ⟨u', e2, o2⟩ := own_at ek ou
    exact r.apart j k t' u' e1 e2 o1 o2 ne
end
end DL
set_option maxHeartbeats 1000000
namespace DL
open PySem PySem.Spec PyProof.Rows L2

/-! ### readings over what is denoted -/
def tD (K : PySem.W.Frag) (G : Gh) (f : EvE) : TE := fun σ H Q => ∃ FB HB F env S d S', Rel K G FB HB F env S σ H ∧ f env S = some (d, S') ∧
  ∀ v F' H', Aft G F H F' H' → SrcF G S' F' H' → Den K F' H' v d → Q v H'
def tTt (K : PySem.W.Frag) (G : Gh) (f : EvT) : TT := fun σ H Q => ∃ FB HB F env S d S', Rel K G FB HB F env S σ H ∧ f env S = some (d, S') ∧
  ∀ F' H', Aft G F H F' H' → SrcF G S' F' H' → Q d H'
def tAa (K : PySem.W.Frag) (G : Gh) (f : EvA) : TA := fun σ H Q => ∃ FB HB F env S d S', Rel K G FB HB F env S σ H ∧ f env S = some (d, S') ∧
  ∀ vs F' H', Aft G F H F' H' → SrcF G S' F' H' → DenL K F' H' vs d → Q vs H'
/-- a new list, not yet frozen -/
def tFl (K : PySem.W.Frag) (G : Gh) (f : EvA) : TE := fun σ H Q => ∃ FB HB F env S d S', Rel K G FB HB F env S σ H ∧ f env S = some (d, S') ∧
  ∀ p vs F' H', Aft G F H F' H' → SrcF G S' F' H' → H p = none → ¬ F' p → H' p = some (.lst vs) → DenL K F' H' vs d → Q (.ref p) H'
/-- what can be read, as it stands -/
def Rdb (K : PySem.W.Frag) (F : Addr → Prop) (H : Hp) (v : V) (d : D) : Prop := Den K F H v d ∨ (∃ p vs ds, v = .ref p ∧ d = .list ds ∧ H p = some (.lst vs) ∧ DenL K F H vs ds)
def tBl (K : PySem.W.Frag) (G : Gh) (f : EvE) : TE := fun σ H Q => ∃ FB HB F env S d S', Rel K G FB HB F env S σ H ∧ f env S = some (d, S') ∧
  ∀ v F' H', Aft G F H F' H' → SrcF G S' F' H' → Rdb K F' H' v d → (∀ F2 H2, Aft G F' H' F2 H2 → Rdb K F2 H2 v d) → Q v H'
def EndOk (K : PySem.W.Frag) (G : Gh) (FB : Addr → Prop) (HB : Hp) (F : Addr → Prop) (H : Hp) (D : Ends) (S' : Src) : Fl → Prop
  | .nx env' => ∀ F' σ' H', Rel K G FB HB F' env' S' σ' H' → Lat F H F' H' → D.nx σ' H'
  | .rt d => ∀ v F' H', Aft G FB HB F' H' → SrcF G S' F' H' → Den K F' H' v d → D.rt v H'
  | .bk env' => ∀ F' σ' H', Rel K G FB HB F' env' S' σ' H' → Lat F H F' H' → D.bk σ' H'
  | .ct env' => ∀ F' σ' H', Rel K G FB HB F' env' S' σ' H' → Lat F H F' H' → D.ct σ' H'
def tSs (K : PySem.W.Frag) (G : Gh) (f : EvS) : TS := fun D σ H => ∃ FB HB F env S r S', Rel K G FB HB F env S σ H ∧ f env S = some (r, S') ∧ EndOk K G FB HB F H D S' r

theorem _root_.L2.PE.impD {X : Cx} {e : Expr} {t u : TE} (h : PE X e t) (w : ∀ σ H Q, u σ H Q → t σ H Q) : PE X e u := ⟨fun pins s σ H Q I q => h.run pins s σ H Q I (w _ _ _ q)⟩
theorem _root_.L2.PT.impD {X : Cx} {e : Expr} {t u : TT} (h : PT X e t) (w : ∀ σ H Q, u σ H Q → t σ H Q) : PT X e u := ⟨fun pins s σ H Q I q => h.run pins s σ H Q I (w _ _ _ q)⟩
theorem _root_.L2.PW.impD {X : Cx} {e : Expr} {t u : TT} (h : PW X e t) (w : ∀ σ H Q, u σ H Q → t σ H Q) : PW X e u := ⟨fun wh pins s σ H Q I q => h.run wh pins s σ H Q I (w _ _ _ q)⟩
theorem _root_.L2.PA.impD {X : Cx} {e : List Expr} {t u : TA} (h : PA X e t) (w : ∀ σ H Q, u σ H Q → t σ H Q) : PA X e u := ⟨fun ps pins s σ H Q I q => h.run ps pins s σ H Q I (w _ _ _ q)⟩
theorem _root_.L2.PS.impD {X : Cx} {e : Stmt} {t u : TS} (h : PS X e t) (w : ∀ D σ H, u D σ H → t D σ H) : PS X e u := ⟨fun pins s σ H Q I q => h.run pins s σ H Q I (w _ _ _ q)⟩
theorem _root_.L2.PSs.impD {X : Cx} {e : List Stmt} {t u : TS} (h : PSs X e t) (w : ∀ D σ H, u D σ H → t D σ H) : PSs X e u := ⟨fun pins s σ H Q I q => h.run pins s σ H Q I (w _ _ _ q)⟩

structure DE (X : Cx) (G : Gh) (e : Expr) (f : EvE) : Prop where
  pe : PE X e (tD X.K G f)
structure DT (X : Cx) (G : Gh) (e : Expr) (f : EvT) : Prop where
  pt : PT X e (tTt X.K G f)
structure DW (X : Cx) (G : Gh) (e : Expr) (f : EvT) : Prop where
  pw : PW X e (tTt X.K G f)
structure DA (X : Cx) (G : Gh) (es : List Expr) (f : EvA) : Prop where
  pa : PA X es (tAa X.K G f)
structure DF (X : Cx) (G : Gh) (e : Expr) (f : EvA) : Prop where
  pe : PE X e (tFl X.K G f)
structure DB (X : Cx) (G : Gh) (e : Expr) (f : EvE) : Prop where
  pe : PE X e (tBl X.K G f)
structure DS (X : Cx) (G : Gh) (st : Stmt) (f : EvS) : Prop where
  ps : PS X st (tSs X.K G f)
structure DSs (X : Cx) (G : Gh) (st : List Stmt) (f : EvS) : Prop where
  ps : PSs X st (tSs X.K G f)

/-! ### names, constants -/
def mVar (i : Nat) : EvE := fun env S => match env[i]? with
  | some (.val d) => some (d, S)
  | _ => none
def mC (d : D) : EvE := fun _ S => some (d, S)
section
variable {X : Cx} {G : Gh} {pos : Pos}
theorem de_var (i : Nat) {x : Str} (hN : X.N[i]? = some x := by rfl) (hv : Vis X.env.scope x := by first | exact Or.inl rfl | exact Or.inr (Or.inl rfl) | exact Or.inr (Or.inr rfl)) (hd : (x == ("__debug__" : Str)) = false := by decide)
    (hcd : (x == ("__classdict__" : Str)) = false := by decide) : DE X G (.Name x pos) (mVar i) := by
  refine ⟨(pe_var hN hv hd hcd).impD ?_⟩
  rintro σ H Q ⟨FB, HB, F, env, S, d, S', R, e, q⟩
  unfold mVar at e
  split at e
  · rename_i d' he
    cases e
    obtain ⟨v, ev, dv⟩ := R.slot _ _ he
    exact ⟨v, ev, q v F H (Aft.refl _ _ _) R.src dv⟩
  · cases e
theorem de_c {e : Expr} {v : V} {d : D} (h : PE X e (tC v)) (hd : ∀ K F H, Den K F H v d) : DE X G e (mC d) := by
  refine ⟨h.impD ?_⟩
  rintro σ H Q ⟨FB, HB, F, env, S, d, S', R, e, q⟩
  cases e
  exact q v F H (Aft.refl _ _ _) R.src (hd _ _ _)
theorem de_int {i : Int} {j} : DE X G (.Constant (.int i) j pos) (mC (.int i)) := de_c pe_int fun _ _ _ => .int i
theorem de_bl {i : Bool} {j} : DE X G (.Constant (.bool i) j pos) (mC (.bool i)) := de_c pe_bl fun _ _ _ => .bl i
theorem de_non {j} : DE X G (.Constant .none j pos) (mC .none) := de_c pe_non fun _ _ _ => .non
theorem de_str {x : Str} {j} : DE X G (.Constant (.str x) j pos) (mC (.str x)) := de_c pe_str fun _ _ _ => .str x
end

/-! ### reading -/
/-- a name that holds a value or a list of its own, read -/
def mVarB (i : Nat) : EvE := fun env S => match env[i]? with
  | some (.val d) => some (d, S)
  | some (.own ds) => some (.list ds, S)
  | _ => none
section
variable {X : Cx} {G : Gh} {pos : Pos}
theorem DE.db {e : Expr} {f : EvE} (h : DE X G e f) : DB X G e f := by
  refine ⟨h.pe.impD ?_⟩
  rintro σ H Q ⟨FB, HB, F, env, S, d, S', R, e, q⟩
  exact ⟨FB, HB, F, env, S, d, S', R, e, fun v F' H' A s dv => q v F' H' A s (.inl dv) fun F2 H2 A2 => .inl (dv.mono (A2.lat s))⟩
theorem db_var (i : Nat) {x : Str} (hN : X.N[i]? = some x := by rfl) (hv : Vis X.env.scope x := by first | exact Or.inl rfl | exact Or.inr (Or.inl rfl) | exact Or.inr (Or.inr rfl)) (hd : (x == ("__debug__" : Str)) = false := by decide)
    (hcd : (x == ("__classdict__" : Str)) = false := by decide) : DB X G (.Name x pos) (mVarB i) := by
  refine ⟨(pe_var hN hv hd hcd).impD ?_⟩
  rintro σ H Q ⟨FB, HB, F, env, S, d, S', R, e, q⟩
  unfold mVarB at e
  split at e
  · rename_i d' he
    cases e
    obtain ⟨v, ev, dv⟩ := R.slot _ _ he
    exact ⟨v, ev, q v F H (Aft.refl _ _ _) R.src (.inl dv) fun F2 H2 A2 => .inl (dv.mono (A2.lat R.src))⟩
  · rename_i d' he
    cases e
    obtain ⟨p, vs, ev, h, dv, nf, ns, nb⟩ := R.slot _ _ he
    exact ⟨_, ev, q _ F H (Aft.refl _ _ _) R.src (.inr ⟨p, vs, d', rfl, rfl, h, dv⟩) fun F2 H2 A2 => .inr ⟨p, vs, d', rfl, rfl, A2.kp _ _ h ns, dv.mono (A2.lat R.src)⟩⟩
  · cases e
end

/-! ### operators by values -/
/-- a reading of an operator keeps to a function on what is denoted -/
def VOp (K : PySem.W.Frag) (r : R2) (g : D → D → Option D) : Prop :=
  ∀ (G : Gh) (F : Addr → Prop) (H : Hp) (S : Src) (x y : V) (dx dy dz : D) (Q : VK), SrcF G S F H → Rdb K F H x dx → Rdb K F H y dy → g dx dy = some dz →
    (∀ v F' H', Aft G F H F' H' → SrcF G S F' H' → Den K F' H' v dz → Q v H') → r x y H Q
def mBin (g : D → D → Option D) (a b : EvE) : EvE := fun env S => match a env S with
  | some (x, S1) => match b env S1 with
    | some (y, S2) => match g x y with
      | some z => some (z, S2)
      | none => none
    | none => none
  | none => none
theorem mBin_some {g : D → D → Option D} {a b : EvE} {env : Env'} {S S' : Src} {z : D} (h : mBin g a b env S = some (z, S')) :
    ∃ x S1 y, a env S = some (x, S1) ∧ b env S1 = some (y, S') ∧ g x y = some z := by
  unfold mBin at h
  split at h
  · rename_i x S1 e1
    split at h
    · rename_i y S2 e2
      split at h
      · rename_i z' e3
        cases h
        exact ⟨x, S1, y, e1, e2, e3⟩
      · cases h
    · cases h
  · cases h
section
variable {X : Cx} {G : Gh} {pos : Pos} {a b : Expr} {fa fb : EvE}
theorem tOp_of {K : PySem.W.Frag} {r : R2} {g : D → D → Option D} (v : VOp K r g) {σ : St} {H : Hp} {Q : VK} (h : tD K G (mBin g fa fb) σ H Q) : tOp r (tBl K G fa) (tBl K G fb) σ H Q := by
  obtain ⟨FB, HB, F, env, S, d, S', R, e, q⟩ := h
  obtain ⟨x, S1, y, e1, e2, e3⟩ := mBin_some e
  refine ⟨FB, HB, F, env, S, x, S1, R, e1, fun vx F1 H1 A1 s1 _ kx => ?_⟩
  refine ⟨FB, HB, F1, env, S1, y, S', R.after A1 s1, e2, fun vy F2 H2 A2 s2 dy _ => ?_⟩
  exact v G F2 H2 S' vx vy x y d Q s2 (kx _ _ A2) dy e3 fun v F3 H3 A3 s3 dv => q v F3 H3 ((A1.trans A2).trans A3) s3 dv
theorem de_bin {op : Operator} {r : R2} {g : D → D → Option D} (ho : OpR X (binaryOp op) r) (v : VOp X.K r g) (ha : DB X G a fa) (hb : DB X G b fb) : DE X G (.BinOp a op b pos) (mBin g fa fb) :=
  ⟨(pe_op ho ha.pe hb.pe).impD fun _ _ _ h => tOp_of v h⟩
theorem de_cmp {op : CmpOp} {r : R2} {g : D → D → Option D} (ho : OpR X (compareOp op) r) (v : VOp X.K r g) (hm : behindInMarks op b = false) (ha : DB X G a fa) (hb : DB X G b fb) : DE X G (.Compare a [op] [b] pos) (mBin g fa fb) :=
  ⟨(pe_cmpR ho ha.pe hb.pe hm).impD fun _ _ _ h => tOp_of v h⟩
/-- a bool's value as a test -/
def mT (a : EvE) : EvT := fun env S => match a env S with
  | some (.bool c, S1) => some (c, S1)
  | _ => none
theorem mT_some {a : EvE} {env : Env'} {S S' : Src} {c : Bool} (h : mT a env S = some (c, S')) : a env S = some (.bool c, S') := by
  unfold mT at h
  split at h
  · rename_i c' S1 e
    cases h
    exact e
  · cases h
theorem den_bool {K : PySem.W.Frag} {F : Addr → Prop} {H : Hp} {v : V} {c : Bool} (h : Den K F H v (.bool c)) : v = .bl c := by cases h; rfl
theorem dt_of {t : TE} {e : Expr} (h : PT X e (tTest t)) (w : ∀ σ H Q, tD X.K G fa σ H Q → t σ H Q) : DT X G e (mT fa) := by
  refine ⟨h.impD ?_⟩
  rintro σ H Q ⟨FB, HB, F, env, S, d, S', R, e, q⟩
  exact w _ _ _ ⟨FB, HB, F, env, S, _, S', R, mT_some e, fun v F' H' A s dv => ⟨d, den_bool dv, q F' H' A s⟩⟩
theorem dt_cmp {op : CmpOp} {r : R2} {g : D → D → Option D} (ho : OpR X (compareOp op) r) (v : VOp X.K r g) (hm : behindInMarks op b = false) (ha : DB X G a fa) (hb : DB X G b fb) : DT X G (.Compare a [op] [b] pos) (mT (mBin g fa fb)) :=
  dt_of (pt_cmpR ho ha.pe hb.pe hm) fun _ _ _ h => tOp_of v h
theorem dt_val (ha : DE X G a fa) (he : ∀ whole, isTrue a X.env whole = (do let v ← whole; standAt a.pos; holding [v] (truthy v)) := by intro _; rfl) : DT X G a (mT fa) :=
  dt_of (t := tD X.K G fa) (pt_val ha.pe he) fun _ _ _ h => h
/-! and, or, not -/
def mAnd (a b : EvT) : EvT := fun env S => match a env S with
  | some (true, S1) => b env S1
  | some (false, S1) => some (false, S1)
  | none => none
def mOr (a b : EvT) : EvT := fun env S => match a env S with
  | some (false, S1) => b env S1
  | some (true, S1) => some (true, S1)
  | none => none
def mNot (a : EvT) : EvT := fun env S => match a env S with
  | some (c, S1) => some (!c, S1)
  | none => none
variable {ta tb : EvT} {rest : List Expr}
theorem dw_and1 (ha : DT X G a ta) : DW X G (.BoolOp .And [a] pos) ta := ⟨pw_and1 ha.pt⟩
theorem dw_or1 (ha : DT X G a ta) : DW X G (.BoolOp .Or [a] pos) ta := ⟨pw_or1 ha.pt⟩
theorem dw_and (ha : DT X G a ta) (hb : DW X G (.BoolOp .And (b :: rest) pos) tb) : DW X G (.BoolOp .And (a :: b :: rest) pos) (mAnd ta tb) := by
  refine ⟨(pw_and ha.pt hb.pw).impD ?_⟩
  rintro σ H Q ⟨FB, HB, F, env, S, d, S', R, e, q⟩
  unfold mAnd at e
  split at e
  · rename_i S1 e1
    exact ⟨FB, HB, F, env, S, true, S1, R, e1, fun F1 H1 A1 s1 => iteT ⟨FB, HB, F1, env, S1, d, S', R.after A1 s1, e, fun F2 H2 A2 s2 => q F2 H2 (A1.trans A2) s2⟩⟩
  · rename_i S1 e1
    cases e
    exact ⟨FB, HB, F, env, S, false, _, R, e1, fun F1 H1 A1 s1 => iteF (q F1 H1 A1 s1)⟩
  · cases e
theorem dw_or (ha : DT X G a ta) (hb : DW X G (.BoolOp .Or (b :: rest) pos) tb) : DW X G (.BoolOp .Or (a :: b :: rest) pos) (mOr ta tb) := by
  refine ⟨(pw_or ha.pt hb.pw).impD ?_⟩
  rintro σ H Q ⟨FB, HB, F, env, S, d, S', R, e, q⟩
  unfold mOr at e
  split at e
  · rename_i S1 e1
    exact ⟨FB, HB, F, env, S, false, S1, R, e1, fun F1 H1 A1 s1 => iteF ⟨FB, HB, F1, env, S1, d, S', R.after A1 s1, e, fun F2 H2 A2 s2 => q F2 H2 (A1.trans A2) s2⟩⟩
  · rename_i S1 e1
    cases e
    exact ⟨FB, HB, F, env, S, true, _, R, e1, fun F1 H1 A1 s1 => iteT (q F1 H1 A1 s1)⟩
  · cases e
theorem DW.dt (h : DW X G a ta) : DT X G a ta := ⟨h.pw.pt⟩
theorem dt_not (ha : DT X G a ta) : DT X G (.UnaryOp .Not a pos) (mNot ta) := by
  refine ⟨(pt_not ha.pt).impD ?_⟩
  rintro σ H Q ⟨FB, HB, F, env, S, d, S', R, e, q⟩
  unfold mNot at e
  split at e
  · rename_i c S1 e1
    cases e
    exact ⟨FB, HB, F, env, S, c, _, R, e1, q⟩
  · cases e
/-! .. as values -/
def mAndV (a b : EvE) : EvE := fun env S => match a env S with
  | some (.bool true, S1) => b env S1
  | some (.bool false, S1) => some (.bool false, S1)
  | _ => none
def mOrV (a b : EvE) : EvE := fun env S => match a env S with
  | some (.bool false, S1) => b env S1
  | some (.bool true, S1) => some (.bool true, S1)
  | _ => none
def mNotV (a : EvE) : EvE := fun env S => match a env S with
  | some (.bool c, S1) => some (.bool (!c), S1)
  | _ => none
theorem de_one {op : BoolOp} (ha : DE X G a fa) : DE X G (.BoolOp op [a] pos) fa := ⟨pe_one ha.pe⟩
theorem de_and (ha : DE X G a fa) (hb : DE X G (.BoolOp .And (b :: rest) pos) fb) : DE X G (.BoolOp .And (a :: b :: rest) pos) (mAndV fa fb) := by
  refine ⟨(pe_and ha.pe hb.pe).impD ?_⟩
  rintro σ H Q ⟨FB, HB, F, env, S, d, S', R, e, q⟩
  unfold mAndV at e
  split at e
  · rename_i S1 e1
    exact ⟨FB, HB, F, env, S, _, S1, R, e1, fun v F1 H1 A1 s1 dv => ⟨true, den_bool dv, iteT ⟨FB, HB, F1, env, S1, d, S', R.after A1 s1, e, fun v F2 H2 A2 s2 => q v F2 H2 (A1.trans A2) s2⟩⟩⟩
  · rename_i S1 e1
    cases e
    exact ⟨FB, HB, F, env, S, _, _, R, e1, fun v F1 H1 A1 s1 dv => ⟨false, den_bool dv, iteF (q _ F1 H1 A1 s1 (.bl false))⟩⟩
  · cases e
theorem de_or (ha : DE X G a fa) (hb : DE X G (.BoolOp .Or (b :: rest) pos) fb) : DE X G (.BoolOp .Or (a :: b :: rest) pos) (mOrV fa fb) := by
  refine ⟨(pe_or ha.pe hb.pe).impD ?_⟩
  rintro σ H Q ⟨FB, HB, F, env, S, d, S', R, e, q⟩
  unfold mOrV at e
  split at e
  · rename_i S1 e1
    exact ⟨FB, HB, F, env, S, _, S1, R, e1, fun v F1 H1 A1 s1 dv => ⟨false, den_bool dv, iteF ⟨FB, HB, F1, env, S1, d, S', R.after A1 s1, e, fun v F2 H2 A2 s2 => q v F2 H2 (A1.trans A2) s2⟩⟩⟩
  · rename_i S1 e1
    cases e
    exact ⟨FB, HB, F, env, S, _, _, R, e1, fun v F1 H1 A1 s1 dv => ⟨true, den_bool dv, iteT (q _ F1 H1 A1 s1 (.bl true))⟩⟩
  · cases e
theorem de_not (ha : DE X G a fa) : DE X G (.UnaryOp .Not a pos) (mNotV fa) := by
  refine ⟨(pe_not ha.pe).impD ?_⟩
  rintro σ H Q ⟨FB, HB, F, env, S, d, S', R, e, q⟩
  unfold mNotV at e
  split at e
  · rename_i c S1 e1
    cases e
    exact ⟨FB, HB, F, env, S, _, _, R, e1, fun v F1 H1 A1 s1 dv => ⟨c, den_bool dv, q _ F1 H1 A1 s1 (.bl _)⟩⟩
  · cases e
def mIf (c : EvT) (a b : EvE) : EvE := fun env S => match c env S with
  | some (true, S1) => a env S1
  | some (false, S1) => b env S1
  | none => none
theorem de_ifExp {c : Expr} (hc : DT X G c ta) (ha : DE X G a fa) (hb : DE X G b fb) : DE X G (.IfExp c a b pos) (mIf ta fa fb) := by
  refine ⟨(pe_ifExp hc.pt ha.pe hb.pe).impD ?_⟩
  rintro σ H Q ⟨FB, HB, F, env, S, d, S', R, e, q⟩
  unfold mIf at e
  split at e
  · rename_i S1 e1
    exact ⟨FB, HB, F, env, S, _, S1, R, e1, fun F1 H1 A1 s1 => iteT ⟨FB, HB, F1, env, S1, d, S', R.after A1 s1, e, fun v F2 H2 A2 s2 => q v F2 H2 (A1.trans A2) s2⟩⟩
  · rename_i S1 e1
    exact ⟨FB, HB, F, env, S, _, S1, R, e1, fun F1 H1 A1 s1 => iteF ⟨FB, HB, F1, env, S1, d, S', R.after A1 s1, e, fun v F2 H2 A2 s2 => q v F2 H2 (A1.trans A2) s2⟩⟩
  · cases e
/-! ### a one-place operator -/
def VUn (K : PySem.W.Frag) (r : V → Hp → VK → Prop) (g : D → Option D) : Prop :=
  ∀ (G : Gh) (F : Addr → Prop) (H : Hp) (S : Src) (x : V) (dx dz : D) (Q : VK), SrcF G S F H → Den K F H x dx → g dx = some dz →
    (∀ v F' H', Aft G F H F' H' → SrcF G S F' H' → Den K F' H' v dz → Q v H') → r x H Q
def mUn (g : D → Option D) (a : EvE) : EvE := fun env S => match a env S with
  | some (x, S1) => match g x with
    | some z => some (z, S1)
    | none => none
  | none => none
theorem mUn_some {g : D → Option D} {a : EvE} {env : Env'} {S S' : Src} {z : D} (h : mUn g a env S = some (z, S')) : ∃ x, a env S = some (x, S') ∧ g x = some z := by
  unfold mUn at h
  split at h
  · rename_i x S1 e1
    split at h
    · rename_i z' e3
      cases h
      exact ⟨x, e1, e3⟩
    · cases h
  · cases h
theorem de_un {op : UnaryOp} {r : V → Hp → VK → Prop} {g : D → Option D} (ho : UnR X (unaryOp op) r) (v : VUn X.K r g) (ha : DE X G a fa) : DE X G (.UnaryOp op a pos) (mUn g fa) := by
  refine ⟨(pe_un ho ha.pe).impD ?_⟩
  rintro σ H Q ⟨FB, HB, F, env, S, d, S', R, e, q⟩
  obtain ⟨x, e1, e2⟩ := mUn_some e
  exact ⟨FB, HB, F, env, S, x, S', R, e1, fun vx F1 H1 A1 s1 dx => v G F1 H1 S' vx x d Q s1 dx e2 fun v F2 H2 A2 s2 dv => q v F2 H2 (A1.trans A2) s2 dv⟩
end
/-! ### lists of arguments, displays -/
def mNil : EvA := fun _ S => some ([], S)
def mCons (a : EvE) (b : EvA) : EvA := fun env S => match a env S with
  | some (x, S1) => match b env S1 with
    | some (xs, S2) => some (x :: xs, S2)
    | none => none
  | none => none
theorem mCons_some {a : EvE} {b : EvA} {env : Env'} {S S' : Src} {zs : List D} (h : mCons a b env S = some (zs, S')) : ∃ x S1 xs, a env S = some (x, S1) ∧ b env S1 = some (xs, S') ∧ zs = x :: xs := by
  unfold mCons at h
  split at h
  · rename_i x S1 e1
    split at h
    · rename_i xs S2 e2
      cases h
      exact ⟨x, S1, xs, e1, e2, rfl⟩
    · cases h
  · cases h
def line : Nat := 16777216
theorem line_eq : line = sizeLine := sizeLine_eq.symm
def mTup (a : EvA) : EvE := fun env S => match a env S with
  | some (xs, S1) => if xs.length ≤ line then some (.tuple xs, S1) else none
  | none => none
def mLstF (a : EvA) : EvA := fun env S => match a env S with
  | some (xs, S1) => if xs.length ≤ line then some (xs, S1) else none
  | none => none
/-- a new list, frozen -/
def mFz (a : EvA) : EvE := fun env S => match a env S with
  | some (xs, S1) => some (.list xs, S1)
  | none => none
section
variable {X : Cx} {G : Gh} {pos : Pos} {a b : Expr} {es : List Expr} {fa fb : EvE} {fs : EvA}
theorem da_nil : DA X G [] mNil := by
  refine ⟨pa_nil.impD ?_⟩
  rintro σ H Q ⟨FB, HB, F, env, S, d, S', R, e, q⟩
  cases e
  exact q [] F H (Aft.refl _ _ _) R.src .nil
theorem da_cons (ha : DE X G a fa) (hr : DA X G es fs) (hs : starEach (a :: es) X.env = (false, eval a X.env) :: starEach es X.env := by rfl) : DA X G (a :: es) (mCons fa fs) := by
  refine ⟨(pa_cons ha.pe hr.pa hs).impD ?_⟩
  rintro σ H Q ⟨FB, HB, F, env, S, d, S', R, e, q⟩
  obtain ⟨x, S1, xs, e1, e2, rfl⟩ := mCons_some e
  refine ⟨FB, HB, F, env, S, x, _, R, e1, fun vx F1 H1 A1 s1 dx => ?_⟩
  exact ⟨FB, HB, F1, env, S1, xs, S', R.after A1 s1, e2, fun vs F2 H2 A2 s2 dvs => q _ F2 H2 (A1.trans A2) s2 (.cons (dx.mono (A2.lat s1)) dvs)⟩
theorem de_tup {k} (h : DA X G es fs) : DE X G (.Tuple es k pos) (mTup fs) := by
  refine ⟨(pe_tup h.pa).impD ?_⟩
  rintro σ H Q ⟨FB, HB, F, env, S, d, S', R, e, q⟩
  unfold mTup at e
  split at e
  · rename_i xs S1 e1
    split at e
    · rename_i hl
      cases e
      refine ⟨FB, HB, F, env, S, _, _, R, e1, fun vs F1 H1 A1 s1 dvs => ⟨by rw [dvs.length, ← line_eq]; exact hl, fun p np => ?_⟩⟩
      exact q _ F1 _ (A1.trans (Aft.new np)) (s1.new np) (.tup (SqT.of upd_same) (dvs.mono (Lat.new np)))
    · cases e
  · cases e
theorem df_lst (h : DA X G es fs) : DF X G (.List es pos) (mLstF fs) := by
  refine ⟨(pe_lst h.pa).impD ?_⟩
  rintro σ H Q ⟨FB, HB, F, env, S, d, S', R, e, q⟩
  unfold mLstF at e
  split at e
  · rename_i xs S1 e1
    split at e
    · rename_i hl
      cases e
      refine ⟨FB, HB, F, env, S, _, _, R, e1, fun vs F1 H1 A1 s1 dvs => ⟨by rw [dvs.length, ← line_eq]; exact hl, fun p np => ?_⟩⟩
      refine q p vs F1 _ (A1.trans (Aft.new np)) (s1.new np) (A1.none_of np) (s1.notF np) upd_same (dvs.mono (Lat.new np))
    · cases e
  · cases e
/-- .. frozen at once -/
theorem DF.de (h : DF X G a fs) : DE X G a (mFz fs) := by
  refine ⟨h.pe.impD ?_⟩
  rintro σ H Q ⟨FB, HB, F, env, S, d, S', R, e, q⟩
  unfold mFz at e
  split at e
  · rename_i xs S1 e1
    cases e
    refine ⟨FB, HB, F, env, S, _, _, R, e1, fun p vs F1 H1 A1 s1 np nf hp dvs => ?_⟩
    have A2 : Aft G F H (withF F1 p) H1 := ⟨fun a h => .inl (A1.up a h), fun a h => h.elim (A1.nw a) (fun e => .inr (by rw [e]; exact np)), A1.kp, A1.nf⟩
    refine q _ (withF F1 p) H1 A2 (s1.freeze (fun s => R.src.there s np) (by rw [hp]; exact fun z => nomatch z)) (.lst (.inr rfl) hp (dvs.mono ⟨fun _ h => .inl h, fun _ _ h _ => h⟩))
  · cases e
end
end DL
set_option maxHeartbeats 1000000
namespace DL
open PySem PySem.Spec PyProof.Rows L2

/-! ### statements -/
def mSkip : EvS := fun env S => some (.nx env, S)
def mSeq (a b : EvS) : EvS := fun env S => match a env S with
  | some (.nx env1, S1) => b env1 S1
  | some (.rt d, S1) => some (.rt d, S1)
  | some (.bk env1, S1) => some (.bk env1, S1)
  | some (.ct env1, S1) => some (.ct env1, S1)
  | none => none
def mRet (a : EvE) : EvS := fun env S => match a env S with
  | some (d, S1) => some (.rt d, S1)
  | none => none
def mRetN : EvS := fun _ S => some (.rt .none, S)
def mBreak : EvS := fun env S => some (.bk env, S)
def mCont : EvS := fun env S => some (.ct env, S)
def mNever : EvS := fun _ _ => none
def mDrop (a : EvE) : EvS := fun env S => match a env S with
  | some (_, S1) => some (.nx env, S1)
  | none => none
def mIfS (c : EvT) (a b : EvS) : EvS := fun env S => match c env S with
  | some (true, S1) => a env S1
  | some (false, S1) => b env S1
  | none => none
def mSet (i : Nat) (a : EvE) : EvS := fun env S => match a env S with
  | some (d, S1) => some (.nx (env.set i (.val d)), S1)
  | none => none
def mSetOwn (i : Nat) (a : EvA) : EvS := fun env S => match a env S with
  | some (d, S1) => some (.nx (env.set i (.own d)), S1)
  | none => none
def mWhile (c : EvT) (b : EvS) : Nat → EvS
  | 0 => fun _ _ => none
  | n + 1 => fun env S => match c env S with
    | some (false, S1) => some (.nx env, S1)
    | some (true, S1) => match b env S1 with
      | some (.nx env2, S2) => mWhile c b n env2 S2
      | some (.ct env2, S2) => mWhile c b n env2 S2
      | some (.bk env2, S2) => some (.nx env2, S2)
      | some (.rt d, S2) => some (.rt d, S2)
      | none => none
    | none => none
section
variable {X : Cx} {G : Gh} {pos : Pos} {st : Stmt} {rest a b : List Stmt} {e : Expr} {fa fb : EvS} {fe : EvE} {ft : EvT} {fl : EvA}
theorem dss_nil : DSs X G [] mSkip := by
  refine ⟨pss_nil.impD ?_⟩
  rintro D σ H ⟨FB, HB, F, env, S, r, S', R, e, q⟩
  cases e
  exact q F σ H R (Lat.refl _ _)
theorem EndOk.later {K : PySem.W.Frag} {FB F F1 : Addr → Prop} {HB H H1 : Hp} {D : Ends} {S' : Src} {r : Fl} (l : Lat F H F1 H1) (h : EndOk K G FB HB F H D S' r) : EndOk K G FB HB F1 H1 D S' r := by
  cases r with
  | nx env => exact fun F' σ' H' R L => h F' σ' H' R (l.trans L)
  | rt d => exact h
  | bk env => exact fun F' σ' H' R L => h F' σ' H' R (l.trans L)
  | ct env => exact fun F' σ' H' R L => h F' σ' H' R (l.trans L)
theorem seq_of {K : PySem.W.Frag} {D : Ends} {u : TS} {σ : St} {H : Hp} {FB F : Addr → Prop} {HB : Hp} {env : Env'} {S S' : Src} {r : Fl}
    (R : Rel K G FB HB F env S σ H) (e : mSeq fa fb env S = some (r, S')) (q : EndOk K G FB HB F H D S' r)
    (hu : ∀ F1 σ1 H1 env1 S1, Rel K G FB HB F1 env1 S1 σ1 H1 → Lat F H F1 H1 → fb env1 S1 = some (r, S') → EndOk K G FB HB F1 H1 D S' r → u D σ1 H1) :
    ∃ r1 S1, fa env S = some (r1, S1) ∧ EndOk K G FB HB F H { D with nx := u D } S1 r1 := by
  unfold mSeq at e
  split at e
  · rename_i env1 S1 e1
    exact ⟨_, S1, e1, fun F1 σ1 H1 R1 L1 => hu F1 σ1 H1 env1 S1 R1 L1 e (q.later L1)⟩
  · rename_i e1; cases e; exact ⟨_, _, e1, q⟩
  · rename_i e1; cases e; exact ⟨_, _, e1, q⟩
  · rename_i e1; cases e; exact ⟨_, _, e1, q⟩
  · cases e
theorem dss_cons (h1 : DS X G st fa) (h2 : DSs X G rest fb) : DSs X G (st :: rest) (mSeq fa fb) := by
  refine ⟨(pss_cons h1.ps h2.ps).impD ?_⟩
  rintro D σ H ⟨FB, HB, F, env, S, r, S', R, e, q⟩
  obtain ⟨r1, S1, e1, q1⟩ := seq_of (u := tSs X.K G fb) R e q fun F1 σ1 H1 env1 S1 R1 L1 e1 q1 => ⟨FB, HB, F1, env1, S1, r, S', R1, e1, q1⟩
  exact ⟨FB, HB, F, env, S, r1, S1, R, e1, q1⟩
theorem dss_one (h1 : DS X G st fa) : DSs X G [st] fa := ⟨pss_one h1.ps⟩
theorem ds_pass : DS X G (.Pass pos) mSkip := by
  refine ⟨ps_pass.impD ?_⟩
  rintro D σ H ⟨FB, HB, F, env, S, r, S', R, e, q⟩
  cases e
  exact q F σ H R (Lat.refl _ _)
theorem ds_break : DS X G (.Break pos) mBreak := by
  refine ⟨ps_break.impD ?_⟩
  rintro D σ H ⟨FB, HB, F, env, S, r, S', R, e, q⟩
  cases e
  exact q F σ H R (Lat.refl _ _)
theorem ds_cont : DS X G (.Continue pos) mCont := by
  refine ⟨ps_continue.impD ?_⟩
  rintro D σ H ⟨FB, HB, F, env, S, r, S', R, e, q⟩
  cases e
  exact q F σ H R (Lat.refl _ _)
theorem ds_never : DS X G st mNever := by
  refine ⟨ps_never.impD ?_⟩
  rintro D σ H ⟨FB, HB, F, env, S, r, S', R, e, q⟩
  cases e
theorem dss_never : DSs X G rest mNever := by
  refine ⟨pss_never.impD ?_⟩
  rintro D σ H ⟨FB, HB, F, env, S, r, S', R, e, q⟩
  cases e
theorem ds_ret (he : DE X G e fe) : DS X G (.Return (some e) pos) (mRet fe) := by
  refine ⟨(ps_ret he.pe).impD ?_⟩
  rintro D σ H ⟨FB, HB, F, env, S, r, S', R, e, q⟩
  unfold mRet at e
  split at e
  · rename_i e1
    cases e
    exact ⟨FB, HB, F, env, S, _, _, R, e1, fun v F' H' A s dv => q v F' H' (R.aft.trans A) s dv⟩
  · cases e
theorem ds_retN : DS X G (.Return none pos) mRetN := by
  refine ⟨ps_retN.impD ?_⟩
  rintro D σ H ⟨FB, HB, F, env, S, r, S', R, e, q⟩
  cases e
  exact q .non F H R.aft R.src .non
theorem ds_expr (he : DE X G e fe) (hs : swapsWith e none pos.line X.env = pure false := by rfl) : DS X G (.Expr e pos) (mDrop fe) := by
  refine ⟨(ps_expr he.pe hs).impD ?_⟩
  rintro D σ H ⟨FB, HB, F, env, S, r, S', R, e, q⟩
  unfold mDrop at e
  split at e
  · rename_i e1
    cases e
    exact ⟨FB, HB, F, env, S, _, _, R, e1, fun v F' H' A s dv => q F' σ H' (R.after A s) (A.lat R.src)⟩
  · cases e
theorem ds_if {c : Expr} (hc : DT X G c ft) (ha : DSs X G a fa) (hb : DSs X G b fb) : DS X G (.If c a b pos) (mIfS ft fa fb) := by
  refine ⟨(ps_if hc.pt ha.ps hb.ps).impD ?_⟩
  rintro D σ H ⟨FB, HB, F, env, S, r, S', R, e, q⟩
  unfold mIfS at e
  split at e
  · rename_i S1 e1
    exact ⟨FB, HB, F, env, S, _, S1, R, e1, fun F1 H1 A1 s1 => iteT ⟨FB, HB, F1, env, S1, r, S', R.after A1 s1, e, q.later (A1.lat R.src)⟩⟩
  · rename_i S1 e1
    exact ⟨FB, HB, F, env, S, _, S1, R, e1, fun F1 H1 A1 s1 => iteF ⟨FB, HB, F1, env, S1, r, S', R.after A1 s1, e, q.later (A1.lat R.src)⟩⟩
  · cases e
theorem set_of {K : PySem.W.Frag} {D : Ends} {σ : St} {H : Hp} {i : Nat} {te : EvE} (h : tSs K G (mSet i te) D σ H) : tAsg (tD K G te) (gName i) D σ H := by
  obtain ⟨FB, HB, F, env, S, r, S', R, e, q⟩ := h
  unfold mSet at e
  split at e
  · rename_i e1
    cases e
    exact ⟨FB, HB, F, env, S, _, _, R, e1, fun v F' H' A s dv => q F' _ H' ((R.after A s).set dv) (A.lat R.src)⟩
  · cases e
theorem setOwn_of {K : PySem.W.Frag} {D : Ends} {σ : St} {H : Hp} {i : Nat} {te : EvA} (h : tSs K G (mSetOwn i te) D σ H) : tAsg (tFl K G te) (gName i) D σ H := by
  obtain ⟨FB, HB, F, env, S, r, S', R, e, q⟩ := h
  unfold mSetOwn at e
  split at e
  · rename_i e1
    cases e
    refine ⟨FB, HB, F, env, S, _, _, R, e1, fun p vs F' H' A s np nf hp dv => q F' _ H' ((R.after A s).setOwn hp dv nf (fun z => R.src.there z np) (R.aft.none_of np) ?_) (A.lat R.src)⟩
    intro j t ej ot _ z
    obtain ⟨b, ob, e2, hb, _⟩ := R.addr_own ej ot
    rw [e2] at z
    have z' : b = p := by injection z with z; injection z with z; injection z
    rw [z', np] at hb
    cases hb
  · cases e
theorem ds_set {x : Str} {p : Pos} (i : Nat) (he : DE X G e fe) (hN : X.N.Nodup) (hi : X.N[i]? = some x := by rfl) (hx : Loc X.env.scope x := by first | exact Or.inl rfl | exact Or.inr rfl) (hs : swapsWith e (some (.Name x p)) pos.line X.env = pure false := by rfl)
    (hf : X.fn x = true ∨ X.env.scope.names.lookup x = some .local := by exact .inl rfl) : DS X G (.Assign [.Name x p] e pos) (mSet i fe) :=
  ⟨(ps_set hN hi hx he.pe hs hf).impD fun _ _ _ h => set_of h⟩
theorem ds_setOwn {x : Str} {p : Pos} (i : Nat) (he : DF X G e fl) (hN : X.N.Nodup) (hi : X.N[i]? = some x := by rfl) (hx : Loc X.env.scope x := by first | exact Or.inl rfl | exact Or.inr rfl) (hs : swapsWith e (some (.Name x p)) pos.line X.env = pure false := by rfl)
    (hf : X.fn x = true ∨ X.env.scope.names.lookup x = some .local := by exact .inl rfl) : DS X G (.Assign [.Name x p] e pos) (mSetOwn i fl) :=
  ⟨(ps_set hN hi hx he.pe hs hf).impD fun _ _ _ h => setOwn_of h⟩
/-! while -/
theorem ds_while {c : Expr} (n : Nat) (hc : DT X G c ft) (hb : DSs X G a fa) (hp : PassesOwn (model X.prog X.w) X.A X.env X.xe := by exact PassesOwn.never) : DS X G (.While c a [] pos) (mWhile ft fa n) := by
  refine ⟨(ps_while hp hc.pt hb.ps).impD ?_⟩
  rintro D σ H ⟨FB, HB, F, env, S, r, S', R, e, q⟩
  refine ⟨fun m σ H => ∃ F env S, Rel X.K G FB HB F env S σ H ∧ mWhile ft fa m env S = some (r, S') ∧ EndOk X.K G FB HB F H D S' r, ⟨n, F, env, S, R, e, q⟩, ?_⟩
  rintro m σ H ⟨F, env, S, R, e, q⟩
  cases m with
  | zero => cases e
  | succ m =>
    rw [mWhile] at e; dsimp only at e
    split at e
    · rename_i S1 e1
      cases e
      exact ⟨FB, HB, F, env, S, _, _, R, e1, fun F1 H1 A1 s1 => iteF (q F1 σ H1 (R.after A1 s1) (A1.lat R.src))⟩
    · rename_i S1 e1
      refine ⟨FB, HB, F, env, S, _, S1, R, e1, fun F1 H1 A1 s1 => iteT ?_⟩
      have q1 := q.later (A1.lat R.src)
      refine ⟨fun σ H => ∃ F env S, Rel X.K G FB HB F env S σ H ∧ mWhile ft fa m env S = some (r, S') ∧ EndOk X.K G FB HB F H D S' r, fun σ' H' h => ⟨m, Nat.lt_succ_self _, h⟩, ?_⟩
      split at e
      · rename_i env2 S2 e2
        exact ⟨FB, HB, F1, env, S1, _, S2, R.after A1 s1, e2, fun F2 σ2 H2 R2 L2 => ⟨F2, env2, S2, R2, e, q1.later L2⟩⟩
      · rename_i env2 S2 e2
        exact ⟨FB, HB, F1, env, S1, _, S2, R.after A1 s1, e2, fun F2 σ2 H2 R2 L2 => ⟨F2, env2, S2, R2, e, q1.later L2⟩⟩
      · rename_i e2
        cases e
        exact ⟨FB, HB, F1, env, S1, _, _, R.after A1 s1, e2, q1⟩
      · rename_i e2
        cases e
        exact ⟨FB, HB, F1, env, S1, _, _, R.after A1 s1, e2, q1⟩
      · cases e
    · cases e
end

/-! ### targets -/
abbrev EvG := D → Env' → Option Env'
def tGd (K : PySem.W.Frag) (G : Gh) (ws : List Nat) (g : EvG) : TG := fun v σ H Q => ∃ FB HB F env S d env', Rel K G FB HB F env S σ H ∧ Den K F H v d ∧ g d env = some env' ∧
  ∀ σ', Rel K G FB HB F env' S σ' H → (∀ vs : List Nat, (∀ i ∈ ws, i ∈ vs) → wipe σ' vs = wipe σ vs) → Q σ' H
abbrev EvGs := List D → Env' → Option Env'
def tGds (K : PySem.W.Frag) (G : Gh) (ws : List Nat) (g : EvGs) : TGs := fun vs σ H Q => ∃ FB HB F env S ds env', Rel K G FB HB F env S σ H ∧ DenL K F H vs ds ∧ g ds env = some env' ∧
  ∀ σ', Rel K G FB HB F env' S σ' H → (∀ vs : List Nat, (∀ i ∈ ws, i ∈ vs) → wipe σ' vs = wipe σ vs) → Q σ' H
theorem _root_.L2.PG.impD {X : Cx} {e : Expr} {t u : TG} (h : PG X e t) (w : ∀ v σ H Q, u v σ H Q → t v σ H Q) : PG X e u := ⟨fun pins s σ H v x Q I r q => h.run pins s σ H v x Q I r (w _ _ _ _ q)⟩
theorem _root_.L2.PGs.impD {X : Cx} {e : List Expr} {t u : TGs} (h : PGs X e t) (w : ∀ v σ H Q, u v σ H Q → t v σ H Q) : PGs X e u := ⟨fun pins s σ H v x Q I r q => h.run pins s σ H v x Q I r (w _ _ _ _ q)⟩
structure DG (X : Cx) (G : Gh) (e : Expr) (ws : List Nat) (g : EvG) : Prop where
  pg : PG X e (tGd X.K G ws g)
structure DGs (X : Cx) (G : Gh) (e : List Expr) (ws : List Nat) (g : EvGs) : Prop where
  pgs : PGs X e (tGds X.K G ws g)
theorem wipe_set_of {σ : St} {i : Nat} {x : Option V} : ∀ {vs : List Nat}, i ∈ vs → wipe (σ.set i x) vs = wipe σ vs
  | [], h => by cases h
  | v :: vs, h => by
    unfold wipe
    by_cases e : i ∈ vs
    · rw [wipe_set_of e]
    · have ei : i = v := by
        rcases List.mem_cons.mp h with z | z
        · exact z
        · exact absurd z e
      subst ei
      have out : ∀ {vs : List Nat}, i ∉ vs → wipe (σ.set i x) vs = (wipe σ vs).set i x := by
        intro vs
        induction vs with
        | nil => intro _; rfl
        | cons u us ih =>
          intro hu
          unfold wipe
          rw [ih (fun z => hu (List.mem_cons_of_mem _ z)), List.set_comm]
          exact fun z => hu (by rw [z]; exact List.mem_cons_self)
      rw [out e, List.set_set]
def gN (i : Nat) : EvG := fun d env => some (env.set i (.val d))
def gsNil : EvGs := fun ds env => match ds with
  | [] => some env
  | _ => none
def gsCons (g : EvG) (h : EvGs) : EvGs := fun ds env => match ds with
  | d :: r => match g d env with
    | some env1 => h r env1
    | none => none
  | [] => none
def gT (n : Nat) (h : EvGs) : EvG := fun d env => match d with
  | .tuple ds => if ds.length = n then h ds env else none
  | _ => none
section
variable {X : Cx} {G : Gh} {pos : Pos}
theorem dg_name {x : Str} (i : Nat) (hN : X.N.Nodup) (hi : X.N[i]? = some x := by rfl) (hx : Loc X.env.scope x := by first | exact Or.inl rfl | exact Or.inr rfl) (hf : X.fn x = true ∨ X.env.scope.names.lookup x = some .local := by first | exact .inl rfl | exact .inr rfl) : DG X G (.Name x pos) [i] (gN i) := by
  refine ⟨(pg_name hN hi hx hf).impD ?_⟩
  rintro v σ H Q ⟨FB, HB, F, env, S, d, env', R, dv, e, q⟩
  cases e
  exact q _ (R.set dv) fun vs h => wipe_set_of (h i (by simp))
theorem dgs_nil : DGs X G [] [] gsNil := by
  refine ⟨pgs_nil.impD ?_⟩
  rintro vs σ H Q ⟨FB, HB, F, env, S, ds, env', R, dvs, e, q⟩
  cases dvs with
  | nil => cases e; exact ⟨rfl, q σ R fun _ _ => rfl⟩
  | cons _ _ => cases e
theorem dgs_cons {e : Expr} {es : List Expr} {ws1 ws2 : List Nat} {g : EvG} {h : EvGs} (h1 : DG X G e ws1 g) (h2 : DGs X G es ws2 h)
    (hs : (assignEach (e :: es) X.env).map (·.2) = assign e X.env :: (assignEach es X.env).map (·.2) := by rfl) : DGs X G (e :: es) (ws1 ++ ws2) (gsCons g h) := by
  refine ⟨(pgs_cons h1.pg h2.pgs hs).impD ?_⟩
  rintro vs σ H Q ⟨FB, HB, F, env, S, ds, env', R, dvs, e, q⟩
  cases dvs with
  | nil => cases e
  | cons dv dr =>
    unfold gsCons at e
    dsimp only at e
    split at e
    · rename_i env1 e1
      refine ⟨_, _, rfl, FB, HB, F, env, S, _, env1, R, dv, e1, fun σ1 R1 w1 => ?_⟩
      refine ⟨FB, HB, F, env1, S, _, env', R1, dr, e, fun σ2 R2 w2 => q σ2 R2 fun vs hv => ?_⟩
      rw [w2 vs (fun i hi => hv i (List.mem_append_right _ hi)), w1 vs (fun i hi => hv i (List.mem_append_left _ hi))]
    · cases e
theorem dg_tup {es : List Expr} {k : Nat} {ws : List Nat} {h : EvGs} {n : Nat} (hc : X.calm = true) (hh : DGs X G es ws h) (hn : (assignEach es X.env).length = n := by rfl) (hst : (assignEach es X.env).findIdx? (·.1) = none := by rfl) : DG X G (.Tuple es k pos) ws (gT n h) := by
  refine ⟨(pg_tup hc hh.pgs hn hst).impD ?_⟩
  rintro v σ H Q ⟨FB, HB, F, env, S, d, env', R, dv, e, q⟩
  unfold gT at e
  split at e
  · split at e
    · rename_i ds hl
      cases dv with
      | tup hs dvs => exact ⟨_, _, rfl, hs, dvs.length.trans hl, FB, HB, F, env, S, ds, env', R, dvs, e, q⟩
    · cases e
  · cases e
/-- target = value -/
def mAsg (g : EvG) (a : EvE) : EvS := fun env S => match a env S with
  | some (d, S1) => match g d env with
    | some env1 => some (.nx env1, S1)
    | none => none
  | none => none
theorem ds_asg {tg e : Expr} {ws : List Nat} {g : EvG} {fe : EvE} (he : DE X G e fe) (hg : DG X G tg ws g) (hs : swapsWithSole [tg] e pos.line X.env = pure false := by rfl) (hw : swappedStores [tg] e X.env = pure none := by rfl)
    (h1 : (assignEach [tg] X.env).map (·.2) = [assign tg X.env] := by rfl) : DS X G (.Assign [tg] e pos) (mAsg g fe) := by
  refine ⟨(ps_asg he.pe hg.pg hs hw h1).impD ?_⟩
  rintro D σ H ⟨FB, HB, F, env, S, r, S', R, e, q⟩
  unfold mAsg at e
  split at e
  · rename_i d S1 e1
    split at e
    · rename_i env1 e2
      cases e
      exact ⟨FB, HB, F, env, S, d, _, R, e1, fun v F' H' A s dv => ⟨FB, HB, F', env, _, d, env1, R.after A s, dv, e2, fun σ' R' _ => q F' σ' H' R' (A.lat R.src)⟩⟩
    · cases e
  · cases e
/-- a, b = x, y -/
def mPar (i j : Nat) (a b : EvE) : EvS := fun env S => match a env S with
  | some (x, S1) => match b env S1 with
    | some (y, S2) => some (.nx ((env.set i (.val x)).set j (.val y)), S2)
    | none => none
  | none => none
theorem ds_par {x y : Str} {a b : Expr} {fa fb : EvE} {px py pt : Pos} {kt k2 pt2} (i j : Nat) (hc : X.calm = true) (hN : X.N.Nodup) (ha : DE X G a fa) (hb : DE X G b fb) (hij : i ≠ j := by decide) (hi : X.N[i]? = some x := by rfl) (hj : X.N[j]? = some y := by rfl)
    (hx : X.env.scope.names.lookup x = some .local := by rfl) (hy : X.env.scope.names.lookup y = some .local := by rfl)
    (hw : swappedStores [.Tuple [.Name x px, .Name y py] kt pt] (.Tuple [a, b] k2 pt2) X.env = pure (some [x, y]) := by rfl)
    (hs : swapsWithSole [.Tuple [.Name x px, .Name y py] kt pt] (.Tuple [a, b] k2 pt2) pos.line X.env = pure false := by rfl)
    (s1 : starEach [a, b] X.env = (false, eval a X.env) :: starEach [b] X.env := by rfl) (s2 : starEach [b] X.env = (false, eval b X.env) :: starEach [] X.env := by rfl) :
    DS X G (.Assign [.Tuple [.Name x px, .Name y py] kt pt] (.Tuple [a, b] k2 pt2) pos) (mPar i j fa fb) := by
  refine ⟨(ps_par hc hN hi hj hij hx hy (pa_cons ha.pe (pa_cons hb.pe pa_nil s2) s1) hw hs).impD ?_⟩
  rintro D σ H ⟨FB, HB, F, env, S, r, S', R, e, q⟩
  unfold mPar at e
  split at e
  · rename_i x S1 e1
    split at e
    · rename_i y S2 e2
      cases e
      refine ⟨FB, HB, F, env, S, x, S1, R, e1, fun v F1 H1 A1 s1 dv => ⟨FB, HB, F1, env, S1, y, _, R.after A1 s1, e2, fun w F2 H2 A2 s2 dw => ⟨v, w, rfl, ?_⟩⟩⟩
      exact q F2 _ H2 ((((R.after A1 s1).after A2 s2).set (dv.mono (A2.lat s1))).set dw) ((A1.trans A2).lat R.src)
    · cases e
  · cases e
end
end DL
set_option maxHeartbeats 1000000
namespace DL
open PySem PySem.Spec PyProof.Rows L2

/-! ### what is walked -/
def ItOk (K : PySem.W.Frag) (G : Gh) (J : It) (F0 : Addr → Prop) (H0 : Hp) (ds : List D) : Prop := ∀ F H, Lat F0 H0 F H →
  (∀ i d, ds[i]? = some d → J.go i H ∧ ∀ S x H', SrcF G S F H → J.yld i H x H' → ∃ F', Aft G F H F' H' ∧ SrcF G S F' H' ∧ Den K F' H' x d) ∧ ∀ i, ds.length ≤ i → J.stop i H
def tIi (K : PySem.W.Frag) (G : Gh) (f : EvA) : TI := fun σ H R => ∃ FB HB F env S d S', Rel K G FB HB F env S σ H ∧ f env S = some (d, S') ∧
  ∀ J F' H', Aft G F H F' H' → SrcF G S' F' H' → ItOk K G J F' H' d → R J H'
theorem _root_.L2.PI.impD {X : Cx} {tg e : Expr} {t u : TI} (h : PI X tg e t) (w : ∀ σ H R, u σ H R → t σ H R) : PI X tg e u := ⟨fun pins s σ H R I q => h.run pins s σ H R I (w _ _ _ q)⟩
structure DI (X : Cx) (G : Gh) (tg e : Expr) (f : EvA) : Prop where
  pi : PI X tg e (tIi X.K G f)
section
variable {K : PySem.W.Frag} {G : Gh} {F : Addr → Prop} {H : Hp}
theorem itOk_list {a : Addr} {ds : List D} (h : Den K F H (.ref a) (.list ds)) : ItOk K G (Itl K a) F H ds := fun F1 H1 L => by
  have h1 := h.mono L
  cases h1 with
  | lst f hh dv =>
    refine ⟨fun i d e => ?_, fun i hi => ⟨_, SqL.of hh, by rw [dv.length]; exact hi⟩⟩
    obtain ⟨v, hv, dd⟩ := dv.get e
    refine ⟨⟨_, v, SqL.of hh, hv⟩, fun S x H' sf y => ?_⟩
    obtain ⟨rfl, y⟩ := y
    have := y _ (SqL.of hh)
    rw [hv] at this
    cases this
    exact ⟨F1, Aft.refl _ _ _, sf, dd⟩
theorem itOk_tup {a : Addr} {ds : List D} (h : Den K F H (.ref a) (.tuple ds)) : ItOk K G (Itt K a) F H ds := fun F1 H1 L => by
  have h1 := h.mono L
  cases h1 with
  | tup hh dv =>
    refine ⟨fun i d e => ?_, fun i hi => ⟨_, hh, by rw [dv.length]; exact hi⟩⟩
    obtain ⟨v, hv, dd⟩ := dv.get e
    refine ⟨⟨_, v, hh, hv⟩, fun S x H' sf y => ?_⟩
    obtain ⟨rfl, y⟩ := y
    have := y _ hh
    rw [hv] at this
    cases this
    exact ⟨F1, Aft.refl _ _ _, sf, dd⟩
end
/-- the items of a list or tuple -/
def mItems (a : EvE) : EvA := fun env S => match a env S with
  | some (.list ds, S1) => some (ds, S1)
  | some (.tuple ds, S1) => some (ds, S1)
  | _ => none
def iSeq (K : PySem.W.Frag) (tl : TE) : TI := fun σ H R => tl σ H fun x H1 => ∃ a, x = .ref a ∧ (((∃ xs, SqL K H1 a xs) ∧ R (Itl K a) H1) ∨ ((∃ xs, SqT K H1 a xs) ∧ R (Itt K a) H1))
section
variable {X : Cx} {G : Gh} {pos p : Pos} {tg e a b c : Expr} {fe fa fb fc : EvE} {fs : EvA}
theorem pi_seq {l : Expr} {tl : TE} (hl : PE X l tl) : PI X tg l (iSeq X.K tl) := by
  refine ⟨fun pins s σ H R I h => ?_⟩
  refine thn (hl.run pins s σ H _ I h) fun v s1 ⟨x, H1, I1, r1, q1⟩ => ?_
  obtain ⟨a, e, q⟩ := q1
  subst e
  cases r1
  rcases q with ⟨⟨xs, hq⟩, q⟩ | ⟨⟨xs, hq⟩, q⟩
  · obtain ⟨its, rv, p, hz⟩ := I1.list hq
    refine wpAny_pyIter_list p.isList ?_
    refine ⟨s1.heap.objs.size, [s1.heap.objs.size], _, _, H1, rfl, I1.kept (t' := s1.toks) fun b o e => Heap.get?_push_of_some _ e, turn_list a _, ⟨_, Heap.get?_push_size _ rfl, rfl, rfl⟩, fun b hb => ?_, q⟩
    have e : b = s1.heap.objs.size := by simpa using hb
    subst e
    exact I1.fpOk (Nat.le_refl _) (I1.hok.fresh (Nat.le_refl _))
  · obtain ⟨its, rv, p, hz⟩ := I1.tuple hq
    refine wpAny_pyIter_tuple (show s1.heap.IsTuple a its.toArray from p) ?_
    refine ⟨s1.heap.objs.size, [s1.heap.objs.size], _, _, H1, rfl, I1.kept (t' := s1.toks) fun b o e => Heap.get?_push_of_some _ e, turn_tuple a _, ⟨_, Heap.get?_push_size _ rfl, rfl, rfl⟩, fun b hb => ?_, q⟩
    have e : b = s1.heap.objs.size := by simpa using hb
    subst e
    exact I1.fpOk (Nat.le_refl _) (I1.hok.fresh (Nat.le_refl _))
theorem di_seq (h : DE X G e fe) : DI X G tg e (mItems fe) := by
  refine ⟨(pi_seq h.pe).impD ?_⟩
  rintro σ H R ⟨FB, HB, F, env, S, d, S', Rl, e, q⟩
  unfold mItems at e
  split at e
  · rename_i ds S1 e1
    cases e
    refine ⟨FB, HB, F, env, S, _, _, Rl, e1, fun v F' H' A s dv => ?_⟩
    cases dv with
    | lst f hh dd => exact ⟨_, rfl, .inl ⟨⟨_, SqL.of hh⟩, q _ F' H' A s (itOk_list (.lst f hh dd))⟩⟩
  · rename_i ds S1 e1
    cases e
    refine ⟨FB, HB, F, env, S, _, _, Rl, e1, fun v F' H' A s dv => ?_⟩
    cases dv with
    | tup hh dd => exact ⟨_, rfl, .inr ⟨⟨_, hh⟩, q _ F' H' A s (itOk_tup (.tup hh dd))⟩⟩
  · cases e
/-! ranges -/
def rangeD (lo : Int) : Nat → List D
  | 0 => []
  | n + 1 => .int lo :: rangeD (lo + 1) n
theorem rangeD_get : ∀ (n : Nat) (lo : Int) (i : Nat) (d : D), (rangeD lo n)[i]? = some d → i < n ∧ d = .int (lo + i)
  | 0, _, _, _, h => by simp [rangeD] at h
  | n + 1, lo, 0, d, h => by
    rw [rangeD] at h
    simp at h
    exact ⟨Nat.succ_pos _, by rw [← h]; simp⟩
  | n + 1, lo, i + 1, d, h => by
    rw [rangeD] at h
    obtain ⟨h1, h2⟩ := rangeD_get n (lo + 1) i d (by simpa using h)
    exact ⟨by omega, by rw [h2]; congr 1; omega⟩
theorem rangeD_len : ∀ (n : Nat) (lo : Int), (rangeD lo n).length = n
  | 0, _ => rfl
  | n + 1, lo => by rw [rangeD, List.length_cons, rangeD_len n]
theorem itOk_range {K : PySem.W.Frag} {F : Addr → Prop} {H : Hp} (lo : Int) (n : Nat) : ItOk K G (Itr lo n) F H (rangeD lo n) := fun F1 H1 L => by
  refine ⟨fun i d e => ?_, fun i hi => by rw [rangeD_len] at hi; exact hi⟩
  obtain ⟨h1, h2⟩ := rangeD_get n lo i d e
  refine ⟨h1, fun S x H' sf y => ?_⟩
  obtain ⟨rfl, rfl⟩ := y
  exact ⟨F1, Aft.refl _ _ _, sf, by rw [h2]; exact .int _⟩
def rgOk (i : Int) : Bool := decide (-4611686018427387904 ≤ i) && decide (i < 4611686018427387904)
theorem rgOk_of {i : Int} (h : rgOk i = true) : -(2 ^ 62) ≤ i ∧ i < 2 ^ 62 := by
  unfold rgOk at h
  simp only [Bool.and_eq_true, decide_eq_true_eq] at h
  exact ⟨by omega, by omega⟩
def mRange1 (a : EvE) : EvA := fun env S => match a env S with
  | some (.int j, S1) => if rgOk j = true then some (rangeD 0 j.toNat, S1) else none
  | _ => none
def mRange2 (a b : EvE) : EvA := fun env S => match a env S with
  | some (.int i, S1) => match b env S1 with
    | some (.int j, S2) => if (rgOk i && rgOk j) = true then some (rangeD i (j - i).toNat, S2) else none
    | _ => none
  | _ => none
theorem di_range1 (hg : Gl X "range") (hm : X.mg "range" = none) (ha : DE X G a fa) (hs : starEach [a] X.env = [(false, eval a X.env)] := by rfl) (hs2 : starEach [a] X.env = (false, eval a X.env) :: starEach [] X.env := by rfl) : DI X G tg (.Call (.Name "range" p) [a] [] pos) (mRange1 fa) := by
  refine ⟨(pi_range1 hg hm (pa_cons ha.pe pa_nil hs2) hs).impD ?_⟩
  rintro σ H R ⟨FB, HB, F, env, S, d, S', Rl, e, q⟩
  unfold mRange1 at e
  split at e
  · rename_i j S1 e1
    split at e
    · rename_i hj
      cases e
      refine ⟨FB, HB, F, env, S, _, _, Rl, e1, fun v F' H' A s dv => ?_⟩
      cases dv
      exact ⟨j, rfl, (rgOk_of hj).1, (rgOk_of hj).2, q _ F' H' A s (itOk_range 0 j.toNat)⟩
    · cases e
  · cases e
theorem di_range2 (hg : Gl X "range") (hm : X.mg "range" = none) (ha : DE X G a fa) (hb : DE X G b fb) (hs : starEach [a, b] X.env = [(false, eval a X.env), (false, eval b X.env)] := by rfl) (hs2 : starEach [b] X.env = [(false, eval b X.env)] := by rfl)
    (s1 : starEach [a, b] X.env = (false, eval a X.env) :: starEach [b] X.env := by rfl) (s2 : starEach [b] X.env = (false, eval b X.env) :: starEach [] X.env := by rfl) : DI X G tg (.Call (.Name "range" p) [a, b] [] pos) (mRange2 fa fb) := by
  refine ⟨(pi_range2 hg hm (pa_cons ha.pe (pa_cons hb.pe pa_nil s2) s1) hs hs2).impD ?_⟩
  rintro σ H R ⟨FB, HB, F, env, S, d, S', Rl, e, q⟩
  unfold mRange2 at e
  split at e
  · rename_i i S1 e1
    split at e
    · rename_i j S2 e2
      split at e
      · rename_i hj
        cases e
        obtain ⟨h1, h2⟩ := Bool.and_eq_true_iff.mp hj
        refine ⟨FB, HB, F, env, S, _, _, Rl, e1, fun v F' H' A s dv => ?_⟩
        refine ⟨FB, HB, F', env, _, _, _, Rl.after A s, e2, fun w F2 H2 A2 s2 dw => ?_⟩
        cases dv
        cases dw
        exact ⟨i, j, rfl, ⟨(rgOk_of h1).1, (rgOk_of h1).2, (rgOk_of h2).1, (rgOk_of h2).2⟩, q _ F2 H2 (A.trans A2) s2 (itOk_range i _)⟩
      · cases e
    · cases e
  · cases e
/-- range(i, j, c), c above nought -/
def stepD (lo c : Int) : Nat → List D
  | 0 => []
  | n + 1 => .int lo :: stepD (lo + c) c n
theorem stepD_get (c : Int) : ∀ (n : Nat) (lo : Int) (i : Nat) (d : D), (stepD lo c n)[i]? = some d → i < n ∧ d = .int (lo + i * c)
  | 0, _, _, _, h => by simp [stepD] at h
  | n + 1, lo, 0, d, h => by
    rw [stepD] at h
    simp at h
    exact ⟨Nat.succ_pos _, by rw [← h]; simp⟩
  | n + 1, lo, i + 1, d, h => by
    rw [stepD] at h
    obtain ⟨h1, h2⟩ := stepD_get c n (lo + c) i d (by simpa using h)
    refine ⟨by omega, ?_⟩
    rw [h2]
    have e : ((i + 1 : Nat) : Int) * c = (i : Int) * c + c := by
      rw [show ((i + 1 : Nat) : Int) = (i : Int) + 1 by omega, Int.add_mul, Int.one_mul]
    rw [e]; congr 1; omega
theorem stepD_len (c : Int) : ∀ (n : Nat) (lo : Int), (stepD lo c n).length = n
  | 0, _ => rfl
  | n + 1, lo => by rw [stepD, List.length_cons, stepD_len c n]
theorem itOk_step {K : PySem.W.Frag} {F : Addr → Prop} {H : Hp} (lo c : Int) (n : Nat) : ItOk K G (Itc lo c n) F H (stepD lo c n) := fun F1 H1 L => by
  refine ⟨fun i d e => ?_, fun i hi => by rw [stepD_len] at hi; exact hi⟩
  obtain ⟨h1, h2⟩ := stepD_get c n lo i d e
  refine ⟨h1, fun S x H' sf y => ?_⟩
  obtain ⟨rfl, rfl⟩ := y
  exact ⟨F1, Aft.refl _ _ _, sf, by rw [h2]; exact .int _⟩
def rg3 (i j c : Int) : Bool := decide (c ≠ 0) && decide (c.natAbs < 1073741824) && Builtin.Range.small i j c
def mRange3 (a b c : EvE) : EvA := fun env S => match a env S with
  | some (.int i, S1) => match b env S1 with
    | some (.int j, S2) => match c env S2 with
      | some (.int k, S3) => if rg3 i j k = true ∧ 0 ≤ Builtin.Range.rangeSize i j k then some (stepD i k (Builtin.Range.rangeSize i j k).toNat, S3) else none
      | _ => none
    | _ => none
  | _ => none
theorem di_range3 (hg : Gl X "range") (hm : X.mg "range" = none) (ha : DE X G a fa) (hb : DE X G b fb) (hc : DE X G c fc)
    (s1 : starEach [a, b, c] X.env = (false, eval a X.env) :: starEach [b, c] X.env := by rfl) (s2 : starEach [b, c] X.env = (false, eval b X.env) :: starEach [c] X.env := by rfl) (s3 : starEach [c] X.env = (false, eval c X.env) :: starEach [] X.env := by rfl)
    (hpl : (backTo pos (starEach [b, c] X.env)).any (·.1) = false := by rfl) : DI X G tg (.Call (.Name "range" p) [a, b, c] [] pos) (mRange3 fa fb fc) := by
  refine ⟨(pi_range3 hg hm (pa_cons ha.pe (pa_cons hb.pe (pa_cons hc.pe pa_nil s3) s2) s1) s1 hpl).impD ?_⟩
  rintro σ H R ⟨FB, HB, F, env, S, d, S', Rl, e, q⟩
  unfold mRange3 at e
  split at e
  · rename_i i S1 e1
    split at e
    · rename_i j S2 e2
      split at e
      · rename_i k S3 e3
        split at e
        · rename_i hj
          cases e
          obtain ⟨h1, h2⟩ := hj
          unfold rg3 at h1
          simp only [Bool.and_eq_true, decide_eq_true_eq] at h1
          refine ⟨FB, HB, F, env, S, _, _, Rl, e1, fun v F' H' A s dv => ?_⟩
          refine ⟨FB, HB, F', env, _, _, _, Rl.after A s, e2, fun w F2 H2 A2 s2 dw => ?_⟩
          refine ⟨FB, HB, F2, env, _, _, _, (Rl.after A s).after A2 s2, e3, fun u F3 H3 A3 s3 du => ?_⟩
          cases dv
          cases dw
          cases du
          exact ⟨i, j, k, (Builtin.Range.rangeSize i j k).toNat, rfl, ⟨h1.1.1, h1.1.2, h1.2, by omega⟩, q _ F3 H3 ((A.trans A2).trans A3) s3 (itOk_step i k _)⟩
        · cases e
      · cases e
    · cases e
  · cases e
/-! zip, enumerate -/
def zipD : List D → List D → List D
  | x :: xs, y :: ys => .tuple [x, y] :: zipD xs ys
  | _, _ => []
theorem zipD_get : ∀ (xs ys : List D) (i : Nat) (d : D), (zipD xs ys)[i]? = some d → ∃ x y, xs[i]? = some x ∧ ys[i]? = some y ∧ d = .tuple [x, y]
  | [], _, _, _, h => by simp [zipD] at h
  | _ :: _, [], _, _, h => by simp [zipD] at h
  | x :: xs, y :: ys, 0, d, h => by rw [zipD] at h; simp at h; exact ⟨x, y, rfl, rfl, h.symm⟩
  | x :: xs, y :: ys, i + 1, d, h => by
    rw [zipD] at h
    obtain ⟨x', y', h1, h2, h3⟩ := zipD_get xs ys i d (by simpa using h)
    exact ⟨x', y', by simpa using h1, by simpa using h2, h3⟩
theorem zipD_len : ∀ (xs ys : List D), (zipD xs ys).length = min xs.length ys.length
  | [], _ => by simp [zipD]
  | _ :: _, [] => by simp [zipD]
  | x :: xs, y :: ys => by rw [zipD, List.length_cons, zipD_len xs ys]; simp only [List.length_cons]; omega
def mZip (a b : EvE) : EvA := fun env S => match a env S with
  | some (.list xs, S1) => match b env S1 with
    | some (.list ys, S2) => some (zipD xs ys, S2)
    | _ => none
  | some (.tuple xs, S1) => match b env S1 with
    | some (.tuple ys, S2) => some (zipD xs ys, S2)
    | _ => none
  | _ => none
theorem itOk_zip {K : PySem.W.Frag} {F : Addr → Prop} {H : Hp} {a b : Addr} {xs ys : List D} (h : Den K F H (.ref a) (.list xs)) (h' : Den K F H (.ref b) (.list ys)) : ItOk K G (Itz K a b) F H (zipD xs ys) := fun F1 H1 L => by
  have h1 := h.mono L
  have h2 := h'.mono L
  cases h1 with
  | lst f1 e1 d1 =>
  cases h2 with
  | lst f2 e2 d2 =>
  refine ⟨fun i d e => ?_, fun i hi => ⟨_, _, SqL.of e1, SqL.of e2, by rw [d1.length, d2.length]; rw [zipD_len] at hi; omega⟩⟩
  obtain ⟨x, y, hx, hy, rfl⟩ := zipD_get _ _ _ _ e
  obtain ⟨v, hv, dv⟩ := d1.get hx
  obtain ⟨w, hw, dw⟩ := d2.get hy
  refine ⟨⟨_, _, v, w, SqL.of e1, SqL.of e2, hv, hw⟩, fun S u H' sf y => ?_⟩
  obtain ⟨T, x', y', rfl, nT, rfl, g1, g2⟩ := y
  have z1 := g1 _ (SqL.of e1)
  have z2 := g2 _ (SqL.of e2)
  rw [hv] at z1
  rw [hw] at z2
  cases z1
  cases z2
  exact ⟨F1, Aft.new nT, sf.new nT, .tup (SqT.of upd_same) (.cons (dv.mono (Lat.new nT)) (.cons (dw.mono (Lat.new nT)) .nil))⟩
theorem itOk_zipT {K : PySem.W.Frag} {F : Addr → Prop} {H : Hp} {a b : Addr} {xs ys : List D} (h : Den K F H (.ref a) (.tuple xs)) (h' : Den K F H (.ref b) (.tuple ys)) : ItOk K G (RZ.ItzT K a b) F H (zipD xs ys) := fun F1 H1 L => by
  have h1 := h.mono L
  have h2 := h'.mono L
  cases h1 with
  | tup e1 d1 =>
  cases h2 with
  | tup e2 d2 =>
  refine ⟨fun i d e => ?_, fun i hi => ⟨_, _, e1, e2, by rw [d1.length, d2.length]; rw [zipD_len] at hi; omega⟩⟩
  obtain ⟨x, y, hx, hy, rfl⟩ := zipD_get _ _ _ _ e
  obtain ⟨v, hv, dv⟩ := d1.get hx
  obtain ⟨w, hw, dw⟩ := d2.get hy
  refine ⟨⟨_, _, v, w, e1, e2, hv, hw⟩, fun S u H' sf y => ?_⟩
  obtain ⟨T, x', y', rfl, nT, rfl, g1, g2⟩ := y
  have z1 := g1 _ e1
  have z2 := g2 _ e2
  rw [hv] at z1
  rw [hw] at z2
  cases z1
  cases z2
  exact ⟨F1, Aft.new nT, sf.new nT, .tup (SqT.of upd_same) (.cons (dv.mono (Lat.new nT)) (.cons (dw.mono (Lat.new nT)) .nil))⟩
theorem di_zip {elts : List Expr} {kk : Nat} {tpos : Pos} (hg : Gl X "zip") (hm : X.mg "zip" = none) (ha : DE X G a fa) (hb : DE X G b fb)
    (s1 : starEach [a, b] X.env = (false, eval a X.env) :: starEach [b] X.env := by rfl) (s2 : starEach [b] X.env = (false, eval b X.env) :: starEach [] X.env := by rfl)
    (hpl : (backTo pos (starEach [b] X.env)).any (·.1) = false := by rfl) : DI X G (.Tuple elts kk tpos) (.Call (.Name "zip" p) [a, b] [] pos) (mZip fa fb) := by
  refine ⟨(RZ.pi_zipA hg hm (pa_cons ha.pe (pa_cons hb.pe pa_nil s2) s1) s1 hpl).impD ?_⟩
  rintro σ H R ⟨FB, HB, F, env, S, d, S', Rl, e, q⟩
  unfold mZip at e
  split at e
  · rename_i xs S1 e1
    split at e
    · rename_i ys S2 e2
      cases e
      refine ⟨FB, HB, F, env, S, _, _, Rl, e1, fun v F' H' A s dv => ?_⟩
      refine ⟨FB, HB, F', env, _, _, _, Rl.after A s, e2, fun w F2 H2 A2 s2 dw => ?_⟩
      have dv' := dv.mono (A2.lat s)
      cases dv' with
      | lst f1 h1 d1 =>
      cases dw with
      | lst f2 h2 d2 =>
      exact ⟨_, _, _, _, rfl, .inl ⟨SqL.of h1, SqL.of h2, q _ F2 H2 (A.trans A2) s2 (itOk_zip (.lst f1 h1 d1) (.lst f2 h2 d2))⟩⟩
    · cases e
  · rename_i xs S1 e1
    split at e
    · rename_i ys S2 e2
      cases e
      refine ⟨FB, HB, F, env, S, _, _, Rl, e1, fun v F' H' A s dv => ?_⟩
      refine ⟨FB, HB, F', env, _, _, _, Rl.after A s, e2, fun w F2 H2 A2 s2 dw => ?_⟩
      have dv' := dv.mono (A2.lat s)
      cases dv' with
      | tup h1 d1 =>
      cases dw with
      | tup h2 d2 =>
      exact ⟨_, _, _, _, rfl, .inr ⟨h1, h2, q _ F2 H2 (A.trans A2) s2 (itOk_zipT (.tup h1 d1) (.tup h2 d2))⟩⟩
    · cases e
  · cases e
end

/-! ### for -/
def mForGo (g : EvG) (b : EvS) : List D → EvS
  | [] => fun env S => some (.nx env, S)
  | d :: ds => fun env S => match g d env with
    | some env1 => match b env1 S with
      | some (.nx env2, S2) => mForGo g b ds env2 S2
      | some (.ct env2, S2) => mForGo g b ds env2 S2
      | some (.bk env2, S2) => some (.nx env2, S2)
      | some (.rt d, S2) => some (.rt d, S2)
      | none => none
    | none => none
def mFor (g : EvG) (it : EvA) (b : EvS) : EvS := fun env S => match it env S with
  | some (ds, S1) => mForGo g b ds env S1
  | none => none
section
variable {X : Cx} {G : Gh} {pos p : Pos} {tg e : Expr} {fi : EvA} {a : List Stmt} {fa : EvS} {ws : List Nat} {g : EvG}
theorem ds_for (hc : X.calm = true) (hi : DI X G tg e fi) (hg : DG X G tg ws g) (hb : DSs X G a fa) (hs : ∀ x, foldedSetIterable e X.env x = pure x := by intro _; rfl) (hp : PassesOwn (model X.prog X.w) X.A X.env X.xe := by exact PassesOwn.never) :
    DS X G (.For tg e a [] pos) (mFor g fi fa) := by
  refine ⟨(ps_for hp hc hi.pi hg.pg hb.ps hs).impD ?_⟩
  rintro D σ H ⟨FB, HB, F, env, S, r, S', R, e, q⟩
  unfold mFor at e
  split at e
  · rename_i ds S1 e1
    refine ⟨FB, HB, F, env, S, ds, S1, R, e1, fun J F1 H1 A1 s1 io => ?_⟩
    refine ⟨fun i m σ H => ∃ F env S, m = ds.length - i ∧ Rel X.K G FB HB F env S σ H ∧ Lat F1 H1 F H ∧ mForGo g fa (ds.drop i) env S = some (r, S') ∧ EndOk X.K G FB HB F H D S' r,
      ⟨ds.length, F1, env, S1, by omega, R.after A1 s1, Lat.refl _ _, e, q.later (A1.lat R.src)⟩, ?_⟩
    rintro i m σ H ⟨F, env, S, rfl, R, L, e, q⟩
    obtain ⟨io1, io2⟩ := io F H L
    by_cases hlt : i < ds.length
    · refine .inr ?_
      obtain ⟨d, hd⟩ : ∃ d, ds[i]? = some d := ⟨_, List.getElem?_eq_getElem hlt⟩
      obtain ⟨go, yl⟩ := io1 i d hd
      have dr : ds.drop i = d :: ds.drop (i + 1) := by
        rw [List.drop_eq_getElem_cons hlt]
        have : ds[i] = d := by rw [List.getElem?_eq_getElem hlt] at hd; exact Option.some.inj hd
        rw [this]
      rw [dr, mForGo] at e
      dsimp only at e
      refine ⟨go, fun σ H => ∃ F env S, Rel X.K G FB HB F env S σ H ∧ Lat F1 H1 F H ∧ mForGo g fa (ds.drop (i + 1)) env S = some (r, S') ∧ EndOk X.K G FB HB F H D S' r,
        fun σ' H' ⟨F, env, S, R, L, e, q⟩ => ⟨ds.length - (i + 1), by omega, F, env, S, rfl, R, L, e, q⟩, fun x H2 y => ?_⟩
      obtain ⟨F2, A2, s2, dx⟩ := yl S x H2 R.src y
      have L2 := A2.lat R.src
      split at e
      · rename_i env1 eg
        refine ⟨FB, HB, F2, env, S, d, env1, R.after A2 s2, dx, eg, fun σ3 R3 _ => ?_⟩
        split at e
        · rename_i env2 S2 e2
          exact ⟨FB, HB, F2, env1, S, _, S2, R3, e2, fun F4 σ4 H4 R4 L4 => ⟨F4, env2, S2, R4, (L.trans L2).trans L4, e, (q.later L2).later L4⟩⟩
        · rename_i env2 S2 e2
          exact ⟨FB, HB, F2, env1, S, _, S2, R3, e2, fun F4 σ4 H4 R4 L4 => ⟨F4, env2, S2, R4, (L.trans L2).trans L4, e, (q.later L2).later L4⟩⟩
        · rename_i e2
          cases e
          exact ⟨FB, HB, F2, env1, S, _, _, R3, e2, q.later L2⟩
        · rename_i e2
          cases e
          exact ⟨FB, HB, F2, env1, S, _, _, R3, e2, q.later L2⟩
        · cases e
      · cases e
    · refine .inl ⟨io2 i (by omega), ?_⟩
      rw [List.drop_eq_nil_of_le (by omega), mForGo] at e
      cases e
      exact q F σ H R (Lat.refl _ _)
  · cases e
end

/-! ### list comprehensions -/
def wipeE (env : Env') : List Nat → Env'
  | [] => env
  | v :: vs => (wipeE env vs).set v .no
def mLcGo (g : EvG) (t : EvT) (f : EvE) : List D → EvA
  | [] => fun _ S => some ([], S)
  | d :: ds => fun env S => match g d env with
    | some env1 => match t env1 S with
      | some (true, S1) => match f env1 S1 with
        | some (y, S2) => match mLcGo g t f ds env S2 with
          | some (ys, S3) => some (y :: ys, S3)
          | none => none
        | none => none
      | some (false, S1) => mLcGo g t f ds env S1
      | none => none
    | none => none
def mLc (vs : List Nat) (g : EvG) (it : EvA) (t : EvT) (f : EvE) : EvA := fun env S => match it env S with
  | some (ds, S1) => if ds.length ≤ line then mLcGo g t f ds (wipeE env vs) S1 else none
  | none => none
def mYes : EvT := fun _ S => some (true, S)
theorem Rel.wipe {K : PySem.W.Frag} {G : Gh} {FB F : Addr → Prop} {HB H : Hp} {env : Env'} {S : Src} {σ : St} (R : Rel K G FB HB F env S σ H) : ∀ vs : List Nat, Rel K G FB HB F (wipeE env vs) S (L2.wipe σ vs) H
  | [] => R
  | v :: vs => (Rel.wipe R vs).drop v none
theorem Rel.writeFree {K : PySem.W.Frag} {G : Gh} {FB F : Addr → Prop} {HB H : Hp} {env : Env'} {S : Src} {σ : St} {a : Addr} {xs : List V} {o : HO} (R : Rel K G FB HB F env S σ H) (h : H a = some (.lst xs)) (nF : ¬ F a) (nS : ¬ G.isS a) (nB : HB a = none)
    (far : ∀ (j : Nat) (t : Slot), env[j]? = some t → isOwn t = true → σ[j]? ≠ some (some (.ref a))) : Rel K G FB HB F env S σ (upd H a o) := by
  have L : Lat F H F (upd H a o) := Lat.write h trivial nF
  refine ⟨R.src.write nS, R.srcB, R.aft.writeB nB, R.len, fun j t ej => ?_, R.apart⟩
  have q := R.slot j t ej
  cases t with
  | no => trivial
  | val d => obtain ⟨v, e, h⟩ := q; exact ⟨v, e, h.mono L⟩
  | own ds =>
    obtain ⟨p, vs, e, h, d, q⟩ := q
    have np : p ≠ a := fun z => far j _ ej rfl (by rw [e, z])
    exact ⟨p, vs, e, by rw [upd_ne np]; exact h, d.mono L, q⟩
  | ownD es =>
    obtain ⟨p, e, h, q⟩ := q
    have np : p ≠ a := fun z => far j _ ej rfl (by rw [e, z])
    refine ⟨p, e, ?_, q⟩
    rcases h with ⟨kvs, h, d⟩ | ⟨kvs, h, d⟩
    · exact .inl ⟨kvs, by rw [upd_ne np]; exact h, d.mono L⟩
    · exact .inr ⟨kvs, by rw [upd_ne np]; exact h, d.mono L⟩
  | src => exact q
  | cells => exact q
structure DTs (X : Cx) (G : Gh) (ifs : List Expr) (f : EvT) : Prop where
  pts : PTs X ifs (tTt X.K G f)
section
variable {X : Cx} {G : Gh} {pos p : Pos}
theorem dts_nil : DTs X G [] mYes := ⟨⟨fun pins s σ H Q I h => by
  obtain ⟨FB, HB, F, env, S, d, S', R, e, q⟩ := h
  cases e
  exact (pts_nil (X := X)).run pins s σ H Q I (q F H (Aft.refl _ _ _) R.src)⟩⟩
theorem dts_one {c : Expr} {f : EvT} (h : DT X G c f) : DTs X G [c] f := ⟨pts_one h.pt⟩
theorem lc_of {K : PySem.W.Frag} {vs : List Nat} {ws : List Nat} {g : EvG} {fi : EvA} {ft : EvT} {fe : EvE} (hws : ∀ i ∈ ws, i ∈ vs) {σ : St} {H : Hp} {Q : VK} (h : tFl K G (mLc vs g fi ft fe) σ H Q) : tLc (tIi K G fi) (tGd K G ws g) (tTt K G ft) (tD K G fe) vs σ H Q := by
  obtain ⟨FB, HB, F, env, S, res, S', R, e, q⟩ := h
  unfold mLc at e
  split at e
  · rename_i ds S1 e1
    split at e
    · rename_i hlen
      refine ⟨FB, HB, F, env, S, ds, S1, R, e1, fun J F1 H1 A1 s1 io Dl nD => ?_⟩
      have R1 := R.after A1 s1
      have nD0 : H Dl = none := A1.none_of nD
      refine ⟨fun i m H2 => ∃ F2 S2 acc accd ys, m = ds.length - i ∧ Rel K G FB HB F2 (wipeE env vs) S2 (wipe σ vs) H2 ∧ H2 Dl = some (.lst acc) ∧ DenL K F2 H2 acc accd ∧ ¬ F2 Dl ∧ Aft G F1 H1 F2 H2 ∧ Lat F1 H1 F2 H2 ∧ acc.length ≤ i ∧
          mLcGo g ft fe (ds.drop i) (wipeE env vs) S2 = some (ys, S') ∧ accd ++ ys = res,
        ⟨ds.length, F1, S1, [], [], res, by omega, (R1.after (Aft.new nD) (s1.new nD)).wipe vs, upd_same, .nil, s1.notF nD, Aft.new nD, Lat.new nD, Nat.zero_le _, e, rfl⟩, ?_⟩
      rintro i m H2 ⟨F2, S2, acc, accd, ys, rfl, R2, hD, dacc, nF, A2, Lt2, hal, e, er⟩
      obtain ⟨io1, io2⟩ := io F2 H2 Lt2
      by_cases hlt : i < ds.length
      · refine .inr ?_
        obtain ⟨d, hd⟩ : ∃ d, ds[i]? = some d := ⟨_, List.getElem?_eq_getElem hlt⟩
        obtain ⟨go, yl⟩ := io1 i d hd
        have dr : ds.drop i = d :: ds.drop (i + 1) := by
          rw [List.drop_eq_getElem_cons hlt]
          have : ds[i] = d := by rw [List.getElem?_eq_getElem hlt] at hd; exact Option.some.inj hd
          rw [this]
        rw [dr, mLcGo] at e
        dsimp only at e
        refine ⟨go, fun H3 => ∃ F3 S3 acc accd ys, Rel K G FB HB F3 (wipeE env vs) S3 (wipe σ vs) H3 ∧ H3 Dl = some (.lst acc) ∧ DenL K F3 H3 acc accd ∧ ¬ F3 Dl ∧ Aft G F1 H1 F3 H3 ∧ Lat F1 H1 F3 H3 ∧ acc.length ≤ i + 1 ∧
            mLcGo g ft fe (ds.drop (i + 1)) (wipeE env vs) S3 = some (ys, S') ∧ accd ++ ys = res,
          fun H3 ⟨F3, S3, acc, accd, ys, h⟩ => ⟨ds.length - (i + 1), by omega, F3, S3, acc, accd, ys, rfl, h⟩, fun x H3 y => ?_⟩
        obtain ⟨F3, A3, s3, dx⟩ := yl S2 x H3 R2.src y
        have nS : ¬ G.isS Dl := fun z => s1.there z nD
        have keepD : ∀ {F4 F5 : Addr → Prop} {H4 H5 : Hp} {xs : List V}, Aft G F4 H4 F5 H5 → H4 Dl = some (.lst xs) → ¬ F4 Dl → H5 Dl = some (.lst xs) ∧ ¬ F5 Dl := fun A h n =>
          ⟨A.kp _ _ h nS, fun z => (A.nw _ z).elim n fun z => by rw [z] at h; cases h⟩
        obtain ⟨hD3, nF3⟩ := keepD A3 hD nF
        have L3 := A3.lat R2.src
        split at e
        · rename_i env1 eg
          refine ⟨FB, HB, F3, wipeE env vs, S2, d, env1, R2.after A3 s3, dx, eg, fun σ4 R4 w4 => ⟨?_, ?_⟩⟩
          · rw [w4 vs hws]
            have ww : ∀ us : List Nat, (∀ u ∈ us, u ∈ vs) → wipe (wipe σ vs) us = wipe σ vs := by
              intro us
              induction us with
              | nil => intro _; rfl
              | cons u us ih =>
                intro hu
                rw [wipe, ih (fun v hv => hu v (List.mem_cons_of_mem _ hv))]
                -- the slot is none already
                have : ∀ (us : List Nat) (σ : L2.St), u ∈ us → (wipe σ us).set u none = wipe σ us := by
                  intro us
                  induction us with
                  | nil => intro σ h; cases h
                  | cons v vs ih2 =>
                    intro σ h
                    rw [wipe]
                    by_cases e : u = v
                    · subst e; rw [List.set_set]
                    · rw [List.set_comm _ _ (Ne.symm e), ih2 σ ((List.mem_cons.mp h).resolve_left e)]
                exact this vs σ (hu u List.mem_cons_self)
            exact ww vs fun _ h => h
          · split at e
            · rename_i S3 et
              refine ⟨FB, HB, F3, env1, S2, _, S3, R4, et, fun F5 H5 A5 s5 => iteT ?_⟩
              obtain ⟨hD5, nF5⟩ := keepD A5 hD3 nF3
              split at e
              · rename_i y S4 ef
                split at e
                · rename_i ys' S5 eg2
                  cases e
                  refine ⟨FB, HB, F5, env1, S3, y, S4, R4.after A5 s5, ef, fun yv F6 H6 A6 s6 dy => ?_⟩
                  obtain ⟨hD6, nF6⟩ := keepD A6 hD5 nF5
                  have A26 : Aft G F2 H2 F6 H6 := (A3.trans A5).trans A6
                  have Lw : Lat F6 H6 F6 (upd H6 Dl (.lst (acc ++ [yv]))) := Lat.write hD6 trivial nF6
                  have R6 := R2.after A26 s6
                  have nB : HB Dl = none := R.aft.none_of nD0
                  refine ⟨acc, hD6, by rw [← line_eq]; omega, F6, S4, _, accd ++ [y], ys', ?_, upd_same, (dacc.mono (A26.lat R2.src) |>.mono Lw).append (.cons (dy.mono Lw) .nil), nF6, ?_, (Lt2.trans (A26.lat R2.src)).trans Lw, by simp; omega, eg2, by rw [← er]; simp⟩
                  · refine R6.writeFree hD6 nF6 nS nB fun j t ej ot z => ?_
                    obtain ⟨b, ob, e2, hb, _⟩ := (R1.wipe vs).addr_own ej ot
                    rw [z] at e2
                    have z' : Dl = b := by injection e2 with e2; injection e2 with e2; injection e2
                    rw [← z', nD] at hb
                    cases hb
                  · exact (A2.trans A26).writeB nD
                · cases e
              · cases e
            · rename_i S3 et
              refine ⟨FB, HB, F3, env1, S2, _, S3, R4, et, fun F5 H5 A5 s5 => iteF ?_⟩
              obtain ⟨hD5, nF5⟩ := keepD A5 hD3 nF3
              have A25 := A3.trans A5
              exact ⟨F5, S3, acc, accd, ys, R2.after A25 s5, hD5, dacc.mono (A25.lat R2.src), nF5, A2.trans A25, Lt2.trans (A25.lat R2.src), by omega, e, er⟩
            · cases e
        · cases e
      · refine .inl ⟨io2 i (by omega), ?_⟩
        rw [List.drop_eq_nil_of_le (by omega), mLcGo] at e
        cases e
        rw [List.append_nil] at er
        subst er
        exact q Dl acc F2 H2 (A1.trans A2) R2.src nD0 nF hD dacc
    · cases e
  · cases e
end
end DL
set_option maxHeartbeats 1000000
namespace DL
open PySem PySem.Spec PyProof.Rows L2

section
variable {X : Cx} {G : Gh} {pos p : Pos}
theorem df_lc {elt tg iter : Expr} {ifs : List Expr} {scope : Scope} {ws : List Nat} {g : EvG} {fi : EvA} {ft : EvT} {fe : EvE} (own : List (Str × Nat)) (hc : X.calm = true) (hN : X.N.Nodup) (ok : BlkOk X.N X.env.scope scope own)
    (hi : DI X G tg iter fi)
    (hg : ∀ (s : Shared) (H : Hp) (C : Addr) (cl : List (Str × Addr)) (fp : List Addr), DG (X.blk s H scope (compEnvC scope cl C X.env) fp) G tg ws g)
    (ht : ∀ (s : Shared) (H : Hp) (C : Addr) (cl : List (Str × Addr)) (fp : List Addr), DTs (X.blk s H scope (compEnvC scope cl C X.env) fp) G ifs ft)
    (he : ∀ (s : Shared) (H : Hp) (C : Addr) (cl : List (Str × Addr)) (fp : List Addr), DE (X.blk s H scope (compEnvC scope cl C X.env) fp) G elt fe)
    (hws : ∀ i ∈ ws, i ∈ own.map (·.2) := by decide) (hs : ∀ x, foldedSetIterable iter X.env x = pure x := by intro _; rfl) : DF X G (.ListComp elt [⟨tg, iter, ifs, 0⟩] scope pos) (mLc (own.map (·.2)) g fi ft fe) :=
  ⟨(pe_lc hc hN hi.pi ok (fun s H C cl fp => (hg s H C cl fp).pg) (fun s H C cl fp => (ht s H C cl fp).pts) (fun s H C cl fp => (he s H C cl fp).pe) hs).impD fun _ _ _ h => lc_of hws h⟩
/-- name = [..] on one line -/
theorem ds_setLcOwn {elt tg iter : Expr} {ifs : List Expr} {scope : Scope} {ws : List Nat} {g : EvG} {fi : EvA} {ft : EvT} {fe : EvE} {y : Str} {py spos : Pos} (i : Nat) (own : List (Str × Nat)) (hc : X.calm = true) (hN : X.N.Nodup) (ok : BlkOk X.N X.env.scope scope own)
    (hi : DI X G tg iter fi)
    (hg : ∀ (s : Shared) (H : Hp) (C : Addr) (cl : List (Str × Addr)) (fp : List Addr), DG (X.blk s H scope (compEnvC scope cl C X.env) fp) G tg ws g)
    (ht : ∀ (s : Shared) (H : Hp) (C : Addr) (cl : List (Str × Addr)) (fp : List Addr), DTs (X.blk s H scope (compEnvC scope cl C X.env) fp) G ifs ft)
    (he : ∀ (s : Shared) (H : Hp) (C : Addr) (cl : List (Str × Addr)) (fp : List Addr), DE (X.blk s H scope (compEnvC scope cl C X.env) fp) G elt fe)
    (hsw : swapsWith (.ListComp elt [⟨tg, iter, ifs, 0⟩] scope pos) (some (.Name y py)) spos.line X.env = pure true) (hy : X.N[i]? = some y := by rfl) (hyl : X.env.scope.names.lookup y = some .local := by rfl)
    (hws : ∀ i ∈ ws, i ∈ own.map (·.2) := by decide) (hs : ∀ x, foldedSetIterable iter X.env x = pure x := by intro _; rfl) :
    DS X G (.Assign [.Name y py] (.ListComp elt [⟨tg, iter, ifs, 0⟩] scope pos) spos) (mSetOwn i (mLc (own.map (·.2)) g fi ft fe)) := by
  refine ⟨(ps_setLc (te := tD X.K G fe) (g := tGd X.K G ws g) (tt := tTt X.K G ft) hc hN hy hyl hsw hi.pi ok (fun s H C cl fp => (hg s H C cl fp).pg) (fun s H C cl fp => (ht s H C cl fp).pts) (fun s H C cl fp => (he s H C cl fp).pe) hs).impD fun D σ H h => ?_⟩
  have q := setOwn_of h
  exact lc_of (Q := fun x H1 => gName i x σ H1 D.nx) hws q
theorem ds_setLc {elt tg iter : Expr} {ifs : List Expr} {scope : Scope} {ws : List Nat} {g : EvG} {fi : EvA} {ft : EvT} {fe : EvE} {y : Str} {py spos : Pos} (i : Nat) (own : List (Str × Nat)) (hc : X.calm = true) (hN : X.N.Nodup) (ok : BlkOk X.N X.env.scope scope own)
    (hi : DI X G tg iter fi)
    (hg : ∀ (s : Shared) (H : Hp) (C : Addr) (cl : List (Str × Addr)) (fp : List Addr), DG (X.blk s H scope (compEnvC scope cl C X.env) fp) G tg ws g)
    (ht : ∀ (s : Shared) (H : Hp) (C : Addr) (cl : List (Str × Addr)) (fp : List Addr), DTs (X.blk s H scope (compEnvC scope cl C X.env) fp) G ifs ft)
    (he : ∀ (s : Shared) (H : Hp) (C : Addr) (cl : List (Str × Addr)) (fp : List Addr), DE (X.blk s H scope (compEnvC scope cl C X.env) fp) G elt fe)
    (hsw : swapsWith (.ListComp elt [⟨tg, iter, ifs, 0⟩] scope pos) (some (.Name y py)) spos.line X.env = pure true) (hy : X.N[i]? = some y := by rfl) (hyl : X.env.scope.names.lookup y = some .local := by rfl)
    (hws : ∀ i ∈ ws, i ∈ own.map (·.2) := by decide) (hs : ∀ x, foldedSetIterable iter X.env x = pure x := by intro _; rfl) :
    DS X G (.Assign [.Name y py] (.ListComp elt [⟨tg, iter, ifs, 0⟩] scope pos) spos) (mSet i (mFz (mLc (own.map (·.2)) g fi ft fe))) := by
  refine ⟨(ps_setLc (te := tD X.K G fe) (g := tGd X.K G ws g) (tt := tTt X.K G ft) hc hN hy hyl hsw hi.pi ok (fun s H C cl fp => (hg s H C cl fp).pg) (fun s H C cl fp => (ht s H C cl fp).pts) (fun s H C cl fp => (he s H C cl fp).pe) hs).impD fun D σ H h => ?_⟩
  have q : tD X.K G (mFz (mLc (own.map (·.2)) g fi ft fe)) σ H (fun x H1 => gName i x σ H1 D.nx) := set_of h
  refine lc_of (Q := fun x H1 => gName i x σ H1 D.nx) hws ?_
  obtain ⟨FB, HB, F, env, S, d, S', R, e, q⟩ := q
  unfold mFz at e
  split at e
  · rename_i xs S1 e1
    cases e
    refine ⟨FB, HB, F, env, S, xs, _, R, e1, fun p vs F1 H1 A1 s1 np nf hp dvs => ?_⟩
    have A2 : Aft G F H (withF F1 p) H1 := ⟨fun a h => .inl (A1.up a h), fun a h => h.elim (A1.nw a) (fun e => .inr (by rw [e]; exact np)), A1.kp, A1.nf⟩
    exact q _ (withF F1 p) H1 A2 (s1.freeze (fun s => R.src.there s np) (by rw [hp]; exact fun z => nomatch z)) (.lst (.inr rfl) hp (dvs.mono ⟨fun _ h => .inl h, fun _ _ h _ => h⟩))
  · cases e
end

/-! ### defs -/
structure RoomG (k : Nat) (A : Around) : Prop where
  room : Room k A
  gd : A.guards = some []
theorem RoomG.mono {j k : Nat} {A : Around} (r : RoomG k A) (h : j ≤ k) : RoomG j A := ⟨r.room.mono h, r.gd⟩
abbrev SpG := List V → Hp → VK → Prop
structure FnG (P : Program) (w : World) (K : PySem.W.Frag) (mg : Str → Option Value) (base : Heap) (k : Nat) (f : Addr) (fd : FuncData) (ps : List Str) (sp : SpG) : Prop where
  len : ∀ vs H Q, sp vs H Q → vs.length = ps.length
  run : ∀ (A : Around) (outer : List Env) (s : Shared) (H : Hp) (args : Args) (us : List Value) (vs : List V) (Q : VK), RoomG k A → Env0 P w K mg base A outer s H → BindsTo s fd args (ps.zip us) → Vals vs us → sp vs H Q →
    codeAny (model P w) A (.call (.ref f) args) (CR CX0 outer P w H s Q E0) s
theorem fn_ofG {P : Program} {w : World} {K : PySem.W.Frag} {mg : Str → Option Value} {base : Heap} {k : Nat} {x qual : Str} {st : Stmt} {f : Addr} {fd : FuncData} {N ps : List Str} {sp : SpG} (F : Fun K x qual st f fd) (S : FnScope N ps (defScope st))
    (len : ∀ vs H Q, sp vs H Q → vs.length = ps.length)
    (hbody : ∀ (cdv : Value) (A : Around) (outer : List Env) (s : Shared) (H : Hp) (vs : List V) (Q : VK), RoomG k (A.deeper (envOfC qual (defScope st) s.heap.objs.size f cdv)) → sp vs H Q →
      ∃ t, PSs (cxOf CX0 P w K mg base N qual (defScope st) f cdv A outer s H E0).nox (defBody st) t ∧ t { nx := fun _ H' => Q .non H', rt := Q } (L2.start N vs) H) :
    FnG P w K mg base (k + 1) f fd ps sp := by
  obtain ⟨oc, od, kV, doc, pm, an, cdv, ct, osl, rfl, lk, hcd⟩ := F.ex
  refine ⟨len, fun A outer s H args us vs Q hr e0 hb r hsp => ?_⟩
  have hl := len _ _ _ hsp
  have KX : K.In s.heap := e0.mod.kin.keeps fun b o e => (e0.bs b o e).1
  have lim : s.heap.NoLimit := e0.mod.nolimit.keeps fun b o e => (e0.bs b o e).1
  have hkind : ∀ y ∈ ps.zip us, (defScope st).names.lookup y.1 = some .local ∨ ((defScope st).names.lookup y.1 = some .cell ∧ ((cellsFrom (s.heap.objs.size + 1) (defScope st).names []).lookup y.1).isSome = true) := fun ⟨n, v⟩ hy => by
    rcases S.par n (List.of_mem_zip hy).1 with q | q
    · exact .inl q
    · exact .inr ⟨q, PySem.W.cellsFrom_some _ _ _ (.inl q)⟩
  refine codeAny_call_function hr.room.depth (KX _ _ lk) rfl S.co S.gen rfl (PySem.W.codeRec_of KX hcd) (hb _ _ _ _ ?_)
  refine wpAny_newFunctionEnv_cells S.kind hkind fun env he s1 x => ?_
  subst he
  refine ⟨lim.keeps x.toInCall.keep, codeAny_func ?_⟩
  obtain ⟨t, ht, hq⟩ := hbody cdv A outer s H vs Q ⟨hr.room.deeper _, hr.gd⟩ hsp
  have I : Inv (cxOf CX0 P w K mg base N qual (defScope st) f cdv A outer s H E0) [] (L2.start N vs) H s1 := inv_start S hr.room.hd e0 hl r x
  refine wpAny_mono (ht.nox.run [] s1 (L2.start N vs) H _ I hq) (fun fl s' hs => ?_) fun e s' hs => hs
  have fin : ∀ {σ' : L2.St} {H' : Hp} {v : V} {u : Value}, Inv (cxOf CX0 P w K mg base N qual (defScope st) f cdv A outer s H E0) [] σ' H' s' → RelV v u → Q v H' → CE outer P w H s Q u s' :=
    fun {σ' H' v u} J rv q => ⟨v, H', J.os, J.bare, J.base, J.hok, rv, q⟩
  cases fl with
  | ret u =>
    obtain ⟨v, σ', H', J, rv, q⟩ := hs
    exact fin J rv q
  | next =>
    obtain ⟨σ', H', J, q⟩ := hs
    exact fin (v := V.non) (u := Value.none) J rfl q
  | brk =>
    obtain ⟨_, _, _, q⟩ := hs
    exact False.elim q
  | cont =>
    obtain ⟨_, _, _, q⟩ := hs
    exact False.elim q
theorem FnG.mono {P : Program} {w : World} {K : PySem.W.Frag} {mg : Str → Option Value} {base : Heap} {j k : Nat} {f : Addr} {fd : FuncData} {ps : List Str} {sp : SpG} (F : FnG P w K mg base j f fd ps sp) (h : j ≤ k) : FnG P w K mg base k f fd ps sp :=
  ⟨F.len, fun A outer s H args us vs Q hr => F.run A outer s H args us vs Q (hr.mono h)⟩
section
variable {X : Cx} {k : Nat} {f : Addr} {fd : FuncData} {ps : List Str} {sp : SpG} {x : Str} {p pos : Pos} {e : Expr} {es : List Expr} {t : TA}
theorem run_fnG {pins : List (Addr × Obj)} {σ : L2.St} {H : Hp} {s : Shared} {Q : VK} {us : List Value} {vs : List V} (F : FnG X.prog X.w X.K X.mg X.base k f fd ps sp) (hr : RoomG k X.A) (hb : Binds X.K fd ps [])
    (I : Inv X pins σ H s) (r : Vals vs us) (h : sp vs H Q) : wpAny (model X.prog X.w) X.A (call (.ref f) us) (EP X pins σ Q) X.xe s := by
  have hl : us.length = ps.length := by rw [← r.length]; exact F.len _ _ _ h
  refine wpAny_call (codeAny_mono (F.run X.A X.stack s H ⟨us, []⟩ us vs Q hr I.env0 (by have := hb s us I.kIn (by simpa using hl); rwa [List.append_nil] at this) r h) fun r s' hq => ?_)
  cases r with
  | error e => exact False.elim hq
  | ok fl =>
    cases fl with
    | ret u => exact I.after hq
    | next => exact False.elim hq
    | brk => exact False.elim hq
    | cont => exact False.elim hq
def tCallG (sp : SpG) (t : TA) : TE := fun σ H Q => t σ H fun vs H1 => sp vs H1 Q
theorem pe_callG (F : FnG X.prog X.w X.K X.mg X.base k f fd ps sp) (hr : RoomG k X.A) (hg : Gl X x) (hm : X.mg x = some (.ref f)) (hk : PySem.W.keepIn X.K (.ref f) = true) (hb : Binds X.K fd ps [])
    (ha : PA X (e :: es) t) (hdb : (x == ("__debug__" : Str)) = false := by decide) (he : starEach (e :: es) X.env = (false, eval e X.env) :: starEach es X.env := by rfl) (hpl : (backTo pos (starEach es X.env)).any (·.1) = false := by rfl) :
    PE X (.Call (.Name x p) (e :: es) [] pos) (tCallG sp t) := by
  refine ⟨fun pins s σ H Q I h => ?_⟩
  refine wpAny_Call_Name_kw (ld_glob I hg hm ?_ hdb)
  refine PySem.W.callWith_K (h₀ := X.base) I.ok.mod.kin hk (thn (ha.run pos pins s σ H _ I h) fun us s1 ⟨vs, H1, I1, r, q⟩ => ⟨I1.kIn, ?_⟩) he hpl
  exact run_fnG F hr hb I1 r q
theorem pe_callG0 (F : FnG X.prog X.w X.K X.mg X.base k f fd ps sp) (hr : RoomG k X.A) (hg : Gl X x) (hm : X.mg x = some (.ref f)) (hk : PySem.W.keepIn X.K (.ref f) = true) (hb : Binds X.K fd ps [])
    (hdb : (x == ("__debug__" : Str)) = false := by decide) : PE X (.Call (.Name x p) [] [] pos) (tCallG sp tNil) := by
  refine ⟨fun pins s σ H Q I h => ?_⟩
  refine wpAny_Call_Name_kw (ld_glob I hg hm ?_ hdb)
  exact PySem.W.callWith_K0 I.kIn hk (run_fnG (us := []) F hr hb I .nil h)
end

/-! ### what is handed to a def -/
inductive ArgsOk (K : PySem.W.Frag) (G : Gh) (F : Addr → Prop) (H : Hp) : List Slot → List V → Prop
  | nil : ArgsOk K G F H [] []
  | val {d : D} {v : V} {ss : List Slot} {vs : List V} : Den K F H v d → ArgsOk K G F H ss vs → ArgsOk K G F H (.val d :: ss) (v :: vs)
  | src {q : Addr × Addr} {ss : List Slot} {vs : List V} : G.src = some q → ArgsOk K G F H ss vs → ArgsOk K G F H (.src :: ss) (.ref q.1 :: vs)
abbrev EvR := Env' → Src → Option (List Slot × Src)
def tAr (K : PySem.W.Frag) (G : Gh) (f : EvR) : TA := fun σ H Q => ∃ FB HB F env S d S', Rel K G FB HB F env S σ H ∧ f env S = some (d, S') ∧
  ∀ vs F' H', Aft G F H F' H' → SrcF G S' F' H' → ArgsOk K G F' H' d vs → Q vs H'
structure DR (X : Cx) (G : Gh) (es : List Expr) (f : EvR) : Prop where
  pa : PA X es (tAr X.K G f)
def rNil : EvR := fun _ S => some ([], S)
def rVal (a : EvE) (b : EvR) : EvR := fun env S => match a env S with
  | some (x, S1) => match b env S1 with
    | some (xs, S2) => some (.val x :: xs, S2)
    | none => none
  | none => none
def rSrc (i : Nat) (b : EvR) : EvR := fun env S => match env[i]? with
  | some .src => match b env S with
    | some (xs, S2) => some (.src :: xs, S2)
    | none => none
  | _ => none
theorem ArgsOk.length {K : PySem.W.Frag} {G : Gh} {F : Addr → Prop} {H : Hp} : ∀ {ss : List Slot} {vs : List V}, ArgsOk K G F H ss vs → ss.length = vs.length
  | _, _, .nil => rfl
  | _, _, .val _ r => congrArg (· + 1) r.length
  | _, _, .src _ r => congrArg (· + 1) r.length
theorem ArgsOk.get {K : PySem.W.Frag} {G : Gh} {F : Addr → Prop} {H B : Hp} : ∀ {ss : List Slot} {vs : List V} {i : Nat} {s : Slot}, ArgsOk K G F H ss vs → ss[i]? = some s → ∃ v, vs[i]? = some v ∧ SlotOk K G B F H s (some (some v)) ∧ isOwn s = false
  | _, _, i, _, .nil, e => by simp at e
  | _, _, 0, _, .val dv _, e => by simp at e; subst e; exact ⟨_, rfl, ⟨_, rfl, dv⟩, rfl⟩
  | _, _, 0, _, .src h _, e => by simp at e; subst e; exact ⟨_, rfl, ⟨_, h, rfl⟩, rfl⟩
  | _, _, i + 1, s, .val _ r, e => by
    obtain ⟨v, h1, h2⟩ := ArgsOk.get (i := i) (s := s) (B := B) r (by simpa using e)
    exact ⟨v, by simpa using h1, h2⟩
  | _, _, i + 1, s, .src _ r, e => by
    obtain ⟨v, h1, h2⟩ := ArgsOk.get (i := i) (s := s) (B := B) r (by simpa using e)
    exact ⟨v, by simpa using h1, h2⟩
section
variable {X : Cx} {G : Gh} {pos p : Pos} {e : Expr} {es : List Expr} {fe : EvE} {fr : EvR}
theorem dr_nil : DR X G [] rNil := by
  refine ⟨pa_nil.impD ?_⟩
  rintro σ H Q ⟨FB, HB, F, env, S, d, S', R, e, q⟩
  cases e
  exact q [] F H (Aft.refl _ _ _) R.src .nil
theorem dr_val (ha : DE X G e fe) (hr : DR X G es fr) (hs : starEach (e :: es) X.env = (false, eval e X.env) :: starEach es X.env := by rfl) : DR X G (e :: es) (rVal fe fr) := by
  refine ⟨(pa_cons ha.pe hr.pa hs).impD ?_⟩
  rintro σ H Q ⟨FB, HB, F, env, S, d, S', R, e, q⟩
  unfold rVal at e
  split at e
  · rename_i x S1 e1
    split at e
    · rename_i xs S2 e2
      cases e
      refine ⟨FB, HB, F, env, S, x, S1, R, e1, fun vx F1 H1 A1 s1 dx => ?_⟩
      exact ⟨FB, HB, F1, env, S1, xs, _, R.after A1 s1, e2, fun vs F2 H2 A2 s2 dvs => q _ F2 H2 (A1.trans A2) s2 (.val (dx.mono (A2.lat s1)) dvs)⟩
    · cases e
  · cases e
theorem dr_src (i : Nat) {x : Str} (hr : DR X G es fr) (hN : X.N[i]? = some x := by rfl) (hv : Vis X.env.scope x := by first | exact Or.inl rfl | exact Or.inr (Or.inl rfl) | exact Or.inr (Or.inr rfl)) (hd : (x == ("__debug__" : Str)) = false := by decide)
    (hcd : (x == ("__classdict__" : Str)) = false := by decide) (hs : starEach (.Name x pos :: es) X.env = (false, eval (.Name x pos) X.env) :: starEach es X.env := by rfl) : DR X G (.Name x pos :: es) (rSrc i fr) := by
  refine ⟨(pa_cons (pe_var hN hv hd hcd) hr.pa hs).impD ?_⟩
  rintro σ H Q ⟨FB, HB, F, env, S, d, S', R, e, q⟩
  unfold rSrc at e
  split at e
  · rename_i he
    split at e
    · rename_i xs S2 e2
      cases e
      obtain ⟨pp, hp, ev⟩ := R.slot _ _ he
      exact ⟨_, ev, FB, HB, F, env, S, xs, _, R, e2, fun vs F2 H2 A2 s2 dvs => q _ F2 H2 A2 s2 (.src hp dvs)⟩
    · cases e
  · cases e
end
/-- a def's promise -/
def spD (K : PySem.W.Frag) (n : Nat) (mf : EvE) : SpG := fun vs H Q => ∃ G F S args d S', SrcF G S F H ∧ ArgsOk K G F H args vs ∧ vs.length = n ∧ mf args S = some (d, S') ∧
  ∀ v F' H', Aft G F H F' H' → SrcF G S' F' H' → Den K F' H' v d → Q v H'
structure DefOk (P : Program) (w : World) (K : PySem.W.Frag) (mg : Str → Option Value) (base : Heap) (x : Str) (k n : Nat) (mf : EvE) : Prop where
  ex : ∃ (f : Addr) (fd : FuncData) (ps : List Str), FnG P w K mg base k f fd ps (spD K n mf) ∧ mg x = some (.ref f) ∧ PySem.W.keepIn K (.ref f) = true ∧ Binds K fd ps []
def mCall (n : Nat) (mf : EvE) (fr : EvR) : EvE := fun env S => match fr env S with
  | some (args, S1) => if args.length = n then mf args S1 else none
  | none => none
section
variable {X : Cx} {G : Gh} {pos p : Pos} {e : Expr} {es : List Expr} {fr : EvR} {x : Str} {k n : Nat} {mf : EvE}
theorem call_of {K : PySem.W.Frag} {σ : L2.St} {H : Hp} {Q : VK} (h : tD K G (mCall n mf fr) σ H Q) : tCallG (spD K n mf) (tAr K G fr) σ H Q := by
  obtain ⟨FB, HB, F, env, S, d, S', R, e, q⟩ := h
  unfold mCall at e
  split at e
  · rename_i args S1 e1
    split at e
    · rename_i hn
      refine ⟨FB, HB, F, env, S, args, S1, R, e1, fun vs F1 H1 A1 s1 da => ?_⟩
      exact ⟨G, F1, S1, args, d, S', s1, da, by rw [← da.length]; exact hn, e, fun v F2 H2 A2 s2 dv => q v F2 H2 (A1.trans A2) s2 dv⟩
    · cases e
  · cases e
theorem de_call (h : DefOk X.prog X.w X.K X.mg X.base x k n mf) (hr : RoomG k X.A) (hg : Gl X x) (ha : DR X G (e :: es) fr) (hdb : (x == ("__debug__" : Str)) = false := by decide)
    (he : starEach (e :: es) X.env = (false, eval e X.env) :: starEach es X.env := by rfl) (hpl : (backTo pos (starEach es X.env)).any (·.1) = false := by rfl) : DE X G (.Call (.Name x p) (e :: es) [] pos) (mCall n mf fr) := by
  obtain ⟨f, fd, ps, F, hm, hk, hb⟩ := h.ex
  exact ⟨(pe_callG F hr hg hm hk hb ha.pa hdb he hpl).impD fun _ _ _ h => call_of h⟩
theorem de_call0 (h : DefOk X.prog X.w X.K X.mg X.base x k n mf) (hr : RoomG k X.A) (hg : Gl X x) (hdb : (x == ("__debug__" : Str)) = false := by decide) : DE X G (.Call (.Name x p) [] [] pos) (mCall n mf rNil) := by
  obtain ⟨f, fd, ps, F, hm, hk, hb⟩ := h.ex
  refine ⟨(pe_callG0 F hr hg hm hk hb hdb).impD fun _ _ _ h => ?_⟩
  obtain ⟨FB, HB, F, env, S, d, S', R, e, q⟩ := call_of h
  cases e
  exact q [] F _ (Aft.refl _ _ _) R.src .nil
end
/-- a def, by its body -/
def mDef (n : Nat) (b : EvS) : EvE := fun args S => match b (args ++ List.replicate (n - args.length) .no) S with
  | some (.rt d, S1) => some (d, S1)
  | some (.nx _, S1) => some (.none, S1)
  | _ => none
theorem start_rel {K : PySem.W.Frag} {G : Gh} {F : Addr → Prop} {H : Hp} {S : Src} {N : List Str} {args : List Slot} {vs : List V} (s : SrcF G S F H) (a : ArgsOk K G F H args vs) : Rel K G F H F (args ++ List.replicate (N.length - args.length) .no) S (L2.start N vs) H := by
  have hl := a.length
  refine ⟨s, fun b z => s.there z, Aft.refl _ _ _, ?_, fun i t e => ?_, fun i j t u ei ej oi oj ne => ?_⟩
  · unfold L2.start
    simp only [List.length_append, List.length_replicate, List.length_map, hl]
  · by_cases hi : i < args.length
    · rw [List.getElem?_append_left hi] at e
      obtain ⟨v, hv, so, _⟩ := a.get (B := H) e
      have : (L2.start N vs)[i]? = some (some v) := by
        unfold L2.start
        rw [List.getElem?_append_left (by simp; omega), List.getElem?_map, hv]
        rfl
      rw [this]
      exact so
    · rw [List.getElem?_append_right (by omega), List.getElem?_replicate] at e
      split at e
      · cases e; trivial
      · cases e
  · by_cases hi : i < args.length
    · rw [List.getElem?_append_left hi] at ei
      obtain ⟨v, hv, _, so⟩ := a.get (B := H) ei
      rw [so] at oi; cases oi
    · rw [List.getElem?_append_right (by omega), List.getElem?_replicate] at ei
      split at ei
      · cases ei; cases oi
      · cases ei
theorem def_ok {P : Program} {w : World} {K : PySem.W.Frag} {mg : Str → Option Value} {base : Heap} {k n : Nat} {x qual : Str} {st : Stmt} {f : Addr} {fd : FuncData} {N ps : List Str} {b : EvS} (F : Fun K x qual st f fd) (S : FnScope N ps (defScope st)) (hn : ps.length = n)
    (hm : mg x = some (.ref f)) (hb : Binds K fd ps [])
    (hbody : ∀ (G : Gh) (X : Cx), (∃ (cdv : Value) (A : Around) (outer : List Env) (s : Shared) (H : Hp), X = (cxOf CX0 P w K mg base N qual (defScope st) f cdv A outer s H E0).nox) → RoomG k X.A → DSs X G (defBody st) b) : DefOk P w K mg base x (k + 1) n (mDef N.length b) := by
  refine ⟨f, fd, ps, fn_ofG F S (fun vs H Q h => ?_) (fun cdv A outer s H vs Q hr h => ?_), hm, F.kp, hb⟩
  · obtain ⟨G, F, S, args, d, S', h1, h2, h3, h4⟩ := h
    rw [h3, hn]
  · obtain ⟨G, Fz, S0, args, d, S', h1, h2, h3, h4, q⟩ := h
    refine ⟨_, (hbody G _ ⟨cdv, A, outer, s, H, rfl⟩ hr).ps, ?_⟩
    unfold mDef at h4
    have R := start_rel (N := N) h1 h2
    split at h4
    · rename_i e1
      cases h4
      exact ⟨Fz, H, Fz, _, S0, _, _, R, e1, fun v F' H' A s dv => q v F' H' A s dv⟩
    · rename_i e1
      cases h4
      exact ⟨Fz, H, Fz, _, S0, _, _, R, e1, fun F' σ' H' R' _ => q .non F' H' R'.aft R'.src .non⟩
    · cases h4
end DL
set_option maxHeartbeats 1000000
namespace DL
open PySem PySem.Spec PyProof.Rows L2

/-! ### what is read, by its form -/
section
variable {K : PySem.W.Frag} {G : Gh} {F : Addr → Prop} {H : Hp} {v : V} {S : Src}
theorem rdb_int {i : Int} (h : Rdb K F H v (.int i)) : v = .int i := by
  rcases h with h | ⟨_, _, _, _, e, _⟩
  · cases h; rfl
  · cases e
theorem rdb_bool {i : Bool} (h : Rdb K F H v (.bool i)) : v = .bl i := by
  rcases h with h | ⟨_, _, _, _, e, _⟩
  · cases h; rfl
  · cases e
theorem rdb_str {i : Str} (h : Rdb K F H v (.str i)) : v = .str i := by
  rcases h with h | ⟨_, _, _, _, e, _⟩
  · cases h; rfl
  · cases e
theorem rdb_non (h : Rdb K F H v .none) : v = .non := by
  rcases h with h | ⟨_, _, _, _, e, _⟩
  · cases h; rfl
  · cases e
theorem rdb_list {ds : List D} (h : Rdb K F H v (.list ds)) : ∃ p vs, v = .ref p ∧ H p = some (.lst vs) ∧ DenL K F H vs ds := by
  rcases h with h | ⟨p, vs, es, e1, e, e2, d⟩
  · cases h with
    | lst f e d => exact ⟨_, _, rfl, e, d⟩
  · cases e; exact ⟨p, vs, e1, e2, d⟩
theorem rdb_tup {ds : List D} (h : Rdb K F H v (.tuple ds)) : ∃ p vs, v = .ref p ∧ SqT K H p vs ∧ DenL K F H vs ds := by
  rcases h with h | ⟨p, vs, es, e1, e, e2, d⟩
  · cases h with
    | tup e d => exact ⟨_, _, rfl, e, d⟩
  · cases e
theorem rdb_seq {ds : List D} (h : Rdb K F H v (.list ds) ∨ Rdb K F H v (.tuple ds)) : ∃ p vs, v = .ref p ∧ (SqL K H p vs ∨ SqT K H p vs) ∧ DenL K F H vs ds := by
  rcases h with h | h
  · obtain ⟨p, vs, e, h, d⟩ := rdb_list h; exact ⟨p, vs, e, .inl (SqL.of h), d⟩
  · obtain ⟨p, vs, e, h, d⟩ := rdb_tup h; exact ⟨p, vs, e, .inr h, d⟩
/-- a new frozen list -/
theorem new_lst {p : Addr} {vs : List V} {ds : List D} {Q : VK} (s : SrcF G S F H) (np : H p = none) (d : DenL K F H vs ds)
    (q : ∀ v F' H', Aft G F H F' H' → SrcF G S F' H' → Den K F' H' v (.list ds) → Q v H') : Q (.ref p) (upd H p (.lst vs)) :=
  q _ (withF F p) _ (Aft.newF np) (s.newF np) (.lst (.inr rfl) upd_same (d.mono (Lat.newF np)))
theorem new_tup {p : Addr} {vs : List V} {ds : List D} {Q : VK} (s : SrcF G S F H) (np : H p = none) (d : DenL K F H vs ds)
    (q : ∀ v F' H', Aft G F H F' H' → SrcF G S F' H' → Den K F' H' v (.tuple ds) → Q v H') : Q (.ref p) (upd H p (.tup vs)) :=
  q _ F _ (Aft.new np) (s.new np) (.tup (SqT.of upd_same) (d.mono (Lat.new np)))
theorem same_v {d : D} {Q : VK} (s : SrcF G S F H) (h : Den K F H v d) (q : ∀ v F' H', Aft G F H F' H' → SrcF G S F' H' → Den K F' H' v d → Q v H') : Q v H :=
  q v F H (Aft.refl _ _ _) s h
end

/-! ### operators -/
/-- the number itself, reckoned out at once -/
def forceI (i : Int) (f : Int → Option D) : Option D := match i with
  | .ofNat n => match n with
    | .zero => f (.ofNat .zero)
    | .succ k => f (.ofNat (.succ k))
  | .negSucc n => match n with
    | .zero => f (.negSucc .zero)
    | .succ k => f (.negSucc (.succ k))
theorem forceI_eq (i : Int) (f : Int → Option D) : forceI i f = f i := by
  unfold forceI
  cases i with
  | ofNat n => cases n <;> rfl
  | negSucc n => cases n <;> rfl
def fI (i : Int) : Option D := forceI i fun k => some (.int k)
theorem fI_eq (i : Int) : fI i = some (.int i) := forceI_eq _ _
def mulOk (i j : Int) : Bool := decide (i.natAbs.log2 + j.natAbs.log2 < 1000000) || (decide (i.natAbs < 18446744073709551616) || decide (j.natAbs < 18446744073709551616))
def repL (k : Nat) (xs : List D) : List D := (List.replicate k xs).flatten
def dAdd : D → D → Option D
  | .int i, .int j => fI (i + j)
  | .tuple xs, .tuple ys => if xs.length + ys.length ≤ line then some (.tuple (xs ++ ys)) else none
  | .list xs, .list ys => if xs.length + ys.length ≤ line then some (.list (xs ++ ys)) else none
  | _, _ => none
def dSub : D → D → Option D
  | .int i, .int j => fI (i - j)
  | _, _ => none
def dMul : D → D → Option D
  | .int i, .int j => if mulOk i j = true then fI (i * j) else none
  | .list xs, .int k => if 0 ≤ k ∧ k < 16777216 ∧ xs.length * k.toNat ≤ line then some (.list (repL k.toNat xs)) else none
  | _, _ => none
def dFDiv : D → D → Option D
  | .int i, .int j => if 0 < j then (if j.natAbs.log2 < 9000 then fI (i / j) else none)
    else if j ≠ 0 ∧ j.natAbs < 1073741824 then fI (i.fdiv j) else none
  | _, _ => none
def dMod : D → D → Option D
  | .int i, .int j => if 0 < j then fI (i % j) else if j ≠ 0 then fI (i.fmod j) else none
  | _, _ => none
def dPow : D → D → Option D
  | .int i, .int j => if 0 ≤ j ∧ j ≤ 1000000 ∧ i.natAbs < 18446744073709551616 then fI (i ^ j.toNat) else none
  | _, _ => none
def dShl : D → D → Option D
  | .int i, .int j => if 0 ≤ j ∧ j ≤ 1000000 ∧ i.natAbs < 18446744073709551616 then fI (i * 2 ^ j.toNat) else none
  | _, _ => none
theorem DenL.rep {K : PySem.W.Frag} {F : Addr → Prop} {H : Hp} {vs : List V} {ds : List D} (h : DenL K F H vs ds) : ∀ k : Nat, DenL K F H (List.replicate k vs).flatten (repL k ds)
  | 0 => .nil
  | k + 1 => by
    unfold repL
    rw [List.replicate_succ, List.replicate_succ, List.flatten_cons, List.flatten_cons]
    exact h.append (DenL.rep h k)
theorem DenL.nil_iff {K : PySem.W.Frag} {F : Addr → Prop} {H : Hp} {vs : List V} {ds : List D} (h : DenL K F H vs ds) : vs = [] ↔ ds = [] := by
  cases h <;> simp
section
variable {X : Cx} {G : Gh} {pos : Pos} {a b : Expr} {fa fb : EvE}
def rAddA (K : PySem.W.Frag) : R2 := fun x y H Q => rI0 (fun i j => .int (i + j)) x y H Q ∨ (rCatA K x y H Q ∨ rCat x y H Q)
theorem op_addA : OpR X (binaryOp .Add) (rAddA X.K) := OpR.or op_add (OpR.or op_catA op_cat)
theorem v_add {K : PySem.W.Frag} : VOp K (rAddA K) dAdd := by
  intro G F H S x y dx dy dz Q s hx hy e q
  unfold dAdd at e
  split at e
  · (try rw [fI_eq] at e); cases e
    exact .inl ⟨_, _, rdb_int hx, rdb_int hy, same_v s (.int _) q⟩
  · split at e
    · rename_i hl
      (try rw [fI_eq] at e); cases e
      obtain ⟨p, vs, rfl, h1, d1⟩ := rdb_tup hx
      obtain ⟨p', vs', rfl, h2, d2⟩ := rdb_tup hy
      refine .inr (.inl ⟨p, p', vs, vs', rfl, rfl, h1, h2, by rw [d1.length, d2.length, ← line_eq]; exact hl, fun e => ?_, fun _ e => ?_, fun _ _ r nr => new_tup s nr (d1.append d2) q⟩)
      · subst e; cases d1; exact same_v s (.tup h2 d2) q
      · subst e; cases d2; rw [List.append_nil] at q; exact same_v s (.tup h1 d1) q
    · (try rw [fI_eq] at e); cases e
  · split at e
    · rename_i hl
      (try rw [fI_eq] at e); cases e
      obtain ⟨p, vs, rfl, h1, d1⟩ := rdb_list hx
      obtain ⟨p', vs', rfl, h2, d2⟩ := rdb_list hy
      exact .inr (.inr ⟨p, p', vs, vs', rfl, rfl, h1, h2, by rw [d1.length, d2.length, ← line_eq]; exact hl, fun r nr => new_lst s nr (d1.append d2) q⟩)
    · (try rw [fI_eq] at e); cases e
  · (try rw [fI_eq] at e); cases e
theorem de_add (ha : DB X G a fa) (hb : DB X G b fb) : DE X G (.BinOp a .Add b pos) (mBin dAdd fa fb) := de_bin op_addA v_add ha hb
theorem v_sub {K : PySem.W.Frag} : VOp K (rI0 fun i j => .int (i - j)) dSub := by
  intro G F H S x y dx dy dz Q s hx hy e q
  unfold dSub at e
  split at e
  · (try rw [fI_eq] at e); cases e
    exact ⟨_, _, rdb_int hx, rdb_int hy, same_v s (.int _) q⟩
  · (try rw [fI_eq] at e); cases e
theorem de_sub (ha : DB X G a fa) (hb : DB X G b fb) : DE X G (.BinOp a .Sub b pos) (mBin dSub fa fb) := de_bin op_sub v_sub ha hb
def rMulA : R2 := fun x y H Q => rI CMulW (fun i j => .int (i * j)) x y H Q ∨ (rI CMul (fun i j => .int (i * j)) x y H Q ∨ rRep x y H Q)
theorem op_mulA : OpR X (binaryOp .Mult) rMulA := OpR.or op_mulW (OpR.or op_mul op_rep)
theorem v_mul {K : PySem.W.Frag} : VOp K rMulA dMul := by
  intro G F H S x y dx dy dz Q s hx hy e q
  unfold dMul at e
  split at e
  · split at e
    · rename_i hm
      (try rw [fI_eq] at e); cases e
      unfold mulOk at hm
      simp only [Bool.or_eq_true, decide_eq_true_eq] at hm
      rcases hm with hm | hm
      · exact .inl ⟨_, _, rdb_int hx, rdb_int hy, hm, same_v s (.int _) q⟩
      · exact .inr (.inl ⟨_, _, rdb_int hx, rdb_int hy, by rcases hm with hm | hm; exact .inl (by omega); exact .inr (by omega), same_v s (.int _) q⟩)
    · (try rw [fI_eq] at e); cases e
  · split at e
    · rename_i hm
      (try rw [fI_eq] at e); cases e
      obtain ⟨p, vs, rfl, h1, d1⟩ := rdb_list hx
      exact .inr (.inr ⟨p, _, vs, rfl, rdb_int hy, h1, by omega, by omega, by rw [d1.length, ← line_eq]; exact hm.2.2, fun r nr => new_lst s nr (d1.rep _) q⟩)
    · (try rw [fI_eq] at e); cases e
  · (try rw [fI_eq] at e); cases e
theorem de_mul (ha : DB X G a fa) (hb : DB X G b fb) : DE X G (.BinOp a .Mult b pos) (mBin dMul fa fb) := de_bin op_mulA v_mul ha hb
def rDivA : R2 := fun x y H Q => rI CDivW (fun i j => .int (i / j)) x y H Q ∨ rI CDivN (fun i j => .int (i.fdiv j)) x y H Q
theorem op_divA : OpR X (binaryOp .FloorDiv) rDivA := OpR.or op_fdivW op_fdivN
theorem v_div {K : PySem.W.Frag} : VOp K rDivA dFDiv := by
  intro G F H S x y dx dy dz Q s hx hy e q
  unfold dFDiv at e
  split at e
  · split at e
    · rename_i hj
      split at e
      · rename_i hm
        (try rw [fI_eq] at e); cases e
        exact .inl ⟨_, _, rdb_int hx, rdb_int hy, ⟨hj, hm⟩, same_v s (.int _) q⟩
      · (try rw [fI_eq] at e); cases e
    · split at e
      · rename_i hm
        (try rw [fI_eq] at e); cases e
        exact .inr ⟨_, _, rdb_int hx, rdb_int hy, hm, same_v s (.int _) q⟩
      · (try rw [fI_eq] at e); cases e
  · (try rw [fI_eq] at e); cases e
theorem de_fdiv (ha : DB X G a fa) (hb : DB X G b fb) : DE X G (.BinOp a .FloorDiv b pos) (mBin dFDiv fa fb) := de_bin op_divA v_div ha hb
def rModA : R2 := fun x y H Q => rI (fun _ j => 0 < j) (fun i j => .int (i % j)) x y H Q ∨ rI (fun _ j => j ≠ 0) (fun i j => .int (i.fmod j)) x y H Q
theorem op_modA : OpR X (binaryOp .Mod) rModA := OpR.or op_mod op_modN
theorem v_mod {K : PySem.W.Frag} : VOp K rModA dMod := by
  intro G F H S x y dx dy dz Q s hx hy e q
  unfold dMod at e
  split at e
  · split at e
    · rename_i hj
      (try rw [fI_eq] at e); cases e
      exact .inl ⟨_, _, rdb_int hx, rdb_int hy, hj, same_v s (.int _) q⟩
    · split at e
      · rename_i hm
        (try rw [fI_eq] at e); cases e
        exact .inr ⟨_, _, rdb_int hx, rdb_int hy, hm, same_v s (.int _) q⟩
      · (try rw [fI_eq] at e); cases e
  · (try rw [fI_eq] at e); cases e
theorem de_mod (ha : DB X G a fa) (hb : DB X G b fb) : DE X G (.BinOp a .Mod b pos) (mBin dMod fa fb) := de_bin op_modA v_mod ha hb
theorem v_pow {K : PySem.W.Frag} : VOp K (rI CPow fun i j => .int (i ^ j.toNat)) dPow := by
  intro G F H S x y dx dy dz Q s hx hy e q
  unfold dPow at e
  split at e
  · split at e
    · rename_i hm
      (try rw [fI_eq] at e); cases e
      exact ⟨_, _, rdb_int hx, rdb_int hy, ⟨hm.1, hm.2.1, by have := hm.2.2; omega⟩, same_v s (.int _) q⟩
    · (try rw [fI_eq] at e); cases e
  · (try rw [fI_eq] at e); cases e
theorem de_pow (ha : DB X G a fa) (hb : DB X G b fb) : DE X G (.BinOp a .Pow b pos) (mBin dPow fa fb) := de_bin op_pow v_pow ha hb
theorem v_shl {K : PySem.W.Frag} : VOp K (rI CPow fun i j => .int (i * 2 ^ j.toNat)) dShl := by
  intro G F H S x y dx dy dz Q s hx hy e q
  unfold dShl at e
  split at e
  · split at e
    · rename_i hm
      (try rw [fI_eq] at e); cases e
      exact ⟨_, _, rdb_int hx, rdb_int hy, ⟨hm.1, hm.2.1, by have := hm.2.2; omega⟩, same_v s (.int _) q⟩
    · (try rw [fI_eq] at e); cases e
  · (try rw [fI_eq] at e); cases e
theorem de_shl (ha : DB X G a fa) (hb : DB X G b fb) : DE X G (.BinOp a .LShift b pos) (mBin dShl fa fb) := de_bin op_shl v_shl ha hb
def dNeg : D → Option D
  | .int i => fI (-i)
  | _ => none
theorem v_neg {K : PySem.W.Frag} : VUn K (rU fun i => .int (-i)) dNeg := by
  intro G F H S x dx dz Q s hx e q
  unfold dNeg at e
  split at e
  · (try rw [fI_eq] at e); cases e
    cases hx
    exact ⟨_, rfl, same_v s (.int _) q⟩
  · (try rw [fI_eq] at e); cases e
theorem de_neg (ha : DE X G a fa) : DE X G (.UnaryOp .USub a pos) (mUn dNeg fa) := de_un un_neg v_neg ha

/-! ### comparisons -/
def dLt : D → D → Option D
  | .int i, .int j => some (.bool (decide (i < j)))
  | _, _ => none
def dLe : D → D → Option D
  | .int i, .int j => some (.bool (decide (i ≤ j)))
  | _, _ => none
def dGt : D → D → Option D
  | .int i, .int j => some (.bool (decide (j < i)))
  | _, _ => none
def dGe : D → D → Option D
  | .int i, .int j => some (.bool (decide (j ≤ i)))
  | _, _ => none
theorem v_cmp {K : PySem.W.Frag} {g : Int → Int → Bool} {d : D → D → Option D} (h : ∀ x y z, d x y = some z → ∃ i j, x = .int i ∧ y = .int j ∧ z = .bool (g i j)) : VOp K (rI0 fun i j => .bl (g i j)) d := by
  intro G F H S x y dx dy dz Q s hx hy e q
  obtain ⟨i, j, rfl, rfl, rfl⟩ := h _ _ _ e
  exact ⟨_, _, rdb_int hx, rdb_int hy, same_v s (.bl _) q⟩
theorem v_lt {K : PySem.W.Frag} : VOp K (rI0 fun i j => .bl (decide (i < j))) dLt := v_cmp fun x y z h => by
  unfold dLt at h; split at h <;> cases h; exact ⟨_, _, rfl, rfl, rfl⟩
theorem v_le {K : PySem.W.Frag} : VOp K (rI0 fun i j => .bl (decide (i ≤ j))) dLe := v_cmp fun x y z h => by
  unfold dLe at h; split at h <;> cases h; exact ⟨_, _, rfl, rfl, rfl⟩
theorem v_gt {K : PySem.W.Frag} : VOp K (rI0 fun i j => .bl (decide (j < i))) dGt := v_cmp (g := fun i j => decide (j < i)) fun x y z h => by
  unfold dGt at h; split at h <;> cases h; exact ⟨_, _, rfl, rfl, rfl⟩
theorem v_ge {K : PySem.W.Frag} : VOp K (rI0 fun i j => .bl (decide (j ≤ i))) dGe := v_cmp (g := fun i j => decide (j ≤ i)) fun x y z h => by
  unfold dGe at h; split at h <;> cases h; exact ⟨_, _, rfl, rfl, rfl⟩
/-- == of data -/
def dEqB : D → D → Option Bool
  | .int i, .int j => some (i == j)
  | .str i, .str j => some (i == j)
  | x, y => if (SeqAt.shaped x && SeqAt.shaped y) = true then some (PyData.eqv x y) else none
def dEq (x y : D) : Option D := match dEqB x y with
  | some b => some (.bool b)
  | none => none
def dNe (x y : D) : Option D := match dEqB x y with
  | some b => some (.bool (!b))
  | none => none
mutual
theorem Den.dp {K : PySem.W.Frag} {F : Addr → Prop} {H : Hp} : ∀ {d : D} {v : V}, Den K F H v d → PyData.canLay0 d = true → Dp K H v d
  | .none, _, .non, _ => .non
  | .bool b, _, .bl _, _ => .bl b
  | .int i, _, .int _, _ => .int i
  | .str x, _, .str _, _ => .str x
  | .list ds, _, .lst _ h r, c => .lst (SqL.of h) (DenL.dp r c)
  | .tuple ds, _, .tup h r, c => .tup h (DenL.dp r c)
  | .dict _, _, _, c => by simp [PyData.canLay0] at c
theorem DenL.dp {K : PySem.W.Frag} {F : Addr → Prop} {H : Hp} : ∀ {ds : List D} {vs : List V}, DenL K F H vs ds → PyData.canLayAll0 ds = true → DpAll K H vs ds
  | [], _, .nil, _ => .nil
  | d :: ds, _, .cons a b, c => by
    rw [PyData.canLayAll0, Bool.and_eq_true] at c
    exact .cons (Den.dp a c.1) (DenL.dp b c.2)
end
theorem rdb_dp {K : PySem.W.Frag} {F : Addr → Prop} {H : Hp} {d : D} {v : V} (h : Rdb K F H v d) (s : SeqAt.shaped d = true) : Dp K H v d := by
  have c := (Bool.and_eq_true_iff.mp s).1
  rcases h with h | ⟨p, vs, ds, rfl, rfl, e, r⟩
  · exact h.dp c
  · exact .lst (SqL.of e) (r.dp c)
def rEqA (K : PySem.W.Frag) : R2 := fun x y H Q => rEq x y H Q ∨ rEqD K x y H Q
def rNeA (K : PySem.W.Frag) : R2 := fun x y H Q => rNe x y H Q ∨ rNeD K x y H Q
theorem v_eqG {K : PySem.W.Frag} {F : Addr → Prop} {H : Hp} {x y : V} {dx dy : D} {c : Bool} (hx : Rdb K F H x dx) (hy : Rdb K F H y dy) (e : dEqB dx dy = some c) {P : Prop}
    (h1 : scal x y = true → decide (x = y) = c → P) (h2 : Dp K H x dx → Dp K H y dy → SeqAt.shaped dx = true → SeqAt.shaped dy = true → PyData.eqv dx dy = c → P) : P := by
  unfold dEqB at e
  split at e
  · (try rw [fI_eq] at e); cases e
    have := rdb_int hx; have := rdb_int hy
    subst x; subst y
    exact h1 rfl dec_int
  · (try rw [fI_eq] at e); cases e
    have := rdb_str hx; have := rdb_str hy
    subst x; subst y
    exact h1 rfl dec_str
  · split at e
    · rename_i h
      (try rw [fI_eq] at e); cases e
      obtain ⟨a, b⟩ := Bool.and_eq_true_iff.mp h
      exact h2 (rdb_dp hx a) (rdb_dp hy b) a b rfl
    · (try rw [fI_eq] at e); cases e
theorem v_eq {K : PySem.W.Frag} : VOp K (rEqA K) dEq := by
  intro G F H S x y dx dy dz Q s hx hy e q
  unfold dEq at e
  split at e
  · rename_i c ec
    (try rw [fI_eq] at e); cases e
    refine v_eqG hx hy ec (fun a b => .inl ⟨a, ?_⟩) fun a b c' d e => .inr ⟨_, _, a, b, c', d, ?_⟩
    · rw [b]; exact same_v s (.bl _) q
    · rw [e]; exact same_v s (.bl _) q
  · (try rw [fI_eq] at e); cases e
theorem v_ne {K : PySem.W.Frag} : VOp K (rNeA K) dNe := by
  intro G F H S x y dx dy dz Q s hx hy e q
  unfold dNe at e
  split at e
  · rename_i c ec
    (try rw [fI_eq] at e); cases e
    refine v_eqG hx hy ec (fun a b => .inl ⟨a, ?_⟩) fun a b c' d e => .inr ⟨_, _, a, b, c', d, ?_⟩
    · rw [b]; exact same_v s (.bl _) q
    · rw [e]; exact same_v s (.bl _) q
  · (try rw [fI_eq] at e); cases e
theorem RoomG.u64 {k : Nat} {A : Around} (r : RoomG k A) : A.units + 64 < cLine := r.room.units
theorem op_eqA {k : Nat} (hr : RoomG k X.A) : OpR X (compareOp .Eq) (rEqA X.K) := OpR.or op_eq (op_eqD hr.u64)
theorem op_neA {k : Nat} (hr : RoomG k X.A) : OpR X (compareOp .NotEq) (rNeA X.K) := OpR.or op_ne (op_neD hr.u64)
/-- by their signs -/
theorem de_lt (ha : DB X G a fa) (hb : DB X G b fb) : DE X G (.Compare a [.Lt] [b] pos) (mBin dLt fa fb) := de_cmp op_lt v_lt (nomark _) ha hb
theorem de_le (ha : DB X G a fa) (hb : DB X G b fb) : DE X G (.Compare a [.LtE] [b] pos) (mBin dLe fa fb) := de_cmp op_le v_le (nomark _) ha hb
theorem de_gt (ha : DB X G a fa) (hb : DB X G b fb) : DE X G (.Compare a [.Gt] [b] pos) (mBin dGt fa fb) := de_cmp op_gt v_gt (nomark _) ha hb
theorem de_ge (ha : DB X G a fa) (hb : DB X G b fb) : DE X G (.Compare a [.GtE] [b] pos) (mBin dGe fa fb) := de_cmp op_ge v_ge (nomark _) ha hb
theorem de_eq {k : Nat} (hr : RoomG k X.A) (ha : DB X G a fa) (hb : DB X G b fb) : DE X G (.Compare a [.Eq] [b] pos) (mBin dEq fa fb) := de_cmp (op_eqA hr) v_eq (nomark _) ha hb
theorem de_ne {k : Nat} (hr : RoomG k X.A) (ha : DB X G a fa) (hb : DB X G b fb) : DE X G (.Compare a [.NotEq] [b] pos) (mBin dNe fa fb) := de_cmp (op_neA hr) v_ne (nomark _) ha hb
theorem dt_lt (ha : DB X G a fa) (hb : DB X G b fb) : DT X G (.Compare a [.Lt] [b] pos) (mT (mBin dLt fa fb)) := dt_cmp op_lt v_lt (nomark _) ha hb
theorem dt_le (ha : DB X G a fa) (hb : DB X G b fb) : DT X G (.Compare a [.LtE] [b] pos) (mT (mBin dLe fa fb)) := dt_cmp op_le v_le (nomark _) ha hb
theorem dt_gt (ha : DB X G a fa) (hb : DB X G b fb) : DT X G (.Compare a [.Gt] [b] pos) (mT (mBin dGt fa fb)) := dt_cmp op_gt v_gt (nomark _) ha hb
theorem dt_ge (ha : DB X G a fa) (hb : DB X G b fb) : DT X G (.Compare a [.GtE] [b] pos) (mT (mBin dGe fa fb)) := dt_cmp op_ge v_ge (nomark _) ha hb
theorem dt_eq {k : Nat} (hr : RoomG k X.A) (ha : DB X G a fa) (hb : DB X G b fb) : DT X G (.Compare a [.Eq] [b] pos) (mT (mBin dEq fa fb)) := dt_cmp (op_eqA hr) v_eq (nomark _) ha hb
theorem dt_ne {k : Nat} (hr : RoomG k X.A) (ha : DB X G a fa) (hb : DB X G b fb) : DT X G (.Compare a [.NotEq] [b] pos) (mT (mBin dNe fa fb)) := dt_cmp (op_neA hr) v_ne (nomark _) ha hb
/-- is None, is True -/
def isNone : D → Bool
  | .none => true
  | _ => false
def dIs : D → D → Option D
  | x, .none => some (.bool (isNone x))
  | .bool a, .bool b => some (.bool (decide (a = b)))
  | _, _ => none
def dIsNot : D → D → Option D
  | x, .none => some (.bool (!isNone x))
  | .bool a, .bool b => some (.bool (!decide (a = b)))
  | _, _ => none
theorem rdb_isNone {K : PySem.W.Frag} {F : Addr → Prop} {H : Hp} {d : D} {v : V} (h : Rdb K F H v d) : decide (v = .non) = isNone d := by
  rcases h with h | ⟨p, vs, ds, rfl, rfl, e, r⟩
  · cases h <;> simp [isNone]
  · simp [isNone]
def rIsA : R2 := fun x y H Q => (y = .non ∧ Q (.bl (decide (x = .non))) H) ∨ rIsB x y H Q
def rIsNotA : R2 := fun x y H Q => (y = .non ∧ Q (.bl (!decide (x = .non))) H) ∨ rNotB x y H Q
theorem v_is {K : PySem.W.Frag} : VOp K rIsA dIs := by
  intro G F H S x y dx dy dz Q s hx hy e q
  unfold dIs at e
  split at e
  · (try rw [fI_eq] at e); cases e
    exact .inl ⟨rdb_non hy, by rw [rdb_isNone hx]; exact same_v s (.bl _) q⟩
  · (try rw [fI_eq] at e); cases e
    exact .inr ⟨_, _, rdb_bool hx, rdb_bool hy, same_v s (.bl _) q⟩
  · (try rw [fI_eq] at e); cases e
theorem v_isNot {K : PySem.W.Frag} : VOp K rIsNotA dIsNot := by
  intro G F H S x y dx dy dz Q s hx hy e q
  unfold dIsNot at e
  split at e
  · (try rw [fI_eq] at e); cases e
    exact .inl ⟨rdb_non hy, by rw [rdb_isNone hx]; exact same_v s (.bl _) q⟩
  · (try rw [fI_eq] at e); cases e
    exact .inr ⟨_, _, rdb_bool hx, rdb_bool hy, same_v s (.bl _) q⟩
  · (try rw [fI_eq] at e); cases e
theorem op_isA : OpR X (compareOp .Is) rIsA := OpR.or op_isN op_isBl
theorem op_isNotA : OpR X (compareOp .IsNot) rIsNotA := OpR.or op_notN op_notBl
theorem de_is (ha : DB X G a fa) (hb : DB X G b fb) : DE X G (.Compare a [.Is] [b] pos) (mBin dIs fa fb) := de_cmp op_isA v_is (nomark _) ha hb
theorem de_isNot (ha : DB X G a fa) (hb : DB X G b fb) : DE X G (.Compare a [.IsNot] [b] pos) (mBin dIsNot fa fb) := de_cmp op_isNotA v_isNot (nomark _) ha hb
theorem dt_is (ha : DB X G a fa) (hb : DB X G b fb) : DT X G (.Compare a [.Is] [b] pos) (mT (mBin dIs fa fb)) := dt_cmp op_isA v_is (nomark _) ha hb
theorem dt_isNot (ha : DB X G a fa) (hb : DB X G b fb) : DT X G (.Compare a [.IsNot] [b] pos) (mT (mBin dIsNot fa fb)) := dt_cmp op_isNotA v_isNot (nomark _) ha hb

/-! ### items -/
def dIx : D → D → Option D
  | .list ds, .int i => atI ds i
  | .tuple ds, .int i => atI ds i
  | _, _ => none
theorem atI_den {K : PySem.W.Frag} {F : Addr → Prop} {H : Hp} {vs : List V} {ds : List D} {i : Int} {d : D} (r : DenL K F H vs ds) (h : atI ds i = some d) : ∃ v, atI vs i = some v ∧ Den K F H v d := by
  unfold atI at h ⊢
  rw [r.length]
  cases e : ixN ds.length i with
  | none => rw [e] at h; cases h
  | some j =>
    rw [e] at h
    exact r.get h
theorem v_ix {K : PySem.W.Frag} : VOp K (rIx K) dIx := by
  intro G F H S x y dx dy dz Q s hx hy e q
  unfold dIx at e
  split at e
  · obtain ⟨p, vs, rfl, h1, d1⟩ := rdb_list hx
    obtain ⟨v, hv, dv⟩ := atI_den d1 e
    exact .inl ⟨p, vs, _, v, rfl, rdb_int hy, SqL.of h1, hv, same_v s dv q⟩
  · obtain ⟨p, vs, rfl, h1, d1⟩ := rdb_tup hx
    obtain ⟨v, hv, dv⟩ := atI_den d1 e
    exact .inr (.inl ⟨p, vs, _, v, rfl, rdb_int hy, h1, hv, same_v s dv q⟩)
  · (try rw [fI_eq] at e); cases e
theorem de_ix (ha : DB X G a fa) (hb : DB X G b fb) (hs : PlainIx b := by exact fun _ _ => rfl) : DE X G (.Subscript a b pos) (mBin dIx fa fb) :=
  ⟨(pe_ix ix_seq ha.pe hb.pe hs).impD fun _ _ _ h => tOp_of v_ix h⟩
/-! slices -/
abbrev EvO := Env' → Src → Option (Option Int × Src)
def tOo (K : PySem.W.Frag) (G : Gh) (f : EvO) : TO := fun σ H Q => ∃ FB HB F env S d S', Rel K G FB HB F env S σ H ∧ f env S = some (d, S') ∧
  ∀ F' H', Aft G F H F' H' → SrcF G S' F' H' → Q d H'
theorem _root_.L2.PO.impD {X : Cx} {e : Option Expr} {t u : TO} (h : PO X e t) (w : ∀ σ H Q, u σ H Q → t σ H Q) : PO X e u := ⟨fun pins s σ H Q I q => h.run pins s σ H Q I (w _ _ _ q)⟩
structure DO (X : Cx) (G : Gh) (e : Option Expr) (f : EvO) : Prop where
  po : PO X e (tOo X.K G f)
def oNone : EvO := fun _ S => some (none, S)
def oSome (a : EvE) : EvO := fun env S => match a env S with
  | some (.int i, S1) => some (some i, S1)
  | _ => none
theorem do_none : DO X G none oNone := by
  refine ⟨po_none.impD ?_⟩
  rintro σ H Q ⟨FB, HB, F, env, S, d, S', R, e, q⟩
  (try rw [fI_eq] at e); cases e
  exact q F H (Aft.refl _ _ _) R.src
theorem do_some (ha : DE X G a fa) : DO X G (some a) (oSome fa) := by
  refine ⟨(po_some ha.pe).impD ?_⟩
  rintro σ H Q ⟨FB, HB, F, env, S, d, S', R, e, q⟩
  unfold oSome at e
  split at e
  · rename_i i S1 e1
    (try rw [fI_eq] at e); cases e
    exact ⟨FB, HB, F, env, S, _, _, R, e1, fun v F' H' A s dv => by cases dv; exact ⟨i, rfl, q F' H' A s⟩⟩
  · (try rw [fI_eq] at e); cases e
def cutD (xs : List D) (lo hi : Option Int) : List D := (xs.drop (HT.sIx xs.length 0 lo)).take (HT.sIx xs.length xs.length hi - HT.sIx xs.length 0 lo)
theorem DenL.cut {K : PySem.W.Frag} {F : Addr → Prop} {H : Hp} {vs : List V} {ds : List D} (r : DenL K F H vs ds) (lo hi : Option Int) : DenL K F H (cutV vs lo hi) (cutD ds lo hi) := by
  unfold cutV cutD
  rw [r.length]
  exact (r.drop _).take _
def mSl (a : EvE) (lo hi : EvO) : EvE := fun env S => match a env S with
  | some (d, S1) => match lo env S1 with
    | some (l, S2) => match hi env S2 with
      | some (h, S3) => match d with
        | .list ds => some (.list (cutD ds l h), S3)
        | .tuple ds => some (.tuple (cutD ds l h), S3)
        | _ => none
      | none => none
    | none => none
  | none => none
def rSlBoth (K : PySem.W.Frag) : V → Option Int → Option Int → Hp → VK → Prop := fun x lo hi H Q => rSlL K x lo hi H Q ∨ rSlA K x lo hi H Q
theorem sl_both : SlR X (rSlBoth X.K) := SlR.or sl_list sl_tupA
variable {lo hi : Option Expr} {fl fh : EvO} {p2 : Pos}
theorem cut_all {α : Type} (xs : List α) (lo hi : Option Int) (h : HT.sIx xs.length 0 lo = 0 ∧ HT.sIx xs.length xs.length hi = xs.length) : (xs.drop (HT.sIx xs.length 0 lo)).take (HT.sIx xs.length xs.length hi - HT.sIx xs.length 0 lo) = xs := by
  rw [h.1, h.2, List.drop_zero, Nat.sub_zero, List.take_length]
theorem de_sl (ha : DB X G a fa) (hl : DO X G lo fl) (hh : DO X G hi fh) : DE X G (.Subscript a (.Slice lo hi none p2) pos) (mSl fa fl fh) := by
  refine ⟨(pe_slice sl_both ha.pe hl.po hh.po).impD ?_⟩
  rintro σ H Q ⟨FB, HB, F, env, S, d, S', R, e, q⟩
  unfold mSl at e
  split at e
  · rename_i d0 S1 e1
    split at e
    · rename_i l S2 e2
      split at e
      · rename_i h S3 e3
        refine ⟨FB, HB, F, env, S, d0, S1, R, e1, fun vx F1 H1 A1 s1 _ kx => ?_⟩
        refine ⟨FB, HB, F1, env, S1, l, S2, R.after A1 s1, e2, fun F2 H2 A2 s2 => ?_⟩
        refine ⟨FB, HB, F2, env, S2, h, S3, (R.after A1 s1).after A2 s2, e3, fun F3 H3 A3 s3 => ?_⟩
        have dx := kx _ _ (A2.trans A3)
        have A := (A1.trans A2).trans A3
        split at e
        · (try rw [fI_eq] at e); cases e
          obtain ⟨p, vs, rfl, h1, d1⟩ := rdb_list dx
          exact .inl ⟨p, vs, rfl, SqL.of h1, fun r nr => new_lst s3 nr (d1.cut l h) fun v F' H' A' s' dv => q v F' H' (A.trans A') s' dv⟩
        · (try rw [fI_eq] at e); cases e
          obtain ⟨p, vs, rfl, h1, d1⟩ := rdb_tup dx
          have dc := d1.cut l h
          refine .inr ⟨p, vs, rfl, h1, fun hw => ?_, fun _ r nr => new_tup s3 nr dc fun v F' H' A' s' dv => q v F' H' (A.trans A') s' dv⟩
          unfold cutV at dc
          rw [cut_all _ _ _ hw] at dc
          exact q _ F3 H3 A s3 (.tup h1 dc)
        · (try rw [fI_eq] at e); cases e
      · (try rw [fI_eq] at e); cases e
    · (try rw [fI_eq] at e); cases e
  · (try rw [fI_eq] at e); cases e
/-- xs[::-1] of a list -/
def mRev (a : EvE) : EvE := fun env S => match a env S with
  | some (.list ds, S1) => some (.list ds.reverse, S1)
  | _ => none
theorem de_revL {k : Nat} {p1 p2 p3 : Pos} (ha : DB X G a fa) : DE X G (.Subscript a (.Slice none none (some (.UnaryOp .USub (.Constant (.int 1) k p1) p2)) p3) pos) (mRev fa) := by
  refine ⟨(pe_revL ha.pe).impD ?_⟩
  rintro σ H Q ⟨FB, HB, F, env, S, d, S', R, e, q⟩
  unfold mRev at e
  split at e
  · rename_i ds S1 e1
    (try rw [fI_eq] at e); cases e
    refine ⟨FB, HB, F, env, S, _, _, R, e1, fun vx F1 H1 A1 s1 dx _ => ?_⟩
    obtain ⟨p, vs, rfl, h1, d1⟩ := rdb_list dx
    exact ⟨p, vs, rfl, SqL.of h1, fun r nr => new_lst s1 nr d1.reverse fun v F' H' A' s' dv => q v F' H' (A1.trans A') s' dv⟩
  · (try rw [fI_eq] at e); cases e
end

/-! ### built-ins by their names -/
inductive RdbL (K : PySem.W.Frag) (F : Addr → Prop) (H : Hp) : List V → List D → Prop
  | nil : RdbL K F H [] []
  | cons {v : V} {vs : List V} {d : D} {ds : List D} : Rdb K F H v d → RdbL K F H vs ds → RdbL K F H (v :: vs) (d :: ds)
def tBs (K : PySem.W.Frag) (G : Gh) (f : EvA) : TA := fun σ H Q => ∃ FB HB F env S d S', Rel K G FB HB F env S σ H ∧ f env S = some (d, S') ∧
  ∀ v F' H', Aft G F H F' H' → SrcF G S' F' H' → RdbL K F' H' v d → (∀ F2 H2, Aft G F' H' F2 H2 → RdbL K F2 H2 v d) → Q v H'
structure DBs (X : Cx) (G : Gh) (es : List Expr) (f : EvA) : Prop where
  pa : PA X es (tBs X.K G f)
def VCl (K : PySem.W.Frag) (r : List V → Hp → VK → Prop) (g : List D → Option D) : Prop :=
  ∀ (G : Gh) (F : Addr → Prop) (H : Hp) (S : Src) (xs : List V) (dxs : List D) (dz : D) (Q : VK), SrcF G S F H → RdbL K F H xs dxs → g dxs = some dz →
    (∀ v F' H', Aft G F H F' H' → SrcF G S F' H' → Den K F' H' v dz → Q v H') → r xs H Q
/-- .. a new list -/
def VClF (K : PySem.W.Frag) (r : List V → Hp → VK → Prop) (g : List D → Option (List D)) : Prop :=
  ∀ (G : Gh) (F : Addr → Prop) (H : Hp) (S : Src) (xs : List V) (dxs : List D) (dz : List D) (Q : VK), SrcF G S F H → RdbL K F H xs dxs → g dxs = some dz →
    (∀ p vs, H p = none → DenL K F H vs dz → Q (.ref p) (upd H p (.lst vs))) → r xs H Q
def mCB (g : List D → Option D) (a : EvA) : EvE := fun env S => match a env S with
  | some (xs, S1) => match g xs with
    | some z => some (z, S1)
    | none => none
  | none => none
def mCBF (g : List D → Option (List D)) (a : EvA) : EvA := fun env S => match a env S with
  | some (xs, S1) => match g xs with
    | some z => some (z, S1)
    | none => none
  | none => none
section
variable {X : Cx} {G : Gh} {pos p : Pos} {e : Expr} {es : List Expr} {fe : EvE} {fs : EvA} {x : Str} {id T : String} {r : List V → Hp → VK → Prop}
theorem dbs_nil : DBs X G [] mNil := by
  refine ⟨pa_nil.impD ?_⟩
  rintro σ H Q ⟨FB, HB, F, env, S, d, S', R, e, q⟩
  (try rw [fI_eq] at e); cases e
  exact q [] F H (Aft.refl _ _ _) R.src .nil fun _ _ _ => .nil
theorem dbs_cons (ha : DB X G e fe) (hr : DBs X G es fs) (hs : starEach (e :: es) X.env = (false, eval e X.env) :: starEach es X.env := by rfl) : DBs X G (e :: es) (mCons fe fs) := by
  refine ⟨(pa_cons ha.pe hr.pa hs).impD ?_⟩
  rintro σ H Q ⟨FB, HB, F, env, S, d, S', R, e, q⟩
  obtain ⟨x, S1, xs, e1, e2, rfl⟩ := mCons_some e
  refine ⟨FB, HB, F, env, S, x, S1, R, e1, fun vx F1 H1 A1 s1 _ kx => ?_⟩
  exact ⟨FB, HB, F1, env, S1, xs, S', R.after A1 s1, e2, fun vs F2 H2 A2 s2 dvs kvs => q _ F2 H2 (A1.trans A2) s2 (.cons (kx _ _ A2) dvs) fun F3 H3 A3 => .cons (kx _ _ (A2.trans A3)) (kvs _ _ A3)⟩
theorem cb_of {K : PySem.W.Frag} {g : List D → Option D} (v : VCl K r g) {σ : L2.St} {H : Hp} {Q : VK} (h : tD K G (mCB g fs) σ H Q) : tCB r (tBs K G fs) σ H Q := by
  obtain ⟨FB, HB, F, env, S, d, S', R, e, q⟩ := h
  unfold mCB at e
  split at e
  · rename_i xs S1 e1
    split at e
    · rename_i z e2
      (try rw [fI_eq] at e); cases e
      exact ⟨FB, HB, F, env, S, xs, _, R, e1, fun vs F1 H1 A1 s1 dvs _ => v G F1 H1 _ vs xs _ Q s1 dvs e2 fun v F2 H2 A2 s2 dv => q v F2 H2 (A1.trans A2) s2 dv⟩
    · (try rw [fI_eq] at e); cases e
  · (try rw [fI_eq] at e); cases e
theorem cbf_of {K : PySem.W.Frag} {g : List D → Option (List D)} (v : VClF K r g) {σ : L2.St} {H : Hp} {Q : VK} (h : tFl K G (mCBF g fs) σ H Q) : tCB r (tBs K G fs) σ H Q := by
  obtain ⟨FB, HB, F, env, S, d, S', R, e, q⟩ := h
  unfold mCBF at e
  split at e
  · rename_i xs S1 e1
    split at e
    · rename_i z e2
      (try rw [fI_eq] at e); cases e
      exact ⟨FB, HB, F, env, S, xs, _, R, e1, fun vs F1 H1 A1 s1 dvs _ => v G F1 H1 _ vs xs _ Q s1 dvs e2 fun p vs np dv => q p vs F1 _ (A1.trans (Aft.new np)) (s1.new np) (A1.none_of np) (s1.notF np) upd_same (dv.mono (Lat.new np))⟩
    · (try rw [fI_eq] at e); cases e
  · (try rw [fI_eq] at e); cases e
theorem de_callB {g : List D → Option D} (hc : CallR X (.builtin id) r) (v : VCl X.K r g) (hg : Gl X x) (hm : X.mg x = none) (hv : bootBuiltins x = some (.builtin id)) (ha : DBs X G (e :: es) fs) (hn : x ≠ "__name__" := by decide) (hdb : (x == ("__debug__" : Str)) = false := by decide)
    (he : starEach (e :: es) X.env = (false, eval e X.env) :: starEach es X.env := by rfl) (hpl : (backTo pos (starEach es X.env)).any (·.1) = false := by rfl) : DE X G (.Call (.Name x p) (e :: es) [] pos) (mCB g fs) :=
  ⟨(pe_callB hc hg hm hv ha.pa hn hdb he hpl).impD fun _ _ _ h => cb_of v h⟩
theorem de_callTy {g : List D → Option D} (hc : CallR X (.type T) r) (v : VCl X.K r g) (hg : Gl X x) (hm : X.mg x = none) (hv : bootBuiltins x = some (.type T)) (ha : DBs X G (e :: es) fs) (hn : x ≠ "__name__" := by decide) (hdb : (x == ("__debug__" : Str)) = false := by decide)
    (he : starEach (e :: es) X.env = (false, eval e X.env) :: starEach es X.env := by rfl) (hpl : (backTo pos (starEach es X.env)).any (·.1) = false := by rfl) : DE X G (.Call (.Name x p) (e :: es) [] pos) (mCB g fs) :=
  ⟨(pe_callTy hc hg hm hv ha.pa hn hdb he hpl).impD fun _ _ _ h => cb_of v h⟩
theorem df_callB {g : List D → Option (List D)} (hc : CallR X (.builtin id) r) (v : VClF X.K r g) (hg : Gl X x) (hm : X.mg x = none) (hv : bootBuiltins x = some (.builtin id)) (ha : DBs X G (e :: es) fs) (hn : x ≠ "__name__" := by decide) (hdb : (x == ("__debug__" : Str)) = false := by decide)
    (he : starEach (e :: es) X.env = (false, eval e X.env) :: starEach es X.env := by rfl) (hpl : (backTo pos (starEach es X.env)).any (·.1) = false := by rfl) : DF X G (.Call (.Name x p) (e :: es) [] pos) (mCBF g fs) :=
  ⟨(pe_callB hc hg hm hv ha.pa hn hdb he hpl).impD fun _ _ _ h => cbf_of v h⟩
theorem df_callTy {g : List D → Option (List D)} (hc : CallR X (.type T) r) (v : VClF X.K r g) (hg : Gl X x) (hm : X.mg x = none) (hv : bootBuiltins x = some (.type T)) (ha : DBs X G (e :: es) fs) (hn : x ≠ "__name__" := by decide) (hdb : (x == ("__debug__" : Str)) = false := by decide)
    (he : starEach (e :: es) X.env = (false, eval e X.env) :: starEach es X.env := by rfl) (hpl : (backTo pos (starEach es X.env)).any (·.1) = false := by rfl) : DF X G (.Call (.Name x p) (e :: es) [] pos) (mCBF g fs) :=
  ⟨(pe_callTy hc hg hm hv ha.pa hn hdb he hpl).impD fun _ _ _ h => cbf_of v h⟩

def gLen : List D → Option D
  | [.list ds] => fI ds.length
  | [.tuple ds] => fI ds.length
  | _ => none
theorem v_len {K : PySem.W.Frag} : VCl K (fun xs H Q => ∃ p ys, xs = [.ref p] ∧ (SqL K H p ys ∨ SqT K H p ys) ∧ Q (.int ys.length) H) gLen := by
  intro G F H S xs dxs dz Q s r e q
  unfold gLen at e
  split at e
  · (try rw [fI_eq] at e); cases e
    cases r with | cons r1 r2 => cases r2 with | nil =>
    obtain ⟨p, vs, rfl, h, d⟩ := rdb_seq (.inl r1)
    exact ⟨p, vs, rfl, h, by rw [d.length]; exact same_v s (.int _) q⟩
  · (try rw [fI_eq] at e); cases e
    cases r with | cons r1 r2 => cases r2 with | nil =>
    obtain ⟨p, vs, rfl, h, d⟩ := rdb_seq (.inr r1)
    exact ⟨p, vs, rfl, h, by rw [d.length]; exact same_v s (.int _) q⟩
  · (try rw [fI_eq] at e); cases e
def gAbs : List D → Option D
  | [.int i] => fI (if i < 0 then -i else i)
  | _ => none
theorem v_abs {K : PySem.W.Frag} : VCl K (fun xs H Q => ∃ i, xs = [.int i] ∧ Q (.int (if i < 0 then -i else i)) H) gAbs := by
  intro G F H S xs dxs dz Q s r e q
  unfold gAbs at e
  split at e
  · (try rw [fI_eq] at e); cases e
    cases r with | cons r1 r2 => cases r2 with | nil =>
    rw [rdb_int r1]
    exact ⟨_, rfl, same_v s (.int _) q⟩
  · (try rw [fI_eq] at e); cases e
def gInt : List D → Option D
  | [.int i] => some (.int i)
  | [.bool k] => fI (if k then 1 else 0)
  | _ => none
theorem v_int {K : PySem.W.Frag} : VCl K (fun xs H Q => (∃ i, xs = [.int i] ∧ Q (.int i) H) ∨ ∃ k, xs = [.bl k] ∧ Q (.int (if k then 1 else 0)) H) gInt := by
  intro G F H S xs dxs dz Q s r e q
  unfold gInt at e
  split at e
  · (try rw [fI_eq] at e); cases e
    cases r with | cons r1 r2 => cases r2 with | nil =>
    rw [rdb_int r1]
    exact .inl ⟨_, rfl, same_v s (.int _) q⟩
  · (try rw [fI_eq] at e); cases e
    cases r with | cons r1 r2 => cases r2 with | nil =>
    rw [rdb_bool r1]
    exact .inr ⟨_, rfl, same_v s (.int _) q⟩
  · (try rw [fI_eq] at e); cases e
def gMax2 : List D → Option D
  | [.int i, .int j] => fI (if j > i then j else i)
  | _ => none
def gMin2 : List D → Option D
  | [.int i, .int j] => fI (if j < i then j else i)
  | _ => none
theorem v_max2 {K : PySem.W.Frag} : VCl K (fun xs H Q => ∃ i j, xs = [.int i, .int j] ∧ Q (.int (if j > i then j else i)) H) gMax2 := by
  intro G F H S xs dxs dz Q s r e q
  unfold gMax2 at e
  split at e
  · (try rw [fI_eq] at e); cases e
    cases r with | cons r1 r2 => cases r2 with | cons r2 r3 => cases r3 with | nil =>
    rw [rdb_int r1, rdb_int r2]
    exact ⟨_, _, rfl, same_v s (.int _) q⟩
  · (try rw [fI_eq] at e); cases e
theorem v_min2 {K : PySem.W.Frag} : VCl K (fun xs H Q => ∃ i j, xs = [.int i, .int j] ∧ Q (.int (if j < i then j else i)) H) gMin2 := by
  intro G F H S xs dxs dz Q s r e q
  unfold gMin2 at e
  split at e
  · (try rw [fI_eq] at e); cases e
    cases r with | cons r1 r2 => cases r2 with | cons r2 r3 => cases r3 with | nil =>
    rw [rdb_int r1, rdb_int r2]
    exact ⟨_, _, rfl, same_v s (.int _) q⟩
  · (try rw [fI_eq] at e); cases e
def gGcd : List D → Option D
  | [.int i, .int j] => fI ((Nat.gcd i.natAbs j.natAbs : Nat) : Int)
  | _ => none
theorem v_gcd {K : PySem.W.Frag} : VCl K rGcd gGcd := by
  intro G F H S xs dxs dz Q s r e q
  unfold gGcd at e
  split at e
  · (try rw [fI_eq] at e); cases e
    cases r with | cons r1 r2 => cases r2 with | cons r2 r3 => cases r3 with | nil =>
    rw [rdb_int r1, rdb_int r2]
    exact ⟨_, _, rfl, same_v s (.int _) q⟩
  · (try rw [fI_eq] at e); cases e
/-- the ints, the bools of a list -/
def toInts : List D → Option (List Int)
  | [] => some []
  | .int i :: r => match toInts r with
    | some is => some (i :: is)
    | none => none
  | _ => none
theorem toInts_some : ∀ {ds : List D} {is : List Int}, toInts ds = some is → ds = is.map PyData.int
  | [], is, h => by cases h; rfl
  | .int i :: r, is, h => by
    rw [toInts] at h
    split at h
    · rename_i is' e
      cases h
      rw [toInts_some e]; rfl
    · cases h
  | .none :: _, _, h => by cases h
  | .bool _ :: _, _, h => by cases h
  | .str _ :: _, _, h => by cases h
  | .list _ :: _, _, h => by cases h
  | .tuple _ :: _, _, h => by cases h
  | .dict _ :: _, _, h => by cases h
def toBools : List D → Option (List Bool)
  | [] => some []
  | .bool i :: r => match toBools r with
    | some is => some (i :: is)
    | none => none
  | _ => none
theorem toBools_some : ∀ {ds : List D} {is : List Bool}, toBools ds = some is → ds = is.map PyData.bool
  | [], is, h => by cases h; rfl
  | .bool i :: r, is, h => by
    rw [toBools] at h
    split at h
    · rename_i is' e
      cases h
      rw [toBools_some e]; rfl
    · cases h
  | .none :: _, _, h => by cases h
  | .int _ :: _, _, h => by cases h
  | .str _ :: _, _, h => by cases h
  | .list _ :: _, _, h => by cases h
  | .tuple _ :: _, _, h => by cases h
  | .dict _ :: _, _, h => by cases h
def sumI : List Int → Int
  | [] => 0
  | i :: r => i + sumI r
theorem sumI_eq : ∀ is : List Int, is.sum = sumI is
  | [] => rfl
  | i :: r => by rw [List.sum_cons, sumI_eq r]; rfl
def gSum : List D → Option D
  | [.list ds] => match toInts ds with
    | some is => fI (sumI is)
    | none => none
  | _ => none
theorem v_sum {K : PySem.W.Frag} : VCl K (rSum K) gSum := by
  intro G F H S xs dxs dz Q s r e q
  unfold gSum at e
  split at e
  · split at e
    · rename_i is ei
      (try rw [fI_eq] at e); cases e
      cases r with | cons r1 r2 => cases r2 with | nil =>
      obtain ⟨p, vs, rfl, h, d⟩ := rdb_list r1
      rw [toInts_some ei] at d
      rw [d.ints_of] at h
      exact ⟨p, is, rfl, SqL.of h, by rw [sumI_eq]; exact same_v s (.int _) q⟩
    · (try rw [fI_eq] at e); cases e
  · (try rw [fI_eq] at e); cases e
def gAny : List D → Option D
  | [.list ds] => match toBools ds with
    | some is => some (.bool (is.any (fun b => b)))
    | none => none
  | _ => none
theorem v_any {K : PySem.W.Frag} : VCl K (rAny K) gAny := by
  intro G F H S xs dxs dz Q s r e q
  unfold gAny at e
  split at e
  · split at e
    · rename_i is ei
      (try rw [fI_eq] at e); cases e
      cases r with | cons r1 r2 => cases r2 with | nil =>
      obtain ⟨p, vs, rfl, h, d⟩ := rdb_list r1
      rw [toBools_some ei] at d
      rw [d.bools_of] at h
      exact ⟨p, is, rfl, SqL.of h, same_v s (.bl _) q⟩
    · (try rw [fI_eq] at e); cases e
  · (try rw [fI_eq] at e); cases e
def gAll : List D → Option D
  | [.list ds] => match toBools ds with
    | some is => some (.bool (is.all (fun b => b)))
    | none => none
  | _ => none
theorem v_all {K : PySem.W.Frag} : VCl K (rAll K) gAll := by
  intro G F H S xs dxs dz Q s r e q
  unfold gAll at e
  split at e
  · split at e
    · rename_i is ei
      (try rw [fI_eq] at e); cases e
      cases r with | cons r1 r2 => cases r2 with | nil =>
      obtain ⟨p, vs, rfl, h, d⟩ := rdb_list r1
      rw [toBools_some ei] at d
      rw [d.bools_of] at h
      exact ⟨p, is, rfl, SqL.of h, same_v s (.bl _) q⟩
    · (try rw [fI_eq] at e); cases e
  · (try rw [fI_eq] at e); cases e
def gTuple : List D → Option D
  | [.list ds] => some (.tuple ds)
  | [.tuple ds] => some (.tuple ds)
  | _ => none
theorem v_tuple {K : PySem.W.Frag} : VCl K (fun xs H Q => ∃ p ys, xs = [.ref p] ∧ ((SqL K H p ys ∧ ∀ l, H l = none → Q (.ref l) (upd H l (.tup ys))) ∨ (SqT K H p ys ∧ Q (.ref p) H))) gTuple := by
  intro G F H S xs dxs dz Q s r e q
  unfold gTuple at e
  split at e
  · (try rw [fI_eq] at e); cases e
    cases r with | cons r1 r2 => cases r2 with | nil =>
    obtain ⟨p, vs, rfl, h, d⟩ := rdb_list r1
    exact ⟨p, vs, rfl, .inl ⟨SqL.of h, fun l nl => new_tup s nl d q⟩⟩
  · (try rw [fI_eq] at e); cases e
    cases r with | cons r1 r2 => cases r2 with | nil =>
    obtain ⟨p, vs, rfl, h, d⟩ := rdb_tup r1
    exact ⟨p, vs, rfl, .inr ⟨h, same_v s (.tup h d) q⟩⟩
  · (try rw [fI_eq] at e); cases e
def gList : List D → Option (List D)
  | [.list ds] => some ds
  | [.tuple ds] => some ds
  | _ => none
theorem v_list {K : PySem.W.Frag} : VClF K (fun xs H Q => ∃ p ys, xs = [.ref p] ∧ (SqL K H p ys ∨ SqT K H p ys) ∧ ∀ l, H l = none → Q (.ref l) (upd H l (.lst ys))) gList := by
  intro G F H S xs dxs dz Q s r e q
  unfold gList at e
  split at e
  · (try rw [fI_eq] at e); cases e
    cases r with | cons r1 r2 => cases r2 with | nil =>
    obtain ⟨p, vs, rfl, h, d⟩ := rdb_seq (.inl r1)
    exact ⟨p, vs, rfl, h, fun l nl => q l vs nl d⟩
  · (try rw [fI_eq] at e); cases e
    cases r with | cons r1 r2 => cases r2 with | nil =>
    obtain ⟨p, vs, rfl, h, d⟩ := rdb_seq (.inr r1)
    exact ⟨p, vs, rfl, h, fun l nl => q l vs nl d⟩
  · (try rw [fI_eq] at e); cases e
/-! the rules by name -/
theorem de_len (hg : Gl X "len") (hm : X.mg "len" = none) (ha : DB X G e fe) (hs : starEach [e] X.env = (false, eval e X.env) :: starEach [] X.env := by rfl) : DE X G (.Call (.Name "len" p) [e] [] pos) (mCB gLen (mCons fe mNil)) :=
  de_callB call_len_seq v_len hg hm PySem.boot_len (dbs_cons ha dbs_nil hs) (he := hs)
theorem de_abs (hg : Gl X "abs") (hm : X.mg "abs" = none) (ha : DB X G e fe) (hs : starEach [e] X.env = (false, eval e X.env) :: starEach [] X.env := by rfl) : DE X G (.Call (.Name "abs" p) [e] [] pos) (mCB gAbs (mCons fe mNil)) :=
  de_callB call_abs v_abs hg hm (by decide +kernel) (dbs_cons ha dbs_nil hs) (he := hs)
theorem de_intc (hg : Gl X "int") (hm : X.mg "int" = none) (ha : DB X G e fe) (hs : starEach [e] X.env = (false, eval e X.env) :: starEach [] X.env := by rfl) : DE X G (.Call (.Name "int" p) [e] [] pos) (mCB gInt (mCons fe mNil)) :=
  de_callTy call_int1 v_int hg hm (by decide +kernel) (dbs_cons ha dbs_nil hs) (he := hs)
theorem de_sum (hc : X.calm = true) (hg : Gl X "sum") (hm : X.mg "sum" = none) (ha : DB X G e fe) (hs : starEach [e] X.env = (false, eval e X.env) :: starEach [] X.env := by rfl) : DE X G (.Call (.Name "sum" p) [e] [] pos) (mCB gSum (mCons fe mNil)) :=
  de_callB (cr_sum hc) v_sum hg hm (by decide +kernel) (dbs_cons ha dbs_nil hs) (he := hs)
theorem de_any (hc : X.calm = true) (hg : Gl X "any") (hm : X.mg "any" = none) (ha : DB X G e fe) (hs : starEach [e] X.env = (false, eval e X.env) :: starEach [] X.env := by rfl) : DE X G (.Call (.Name "any" p) [e] [] pos) (mCB gAny (mCons fe mNil)) :=
  de_callB (cr_any hc) v_any hg hm (by decide +kernel) (dbs_cons ha dbs_nil hs) (he := hs)
theorem de_all (hc : X.calm = true) (hg : Gl X "all") (hm : X.mg "all" = none) (ha : DB X G e fe) (hs : starEach [e] X.env = (false, eval e X.env) :: starEach [] X.env := by rfl) : DE X G (.Call (.Name "all" p) [e] [] pos) (mCB gAll (mCons fe mNil)) :=
  de_callB (cr_all hc) v_all hg hm (by decide +kernel) (dbs_cons ha dbs_nil hs) (he := hs)
theorem de_tuplec (hg : Gl X "tuple") (hm : X.mg "tuple" = none) (ha : DB X G e fe) (hs : starEach [e] X.env = (false, eval e X.env) :: starEach [] X.env := by rfl) : DE X G (.Call (.Name "tuple" p) [e] [] pos) (mCB gTuple (mCons fe mNil)) :=
  de_callTy call_tuple_of v_tuple hg hm (by decide +kernel) (dbs_cons ha dbs_nil hs) (he := hs)
theorem df_listc (hg : Gl X "list") (hm : X.mg "list" = none) (ha : DB X G e fe) (hs : starEach [e] X.env = (false, eval e X.env) :: starEach [] X.env := by rfl) : DF X G (.Call (.Name "list" p) [e] [] pos) (mCBF gList (mCons fe mNil)) :=
  df_callTy call_list_of v_list hg hm (by decide +kernel) (dbs_cons ha dbs_nil hs) (he := hs)
variable {e' : Expr} {fe' : EvE}
theorem de_max2 (hc : X.calm = true) (hg : Gl X "max") (hm : X.mg "max" = none) (ha : DB X G e fe) (hb : DB X G e' fe') (hs : starEach [e, e'] X.env = (false, eval e X.env) :: starEach [e'] X.env := by rfl) (hs' : starEach [e'] X.env = (false, eval e' X.env) :: starEach [] X.env := by rfl)
    (hpl : (backTo pos (starEach [e'] X.env)).any (·.1) = false := by rfl) : DE X G (.Call (.Name "max" p) [e, e'] [] pos) (mCB gMax2 (mCons fe (mCons fe' mNil))) :=
  de_callB (call_max2 hc) v_max2 hg hm (by decide +kernel) (dbs_cons ha (dbs_cons hb dbs_nil hs') hs) (he := hs) (hpl := hpl)
theorem de_min2 (hc : X.calm = true) (hg : Gl X "min") (hm : X.mg "min" = none) (ha : DB X G e fe) (hb : DB X G e' fe') (hs : starEach [e, e'] X.env = (false, eval e X.env) :: starEach [e'] X.env := by rfl) (hs' : starEach [e'] X.env = (false, eval e' X.env) :: starEach [] X.env := by rfl)
    (hpl : (backTo pos (starEach [e'] X.env)).any (·.1) = false := by rfl) : DE X G (.Call (.Name "min" p) [e, e'] [] pos) (mCB gMin2 (mCons fe (mCons fe' mNil))) :=
  de_callB (call_min2 hc) v_min2 hg hm (by decide +kernel) (dbs_cons ha (dbs_cons hb dbs_nil hs') hs) (he := hs) (hpl := hpl)
theorem de_gcd (hg : Gl X "gcd") (hm : X.mg "gcd" = some (.builtin "math.gcd")) (ha : DB X G e fe) (hb : DB X G e' fe') (hs : starEach [e, e'] X.env = (false, eval e X.env) :: starEach [e'] X.env := by rfl) (hs' : starEach [e'] X.env = (false, eval e' X.env) :: starEach [] X.env := by rfl)
    (hpl : (backTo pos (starEach [e'] X.env)).any (·.1) = false := by rfl) : DE X G (.Call (.Name "gcd" p) [e, e'] [] pos) (mCB gGcd (mCons fe (mCons fe' mNil))) :=
  ⟨(pe_callBfun cr_gcd hg hm (dbs_cons ha (dbs_cons hb dbs_nil hs') hs).pa (he := hs) (hpl := hpl)).impD fun _ _ _ h => cb_of v_gcd h⟩
end
end DL
set_option maxHeartbeats 1000000
namespace DL
open PySem PySem.Spec PyProof.Rows L2

/-! ### *e in displays -/
def mStar (a : EvE) (b : EvA) : EvA := fun env S => match a env S with
  | some (.list xs, S1) => match b env S1 with
    | some (ys, S2) => some (xs ++ ys, S2)
    | none => none
  | some (.tuple xs, S1) => match b env S1 with
    | some (ys, S2) => some (xs ++ ys, S2)
    | none => none
  | _ => none
section
variable {X : Cx} {G : Gh} {pos p : Pos} {e : Expr} {es : List Expr} {fe : EvE} {fs : EvA}
theorem da_star (ha : DB X G e fe) (hr : DA X G es fs) (hs : starEach (.Starred e p :: es) X.env = (true, eval e X.env) :: starEach es X.env := by rfl) : DA X G (.Starred e p :: es) (mStar fe fs) := by
  refine ⟨(StX.pa_star ha.pe hr.pa hs).impD ?_⟩
  rintro σ H Q ⟨FB, HB, F, env, S, d, S', R, e, q⟩
  unfold mStar at e
  split at e
  · rename_i xs S1 e1
    split at e
    · rename_i ys S2 e2
      cases e
      refine ⟨FB, HB, F, env, S, _, S1, R, e1, fun vx F1 H1 A1 s1 dx _ => ?_⟩
      obtain ⟨p, vs, rfl, h, d⟩ := rdb_list dx
      exact ⟨p, vs, rfl, .inr (SqL.of h), FB, HB, F1, env, S1, ys, _, R.after A1 s1, e2, fun ws F2 H2 A2 s2 dw => q _ F2 H2 (A1.trans A2) s2 ((d.mono (A2.lat s1)).append dw)⟩
    · cases e
  · rename_i xs S1 e1
    split at e
    · rename_i ys S2 e2
      cases e
      refine ⟨FB, HB, F, env, S, _, S1, R, e1, fun vx F1 H1 A1 s1 dx _ => ?_⟩
      obtain ⟨p, vs, rfl, h, d⟩ := rdb_tup dx
      exact ⟨p, vs, rfl, .inl h, FB, HB, F1, env, S1, ys, _, R.after A1 s1, e2, fun ws F2 H2 A2 s2 dw => q _ F2 H2 (A1.trans A2) s2 ((d.mono (A2.lat s1)).append dw)⟩
    · cases e
  · cases e
end

/-! ### several names at once, some with lists of their own -/
def ownA : List Slot → List V → List Addr
  | [], _ => []
  | .own _ :: ss, .ref p :: vs => p :: ownA ss vs
  | _ :: ss, _ :: vs => ownA ss vs
  | _ :: _, [] => []
inductive ItemsOk (K : PySem.W.Frag) (G : Gh) (H0 : Hp) (F : Addr → Prop) (H : Hp) : List Slot → List V → Prop
  | nil : ItemsOk K G H0 F H [] []
  | val {d : D} {v : V} {ss : List Slot} {vs : List V} : Den K F H v d → ItemsOk K G H0 F H ss vs → ItemsOk K G H0 F H (.val d :: ss) (v :: vs)
  | own {ds : List D} {p : Addr} {ws : List V} {ss : List Slot} {vs : List V} : H p = some (.lst ws) → DenL K F H ws ds → ¬ F p → ¬ G.isS p → H0 p = none → p ∉ ownA ss vs → ItemsOk K G H0 F H ss vs → ItemsOk K G H0 F H (.own ds :: ss) (.ref p :: vs)
def tXr (K : PySem.W.Frag) (G : Gh) (f : EvR) : TA := fun σ H Q => ∃ FB HB F env S d S', Rel K G FB HB F env S σ H ∧ f env S = some (d, S') ∧
  ∀ vs F' H', Aft G F H F' H' → SrcF G S' F' H' → ItemsOk K G H F' H' d vs → Q vs H'
structure DX (X : Cx) (G : Gh) (es : List Expr) (f : EvR) : Prop where
  pa : PA X es (tXr X.K G f)
def xOwn (a : EvA) (b : EvR) : EvR := fun env S => match a env S with
  | some (x, S1) => match b env S1 with
    | some (xs, S2) => some (.own x :: xs, S2)
    | none => none
  | none => none
theorem ItemsOk.length {K : PySem.W.Frag} {G : Gh} {H0 H : Hp} {F : Addr → Prop} : ∀ {ss : List Slot} {vs : List V}, ItemsOk K G H0 F H ss vs → ss.length = vs.length
  | _, _, .nil => rfl
  | _, _, .val _ r => congrArg (· + 1) r.length
  | _, _, .own _ _ _ _ _ _ r => congrArg (· + 1) r.length
theorem ItemsOk.back {K : PySem.W.Frag} {G : Gh} {H0 H1 H : Hp} {F : Addr → Prop} (h : ∀ p, H1 p = none → H0 p = none) : ∀ {ss : List Slot} {vs : List V}, ItemsOk K G H1 F H ss vs → ItemsOk K G H0 F H ss vs
  | _, _, .nil => .nil
  | _, _, .val a r => .val a (r.back h)
  | _, _, .own a b c d e f r => .own a b c d (h _ e) f (r.back h)
theorem ItemsOk.old {K : PySem.W.Frag} {G : Gh} {H0 H : Hp} {F : Addr → Prop} {p : Addr} (old : H0 p ≠ none) : ∀ {ss : List Slot} {vs : List V}, ItemsOk K G H0 F H ss vs → p ∉ ownA ss vs
  | _, _, .nil => by simp [ownA]
  | _, _, .val a r => by
    unfold ownA
    exact r.old old
  | _, _, .own (p := q) _ _ _ _ e _ r => by
    unfold ownA
    intro z
    rcases List.mem_cons.mp z with e' | z
    · subst e'; exact old e
    · exact r.old old z
def setAll : List Nat → List Slot → Env' → Env'
  | i :: is, s :: ss, env => setAll is ss (env.set i s)
  | _, _, env => env
def setAllV : List Nat → List V → L2.St → L2.St
  | i :: is, v :: vs, σ => setAllV is vs (σ.set i (some v))
  | _, _, σ => σ
theorem Rel.setItems {K : PySem.W.Frag} {G : Gh} {FB F : Addr → Prop} {HB H0 H : Hp} {S : Src} (bk : ∀ p, H0 p = none → HB p = none) : ∀ {ss : List Slot} {vs : List V} (is : List Nat) {env : Env'} {σ : L2.St}, Rel K G FB HB F env S σ H → ItemsOk K G H0 F H ss vs →
    (∀ (j : Nat) (t : Slot), env[j]? = some t → isOwn t = true → ∀ p ∈ ownA ss vs, σ[j]? ≠ some (some (.ref p))) → Rel K G FB HB F (setAll is ss env) S (setAllV is vs σ) H
  | _, _, [], _, _, R, _, _ => by unfold setAll setAllV; exact R
  | _, _, i :: is, _, _, R, .nil, _ => R
  | .val d :: ss, v :: vs, i :: is, env, σ, R, .val a r, far => by
    unfold setAll setAllV
    refine Rel.setItems bk is (R.set a) r fun j t ej ot p hp => ?_
    rcases set_get ej with ⟨rfl, rfl, _⟩ | ⟨nj, fj⟩
    · cases ot
    · rw [List.getElem?_set_ne (Ne.symm nj)]
      exact far j t fj ot p (by unfold ownA; exact hp)
  | .own ds :: ss, .ref p :: vs, i :: is, env, σ, R, .own h d nf ns nb np r, far => by
    unfold setAll setAllV
    refine Rel.setItems bk is (R.setOwn h d nf ns (bk _ nb) fun j s ej os _ => far j s ej os p (by unfold ownA; exact List.mem_cons_self)) r fun j t ej ot q hq => ?_
    rcases set_get ej with ⟨rfl, rfl, hl⟩ | ⟨nj, fj⟩
    · rw [List.getElem?_set_self (by rw [← R.len]; exact hl)]
      intro z
      have : p = q := by injection z with z; injection z with z; injection z
      exact np (this ▸ hq)
    · rw [List.getElem?_set_ne (Ne.symm nj)]
      exact far j t fj ot q (by unfold ownA; exact List.mem_cons_of_mem _ hq)
theorem Rel.setItems' {K : PySem.W.Frag} {G : Gh} {FB F F1 : Addr → Prop} {HB H0 H : Hp} {S S' : Src} {ss : List Slot} {vs : List V} (is : List Nat) {env : Env'} {σ : L2.St} (R : Rel K G FB HB F env S σ H0) (A : Aft G F H0 F1 H) (s : SrcF G S' F1 H) (it : ItemsOk K G H0 F1 H ss vs) :
    Rel K G FB HB F1 (setAll is ss env) S' (setAllV is vs σ) H := by
  refine Rel.setItems (H0 := H0) (fun p z => R.aft.none_of z) is (R.after A s) it fun j t ej ot p hp z => ?_
  obtain ⟨b, ob, e2, hb, _⟩ := R.addr_own ej ot
  rw [z] at e2
  have z' : p = b := by injection e2 with e2; injection e2 with e2; injection e2
  exact it.old (p := p) (by rw [z', hb]; exact fun z => nomatch z) hp
section
variable {X : Cx} {G : Gh} {pos p : Pos} {e : Expr} {es : List Expr} {fe : EvE} {fr : EvR} {fa : EvA}
theorem dx_nil : DX X G [] rNil := by
  refine ⟨pa_nil.impD ?_⟩
  rintro σ H Q ⟨FB, HB, F, env, S, d, S', R, e, q⟩
  cases e
  exact q [] F H (Aft.refl _ _ _) R.src .nil
theorem dx_val (ha : DE X G e fe) (hr : DX X G es fr) (hs : starEach (e :: es) X.env = (false, eval e X.env) :: starEach es X.env := by rfl) : DX X G (e :: es) (rVal fe fr) := by
  refine ⟨(pa_cons ha.pe hr.pa hs).impD ?_⟩
  rintro σ H Q ⟨FB, HB, F, env, S, d, S', R, e, q⟩
  unfold rVal at e
  split at e
  · rename_i x S1 e1
    split at e
    · rename_i xs S2 e2
      cases e
      refine ⟨FB, HB, F, env, S, x, S1, R, e1, fun vx F1 H1 A1 s1 dx => ?_⟩
      exact ⟨FB, HB, F1, env, S1, xs, _, R.after A1 s1, e2, fun vs F2 H2 A2 s2 dvs => q _ F2 H2 (A1.trans A2) s2 (.val (dx.mono (A2.lat s1)) (dvs.back fun p z => A1.none_of z))⟩
    · cases e
  · cases e
theorem dx_own (ha : DF X G e fa) (hr : DX X G es fr) (hs : starEach (e :: es) X.env = (false, eval e X.env) :: starEach es X.env := by rfl) : DX X G (e :: es) (xOwn fa fr) := by
  refine ⟨(pa_cons ha.pe hr.pa hs).impD ?_⟩
  rintro σ H Q ⟨FB, HB, F, env, S, d, S', R, e, q⟩
  unfold xOwn at e
  split at e
  · rename_i x S1 e1
    split at e
    · rename_i xs S2 e2
      cases e
      refine ⟨FB, HB, F, env, S, x, S1, R, e1, fun p ws F1 H1 A1 s1 np nf hp dx => ?_⟩
      have ns : ¬ G.isS p := fun z => R.src.there z np
      exact ⟨FB, HB, F1, env, S1, xs, _, R.after A1 s1, e2, fun vs F2 H2 A2 s2 dvs => q _ F2 H2 (A1.trans A2) s2
        (.own (A2.kp _ _ hp ns) (dx.mono (A2.lat s1)) (fun z => (A2.nw _ z).elim nf fun z => by rw [z] at hp; cases hp) ns np (dvs.old (by rw [hp]; exact fun z => nomatch z)) (dvs.back fun p z => A1.none_of z))⟩
    · cases e
  · cases e
def mSetN (is : List Nat) (f : EvR) : EvS := fun env S => match f env S with
  | some (ss, S1) => if ss.length = is.length then some (.nx (setAll is ss env), S1) else none
  | none => none
theorem len2 {α : Type} {l : List α} (h : l.length = 2) : ∃ a b, l = [a, b] := by
  match l, h with
  | [a, b], _ => exact ⟨a, b, rfl⟩
theorem len3 {α : Type} {l : List α} (h : l.length = 3) : ∃ a b c, l = [a, b, c] := by
  match l, h with
  | [a, b, c], _ => exact ⟨a, b, c, rfl⟩
theorem ds_par2 {x y : Str} {a b : Expr} {px py pt : Pos} {kt k2 pt2} (i j : Nat) (hc : X.calm = true) (hN : X.N.Nodup) (ha : DX X G [a, b] fr) (hij : i ≠ j := by decide) (hi : X.N[i]? = some x := by rfl) (hj : X.N[j]? = some y := by rfl)
    (hx : X.env.scope.names.lookup x = some .local := by rfl) (hy : X.env.scope.names.lookup y = some .local := by rfl)
    (hw : swappedStores [.Tuple [.Name x px, .Name y py] kt pt] (.Tuple [a, b] k2 pt2) X.env = pure (some [x, y]) := by rfl)
    (hs : swapsWithSole [.Tuple [.Name x px, .Name y py] kt pt] (.Tuple [a, b] k2 pt2) pos.line X.env = pure false := by rfl) :
    DS X G (.Assign [.Tuple [.Name x px, .Name y py] kt pt] (.Tuple [a, b] k2 pt2) pos) (mSetN [i, j] fr) := by
  refine ⟨(ps_par hc hN hi hj hij hx hy ha.pa hw hs).impD ?_⟩
  rintro D σ H ⟨FB, HB, F, env, S, r, S', R, e, q⟩
  unfold mSetN at e
  split at e
  · rename_i ss S1 e1
    split at e
    · rename_i hl
      cases e
      refine ⟨FB, HB, F, env, S, ss, _, R, e1, fun vs F1 H1 A1 s1 it => ?_⟩
      obtain ⟨v, w, rfl⟩ := len2 (it.length.symm.trans hl)
      exact ⟨v, w, rfl, q F1 _ H1 (R.setItems' [i, j] A1 s1 it) (A1.lat R.src)⟩
    · cases e
  · cases e
theorem ds_par3 {x y z : Str} {a b c : Expr} {px py pz pt : Pos} {kt k2 pt2} (i j l : Nat) (hc : X.calm = true) (hN : X.N.Nodup) (ha : DX X G [a, b, c] fr) (hij : i ≠ j := by decide) (hil : i ≠ l := by decide) (hjl : j ≠ l := by decide) (hi : X.N[i]? = some x := by rfl) (hj : X.N[j]? = some y := by rfl) (hl : X.N[l]? = some z := by rfl)
    (hx : X.env.scope.names.lookup x = some .local := by rfl) (hy : X.env.scope.names.lookup y = some .local := by rfl) (hz : X.env.scope.names.lookup z = some .local := by rfl)
    (hw : swappedStores [.Tuple [.Name x px, .Name y py, .Name z pz] kt pt] (.Tuple [a, b, c] k2 pt2) X.env = pure (some [x, y, z]) := by rfl)
    (hs : swapsWithSole [.Tuple [.Name x px, .Name y py, .Name z pz] kt pt] (.Tuple [a, b, c] k2 pt2) pos.line X.env = pure false := by rfl) :
    DS X G (.Assign [.Tuple [.Name x px, .Name y py, .Name z pz] kt pt] (.Tuple [a, b, c] k2 pt2) pos) (mSetN [i, j, l] fr) := by
  refine ⟨(ps_par3 hc hN hi hj hl hij hil hjl hx hy hz ha.pa hw hs).impD ?_⟩
  rintro D σ H ⟨FB, HB, F, env, S, r, S', R, e, q⟩
  unfold mSetN at e
  split at e
  · rename_i ss S1 e1
    split at e
    · rename_i hl
      cases e
      refine ⟨FB, HB, F, env, S, ss, _, R, e1, fun vs F1 H1 A1 s1 it => ?_⟩
      obtain ⟨u, v, w, rfl⟩ := len3 (it.length.symm.trans hl)
      exact ⟨u, v, w, rfl, q F1 _ H1 (R.setItems' [i, j, l] A1 s1 it) (A1.lat R.src)⟩
    · cases e
  · cases e
/-- names as targets, one after another -/
def gNames : List Nat → TGs
  | [] => gNil
  | i :: is => gCons (gName i) (gNames is)
structure PNs (X : Cx) (es : List Expr) (is : List Nat) : Prop where
  pg : PGs X es (gNames is)
theorem pn_nil : PNs X [] [] := ⟨pgs_nil⟩
theorem pn_cons {x : Str} {is : List Nat} {q : Pos} (i : Nat) (hr : PNs X es is) (hN : X.N.Nodup) (hi : X.N[i]? = some x := by rfl) (hx : Loc X.env.scope x := by first | exact Or.inl rfl | exact Or.inr rfl) (hf : X.fn x = true ∨ X.env.scope.names.lookup x = some .local := by first | exact .inl rfl | exact .inr rfl)
    (hs : (assignEach (.Name x q :: es) X.env).map (·.2) = assign (.Name x q) X.env :: (assignEach es X.env).map (·.2) := by rfl) : PNs X (.Name x q :: es) (i :: is) := ⟨pgs_cons (pg_name hN hi hx hf) hr.pg hs⟩
theorem gNames_of : ∀ (is : List Nat) (vs : List V) (σ : L2.St) (H : Hp) (Q : L2.St → Hp → Prop), vs.length = is.length → Q (setAllV is vs σ) H → gNames is vs σ H Q
  | [], [], σ, H, Q, _, q => ⟨rfl, q⟩
  | i :: is, v :: vs, σ, H, Q, h, q => ⟨v, vs, rfl, gNames_of is vs (σ.set i (some v)) H Q (by simpa using h) q⟩
  | [], _ :: _, _, _, _, h, _ => by simp at h
  | _ :: _, [], _, _, _, h, _ => by simp at h
/-- a, b, .. = (x, y, ..), by way of the tuple -/
theorem ds_parT {ts : List Expr} {pt : Pos} {kt k2 pt2} (is : List Nat) (hc : X.calm = true) (hp : PNs X ts is) (ha : DX X G es fr) (hle : is.length ≤ line := by decide) (hn : (assignEach ts X.env).length = is.length := by rfl) (hst : (assignEach ts X.env).findIdx? (·.1) = none := by rfl)
    (hs : swapsWithSole [.Tuple ts kt pt] (.Tuple es k2 pt2) pos.line X.env = pure false := by rfl) (hw : swappedStores [.Tuple ts kt pt] (.Tuple es k2 pt2) X.env = pure none := by rfl)
    (h1 : (assignEach [.Tuple ts kt pt] X.env).map (·.2) = [assign (.Tuple ts kt pt) X.env] := by rfl) : DS X G (.Assign [.Tuple ts kt pt] (.Tuple es k2 pt2) pos) (mSetN is fr) := by
  refine ⟨(ps_asg (pe_tup ha.pa) (pg_tup hc hp.pg hn hst) hs hw h1).impD ?_⟩
  rintro D σ H ⟨FB, HB, F, env, S, r, S', R, e, q⟩
  unfold mSetN at e
  split at e
  · rename_i ss S1 e1
    split at e
    · rename_i hl
      cases e
      refine ⟨FB, HB, F, env, S, ss, _, R, e1, fun vs F1 H1 A1 s1 it => ?_⟩
      have lv : vs.length = is.length := it.length.symm.trans hl
      refine ⟨by rw [lv, ← line_eq]; exact hle, fun t nt => ⟨t, vs, rfl, SqT.of upd_same, lv, gNames_of is vs σ _ _ lv ?_⟩⟩
      have R1 := R.setItems' is A1 s1 it
      exact q F1 _ _ (R1.after (Aft.new nt) (s1.new nt)) ((A1.lat R.src).trans (Lat.new nt))
    · cases e
  · cases e
end

/-! ### lists of one's own are changed -/
def mAppend (i : Nat) (a : EvE) : EvS := fun env S => match a env S with
  | some (d, S1) => match env[i]? with
    | some (.own ds) => if ds.length < line then some (.nx (env.set i (.own (ds ++ [d]))), S1) else none
    | _ => none
  | none => none
def mExtend (i : Nat) (a : EvE) : EvS := fun env S => match a env S with
  | some (.list es, S1) => match env[i]? with
    | some (.own ds) => if ds.length + es.length ≤ line then some (.nx (env.set i (.own (ds ++ es))), S1) else none
    | _ => none
  | _ => none
def mSetIx (i : Nat) (a ix : EvE) : EvS := fun env S => match a env S with
  | some (d, S1) => match ix env S1 with
    | some (.int k, S2) => match env[i]? with
      | some (.own ds) => match ixN ds.length k with
        | some j => some (.nx (env.set i (.own (ds.set j d))), S2)
        | none => none
      | _ => none
    | _ => none
  | none => none
/-- from now on frozen -/
def mFreeze (i : Nat) (f : EvS) : EvS := fun env S => match env[i]? with
  | some (.own ds) => f (env.set i (.val (.list ds))) S
  | _ => f env S
section
variable {X : Cx} {G : Gh} {pos p apos : Pos} {e ix : Expr} {fe fi : EvE} {sts : List Stmt} {fs : EvS}
theorem Rel.own_at {K : PySem.W.Frag} {FB F : Addr → Prop} {HB H : Hp} {env : Env'} {S : Src} {σ : L2.St} (R : Rel K G FB HB F env S σ H) {i : Nat} {ds : List D} (e : env[i]? = some (.own ds)) :
    ∃ a vs, σ[i]? = some (some (.ref a)) ∧ H a = some (.lst vs) ∧ DenL K F H vs ds ∧ ¬ F a ∧ ¬ G.isS a ∧ HB a = none := R.slot _ _ e
theorem ds_append {x : Str} (i : Nat) (he : DE X G e fe) (hN : X.N[i]? = some x := by rfl) (hv : Vis X.env.scope x := by first | exact Or.inl rfl | exact Or.inr (Or.inl rfl) | exact Or.inr (Or.inr rfl)) (hs1 : starEach [e] X.env = (false, eval e X.env) :: starEach [] X.env := by rfl)
    (hbase : attributeBase (.Name x p) "append" X.env (eval (.Name x p) X.env) = eval (.Name x p) X.env := by rfl)
    (hfew : ((backTo pos (starEach (e :: []) X.env)).all (fun x => !x.1) && (backToKw pos (keywordEach [] X.env)).all (fun x => x.1.isSome)
      && decide ((e :: []).length + ([] : List Keyword).length + (if ([] : List Keyword).isEmpty then 0 else 1) < 30)) = true := by rfl)
    (hline : (apos.endLine == pos.line) = true := by rfl) (hs : swapsWith (.Call (.Attribute (.Name x p) "append" apos) [e] [] pos) none pos.line X.env = pure false := by rfl) (hd : (x == ("__debug__" : Str)) = false := by decide) (hcd : (x == ("__classdict__" : Str)) = false := by decide) :
    DS X G (.Expr (.Call (.Attribute (.Name x p) "append" apos) [e] [] pos) pos) (mAppend i fe) := by
  refine ⟨(ps_expr (pe_bm PySem.F.plainAttrs_list PySem.F.slot_list_append PySem.F.type_list_append mt_append (pe_var hN hv hd hcd) (pa_cons he.pe pa_nil hs1) hbase hfew hline hs1 rfl) hs).impD ?_⟩
  rintro D σ H ⟨FB, HB, F, env, S, r, S', R, e, q⟩
  unfold mAppend at e
  split at e
  · rename_i d S1 e1
    split at e
    · rename_i ds eo
      split at e
      · rename_i hl
        cases e
        obtain ⟨a, vs, ea, ha, dv, nf, ns, nb⟩ := R.own_at eo
        refine ⟨_, ea, .inl ⟨rfl, vs, SqL.of ha⟩, FB, HB, F, env, S, d, _, R, e1, fun v F1 H1 A1 s1 dd => ?_⟩
        have R1 := R.after A1 s1
        have ha1 := A1.kp _ _ ha ns
        obtain ⟨R2, L2'⟩ := R1.write (o := .lst (vs ++ [v])) (s' := .own (ds ++ [d])) eo rfl ea rfl fun L => ⟨a, _, rfl, upd_same, ((dv.mono (A1.lat R.src)).append (.cons dd .nil)).mono L, fun z => (A1.nw _ z).elim nf fun z => by (rw [z] at ha; cases ha), ns, nb⟩
        exact ⟨a, vs, v, rfl, rfl, ha1, by rw [dv.length, ← line_eq]; exact hl, q F1 σ _ R2 ((A1.lat R.src).trans L2')⟩
      · cases e
    · cases e
  · cases e
theorem ds_extend {x : Str} (i : Nat) (he : DB X G e fe) (hN : X.N[i]? = some x := by rfl) (hv : Vis X.env.scope x := by first | exact Or.inl rfl | exact Or.inr (Or.inl rfl) | exact Or.inr (Or.inr rfl)) (hs1 : starEach [e] X.env = (false, eval e X.env) :: starEach [] X.env := by rfl)
    (hbase : attributeBase (.Name x p) "extend" X.env (eval (.Name x p) X.env) = eval (.Name x p) X.env := by rfl)
    (hfew : ((backTo pos (starEach (e :: []) X.env)).all (fun x => !x.1) && (backToKw pos (keywordEach [] X.env)).all (fun x => x.1.isSome)
      && decide ((e :: []).length + ([] : List Keyword).length + (if ([] : List Keyword).isEmpty then 0 else 1) < 30)) = true := by rfl)
    (hline : (apos.endLine == pos.line) = true := by rfl) (hs : swapsWith (.Call (.Attribute (.Name x p) "extend" apos) [e] [] pos) none pos.line X.env = pure false := by rfl) (hd : (x == ("__debug__" : Str)) = false := by decide) (hcd : (x == ("__classdict__" : Str)) = false := by decide) :
    DS X G (.Expr (.Call (.Attribute (.Name x p) "extend" apos) [e] [] pos) pos) (mExtend i fe) := by
  refine ⟨(ps_expr (pe_bm PySem.F.plainAttrs_list PySem.F.slot_list_extend PySem.F.type_list_extend mt_extend (pe_var hN hv hd hcd) (pa_cons he.pe pa_nil hs1) hbase hfew hline hs1 rfl) hs).impD ?_⟩
  rintro D σ H ⟨FB, HB, F, env, S, r, S', R, e, q⟩
  unfold mExtend at e
  split at e
  · rename_i es S1 e1
    split at e
    · rename_i ds eo
      split at e
      · rename_i hl
        cases e
        obtain ⟨a, vs, ea, ha, dv, nf, ns, nb⟩ := R.own_at eo
        refine ⟨_, ea, .inl ⟨rfl, vs, SqL.of ha⟩, FB, HB, F, env, S, _, _, R, e1, fun v F1 H1 A1 s1 dd _ => ?_⟩
        obtain ⟨b, ws, rfl, hb, dw⟩ := rdb_list dd
        have R1 := R.after A1 s1
        have ha1 := A1.kp _ _ ha ns
        obtain ⟨R2, L2'⟩ := R1.write (o := .lst (vs ++ ws)) (s' := .own (ds ++ es)) eo rfl ea rfl fun L => ⟨a, _, rfl, upd_same, ((dv.mono (A1.lat R.src)).append dw).mono L, fun z => (A1.nw _ z).elim nf fun z => by (rw [z] at ha; cases ha), ns, nb⟩
        exact ⟨a, b, vs, ws, rfl, rfl, ha1, hb, by rw [dv.length, dw.length, ← line_eq]; exact hl, q F1 σ _ R2 ((A1.lat R.src).trans L2')⟩
      · cases e
    · cases e
  · cases e
theorem ds_setIx {x : Str} (i : Nat) (he : DE X G e fe) (hi : DE X G ix fi) (hN : X.N[i]? = some x := by rfl) (hv : Vis X.env.scope x := by first | exact Or.inl rfl | exact Or.inr (Or.inl rfl) | exact Or.inr (Or.inr rfl)) (hd : (x == ("__debug__" : Str)) = false := by decide) (hcd : (x == ("__classdict__" : Str)) = false := by decide)
    (hs : swapsWithSole [.Subscript (.Name x p) ix apos] e pos.line X.env = pure false := by rfl) (hw : swappedStores [.Subscript (.Name x p) ix apos] e X.env = pure none := by rfl)
    (h1 : (assignEach [.Subscript (.Name x p) ix apos] X.env).map (·.2) = [assign (.Subscript (.Name x p) ix apos) X.env] := by rfl)
    (ha : ∀ v, assign (.Subscript (.Name x p) ix apos) X.env v = (do
      let ov ← holding [v] (eval (.Name x p) X.env)
      let iv ← holding [v, ov] (eval ix X.env)
      standAt apos
      holding [v, ov, iv] (setItem ov iv v)
      release [v, ov, iv] []) := by intro _; rfl) : DS X G (.Assign [.Subscript (.Name x p) ix apos] e pos) (mSetIx i fe fi) := by
  refine ⟨(ps_asg he.pe (pg_sub (pe_var hN hv hd hcd) hi.pe set_list ha) hs hw h1).impD ?_⟩
  rintro D σ H ⟨FB, HB, F, env, S, r, S', R, e, q⟩
  unfold mSetIx at e
  split at e
  · rename_i d S1 e1
    split at e
    · rename_i k S2 e2
      split at e
      · rename_i ds eo
        split at e
        · rename_i j ej
          cases e
          obtain ⟨a, vs, ea, ha, dv, nf, ns, nb⟩ := R.own_at eo
          refine ⟨FB, HB, F, env, S, d, S1, R, e1, fun v F1 H1 A1 s1 dd => ⟨_, ea, FB, HB, F1, env, S1, _, _, R.after A1 s1, e2, fun w F2 H2 A2 s2 dw => ?_⟩⟩
          cases dw
          have R2 := (R.after A1 s1).after A2 s2
          have A := A1.trans A2
          have ha2 := A.kp _ _ ha ns
          obtain ⟨R3, L3⟩ := R2.write (o := .lst (vs.set j v)) (s' := .own (ds.set j d)) eo rfl ea rfl fun L => ⟨a, _, rfl, upd_same, (DenL.set (dd.mono (A2.lat s1)) j (dv.mono (A.lat R.src))).mono L, fun z => (A.nw _ z).elim nf fun z => by (rw [z] at ha; cases ha), ns, nb⟩
          exact ⟨a, vs, k, j, rfl, rfl, ha2, by rw [dv.length]; exact ej, q F2 σ _ R3 ((A.lat R.src).trans L3)⟩
        · cases e
      · cases e
    · cases e
  · cases e
theorem dss_freeze (i : Nat) (h : DSs X G sts fs) : DSs X G sts (mFreeze i fs) := by
  refine ⟨h.ps.impD ?_⟩
  rintro D σ H ⟨FB, HB, F, env, S, r, S', R, e, q⟩
  unfold mFreeze at e
  split at e
  · rename_i ds eo
    obtain ⟨a, vs, ea, ha, dv, nf, ns, nb⟩ := R.own_at eo
    have L : Lat F H (withF F a) H := ⟨fun _ h => .inl h, fun _ _ h _ => h⟩
    refine ⟨FB, HB, withF F a, env.set i (.val (.list ds)), S, r, S', ⟨R.src.freeze ns (by rw [ha]; exact fun z => nomatch z), R.srcB, ⟨fun b f => .inl (R.aft.up b f), fun b f => f.elim (R.aft.nw b) fun e => .inr (by rw [e]; exact nb), R.aft.kp, R.aft.nf⟩, by simp [R.len], fun j t ej => ?_, fun j k s t ej ek os ot ne => ?_⟩, e, q.later L⟩
    · rcases set_get ej with ⟨rfl, rfl, hl⟩ | ⟨nj, fj⟩
      · exact ⟨_, ea, .lst (.inr rfl) ha (dv.mono L)⟩
      · have so := R.slot j t fj
        cases t with
        | no => trivial
        | val d => obtain ⟨v, e, h⟩ := so; exact ⟨v, e, h.mono L⟩
        | own es =>
          obtain ⟨p, ws, e, h, d, n1, n2⟩ := so
          exact ⟨p, ws, e, h, d.mono L, fun z => z.elim n1 fun z => R.apart j i _ _ fj eo rfl rfl nj (by rw [e, ea, z]), n2⟩
        | ownD es =>
          obtain ⟨p, e, h, n1, n2⟩ := so
          exact ⟨p, e, h.elim (fun ⟨kvs, h, d⟩ => .inl ⟨kvs, h, d.mono L⟩) (fun ⟨kvs, h, d⟩ => .inr ⟨kvs, h, d.mono L⟩), fun z => z.elim n1 fun z => R.apart j i _ _ fj eo rfl rfl nj (by rw [e, ea, z]), n2⟩
        | src => exact so
        | cells => exact so
    · rcases set_get ej with ⟨rfl, rfl, _⟩ | ⟨nj, fj⟩
      · cases os
      · rcases set_get ek with ⟨rfl, rfl, _⟩ | ⟨nk, fk⟩
        · cases ot
        · exact R.apart j k s t fj fk os ot ne
  · exact ⟨FB, HB, F, env, S, r, S', R, e, q⟩
end
end DL
set_option maxHeartbeats 1000000
namespace DL
open PySem PySem.Spec PyProof.Rows L2

/-! ### the source of drawn numbers, by its four keys -/
inductive Fd where
  | left | mixed | turn
def Fd.name : Fd → Str
  | .left => "left"
  | .mixed => "mixed"
  | .turn => "turn"
def Fd.get : Fd → Src → Int
  | .left, S => S.left
  | .mixed, S => S.mixed
  | .turn, S => S.turn
def Fd.put : Fd → Src → Int → Src
  | .left, S, v => { S with left := v }
  | .mixed, S, v => { S with mixed := v }
  | .turn, S, v => { S with turn := v }
theorem srcK_val (ca : Addr) (S : Src) (f : Fd) : valV (srcK ca S) (.inr f.name) = some (.int (f.get S)) := by
  cases f <;> rfl
theorem srcK_cells (ca : Addr) (S : Src) : valV (srcK ca S) (.inr "cells") = some (.ref ca) := rfl
theorem srcK_put (ca : Addr) (S : Src) (f : Fd) (v : Int) : putK (srcK ca S) (.inr f.name) (.int v) = srcK ca (f.put S v) := by
  cases f <;> rfl
section
variable {K : PySem.W.Frag} {G : Gh} {FB F : Addr → Prop} {HB H : Hp} {env : Env'} {S S' : Src} {σ : L2.St} {q : Addr × Addr}
/-- the source's objects are written -/
theorem Rel.srcWrite (R : Rel K G FB HB F env S σ H) (hq : G.src = some q) {a : Addr} {o : HO} (ha : a = q.1 ∨ a = q.2) (new : SrcOk G S' (upd H a o)) : Rel K G FB HB F env S' σ (upd H a o) ∧ Lat F H F (upd H a o) := by
  have is : G.isS a := ⟨q, hq, ha⟩
  have nF := R.src.nf a is
  obtain ⟨u, hu, mu⟩ : ∃ u, H a = some u ∧ Mut (some u) := by
    obtain ⟨h1, h2⟩ := R.src.ok q hq
    rcases ha with rfl | rfl
    · exact ⟨_, h1, trivial⟩
    · exact ⟨_, h2, trivial⟩
  have L : Lat F H F (upd H a o) := Lat.write hu mu nF
  refine ⟨⟨⟨new, R.src.nf, fun b f => upd_there (R.src.th b f)⟩, R.srcB, ⟨R.aft.up, R.aft.nw, fun b u h s => ?_, fun b s h => upd_there (R.aft.nf b s h)⟩, R.len, fun j t ej => ?_, R.apart⟩, L⟩
  · rw [upd_ne (fun e => s (by rw [e]; exact is))]; exact R.aft.kp b u h s
  · have so := R.slot j t ej
    cases t with
    | no => trivial
    | val d => obtain ⟨v, e, h⟩ := so; exact ⟨v, e, h.mono L⟩
    | own ds =>
      obtain ⟨p, vs, e, h, d, n1, n2, n3⟩ := so
      exact ⟨p, vs, e, by rw [upd_ne (fun z => n2 (by rw [z]; exact is))]; exact h, d.mono L, n1, n2, n3⟩
    | ownD es =>
      obtain ⟨p, e, h, n1, n2, n3⟩ := so
      have np : p ≠ a := fun z => n2 (by rw [z]; exact is)
      exact ⟨p, e, h.elim (fun ⟨kvs, h, d⟩ => .inl ⟨kvs, by rw [upd_ne np]; exact h, d.mono L⟩) (fun ⟨kvs, h, d⟩ => .inr ⟨kvs, by rw [upd_ne np]; exact h, d.mono L⟩), n1, n2, n3⟩
    | src => exact so
    | cells => exact so
theorem SrcOk.put (h : SrcOk G S H) (hq : G.src = some q) (f : Fd) (v : Int) : SrcOk G (f.put S v) (upd H q.1 (.dK (srcK q.2 (f.put S v)))) := fun p hp => by
  rw [hq] at hp
  cases hp
  obtain ⟨h1, h2⟩ := h q hq
  refine ⟨upd_same, ?_⟩
  rw [upd_ne (ne_of h2 h1 (fun z => nomatch z)), h2]
  cases f <;> rfl
theorem SrcOk.pop (h : SrcOk G S H) (hq : G.src = some q) : SrcOk G { S with cells := S.cells.dropLast } (upd H q.2 (.lst (S.cells.dropLast.map V.int))) := fun p hp => by
  rw [hq] at hp
  cases hp
  obtain ⟨h1, h2⟩ := h q hq
  refine ⟨?_, upd_same⟩
  rw [upd_ne (ne_of h1 h2 (fun z => nomatch z)), h1]
  rfl
end
/-- source[field] -/
def mSrcGet (i : Nat) (f : Fd) : EvE := fun env S => match env[i]? with
  | some .src => some (.int (f.get S), S)
  | _ => none
def mSrcSet (i : Nat) (f : Fd) (a : EvE) : EvS := fun env S => match a env S with
  | some (.int v, S1) => match env[i]? with
    | some .src => some (.nx env, f.put S1 v)
    | _ => none
  | _ => none
def mCells (i j : Nat) : EvS := fun env S => match env[i]? with
  | some .src => some (.nx (env.set j .cells), S)
  | _ => none
def mLenCells (i : Nat) : EvE := fun env S => match env[i]? with
  | some .cells => some (.int S.cells.length, S)
  | _ => none
/-- source[field] = cells.pop() -/
def mSrcPop (i j : Nat) (f : Fd) : EvS := fun env S => match env[i]?, env[j]? with
  | some .src, some .cells => match S.cells.getLast? with
    | some c => some (.nx env, f.put { S with cells := S.cells.dropLast } c)
    | none => none
  | _, _ => none
section
variable {X : Cx} {G : Gh} {pos p p2 p3 p4 apos : Pos} {e : Expr} {fe : EvE}
theorem de_srcGet {k : Nat} {x : Str} {n : Nat} (i : Nat) (f : Fd) (hr : RoomG k X.A) (hN : X.N[i]? = some x := by rfl) (hv : Vis X.env.scope x := by first | exact Or.inl rfl | exact Or.inr (Or.inl rfl) | exact Or.inr (Or.inr rfl)) (hd : (x == ("__debug__" : Str)) = false := by decide) (hcd : (x == ("__classdict__" : Str)) = false := by decide)
    (hs : NoSl (.Constant (.str f.name) n p2) := by exact fun _ _ => rfl) : DE X G (.Subscript (.Name x p) (.Constant (.str f.name) n p2) pos) (mSrcGet i f) := by
  refine ⟨(pe_dget (by have := hr.u64; omega) (pe_var hN hv hd hcd) pe_str hs).impD ?_⟩
  rintro σ H Q ⟨FB, HB, F, env, S, d, S', R, e, q⟩
  unfold mSrcGet at e
  split at e
  · rename_i eo
    cases e
    obtain ⟨p, hp, ev⟩ := R.slot _ _ eo
    obtain ⟨h1, h2⟩ := R.src.ok p hp
    have g := DGet.k (k := .inr f.name) h1
    rw [srcK_val] at g
    exact ⟨_, ev, p.1, .int (f.get S), rfl, g, q _ F H (Aft.refl _ _ _) R.src (.int _)⟩
  · cases e
theorem ds_srcSet {k : Nat} {x : Str} {n : Nat} (i : Nat) (f : Fd) (hr : RoomG k X.A) (he : DE X G e fe) (hN : X.N[i]? = some x := by rfl) (hv : Vis X.env.scope x := by first | exact Or.inl rfl | exact Or.inr (Or.inl rfl) | exact Or.inr (Or.inr rfl)) (hd : (x == ("__debug__" : Str)) = false := by decide) (hcd : (x == ("__classdict__" : Str)) = false := by decide)
    (hs : swapsWith e (some (.Subscript (.Name x p) (.Constant (.str f.name) n p2) apos)) pos.line X.env = pure false := by rfl) : DS X G (.Assign [.Subscript (.Name x p) (.Constant (.str f.name) n p2) apos] e pos) (mSrcSet i f fe) := by
  refine ⟨(ps_dput (by have := hr.u64; omega) (pe_var hN hv hd hcd) pe_str he.pe hs).impD ?_⟩
  rintro D σ H ⟨FB, HB, F, env, S, r, S', R, e, q⟩
  unfold mSrcSet at e
  split at e
  · rename_i v S1 e1
    split at e
    · rename_i eo
      cases e
      refine ⟨FB, HB, F, env, S, _, S1, R, e1, fun w F1 H1 A1 s1 dw => ?_⟩
      cases dw
      have R1 := R.after A1 s1
      obtain ⟨p, hp, ev⟩ := R1.slot _ _ eo
      obtain ⟨h1, h2⟩ := R1.src.ok p hp
      have g := DPut.k (k := .inr f.name) (v := .int v) h1 (by rw [← line_eq]; show 4 < 16777216; decide)
      rw [srcK_put] at g
      obtain ⟨R2, L2'⟩ := R1.srcWrite hp (.inl rfl) (R1.src.ok.put hp f v)
      exact ⟨_, ev, p.1, _, rfl, g, q F1 σ _ R2 ((A1.lat R.src).trans L2')⟩
    · cases e
  · cases e
theorem Rel.setCells {K : PySem.W.Frag} {FB F : Addr → Prop} {HB H : Hp} {env : Env'} {S : Src} {σ : L2.St} (r : Rel K G FB HB F env S σ H) {j : Nat} {q : Addr × Addr} (hq : G.src = some q) : Rel K G FB HB F (env.set j .cells) S (σ.set j (some (.ref q.2))) H := by
  refine ⟨r.src, r.srcB, r.aft, by simp [r.len], fun k t e => ?_, fun k l s t ek el os ot ne => ?_⟩
  · rcases set_get e with ⟨rfl, rfl, hl⟩ | ⟨ne, e⟩
    · exact ⟨q, hq, by rw [List.getElem?_set_self (by rw [← r.len]; exact hl)]⟩
    · rw [List.getElem?_set_ne (Ne.symm ne)]; exact r.slot k t e
  · rcases set_get ek with ⟨rfl, rfl, _⟩ | ⟨nk, fk⟩
    · cases os
    · rcases set_get el with ⟨rfl, rfl, _⟩ | ⟨nl, fl⟩
      · cases ot
      · rw [List.getElem?_set_ne (Ne.symm nk), List.getElem?_set_ne (Ne.symm nl)]; exact r.apart k l s t fk fl os ot ne
theorem ds_cells {k : Nat} {x y : Str} {n : Nat} (i j : Nat) (hr : RoomG k X.A) (hnd : X.N.Nodup) (hN : X.N[i]? = some x := by rfl) (hv : Vis X.env.scope x := by first | exact Or.inl rfl | exact Or.inr (Or.inl rfl) | exact Or.inr (Or.inr rfl)) (hd : (x == ("__debug__" : Str)) = false := by decide) (hcd : (x == ("__classdict__" : Str)) = false := by decide)
    (hi : X.N[j]? = some y := by rfl) (hx : Loc X.env.scope y := by first | exact Or.inl rfl | exact Or.inr rfl) (hs : swapsWith (.Subscript (.Name x p) (.Constant (.str "cells") n p2) p3) (some (.Name y p4)) pos.line X.env = pure false := by rfl)
    (hf : X.fn y = true ∨ X.env.scope.names.lookup y = some .local := by exact .inl rfl) (hns : NoSl (.Constant (.str "cells") n p2) := by exact fun _ _ => rfl) : DS X G (.Assign [.Name y p4] (.Subscript (.Name x p) (.Constant (.str "cells") n p2) p3) pos) (mCells i j) := by
  refine ⟨(ps_set hnd hi hx (pe_dget (by have := hr.u64; omega) (pe_var hN hv hd hcd) pe_str hns) hs hf).impD ?_⟩
  rintro D σ H ⟨FB, HB, F, env, S, r, S', R, e, q⟩
  unfold mCells at e
  split at e
  · rename_i eo
    cases e
    obtain ⟨p, hp, ev⟩ := R.slot _ _ eo
    obtain ⟨h1, h2⟩ := R.src.ok p hp
    have g := DGet.k (k := .inr "cells") h1
    rw [srcK_cells] at g
    exact ⟨_, ev, p.1, .ref p.2, rfl, g, q F _ H (R.setCells hp) (Lat.refl _ _)⟩
  · cases e
theorem de_lenCells {x : Str} (i : Nat) (hg : Gl X "len") (hm : X.mg "len" = none) (hN : X.N[i]? = some x := by rfl) (hv : Vis X.env.scope x := by first | exact Or.inl rfl | exact Or.inr (Or.inl rfl) | exact Or.inr (Or.inr rfl)) (hd : (x == ("__debug__" : Str)) = false := by decide) (hcd : (x == ("__classdict__" : Str)) = false := by decide)
    (hs : starEach [.Name x p2] X.env = (false, eval (.Name x p2) X.env) :: starEach [] X.env := by rfl) : DE X G (.Call (.Name "len" p) [.Name x p2] [] pos) (mLenCells i) := by
  refine ⟨(pe_callB call_len_seq hg hm PySem.boot_len (pa_cons (pe_var hN hv hd hcd) pa_nil hs) (he := hs)).impD ?_⟩
  rintro σ H Q ⟨FB, HB, F, env, S, d, S', R, e, q⟩
  unfold mLenCells at e
  split at e
  · rename_i eo
    cases e
    obtain ⟨p, hp, ev⟩ := R.slot _ _ eo
    obtain ⟨h1, h2⟩ := R.src.ok p hp
    exact ⟨_, ev, p.2, _, rfl, .inl (SqL.of h2), by rw [List.length_map]; exact q _ F H (Aft.refl _ _ _) R.src (.int _)⟩
  · cases e
theorem ds_srcPop {k : Nat} {x y : Str} {n : Nat} {q1 q2 : Pos} (i j : Nat) (f : Fd) (hr : RoomG k X.A) (hN : X.N[i]? = some x := by rfl) (hv : Vis X.env.scope x := by first | exact Or.inl rfl | exact Or.inr (Or.inl rfl) | exact Or.inr (Or.inr rfl)) (hd : (x == ("__debug__" : Str)) = false := by decide) (hcd : (x == ("__classdict__" : Str)) = false := by decide)
    (hM : X.N[j]? = some y := by rfl) (hw : Vis X.env.scope y := by first | exact Or.inl rfl | exact Or.inr (Or.inl rfl) | exact Or.inr (Or.inr rfl)) (hd' : (y == ("__debug__" : Str)) = false := by decide) (hcd' : (y == ("__classdict__" : Str)) = false := by decide)
    (hbase : attributeBase (.Name y q1) "pop" X.env (eval (.Name y q1) X.env) = eval (.Name y q1) X.env := by rfl) (hline : (q2.endLine == p4.line) = true := by rfl)
    (hs : swapsWith (.Call (.Attribute (.Name y q1) "pop" q2) [] [] p4) (some (.Subscript (.Name x p) (.Constant (.str f.name) n p2) apos)) pos.line X.env = pure false := by rfl) :
    DS X G (.Assign [.Subscript (.Name x p) (.Constant (.str f.name) n p2) apos] (.Call (.Attribute (.Name y q1) "pop" q2) [] [] p4) pos) (mSrcPop i j f) := by
  refine ⟨(ps_dput (by have := hr.u64; omega) (pe_var hN hv hd hcd) pe_str (pe_bm0 PySem.F.plainAttrs_list PySem.F.slot_list_pop PySem.F.type_list_pop mt_pop (pe_var hM hw hd' hcd') hbase hline) hs).impD ?_⟩
  rintro D σ H ⟨FB, HB, F, env, S, r, S', R, e, q⟩
  unfold mSrcPop at e
  split at e
  · rename_i e1 e2
    split at e
    · rename_i c hc
      cases e
      obtain ⟨p, hp, ev⟩ := R.slot _ _ e1
      obtain ⟨p', hp', ew⟩ := R.slot _ _ e2
      rw [hp] at hp'
      cases hp'
      obtain ⟨h1, h2⟩ := R.src.ok p hp
      refine ⟨_, ew, .inl ⟨rfl, _, SqL.of h2⟩, p.2, _, .int c, rfl, rfl, h2, ?_, ?_⟩
      · rw [List.getLast?_eq_getElem?] at hc
        rw [List.length_map, List.getElem?_map, hc]; rfl
      · have em : (S.cells.map V.int).dropLast = S.cells.dropLast.map V.int := by
          rw [List.map_dropLast]
        rw [em]
        obtain ⟨R1, L1⟩ := R.srcWrite hp (.inr rfl) (R.src.ok.pop hp)
        obtain ⟨g1, g2⟩ := R1.src.ok p hp
        have g := DPut.k (k := .inr f.name) (v := .int c) g1 (by rw [← line_eq]; show 4 < 16777216; decide)
        rw [srcK_put] at g
        obtain ⟨R2, L2'⟩ := R1.srcWrite hp (.inl rfl) (R1.src.ok.put hp f c)
        exact ⟨_, ev, p.1, _, rfl, g, q F σ _ R2 (L1.trans L2')⟩
    · cases e
  · cases e
end
end DL
set_option maxHeartbeats 1000000
namespace DL
open PySem PySem.Spec PyProof.Rows L2

/-- what opening the cells promises -/
def spOpen (K : PySem.W.Frag) : SpG := fun vs H Q => ∃ (a : Addr) (ns : List Int), vs = [.ref a] ∧ SqL K H a (ns.map V.int) ∧ ns.length ≤ 63 ∧
  ∀ H' p c S, S.cells.length ≤ 63 → Same H H' → H p = none → H c = none → p ≠ c → H' p = some (.dK (srcK c S)) → H' c = some (.lst (S.cells.map V.int)) → Q (.ref p) H'
def spLaw (K : PySem.W.Frag) : SpG := fun vs H Q => ∃ (a : Addr) (ns : List Int), vs = [.ref a] ∧ SqL K H a (ns.map V.int) ∧ ns.length ≤ 63 ∧ ∀ H', Q (.bl true) H'
theorem dss_any {X : Cx} {rest : List Stmt} {b : EvS} (h : ∀ G, DSs X G rest b) : PSs X rest (fun D σ H => ∃ G, tSs X.K G b D σ H) := ⟨fun pins s σ H D I ⟨G, q⟩ => (h G).ps.run pins s σ H D I q⟩
/-- the names behind the first statement -/
def env0 (n : Nat) : Env' := .no :: .src :: List.replicate n .no
theorem law_go {K : PySem.W.Frag} {b : EvS} {N : List Str} {n : Nat} {a : Addr} {ns : List Int} {H : Hp} {Q : VK} (hn : N.length = n + 2) (hb : ∀ S, S.cells.length ≤ 63 → ∃ S', b (env0 n) S = some (.rt (.bool true), S')) (hS : SqL K H a (ns.map V.int)) (hl : ns.length ≤ 63) (q : ∀ H', Q (.bl true) H') :
    tSeq (tAsg (tCallG (spOpen K) (tCons (tVar 0) tNil)) (gName 1)) (fun D σ H => ∃ G, tSs K G b D σ H) { nx := fun _ H' => Q .non H', rt := Q } (L2.start N [.ref a]) H := by
  have st : L2.start N [.ref a] = some (.ref a) :: none :: List.replicate n none := by
    unfold L2.start
    rw [hn]
    rfl
  refine ⟨.ref a, by rw [st]; rfl, a, ns, rfl, hS, hl, fun H' p c S h63 sm np nc ne hp hc => ?_⟩
  obtain ⟨S', hb⟩ := hb S h63
  refine ⟨⟨some (p, c)⟩, fun _ => False, H', fun _ => False, env0 n, S, _, S', ⟨⟨fun r hr => ?_, fun _ _ z => z, fun _ z => z.elim⟩, fun r hr => ?_, Aft.refl _ _ _, ?_, fun i s e => ?_, fun i j s t ei ej oi oj _ => ?_⟩, hb, fun v F' H'' _ _ dv => ?_⟩
  · cases hr; exact ⟨hp, hc⟩
  · obtain ⟨z, hz, e⟩ := hr
    cases hz
    rcases e with rfl | rfl
    · rw [hp]; exact fun z => nomatch z
    · rw [hc]; exact fun z => nomatch z
  · rw [st]; simp [env0]
  · rw [st]
    match i with
    | 0 => cases e; trivial
    | 1 => cases e; exact ⟨_, rfl, rfl⟩
    | i + 2 =>
      have e' : (List.replicate n Slot.no)[i]? = some s := e
      rw [List.getElem?_replicate] at e'
      split at e'
      · cases e'; trivial
      · cases e'
  · match i with
    | 0 => cases ei; cases oi
    | 1 => cases ei; cases oi
    | i + 2 =>
      have e' : (List.replicate n Slot.no)[i]? = some s := ei
      rw [List.getElem?_replicate] at e'
      split at e'
      · cases e'; cases oi
      · cases e'
  · cases dv; exact q _

/-! ### the end -/
theorem law_run {P : Program} {w : World} {K : PySem.W.Frag} {mg mb : Str → Option Value} {k : Nat} {fa a : Addr} {fd : FuncData} {x : Str} {s₁ : Shared} {vs : List Value} {ns : List Int}
    (KX : K.In s₁.heap) (hns : s₁.heap.Ns mainGlobals mg) (hb : s₁.heap.Ns builtinsNs mb) (hbb : ∀ x : Str, x ≠ "__name__" → mb x = bootBuiltins x) (hlim : s₁.heap.NoLimit) (hg : s₁.gens = #[])
    (ha : s₁.heap.get? a = some { cls := .type "list", data := .seq vs.toArray }) (hi : IntsAre vs ns) (hl : ns.length ≤ 63) (hr : RoomG k callerA)
    (F : ∀ base : Heap, K.In base → base.Ns mainGlobals mg → FnG P w K mg base k fa fd [x] (spLaw K)) (hbind : ∀ (s : Shared) (u : Value), BindsTo s fd ⟨[u], []⟩ [(x, u)]) :
    codeAny (model P w) callerA (.call (.ref fa) ⟨[.ref a], []⟩) (fun r s' => r = .ok (.ret (.bool true)) ∧ OldK s₁.heap s'.heap ∧ s'.os = s₁.os ∧ AllBare s'.gens) s₁ := by
  have rv := vals_ints hi
  have lenV := hi.length
  have hl2 : ns.length ≤ sizeLine := by rw [← line_eq]; exact Nat.le_trans hl (by decide)
  -- what is tracked at the start: nothing, or the script as it stands
  suffices core : ∀ H : Hp, (∀ b u, H b = some u → b = a ∧ K.lookup a = none ∧ ∃ o xs, u = .frz o (.lst xs)) → SqL K H a (ns.map V.int) → HOk P w H s₁.heap →
      codeAny (model P w) callerA (.call (.ref fa) ⟨[.ref a], []⟩) (fun r s' => r = .ok (.ret (.bool true)) ∧ OldK s₁.heap s'.heap ∧ s'.os = s₁.os ∧ AllBare s'.gens) s₁ by
    cases hk : K.lookup a with
    | some o =>
      have e := KX a o hk
      rw [ha] at e
      cases e
      exact core (fun _ => none) (fun _ _ z => nomatch z) (.inr ⟨_, vs.toArray, _, hk, rfl, rfl, rfl, by rw [List.size_toArray, lenV]; exact hl2, by simpa using rv⟩) fun _ _ z => nomatch z
    | none =>
      refine core (fun b => if b = a then some (.frz { cls := .type "list", data := .seq vs.toArray } (.lst (ns.map V.int))) else none) (fun b u z => ?_) (.inl (.inr ⟨_, if_pos rfl⟩)) (fun b u z => ?_)
      · by_cases h : b = a
        · rw [if_pos h] at z; cases z; exact ⟨h, hk, _, _, rfl⟩
        · rw [if_neg h] at z; cases z
      · by_cases h : b = a
        · dsimp only at z; rw [if_pos h] at z; cases z; subst h
          exact ⟨ha, by rw [List.length_map]; exact hl2, vs, _, rv, ha⟩
        · dsimp only at z; rw [if_neg h] at z; cases z
  intro H only hS hok
  have free : ∀ {b : Addr} {o : Obj}, s₁.heap.get? b = some o → (b = a → False) → H b = none := fun {b o} _ n => by
    cases q : H b with
    | none => rfl
    | some u => exact (n (only b u q).1).elim
  have stays : ∀ {b : Addr} {o : Obj}, s₁.heap.get? b = some o → (b = a → K.lookup a = none → False) → (hidT s₁.heap H).get? b = some o := fun {b o} e n => by
    refine hidT_get e ?_
    cases q : H b with
    | none => rfl
    | some u => exact (n (only b u q).1 (only b u q).2.1).elim
  have nsH : ∀ {b : Addr} {m : Str → Option Value}, s₁.heap.Ns b m → (hidT s₁.heap H).Ns b m := fun {b m} ⟨o, es, ep, e, d, r⟩ => by
    refine ⟨o, es, ep, stays e (fun z _ => ?_), d, r⟩
    subst z
    rw [ha] at e
    cases e
    cases d
  have inH : K.In (hidT s₁.heap H) := fun b o e => stays (KX b o e) fun z n => by subst z; rw [n] at e; cases e
  have M : Mod K mg (hidT s₁.heap H) := ⟨inH, nsH hns, ⟨mb, nsH hb, hbb⟩, let ⟨mc, h1, h2⟩ := hlim; ⟨mc, nsH h1, h2⟩⟩
  have E : Env0 P w K mg (hidT s₁.heap H) callerA [] s₁ H := ⟨rfl, M, fun b o e => of_hidT e, Nat.le_of_eq (hidT_size _ _), trivial, fun b z => (nomatch z), hok, .of_eq hg⟩
  refine codeAny_mono ((F _ inH (nsH hns)).run callerA [] s₁ H ⟨[.ref a], []⟩ [.ref a] [.ref a] (fun v _ => v = .bl true) hr E (hbind s₁ (.ref a)) (.cons rfl .nil) ⟨a, ns, rfl, hS, hl, fun _ => rfl⟩) fun r s' h => ?_
  cases r with
  | error e => exact h.elim
  | ok fl =>
    cases fl with
    | next => exact h.elim
    | brk => exact h.elim
    | cont => exact h.elim
    | ret u =>
      obtain ⟨v, H', os, bare, un, hok', rv', qv⟩ := h
      subst qv
      cases rv'
      refine ⟨rfl, OldK.of_keep fun b o e => ?_, os, bare⟩
      cases q : H b with
      | none => exact un.keep b o e q (fun z => nomatch z) (fun z => nomatch z)
      | some u =>
        obtain ⟨_, _, ob, xs, rfl⟩ := only b u q
        have q' := un.frzs b ob _ q
        have e1 := (hok b _ q).1
        have e2 := (hok' b _ q').1
        rw [e] at e1
        cases e1
        exact e2
theorem roomG_caller {k : Nat} (h : k ≤ 60) : RoomG k callerA := by
  have h1 : claimMargin + 3 * 60 + 6 < recursionLimit := by decide
  have h2 : 4 + 16 * 60 + 200 < cLine := by decide
  refine ⟨⟨rfl, ?_, ?_⟩, rfl⟩
  · show 1 + claimMargin + 3 * k + 5 < _
    omega
  · show 4 + 16 * k + 200 < _
    omega
theorem walkG {l : PySem.W.OpenLaw} {k : Nat} {q : Program} {loose : List Str} {XP : (Str → Option Value) → Heap → Prop} {YP : World → Heap → Prop} {d : DefRec} {K : Params → PySem.W.Frag}
    (hn : l.most = some 63) (hdf : d.params.defaults = []) (hk : k ≤ 60) (hY : ∀ (w : World) (h : Heap), YP w h → (K w.params).In h)
    (F : ∀ (w : World) (mg : Str → Option Value) (fa : Addr) (h : Heap), (K w.params).In h → h.Ns mainGlobals mg → mg d.name = some (.ref fa) →
      ∃ fd : FuncData, (∀ (s : Shared) (u : Value), BindsTo s fd ⟨[u], []⟩ [("script", u)]) ∧ ∀ base : Heap, (K w.params).In base → base.Ns mainGlobals mg → FnG l.prog w (K w.params) mg base k fa fd ["script"] (spLaw (K w.params))) :
    PySem.W.WalkO q loose XP YP l.row.toRowW d [] (fun f vs => PySem.call f vs) := by
  refine Att.attach_call hn hdf fun w s₀ s₁ mg mb fa o pm cd doc a vs ns G Y ho hd hcd hmg hobj hints hlen hg => ?_
  have KX := hY w _ Y
  obtain ⟨fd, hb, hF⟩ := F w mg fa _ KX G.T.g hmg
  exact law_run KX G.T.g G.T.b G.T.builtins G.T.nolimit hg hobj hints hlen (roomG_caller hk) hF hb
end DL
set_option maxHeartbeats 1000000
namespace DL
open PySem PySem.Spec PyProof.Rows L2

/-! ### a number is drawn -/
def pickB : EvS := mSeq (mIfS (mT (mBin dLt (mVarB 1) (mC (.int 2)))) (mRet (mC (.int 0))) (mSkip)) (mSeq (mCells 0 2) (mSeq (mWhile (mAnd (mT (mBin dLt (mSrcGet 0 .left) (mC (.int 2)))) (mT (mBin dGt (mLenCells 2) (mC (.int 0))))) (mSrcPop 0 2 .left) 100000) (mSeq (mSet 3 (mSrcGet 0 .left)) (mSeq (mIfS (mT (mBin dGt (mVarB 3) (mC (.int 1)))) (mSeq (mSrcSet 0 .left (mBin dFDiv (mVarB 3) (mVarB 1))) (mRet (mBin dMod (mCB gInt (mCons (mVarB 3) mNil)) (mVarB 1)))) (mSkip)) (mSeq (mSrcSet 0 .turn (mBin dAdd (mSrcGet 0 .turn) (mC (.int 1)))) (mSeq (mSet 4 (mSrcGet 0 .turn)) (mSeq (mSet 5 (mBin dMod (mCB gInt (mCons (mBin dAdd (mSrcGet 0 .mixed) (mBin dMul (mVarB 4) (mC (.int 104729)))) mNil)) (mC (.int 998244353)))) (mSeq (mSet 5 (mBin dMod (mCB gInt (mCons (mBin dAdd (mBin dMul (mVarB 5) (mVarB 5)) (mBin dMul (mVarB 4) (mC (.int 17)))) mNil)) (mC (.int 2147483647)))) (mRet (mBin dMod (mCB gInt (mCons (mBin dFDiv (mVarB 5) (mC (.int 16))) mNil)) (mVarB 1)))))))))))
abbrev Good (S : Src) : Prop := S.cells.length ≤ 63
def penv (m : Int) : Env' := [.src, .val (.int m), .cells, .no, .no, .no]
theorem pick_drain (m : Int) : ∀ (k fuel : Nat) (S : Src), S.cells.length ≤ k → k < fuel →
    ∃ S', mWhile (mAnd (mT (mBin dLt (mSrcGet 0 .left) (mC (.int 2)))) (mT (mBin dGt (mLenCells 2) (mC (.int 0))))) (mSrcPop 0 2 .left) fuel (penv m) S = some (.nx (penv m), S') ∧ S'.cells.length ≤ k
  | k, 0, _, _, h => by omega
  | 0, fuel + 1, S, h0, h => by
    have e : S.cells = [] := List.eq_nil_of_length_eq_zero (by omega)
    refine ⟨S, ?_, h0⟩
    by_cases hl : S.left < 2
    · simp [mWhile, mAnd, mT, mBin, mSrcGet, mC, penv, dLt, dGt, mLenCells, Fd.get, hl, e]
    · simp [mWhile, mAnd, mT, mBin, mSrcGet, mC, penv, dLt, dGt, mLenCells, Fd.get, hl, e]
  | k + 1, fuel + 1, S, h0, h => by
    by_cases hl : S.left < 2
    · by_cases hc : S.cells = []
      · refine ⟨S, ?_, h0⟩
        simp [mWhile, mAnd, mT, mBin, mSrcGet, mC, penv, dLt, dGt, mLenCells, Fd.get, hl, hc]
      · obtain ⟨c, hg⟩ : ∃ c, S.cells.getLast? = some c := by
          cases e : S.cells.getLast? with
          | some c => exact ⟨c, rfl⟩
          | none => exact absurd (List.getLast?_eq_none_iff.mp e) hc
        have hpos : 0 < S.cells.length := List.length_pos_iff.mpr hc
        obtain ⟨S', e, hk⟩ := pick_drain m k fuel (Fd.left.put { S with cells := S.cells.dropLast } c) (by show S.cells.dropLast.length ≤ k; rw [List.length_dropLast]; omega) (by omega)
        refine ⟨S', ?_, by omega⟩
        rw [← e]
        have hpos' : (0 : Int) < (S.cells.length : Int) := by omega
        simp [mWhile, mAnd, mT, mBin, mSrcGet, mC, penv, dLt, dGt, mLenCells, Fd.get, hl, mSrcPop, hg, hpos]
    · refine ⟨S, ?_, h0⟩
      simp [mWhile, mAnd, mT, mBin, mSrcGet, mC, penv, dLt, dGt, mLenCells, Fd.get, hl]
theorem mulOk_right {i j : Int} (h : j.natAbs < 18446744073709551616) : mulOk i j = true := by
  unfold mulOk
  rw [decide_eq_true h, Bool.or_true, Bool.or_true]
theorem mulOk_left {i j : Int} (h : i.natAbs < 18446744073709551616) : mulOk i j = true := by
  unfold mulOk
  rw [decide_eq_true h, Bool.true_or, Bool.or_true]
theorem pick_ok (S : Src) (g : Good S) (m : Int) (hm : 2 ≤ m) (hl : m.natAbs.log2 < 9000) : ∃ r S', mDef 6 pickB [.src, .val (.int m)] S = some (.int r, S') ∧ 0 ≤ r ∧ r < m ∧ Good S' := by
  obtain ⟨S1, e1, h1⟩ := pick_drain m 63 100000 S g (by decide)
  have hm2 : ¬ m < 2 := by omega
  have hp : 0 < m := by omega
  have e1' := e1
  unfold penv at e1'
  by_cases h : 1 < S1.left
  · refine ⟨S1.left % m, Fd.left.put S1 (S1.left / m), ?_, Int.emod_nonneg _ (by omega), Int.emod_lt_of_pos _ hp, h1⟩
    unfold mDef pickB
    simp only [List.length_cons, List.length_nil, Nat.zero_add, Nat.reduceAdd, Nat.reduceSub, List.replicate, List.cons_append, List.nil_append]
    simp [mSeq, mIfS, mT, mBin, mVarB, mC, dLt, dGt, mSkip, mCells, List.set, hm2, e1', mSet, mSrcGet, Fd.get, h, mSrcSet, dFDiv, dMod, fI_eq, hp, hl, mRet, mCB, mCons, mNil, gInt, Fd.put]
  · have b1 : 0 ≤ (S1.mixed + (S1.turn + 1) * 104729) % 998244353 := Int.emod_nonneg _ (by decide)
    have b2 : (S1.mixed + (S1.turn + 1) * 104729) % 998244353 < 998244353 := Int.emod_lt_of_pos _ (by decide)
    refine ⟨_, Fd.turn.put S1 (S1.turn + 1), ?_, Int.emod_nonneg ((((S1.mixed + (S1.turn + 1) * 104729) % 998244353) * ((S1.mixed + (S1.turn + 1) * 104729) % 998244353) + (S1.turn + 1) * 17) % 2147483647 / 16) (show m ≠ 0 by omega), Int.emod_lt_of_pos _ hp, h1⟩
    have k1 : mulOk (S1.turn + 1) 104729 = true := mulOk_right (by decide)
    have k2 : mulOk (S1.turn + 1) 17 = true := mulOk_right (by decide)
    have k3 : mulOk ((S1.mixed + (S1.turn + 1) * 104729) % 998244353) ((S1.mixed + (S1.turn + 1) * 104729) % 998244353) = true := mulOk_right (by omega)
    have l1 : Nat.log2 16 < 9000 := by decide
    unfold mDef pickB
    simp only [List.length_cons, List.length_nil, Nat.zero_add, Nat.reduceAdd, Nat.reduceSub, List.replicate, List.cons_append, List.nil_append]
    simp [mSeq, mIfS, mT, mBin, mVarB, mC, dLt, dGt, mSkip, mCells, List.set, hm2, e1', mSet, mSrcGet, Fd.get, h, mSrcSet, dFDiv, dMod, fI_eq, hp, hl, mRet, mCB, mCons, mNil, gInt, Fd.put, dAdd, dMul, k1, k2, k3, l1]
theorem pick_one (S : Src) (m : Int) (hm : m < 2) : mDef 6 pickB [.src, .val (.int m)] S = some (.int 0, S) := by
  unfold mDef pickB
  simp only [List.length_cons, List.length_nil, Nat.zero_add, Nat.reduceAdd, Nat.reduceSub, List.replicate, List.cons_append, List.nil_append]
  simp [mSeq, mIfS, mT, mBin, mVarB, mC, dLt, hm, mRet]
end DL
set_option maxHeartbeats 1000000
namespace DL
open PySem PySem.Spec PyProof.Rows L2

/-! ### laws of the denotations -/
theorem mSeq_nx {a b : EvS} {env env1 : Env'} {S S1 : Src} (h : a env S = some (.nx env1, S1)) : mSeq a b env S = b env1 S1 := by unfold mSeq; rw [h]
theorem mSeq_rt {a b : EvS} {env : Env'} {d : D} {S S1 : Src} (h : a env S = some (.rt d, S1)) : mSeq a b env S = some (.rt d, S1) := by unfold mSeq; rw [h]
theorem mIfS_tt {c : EvT} {a b : EvS} {env : Env'} {S S1 : Src} (h : c env S = some (true, S1)) : mIfS c a b env S = a env S1 := by unfold mIfS; rw [h]
theorem mIfS_ff {c : EvT} {a b : EvS} {env : Env'} {S S1 : Src} (h : c env S = some (false, S1)) : mIfS c a b env S = b env S1 := by unfold mIfS; rw [h]
theorem mIfS_skip {c : EvT} {a : EvS} {env : Env'} {S S1 : Src} (h : c env S = some (false, S1)) : mIfS c a mSkip env S = some (.nx env, S1) := by unfold mIfS; rw [h]; rfl
theorem mOr_ff {a b : EvT} {env : Env'} {S S1 S2 : Src} (h : a env S = some (false, S1)) (h2 : b env S1 = some (false, S2)) : mOr a b env S = some (false, S2) := by unfold mOr; rw [h]; exact h2
theorem mT_of {a : EvE} {env : Env'} {S S1 : Src} {c : Bool} (h : a env S = some (.bool c, S1)) : mT a env S = some (c, S1) := by unfold mT; rw [h]
theorem mBin_of {g : D → D → Option D} {a b : EvE} {env : Env'} {S S1 S2 : Src} {x y z : D} (h1 : a env S = some (x, S1)) (h2 : b env S1 = some (y, S2)) (h3 : g x y = some z) : mBin g a b env S = some (z, S2) := by unfold mBin; rw [h1]; dsimp only; rw [h2]; dsimp only; rw [h3]
theorem mCB_one {g : List D → Option D} {a : EvE} {env : Env'} {S S1 : Src} {x z : D} (h1 : a env S = some (x, S1)) (h3 : g [x] = some z) : mCB g (mCons a mNil) env S = some (z, S1) := by unfold mCB mCons mNil; rw [h1]; dsimp only; rw [h3]
theorem mCall_one {f : EvE} {a : EvE} {env : Env'} {S S1 : Src} {x : D} (h1 : a env S = some (x, S1)) : mCall 1 f (rVal a rNil) env S = f [.val x] S1 := by unfold mCall rVal rNil; rw [h1]; rfl
theorem mFz_of {a : EvA} {env : Env'} {S S1 : Src} {xs : List D} (h : a env S = some (xs, S1)) : mFz a env S = some (.list xs, S1) := by unfold mFz; rw [h]
theorem dAdd_int (i j : Int) : dAdd (.int i) (.int j) = some (.int (i + j)) := fI_eq _
theorem dSub_int (i j : Int) : dSub (.int i) (.int j) = some (.int (i - j)) := fI_eq _
theorem dMul_int {i j : Int} (h : mulOk i j = true) : dMul (.int i) (.int j) = some (.int (i * j)) := by show (if mulOk i j = true then fI (i*j) else none) = _; rw [if_pos h, fI_eq]
theorem dFDiv_pos {i j : Int} (h : 0 < j) (hl : j.natAbs.log2 < 9000) : dFDiv (.int i) (.int j) = some (.int (i / j)) := by show (if 0 < j then (if j.natAbs.log2 < 9000 then fI (i / j) else none) else if j ≠ 0 ∧ j.natAbs < 1073741824 then fI (i.fdiv j) else none) = _; rw [if_pos h, if_pos hl, fI_eq]
theorem dMod_pos {i j : Int} (h : 0 < j) : dMod (.int i) (.int j) = some (.int (i % j)) := by show (if 0 < j then fI (i % j) else if j ≠ 0 then fI (i.fmod j) else none) = _; rw [if_pos h, fI_eq]
theorem dLt_int (i j : Int) : dLt (.int i) (.int j) = some (.bool (decide (i < j))) := rfl
theorem dLe_int (i j : Int) : dLe (.int i) (.int j) = some (.bool (decide (i ≤ j))) := rfl
theorem dGt_int (i j : Int) : dGt (.int i) (.int j) = some (.bool (decide (j < i))) := rfl
theorem dGe_int (i j : Int) : dGe (.int i) (.int j) = some (.bool (decide (j ≤ i))) := rfl
theorem gLen_list (ds : List D) : gLen [.list ds] = some (.int ds.length) := fI_eq _
theorem gLen_tup (ds : List D) : gLen [.tuple ds] = some (.int ds.length) := fI_eq _
theorem gInt_int (i : Int) : gInt [.int i] = some (.int i) := rfl
theorem gInt_bool (b : Bool) : gInt [.bool b] = some (.int (if b then 1 else 0)) := fI_eq _
theorem gAbs_int (i : Int) : gAbs [.int i] = some (.int (if i < 0 then -i else i)) := fI_eq _
theorem gMin2_int (i j : Int) : gMin2 [.int i, .int j] = some (.int (if j < i then j else i)) := fI_eq _
theorem gMax2_int (i j : Int) : gMax2 [.int i, .int j] = some (.int (if j > i then j else i)) := fI_eq _
theorem gGcd_int (i j : Int) : gGcd [.int i, .int j] = some (.int ((Nat.gcd i.natAbs j.natAbs : Nat) : Int)) := fI_eq _
theorem gTuple_list (ds : List D) : gTuple [.list ds] = some (.tuple ds) := rfl
theorem mCB_two {g : List D → Option D} {a b : EvE} {env : Env'} {S S1 S2 : Src} {x y z : D} (h1 : a env S = some (x, S1)) (h2 : b env S1 = some (y, S2)) (h3 : g [x, y] = some z) : mCB g (mCons a (mCons b mNil)) env S = some (z, S2) := by unfold mCB mCons mNil; dsimp only; rw [h1]; dsimp only; rw [h2]; dsimp only; rw [h3]
theorem mCall_pick {f : EvE} {a : EvE} {i : Nat} {env : Env'} {S S1 : Src} {x : D} (hi : env[i]? = some .src) (h1 : a env S = some (x, S1)) : mCall 2 f (rSrc i (rVal a rNil)) env S = f [.src, .val x] S1 := by
  unfold mCall rSrc rVal rNil
  rw [hi]
  dsimp only
  rw [h1]
  rfl
theorem mSet_of {a : EvE} {i : Nat} {env : Env'} {S S1 : Src} {x : D} (h : a env S = some (x, S1)) : mSet i a env S = some (.nx (env.set i (.val x)), S1) := by unfold mSet; rw [h]
theorem mRet_of {a : EvE} {env : Env'} {S S1 : Src} {x : D} (h : a env S = some (x, S1)) : mRet a env S = some (.rt x, S1) := by unfold mRet; rw [h]
theorem mRange1_of {a : EvE} {env : Env'} {S S1 : Src} {j : Int} (h : a env S = some (.int j, S1)) (hj : rgOk j = true) : mRange1 a env S = some (rangeD 0 j.toNat, S1) := by unfold mRange1; rw [h]; dsimp only; rw [if_pos hj]
theorem mRange2_of {a b : EvE} {env : Env'} {S S1 S2 : Src} {i j : Int} (h : a env S = some (.int i, S1)) (h2 : b env S1 = some (.int j, S2)) (hi : rgOk i = true) (hj : rgOk j = true) : mRange2 a b env S = some (rangeD i (j - i).toNat, S2) := by
  unfold mRange2; rw [h]; dsimp only; rw [h2]; dsimp only; rw [hi, hj]; rfl
theorem rgOk_small {j : Int} (h : -1000000000 ≤ j) (h2 : j ≤ 1000000000) : rgOk j = true := by unfold rgOk; simp; omega
theorem dNe_int (i j : Int) : dNe (.int i) (.int j) = some (.bool (!(i == j))) := rfl
theorem dEq_int (i j : Int) : dEq (.int i) (.int j) = some (.bool (i == j)) := rfl
theorem dNe_same (i : Int) : dNe (.int i) (.int i) = some (.bool false) := by rw [dNe_int]; simp
theorem dEq_same (i : Int) : dEq (.int i) (.int i) = some (.bool true) := by rw [dEq_int]; simp
theorem rangeD_eq : ∀ (n : Nat) (lo : Int), rangeD lo n = (List.range n).map fun i => PyData.int (lo + (i : Nat))
  | 0, _ => rfl
  | n + 1, lo => by
    rw [rangeD, rangeD_eq n (lo + 1), List.range_succ_eq_map, List.map_cons, List.map_map]
    congr 1
    · simp
    · apply List.map_congr_left
      intro i _
      show PyData.int (lo + 1 + (i : Nat)) = PyData.int (lo + ((i + 1 : Nat) : Int))
      congr 1
      omega
theorem lcGo_filter {g : EvG} {t : EvT} {f : EvE} {env : Env'} {S : Src} (p : D → Bool) (h : D → D) : ∀ ds : List D, (∀ d ∈ ds, ∃ env1, g d env = some env1 ∧ t env1 S = some (p d, S) ∧ (p d = true → f env1 S = some (h d, S))) →
    mLcGo g t f ds env S = some ((ds.filter p).map h, S)
  | [], _ => rfl
  | d :: ds, a => by
    obtain ⟨env1, e1, e2, e3⟩ := a d List.mem_cons_self
    have ih := lcGo_filter (g := g) (t := t) (f := f) (env := env) (S := S) p h ds fun x hx => a x (List.mem_cons_of_mem _ hx)
    rw [mLcGo]
    simp only [e1, e2]
    cases hp : p d with
    | true => simp only [e3 hp, ih]; simp [List.filter_cons, hp]
    | false => simp only [ih]; simp [List.filter_cons, hp]
theorem lcGo_map {g : EvG} {t : EvT} {f : EvE} {env : Env'} {S : Src} (h : D → D) (ds : List D) (a : ∀ d ∈ ds, ∃ env1, g d env = some env1 ∧ t env1 S = some (true, S) ∧ f env1 S = some (h d, S)) :
    mLcGo g t f ds env S = some (ds.map h, S) := by
  have := lcGo_filter (g := g) (t := t) (f := f) (env := env) (S := S) (fun _ => true) h ds fun d hd => by
    obtain ⟨e, a1, a2, a3⟩ := a d hd
    exact ⟨e, a1, a2, fun _ => a3⟩
  rw [this, List.filter_eq_self.mpr (fun _ _ => rfl)]
/-- a comprehension over range(lo, lo + n) -/
theorem lc_range {vs : List Nat} {i : Nat} {t : EvT} {f : EvE} {it : EvA} {env : Env'} {S S1 : Src} {lo : Int} {n : Nat} (h : Int → D) (hi : it env S = some (rangeD lo n, S1)) (hn : n ≤ line)
    (ht : ∀ k : Nat, k < n → t ((wipeE env vs).set i (.val (.int (lo + k)))) S1 = some (true, S1)) (hf : ∀ k : Nat, k < n → f ((wipeE env vs).set i (.val (.int (lo + k)))) S1 = some (h (lo + k), S1)) :
    mLc vs (gN i) it t f env S = some ((List.range n).map (fun k => h (lo + (k : Nat))), S1) := by
  unfold mLc
  rw [hi]
  simp only [rangeD_len, hn, if_true]
  rw [rangeD_eq]
  have key := lcGo_map (g := gN i) (t := t) (f := f) (env := wipeE env vs) (S := S1) (fun d => match d with | .int k => h k | _ => .none) ((List.range n).map fun i => PyData.int (lo + (i : Nat))) (fun d hd => by
    obtain ⟨k, hk, rfl⟩ := List.mem_map.mp hd
    have hk := List.mem_range.mp hk
    exact ⟨_, rfl, ht k hk, hf k hk⟩)
  rw [key, List.map_map]
  rfl
/-- what a table tells -/
theorem tab_at {α β : Type} {f : Nat → α} {T : List β} {g : β → α} {n : Nat} (h : (List.range n).map f = T.map g) (k : Nat) (hk : k < n) : ∃ b, T[k]? = some b ∧ f k = g b := by
  have e : ((List.range n).map f)[k]? = some (f k) := by
    rw [List.getElem?_map, List.getElem?_range hk]; rfl
  rw [h, List.getElem?_map] at e
  cases hb : T[k]? with
  | none => rw [hb] at e; cases e
  | some b => rw [hb] at e; exact ⟨b, rfl, (Option.some.inj e).symm⟩
theorem toInts_map (is : List Int) : toInts (is.map PyData.int) = some is := by
  induction is with
  | nil => rfl
  | cons i r ih => rw [List.map_cons, toInts, ih]
theorem toBools_map (is : List Bool) : toBools (is.map PyData.bool) = some is := by
  induction is with
  | nil => rfl
  | cons i r ih => rw [List.map_cons, toBools, ih]
theorem gSum_ints (is : List Int) : gSum [.list (is.map PyData.int)] = some (.int (sumI is)) := by
  show (match toInts (is.map PyData.int) with | some is => fI (sumI is) | none => none) = _
  rw [toInts_map]
  exact fI_eq _
theorem gAny_bools (bs : List Bool) : gAny [.list (bs.map PyData.bool)] = some (.bool (bs.any fun b => b)) := by
  show (match toBools (bs.map PyData.bool) with | some is => some (PyData.bool (is.any fun b => b)) | none => none) = _
  rw [toBools_map]
theorem gAll_bools (bs : List Bool) : gAll [.list (bs.map PyData.bool)] = some (.bool (bs.all fun b => b)) := by
  show (match toBools (bs.map PyData.bool) with | some is => some (PyData.bool (is.all fun b => b)) | none => none) = _
  rw [toBools_map]
theorem atI_ok {α : Type} {xs : List α} {k : Nat} {v : α} (h : xs[k]? = some v) : atI xs (k : Int) = some v := atI_nat h
end DL
set_option maxHeartbeats 4000000
namespace K98
open PySem PySem.Spec PyProof.Rows L2 DL
def topS (i : Nat) : Stmt := PySem.Challenge.pw_wholefours_k98_whole_counts_by_all_parts.main.body.getD i (.Pass ⟨0, 0, 0, 0⟩)
structure Tx (mg : Str → Option Value) : Prop where
  n_any : mg "any" = none
  n_int : mg "int" = none
  n_len : mg "len" = none
  n_list : mg "list" = none
  n_min : mg "min" = none
  n_range : mg "range" = none
  n_sum : mg "sum" = none
  n_tuple : mg "tuple" = none
  n_abs : mg "abs" = none

/-! floors_by -/
abbrev s_floors_by : Stmt := topS 1
theorem sc_floors_by : FnScope ["n", "first", "step", "total", "d"] ["n", "first", "step"] (defScope s_floors_by) := ⟨rfl, rfl, rfl, by decide +kernel, rfl, by decide +kernel, by decide +kernel⟩
def b_floors_by : EvS := mSeq (mSetN [3, 4] (rVal (mC (.int 0)) (rVal (mVar 1) (rNil)))) (mSeq (mWhile (mT (mBin dLe (mVarB 4) (mVarB 0))) (mSeq (mSet 3 (mBin dAdd (mVarB 3) (mBin dFDiv (mVarB 0) (mVarB 4)))) (mSet 4 (mBin dAdd (mVarB 4) (mVarB 2)))) 100000) (mRet (mVar 3)))
def m_floors_by : EvE := mDef 5 b_floors_by
theorem ok_floors_by {P : Program} {w : World} {K : PySem.W.Frag} {mg : Str → Option Value} {base : Heap} {f : Addr} {fd : FuncData} (T : Tx mg) (F : Fun K "floors_by" "floors_by" s_floors_by f fd) (gm : mg "floors_by" = some (.ref f)) (hb : Binds K fd ["n", "first", "step"] [])  :
    DefOk P w K mg base "floors_by" 1 3 m_floors_by := by
  refine def_ok (k := 0) (N := ["n", "first", "step", "total", "d"]) (b := b_floors_by) F sc_floors_by rfl gm hb fun G X hX hr => ?_
  obtain ⟨cdv, A, outer, s, H, rfl⟩ := hX
  have sc := sc_floors_by
  exact dss_cons (ds_par2 3 4 rfl sc.nd (dx_val (de_int) (dx_val (de_var 1) (dx_nil)))) (dss_cons (ds_while 100000 (dt_le (db_var 4) (db_var 0)) (dss_cons (ds_set 3 (de_add (db_var 3) (DE.db (de_fdiv (db_var 0) (db_var 4)))) sc.nd) (dss_one (ds_set 4 (de_add (db_var 4) (db_var 2)) sc.nd)))) (dss_one (ds_ret (de_var 3))))

/-! prime_powers_in -/
abbrev s_prime_powers_in : Stmt := topS 4
theorem sc_prime_powers_in : FnScope ["n", "found", "p", "k"] ["n"] (defScope s_prime_powers_in) := ⟨rfl, rfl, rfl, by decide +kernel, rfl, by decide +kernel, by decide +kernel⟩
def b_prime_powers_in : EvS := mSeq (mSetN [1, 2] (xOwn (mLstF (mNil)) (rVal (mC (.int 2)) (rNil)))) (mSeq (mWhile (mT (mBin dLe (mBin dMul (mVarB 2) (mVarB 2)) (mVarB 0))) (mSeq (mSet 3 (mC (.int 0))) (mSeq (mWhile (mT (mBin dEq (mBin dMod (mVarB 0) (mVarB 2)) (mC (.int 0)))) (mSetN [0, 3] (rVal (mBin dFDiv (mVarB 0) (mVarB 2)) (rVal (mBin dAdd (mVarB 3) (mC (.int 1))) (rNil)))) 100000) (mSeq (mExtend 1 (mIf (mT (mBin dGt (mVarB 3) (mC (.int 0)))) (mFz (mLstF (mCons (mTup (mCons (mVar 2) (mCons (mVar 3) (mNil)))) (mNil)))) (mFz (mLstF (mNil))))) (mSet 2 (mBin dAdd (mVarB 2) (mC (.int 1))))))) 100000) (mRet (mIf (mT (mBin dGt (mVarB 0) (mC (.int 1)))) (mCB gTuple (mCons (mFz (mLstF (mStar (mVarB 1) (mCons (mTup (mCons (mVar 0) (mCons (mC (.int 1)) (mNil)))) (mNil))))) mNil)) (mCB gTuple (mCons (mVarB 1) mNil)))))
def m_prime_powers_in : EvE := mDef 4 b_prime_powers_in
theorem ok_prime_powers_in {P : Program} {w : World} {K : PySem.W.Frag} {mg : Str → Option Value} {base : Heap} {f : Addr} {fd : FuncData} (T : Tx mg) (F : Fun K "prime_powers_in" "prime_powers_in" s_prime_powers_in f fd) (gm : mg "prime_powers_in" = some (.ref f)) (hb : Binds K fd ["n"] [])  :
    DefOk P w K mg base "prime_powers_in" 1 1 m_prime_powers_in := by
  refine def_ok (k := 0) (N := ["n", "found", "p", "k"]) (b := b_prime_powers_in) F sc_prime_powers_in rfl gm hb fun G X hX hr => ?_
  obtain ⟨cdv, A, outer, s, H, rfl⟩ := hX
  have sc := sc_prime_powers_in
  exact dss_cons (ds_par2 1 2 rfl sc.nd (dx_own (df_lst (da_nil)) (dx_val (de_int) (dx_nil)))) (dss_cons (ds_while 100000 (dt_le (DE.db (de_mul (db_var 2) (db_var 2))) (db_var 0)) (dss_cons (ds_set 3 (de_int) sc.nd) (dss_cons (ds_while 100000 (dt_eq hr (DE.db (de_mod (db_var 0) (db_var 2))) (DE.db (de_int))) (dss_one (ds_par2 0 3 rfl sc.nd (dx_val (de_fdiv (db_var 0) (db_var 2)) (dx_val (de_add (db_var 3) (DE.db (de_int))) (dx_nil)))))) (dss_cons (ds_extend 1 (DE.db (de_ifExp (dt_gt (db_var 3) (DE.db (de_int))) (DF.de (df_lst (da_cons (de_tup (da_cons (de_var 2) (da_cons (de_var 3) (da_nil)))) (da_nil)))) (DF.de (df_lst (da_nil)))))) (dss_one (ds_set 2 (de_add (db_var 2) (DE.db (de_int))) sc.nd)))))) (dss_one (ds_ret (de_ifExp (dt_gt (db_var 0) (DE.db (de_int))) (de_tuplec (by rfl) T.n_tuple (DE.db (DF.de (df_lst (da_star (db_var 1) (da_cons (de_tup (da_cons (de_var 0) (da_cons (de_int) (da_nil)))) (da_nil))))))) (de_tuplec (by rfl) T.n_tuple (db_var 1))))))

/-! divisors_of_row -/
abbrev s_divisors_of_row : Stmt := topS 5
theorem sc_divisors_of_row : FnScope ["row", "found", "p", "k", "late", "power", "lap", "d"] ["row"] (defScope s_divisors_of_row) := ⟨rfl, rfl, rfl, by decide +kernel, rfl, by decide +kernel, by decide +kernel⟩
def b_divisors_of_row : EvS := mSeq (mSet 1 (mFz (mLstF (mCons (mC (.int 1)) (mNil))))) (mSeq (mFor (gT 2 (gsCons (gN 2) (gsCons (gN 3) (gsNil)))) (mItems (mVar 0)) (mSeq (mSetN [4, 5] (xOwn (mLstF (mNil)) (rVal (mC (.int 1)) (rNil)))) (mSeq (mFor (gN 6) (mRange1 (mBin dAdd (mVarB 3) (mC (.int 1)))) (mSeq (mExtend 4 (mFz (mLc [7] (gN 7) (mItems (mVar 1)) (mYes) (mBin dMul (mVarB 7) (mVarB 5))))) (mSet 5 (mBin dMul (mVarB 5) (mVarB 2))))) (mSet 1 (mFz (mCBF gList (mCons (mVarB 4) mNil))))))) (mRet (mVar 1)))
def m_divisors_of_row : EvE := mDef 8 b_divisors_of_row
theorem ok_divisors_of_row {P : Program} {w : World} {K : PySem.W.Frag} {mg : Str → Option Value} {base : Heap} {f : Addr} {fd : FuncData} (T : Tx mg) (F : Fun K "divisors_of_row" "divisors_of_row" s_divisors_of_row f fd) (gm : mg "divisors_of_row" = some (.ref f)) (hb : Binds K fd ["row"] [])  :
    DefOk P w K mg base "divisors_of_row" 1 1 m_divisors_of_row := by
  refine def_ok (k := 0) (N := ["row", "found", "p", "k", "late", "power", "lap", "d"]) (b := b_divisors_of_row) F sc_divisors_of_row rfl gm hb fun G X hX hr => ?_
  obtain ⟨cdv, A, outer, s, H, rfl⟩ := hX
  have sc := sc_divisors_of_row
  exact dss_cons (ds_set 1 (DF.de (df_lst (da_cons (de_int) (da_nil)))) sc.nd) (dss_cons (ds_for rfl (di_seq (de_var 0)) (dg_tup rfl (dgs_cons (dg_name 2 sc.nd) (dgs_cons (dg_name 3 sc.nd) (dgs_nil)))) (dss_cons (ds_parT [4, 5] rfl (pn_cons 4 (pn_cons 5 (pn_nil) sc.nd) sc.nd) (dx_own (df_lst (da_nil)) (dx_val (de_int) (dx_nil)))) (dss_cons (ds_for rfl (di_range1 (by rfl) T.n_range (de_add (db_var 3) (DE.db (de_int)))) (dg_name 6 sc.nd) (dss_cons (ds_extend 4 (DE.db (DF.de (df_lc [("d", 7)] rfl sc.nd (blkOk_by (N := ["row", "found", "p", "k", "late", "power", "lap", "d"]) (sc := defScope s_divisors_of_row) (by decide +kernel)) (di_seq (de_var 1)) (fun _ _ _ _ _ => dg_name 7 sc.nd) (fun _ _ _ _ _ => dts_nil) (fun _ _ _ _ _ => de_mul (db_var 7) (db_var 5)))))) (dss_one (ds_set 5 (de_mul (db_var 5) (db_var 2)) sc.nd)))) (dss_one (ds_set 1 (DF.de (df_listc (by rfl) T.n_list (db_var 4))) sc.nd))))) (dss_one (ds_ret (de_var 1))))

/-! odd_divisor_sum -/
abbrev s_odd_divisor_sum : Stmt := topS 13
theorem sc_odd_divisor_sum : FnScope ["n", "d"] ["n"] (defScope s_odd_divisor_sum) := ⟨rfl, rfl, rfl, by decide +kernel, rfl, by decide +kernel, by decide +kernel⟩
def b_odd_divisor_sum : EvS := mRet (mCB gSum (mCons (mFz (mLc [1] (gN 1) (mRange3 (mC (.int 1)) (mBin dAdd (mVarB 0) (mC (.int 1))) (mC (.int 2))) (mT (mBin dEq (mBin dMod (mVarB 0) (mVarB 1)) (mC (.int 0)))) (mVar 1))) mNil))
def m_odd_divisor_sum : EvE := mDef 2 b_odd_divisor_sum
theorem ok_odd_divisor_sum {P : Program} {w : World} {K : PySem.W.Frag} {mg : Str → Option Value} {base : Heap} {f : Addr} {fd : FuncData} (T : Tx mg) (F : Fun K "odd_divisor_sum" "odd_divisor_sum" s_odd_divisor_sum f fd) (gm : mg "odd_divisor_sum" = some (.ref f)) (hb : Binds K fd ["n"] [])  :
    DefOk P w K mg base "odd_divisor_sum" 1 1 m_odd_divisor_sum := by
  refine def_ok (k := 0) (N := ["n", "d"]) (b := b_odd_divisor_sum) F sc_odd_divisor_sum rfl gm hb fun G X hX hr => ?_
  obtain ⟨cdv, A, outer, s, H, rfl⟩ := hX
  have sc := sc_odd_divisor_sum
  exact dss_one (ds_ret (de_sum rfl (by rfl) T.n_sum (DE.db (DF.de (df_lc [("d", 1)] rfl sc.nd (blkOk_by (N := ["n", "d"]) (sc := defScope s_odd_divisor_sum) (by decide +kernel)) (di_range3 (by rfl) T.n_range (de_int) (de_add (db_var 0) (DE.db (de_int))) (de_int)) (fun _ _ _ _ _ => dg_name 1 sc.nd) (fun _ _ _ _ _ => dts_one (dt_eq hr (DE.db (de_mod (db_var 0) (db_var 1))) (DE.db (de_int)))) (fun _ _ _ _ _ => de_var 1))))))

/-! count_four_squares -/
abbrev s_count_four_squares : Stmt := topS 15
theorem sc_count_four_squares : FnScope ["n", "d"] ["n"] (defScope s_count_four_squares) := ⟨rfl, rfl, rfl, by decide +kernel, rfl, by decide +kernel, by decide +kernel⟩
def b_count_four_squares : EvS := mRet (mBin dMul (mC (.int 8)) (mCB gSum (mCons (mFz (mLc [1] (gN 1) (mRange2 (mC (.int 1)) (mBin dAdd (mVarB 0) (mC (.int 1)))) (mAnd (mT (mBin dEq (mBin dMod (mVarB 0) (mVarB 1)) (mC (.int 0)))) (mT (mBin dNe (mBin dMod (mVarB 1) (mC (.int 4))) (mC (.int 0))))) (mVar 1))) mNil)))
def m_count_four_squares : EvE := mDef 2 b_count_four_squares
theorem ok_count_four_squares {P : Program} {w : World} {K : PySem.W.Frag} {mg : Str → Option Value} {base : Heap} {f : Addr} {fd : FuncData} (T : Tx mg) (F : Fun K "count_four_squares" "count_four_squares" s_count_four_squares f fd) (gm : mg "count_four_squares" = some (.ref f)) (hb : Binds K fd ["n"] [])  :
    DefOk P w K mg base "count_four_squares" 1 1 m_count_four_squares := by
  refine def_ok (k := 0) (N := ["n", "d"]) (b := b_count_four_squares) F sc_count_four_squares rfl gm hb fun G X hX hr => ?_
  obtain ⟨cdv, A, outer, s, H, rfl⟩ := hX
  have sc := sc_count_four_squares
  exact dss_one (ds_ret (de_mul (DE.db (de_int)) (DE.db (de_sum rfl (by rfl) T.n_sum (DE.db (DF.de (df_lc [("d", 1)] rfl sc.nd (blkOk_by (N := ["n", "d"]) (sc := defScope s_count_four_squares) (by decide +kernel)) (di_range2 (by rfl) T.n_range (de_int) (de_add (db_var 0) (DE.db (de_int)))) (fun _ _ _ _ _ => dg_name 1 sc.nd) (fun _ _ _ _ _ => dts_one (DW.dt (dw_and (dt_eq hr (DE.db (de_mod (db_var 0) (db_var 1))) (DE.db (de_int))) (dw_and1 (dt_ne hr (DE.db (de_mod (db_var 1) (DE.db (de_int)))) (DE.db (de_int))))))) (fun _ _ _ _ _ => de_var 1))))))))

/-! _law_pick -/
abbrev s__law_pick : Stmt := topS 20
theorem sc__law_pick : FnScope ["source", "most", "cells", "others", "lap", "stirred"] ["source", "most"] (defScope s__law_pick) := ⟨rfl, rfl, rfl, by decide +kernel, rfl, by decide +kernel, by decide +kernel⟩
def b__law_pick : EvS := pickB
def m__law_pick : EvE := mDef 6 b__law_pick
theorem ok__law_pick {P : Program} {w : World} {K : PySem.W.Frag} {mg : Str → Option Value} {base : Heap} {f : Addr} {fd : FuncData} (T : Tx mg) (F : Fun K "_law_pick" "_law_pick" s__law_pick f fd) (gm : mg "_law_pick" = some (.ref f)) (hb : Binds K fd ["source", "most"] [])  :
    DefOk P w K mg base "_law_pick" 1 2 m__law_pick := by
  refine def_ok (k := 0) (N := ["source", "most", "cells", "others", "lap", "stirred"]) (b := b__law_pick) F sc__law_pick rfl gm hb fun G X hX hr => ?_
  obtain ⟨cdv, A, outer, s, H, rfl⟩ := hX
  have sc := sc__law_pick
  exact dss_cons (ds_if (dt_lt (db_var 1) (DE.db (de_int))) (dss_one (ds_ret (de_int))) (dss_nil)) (dss_cons (ds_cells 0 2 hr sc.nd) (dss_cons (ds_while 100000 (DW.dt (dw_and (dt_lt (DE.db (de_srcGet 0 .left hr)) (DE.db (de_int))) (dw_and1 (dt_gt (DE.db (de_lenCells 2 (by rfl) T.n_len)) (DE.db (de_int)))))) (dss_one (ds_srcPop 0 2 .left hr))) (dss_cons (ds_set 3 (de_srcGet 0 .left hr) sc.nd) (dss_cons (ds_if (dt_gt (db_var 3) (DE.db (de_int))) (dss_cons (ds_srcSet 0 .left hr (de_fdiv (db_var 3) (db_var 1))) (dss_one (ds_ret (de_mod (DE.db (de_intc (by rfl) T.n_int (db_var 3))) (db_var 1))))) (dss_nil)) (dss_cons (ds_srcSet 0 .turn hr (de_add (DE.db (de_srcGet 0 .turn hr)) (DE.db (de_int)))) (dss_cons (ds_set 4 (de_srcGet 0 .turn hr) sc.nd) (dss_cons (ds_set 5 (de_mod (DE.db (de_intc (by rfl) T.n_int (DE.db (de_add (DE.db (de_srcGet 0 .mixed hr)) (DE.db (de_mul (db_var 4) (DE.db (de_int)))))))) (DE.db (de_int))) sc.nd) (dss_cons (ds_set 5 (de_mod (DE.db (de_intc (by rfl) T.n_int (DE.db (de_add (DE.db (de_mul (db_var 5) (db_var 5))) (DE.db (de_mul (db_var 4) (DE.db (de_int)))))))) (DE.db (de_int))) sc.nd) (dss_one (ds_ret (de_mod (DE.db (de_intc (by rfl) T.n_int (DE.db (de_fdiv (db_var 5) (DE.db (de_int)))))) (db_var 1))))))))))))

/-! _law_two -/
abbrev s__law_two : Stmt := topS 21
theorem sc__law_two : FnScope ["n", "found", "x", "y"] ["n"] (defScope s__law_two) := ⟨rfl, rfl, rfl, by decide +kernel, rfl, by decide +kernel, by decide +kernel⟩
def b__law_two : EvS := mSeq (mSetN [1, 2] (rVal (mC (.int 0)) (rVal (mC (.int 0)) (rNil)))) (mSeq (mWhile (mT (mBin dLe (mBin dMul (mVarB 2) (mVarB 2)) (mVarB 0))) (mSeq (mSet 3 (mC (.int 0))) (mSeq (mWhile (mT (mBin dLt (mBin dAdd (mBin dMul (mVarB 2) (mVarB 2)) (mBin dMul (mVarB 3) (mVarB 3))) (mVarB 0))) (mSet 3 (mBin dAdd (mVarB 3) (mC (.int 1)))) 100000) (mSeq (mIfS (mT (mBin dEq (mBin dAdd (mBin dMul (mVarB 2) (mVarB 2)) (mBin dMul (mVarB 3) (mVarB 3))) (mVarB 0))) (mSet 1 (mBin dAdd (mVarB 1) (mBin dIx (mFz (mLstF (mCons (mC (.int 4)) (mCons (mC (.int 2)) (mCons (mC (.int 2)) (mCons (mC (.int 1)) (mNil))))))) (mBin dAdd (mBin dMul (mC (.int 2)) (mCB gInt (mCons (mBin dEq (mVarB 2) (mC (.int 0))) mNil))) (mCB gInt (mCons (mBin dEq (mVarB 3) (mC (.int 0))) mNil)))))) (mSkip)) (mSet 2 (mBin dAdd (mVarB 2) (mC (.int 1))))))) 100000) (mRet (mVar 1)))
def m__law_two : EvE := mDef 4 b__law_two
theorem ok__law_two {P : Program} {w : World} {K : PySem.W.Frag} {mg : Str → Option Value} {base : Heap} {f : Addr} {fd : FuncData} (T : Tx mg) (F : Fun K "_law_two" "_law_two" s__law_two f fd) (gm : mg "_law_two" = some (.ref f)) (hb : Binds K fd ["n"] [])  :
    DefOk P w K mg base "_law_two" 1 1 m__law_two := by
  refine def_ok (k := 0) (N := ["n", "found", "x", "y"]) (b := b__law_two) F sc__law_two rfl gm hb fun G X hX hr => ?_
  obtain ⟨cdv, A, outer, s, H, rfl⟩ := hX
  have sc := sc__law_two
  exact dss_cons (ds_parT [1, 2] rfl (pn_cons 1 (pn_cons 2 (pn_nil) sc.nd) sc.nd) (dx_val (de_int) (dx_val (de_int) (dx_nil)))) (dss_cons (ds_while 100000 (dt_le (DE.db (de_mul (db_var 2) (db_var 2))) (db_var 0)) (dss_cons (ds_set 3 (de_int) sc.nd) (dss_cons (ds_while 100000 (dt_lt (DE.db (de_add (DE.db (de_mul (db_var 2) (db_var 2))) (DE.db (de_mul (db_var 3) (db_var 3))))) (db_var 0)) (dss_one (ds_set 3 (de_add (db_var 3) (DE.db (de_int))) sc.nd))) (dss_cons (ds_if (dt_eq hr (DE.db (de_add (DE.db (de_mul (db_var 2) (db_var 2))) (DE.db (de_mul (db_var 3) (db_var 3))))) (db_var 0)) (dss_one (ds_set 1 (de_add (db_var 1) (DE.db (de_ix (DE.db (DF.de (df_lst (da_cons (de_int) (da_cons (de_int) (da_cons (de_int) (da_cons (de_int) (da_nil)))))))) (DE.db (de_add (DE.db (de_mul (DE.db (de_int)) (DE.db (de_intc (by rfl) T.n_int (DE.db (de_eq hr (db_var 2) (DE.db (de_int)))))))) (DE.db (de_intc (by rfl) T.n_int (DE.db (de_eq hr (db_var 3) (DE.db (de_int))))))))))) sc.nd)) (dss_nil)) (dss_one (ds_set 2 (de_add (db_var 2) (DE.db (de_int))) sc.nd)))))) (dss_one (ds_ret (de_var 1))))

/-! _law_hex -/
abbrev s__law_hex : Stmt := topS 22
theorem sc__law_hex : FnScope ["n", "found", "most", "x", "y"] ["n"] (defScope s__law_hex) := ⟨rfl, rfl, rfl, by decide +kernel, rfl, by decide +kernel, by decide +kernel⟩
def b__law_hex : EvS := mSeq (mSetN [1, 2] (rVal (mC (.int 0)) (rVal (mC (.int 1)) (rNil)))) (mSeq (mWhile (mT (mBin dLt (mBin dMul (mBin dMul (mC (.int 3)) (mVarB 2)) (mVarB 2)) (mBin dAdd (mBin dMul (mC (.int 4)) (mVarB 0)) (mC (.int 4))))) (mSet 2 (mBin dAdd (mVarB 2) (mC (.int 1)))) 100000) (mSeq (mFor (gN 3) (mRange2 (mBin dSub (mC (.int 0)) (mVarB 2)) (mBin dAdd (mVarB 2) (mC (.int 1)))) (mSet 1 (mBin dAdd (mVarB 1) (mCB gLen (mCons (mFz (mLc [4] (gN 4) (mRange2 (mBin dSub (mC (.int 0)) (mVarB 2)) (mBin dAdd (mVarB 2) (mC (.int 1)))) (mT (mBin dEq (mBin dAdd (mBin dAdd (mBin dMul (mVarB 3) (mVarB 3)) (mBin dMul (mVarB 3) (mVarB 4))) (mBin dMul (mVarB 4) (mVarB 4))) (mVarB 0))) (mVar 4))) mNil))))) (mRet (mVar 1))))
def m__law_hex : EvE := mDef 5 b__law_hex
theorem ok__law_hex {P : Program} {w : World} {K : PySem.W.Frag} {mg : Str → Option Value} {base : Heap} {f : Addr} {fd : FuncData} (T : Tx mg) (F : Fun K "_law_hex" "_law_hex" s__law_hex f fd) (gm : mg "_law_hex" = some (.ref f)) (hb : Binds K fd ["n"] [])  :
    DefOk P w K mg base "_law_hex" 1 1 m__law_hex := by
  refine def_ok (k := 0) (N := ["n", "found", "most", "x", "y"]) (b := b__law_hex) F sc__law_hex rfl gm hb fun G X hX hr => ?_
  obtain ⟨cdv, A, outer, s, H, rfl⟩ := hX
  have sc := sc__law_hex
  exact dss_cons (ds_parT [1, 2] rfl (pn_cons 1 (pn_cons 2 (pn_nil) sc.nd) sc.nd) (dx_val (de_int) (dx_val (de_int) (dx_nil)))) (dss_cons (ds_while 100000 (dt_lt (DE.db (de_mul (DE.db (de_mul (DE.db (de_int)) (db_var 2))) (db_var 2))) (DE.db (de_add (DE.db (de_mul (DE.db (de_int)) (db_var 0))) (DE.db (de_int))))) (dss_one (ds_set 2 (de_add (db_var 2) (DE.db (de_int))) sc.nd))) (dss_cons (ds_for rfl (di_range2 (by rfl) T.n_range (de_sub (DE.db (de_int)) (db_var 2)) (de_add (db_var 2) (DE.db (de_int)))) (dg_name 3 sc.nd) (dss_one (ds_set 1 (de_add (db_var 1) (DE.db (de_len (by rfl) T.n_len (DE.db (DF.de (df_lc [("y", 4)] rfl sc.nd (blkOk_by (N := ["n", "found", "most", "x", "y"]) (sc := defScope s__law_hex) (by decide +kernel)) (di_range2 (by rfl) T.n_range (de_sub (DE.db (de_int)) (db_var 2)) (de_add (db_var 2) (DE.db (de_int)))) (fun _ _ _ _ _ => dg_name 4 sc.nd) (fun _ _ _ _ _ => dts_one (dt_eq hr (DE.db (de_add (DE.db (de_add (DE.db (de_mul (db_var 3) (db_var 3))) (DE.db (de_mul (db_var 3) (db_var 4))))) (DE.db (de_mul (db_var 4) (db_var 4))))) (db_var 0))) (fun _ _ _ _ _ => de_var 4))))))) sc.nd))) (dss_one (ds_ret (de_var 1)))))

/-! points_within -/
abbrev s_points_within : Stmt := topS 2
theorem sc_points_within : FnScope ["n"] ["n"] (defScope s_points_within) := ⟨rfl, rfl, rfl, by decide +kernel, rfl, by decide +kernel, by decide +kernel⟩
def b_points_within : EvS := mRet (mBin dAdd (mC (.int 1)) (mBin dMul (mC (.int 4)) (mBin dSub (mCall 3 m_floors_by (rVal (mVar 0) (rVal (mC (.int 1)) (rVal (mC (.int 4)) (rNil))))) (mCall 3 m_floors_by (rVal (mVar 0) (rVal (mC (.int 3)) (rVal (mC (.int 4)) (rNil))))))))
def m_points_within : EvE := mDef 1 b_points_within
theorem ok_points_within {P : Program} {w : World} {K : PySem.W.Frag} {mg : Str → Option Value} {base : Heap} {f : Addr} {fd : FuncData} (T : Tx mg) (F : Fun K "points_within" "points_within" s_points_within f fd) (gm : mg "points_within" = some (.ref f)) (hb : Binds K fd ["n"] []) (h_floors_by : DefOk P w K mg base "floors_by" 1 3 m_floors_by) :
    DefOk P w K mg base "points_within" 2 1 m_points_within := by
  refine def_ok (k := 1) (N := ["n"]) (b := b_points_within) F sc_points_within rfl gm hb fun G X hX hr => ?_
  obtain ⟨cdv, A, outer, s, H, rfl⟩ := hX
  have sc := sc_points_within
  exact dss_one (ds_ret (de_add (DE.db (de_int)) (DE.db (de_mul (DE.db (de_int)) (DE.db (de_sub (DE.db (de_call h_floors_by (hr.mono (by decide)) (by rfl) (dr_val (de_var 0) (dr_val (de_int) (dr_val (de_int) (dr_nil)))))) (DE.db (de_call h_floors_by (hr.mono (by decide)) (by rfl) (dr_val (de_var 0) (dr_val (de_int) (dr_val (de_int) (dr_nil))))))))))))

/-! divisors_by_four -/
abbrev s_divisors_by_four : Stmt := topS 6
theorem sc_divisors_by_four : FnScope ["n", "some", "d"] ["n"] (defScope s_divisors_by_four) := ⟨rfl, rfl, rfl, by decide +kernel, rfl, by decide +kernel, by decide +kernel⟩
def b_divisors_by_four : EvS := mSeq (mSet 1 (mCall 1 m_divisors_of_row (rVal (mCall 1 m_prime_powers_in (rVal (mVar 0) (rNil))) (rNil)))) (mRet (mTup (mCons (mCB gLen (mCons (mFz (mLc [2] (gN 2) (mItems (mVar 1)) (mT (mBin dEq (mBin dMod (mVarB 2) (mC (.int 4))) (mC (.int 1)))) (mVar 2))) mNil)) (mCons (mCB gLen (mCons (mFz (mLc [2] (gN 2) (mItems (mVar 1)) (mT (mBin dEq (mBin dMod (mVarB 2) (mC (.int 4))) (mC (.int 3)))) (mVar 2))) mNil)) (mNil)))))
def m_divisors_by_four : EvE := mDef 3 b_divisors_by_four
theorem ok_divisors_by_four {P : Program} {w : World} {K : PySem.W.Frag} {mg : Str → Option Value} {base : Heap} {f : Addr} {fd : FuncData} (T : Tx mg) (F : Fun K "divisors_by_four" "divisors_by_four" s_divisors_by_four f fd) (gm : mg "divisors_by_four" = some (.ref f)) (hb : Binds K fd ["n"] []) (h_divisors_of_row : DefOk P w K mg base "divisors_of_row" 1 1 m_divisors_of_row) (h_prime_powers_in : DefOk P w K mg base "prime_powers_in" 1 1 m_prime_powers_in) :
    DefOk P w K mg base "divisors_by_four" 2 1 m_divisors_by_four := by
  refine def_ok (k := 1) (N := ["n", "some", "d"]) (b := b_divisors_by_four) F sc_divisors_by_four rfl gm hb fun G X hX hr => ?_
  obtain ⟨cdv, A, outer, s, H, rfl⟩ := hX
  have sc := sc_divisors_by_four
  exact dss_cons (ds_set 1 (de_call h_divisors_of_row (hr.mono (by decide)) (by rfl) (dr_val (de_call h_prime_powers_in (hr.mono (by decide)) (by rfl) (dr_val (de_var 0) (dr_nil))) (dr_nil))) sc.nd) (dss_one (ds_ret (de_tup (da_cons (de_len (by rfl) T.n_len (DE.db (DF.de (df_lc [("d", 2)] rfl sc.nd (blkOk_by (N := ["n", "some", "d"]) (sc := defScope s_divisors_by_four) (by decide +kernel)) (di_seq (de_var 1)) (fun _ _ _ _ _ => dg_name 2 sc.nd) (fun _ _ _ _ _ => dts_one (dt_eq hr (DE.db (de_mod (db_var 2) (DE.db (de_int)))) (DE.db (de_int)))) (fun _ _ _ _ _ => de_var 2))))) (da_cons (de_len (by rfl) T.n_len (DE.db (DF.de (df_lc [("d", 2)] rfl sc.nd (blkOk_by (N := ["n", "some", "d"]) (sc := defScope s_divisors_by_four) (by decide +kernel)) (di_seq (de_var 1)) (fun _ _ _ _ _ => dg_name 2 sc.nd) (fun _ _ _ _ _ => dts_one (dt_eq hr (DE.db (de_mod (db_var 2) (DE.db (de_int)))) (DE.db (de_int)))) (fun _ _ _ _ _ => de_var 2))))) (da_nil))))))

/-! divisors_by_three -/
abbrev s_divisors_by_three : Stmt := topS 10
theorem sc_divisors_by_three : FnScope ["n", "some", "d"] ["n"] (defScope s_divisors_by_three) := ⟨rfl, rfl, rfl, by decide +kernel, rfl, by decide +kernel, by decide +kernel⟩
def b_divisors_by_three : EvS := mSeq (mSet 1 (mCall 1 m_divisors_of_row (rVal (mCall 1 m_prime_powers_in (rVal (mVar 0) (rNil))) (rNil)))) (mRet (mTup (mCons (mCB gLen (mCons (mFz (mLc [2] (gN 2) (mItems (mVar 1)) (mT (mBin dEq (mBin dMod (mVarB 2) (mC (.int 3))) (mC (.int 1)))) (mVar 2))) mNil)) (mCons (mCB gLen (mCons (mFz (mLc [2] (gN 2) (mItems (mVar 1)) (mT (mBin dEq (mBin dMod (mVarB 2) (mC (.int 3))) (mC (.int 2)))) (mVar 2))) mNil)) (mNil)))))
def m_divisors_by_three : EvE := mDef 3 b_divisors_by_three
theorem ok_divisors_by_three {P : Program} {w : World} {K : PySem.W.Frag} {mg : Str → Option Value} {base : Heap} {f : Addr} {fd : FuncData} (T : Tx mg) (F : Fun K "divisors_by_three" "divisors_by_three" s_divisors_by_three f fd) (gm : mg "divisors_by_three" = some (.ref f)) (hb : Binds K fd ["n"] []) (h_divisors_of_row : DefOk P w K mg base "divisors_of_row" 1 1 m_divisors_of_row) (h_prime_powers_in : DefOk P w K mg base "prime_powers_in" 1 1 m_prime_powers_in) :
    DefOk P w K mg base "divisors_by_three" 2 1 m_divisors_by_three := by
  refine def_ok (k := 1) (N := ["n", "some", "d"]) (b := b_divisors_by_three) F sc_divisors_by_three rfl gm hb fun G X hX hr => ?_
  obtain ⟨cdv, A, outer, s, H, rfl⟩ := hX
  have sc := sc_divisors_by_three
  exact dss_cons (ds_set 1 (de_call h_divisors_of_row (hr.mono (by decide)) (by rfl) (dr_val (de_call h_prime_powers_in (hr.mono (by decide)) (by rfl) (dr_val (de_var 0) (dr_nil))) (dr_nil))) sc.nd) (dss_one (ds_ret (de_tup (da_cons (de_len (by rfl) T.n_len (DE.db (DF.de (df_lc [("d", 2)] rfl sc.nd (blkOk_by (N := ["n", "some", "d"]) (sc := defScope s_divisors_by_three) (by decide +kernel)) (di_seq (de_var 1)) (fun _ _ _ _ _ => dg_name 2 sc.nd) (fun _ _ _ _ _ => dts_one (dt_eq hr (DE.db (de_mod (db_var 2) (DE.db (de_int)))) (DE.db (de_int)))) (fun _ _ _ _ _ => de_var 2))))) (da_cons (de_len (by rfl) T.n_len (DE.db (DF.de (df_lc [("d", 2)] rfl sc.nd (blkOk_by (N := ["n", "some", "d"]) (sc := defScope s_divisors_by_three) (by decide +kernel)) (di_seq (de_var 1)) (fun _ _ _ _ _ => dg_name 2 sc.nd) (fun _ _ _ _ _ => dts_one (dt_eq hr (DE.db (de_mod (db_var 2) (DE.db (de_int)))) (DE.db (de_int)))) (fun _ _ _ _ _ => de_var 2))))) (da_nil))))))

/-! count_fours -/
abbrev s_count_fours : Stmt := topS 14
theorem sc_count_fours : FnScope ["n"] ["n"] (defScope s_count_fours) := ⟨rfl, rfl, rfl, by decide +kernel, rfl, by decide +kernel, by decide +kernel⟩
def b_count_fours : EvS := mRet (mBin dMul (mC (.int 24)) (mCall 1 m_odd_divisor_sum (rVal (mVar 0) (rNil))))
def m_count_fours : EvE := mDef 1 b_count_fours
theorem ok_count_fours {P : Program} {w : World} {K : PySem.W.Frag} {mg : Str → Option Value} {base : Heap} {f : Addr} {fd : FuncData} (T : Tx mg) (F : Fun K "count_fours" "count_fours" s_count_fours f fd) (gm : mg "count_fours" = some (.ref f)) (hb : Binds K fd ["n"] []) (h_odd_divisor_sum : DefOk P w K mg base "odd_divisor_sum" 1 1 m_odd_divisor_sum) :
    DefOk P w K mg base "count_fours" 2 1 m_count_fours := by
  refine def_ok (k := 1) (N := ["n"]) (b := b_count_fours) F sc_count_fours rfl gm hb fun G X hX hr => ?_
  obtain ⟨cdv, A, outer, s, H, rfl⟩ := hX
  have sc := sc_count_fours
  exact dss_one (ds_ret (de_mul (DE.db (de_int)) (DE.db (de_call h_odd_divisor_sum (hr.mono (by decide)) (by rfl) (dr_val (de_var 0) (dr_nil))))))

/-! hexes_within -/
abbrev s_hexes_within : Stmt := topS 17
theorem sc_hexes_within : FnScope ["n"] ["n"] (defScope s_hexes_within) := ⟨rfl, rfl, rfl, by decide +kernel, rfl, by decide +kernel, by decide +kernel⟩
def b_hexes_within : EvS := mRet (mBin dAdd (mC (.int 1)) (mBin dMul (mC (.int 6)) (mBin dSub (mCall 3 m_floors_by (rVal (mVar 0) (rVal (mC (.int 1)) (rVal (mC (.int 3)) (rNil))))) (mCall 3 m_floors_by (rVal (mVar 0) (rVal (mC (.int 2)) (rVal (mC (.int 3)) (rNil))))))))
def m_hexes_within : EvE := mDef 1 b_hexes_within
theorem ok_hexes_within {P : Program} {w : World} {K : PySem.W.Frag} {mg : Str → Option Value} {base : Heap} {f : Addr} {fd : FuncData} (T : Tx mg) (F : Fun K "hexes_within" "hexes_within" s_hexes_within f fd) (gm : mg "hexes_within" = some (.ref f)) (hb : Binds K fd ["n"] []) (h_floors_by : DefOk P w K mg base "floors_by" 1 3 m_floors_by) :
    DefOk P w K mg base "hexes_within" 2 1 m_hexes_within := by
  refine def_ok (k := 1) (N := ["n"]) (b := b_hexes_within) F sc_hexes_within rfl gm hb fun G X hX hr => ?_
  obtain ⟨cdv, A, outer, s, H, rfl⟩ := hX
  have sc := sc_hexes_within
  exact dss_one (ds_ret (de_add (DE.db (de_int)) (DE.db (de_mul (DE.db (de_int)) (DE.db (de_sub (DE.db (de_call h_floors_by (hr.mono (by decide)) (by rfl) (dr_val (de_var 0) (dr_val (de_int) (dr_val (de_int) (dr_nil)))))) (DE.db (de_call h_floors_by (hr.mono (by decide)) (by rfl) (dr_val (de_var 0) (dr_val (de_int) (dr_val (de_int) (dr_nil))))))))))))

/-! count_first_ways -/
abbrev s_count_first_ways : Stmt := topS 7
theorem sc_count_first_ways : FnScope ["n", "one", "three"] ["n"] (defScope s_count_first_ways) := ⟨rfl, rfl, rfl, by decide +kernel, rfl, by decide +kernel, by decide +kernel⟩
def b_count_first_ways : EvS := mSeq (mAsg (gT 2 (gsCons (gN 1) (gsCons (gN 2) (gsNil)))) (mCall 1 m_divisors_by_four (rVal (mVar 0) (rNil)))) (mRet (mBin dSub (mVarB 1) (mVarB 2)))
def m_count_first_ways : EvE := mDef 3 b_count_first_ways
theorem ok_count_first_ways {P : Program} {w : World} {K : PySem.W.Frag} {mg : Str → Option Value} {base : Heap} {f : Addr} {fd : FuncData} (T : Tx mg) (F : Fun K "count_first_ways" "count_first_ways" s_count_first_ways f fd) (gm : mg "count_first_ways" = some (.ref f)) (hb : Binds K fd ["n"] []) (h_divisors_by_four : DefOk P w K mg base "divisors_by_four" 2 1 m_divisors_by_four) :
    DefOk P w K mg base "count_first_ways" 3 1 m_count_first_ways := by
  refine def_ok (k := 2) (N := ["n", "one", "three"]) (b := b_count_first_ways) F sc_count_first_ways rfl gm hb fun G X hX hr => ?_
  obtain ⟨cdv, A, outer, s, H, rfl⟩ := hX
  have sc := sc_count_first_ways
  exact dss_cons (ds_asg (de_call h_divisors_by_four (hr.mono (by decide)) (by rfl) (dr_val (de_var 0) (dr_nil))) (dg_tup rfl (dgs_cons (dg_name 1 sc.nd) (dgs_cons (dg_name 2 sc.nd) (dgs_nil))))) (dss_one (ds_ret (de_sub (db_var 1) (db_var 2))))

/-! hex_count -/
abbrev s_hex_count : Stmt := topS 11
theorem sc_hex_count : FnScope ["n", "one", "two"] ["n"] (defScope s_hex_count) := ⟨rfl, rfl, rfl, by decide +kernel, rfl, by decide +kernel, by decide +kernel⟩
def b_hex_count : EvS := mSeq (mAsg (gT 2 (gsCons (gN 1) (gsCons (gN 2) (gsNil)))) (mCall 1 m_divisors_by_three (rVal (mVar 0) (rNil)))) (mRet (mBin dSub (mVarB 1) (mVarB 2)))
def m_hex_count : EvE := mDef 3 b_hex_count
theorem ok_hex_count {P : Program} {w : World} {K : PySem.W.Frag} {mg : Str → Option Value} {base : Heap} {f : Addr} {fd : FuncData} (T : Tx mg) (F : Fun K "hex_count" "hex_count" s_hex_count f fd) (gm : mg "hex_count" = some (.ref f)) (hb : Binds K fd ["n"] []) (h_divisors_by_three : DefOk P w K mg base "divisors_by_three" 2 1 m_divisors_by_three) :
    DefOk P w K mg base "hex_count" 3 1 m_hex_count := by
  refine def_ok (k := 2) (N := ["n", "one", "two"]) (b := b_hex_count) F sc_hex_count rfl gm hb fun G X hX hr => ?_
  obtain ⟨cdv, A, outer, s, H, rfl⟩ := hX
  have sc := sc_hex_count
  exact dss_cons (ds_asg (de_call h_divisors_by_three (hr.mono (by decide)) (by rfl) (dr_val (de_var 0) (dr_nil))) (dg_tup rfl (dgs_cons (dg_name 1 sc.nd) (dgs_cons (dg_name 2 sc.nd) (dgs_nil))))) (dss_one (ds_ret (de_sub (db_var 1) (db_var 2))))

/-! count_ways -/
abbrev s_count_ways : Stmt := topS 8
theorem sc_count_ways : FnScope ["n"] ["n"] (defScope s_count_ways) := ⟨rfl, rfl, rfl, by decide +kernel, rfl, by decide +kernel, by decide +kernel⟩
def b_count_ways : EvS := mRet (mBin dMul (mC (.int 4)) (mCall 1 m_count_first_ways (rVal (mVar 0) (rNil))))
def m_count_ways : EvE := mDef 1 b_count_ways
theorem ok_count_ways {P : Program} {w : World} {K : PySem.W.Frag} {mg : Str → Option Value} {base : Heap} {f : Addr} {fd : FuncData} (T : Tx mg) (F : Fun K "count_ways" "count_ways" s_count_ways f fd) (gm : mg "count_ways" = some (.ref f)) (hb : Binds K fd ["n"] []) (h_count_first_ways : DefOk P w K mg base "count_first_ways" 3 1 m_count_first_ways) :
    DefOk P w K mg base "count_ways" 4 1 m_count_ways := by
  refine def_ok (k := 3) (N := ["n"]) (b := b_count_ways) F sc_count_ways rfl gm hb fun G X hX hr => ?_
  obtain ⟨cdv, A, outer, s, H, rfl⟩ := hX
  have sc := sc_count_ways
  exact dss_one (ds_ret (de_mul (DE.db (de_int)) (DE.db (de_call h_count_first_ways (hr.mono (by decide)) (by rfl) (dr_val (de_var 0) (dr_nil))))))

/-! law -/
abbrev s_law : Stmt := topS 23
theorem sc_law : FnScope ["script", "source", "n", "twos", "m", "k"] ["script"] (defScope s_law) := ⟨rfl, rfl, rfl, by decide +kernel, rfl, by decide +kernel, by decide +kernel⟩
def b_law : EvS := mSeq (mSet 2 (mBin dAdd (mC (.int 1)) (mCall 2 m__law_pick (rSrc 1 (rVal (mC (.int 200)) (rNil)))))) (mSeq (mSet 3 (mFz (mLc [5] (gN 5) (mRange1 (mBin dAdd (mVarB 2) (mC (.int 1)))) (mYes) (mCall 1 m__law_two (rVal (mVar 5) (rNil)))))) (mSeq (mIfS (mOr (mT (mBin dNe (mCall 1 m_count_ways (rVal (mVar 2) (rNil))) (mBin dIx (mVarB 3) (mVarB 2)))) (mT (mBin dNe (mCall 1 m_points_within (rVal (mVar 2) (rNil))) (mCB gSum (mCons (mVarB 3) mNil))))) (mRet (mC (.bool false))) (mSkip)) (mSeq (mIfS (mT (mCB gAny (mCons (mFz (mLc [5] (gN 5) (mRange2 (mC (.int 1)) (mCB gMin2 (mCons (mVarB 2) (mCons (mC (.int 40)) mNil)))) (mYes) (mBin dNe (mCall 1 m_count_ways (rVal (mVar 5) (rNil))) (mBin dIx (mVarB 3) (mVarB 5))))) mNil))) (mRet (mC (.bool false))) (mSkip)) (mSeq (mSet 4 (mBin dAdd (mC (.int 1)) (mCall 2 m__law_pick (rSrc 1 (rVal (mC (.int 60)) (rNil)))))) (mSeq (mIfS (mOr (mT (mBin dNe (mBin dMul (mC (.int 6)) (mCall 1 m_hex_count (rVal (mVar 4) (rNil)))) (mCall 1 m__law_hex (rVal (mVar 4) (rNil))))) (mT (mBin dNe (mCall 1 m_hexes_within (rVal (mVar 4) (rNil))) (mBin dAdd (mC (.int 1)) (mBin dMul (mC (.int 6)) (mCB gSum (mCons (mFz (mLc [5] (gN 5) (mRange2 (mC (.int 1)) (mBin dAdd (mVarB 4) (mC (.int 1)))) (mYes) (mCall 1 m_hex_count (rVal (mVar 5) (rNil))))) mNil))))))) (mRet (mC (.bool false))) (mSkip)) (mSeq (mIfS (mT (mBin dNe (mCall 1 m_count_four_squares (rVal (mVar 2) (rNil))) (mCB gSum (mCons (mFz (mLc [5] (gN 5) (mRange1 (mBin dAdd (mVarB 2) (mC (.int 1)))) (mYes) (mBin dMul (mBin dIx (mVarB 3) (mVarB 5)) (mBin dIx (mVarB 3) (mBin dSub (mVarB 2) (mVarB 5)))))) mNil)))) (mRet (mC (.bool false))) (mSkip)) (mRet (mBin dEq (mCall 1 m_count_fours (rVal (mVar 2) (rNil))) (mCall 1 m_count_four_squares (rVal (mBin dMul (mC (.int 4)) (mVarB 2)) (rNil)))))))))))

/-! the cells opened -/
abbrev s_open : Stmt := topS 19
theorem sc_open : FnScope ["script", "stirred", "cell", "cells"] ["script"] (defScope s_open) := ⟨rfl, rfl, rfl, by decide +kernel, rfl, by decide +kernel, by decide +kernel⟩
theorem ok_open {P : Program} {w : World} {K : PySem.W.Frag} {mg : Str → Option Value} {base : Heap} {f : Addr} {fd : FuncData} (T : Tx mg) (F : Fun K "_law_open_cells" "_law_open_cells" s_open f fd) : FnG P w K mg base 1 f fd ["script"] (spOpen K) := by
  have sc := sc_open
  refine fn_ofG (k := 0) (N := ["script", "stirred", "cell", "cells"]) F sc (fun vs H Q h => ?_) (fun cdv A outer s H vs Q hr h => ?_)
  · obtain ⟨a, ns, rfl, _⟩ := h; rfl
  · obtain ⟨a, ns, rfl, hS, hl, q⟩ := h
    refine ⟨_, pss_cons (ps_set (i := 1) sc.nd rfl (.inl rfl) pe_int) (pss_cons (ps_for PassesOwn.never rfl (pi_list (pv 0)) (pg_name (i := 2) sc.nd rfl (.inl rfl))
        (pss_one (ps_set (i := 1) sc.nd rfl (.inl rfl) (pe_op op_mod (pe_callTy call_int1 (by rfl) T.n_int (by decide +kernel) (pa_cons (pe_op op_add (pe_op op_add (pe_op op_mul (pv 1) pe_int) (pe_op op_mul (pv 2) pe_int)) pe_int) pa_nil)) pe_int))))
      (pss_cons (ps_setLc (i := 3) (own := [("cell", 2)]) (g := gName 2) (tt := tYes) rfl sc.nd rfl rfl (sw_true rfl rfl rfl (by decide +kernel)) (pi_list (pv 0)) (blkOk_by (N := ["script", "stirred", "cell", "cells"]) (sc := defScope s_open) (by decide +kernel))
          (fun _ _ _ _ _ => pg_name (i := 2) sc.nd rfl (Or.inl rfl)) (fun _ _ _ _ _ => pts_nil) (fun _ _ _ _ _ => pe_callB call_abs (by rfl) T.n_abs (by decide +kernel) (pa_cons (pv 2) pa_nil)))
      (pss_one (ps_ret (pe_disp (pps_cons pe_str (pe_revL (pv 3)) (pps_cons pe_str pe_int (pps_cons pe_str (pv 1) (pps_cons pe_str pe_int pps_nil)))) rfl rfl (by simp) (by decide)))))), ?_⟩
    refine ⟨.ref a, rfl, a, rfl, ⟨_, hS⟩, for_list (xs := ns.map V.int) (fun _ σ H' => ∃ (z : Int) (y : Option V), σ = [some (.ref a), some (.int z), y, none] ∧ H' = H) ⟨11, none, rfl, rfl⟩ (fun i σ H' _ h => by obtain ⟨z, y, _, rfl⟩ := h; exact hS) (fun i x σ H' hx h => ?_) (fun σ H' h => ?_)⟩
    · obtain ⟨z, y, rfl, rfl⟩ := h
      rw [List.getElem?_map] at hx
      obtain ⟨c, _, rfl⟩ := Option.map_eq_some_iff.mp hx
      exact ⟨_, rfl, _, _, rfl, rfl, .inr ⟨by decide, by decide⟩, _, rfl, _, _, rfl, rfl, .inr ⟨by decide, by decide⟩, _, _, rfl, rfl, _, _, rfl, rfl, .inl ⟨_, rfl, _, _, rfl, rfl, (by show (0 : Int) < 2147483629; decide), _, _, rfl, rfl⟩⟩
    · obtain ⟨z, y, rfl, rfl⟩ := h
      refine ⟨.ref a, rfl, a, rfl, ⟨_, hS⟩, fun D hD => ?_⟩
      have sm0 : Same H' (upd H' D (.lst [])) := fun b o e => by rw [upd_ne (ne_of_none e hD)]; exact e
      refine lc_list (xs := ns.map V.int) (fun i H2 => (∀ b, b ≠ D → H2 b = H' b) ∧ H2 D = some (.lst ((ns.take i).map fun c => V.int (if c < 0 then -c else c)))) ⟨fun b nb => upd_ne nb, upd_same⟩ (fun i H2 _ h => ?_) (fun i x H2 hx h => ?_) (fun H2 h => ?_)
      · exact Same.seq (fun b o e => by rw [h.1 b (ne_of_none e hD)]; exact e) hS
      · rw [List.getElem?_map] at hx
        obtain ⟨c, hc, rfl⟩ := Option.map_eq_some_iff.mp hx
        refine ⟨rfl, ?_⟩
        simp only [tYes, ↓reduceIte]
        refine ⟨_, rfl, c, rfl, _, h.2, ?_, fun b nb => by rw [upd_ne nb]; exact h.1 b nb, ?_⟩
        · rw [List.length_map, List.length_take, ← line_eq]
          have : min i ns.length ≤ 63 := by omega
          show _ < 16777216
          omega
        · rw [upd_same, List.take_add_one, hc, List.map_append]; rfl
      · have e1 : (List.map V.int ns).length = ns.length := by simp
        obtain ⟨h1, h2⟩ := h
        rw [e1, List.take_length] at h2
        have h3 : H2 D = some (.lst ((ns.map fun c => if c < 0 then -c else c).map V.int)) := by rw [h2, List.map_map]; rfl
        refine fun p np => ⟨.ref D, rfl, D, _, rfl, SqL.of (by rw [upd_ne (ne_of_none h3 np)]; exact h3), fun c nc => ?_⟩
        have npc : p ≠ c := fun e => by rw [← e, upd_same] at nc; cases nc
        have nc2 : H2 c = none := by rw [upd_ne (Ne.symm npc)] at nc; exact nc
        have sm : Same H' H2 := fun b o e => by rw [h1 b (ne_of_none e hD)]; exact e
        refine ⟨_, rfl, by rw [upd_ne npc, upd_same], [(.inr "cells", .ref c), (.inr "left", .int 1), (.inr "mixed", .int z), (.inr "turn", .int 0)], rfl, by simp, ?_⟩
        refine q _ p c ⟨(ns.map fun c => if c < 0 then -c else c).reverse, 1, z, 0⟩ (by simpa using hl) (fun b o e => ?_) (sm.free np) (sm.free nc2) npc upd_same ?_
        · have e2 := sm _ _ e
          rw [upd_ne (ne_of_none e2 np), upd_ne (ne_of_none e2 nc2), upd_ne (ne_of_none e2 np)]
          exact e2
        · rw [upd_ne (Ne.symm npc), upd_same, List.map_reverse]

theorem ok_law {P : Program} {w : World} {K : PySem.W.Frag} {mg : Str → Option Value} {base : Heap} {f fo : Addr} {fd fdo : FuncData} (T : Tx mg) (F : Fun K "law" "law" s_law f fd)
    (Fo : FnG P w K mg base 1 fo fdo ["script"] (spOpen K)) (go : mg "_law_open_cells" = some (.ref fo)) (ko : PySem.W.keepIn K (.ref fo) = true) (bo : Binds K fdo ["script"] []) (h__law_hex : DefOk P w K mg base "_law_hex" 1 1 m__law_hex) (h__law_pick : DefOk P w K mg base "_law_pick" 1 2 m__law_pick) (h__law_two : DefOk P w K mg base "_law_two" 1 1 m__law_two) (h_count_four_squares : DefOk P w K mg base "count_four_squares" 1 1 m_count_four_squares) (h_count_fours : DefOk P w K mg base "count_fours" 2 1 m_count_fours) (h_count_ways : DefOk P w K mg base "count_ways" 4 1 m_count_ways) (h_hex_count : DefOk P w K mg base "hex_count" 3 1 m_hex_count) (h_hexes_within : DefOk P w K mg base "hexes_within" 2 1 m_hexes_within) (h_points_within : DefOk P w K mg base "points_within" 2 1 m_points_within)
    (hb : ∀ S, S.cells.length ≤ 63 → ∃ S', b_law (env0 4) S = some (.rt (.bool true), S')) : FnG P w K mg base 5 f fd ["script"] (spLaw K) := by
  refine fn_ofG (k := 4) (N := ["script", "source", "n", "twos", "m", "k"]) F sc_law (fun vs H Q h => ?_) (fun cdv A outer s H vs Q hr h => ?_)
  · obtain ⟨a, xs, rfl, _⟩ := h; rfl
  · obtain ⟨a, xs, rfl, hS, hl, q⟩ := h
    have sc := sc_law
    refine ⟨_, pss_cons (ps_set (i := 1) sc.nd rfl (.inl rfl) (pe_callG Fo (hr.mono (by decide)) (by rfl) go ko bo (pa_cons (pv 0) pa_nil))) (dss_any (b := b_law) fun G => ?_), ?_⟩
    · exact dss_cons (ds_set 2 (de_add (DE.db (de_int)) (DE.db (de_call h__law_pick (hr.mono (by decide)) (by rfl) (dr_src 1 (dr_val (de_int) (dr_nil)))))) sc.nd) (dss_cons (ds_set 3 (DF.de (df_lc [("k", 5)] rfl sc.nd (blkOk_by (N := ["script", "source", "n", "twos", "m", "k"]) (sc := defScope s_law) (by decide +kernel)) (di_range1 (by rfl) T.n_range (de_add (db_var 2) (DE.db (de_int)))) (fun _ _ _ _ _ => dg_name 5 sc.nd) (fun _ _ _ _ _ => dts_nil) (fun _ _ _ _ _ => de_call h__law_two (hr.mono (by decide)) (by rfl) (dr_val (de_var 5) (dr_nil))))) sc.nd) (dss_cons (ds_if (DW.dt (dw_or (dt_ne hr (DE.db (de_call h_count_ways (hr.mono (by decide)) (by rfl) (dr_val (de_var 2) (dr_nil)))) (DE.db (de_ix (db_var 3) (db_var 2)))) (dw_or1 (dt_ne hr (DE.db (de_call h_points_within (hr.mono (by decide)) (by rfl) (dr_val (de_var 2) (dr_nil)))) (DE.db (de_sum rfl (by rfl) T.n_sum (db_var 3))))))) (dss_one (ds_ret (de_bl))) (dss_nil)) (dss_cons (ds_if (dt_val (de_any rfl (by rfl) T.n_any (DE.db (DF.de (df_lc [("k", 5)] rfl sc.nd (blkOk_by (N := ["script", "source", "n", "twos", "m", "k"]) (sc := defScope s_law) (by decide +kernel)) (di_range2 (by rfl) T.n_range (de_int) (de_min2 rfl (by rfl) T.n_min (db_var 2) (DE.db (de_int)))) (fun _ _ _ _ _ => dg_name 5 sc.nd) (fun _ _ _ _ _ => dts_nil) (fun _ _ _ _ _ => de_ne hr (DE.db (de_call h_count_ways (hr.mono (by decide)) (by rfl) (dr_val (de_var 5) (dr_nil)))) (DE.db (de_ix (db_var 3) (db_var 5))))))))) (dss_one (ds_ret (de_bl))) (dss_nil)) (dss_cons (ds_set 4 (de_add (DE.db (de_int)) (DE.db (de_call h__law_pick (hr.mono (by decide)) (by rfl) (dr_src 1 (dr_val (de_int) (dr_nil)))))) sc.nd) (dss_cons (ds_if (DW.dt (dw_or (dt_ne hr (DE.db (de_mul (DE.db (de_int)) (DE.db (de_call h_hex_count (hr.mono (by decide)) (by rfl) (dr_val (de_var 4) (dr_nil)))))) (DE.db (de_call h__law_hex (hr.mono (by decide)) (by rfl) (dr_val (de_var 4) (dr_nil))))) (dw_or1 (dt_ne hr (DE.db (de_call h_hexes_within (hr.mono (by decide)) (by rfl) (dr_val (de_var 4) (dr_nil)))) (DE.db (de_add (DE.db (de_int)) (DE.db (de_mul (DE.db (de_int)) (DE.db (de_sum rfl (by rfl) T.n_sum (DE.db (DF.de (df_lc [("k", 5)] rfl sc.nd (blkOk_by (N := ["script", "source", "n", "twos", "m", "k"]) (sc := defScope s_law) (by decide +kernel)) (di_range2 (by rfl) T.n_range (de_int) (de_add (db_var 4) (DE.db (de_int)))) (fun _ _ _ _ _ => dg_name 5 sc.nd) (fun _ _ _ _ _ => dts_nil) (fun _ _ _ _ _ => de_call h_hex_count (hr.mono (by decide)) (by rfl) (dr_val (de_var 5) (dr_nil)))))))))))))))) (dss_one (ds_ret (de_bl))) (dss_nil)) (dss_cons (ds_if (dt_ne hr (DE.db (de_call h_count_four_squares (hr.mono (by decide)) (by rfl) (dr_val (de_var 2) (dr_nil)))) (DE.db (de_sum rfl (by rfl) T.n_sum (DE.db (DF.de (df_lc [("k", 5)] rfl sc.nd (blkOk_by (N := ["script", "source", "n", "twos", "m", "k"]) (sc := defScope s_law) (by decide +kernel)) (di_range1 (by rfl) T.n_range (de_add (db_var 2) (DE.db (de_int)))) (fun _ _ _ _ _ => dg_name 5 sc.nd) (fun _ _ _ _ _ => dts_nil) (fun _ _ _ _ _ => de_mul (DE.db (de_ix (db_var 3) (db_var 5))) (DE.db (de_ix (db_var 3) (DE.db (de_sub (db_var 2) (db_var 5)))))))))))) (dss_one (ds_ret (de_bl))) (dss_nil)) (dss_one (ds_ret (de_eq hr (DE.db (de_call h_count_fours (hr.mono (by decide)) (by rfl) (dr_val (de_var 2) (dr_nil)))) (DE.db (de_call h_count_four_squares (hr.mono (by decide)) (by rfl) (dr_val (de_mul (DE.db (de_int)) (db_var 2)) (dr_nil)))))))))))))
    · exact law_go (n := 4) (N := ["script", "source", "n", "twos", "m", "k"]) rfl hb hS hl q

/-! the head -/
theorem all_mk {l : PySem.W.OpenLaw} {w : World} {K : PySem.W.Frag} {h : Heap} {mg : Str → Option Value} {fa : Addr} (X : K.In h) (G : h.Ns mainGlobals mg) (hfa : mg "law" = some (.ref fa))
    {f0 : Addr} {od0 an0 : Option Addr} {sl0 : Array (Option Value)} {oc0 kV0 dc0 pm0 cd0 ct0 : Value} (a0 : PySem.W.nsIn K mainGlobals "floors_by" = some (some (.ref f0))) (l0 : K.lookup f0 = some ⟨oc0, od0, .func (PySem.W.fnOf "floors_by" "floors_by" (defArgs s_floors_by) (defBody s_floors_by) (defScope s_floors_by) .none kV0 dc0 pm0 an0 cd0 ct0), sl0⟩) (c0 : PySem.W.codeIn K cd0 "floors_by" = true) (k0 : PySem.W.keepIn K (.ref f0) = true)
    {f1 : Addr} {od1 an1 : Option Addr} {sl1 : Array (Option Value)} {oc1 kV1 dc1 pm1 cd1 ct1 : Value} (a1 : PySem.W.nsIn K mainGlobals "prime_powers_in" = some (some (.ref f1))) (l1 : K.lookup f1 = some ⟨oc1, od1, .func (PySem.W.fnOf "prime_powers_in" "prime_powers_in" (defArgs s_prime_powers_in) (defBody s_prime_powers_in) (defScope s_prime_powers_in) .none kV1 dc1 pm1 an1 cd1 ct1), sl1⟩) (c1 : PySem.W.codeIn K cd1 "prime_powers_in" = true) (k1 : PySem.W.keepIn K (.ref f1) = true)
    {f2 : Addr} {od2 an2 : Option Addr} {sl2 : Array (Option Value)} {oc2 kV2 dc2 pm2 cd2 ct2 : Value} (a2 : PySem.W.nsIn K mainGlobals "divisors_of_row" = some (some (.ref f2))) (l2 : K.lookup f2 = some ⟨oc2, od2, .func (PySem.W.fnOf "divisors_of_row" "divisors_of_row" (defArgs s_divisors_of_row) (defBody s_divisors_of_row) (defScope s_divisors_of_row) .none kV2 dc2 pm2 an2 cd2 ct2), sl2⟩) (c2 : PySem.W.codeIn K cd2 "divisors_of_row" = true) (k2 : PySem.W.keepIn K (.ref f2) = true)
    {f3 : Addr} {od3 an3 : Option Addr} {sl3 : Array (Option Value)} {oc3 kV3 dc3 pm3 cd3 ct3 : Value} (a3 : PySem.W.nsIn K mainGlobals "odd_divisor_sum" = some (some (.ref f3))) (l3 : K.lookup f3 = some ⟨oc3, od3, .func (PySem.W.fnOf "odd_divisor_sum" "odd_divisor_sum" (defArgs s_odd_divisor_sum) (defBody s_odd_divisor_sum) (defScope s_odd_divisor_sum) .none kV3 dc3 pm3 an3 cd3 ct3), sl3⟩) (c3 : PySem.W.codeIn K cd3 "odd_divisor_sum" = true) (k3 : PySem.W.keepIn K (.ref f3) = true)
    {f4 : Addr} {od4 an4 : Option Addr} {sl4 : Array (Option Value)} {oc4 kV4 dc4 pm4 cd4 ct4 : Value} (a4 : PySem.W.nsIn K mainGlobals "count_four_squares" = some (some (.ref f4))) (l4 : K.lookup f4 = some ⟨oc4, od4, .func (PySem.W.fnOf "count_four_squares" "count_four_squares" (defArgs s_count_four_squares) (defBody s_count_four_squares) (defScope s_count_four_squares) .none kV4 dc4 pm4 an4 cd4 ct4), sl4⟩) (c4 : PySem.W.codeIn K cd4 "count_four_squares" = true) (k4 : PySem.W.keepIn K (.ref f4) = true)
    {f5 : Addr} {od5 an5 : Option Addr} {sl5 : Array (Option Value)} {oc5 kV5 dc5 pm5 cd5 ct5 : Value} (a5 : PySem.W.nsIn K mainGlobals "_law_pick" = some (some (.ref f5))) (l5 : K.lookup f5 = some ⟨oc5, od5, .func (PySem.W.fnOf "_law_pick" "_law_pick" (defArgs s__law_pick) (defBody s__law_pick) (defScope s__law_pick) .none kV5 dc5 pm5 an5 cd5 ct5), sl5⟩) (c5 : PySem.W.codeIn K cd5 "_law_pick" = true) (k5 : PySem.W.keepIn K (.ref f5) = true)
    {f6 : Addr} {od6 an6 : Option Addr} {sl6 : Array (Option Value)} {oc6 kV6 dc6 pm6 cd6 ct6 : Value} (a6 : PySem.W.nsIn K mainGlobals "_law_two" = some (some (.ref f6))) (l6 : K.lookup f6 = some ⟨oc6, od6, .func (PySem.W.fnOf "_law_two" "_law_two" (defArgs s__law_two) (defBody s__law_two) (defScope s__law_two) .none kV6 dc6 pm6 an6 cd6 ct6), sl6⟩) (c6 : PySem.W.codeIn K cd6 "_law_two" = true) (k6 : PySem.W.keepIn K (.ref f6) = true)
    {f7 : Addr} {od7 an7 : Option Addr} {sl7 : Array (Option Value)} {oc7 kV7 dc7 pm7 cd7 ct7 : Value} (a7 : PySem.W.nsIn K mainGlobals "_law_hex" = some (some (.ref f7))) (l7 : K.lookup f7 = some ⟨oc7, od7, .func (PySem.W.fnOf "_law_hex" "_law_hex" (defArgs s__law_hex) (defBody s__law_hex) (defScope s__law_hex) .none kV7 dc7 pm7 an7 cd7 ct7), sl7⟩) (c7 : PySem.W.codeIn K cd7 "_law_hex" = true) (k7 : PySem.W.keepIn K (.ref f7) = true)
    {f8 : Addr} {od8 an8 : Option Addr} {sl8 : Array (Option Value)} {oc8 kV8 dc8 pm8 cd8 ct8 : Value} (a8 : PySem.W.nsIn K mainGlobals "points_within" = some (some (.ref f8))) (l8 : K.lookup f8 = some ⟨oc8, od8, .func (PySem.W.fnOf "points_within" "points_within" (defArgs s_points_within) (defBody s_points_within) (defScope s_points_within) .none kV8 dc8 pm8 an8 cd8 ct8), sl8⟩) (c8 : PySem.W.codeIn K cd8 "points_within" = true) (k8 : PySem.W.keepIn K (.ref f8) = true)
    {f9 : Addr} {od9 an9 : Option Addr} {sl9 : Array (Option Value)} {oc9 kV9 dc9 pm9 cd9 ct9 : Value} (a9 : PySem.W.nsIn K mainGlobals "divisors_by_four" = some (some (.ref f9))) (l9 : K.lookup f9 = some ⟨oc9, od9, .func (PySem.W.fnOf "divisors_by_four" "divisors_by_four" (defArgs s_divisors_by_four) (defBody s_divisors_by_four) (defScope s_divisors_by_four) .none kV9 dc9 pm9 an9 cd9 ct9), sl9⟩) (c9 : PySem.W.codeIn K cd9 "divisors_by_four" = true) (k9 : PySem.W.keepIn K (.ref f9) = true)
    {f10 : Addr} {od10 an10 : Option Addr} {sl10 : Array (Option Value)} {oc10 kV10 dc10 pm10 cd10 ct10 : Value} (a10 : PySem.W.nsIn K mainGlobals "divisors_by_three" = some (some (.ref f10))) (l10 : K.lookup f10 = some ⟨oc10, od10, .func (PySem.W.fnOf "divisors_by_three" "divisors_by_three" (defArgs s_divisors_by_three) (defBody s_divisors_by_three) (defScope s_divisors_by_three) .none kV10 dc10 pm10 an10 cd10 ct10), sl10⟩) (c10 : PySem.W.codeIn K cd10 "divisors_by_three" = true) (k10 : PySem.W.keepIn K (.ref f10) = true)
    {f11 : Addr} {od11 an11 : Option Addr} {sl11 : Array (Option Value)} {oc11 kV11 dc11 pm11 cd11 ct11 : Value} (a11 : PySem.W.nsIn K mainGlobals "count_fours" = some (some (.ref f11))) (l11 : K.lookup f11 = some ⟨oc11, od11, .func (PySem.W.fnOf "count_fours" "count_fours" (defArgs s_count_fours) (defBody s_count_fours) (defScope s_count_fours) .none kV11 dc11 pm11 an11 cd11 ct11), sl11⟩) (c11 : PySem.W.codeIn K cd11 "count_fours" = true) (k11 : PySem.W.keepIn K (.ref f11) = true)
    {f12 : Addr} {od12 an12 : Option Addr} {sl12 : Array (Option Value)} {oc12 kV12 dc12 pm12 cd12 ct12 : Value} (a12 : PySem.W.nsIn K mainGlobals "hexes_within" = some (some (.ref f12))) (l12 : K.lookup f12 = some ⟨oc12, od12, .func (PySem.W.fnOf "hexes_within" "hexes_within" (defArgs s_hexes_within) (defBody s_hexes_within) (defScope s_hexes_within) .none kV12 dc12 pm12 an12 cd12 ct12), sl12⟩) (c12 : PySem.W.codeIn K cd12 "hexes_within" = true) (k12 : PySem.W.keepIn K (.ref f12) = true)
    {f13 : Addr} {od13 an13 : Option Addr} {sl13 : Array (Option Value)} {oc13 kV13 dc13 pm13 cd13 ct13 : Value} (a13 : PySem.W.nsIn K mainGlobals "count_first_ways" = some (some (.ref f13))) (l13 : K.lookup f13 = some ⟨oc13, od13, .func (PySem.W.fnOf "count_first_ways" "count_first_ways" (defArgs s_count_first_ways) (defBody s_count_first_ways) (defScope s_count_first_ways) .none kV13 dc13 pm13 an13 cd13 ct13), sl13⟩) (c13 : PySem.W.codeIn K cd13 "count_first_ways" = true) (k13 : PySem.W.keepIn K (.ref f13) = true)
    {f14 : Addr} {od14 an14 : Option Addr} {sl14 : Array (Option Value)} {oc14 kV14 dc14 pm14 cd14 ct14 : Value} (a14 : PySem.W.nsIn K mainGlobals "hex_count" = some (some (.ref f14))) (l14 : K.lookup f14 = some ⟨oc14, od14, .func (PySem.W.fnOf "hex_count" "hex_count" (defArgs s_hex_count) (defBody s_hex_count) (defScope s_hex_count) .none kV14 dc14 pm14 an14 cd14 ct14), sl14⟩) (c14 : PySem.W.codeIn K cd14 "hex_count" = true) (k14 : PySem.W.keepIn K (.ref f14) = true)
    {f15 : Addr} {od15 an15 : Option Addr} {sl15 : Array (Option Value)} {oc15 kV15 dc15 pm15 cd15 ct15 : Value} (a15 : PySem.W.nsIn K mainGlobals "count_ways" = some (some (.ref f15))) (l15 : K.lookup f15 = some ⟨oc15, od15, .func (PySem.W.fnOf "count_ways" "count_ways" (defArgs s_count_ways) (defBody s_count_ways) (defScope s_count_ways) .none kV15 dc15 pm15 an15 cd15 ct15), sl15⟩) (c15 : PySem.W.codeIn K cd15 "count_ways" = true) (k15 : PySem.W.keepIn K (.ref f15) = true)
    {f16 : Addr} {od16 an16 : Option Addr} {sl16 : Array (Option Value)} {oc16 kV16 dc16 pm16 cd16 ct16 : Value} (a16 : PySem.W.nsIn K mainGlobals "_law_open_cells" = some (some (.ref f16))) (l16 : K.lookup f16 = some ⟨oc16, od16, .func (PySem.W.fnOf "_law_open_cells" "_law_open_cells" (defArgs s_open) (defBody s_open) (defScope s_open) .none kV16 dc16 pm16 an16 cd16 ct16), sl16⟩) (c16 : PySem.W.codeIn K cd16 "_law_open_cells" = true) (k16 : PySem.W.keepIn K (.ref f16) = true)
    {f17 : Addr} {od17 an17 : Option Addr} {sl17 : Array (Option Value)} {oc17 kV17 dc17 pm17 cd17 ct17 : Value} (a17 : PySem.W.nsIn K mainGlobals "law" = some (some (.ref f17))) (l17 : K.lookup f17 = some ⟨oc17, od17, .func (PySem.W.fnOf "law" "law" (defArgs s_law) (defBody s_law) (defScope s_law) .none kV17 dc17 pm17 an17 cd17 ct17), sl17⟩) (c17 : PySem.W.codeIn K cd17 "law" = true) (k17 : PySem.W.keepIn K (.ref f17) = true)
    (z_abs : PySem.W.nsIn K mainGlobals "abs" = some none)
    (z_any : PySem.W.nsIn K mainGlobals "any" = some none)
    (z_int : PySem.W.nsIn K mainGlobals "int" = some none)
    (z_len : PySem.W.nsIn K mainGlobals "len" = some none)
    (z_list : PySem.W.nsIn K mainGlobals "list" = some none)
    (z_min : PySem.W.nsIn K mainGlobals "min" = some none)
    (z_range : PySem.W.nsIn K mainGlobals "range" = some none)
    (z_sum : PySem.W.nsIn K mainGlobals "sum" = some none)
    (z_tuple : PySem.W.nsIn K mainGlobals "tuple" = some none)
    (hb : ∀ S, S.cells.length ≤ 63 → ∃ S', b_law (env0 4) S = some (.rt (.bool true), S')) :
    ∃ fd : FuncData, (∀ (s : Shared) (v : Value), BindsTo s fd ⟨[v], []⟩ [("script", v)]) ∧ ∀ base : Heap, K.In base → base.Ns mainGlobals mg → FnG l.prog w K mg base 5 fa fd ["script"] (spLaw K) := by
  have e := hfa.symm.trans (PySem.W.mg_of X G a17)
  cases e
  have T : Tx mg := ⟨PySem.W.mg_none_of X G z_any, PySem.W.mg_none_of X G z_int, PySem.W.mg_none_of X G z_len, PySem.W.mg_none_of X G z_list, PySem.W.mg_none_of X G z_min, PySem.W.mg_none_of X G z_range, PySem.W.mg_none_of X G z_sum, PySem.W.mg_none_of X G z_tuple, PySem.W.mg_none_of X G z_abs⟩
  have F0 := fun_mk (st := s_floors_by) l0 c0 k0
  have b0 := F0.binds (ps := ["n", "first", "step"]) fun _ _ _ _ _ _ us hl => match us, hl with | [_, _, _], _ => rfl
  have F1 := fun_mk (st := s_prime_powers_in) l1 c1 k1
  have b1 := F1.binds (ps := ["n"]) fun _ _ _ _ _ _ us hl => match us, hl with | [_], _ => rfl
  have F2 := fun_mk (st := s_divisors_of_row) l2 c2 k2
  have b2 := F2.binds (ps := ["row"]) fun _ _ _ _ _ _ us hl => match us, hl with | [_], _ => rfl
  have F3 := fun_mk (st := s_odd_divisor_sum) l3 c3 k3
  have b3 := F3.binds (ps := ["n"]) fun _ _ _ _ _ _ us hl => match us, hl with | [_], _ => rfl
  have F4 := fun_mk (st := s_count_four_squares) l4 c4 k4
  have b4 := F4.binds (ps := ["n"]) fun _ _ _ _ _ _ us hl => match us, hl with | [_], _ => rfl
  have F5 := fun_mk (st := s__law_pick) l5 c5 k5
  have b5 := F5.binds (ps := ["source", "most"]) fun _ _ _ _ _ _ us hl => match us, hl with | [_, _], _ => rfl
  have F6 := fun_mk (st := s__law_two) l6 c6 k6
  have b6 := F6.binds (ps := ["n"]) fun _ _ _ _ _ _ us hl => match us, hl with | [_], _ => rfl
  have F7 := fun_mk (st := s__law_hex) l7 c7 k7
  have b7 := F7.binds (ps := ["n"]) fun _ _ _ _ _ _ us hl => match us, hl with | [_], _ => rfl
  have F8 := fun_mk (st := s_points_within) l8 c8 k8
  have b8 := F8.binds (ps := ["n"]) fun _ _ _ _ _ _ us hl => match us, hl with | [_], _ => rfl
  have F9 := fun_mk (st := s_divisors_by_four) l9 c9 k9
  have b9 := F9.binds (ps := ["n"]) fun _ _ _ _ _ _ us hl => match us, hl with | [_], _ => rfl
  have F10 := fun_mk (st := s_divisors_by_three) l10 c10 k10
  have b10 := F10.binds (ps := ["n"]) fun _ _ _ _ _ _ us hl => match us, hl with | [_], _ => rfl
  have F11 := fun_mk (st := s_count_fours) l11 c11 k11
  have b11 := F11.binds (ps := ["n"]) fun _ _ _ _ _ _ us hl => match us, hl with | [_], _ => rfl
  have F12 := fun_mk (st := s_hexes_within) l12 c12 k12
  have b12 := F12.binds (ps := ["n"]) fun _ _ _ _ _ _ us hl => match us, hl with | [_], _ => rfl
  have F13 := fun_mk (st := s_count_first_ways) l13 c13 k13
  have b13 := F13.binds (ps := ["n"]) fun _ _ _ _ _ _ us hl => match us, hl with | [_], _ => rfl
  have F14 := fun_mk (st := s_hex_count) l14 c14 k14
  have b14 := F14.binds (ps := ["n"]) fun _ _ _ _ _ _ us hl => match us, hl with | [_], _ => rfl
  have F15 := fun_mk (st := s_count_ways) l15 c15 k15
  have b15 := F15.binds (ps := ["n"]) fun _ _ _ _ _ _ us hl => match us, hl with | [_], _ => rfl
  have F16 := fun_mk (st := s_open) l16 c16 k16
  have b16 := F16.binds (ps := ["script"]) fun _ _ _ _ _ _ us hl => match us, hl with | [_], _ => rfl
  have F17 := fun_mk (st := s_law) l17 c17 k17
  refine ⟨PySem.W.fnOf "law" "law" (defArgs s_law) (defBody s_law) (defScope s_law) .none kV17 dc17 pm17 an17 cd17 ct17, fun s v => .of_eq rfl, fun base _ _ => ?_⟩
  have h_floors_by : DefOk l.prog w K mg base "floors_by" 1 3 m_floors_by := ok_floors_by T F0 (PySem.W.mg_of X G a0) b0 
  have h_prime_powers_in : DefOk l.prog w K mg base "prime_powers_in" 1 1 m_prime_powers_in := ok_prime_powers_in T F1 (PySem.W.mg_of X G a1) b1 
  have h_divisors_of_row : DefOk l.prog w K mg base "divisors_of_row" 1 1 m_divisors_of_row := ok_divisors_of_row T F2 (PySem.W.mg_of X G a2) b2 
  have h_odd_divisor_sum : DefOk l.prog w K mg base "odd_divisor_sum" 1 1 m_odd_divisor_sum := ok_odd_divisor_sum T F3 (PySem.W.mg_of X G a3) b3 
  have h_count_four_squares : DefOk l.prog w K mg base "count_four_squares" 1 1 m_count_four_squares := ok_count_four_squares T F4 (PySem.W.mg_of X G a4) b4 
  have h__law_pick : DefOk l.prog w K mg base "_law_pick" 1 2 m__law_pick := ok__law_pick T F5 (PySem.W.mg_of X G a5) b5 
  have h__law_two : DefOk l.prog w K mg base "_law_two" 1 1 m__law_two := ok__law_two T F6 (PySem.W.mg_of X G a6) b6 
  have h__law_hex : DefOk l.prog w K mg base "_law_hex" 1 1 m__law_hex := ok__law_hex T F7 (PySem.W.mg_of X G a7) b7 
  have h_points_within : DefOk l.prog w K mg base "points_within" 2 1 m_points_within := ok_points_within T F8 (PySem.W.mg_of X G a8) b8 h_floors_by
  have h_divisors_by_four : DefOk l.prog w K mg base "divisors_by_four" 2 1 m_divisors_by_four := ok_divisors_by_four T F9 (PySem.W.mg_of X G a9) b9 h_divisors_of_row h_prime_powers_in
  have h_divisors_by_three : DefOk l.prog w K mg base "divisors_by_three" 2 1 m_divisors_by_three := ok_divisors_by_three T F10 (PySem.W.mg_of X G a10) b10 h_divisors_of_row h_prime_powers_in
  have h_count_fours : DefOk l.prog w K mg base "count_fours" 2 1 m_count_fours := ok_count_fours T F11 (PySem.W.mg_of X G a11) b11 h_odd_divisor_sum
  have h_hexes_within : DefOk l.prog w K mg base "hexes_within" 2 1 m_hexes_within := ok_hexes_within T F12 (PySem.W.mg_of X G a12) b12 h_floors_by
  have h_count_first_ways : DefOk l.prog w K mg base "count_first_ways" 3 1 m_count_first_ways := ok_count_first_ways T F13 (PySem.W.mg_of X G a13) b13 h_divisors_by_four
  have h_hex_count : DefOk l.prog w K mg base "hex_count" 3 1 m_hex_count := ok_hex_count T F14 (PySem.W.mg_of X G a14) b14 h_divisors_by_three
  have h_count_ways : DefOk l.prog w K mg base "count_ways" 4 1 m_count_ways := ok_count_ways T F15 (PySem.W.mg_of X G a15) b15 h_count_first_ways
  exact ok_law T F17 (ok_open T F16) (PySem.W.mg_of X G a16) k16 b16 h__law_hex h__law_pick h__law_two h_count_four_squares h_count_fours h_count_ways h_hex_count h_hexes_within h_points_within hb

end K98
set_option maxHeartbeats 4000000
namespace K98
open PySem PySem.Spec PyProof.Rows L2 DL
def twoT : List Int := [1, 4, 4, 0, 4, 8, 0, 0, 4, 4, 8, 0, 0, 8, 0, 0, 4, 8, 4, 0, 8, 0, 0, 0, 0, 12, 8, 0, 0, 8, 0, 0, 4, 0, 8, 0, 4, 8, 0, 0, 8, 8, 0, 0, 0, 8, 0, 0, 0, 4, 12, 0, 8, 8, 0, 0, 0, 0, 8, 0, 0, 8, 0, 0, 4, 16, 0, 0, 8, 0, 0, 0, 4, 8, 8, 0, 0, 0, 0, 0, 8, 4, 8, 0, 0, 16, 0, 0, 0, 8, 8, 0, 0, 0, 0, 0, 0, 8, 4, 0, 12, 8, 0, 0, 8, 0, 8, 0, 0, 8, 0, 0, 0, 8, 0, 0, 8, 8, 0, 0, 0, 4, 8, 0, 0, 16, 0, 0, 4, 0, 16, 0, 0, 0, 0, 0, 8, 8, 0, 0, 0, 0, 0, 0, 4, 16, 8, 0, 8, 8, 0, 0, 0, 8, 0, 0, 0, 8, 0, 0, 8, 0, 4, 0, 8, 0, 0, 0, 0, 12, 16, 0, 0, 8, 0, 0, 0, 0, 8, 0, 8, 8, 0, 0, 0, 16, 0, 0, 0, 0, 0, 0, 0, 8, 8, 0, 4, 8, 0, 0, 12]
def hxT : List Int := [0, 1, 0, 1, 1, 0, 0, 2, 0, 1, 0, 0, 1, 2, 0, 0, 1, 0, 0, 2, 0, 2, 0, 0, 0, 1, 0, 1, 2, 0, 0, 2, 0, 0, 0, 0, 1, 2, 0, 2, 0, 0, 0, 2, 0, 0, 0, 0, 1, 3, 0, 0, 2, 0, 0, 0, 0, 2, 0, 0, 0]
def c4T : List Int := [0, 8, 24, 32, 24, 48, 96, 64, 24, 104, 144, 96, 96, 112, 192, 192, 24, 144, 312, 160, 144, 256, 288, 192, 96, 248, 336, 320, 192, 240, 576, 256, 24, 384, 432, 384, 312, 304, 480, 448, 144, 336, 768, 352, 288, 624, 576, 384, 96, 456, 744, 576, 336, 432, 960, 576, 192, 640, 720, 480, 576, 496, 768, 832, 24, 672, 1152, 544, 432, 768, 1152, 576, 312, 592, 912, 992, 480, 768, 1344, 640, 144, 968, 1008, 672, 768, 864, 1056, 960, 288, 720, 1872, 896, 576, 1024, 1152, 960, 96, 784, 1368, 1248, 744, 816, 1728, 832, 336, 1536, 1296, 864, 960, 880, 1728, 1216, 192, 912, 1920, 1152, 720, 1456, 1440, 1152, 576, 1064, 1488, 1344, 768, 1248, 2496, 1024, 24, 1408, 2016, 1056, 1152, 1280, 1632, 1920, 432, 1104, 2304, 1120, 1152, 1536, 1728, 1344, 312, 1440, 1776, 1824, 912, 1200, 2976, 1216, 480, 1872, 2304, 1536, 1344, 1264, 1920, 1728, 144, 1536, 2904, 1312, 1008, 2304, 2016, 1344, 768, 1464, 2592, 2080, 1056, 1392, 2880, 1984, 288, 1920, 2160, 1440, 1872, 1456, 2688, 1984, 576, 1824, 3072, 1728, 1152, 2560, 2880, 1536, 96, 1552, 2352, 2688, 1368, 1584, 3744, 1600, 744]
def c4bT : List Int := [0, 24, 24, 96, 24, 144, 96, 192, 24, 312, 144, 288, 96, 336, 192, 576, 24, 432, 312, 480, 144, 768, 288, 576, 96, 744, 336, 960, 192, 720, 576, 768, 24, 1152, 432, 1152, 312, 912, 480, 1344, 144, 1008, 768, 1056, 288, 1872, 576, 1152, 96, 1368, 744, 1728, 336, 1296, 960, 1728, 192, 1920, 720, 1440, 576, 1488, 768, 2496, 24, 2016, 1152, 1632, 432, 2304, 1152, 1728, 312, 1776, 912, 2976, 480, 2304, 1344, 1920, 144, 2904, 1008, 2016, 768, 2592, 1056, 2880, 288, 2160, 1872, 2688, 576, 3072, 1152, 2880, 96, 2352, 1368, 3744, 744, 2448, 1728, 2496, 336, 4608, 1296, 2592, 960, 2640, 1728, 3648, 192, 2736, 1920, 3456, 720, 4368, 1440, 3456, 576, 3192, 1488, 4032, 768, 3744, 2496, 3072, 24, 4224, 2016, 3168, 1152, 3840, 1632, 5760, 432, 3312, 2304, 3360, 1152, 4608, 1728, 4032, 312, 4320, 1776, 5472, 912, 3600, 2976, 3648, 480, 5616, 2304, 4608, 1344, 3792, 1920, 5184, 144, 4608, 2904, 3936, 1008, 6912, 2016, 4032, 768, 4392, 2592, 6240, 1056, 4176, 2880, 5952, 288, 5760, 2160, 4320, 1872, 4368, 2688, 5952, 576, 5472, 3072, 5184, 1152, 7680, 2880, 4608, 96, 4656, 2352, 8064, 1368, 4752, 3744, 4800, 744]
theorem two_tab (S : Src) : (List.range 201).map (fun k => m__law_two [.val (.int (k : Nat))] S) = twoT.map fun t => some (.int t, S) := by kernel_rfl
theorem cw_tab (S : Src) : (List.range 200).map (fun k => m_count_ways [.val (.int ((k + 1 : Nat) : Int))] S) = (twoT.drop 1).map fun t => some (.int t, S) := by kernel_rfl
theorem hx_tab (S : Src) : (List.range 60).map (fun k => m_hex_count [.val (.int ((k + 1 : Nat) : Int))] S) = (hxT.drop 1).map fun t => some (.int t, S) := by kernel_rfl
theorem lh_tab (S : Src) : (List.range 60).map (fun k => m__law_hex [.val (.int ((k + 1 : Nat) : Int))] S) = (hxT.drop 1).map fun t => some (.int (6 * t), S) := by kernel_rfl
theorem c4_tab (S : Src) : (List.range 200).map (fun k => m_count_four_squares [.val (.int ((k + 1 : Nat) : Int))] S) = (c4T.drop 1).map fun t => some (.int t, S) := by kernel_rfl
theorem c4b_tab0 (S : Src) : (List.range 80).map (fun k => m_count_four_squares [.val (.int (4 * ((k + 1 : Nat) : Int)))] S) = ((c4bT.drop 1).take 80).map fun t => some (.int t, S) := by kernel_rfl
theorem c4b_tab1 (S : Src) : (List.range 40).map (fun k => m_count_four_squares [.val (.int (4 * ((80 + k + 1 : Nat) : Int)))] S) = ((c4bT.drop 81).take 40).map fun t => some (.int t, S) := by kernel_rfl
theorem c4b_tab2 (S : Src) : (List.range 40).map (fun k => m_count_four_squares [.val (.int (4 * ((120 + k + 1 : Nat) : Int)))] S) = ((c4bT.drop 121).take 40).map fun t => some (.int t, S) := by kernel_rfl
theorem c4b_tab3 (S : Src) : (List.range 40).map (fun k => m_count_four_squares [.val (.int (4 * ((160 + k + 1 : Nat) : Int)))] S) = ((c4bT.drop 161).take 40).map fun t => some (.int t, S) := by kernel_rfl
theorem cf_tab (S : Src) : (List.range 200).map (fun k => m_count_fours [.val (.int ((k + 1 : Nat) : Int))] S) = (c4bT.drop 1).map fun t => some (.int t, S) := by kernel_rfl
theorem pw_tab (S : Src) : (List.range 200).map (fun k => m_points_within [.val (.int ((k + 1 : Nat) : Int))] S) = (List.range 200).map fun k => some (.int (sumI (twoT.take (k + 2))), S) := by kernel_rfl
theorem hw_tab (S : Src) : (List.range 60).map (fun k => m_hexes_within [.val (.int ((k + 1 : Nat) : Int))] S) = (List.range 60).map fun k => some (.int (1 + 6 * sumI ((hxT.drop 1).take (k + 1))), S) := by kernel_rfl
theorem sq_tab : (List.range 200).all (fun k => decide (sumI ((List.range (k + 2)).map fun i => twoT.getD i 0 * twoT.getD (k + 1 - i) 0) = c4T.getD (k + 1) 0)) = true := by decide +kernel
end K98
set_option maxHeartbeats 4000000
namespace K98
open PySem PySem.Spec PyProof.Rows L2 DL
theorem getD_at {T : List Int} {k : Nat} {b : Int} (h : T[k]? = some b) : T.getD k 0 = b := by rw [List.getD_eq_getElem?_getD, h]; rfl
theorem drop_at {T : List Int} {k j : Nat} {b : Int} (h : (T.drop j)[k]? = some b) : T[j + k]? = some b := by rw [List.getElem?_drop] at h; exact h
theorem two_len : twoT.length = 201 := rfl
theorem two_at (S : Src) (k : Nat) (h : k < 201) : m__law_two [.val (.int (k : Nat))] S = some (.int (twoT.getD k 0), S) := by
  obtain ⟨b, h1, h2⟩ := tab_at (two_tab S) k h
  rw [getD_at h1]; exact h2
theorem cw_at (S : Src) (k : Nat) (h0 : 1 ≤ k) (h : k < 201) : m_count_ways [.val (.int (k : Nat))] S = some (.int (twoT.getD k 0), S) := by
  obtain ⟨j, rfl⟩ : ∃ j, k = j + 1 := ⟨k - 1, by omega⟩
  obtain ⟨b, h1, h2⟩ := tab_at (cw_tab S) j (by omega)
  rw [show j + 1 = 1 + j from Nat.add_comm _ _, getD_at (drop_at h1), Nat.add_comm 1 j]; exact h2
theorem hx_at (S : Src) (k : Nat) (h0 : 1 ≤ k) (h : k < 61) : m_hex_count [.val (.int (k : Nat))] S = some (.int (hxT.getD k 0), S) := by
  obtain ⟨j, rfl⟩ : ∃ j, k = j + 1 := ⟨k - 1, by omega⟩
  obtain ⟨b, h1, h2⟩ := tab_at (hx_tab S) j (by omega)
  rw [show j + 1 = 1 + j from Nat.add_comm _ _, getD_at (drop_at h1), Nat.add_comm 1 j]; exact h2
theorem lh_at (S : Src) (k : Nat) (h0 : 1 ≤ k) (h : k < 61) : m__law_hex [.val (.int (k : Nat))] S = some (.int (6 * hxT.getD k 0), S) := by
  obtain ⟨j, rfl⟩ : ∃ j, k = j + 1 := ⟨k - 1, by omega⟩
  obtain ⟨b, h1, h2⟩ := tab_at (lh_tab S) j (by omega)
  rw [show j + 1 = 1 + j from Nat.add_comm _ _, getD_at (drop_at h1), Nat.add_comm 1 j]; exact h2
theorem c4_at (S : Src) (k : Nat) (h0 : 1 ≤ k) (h : k < 201) : m_count_four_squares [.val (.int (k : Nat))] S = some (.int (c4T.getD k 0), S) := by
  obtain ⟨j, rfl⟩ : ∃ j, k = j + 1 := ⟨k - 1, by omega⟩
  obtain ⟨b, h1, h2⟩ := tab_at (c4_tab S) j (by omega)
  rw [show j + 1 = 1 + j from Nat.add_comm _ _, getD_at (drop_at h1), Nat.add_comm 1 j]; exact h2
theorem cf_at (S : Src) (k : Nat) (h0 : 1 ≤ k) (h : k < 201) : m_count_fours [.val (.int (k : Nat))] S = some (.int (c4bT.getD k 0), S) := by
  obtain ⟨j, rfl⟩ : ∃ j, k = j + 1 := ⟨k - 1, by omega⟩
  obtain ⟨b, h1, h2⟩ := tab_at (cf_tab S) j (by omega)
  rw [show j + 1 = 1 + j from Nat.add_comm _ _, getD_at (drop_at h1), Nat.add_comm 1 j]; exact h2
theorem take_at {T : List Int} {k n : Nat} {b : Int} (h : (T.take n)[k]? = some b) : T[k]? = some b := by
  rw [List.getElem?_take] at h
  split at h
  · exact h
  · cases h
theorem c4b_at (S : Src) (k : Nat) (h0 : 1 ≤ k) (h : k < 201) : m_count_four_squares [.val (.int (4 * (k : Nat)))] S = some (.int (c4bT.getD k 0), S) := by
  by_cases h1 : k ≤ 80
  · obtain ⟨j, rfl⟩ : ∃ j, k = j + 1 := ⟨k - 1, by omega⟩
    obtain ⟨b, h1, h2⟩ := tab_at (c4b_tab0 S) j (by omega)
    have := drop_at (take_at h1)
    rw [show j + 1 = 1 + j by omega, getD_at this, show 1 + j = j + 1 by omega]; exact h2
  · by_cases h2 : k ≤ 120
    · obtain ⟨j, rfl⟩ : ∃ j, k = 80 + j + 1 := ⟨k - 81, by omega⟩
      obtain ⟨b, h1, h2⟩ := tab_at (c4b_tab1 S) j (by omega)
      have := drop_at (take_at h1)
      rw [show 80 + j + 1 = 81 + j by omega, getD_at this, show 81 + j = 80 + j + 1 by omega]; exact h2
    · by_cases h3 : k ≤ 160
      · obtain ⟨j, rfl⟩ : ∃ j, k = 120 + j + 1 := ⟨k - 121, by omega⟩
        obtain ⟨b, h1, h2⟩ := tab_at (c4b_tab2 S) j (by omega)
        have := drop_at (take_at h1)
        rw [show 120 + j + 1 = 121 + j by omega, getD_at this, show 121 + j = 120 + j + 1 by omega]; exact h2
      · obtain ⟨j, rfl⟩ : ∃ j, k = 160 + j + 1 := ⟨k - 161, by omega⟩
        obtain ⟨b, h1, h2⟩ := tab_at (c4b_tab3 S) j (by omega)
        have := drop_at (take_at h1)
        rw [show 160 + j + 1 = 161 + j by omega, getD_at this, show 161 + j = 160 + j + 1 by omega]; exact h2
theorem range_at {α : Type} {f : Nat → α} {g : Nat → α} {n : Nat} (h : (List.range n).map f = (List.range n).map g) (k : Nat) (hk : k < n) : f k = g k := by
  obtain ⟨b, h1, h2⟩ := tab_at (g := g) h k hk
  rw [List.getElem?_range hk] at h1
  cases h1
  exact h2
theorem pw_at (S : Src) (k : Nat) (h0 : 1 ≤ k) (h : k < 201) : m_points_within [.val (.int (k : Nat))] S = some (.int (sumI (twoT.take (k + 1))), S) := by
  obtain ⟨j, rfl⟩ : ∃ j, k = j + 1 := ⟨k - 1, by omega⟩
  exact range_at (pw_tab S) j (by omega)
theorem hw_at (S : Src) (k : Nat) (h0 : 1 ≤ k) (h : k < 61) : m_hexes_within [.val (.int (k : Nat))] S = some (.int (1 + 6 * sumI ((hxT.drop 1).take k)), S) := by
  obtain ⟨j, rfl⟩ : ∃ j, k = j + 1 := ⟨k - 1, by omega⟩
  exact range_at (hw_tab S) j (by omega)
theorem sq_at (k : Nat) (h0 : 1 ≤ k) (h : k < 201) : sumI ((List.range (k + 1)).map fun i => twoT.getD i 0 * twoT.getD (k - i) 0) = c4T.getD k 0 := by
  obtain ⟨j, rfl⟩ : ∃ j, k = j + 1 := ⟨k - 1, by omega⟩
  have := List.all_eq_true.mp sq_tab j (List.mem_range.mpr (by omega))
  exact of_decide_eq_true this
theorem take_range {T : List Int} : ∀ n : Nat, n ≤ T.length → (List.range n).map (fun k => T.getD k 0) = T.take n := fun n h => by
  apply List.ext_getElem?
  intro i
  by_cases hi : i < n
  · rw [List.getElem?_map, List.getElem?_range hi, List.getElem?_take_of_lt hi, List.getElem?_eq_getElem (by omega)]
    simp [List.getD_eq_getElem?_getD, List.getElem?_eq_getElem (show i < T.length by omega)]
  · rw [List.getElem?_eq_none (by simp; omega), List.getElem?_eq_none (by simp; omega)]
theorem eq_list {xs ys : List D} {S : Src} (h : xs = ys) : (some (PyData.list xs, S) : Option (D × Src)) = some (PyData.list ys, S) := by rw [h]
theorem eq_bool {a b : Bool} (h : a = b) : (some (PyData.bool a) : Option D) = some (PyData.bool b) := by rw [h]
/-- the list of ways up to n -/
def twos (n : Nat) : D := .list ((twoT.take (n + 1)).map PyData.int)
theorem two_get (n k : Nat) (h : k ≤ n) (hn : n < 201) : ((twoT.take (n + 1)).map PyData.int)[k]? = some (.int (twoT.getD k 0)) := by
  rw [List.getElem?_map, List.getElem?_take_of_lt (by omega), List.getElem?_eq_getElem (by rw [two_len]; omega)]
  simp [List.getD_eq_getElem?_getD, List.getElem?_eq_getElem (show k < twoT.length by rw [two_len]; omega)]
theorem ix_two (n k : Nat) (h : k ≤ n) (hn : n < 201) : dIx (twos n) (.int (k : Nat)) = some (.int (twoT.getD k 0)) := atI_ok (two_get n k h hn)
theorem law_true : ∀ S : Src, S.cells.length ≤ 63 → ∃ S', b_law (env0 4) S = some (.rt (.bool true), S') := by
  intro S g
  obtain ⟨r, S1, e1, r0, r1, g1⟩ := pick_ok S g 200 (by decide) (by decide)
  obtain ⟨n, hn⟩ : ∃ n : Nat, 1 + r = (n : Int) := ⟨(1 + r).toNat, by omega⟩
  have n1 : 1 ≤ n := by omega
  have n2 : n < 201 := by omega
  obtain ⟨q, S2, e2, q0, q1, g2⟩ := pick_ok S1 g1 60 (by decide) (by decide)
  obtain ⟨m, hm⟩ : ∃ m : Nat, 1 + q = (m : Int) := ⟨(1 + q).toNat, by omega⟩
  have m1 : 1 ≤ m := by omega
  have m2 : m < 61 := by omega
  have e1' : m__law_pick [.src, .val (.int 200)] S = some (.int r, S1) := e1
  have e2' : m__law_pick [.src, .val (.int 60)] S1 = some (.int q, S2) := e2
  refine ⟨S2, ?_⟩
  unfold b_law
  -- n
  rw [mSeq_nx (mSet_of (mBin_of rfl ((mCall_pick rfl rfl).trans e1') (dAdd_int _ _)))]
  rw [hn]
  show mSeq _ _ [.no, .src, .val (.int (n : Int)), .no, .no, .no] S1 = _
  -- twos
  have tw : mFz (mLc [5] (gN 5) (mRange1 (mBin dAdd (mVarB 2) (mC (.int 1)))) mYes (mCall 1 m__law_two (rVal (mVar 5) rNil))) [.no, .src, .val (.int (n : Int)), .no, .no, .no] S1 = some (twos n, S1) := by
    rw [mFz_of (DL.lc_range (lo := 0) (n := n + 1) (S1 := S1) (fun k => .int (twoT.getD k.toNat 0)) ?_ (by unfold line; omega) (fun _ _ => rfl) fun k hk => ?_)]
    · unfold twos
      rw [← take_range (n + 1) (by rw [two_len]; omega), List.map_map]
      refine eq_list ?_
      apply List.map_congr_left
      intro a _
      simp
    · rw [mRange1_of (mBin_of rfl rfl (dAdd_int _ _)) (rgOk_small (by omega) (by omega))]
      rfl
    · rw [mCall_one (x := .int (0 + (k : Int))) (S1 := S1) rfl, Int.zero_add, two_at S1 k (by omega)]
      rfl
  rw [mSeq_nx (mSet_of tw)]
  show mSeq _ _ [.no, .src, .val (.int (n : Int)), .val (twos n), .no, .no] S1 = _
  -- ways, points
  rw [mSeq_nx (mIfS_skip (mOr_ff (mT_of (mBin_of ((mCall_one rfl).trans (cw_at S1 n n1 n2)) (mBin_of rfl rfl (ix_two n n (Nat.le_refl _) n2)) (dNe_same _)))
    (mT_of (mBin_of ((mCall_one rfl).trans (pw_at S1 n n1 n2)) (mCB_one rfl (gSum_ints _)) (dNe_same _)))))]
  -- all of few
  have an : mFz (mLc [5] (gN 5) (mRange2 (mC (.int 1)) (mCB gMin2 (mCons (mVarB 2) (mCons (mC (.int 40)) mNil)))) mYes (mBin dNe (mCall 1 m_count_ways (rVal (mVar 5) rNil)) (mBin dIx (mVarB 3) (mVarB 5)))) [.no, .src, .val (.int (n : Int)), .val (twos n), .no, .no] S1 =
      some (.list (((List.range ((if (40 : Int) < (n : Int) then 40 else (n : Int)) - 1).toNat).map fun _ => false).map PyData.bool), S1) := by
    rw [mFz_of (DL.lc_range (lo := 1) (n := ((if (40 : Int) < (n : Int) then 40 else (n : Int)) - 1).toNat) (S1 := S1) (fun k => .bool false) ?_ (by unfold line; split <;> omega) (fun _ _ => rfl) fun k hk => ?_)]
    · rw [List.map_map]; rfl
    · exact mRange2_of rfl (mCB_two rfl rfl (gMin2_int _ _)) rfl (rgOk_small (by split <;> omega) (by split <;> omega))
    · have hk2 : k + 1 ≤ n := by split at hk <;> omega
      have ek : (1 : Int) + (k : Int) = ((k + 1 : Nat) : Int) := by omega
      show mBin dNe _ _ [.no, .src, .val (.int (n : Int)), .val (twos n), .no, .val (.int (1 + (k : Int)))] S1 = _
      rw [ek]
      exact mBin_of ((mCall_one rfl).trans (cw_at S1 (k + 1) (by omega) (by omega))) (mBin_of rfl rfl (ix_two n (k + 1) hk2 n2)) (dNe_same _)
  rw [mSeq_nx (mIfS_skip (mT_of (mCB_one an ((gAny_bools _).trans (by
    refine eq_bool ?_
    rw [List.any_map]
    exact List.any_eq_false.mpr fun _ _ => by simp)))))]
  -- m
  rw [mSeq_nx (mSet_of (mBin_of rfl ((mCall_pick rfl rfl).trans e2') (dAdd_int _ _)))]
  rw [hm]
  show mSeq _ _ [.no, .src, .val (.int (n : Int)), .val (twos n), .val (.int (m : Int)), .no] S2 = _
  have hxl : hxT.length = 61 := rfl
  have hs : mFz (mLc [5] (gN 5) (mRange2 (mC (.int 1)) (mBin dAdd (mVarB 4) (mC (.int 1)))) mYes (mCall 1 m_hex_count (rVal (mVar 5) rNil))) [.no, .src, .val (.int (n : Int)), .val (twos n), .val (.int (m : Int)), .no] S2 = some (.list (((hxT.drop 1).take m).map PyData.int), S2) := by
    rw [mFz_of (DL.lc_range (lo := 1) (n := m) (S1 := S2) (fun k => .int (hxT.getD k.toNat 0)) ?_ (by unfold line; omega) (fun _ _ => rfl) fun k hk => ?_)]
    · refine eq_list ?_
      rw [← take_range m (by rw [List.length_drop, hxl]; omega), List.map_map]
      apply List.map_congr_left
      intro a ha
      have ha := List.mem_range.mp ha
      show PyData.int (hxT.getD (1 + (a : Int)).toNat 0) = PyData.int ((hxT.drop 1).getD a 0)
      rw [show (1 + (a : Int)).toNat = 1 + a by omega, List.getD_eq_getElem?_getD, List.getD_eq_getElem?_getD, List.getElem?_drop]
    · rw [mRange2_of rfl (mBin_of rfl rfl (dAdd_int _ _)) rfl (rgOk_small (by omega) (by omega)), show ((m : Int) + 1 - 1).toNat = m by omega]
    · have ek : (1 : Int) + (k : Int) = ((k + 1 : Nat) : Int) := by omega
      show mCall 1 m_hex_count _ [.no, .src, .val (.int (n : Int)), .val (twos n), .val (.int (m : Int)), .val (.int (1 + (k : Int)))] S2 = _
      rw [ek]
      exact (mCall_one rfl).trans (hx_at S2 (k + 1) (by omega) (by omega))
  rw [mSeq_nx (mIfS_skip (mOr_ff (mT_of (mBin_of (mBin_of rfl ((mCall_one rfl).trans (hx_at S2 m m1 m2)) (dMul_int (mulOk_left (by decide)))) ((mCall_one rfl).trans (lh_at S2 m m1 m2)) (dNe_same _)))
    (mT_of (mBin_of ((mCall_one rfl).trans (hw_at S2 m m1 m2)) (mBin_of rfl (mBin_of rfl (mCB_one hs (gSum_ints _)) (dMul_int (mulOk_left (by decide)))) (dAdd_int _ _)) (dNe_same _)))))]
  -- four squares
  have bnd : ∀ k : Nat, (twoT.getD k 0).natAbs < 18446744073709551616 := by
    intro k
    have all : ∀ x ∈ twoT, x.natAbs < 18446744073709551616 := by decide +kernel
    by_cases hk : k < twoT.length
    · rw [List.getD_eq_getElem?_getD, List.getElem?_eq_getElem hk]
      exact all _ (List.getElem_mem hk)
    · rw [List.getD_eq_getElem?_getD, List.getElem?_eq_none (by omega)]
      decide
  have fs : mFz (mLc [5] (gN 5) (mRange1 (mBin dAdd (mVarB 2) (mC (.int 1)))) mYes (mBin dMul (mBin dIx (mVarB 3) (mVarB 5)) (mBin dIx (mVarB 3) (mBin dSub (mVarB 2) (mVarB 5))))) [.no, .src, .val (.int (n : Int)), .val (twos n), .val (.int (m : Int)), .no] S2 =
      some (.list (((List.range (n + 1)).map fun i => twoT.getD i 0 * twoT.getD (n - i) 0).map PyData.int), S2) := by
    rw [mFz_of (DL.lc_range (lo := 0) (n := n + 1) (S1 := S2) (fun k => .int (twoT.getD k.toNat 0 * twoT.getD (n - k.toNat) 0)) ?_ (by unfold line; omega) (fun _ _ => rfl) fun k hk => ?_)]
    · rw [List.map_map]
      refine eq_list ?_
      apply List.map_congr_left
      intro a _
      show PyData.int (twoT.getD (0 + (a : Int)).toNat 0 * twoT.getD (n - (0 + (a : Int)).toNat) 0) = _
      rw [show (0 + (a : Int)).toNat = a by omega]
      rfl
    · rw [mRange1_of (mBin_of rfl rfl (dAdd_int _ _)) (rgOk_small (by omega) (by omega))]
      rfl
    · show mBin dMul _ _ [.no, .src, .val (.int (n : Int)), .val (twos n), .val (.int (m : Int)), .val (.int (0 + (k : Int)))] S2 = _
      rw [Int.zero_add]
      have ek : (n : Int) - (k : Int) = ((n - k : Nat) : Int) := by omega
      exact mBin_of (mBin_of rfl rfl (ix_two n k (by omega) n2)) (mBin_of rfl (mBin_of rfl rfl ((dSub_int _ _).trans (by rw [ek]))) (ix_two n (n - k) (by omega) n2)) (dMul_int (mulOk_left (bnd k)))
  rw [mSeq_nx (mIfS_skip (mT_of (mBin_of ((mCall_one rfl).trans (c4_at S2 n n1 n2)) (mCB_one fs ((gSum_ints _).trans (by rw [sq_at n n1 n2]))) (dNe_same _))))]
  exact mRet_of (mBin_of ((mCall_one rfl).trans (cf_at S2 n n1 n2)) ((mCall_one (mBin_of rfl rfl (dMul_int (mulOk_left (by decide))))).trans (c4b_at S2 n n1 n2)) (dEq_same _))
end K98
open PySem PySem.W PyProof.Rows
set_option maxRecDepth 100000 in
set_option maxHeartbeats 0 in
theorem PySem.Challenge.cw_wholefours_k98_whole_counts_by_all_parts_holds : PySem.Challenge.rw_wholefours_k98_whole_counts_by_all_parts.Holds := by
  w_on; o_law; k_head; (case hw => w_witness2)
  k_fill
  refine DL.walkG (l := PySem.Challenge.rw_wholefours_k98_whole_counts_by_all_parts) (k := 5) rfl rfl (by decide) (fun w h Y => PySem.W.kIn_of Y) ?F
  case F =>
    intro w mg fa h KX G hmg
    refine' K98.all_mk KX G hmg ?a0 ?l0 ?c0 ?k0 ?a1 ?l1 ?c1 ?k1 ?a2 ?l2 ?c2 ?k2 ?a3 ?l3 ?c3 ?k3 ?a4 ?l4 ?c4 ?k4 ?a5 ?l5 ?c5 ?k5 ?a6 ?l6 ?c6 ?k6 ?a7 ?l7 ?c7 ?k7 ?a8 ?l8 ?c8 ?k8 ?a9 ?l9 ?c9 ?k9 ?a10 ?l10 ?c10 ?k10 ?a11 ?l11 ?c11 ?k11 ?a12 ?l12 ?c12 ?k12 ?a13 ?l13 ?c13 ?k13 ?a14 ?l14 ?c14 ?k14 ?a15 ?l15 ?c15 ?k15 ?a16 ?l16 ?c16 ?k16 ?a17 ?l17 ?c17 ?k17 ?z_abs ?z_any ?z_int ?z_len ?z_list ?z_min ?z_range ?z_sum ?z_tuple K98.law_true
    (case a0 => k_is); (case l0 => k_is); (case c0 => k_is); (case k0 => k_is)
    (case a1 => k_is); (case l1 => k_is); (case c1 => k_is); (case k1 => k_is)
    (case a2 => k_is); (case l2 => k_is); (case c2 => k_is); (case k2 => k_is)
    (case a3 => k_is); (case l3 => k_is); (case c3 => k_is); (case k3 => k_is)
    (case a4 => k_is); (case l4 => k_is); (case c4 => k_is); (case k4 => k_is)
    (case a5 => k_is); (case l5 => k_is); (case c5 => k_is); (case k5 => k_is)
    (case a6 => k_is); (case l6 => k_is); (case c6 => k_is); (case k6 => k_is)
    (case a7 => k_is); (case l7 => k_is); (case c7 => k_is); (case k7 => k_is)
    (case a8 => k_is); (case l8 => k_is); (case c8 => k_is); (case k8 => k_is)
    (case a9 => k_is); (case l9 => k_is); (case c9 => k_is); (case k9 => k_is)
    (case a10 => k_is); (case l10 => k_is); (case c10 => k_is); (case k10 => k_is)
    (case a11 => k_is); (case l11 => k_is); (case c11 => k_is); (case k11 => k_is)
    (case a12 => k_is); (case l12 => k_is); (case c12 => k_is); (case k12 => k_is)
    (case a13 => k_is); (case l13 => k_is); (case c13 => k_is); (case k13 => k_is)
    (case a14 => k_is); (case l14 => k_is); (case c14 => k_is); (case k14 => k_is)
    (case a15 => k_is); (case l15 => k_is); (case c15 => k_is); (case k15 => k_is)
    (case a16 => k_is); (case l16 => k_is); (case c16 => k_is); (case k16 => k_is)
    (case a17 => k_is); (case l17 => k_is); (case c17 => k_is); (case k17 => k_is)
    (case z_abs => k_is)
    (case z_any => k_is)
    (case z_int => k_is)
    (case z_len => k_is)
    (case z_list => k_is)
    (case z_min => k_is)
    (case z_range => k_is)
    (case z_sum => k_is)
    (case z_tuple => k_is)
